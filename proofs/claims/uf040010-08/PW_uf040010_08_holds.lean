import PyProof.Rows.All
import OpenK.KMake
import OpenK.KWalk
import OpenK.KMore
import OpenK.KOwn
import KE.KDictSum
import KE.KDictList
import KE.KItem
import KE.KLam
import KE.KSortKey
import KE.KNestM
import PySem.Challenge.RW_uf040010_08
set_option Elab.async false
set_option linter.unusedVariables false
set_option linter.unusedSimpArgs false
set_option linter.unusedSectionVars false
set_option maxRecDepth 100000
set_option compiler.extract_closed false
set_option hygiene false
set_option genSizeOf false
set_option genSizeOfSpec false
set_option bootstrap.genMatcherCode false
set_option genInjectivity false

section
open PySem PyProof.Rows PySem.Calls
namespace Mine.Sw
theorem slot_sit_next:Slot "set_iterator" "__next__" "set_iterator.__next__" :=
  .of (owner := "set_iterator") (n := "__next__") (by rw [typeLookup_type,builtinLookup_eq_fast];kernel_rfl) (by decide +kernel) (by decide +kernel) (by decide +kernel)
    (by first | exact .inl (by decide +kernel) | exact .inr (by decide +kernel)) (by rw [isSubtype_type];kernel_rfl)
theorem entry_sit_next:entryFor table "set_iterator.__next__" = some Builtin.«set_iterator.__next__»:=entryFor_of_tree (by kernel_rfl)
theorem owner_sit:Manifest.owners.lookup (String.ofList ['r','o','t','a','r','e','t','i','_','t','e','s'].reverse) = some Manifest.sig_set_iterator:=by kernel_rfl
theorem args_sit_next (a:Value):argsOk "set_iterator.__next__" ⟨[a],[]⟩:=by
  unfold argsOk;rw [signature?_of (id := "set_iterator.__next__") (n:=['_','_','t','x','e','n','_','_']) (o:=['r','o','t','a','r','e','t','i','_','t','e','s']) (by kernel_rfl) owner_sit];kernel_rfl
theorem entry_set_iter:entryFor table "set.__iter__" = some Builtin.«frozenset.__iter__» :=
  entryFor_alias (id' := "frozenset.__iter__") (by kernel_rfl) rfl (by decide +kernel) (by kernel_rfl)
structure SetAt (h:Heap) (a:Addr) (es:Array (Int×Value)) (ep:Nat) (t:SetTable):Prop where
  at_:h.get? a = some { cls:=.type "set",dict:=none,data:=.set es ep t,slots:=#[] }
  fits:t.fits es.size = true
section
variable {prog:Program} {w:World} {A:Around} {E:Value→Shared→Prop} {s:Shared} {a:Addr} {es:Array (Int×Value)} {ep:Nat} {t:SetTable}
theorem SetAt.type (x:SetAt s.heap a es ep t):s.TypeIs (.ref a) "set" := ⟨_,x.at_,rfl⟩
theorem byText {Q:Bool→Shared→Prop} (h:Q (w.params.followText "set-order") s):wpAny (model prog w) A setsByText Q E s:=by
  unfold setsByText
  exact wpAny_bind (wpAny_askSetting (wpAny_pure h))
theorem choose_any {src:Source} {n:Nat} {Q:Nat→Shared→Prop} (hn:n≠0) (h:∀ i d,i < n→Q i { s with drawn:=d }):wpAny (model prog w) A (choose src n) Q E s:=fun _ _ _=>⟨hn,h _ _ (Nat.mod_lt _ (Nat.pos_of_ne_zero hn))⟩
theorem erase_perm {α:Type} {l:List α} {i:Nat} (hi:i < l.length):(l[i] :: l.eraseIdx i).Perm l:=by
  have e:l = l.take i++l[i] :: l.drop (i + 1):=by rw [List.getElem_cons_drop,List.take_append_drop]
  rw [List.eraseIdx_eq_take_drop_succ]
  refine List.perm_middle.symm.trans ?_
  rw [← e]
theorem draw_any {α:Type}:∀ (n:Nat) (xs:List α),xs.length = n→∀ {s:Shared} {Q:List α→Shared→Prop},(∀ ys d,ys.Perm xs→Q ys { s with drawn:=d })→wpAny (model prog w) A (drawOrder n xs) Q E s:=by
  intro n
  induction n with
  | zero=>intro xs hx s Q h;exact wpAny_pure (h [] s.drawn (by rw [List.length_eq_zero_iff.1 hx]))
  | succ n ih =>
    intro xs hx s Q h
    cases xs with
    | nil=>cases hx
    | cons x r =>
    unfold drawOrder
    refine wpAny_bind (choose_any (by simp) fun i d hi=>?_)
    have hg:(x :: r)[i]? = some (x :: r)[i]:=List.getElem?_eq_getElem hi
    rw [hg]
    dsimp only
    refine wpAny_bind (ih ((x :: r).eraseIdx i) (by rw [List.length_eraseIdx_of_lt hi];exact Nat.succ_sub_one n ▸ congrArg (· - 1) hx) fun ys d' hp=>wpAny_pure (h _ d' ?_))
    exact (List.Perm.cons _ hp).trans (erase_perm hi)
theorem pick_perm {α:Type} (next:Nat→Nat):∀ (n k:Nat) (left:List α) (out:Array α),left.length = n→(pickOrder.go next n k left out).toList.Perm (out.toList++left):=by
  intro n
  induction n with
  | zero=>intro k left out hl;rw [List.length_eq_zero_iff.1 hl,List.append_nil];exact List.Perm.refl _
  | succ n ih =>
    intro k left out hl
    have hi:next k % left.length < left.length:=Nat.mod_lt _ (by rw [hl];exact Nat.succ_pos n)
    unfold pickOrder.go
    rw [List.getElem?_eq_getElem hi]
    dsimp only
    refine (ih (k + 1) _ _ (by rw [List.length_eraseIdx_of_lt hi,hl];rfl)).trans ?_
    rw [Array.toList_push,List.append_assoc]
    exact List.Perm.append_left _ (erase_perm hi)
theorem pickOrder_perm {α:Type} (next:Nat→Nat) (xs:Array α):(pickOrder next xs).toList.Perm xs.toList:=pick_perm next xs.size 0 xs.toList #[] (Array.length_toList ..)
end
end Mine.Sw
end

section
open PySem PyProof.Rows PySem.Calls
namespace Mine.Sw
section
variable {prog:Program} {w:World} {A:Around} {E:Value→Shared→Prop} {s:Shared} {a I tp:Addr} {es:Array (Int×Value)} {ep:Nat} {t:SetTable} {ord:List Value}
structure SetOk (w:World) (es:Array (Int×Value)) (t:SetTable):Prop where
  led:w.params.followText "set-order" = false→t.led = true
  plain:w.params.followText "set-order" = false→t.plain = false∨es.size≤1
  size:es.size≤sizeLine
noncomputable def itObj (first:Value) (a:Addr) (i n ep:Nat):Obj:={ cls:=.type "set_iterator",data:=.fields #[first, .int i 0, .ref a, .int n 0, .int ep 0] }
inductive Itr (w:World) (h:Heap) (I a tp:Addr) (es:Array (Int×Value)) (ep:Nat) (t:SetTable) (i:Nat):List Value→Prop where
  | text:w.params.followText "set-order" = true→h.get? I = some (itObj (.int 0 0) a i es.size ep)→Itr w h I a tp es ep t i ((pickOrder (w.params.setOrder a ep) es).toList.map (·.2))
  | drawn (ps:List Nat):w.params.followText "set-order" = false→ps.Perm (List.range es.size)→h.get? tp = some { cls:=.type "tuple",data:=.seq (ps.map fun (j:Nat)=>Value.int j 0).toArray } →
      h.get? I = some (itObj (.ref tp) a i es.size ep)→Itr w h I a tp es ep t i (ps.map fun j=>(es.getD j (0, .none)).2)
  | one (slot:Nat):w.params.followText "set-order" = false→t.led = true→es.size≤1→SetTable.below t.place slot = i→h.get? I = some (itObj (.int slot 0) a i es.size ep)→Itr w h I a tp es ep t i (es.toList.map (·.2))
theorem Itr.perm {i:Nat} {h:Heap} (x:Itr w h I a tp es ep t i ord):ord.Perm (es.toList.map (·.2)):=by
  cases x with
  | text=>exact (pickOrder_perm _ es).map _
  | drawn ps _ hp =>
    refine (hp.map _).trans (List.Perm.of_eq ?_)
    apply List.ext_getElem
    · simp
    · intro j h1 h2
      have:j < es.size:=by simpa using h1
      simp [Array.getD,this]
  | one=>exact List.Perm.refl _
theorem state_of {Q:(Array (Int×Value)×Nat×SetTable)→Shared→Prop} (x:SetAt s.heap a es ep t) (h:Q (es,ep,t) s):wpAny (model prog w) A (setState a) Q E s:=wpAny_setState_of x.at_ rfl x.fits h
theorem entries_of {Q:Array (Int×Value)→Shared→Prop} (x:SetAt s.heap a es ep t) (h:Q es s):wpAny (model prog w) A (setEntries a) Q E s:=by
  unfold setEntries
  exact wpAny_bind (state_of x (wpAny_pure h))
theorem drawn_of {Q:Bool→Shared→Prop} (x:SetAt s.heap a es ep t) (h:Q (!(w.params.followText "set-order") && (!t.plain && decide (es.size > 1))) s):wpAny (model prog w) A (setDrawn a) Q E s:=by
  unfold setDrawn
  exact wpAny_bind (state_of x (wpAny_bind (byText (wpAny_pure h))))
theorem SetAt.push {h:Heap} (x:SetAt h a es ep t) (o:Obj):SetAt (h.push o) a es ep t:=⟨Heap.get?_push_of_some _ x.at_,x.fits⟩
theorem below0 (xs:Array Nat):SetTable.below xs 0 = 0:=by
  have go:∀ f hi,SetTable.below.go xs 0 f 0 hi = 0:=by
    intro f
    induction f with
    | zero=>intro hi;rfl
    | succ f ih =>
      intro hi
      unfold SetTable.below.go
      split
      · rw [if_neg (Nat.not_lt_zero _)];exact ih _
      · rfl
  exact go _ _
theorem below1 {xs:Array Nat} (h:xs.size = 1) {j:Nat} (hj:xs[0]? = some j):SetTable.below xs (j + 1) = 1:=by
  unfold SetTable.below
  rw [h]
  unfold SetTable.below.go
  rw [if_pos (by decide)]
  dsimp only
  have:xs.getD ((0 + 1) / 2) (j + 1) = j:=by
    show xs.getD 0 (j + 1) = j
    rw [Array.getD_eq_getD_getElem?,hj];rfl
  rw [this,if_pos (Nat.lt_succ_self j)]
  rfl
theorem iter_set {Q:Value→Shared→Prop} (x:SetAt s.heap a es ep t) (ok:SetOk w es t)
    (h:∀ (I tp:Addr) (h':Heap) (d:Drawn) (ord:List Value),(∀ b o,s.heap.get? b = some o→h'.get? b = some o)→s.heap.objs.size≤I→(s.heap.objs.size≤tp∨tp = a)→tp≠I→Itr w h' I a tp es ep t 0 ord→Q (.ref I) { s with heap:=h',drawn:=d }) :
    wpAny (model prog w) A (pyIter (.ref a)) Q E s:=by
  have hT:=x.type
  have lt:a < s.heap.objs.size:=Heap.lt_size x.at_
  refine wpAny_pyIter_slot hT F.slot_set_iter (wpAny_call_entry F.slot_set_iter hT entry_set_iter ?_ (F.args_set_iter_1 _))
  unfold Builtin.«frozenset.__iter__» Builtin.Frozenset.slot0 slotArgs
  simp only [List.isEmpty_nil,Bool.not_true,Bool.false_eq_true,↓reduceIte,bind_assoc,List.length_nil,bne_self_eq_false]
  unfold Builtin.Frozenset.addrOf Builtin.Frozenset.sizeOf
  refine wpAny_bind (wpAny_pure (wpAny_bind (wpAny_pure ?_)))
  refine wpAny_bind (wpAny_bind (entries_of x (wpAny_pure ?_)))
  refine wpAny_bind (drawn_of x ?_)
  have fin:∀ (first:Value) (s':Shared),SetAt s'.heap a es ep t→(Q (.ref s'.heap.objs.size) { s' with heap:=s'.heap.push (itObj first a 0 es.size ep) }) →
      wpAny (model prog w) A.in1 (do let ep ← setEpoch a;let r ← newFields "set_iterator" [first,rawInt 0, .ref a,rawInt es.size,rawInt ep];ret r) (fun fin s'=>∃ v,fin = .done (.ret v)∧∃ T' r,s'.TypeIs v T'∧typeLookup (.type T') "__next__" = pure (some r)∧Q v s') E s':=fun first s' x' q=>by
    refine wpAny_bind ?_
    unfold setEpoch
    refine wpAny_bind (state_of x' (wpAny_pure ?_))
    unfold newFields
    refine wpAny_bind (wpAny_newObj_type (wpAny_pure ⟨_,rfl, "set_iterator",_,⟨_,Heap.get?_push_size _ rfl,rfl⟩,slot_sit_next.lookup,q⟩))
  cases hb:w.params.followText "set-order" with
  | true =>
    simp only [Bool.not_true,Bool.false_and,Bool.false_eq_true,↓reduceIte]
    refine wpAny_bind (wpAny_pure (fin _ s x ?_))
    exact h _ a _ s.drawn _ (fun b o e=>Heap.get?_push_of_some _ e) (Nat.le_refl _) (.inr rfl) (Nat.ne_of_lt lt) (.text hb (Heap.get?_push_size _ rfl))
  | false =>
    cases hd:(!t.plain && decide (es.size > 1)) with
    | true =>
      simp only [Bool.not_false,Bool.true_and,↓reduceIte]
      refine wpAny_bind (draw_any es.size (List.range es.size) (List.length_range ..) fun ps d hp=>?_)
      have hz:(ps.map fun (i:Nat)=>rawInt i).length≤sizeLine:=by rw [List.length_map,hp.length_eq,List.length_range];exact ok.size
      refine wpAny_bind (wpAny_newTuple ?_ hz)
      have x':SetAt (s.heap.push { cls:=.type "tuple",data:=.seq (ps.map fun (j:Nat)=>Value.int j 0).toArray }) a es ep t:=x.push _
      refine fin _ { s with heap:=s.heap.push { cls:=.type "tuple",data:=.seq (ps.map fun (j:Nat)=>Value.int j 0).toArray },drawn:=d } x' ?_
      refine h _ s.heap.objs.size _ d _ (fun b o e=>Heap.get?_push_of_some _ (Heap.get?_push_of_some _ e)) (by rw [Heap.size_push];exact Nat.le_succ _) (.inl (Nat.le_refl _)) (by rw [Heap.size_push];exact Nat.ne_of_lt (Nat.lt_succ_self _)) (.drawn ps hb hp (Heap.get?_push_of_some _ (Heap.get?_push_size _ rfl)) (Heap.get?_push_size _ rfl))
    | false =>
      simp only [Bool.not_false,Bool.and_false,Bool.false_eq_true,↓reduceIte]
      refine wpAny_bind (wpAny_pure (fin _ s x ?_))
      have h1:es.size≤1:=by
        rcases ok.plain hb with z | z
        · rw [z] at hd
          simpa using hd
        · exact z
      refine h _ a _ s.drawn _ (fun b o e=>Heap.get?_push_of_some _ e) (Nat.le_refl _) (.inr rfl) (Nat.ne_of_lt lt) (.one 0 hb (ok.led hb) h1 (below0 _) (Heap.get?_push_size _ rfl))
theorem next_of {i:Nat} {Q:Option (Value×Nat)→Shared→Prop} {slot:Nat} (x:SetAt s.heap a es ep t) (hb:w.params.followText "set-order" = true) (h:Q ((((pickOrder (w.params.setOrder a ep) es))[i]?).map fun e=>(e.2,slot)) s):wpAny (model prog w) A (setNext a slot i ep) Q E s:=by
  unfold setNext
  refine wpAny_bind (state_of x (wpAny_bind (byText ?_)))
  rw [hb]
  dsimp only
  rw [if_pos rfl,if_neg (by simp)]
  refine wpAny_bind ?_
  unfold setWalk
  refine wpAny_bind (state_of x (wpAny_bind (byText ?_)))
  rw [hb]
  rw [if_pos rfl]
  exact wpAny_bind (wpAny_askSetting (wpAny_pure (wpAny_pure h)))
theorem next_one {Q:Option (Value×Nat)→Shared→Prop} {slot g:Nat} (x:SetAt s.heap a es ep t) (hb:w.params.followText "set-order" = false) (hl:t.led = true) (h1:es.size≤1)
    (h:Q (match es[SetTable.below t.place slot]?,t.place[SetTable.below t.place slot]? with | some (_,x),some j=>some (x,j + 1) | _,_=>none) s):wpAny (model prog w) A (setNext a slot g ep) Q E s:=by
  unfold setNext
  refine wpAny_bind (state_of x (wpAny_bind (byText ?_)))
  rw [hb]
  dsimp only
  rw [if_neg (by decide)]
  have hd:(!t.plain && decide (es.size > 1)) = false:=by rw [decide_eq_false (Nat.not_lt.2 h1),Bool.and_false]
  show wpAny (model prog w) A (if (!t.plain && decide (es.size > 1)) = true then _ else _) Q E s
  rw [hd]
  rw [if_neg (by decide)]
  show wpAny (model prog w) A ((if (!t.led && !es.isEmpty) = true then _ else _) >>= _) Q E s
  rw [hl]
  exact wpAny_bind (wpAny_pure (wpAny_pure h))
theorem next_drawn {Q:Value→Shared→Prop} {p:Nat} {e:Int×Value} (x:SetAt s.heap a es ep t) (he:es[p]? = some e) (h:Q e.2 s):wpAny (model prog w) A (setNextDrawn a p ep) Q E s:=by
  unfold setNextDrawn
  refine wpAny_bind (state_of x ?_)
  dsimp only
  rw [if_neg (by simp),he]
  exact wpAny_pure h
end
end Mine.Sw
end

section
open PySem PyProof.Rows PySem.Calls
namespace Mine.Sw
section
variable {prog:Program} {w:World} {A:Around} {E:Value→Shared→Prop} {s:Shared} {a I tp:Addr} {es:Array (Int×Value)} {ep:Nat} {t:SetTable} {ord:List Value}
theorem it_type {first:Value} {i n:Nat} (hi:s.heap.get? I = some (itObj first a i n ep)):s.TypeIs (.ref I) "set_iterator" := ⟨_,hi,rfl⟩
theorem next_in {first:Value} {i n:Nat} {Q:Option Value→Shared→Prop} (hi:s.heap.get? I = some (itObj first a i n ep)) (x:SetAt s.heap a es ep t) (hn:n = es.size)
    (h:wpAny (model prog w) A.in1 (if let .int slot _:=first then
      (do match ← setNext a slot.toNat (i:Int).toNat (ep:Int).toNat with
        | some (x,next)=>do setField (.ref I) 0 (rawInt next);setField (.ref I) 1 (rawInt ((i:Int) + 1));ret x
        | none=>do setField (.ref I) 2 .none;raiseNew (← newExc (.type "StopIteration") []))
      else
        (do let some places ← seqItems? first | unsupported "internal:set_iterator"
            match places[(i:Int).toNat]? with
            | some (.int place _)=>do
              let x ← setNextDrawn a place.toNat (ep:Int).toNat
              setField (.ref I) 1 (rawInt ((i:Int) + 1))
              ret x
            | some _=>unsupported "internal:set_iterator"
            | none=>do setField (.ref I) 0 (rawInt 0);setField (.ref I) 2 .none;raiseNew (← newExc (.type "StopIteration") [])))
      (fun fin s'=>∃ v,fin = .done (.ret v)∧Q (some v) s') (fun e s'=>wpAny (model prog w) A (do if ← isInstance e (.type "StopIteration") then pure none else throw e) Q E s') s):wpAny (model prog w) A (pyNext (.ref I)) Q E s:=by
  subst hn
  unfold pyNext
  refine wpAny_bind (wpAny_attempt (wpAny_callSpecial?_slot (name:=Str.ofString "__next__") (it_type hi) slot_sit_next
    (wpAny_call_entry slot_sit_next (it_type hi) entry_sit_next ?_ (args_sit_next _))))
  refine wpAny_mono (Q:=fun fin s'=>∃ v,fin = .done (.ret v)∧Q (some v) s') (E:=fun e s'=>wpAny (model prog w) A (do if ← isInstance e (.type "StopIteration") then pure none else throw e) Q E s') ?_ (fun fin s' z=>?_) fun e s' z=>z
  · unfold Builtin.«set_iterator.__next__» slotArgs
    simp only [List.isEmpty_nil,Bool.not_true,Bool.false_eq_true,↓reduceIte,bind_assoc,List.length_nil,bne_self_eq_false]
    refine wpAny_bind (wpAny_pure ?_)
    refine wpAny_bind (wpAny_fieldsOf hi rfl ?_)
    dsimp only
    refine wpAny_bind (entries_of x ?_)
    rw [if_neg (by simp)]
    exact h
  · obtain ⟨v,rfl,q⟩:=z
    exact ⟨v,rfl,wpAny_pure q⟩
theorem set2 {first f':Value} {i n:Nat} {Q:Unit→Shared→Prop} (hi:s.heap.get? I = some (itObj first a i n ep)) (h:∀ h',h'.get? I = some (itObj f' a (i + 1) n ep)→Heap.SameBut I s.heap h'→Q () { s with heap:=h' }) :
    wpAny (model prog w) A (do setField (.ref I) 0 f';setField (.ref I) 1 (rawInt ((i:Int) + 1))) Q E s:=by
  refine wpAny_bind (wpAny_setField hi rfl (by simp [itObj]) ?_)
  have h1:=Heap.get?_update_self (Obj.mapFields (·.setIfInBounds 0 f')) hi rfl
  refine wpAny_setField h1 rfl (by simp [itObj]) ?_
  have h2:=Heap.get?_update_self (Obj.mapFields (·.setIfInBounds 1 (rawInt ((i:Int) + 1)))) h1 rfl
  exact h _ h2 ((Heap.SameBut.update ..).trans (Heap.SameBut.update ..))
theorem set1 {first:Value} {i n:Nat} {Q:Unit→Shared→Prop} (hi:s.heap.get? I = some (itObj first a i n ep)) (h:∀ h',h'.get? I = some (itObj first a (i + 1) n ep)→Heap.SameBut I s.heap h'→Q () { s with heap:=h' }) :
    wpAny (model prog w) A (setField (.ref I) 1 (rawInt ((i:Int) + 1))) Q E s:=by
  refine wpAny_setField hi rfl (by simp [itObj]) ?_
  have h2:=Heap.get?_update_self (Obj.mapFields (·.setIfInBounds 1 (rawInt ((i:Int) + 1)))) hi rfl
  exact h _ h2 (Heap.SameBut.update ..)
theorem stop_of {Q:Option Value→Shared→Prop} (hh:A.handled = none) (h:∀ h',(∀ b o,s.heap.get? b = some o→h'.get? b = some o)→Q none { s with heap:=h' }) {P:PySem.Fin→Shared→Prop} :
    wpAny (model prog w) A.in1 (do raiseNew (← newExc (.type "StopIteration") [])) P (fun e s'=>wpAny (model prog w) A (do if ← isInstance e (.type "StopIteration") then pure none else throw e) Q E s') s:=by
  refine wpAny_bind ?_
  simp only [newExc,newTuple]
  refine wpAny_bind (wpAny_newObj_type ?_ (by size_fits))
  refine wpAny_bind (m:=firstArgMember _ _) (wpAny_of_eq (a:=Value.none) (by first | rfl | (simp only [firstArgMember];rfl)) ?_)
  refine wpAny_newObj_type ?_ (by size_fits)
  simp only [raiseNew]
  refine wpAny_bind (wpAny_handled ?_)
  rw [show A.in1.handled = none from hh]
  refine wpAny_bind (wpAny_pure (wpAny_throw ?_))
  refine wpAny_bind (wpAny_isInstance (T := "StopIteration") (b:=true) ⟨_,Heap.get?_push_size _ rfl,rfl⟩ isSubtype_stop ?_)
  exact wpAny_pure (h _ fun b o e=>Heap.get?_push_of_some _ (Heap.get?_push_of_some _ e))
theorem Itr.lt {i:Nat} {h:Heap} (x:Itr w h I a tp es ep t i ord):ord.length = es.size:=by rw [x.perm.length_eq,List.length_map,Array.length_toList]
theorem SetAt.same {h h':Heap} (x:SetAt h a es ep t) (sb:Heap.SameBut I h h') (hne:a≠I):SetAt h' a es ep t:=⟨(sb.2 a hne).trans x.at_,x.fits⟩
theorem next_item {i:Nat} {Q:Option Value→Shared→Prop} (x:SetAt s.heap a es ep t) (it:Itr w s.heap I a tp es ep t i ord) (ha:a≠I) (ht:tp≠I) (hi:i < ord.length)
    (h:∀ v h',ord[i]? = some v→Itr w h' I a tp es ep t (i + 1) ord→Heap.SameBut I s.heap h'→Q (some v) { s with heap:=h' }):wpAny (model prog w) A (pyNext (.ref I)) Q E s:=by
  have hlt:=it.lt
  have hi2:i < es.size:=hlt ▸ hi
  cases it with
  | text hb e =>
    refine next_in e x rfl ?_
    dsimp only
    rw [Int.toNat_natCast,Int.toNat_natCast]
    refine wpAny_bind (next_of x hb ?_)
    have hz:i < (pickOrder (w.params.setOrder a ep) es).size:=by rw [List.length_map,Array.length_toList] at hi;exact hi
    rw [Array.getElem?_eq_getElem hz]
    dsimp only [Option.map]
    rw [← bind_assoc]
    refine wpAny_bind (set2 (f':=.int 0 0) e fun h' e' sb=>wpAny_pure ⟨_,rfl, ?_⟩)
    refine h _ h' ?_ (.text hb e') sb
    rw [List.getElem?_map,Array.getElem?_toList,Array.getElem?_eq_getElem hz];rfl
  | drawn ps hb hp et e =>
    have hl:i < ps.length:=by rw [List.length_map] at hi;exact hi
    have hm:ps[i] < es.size:=by
      have:=hp.mem_iff.1 (List.getElem_mem hl)
      exact List.mem_range.1 this
    refine next_in e x rfl ?_
    dsimp only
    unfold seqItems?
    refine wpAny_bind (wpAny_bind (wpAny_load et (wpAny_pure ?_)))
    dsimp only
    rw [Int.toNat_natCast,Int.toNat_natCast,List.getElem?_toArray,List.getElem?_map,List.getElem?_eq_getElem hl]
    dsimp only [Option.map]
    rw [Int.toNat_natCast]
    refine wpAny_bind (next_drawn x (Array.getElem?_eq_getElem hm) ?_)
    refine wpAny_bind (set1 e fun h' e' sb=>wpAny_pure ⟨_,rfl, ?_⟩)
    refine h _ h' ?_ (.drawn ps hb hp ((sb.2 tp ht).trans et) e') sb
    rw [List.getElem?_map,List.getElem?_eq_getElem hl]
    simp [Array.getD,hm]
  | one slot hb hl h1 hbl e =>
    have hs:es.size = 1:=Nat.le_antisymm h1 (Nat.lt_of_le_of_lt (Nat.zero_le _) hi2)
    have h0:i = 0:=Nat.lt_one_iff.1 (hs ▸ hi2)
    subst h0
    have hp:t.place.size = 1:=by
      have:=x.fits
      simp only [SetTable.fits,Bool.and_eq_true,beq_iff_eq] at this
      rw [this.1,hs]
    refine next_in e x rfl ?_
    dsimp only
    refine wpAny_bind (next_one (slot:=slot) x hb hl h1 ?_)
    have p0:t.place[0]? = some t.place[0]:=Array.getElem?_eq_getElem _
    rw [hbl,Array.getElem?_eq_getElem (by rw [hs];decide:0 < es.size),p0]
    dsimp only
    rw [← bind_assoc]
    refine wpAny_bind (set2 (f':=rawInt ((t.place[0] + 1:Nat):Int)) e fun h' e' sb=>wpAny_pure ⟨_,rfl, ?_⟩)
    refine h _ h' ?_ (.one (t.place[0] + 1) hb hl h1 (below1 hp p0) e') sb
    rw [List.getElem?_map,Array.getElem?_toList,Array.getElem?_eq_getElem (by rw [hs];decide:0 < es.size)];rfl
end
end Mine.Sw
end

section
open PySem PyProof.Rows PySem.Calls PySem.W
namespace Mine.Sw
section
variable {prog:Program} {w:World} {A:Around} {E:Value→Shared→Prop} {s:Shared} {a I tp:Addr} {es:Array (Int×Value)} {ep:Nat} {t:SetTable} {ord:List Value}
theorem setF {k:Nat} {v:Value} {vs:Array Value} {Q:Unit→Shared→Prop} (e:s.heap.get? I = some { cls:=.type "set_iterator",data:=.fields vs }) (hv:vs.size = 5) (hk:k < 5) (q:∀ h' vs',h'.get? I = some { cls:=.type "set_iterator",data:=.fields vs' }→vs'.size = 5→Heap.SameBut I s.heap h'→Q () { s with heap:=h' }) :
    wpAny (model prog w) A (setField (.ref I) k v) Q E s :=
  wpAny_setField e rfl (by rw [hv];exact hk) (q _ _ (Heap.get?_update_self (Obj.mapFields (·.setIfInBounds k v)) e rfl) (by rw [Array.size_setIfInBounds];exact hv) (Heap.SameBut.update ..))
theorem next_end {Q:Option Value→Shared→Prop} (hh:A.handled = none) (x:SetAt s.heap a es ep t) (it:Itr w s.heap I a tp es ep t ord.length ord) (h:∀ h',Heap.ExtBut I s.heap h'→Q none { s with heap:=h' }):wpAny (model prog w) A (pyNext (.ref I)) Q E s:=by
  have hlt:=it.lt
  generalize hn:ord.length = n at it hlt
  subst hlt
  cases it with
  | text hb e =>
    refine next_in e x rfl ?_
    dsimp only
    rw [Int.toNat_natCast,Int.toNat_natCast]
    refine wpAny_bind (next_of x hb ?_)
    have hz:(pickOrder (w.params.setOrder a ep) es).size≤es.size:=by rw [← Array.length_toList,(pickOrder_perm _ es).length_eq,Array.length_toList];exact Nat.le_refl _
    rw [Array.getElem?_eq_none hz]
    dsimp only [Option.map]
    refine wpAny_bind (setF e rfl (by decide) fun h1 _ _ _ sb=>stop_of (s:={ s with heap:=h1 }) hh fun h' k=>h h' fun b o hb e=>k b o ((sb.2 b hb).trans e))
  | drawn ps hb hp et e =>
    refine next_in e x rfl ?_
    dsimp only
    unfold seqItems?
    refine wpAny_bind (wpAny_bind (wpAny_load et (wpAny_pure ?_)))
    dsimp only
    have hl:ps.length = es.size:=by rw [hp.length_eq,List.length_range]
    rw [Int.toNat_natCast,List.getElem?_toArray,List.getElem?_map,List.getElem?_eq_none (by rw [hl];exact Nat.le_refl _)]
    dsimp only [Option.map]
    refine wpAny_bind (setF e rfl (by decide) fun h1 _ e1 hv sb=>wpAny_bind (setF e1 hv (by decide) fun h2 _ _ _ sb2=>stop_of (s:={ s with heap:=h2 }) hh fun h' k=>h h' fun b o hb e=>k b o ((sb2.2 b hb).trans ((sb.2 b hb).trans e))))
  | one slot hb hl h1 hbl e =>
    refine next_in e x rfl ?_
    dsimp only
    refine wpAny_bind (next_one (slot:=slot) x hb hl h1 ?_)
    have p0:es[es.size]? = none:=Array.getElem?_eq_none (Nat.le_refl _)
    rw [hbl,p0]
    dsimp only
    refine wpAny_bind (setF e rfl (by decide) fun h1 _ _ _ sb=>stop_of (s:={ s with heap:=h1 }) hh fun h' k=>h h' fun b o hb e=>k b o ((sb.2 b hb).trans e))
theorem Itr.at_ {h h':Heap} {i:Nat} (it:Itr w h I a tp es ep t i ord) (k1:∀ o,h.get? I = some o→h'.get? I = some o) (k2:∀ o,h.get? tp = some o→h'.get? tp = some o):Itr w h' I a tp es ep t i ord:=by
  cases it with
  | text hb e=>exact .text hb (k1 _ e)
  | drawn ps hb hp et e=>exact .drawn ps hb hp (k2 _ et) (k1 _ e)
  | one slot hb hl h1 hbl e=>exact .one slot hb hl h1 hbl (k1 _ e)
theorem slot_sit_iter:Slot "set_iterator" "__iter__" "set_iterator.__iter__" :=
  .of (owner := "set_iterator") (n := "__iter__") (by rw [typeLookup_type,builtinLookup_eq_fast];kernel_rfl) (by decide +kernel) (by decide +kernel) (by decide +kernel)
    (by first | exact .inl (by decide +kernel) | exact .inr (by decide +kernel)) (by rw [isSubtype_type];kernel_rfl)
theorem entry_sit_iter:entryFor table "set_iterator.__iter__" = some Builtin.«dict_keyiterator.__iter__» :=
  entryFor_alias (id' := "dict_keyiterator.__iter__") (by kernel_rfl) rfl (by decide +kernel) (by kernel_rfl)
theorem args_sit_iter (a:Value):argsOk "set_iterator.__iter__" ⟨[a],[]⟩:=by
  unfold argsOk;rw [signature?_of (id := "set_iterator.__iter__") (n:=['_','_','r','e','t','i','_','_']) (o:=['r','o','t','a','r','e','t','i','_','t','e','s']) (by kernel_rfl) owner_sit];kernel_rfl
theorem Itr.type {i:Nat} (it:Itr w s.heap I a tp es ep t i ord):s.TypeIs (.ref I) "set_iterator" := by
  cases it with
  | text hb e=>exact ⟨_,e,rfl⟩
  | drawn ps hb hp et e=>exact ⟨_,e,rfl⟩
  | one slot hb hl h1 hbl e=>exact ⟨_,e,rfl⟩
theorem walks_set (hh:A.handled = none) (ha:a≠I) (ht:tp≠I):Walks prog w A I [I,a,tp] [I] ord.length (fun i v=>ord[i]? = some v) (fun i h=>SetAt h a es ep t∧Itr w h I a tp es ep t i ord) where
  sub:=fun b hb=>by rw [List.mem_singleton.1 hb];exact .head _
  frame:=fun _ _ _ st hk=>⟨⟨hk a (.tail _ (.head _)) _ st.1.at_,st.1.fits⟩,st.2.at_ (fun o e=>hk I (.head _) o e) fun o e=>hk tp (.tail _ (.tail _ (.head _))) o e⟩
  item:=fun i s Q E hi st hQ=>next_item st.1 st.2 ha ht hi fun v h' hv it' sb=>hQ v h' s.toks hv ⟨st.1.same sb ha,it'⟩ fun b o hb e=>(sb.2 b fun z=>hb (by rw [z];exact .head _)).trans e
  done:=fun s Q E st hQ=>next_end hh st.1 st.2 fun h' x=>hQ h' s.toks fun b o hb e=>x b o (fun z=>hb (by rw [z];exact .head _)) e
  self:=fun _ s _ _ st hQ=>by
    refine wpAny_pyIter_slot st.2.type slot_sit_iter (wpAny_call_entry slot_sit_iter st.2.type entry_sit_iter ?_ (args_sit_iter _))
    show wpAny _ _ (ret (.ref I)) _ _ s
    exact wpAny_pure ⟨_,rfl, "set_iterator",_,st.2.type,slot_sit_next.lookup,hQ⟩
theorem hint_set {Q:Bool→Shared→Prop} {r:Addr} (hT:s.TypeIs (.ref r) "set") (h:Q false s):wpAny (model prog w) A (Builtin.List.listLengthHint (.ref r)) Q E s:=by
  unfold Builtin.List.listLengthHint
  refine wpAny_bind (wpAny_specialOf hT PySem.F.slot_set_len.lookup ?_)
  generalize hid:("set.__len__" : String) = id0
  wp_delta
  rw [show splitId id0 = some ("set", "__len__") from by subst hid;decide +kernel]
  subst hid
  refine wpAny_bind (wpAny_isInstance (T := "set") (b:=true) hT (by rw [isSubtype_type];kernel_rfl) ?_)
  refine wpAny_ite_split (fun hab=>absurd hab (by decide)) (fun _=>?_)
  refine wpAny_ite_split (fun _=>?_) (fun hab=>absurd (by decide +kernel) hab)
  refine wpAny_bind (wpAny_typeOf hT ?_)
  exact wpAny_pure h
end
end Mine.Sw
end

section
open PySem PyProof.Rows PySem.Calls PySem.W
namespace Mine.Sw
section
variable {prog:Program} {w:World} {A:Around} {E:Value→Shared→Prop} {s:Shared} {a I tp:Addr} {es:Array (Int×Value)} {ep:Nat} {t:SetTable} {ord:List Value}
theorem items_of {acc:Array Value} (h:ItemsOf (fun i v=>ord[i]? = some v) acc ord.length):acc.toList = ord:=by
  apply List.ext_getElem?
  intro i
  rw [Array.getElem?_toList]
  rcases Nat.lt_or_ge i acc.size with z | z
  · rw [h.2 i _ (Array.getElem?_eq_getElem z),Array.getElem?_eq_getElem z]
  · rw [Array.getElem?_eq_none z,List.getElem?_eq_none (by rw [← h.1];exact z)]
theorem extend_set {R:Result→Shared→Prop} (hh:A.handled = none) (x:SetAt s.heap a es ep t) (ok:SetOk w es t) (S:Addr) (hSa:S≠a) (res:Value) (c₀:Nat) (hS:s.heap.get? S = some { cls:=.type "list",data:=.seq #[] c₀ })
    (hR:∀ h' tk d acc' c',(∀ b o,b≠S→s.heap.get? b = some o→h'.get? b = some o)→h'.get? S = some { cls:=.type "list",dict:=none,data:=.seq acc' c',slots:=#[] }→acc'.toList.Perm (es.toList.map (·.2))→R (.ok (.ret res)) { s with heap:=h',toks:=tk,drawn:=d }) :
    wpAny (model prog w) A.in1 (Builtin.List.listExtendWith (.ref S) (.ref a) res)
      (fun fin s'=>match fin with | .done f=>R (.ok f) s' | .again c'=>c'.quiet = true∧codeAny (model prog w) A c' R s') (fun e s'=>R (.error e) s') s:=by
  have hlS:=Heap.lt_size hS
  have hla:=Heap.lt_size x.at_
  unfold Builtin.List.listExtendWith
  refine wpAny_bind (wpAny_typeOf (T := "set") x.type ?_)
  have h1:Builtin.List.listSameRef (.ref S) (.ref a) = false:=by simp [Builtin.List.listSameRef,hSa]
  simp only [h1,show (Value.type "set" == Value.type "list") = false by decide,show (Value.type "set" == Value.type "tuple") = false by decide,Bool.or_false,Bool.false_eq_true,if_false]
  refine wpAny_bind (iter_set x ok fun I tp h1 d ord k1 hI htp hne it=>?_)
  have haI:a≠I:=Nat.ne_of_lt (Nat.lt_of_lt_of_le hla hI)
  have hSI:S≠I:=Nat.ne_of_lt (Nat.lt_of_lt_of_le hlS hI)
  have hSt:S≠tp:=by
    rcases htp with z | z
    · exact Nat.ne_of_lt (Nat.lt_of_lt_of_le hlS z)
    · rw [z];exact hSa
  have x1:SetAt h1 a es ep t:=⟨k1 _ _ x.at_,x.fits⟩
  have hSf:S ∉ [I,a,tp]:=fun z=>by
    rcases List.mem_cons.1 z with z | z
    · exact hSI z
    rcases List.mem_cons.1 z with z | z
    · exact hSa z
    · exact hSt (List.mem_singleton.1 z)
  have W:Walks prog w A.in1 I [I,a,tp] [I] ord.length (fun i v=>ord[i]? = some v) (fun i h=>SetAt h a es ep t∧Itr w h I a tp es ep t i ord):=walks_set hh haI hne
  have hn:ord.length≤sizeLine:=by rw [it.lt];exact ok.size
  have key:∀ (h:Heap) (c₁:Nat),(SetAt h a es ep t∧Itr w h I a tp es ep t 0 ord)→(∀ b o,b≠S→s.heap.get? b = some o→h.get? b = some o) →
      h.get? S = some { cls:=.type "list",data:=.seq #[] c₁ }→codeAny (model prog w) A (.builtin "list.extend.loop" ⟨[.ref S, .ref I,res],[]⟩) R { s with heap:=h,drawn:=d }:=by
    intro h c₁ hst hk hS₁
    refine codeAny_extend_loopS W.toS hn S hSf res ord.length 0 _ #[] c₁ rfl (Nat.zero_le _) hst hS₁ (ItemsOf.nil _) fun s' acc' c' hm hS' hacc=>?_
    rw [Moved.eq_with hm]
    refine hR s'.heap s'.toks d acc' c' (fun b o hb e=>hm.heap b o (fun hmem=>?_) (hk b o hb e)) hS' ((items_of hacc).symm ▸ it.perm)
    rcases List.mem_cons.mp hmem with e' | hmem
    · exact hb e'
    · exact absurd (Heap.lt_size e) (by rw [List.mem_singleton.mp hmem];exact Nat.not_lt.2 hI)
  have hS₁:=k1 _ _ hS
  refine wpAny_bind (wpAny_holding (hint_set ⟨_,x1.at_,rfl⟩ ?_))
  refine wpAny_ite_split (fun _=>?_) (fun _=>wpAny_pure ⟨plainId_quiet PySem.F.plain_extend_loop _,key _ c₀ ⟨x1,it⟩ (fun b o _ e=>k1 b o e) hS₁⟩)
  refine wpAny_bind (wpAny_rule ?_)
  refine wpAny_bind ?_
  show wpAny _ _ (updateSeq S (·.push .none) >>= fun _=>updateSeq S (·.pop)) _ _ _
  refine wpAny_bind (wpAny_updateSeq hS₁ rfl ?_)
  have hS₂:=Heap.get?_update_self (Obj.mapSeq (·.push Value.none)) hS₁ rfl
  refine wpAny_updateSeq (hz:=by seq_fits) hS₂ rfl ?_
  have hS₃:=Heap.get?_update_self (Obj.mapSeq (·.pop)) hS₂ rfl
  refine wpAny_pure ⟨plainId_quiet PySem.F.plain_extend_loop _,key _ _ ?_ (fun b o hb e=>?_) hS₃⟩
  · refine W.frame 0 _ _ ⟨x1,it⟩ fun b hb o e=>?_
    have hbS:b≠S:=fun h=>hSf (h ▸ hb)
    exact (Heap.get?_update_other _ _ (Ne.symm hbS)).trans ((Heap.get?_update_other _ _ (Ne.symm hbS)).trans e)
  · exact (Heap.get?_update_other _ _ (Ne.symm hb)).trans ((Heap.get?_update_other _ _ (Ne.symm hb)).trans (k1 b o e))
theorem collect_set {R:List Value→Shared→Prop} (hh:A.handled = none) (x:SetAt s.heap a es ep t) (ok:SetOk w es t)
    (h:∀ (h':Heap) (tk:Nat) (d:Drawn) (vs:List Value),(∀ b o,s.heap.get? b = some o→h'.get? b = some o)→vs.Perm (es.toList.map (·.2))→R vs { s with heap:=h',toks:=tk,drawn:=d }) :
    wpAny (model prog w) A (collect (.ref a)) R E s:=by
  have hla:=Heap.lt_size x.at_
  unfold collect
  refine wpAny_bind (wpAny_runValue (codeAny_builtin entry_proto_collect' ?_))
  rw [Around.under_plainId PySem.F.plain_proto_collect _]
  show wpAny _ A.in1 (newList [] >>= fun l=>again (.builtin "list.__iadd__" ⟨[l, .ref a],[]⟩)) _ _ s
  refine wpAny_bind (wpAny_newObj_type ?_)
  refine wpAny_pure ⟨plainId_quiet PySem.F.plain_list_iadd _,codeAny_builtin entry_list_iadd' ?_⟩
  rw [Around.under_plainId PySem.F.plain_list_iadd _]
  have hS₁:(s.heap.push { cls:=.type "list",data:=.seq ([]:List Value).toArray }).get? s.heap.objs.size = some { cls:=.type "list",data:=.seq #[] }:=Heap.get?_push_size _ rfl
  show wpAny _ A.in1 (Builtin.List.listExtendWith (.ref s.heap.objs.size) (.ref a) (.ref s.heap.objs.size)) _ _ _
  have key:=extend_set (prog:=prog) (A:=A) (s:={ s with heap:=s.heap.push { cls:=.type "list",data:=.seq ([]:List Value).toArray } })
    (R:=fun (q:Result) (s':Shared)=>∃ (h':Heap) (tk:Nat) (d:Drawn) (acc':Array Value) (c':Nat),q = .ok (.ret (.ref s.heap.objs.size))∧s' = { s with heap:=h',toks:=tk,drawn:=d } ∧
      (∀ b o,s.heap.get? b = some o→h'.get? b = some o)∧h'.get? s.heap.objs.size = some { cls:=.type "list",dict:=none,data:=.seq acc' c',slots:=#[] }∧acc'.toList.Perm (es.toList.map (·.2)))
    hh (x.push _) ok s.heap.objs.size (Nat.ne_of_gt hla) (.ref s.heap.objs.size) 0 hS₁
    (fun h' tk d acc' c' hk hS' hacc=>⟨h',tk,d,acc',c',rfl,rfl,fun b o e=>hk b o (Nat.ne_of_lt (Heap.lt_size e)) (Heap.get?_push_of_some _ e),hS',hacc⟩)
  refine wpAny_mono key (fun fin s' x=>?_) fun e s' x=>?_
  · cases fin with
    | done f =>
      obtain ⟨h',tk,d,acc',c',e,rfl,hk,hS',hacc⟩:=x
      cases e
      show wpAny _ A (load s.heap.objs.size >>= _) _ _ _
      refine wpAny_bind (wpAny_load hS' ?_)
      exact wpAny_pure (h h' tk d _ hk hacc)
    | again c₁ =>
      refine ⟨x.1,codeAny_mono x.2 fun q s₂ y=>?_⟩
      obtain ⟨h',tk,d,acc',c',rfl,rfl,hk,hS',hacc⟩:=y
      show wpAny _ A (load s.heap.objs.size >>= _) _ _ _
      refine wpAny_bind (wpAny_load hS' ?_)
      exact wpAny_pure (h h' tk d _ hk hacc)
  · obtain ⟨_,_,_,_,_,e',_⟩:=x
    cases e'
theorem sorted_set {Q:Value→Shared→Prop} (hh:A.handled = none) (x:SetAt s.heap a es ep t) (ok:SetOk w es t)
    (h:∀ (D:Addr) (h':Heap) (tk:Nat) (d:Drawn) (vs:List Value),(∀ b o,s.heap.get? b = some o→h'.get? b = some o)→s.heap.get? D = none→h'.get? D = some (seqObj "list" vs.toArray 0)→vs.Perm (es.toList.map (·.2)) →
      wpAny (model prog w) A.in1 (call (.builtin "list.sort") [.ref D]) (fun _ s'=>Q (.ref D) s') E { s with heap:=h',toks:=tk,drawn:=d }) :
    wpAny (model prog w) A (call (.builtin "sorted") [.ref a]) Q E s:=by
  refine call_function_entry kind_sorted plain_sorted entry_sorted (args_sorted1 _) ?_
  unfold Builtin.«sorted»
  refine wpAny_bind (m:=checkCount "sorted" 1 1 _) (wpAny_pure ?_)
  refine wpAny_bind (collect_set (A:=A.in1) hh x ok fun h' tk d vs hk hp=>?_)
  have hl:vs.length≤sizeLine:=by rw [hp.length_eq,List.length_map,Array.length_toList];exact ok.size
  refine wpAny_bind (wpAny_newList ?_ hl)
  have hg:=h h'.objs.size (h'.push { cls:=.type "list",data:=.seq vs.toArray }) tk d vs (fun b o e=>Heap.get?_push_of_some _ (hk b o e)) ?_ (Heap.get?_push_size _ rfl) hp
  · refine wpAny_bind (wpAny_holding (wpAny_mono hg (fun _ s' x=>?_) fun _ _ e=>e))
    exact wpAny_pure ⟨_,rfl,x⟩
  · cases e:s.heap.get? h'.objs.size with
    | none=>rfl
    | some o=>exact absurd (Heap.lt_size (hk _ _ e)) (Nat.lt_irrefl _)
end
end Mine.Sw
end

section
open PySem PyProof.Rows PySem.Calls PySem.W
namespace Mine.Sw
theorem orStandIn_led (t:SetTable) (n:Nat):(t.orStandIn n).led = t.led:=by unfold SetTable.orStandIn;split <;> rfl
theorem layNew_led (t:SetTable) (es:Array (Int×Value)) (h:Int) (x:Value):(layNew t es h x).2.1.led = t.led:=by
  unfold layNew
  split
  · exact orStandIn_led _ _
  · rfl
theorem relayAll_keeps (t:SetTable) (es:Array (Int×Value)) (n:Nat):(relayAll t es n).2.1.led = t.led∧(t.plain = false→(relayAll t es n).2.1.plain = false):=by
  unfold relayAll
  split
  · rename_i t' order e
    have:t'.led = t.led∧t'.plain = t.plain:=by
      unfold SetTable.relaid SetTable.laid at e
      obtain ⟨o,_,e⟩:=Option.bind_eq_some_iff.1 e
      cases e
      exact ⟨rfl,rfl⟩
    dsimp only
    split
    · exact ⟨this.1,fun z=>this.2.trans z⟩
    · exact ⟨rfl,fun _=>rfl⟩
  · exact ⟨rfl,fun _=>rfl⟩
section
variable {prog:Program} {w:World} {A:Around} {E:Value→Shared→Prop} {s:Shared} {a:Addr} {es:Array (Int×Value)} {ep:Nat} {t:SetTable}
theorem store_at {h:Heap} (x:SetAt h a es ep t) (es':Array (Int×Value)) (t':SetTable) (hf:t'.fits es'.size = true):SetAt (h.update a (Obj.putSet es' t')) a es' (ep + 1) t' :=
  ⟨Heap.get?_update_self (Obj.putSet es' t') x.at_ rfl,hf⟩
theorem add_tail {g:Bool→Sem Unit} (hg:∀ (b:Bool) (s₁:Shared) (Q':Unit→Shared→Prop),Q' () s₁→wpAny (model prog w) A (g b) Q' E s₁) (x:SetAt s.heap a es ep t) {es1:Array (Int×Value)} {t2:SetTable} (hb1:es1.size < scanBound) (hf2:t2.fits es1.size = true) (hp2:t2.plain = false) {wasDummy:Bool} {R:Option Bool→Shared→Prop}
    (h:∀ h' es' ep' t',Heap.SameBut a s.heap h'→SetAt h' a es' ep' t'→es'.toList.Perm es1.toList→t'.led = t2.led→t'.plain = false→R (some true) { s with heap:=h' }) :
    wpAny (model prog w) A (do
        storeSet a es1 t2
        if (!wasDummy && t2.tooFull) = true then do
            g (relayAll t2 es1 (SetTable.grown es1.size)).2.2
            storeSet a (relayAll t2 es1 (SetTable.grown es1.size)).1 (relayAll t2 es1 (SetTable.grown es1.size)).2.1
            pure (some true)
          else pure (some true)) R E s:=by
  refine wpAny_bind (wpAny_storeSet_of x.at_ rfl ?_ (fits_of_scanBound hb1))
  have x1:=store_at x es1 t2 hf2
  have sb1:=Heap.SameBut.update s.heap a (Obj.putSet es1 t2)
  split
  · have hp:=relayAll_perm t2 es1 (SetTable.grown es1.size)
    have hfr:=relayAll_fits t2 es1 (SetTable.grown es1.size)
    obtain ⟨k1,k2⟩:=relayAll_keeps t2 es1 (SetTable.grown es1.size)
    generalize relayAll t2 es1 (SetTable.grown es1.size) = Rl at hp hfr k1 k2 ⊢
    obtain ⟨es2,t3,gave2⟩:=Rl
    dsimp only at hp hfr k1 k2 ⊢
    have hb2:es2.size < scanBound:=by rw [← Array.length_toList,hp.length_eq,Array.length_toList];exact hb1
    refine wpAny_bind (hg _ _ _ ?_)
    refine wpAny_bind (wpAny_storeSet_of x1.at_ rfl ?_ (fits_of_scanBound hb2))
    exact wpAny_pure (h _ _ _ _ (sb1.trans (Heap.SameBut.update _ a _)) (store_at x1 es2 t3 hfr) hp k1 (k2 hp2))
  · exact wpAny_pure (h _ _ _ _ sb1 x1 (List.Perm.refl _) rfl hp2)
theorem add_hashed {k:Str} {tk:Tok} {Q:Bool→Shared→Prop} (x:SetAt s.heap a es ep t) (hel:ElemsOf (PySem.strKind prog w) es.toList) (hb:es.size + 1 < scanBound)
    (h1:(∃ e∈es.toList,(PySem.strKind prog w).is k e.2 = true)→Q false s)
    (h2:(∀ e∈es.toList,(PySem.strKind prog w).is k e.2 = false)→∀ h' es' ep' t',Heap.SameBut a s.heap h'→SetAt h' a es' ep' t'→es'.toList.Perm (es.toList++[((PySem.strKind prog w).hash k, .str k tk)])→t'.led = t.led→t'.plain = false→Q true { s with heap:=h' }) :
    wpAny (model prog w) A (setAddHashed a (.str k tk) ((PySem.strKind prog w).hash k)) Q E s:=by
  have hkey:(PySem.strKind prog w).is k (.str k tk) = true:=strKind_is _ _ _ _
  unfold setAddHashed setAddHashedIn
  refine wpAny_holding (wpAny_bind (state_of x ?_))
  dsimp only
  rw [byScan_of (knd:=PySem.strKind prog w) rfl (Nat.lt_of_succ_lt hb) hel]
  simp only [↓reduceIte]
  unfold setAddByScan
  refine wpAny_bind ?_
  refine wpAny_bind (wpAny_rule ?_)
  refine wpAny_bind (wpAny_setScan_of hkey x.at_ rfl x.fits hel ?_)
  cases hr:List.findIdx? (fun e=>(PySem.strKind prog w).is k e.2) es.toList with
  | some j =>
    dsimp only
    obtain ⟨hj,hpj,_⟩:=List.findIdx?_eq_some_iff_getElem.mp hr
    exact wpAny_pure (wpAny_pure (h1 ⟨es.toList[j],List.getElem_mem hj,hpj⟩))
  | none =>
    dsimp only
    have hno:∀ e∈es.toList,(PySem.strKind prog w).is k e.2 = false:=fun e he=>List.findIdx?_eq_none_iff.mp hr e he
    have hgw:∀ (b:Bool) {s₁:Shared} {Q':Unit→Shared→Prop},Q' () s₁→wpAny (model prog w) A (match b with | true=>rule "set.scan.the-table-gave-way" | false=>pure ()) Q' E s₁ :=
      fun b s₁ Q' hq=>by cases b <;> first | exact wpAny_pure hq | exact wpAny_rule hq
    have hperm:=layNew_perm t es ((PySem.strKind prog w).hash k) (.str k tk)
    have hfits:=layNew_fits t es ((PySem.strKind prog w).hash k) (.str k tk)
    have hled:=layNew_led t es ((PySem.strKind prog w).hash k) (.str k tk)
    generalize layNew t es ((PySem.strKind prog w).hash k) (.str k tk) = L at hperm hfits hled ⊢
    obtain ⟨es1,t1,wasDummy,gave⟩:=L
    dsimp only at hperm hfits hled ⊢
    rw [Array.toList_push] at hperm
    have hb1':es1.size < scanBound:=by rw [← Array.length_toList,hperm.length_eq,List.length_append,Array.length_toList];exact hb
    refine wpAny_bind (hgw _ ?_)
    have hend:∀ {t2:SetTable},t2.led = t.led→∀ h' es' ep' t',Heap.SameBut a s.heap h'→SetAt h' a es' ep' t'→es'.toList.Perm es1.toList→t'.led = t2.led→t'.plain = false→Q true { s with heap:=h' }:=fun e h' es' ep' t' sb x' hp hl hpl=>h2 hno h' es' ep' t' sb x' (hp.trans hperm) (hl.trans e) hpl
    split
    · refine wpAny_bind ?_
      rw [hashByValue_scannable 8 (x:=.str k tk) rfl]
      refine wpAny_pure ?_
      refine add_tail (t2:={ t1 with plain:=false }) ?_ x hb1' (SetTable.fits_plain_off hfits) rfl fun h' es' ep' t' sb x' hp hl hpl=>?_
      · intro b s₁ Q' hq;cases b <;> first | exact wpAny_pure hq | exact wpAny_rule hq
      · exact wpAny_pure (hend (t2:={ t1 with plain:=false }) hled h' es' ep' t' sb x' hp hl hpl)
    · rename_i hpl
      refine wpAny_bind (wpAny_pure ?_)
      simp only [↓reduceIte]
      refine add_tail ?_ x hb1' hfits (by simpa using hpl) fun h' es' ep' t' sb x' hp hl hpl=>?_
      · intro b s₁ Q' hq;cases b <;> first | exact wpAny_pure hq | exact wpAny_rule hq
      · exact wpAny_pure (hend hled h' es' ep' t' sb x' hp hl hpl)
end
end Mine.Sw
end

section
open PySem PyProof.Rows PySem.Calls PySem.W
namespace Mine.Sw
noncomputable def add1 (S:List Str) (k:Str):List Str:=if k∈S then S else S++[k]
section
variable {prog:Program} {w:World} {A:Around} {E:Value→Shared→Prop} {s:Shared} {a:Addr} {es:Array (Int×Value)} {ep:Nat} {t:SetTable}
structure TxtSet (w:World) (prog:Program) (h:Heap) (a:Addr) (S:List Str):Prop where
  ex:∃ es ep t ks,SetAt h a es ep t∧ElemsOf (PySem.strKind prog w) es.toList∧StrsAre (es.toList.map (·.2)) ks∧ks.Perm S∧t.led = !(w.params.followText "set-order")∧(t.plain = false∨es.size = 0)
theorem strs_mem {es:List (Int×Value)} {ks:List Str} (h:StrsAre (es.map (·.2)) ks) (k:Str):(∃ e∈es,(PySem.strKind prog w).is k e.2 = true) ↔ k∈ks:=by
  induction es generalizing ks with
  | nil=>cases h;exact ⟨fun ⟨e,he,_⟩=>absurd he List.not_mem_nil,fun z=>absurd z List.not_mem_nil⟩
  | cons e es ih =>
    obtain ⟨h',v⟩:=e
    have h:StrsAre (v :: es.map (·.2)) ks:=h
    cases h with
    | cons x tk r =>
      have his:(PySem.strKind prog w).is k (.str x tk) = true ↔ k = x:=by
        constructor
        · intro z
          exact (PySem.strKind prog w).inj _ _ _ z (strKind_is _ _ _ _)
        · rintro rfl;exact strKind_is _ _ _ _
      rw [List.mem_cons,← ih r]
      constructor
      · rintro ⟨e,he,q⟩
        rcases List.mem_cons.1 he with rfl | he
        · exact .inl (his.1 q)
        · exact .inr ⟨e,he,q⟩
      · rintro (z | ⟨e,he,q⟩)
        · exact ⟨_, .head _,his.2 z⟩
        · exact ⟨e, .tail _ he,q⟩
theorem strs_perm {vs ws:List Value} (p:vs.Perm ws):∀ {ks:List Str},StrsAre ws ks→∃ ls,StrsAre vs ls∧ls.Perm ks:=by
  induction p with
  | nil=>intro ks h;exact ⟨ks,h,List.Perm.refl _⟩
  | cons x _ ih =>
    intro ks h
    cases h with
    | cons y tk r =>
      obtain ⟨ls,h1,h2⟩:=ih r
      exact ⟨y :: ls, .cons y tk h1,h2.cons y⟩
  | swap x y l =>
    intro ks h
    cases h with
    | cons y1 tk r=>cases r with
      | cons y2 tk2 r=>exact ⟨_, .cons y2 tk2 (.cons y1 tk r),List.Perm.swap ..⟩
  | trans _ _ ih1 ih2 =>
    intro ks h
    obtain ⟨ls,h1,h2⟩:=ih2 h
    obtain ⟨ms,h3,h4⟩:=ih1 h1
    exact ⟨ms,h3,h4.trans h2⟩
theorem strs_snoc {vs:List Value} {ks:List Str} (h:StrsAre vs ks) (k:Str) (tk:Tok):StrsAre (vs++[.str k tk]) (ks++[k]):=by
  induction h with
  | nil=>exact .cons k tk .nil
  | cons x t _ ih=>exact .cons x t ih
theorem strs_len {vs:List Value} {ks:List Str} (h:StrsAre vs ks):vs.length = ks.length:=by
  induction h with
  | nil=>rfl
  | cons x t _ ih=>rw [List.length_cons,List.length_cons,ih]
theorem strs_at {vs:List Value} {xs:List Str} (hs:StrsAre vs xs):∀ (i:Nat) {v:Value},vs[i]? = some v→∃ y ty,xs[i]? = some y∧v = .str y ty:=by
  induction hs with
  | nil=>intro i v hv;cases hv
  | cons y ty r ih =>
    intro i v hv
    cases i with
    | zero=>cases hv;exact ⟨y,ty,rfl,rfl⟩
    | succ i=>exact ih i hv
theorem add_txt {S:List Str} {k:Str} {tk:Tok} {Q:Bool→Shared→Prop} (x:TxtSet w prog s.heap a S) (hb:S.length + 1 < scanBound) (h:∀ b h' tk',Heap.SameBut a s.heap h'→TxtSet w prog h' a (add1 S k)→Q b { s with heap:=h',toks:=tk' }) :
    wpAny (model prog w) A (setAdd a (.str k tk)) Q E s:=by
  obtain ⟨es,ep,t,ks,x,hel,hs,hp,hl,hpl⟩:=x.ex
  have hz:es.size = S.length:=by rw [← hp.length_eq,← strs_len hs,List.length_map,Array.length_toList]
  unfold setAdd
  refine wpAny_holding (wpAny_bind ((PySem.strKind prog w).pyHash (strKind_is _ _ _ _) ?_))
  refine add_hashed (s:={ s with toks:=s.toks + 1 }) x hel (by rw [hz];exact hb) (fun hin=>?_) fun hno h' es' ep' t' sb x' hp' hl' hpl'=>?_
  · have hk:k∈S:=hp.mem_iff.1 ((strs_mem hs k).1 hin)
    have:=h false s.heap (s.toks + 1) (Heap.SameBut.refl a s.heap) ⟨es,ep,t,ks,x,hel,hs,by unfold add1;rw [if_pos hk];exact hp,hl,hpl⟩
    exact this
  · have hk:k ∉ S:=fun z=>by
      obtain ⟨e,he,q⟩:=(strs_mem (prog:=prog) (w:=w) hs k).2 (hp.mem_iff.2 z)
      rw [hno e he] at q;cases q
    obtain ⟨ls,h1,h2⟩:=strs_perm (hp'.map (·.2)) (ks:=ks++[k]) (by rw [List.map_append];exact strs_snoc hs k tk)
    refine h true h' (s.toks + 1) sb ⟨es',ep',t',ls,x',(hel.push (strKind_is _ _ _ _) rfl).perm hp',h1, ?_,hl'.trans hl, .inl hpl'⟩
    unfold add1
    rw [if_neg hk]
    exact h2.trans (hp.append_right _)
theorem add1_len (S:List Str) (k:Str):(add1 S k).length≤S.length + 1:=by
  unfold add1
  split
  · exact Nat.le_succ _
  · rw [List.length_append];exact Nat.le_refl _
theorem entry_upd_loop:entryFor table "set.update.loop" = some Builtin.«set.update.loop»:=entryFor_of_tree (by kernel_rfl)
theorem plain_upd_loop:plainId "set.update.loop" = true:=by decide +kernel
theorem upd_loop {R:Result→Shared→Prop} {l J:Addr} {vs:List Value} {xs:List Str} (hh:A.handled = none) (hs:StrsAre vs xs) (hlJ:l≠J) (haJ:a≠J) (hal:a≠l) :
    ∀ (n i:Nat) (s:Shared) (S:List Str),vs.length - i = n→i≤vs.length→s.heap.IsListIter J l i→s.heap.IsList l vs.toArray→TxtSet w prog s.heap a S→S.length + n + 1 < scanBound →
      (∀ h' tk,(∀ b o,b≠a→b≠J→s.heap.get? b = some o→h'.get? b = some o)→TxtSet w prog h' a ((xs.drop i).foldl add1 S)→R (.ok (.ret .none)) { s with heap:=h',toks:=tk }) →
      codeAny (model prog w) A (.builtin "set.update.loop" ⟨[.ref a, .ref J],[]⟩) R s:=by
  intro n
  have hlen:=strs_len hs
  induction n with
  | zero =>
    intro i s S hn hi hJ hl x hb hR
    have hin:i = vs.length:=Nat.le_antisymm hi (Nat.le_of_sub_eq_zero hn)
    subst hin
    refine codeAny_builtin entry_upd_loop ?_
    rw [Around.under_plainId plain_upd_loop _]
    show wpAny _ A.in1 (pyNext (.ref J) >>= _) _ _ s
    have W:=Walks.list (prog:=prog) (w:=w) (A:=A.in1) hh J l hlJ vs.toArray
    refine wpAny_bind (W.done s _ _ ⟨hJ,hl⟩ fun h' tk k=>?_)
    refine wpAny_pure (hR h' tk (fun b o _ hb e=>k b o (fun z=>hb (List.mem_singleton.1 z)) e) ?_)
    rw [List.drop_eq_nil_of_le (Nat.le_of_eq hlen.symm)]
    obtain ⟨es,ep,t,ks,x,r⟩:=x.ex
    exact ⟨es,ep,t,ks,⟨k _ _ (fun z=>haJ (List.mem_singleton.1 z)) x.at_,x.fits⟩,r⟩
  | succ n ih =>
    intro i s S hn hi hJ hl x hb hR
    have hlt:i < vs.length:=Nat.lt_of_sub_eq_succ hn
    refine codeAny_builtin entry_upd_loop ?_
    rw [Around.under_plainId plain_upd_loop _]
    show wpAny _ A.in1 (pyNext (.ref J) >>= _) _ _ s
    have W:=Walks.list (prog:=prog) (w:=w) (A:=A.in1) hh J l hlJ vs.toArray
    refine wpAny_bind (W.item i s _ _ (by simpa using hlt) ⟨hJ,hl⟩ fun v h' tk hv st k=>?_)
    have hv:vs[i]? = some v:=by simpa using hv
    obtain ⟨y,ty,hy,hvy⟩:=strs_at hs i hv
    subst hvy
    have x1:TxtSet w prog h' a S:=by
      obtain ⟨es,ep,t,ks,x,r⟩:=x.ex
      exact ⟨es,ep,t,ks,⟨k _ _ (fun z=>haJ (List.mem_singleton.1 z)) x.at_,x.fits⟩,r⟩
    show wpAny _ A.in1 (holding [.str y ty] (setAdd a (.str y ty)) >>= _) _ _ _
    refine wpAny_bind (wpAny_holding (add_txt (s:={ s with heap:=h',toks:=tk }) x1 (Nat.lt_of_le_of_lt (Nat.add_le_add_right (Nat.le_add_right _ _) 1) hb) fun b h2 tk2 sb x2=>?_))
    refine wpAny_pure ⟨plainId_quiet plain_upd_loop _,ih (i + 1) _ (add1 S y) (by rw [Nat.sub_succ,hn];rfl) hlt (st.1.at fun o e=>(sb.2 J haJ.symm).trans e) (st.2.at fun o e=>(sb.2 l hal.symm).trans e) x2 ?_ fun h3 tk3 k3 x3=>?_⟩
    · have:=add1_len S y
      exact Nat.lt_of_le_of_lt (Nat.add_le_add_right (Nat.le_trans (Nat.add_le_add_right this n) (Nat.le_of_eq (Nat.add_right_comm S.length 1 n))) 1) hb
    · refine hR h3 tk3 (fun b o hb1 hb2 e=>k3 b o hb1 hb2 ((sb.2 b hb1).trans (k b o (fun z=>hb2 (List.mem_singleton.1 z)) e))) ?_
      have hd:xs.drop i = y :: xs.drop (i + 1):=by
        have hix:i < xs.length:=hlen ▸ hlt
        rw [List.drop_eq_getElem_cons hix]
        rw [List.getElem?_eq_getElem hix] at hy
        injection hy with hy
        rw [hy]
      rw [hd]
      exact x3
theorem typeCall_set_1 (v:Value):checkTypeCall "set" ⟨[v],[]⟩ = pure ():=by kernel_rfl
theorem newCall_set_1 (v:Value):checkBuiltinCall "set.__new__" ⟨[.type "set",v],[]⟩ = pure ():=by kernel_rfl
theorem code_new1 {v:Value} {Q₁:Value→Shared→Prop} (h:Q₁ (.ref s.heap.objs.size) { s with heap:=s.heap.push { cls:=.type "set",dict:=none,data:=.set #[] 0 (.fresh 0 0 (!(w.params.followText "set-order"))) } }) :
    codeAny (model prog w) A (.call (.builtin "set.__new__") ⟨[.type "set",v],[]⟩) (wants Q₁ E) s:=by
  refine codeAny_of_tree ?_
  show wpAny _ A.in1 (do checkBuiltinCall "set.__new__" ⟨[.type "set",v],[]⟩;again (.builtin "set.__new__" ⟨[.type "set",v],[]⟩)) _ _ s
  refine wpAny_bind (wpAny_of_eq (newCall_set_1 v) (wpAny_pure ⟨plainId_quiet F.plain_set_new _,codeAny_builtin F.entry_set_new ?_⟩))
  rw [Around.under_plainId F.plain_set_new _]
  unfold Builtin.«set.__new__» Builtin.Frozenset.newClass
  have hsub:=sub_set_self
  obtain ⟨hp,g,d,tk,os⟩:=s
  dsimp only
  wp_walk
  refine wpAny_askSetting (wpAny_pure ?_)
  dsimp only
  simp only [newObj]
  refine wpAny_bind (wpAny_alloc (wpAny_pure ?_))
  exact wpAny_pure h
theorem check_init1 {self v:Value} {Q:Unit→Shared→Prop} (hT:s.TypeIs self "set") (hQ:Q () s):wpAny (model prog w) A (checkBuiltinCall "set.__init__" ⟨[self,v],[]⟩) Q E s:=by
  simp only [checkBuiltinCall,kind_set_init,split_set_init,sig_set_init]
  refine wpAny_bind (wpAny_isInstance hT sub_set_self ?_)
  simp only [Bool.not_true,Bool.false_eq_true,if_false]
  unfold Bind.checkArgs
  dsimp only
  refine wpAny_bind (m:=Bind.printed "set" true _ _) (PyProof.Rows.printed_name (by decide) ?_)
  refine wpAny_bind (m:=Bind.printed "*" false _ _) (PyProof.Rows.printed_star (self:=self) rfl hT fun short=>?_)
  have hrn:(Manifest.Receiver.self == Manifest.Receiver.none) = false:=by decide
  have hn:(if (Manifest.Receiver.self == Manifest.Receiver.none) = true then [self,v].length else [self,v].length - 1) = 1:=by simp [hrn]
  rw [hn]
  simp only [List.map_nil]
  have hc:Bind.check ⟨.positional, "set", "*", .self,[⟨"iterable", .posOnly,false⟩]⟩ "set" short 1 [] = pure ():=by
    simp [Bind.check,Bind.checkCount,Bind.isPositional]
    exact fun z=>absurd z (by decide)
  rw [hc]
  exact wpAny_pure hQ
set_option maxHeartbeats 1000000 in
theorem call_set {l:Addr} {vs:List Value} {xs:List Str} {Q:Value→Shared→Prop} (hh:A.handled = none) (hl:s.heap.IsList l vs.toArray) (hs:StrsAre vs xs) (hz:xs.length + 1 < scanBound)
    (h:∀ h' tk,(∀ b o,s.heap.get? b = some o→h'.get? b = some o)→TxtSet w prog h' s.heap.objs.size (xs.foldl add1 [])→Q (.ref s.heap.objs.size) { s with heap:=h',toks:=tk }) :
    wpAny (model prog w) A (call (.type "set") [.ref l]) Q E s:=by
  obtain ⟨c,tl,hmro⟩:=F.called_set.mro
  have hmade:=F.called_set.made
  have hsub:=F.called_set.sub
  have hll:l < s.heap.objs.size:=let ⟨_,e,_⟩:=hl;Heap.lt_size e
  refine wpAny_call (codeAny_of_tree ?_)
  show wpAny _ _ (callAny (.type "set") _) _ _ _
  refine wpAny_pure ⟨Code.quiet_builtin _ (by decide +kernel),codeAny_builtin F.entry_type_call ?_⟩
  rw [Around.under_plain (weight_type_call_type "set" [.ref l] []) rfl]
  have h1:=F.called_set.notType
  have h2:=F.called_set.canCreate
  have hct:=typeCall_set_1 (.ref l)
  repeat (any_goals (first | assumption | wp_step))
  refine codeAny_mono (code_new1 (E:=E) (Q₁:=fun obj s₁=>obj = .ref s.heap.objs.size∧s₁ = { s with heap:=s.heap.push { cls:=.type "set",dict:=none,data:=.set #[] 0 (.fresh 0 0 (!(w.params.followText "set-order"))) } }) ⟨rfl,rfl⟩) fun r s₁ hr=>?_
  cases r with
  | error e=>exact hr
  | ok fl =>
    cases fl with
    | ret obj =>
      obtain ⟨rfl,rfl⟩:=hr
      have hS:(s.heap.push { cls:=.type "set",dict:=none,data:=.set #[] 0 (.fresh 0 0 (!(w.params.followText "set-order"))) }).get? s.heap.objs.size = some { cls:=.type "set",dict:=none,data:=.set #[] 0 (.fresh 0 0 (!(w.params.followText "set-order"))) }:=Heap.get?_push_size _ rfl
      have hT:Shared.TypeIs { s with heap:=s.heap.push { cls:=.type "set",dict:=none,data:=.set #[] 0 (.fresh 0 0 (!(w.params.followText "set-order"))) } } (.ref s.heap.objs.size) "set" := ⟨_,hS,rfl⟩
      have hli:=F.called_set.init.lookup
      have hbi:=F.called_set.init.bind (.ref s.heap.objs.size)
      repeat (any_goals (first | assumption | wp_step))
      refine codeAny_mono (codeAny_call_builtin (R:=wants (fun r s₂=>r = .none∧Q (.ref s.heap.objs.size) s₂) E) F.called_set.init.plain F.entry_set_init (check_init1 hT ?_)) fun r₂ s₂ hr₂=>?_
      · obtain ⟨ol,hol,hcl,nl,hdl⟩:=hl
        obtain ⟨ocls,odict,odata,oslots⟩:=ol
        simp only at hcl hdl
        subst hcl;subst hdl
        have hol':(s.heap.push { cls:=.type "set",dict:=none,data:=.set #[] 0 (.fresh 0 0 (!(w.params.followText "set-order"))) }).get? l = some { cls:=.type "list",dict:=odict,data:=.seq vs.toArray nl,slots:=oslots }:=Heap.get?_push_of_some _ hol
        have hsls:=F.sub_list_set
        have hslf:=F.sub_list_frozenset
        have hne:(Value.type "list" == Value.type "dict") = false:=by decide
        have hl1:(s.heap.push { cls:=.type "set",dict:=none,data:=.set #[] 0 (.fresh 0 0 (!(w.params.followText "set-order"))) }).IsList l vs.toArray:=⟨_,hol',rfl,nl,rfl⟩
        unfold Builtin.«set.__init__» noKeywords Builtin.Frozenset.updateFrom
        generalize hPI:pyIter = PI
        wp_walk
        subst hPI
        refine wpAny_pyIter_list hl1 ?_
        refine wpAny_bind (wpAny_runValue ?_)
        have hget:=Heap.get?_push_of_some (h:=s.heap.push { cls:=.type "set",dict:=none,data:=.set #[] 0 (.fresh 0 0 (!(w.params.followText "set-order"))) }) { cls:=.type "list_iterator",data:=.fields #[.ref l, .int 0 0] } hS
        have hle:=strs_len hs
        refine upd_loop (by simp [hh]) hs (l:=l) (by rw [Heap.size_push];exact Nat.ne_of_lt (Nat.lt_succ_of_lt hll)) (by rw [Heap.size_push];exact Nat.ne_of_lt (Nat.lt_succ_self _)) (Nat.ne_of_gt hll) vs.length 0 _ [] rfl (Nat.zero_le _)
          ⟨_,Heap.get?_push_size _ rfl,rfl,rfl⟩ (hl1.push _) ⟨#[],0,_,[],⟨hget, ?_⟩, ?_, .nil,List.Perm.refl _, ?_, .inr rfl⟩ ?_ ?_
        · rfl
        · exact fun e he=>absurd he List.not_mem_nil
        · rfl
        · rw [hle,List.length_nil,Nat.zero_add];exact hz
        · intro h' tk k x
          refine wpAny_pure (wpAny_pure ⟨rfl,h h' tk (fun b o e=>?_) x⟩)
          have hb:=Heap.lt_size e
          exact k b o (Nat.ne_of_lt hb) (by rw [Heap.size_push];exact Nat.ne_of_lt (Nat.lt_succ_of_lt hb)) (Heap.get?_push_of_some _ (Heap.get?_push_of_some _ e))
      · cases r₂ with
        | error e=>exact hr₂
        | ok fl₂ =>
          cases fl₂ with
          | ret r =>
            obtain ⟨rfl,hq⟩:=hr₂
            repeat (any_goals (first | assumption | wp_step))
          | _=>exact hr₂.elim
    | _=>exact hr.elim
end
end Mine.Sw
end

section
open PySem PyProof.Rows
namespace Mine
@[reducible] noncomputable def numKind:PyProof.Rows.KeyKind where
  α:=Int
  blt a b:=decide (a < b)
  irrefl a:=decide_eq_false (Int.lt_irrefl a)
  trans a b c h1 h2:=decide_eq_true (Int.lt_trans (of_decide_eq_true h1) (of_decide_eq_true h2))
  negTrans a b c h:=(Int.lt_or_le a b).elim (fun q=>.inl (decide_eq_true q)) fun q=>.inr (decide_eq_true (Int.lt_of_le_of_lt q (of_decide_eq_true h)))
  total a b h1 h2:=Int.le_antisymm (Int.not_lt.1 (of_decide_eq_false h2)) (Int.not_lt.1 (of_decide_eq_false h1))
  keyOf v:=match v with | .int n _=>some n | _=>none
  dflt:=0
theorem numKind_oneLt:numKind.OneLt:=by
  intro prog w A E s x y a b Q ha hb h
  cases x <;> simp only [numKind,reduceCtorEq,Option.some.injEq] at ha
  cases y <;> simp only [numKind,reduceCtorEq,Option.some.injEq] at hb
  cases ha;cases hb
  exact oneLt_int h
section
variable {prog:Program} {w:World} {A:Around} {E:Value→Shared→Prop} {s:Shared}
theorem sort_any {κ:PyProof.Rows.KeyKind} (hO:κ.OneLt) {a:Addr} {vs:List Value} {n:Nat} {P:Fin→Shared→Prop} (ho:s.heap.get? a = some (seqObj "list" vs.toArray n))
    (h0:KeysOf κ (pairsOf vs)) (hkk:∀ v₁ v₂ rest,vs = v₁ :: v₂ :: rest→PyProof.Rows.keyKind' (v₁ :: v₂ :: rest).toArray = pure oneType') (h64:vs.length < 64)
    (h:∀ st':SortSt,(arrOf st').Perm (pairsOf vs)→SortedToK κ (arrOf st') (pairsOf vs).size→P (.done (.ret .none)) { s with heap:=sortedHeap s.heap a vs ((arrOf st').map (·.2)) }) :
    wpAny (model prog w) A (Builtin.«list.sort» ⟨[.ref a],[]⟩) P E s :=
  list_sort_treeK hO ho h0 hkk h64 h
theorem sort_ints {a:Addr} {vs:List Value} {ns:List Int} {n:Nat} {P:Fin→Shared→Prop} (ho:s.heap.get? a = some (seqObj "list" vs.toArray n)) (hI:IntsAre vs ns) (hz:vs.length < 64)
    (h:∀ (out:Array Value) (ns':List Int),IntsAre out.toList ns'→ns'.Perm ns→ns'.Pairwise (·≤·)→P (.done (.ret .none)) { s with heap:=sortedHeap s.heap a vs out }) :
    wpAny (model prog w) A (Builtin.«list.sort» ⟨[.ref a],[]⟩) P E s:=by
  refine sort_any numKind_oneLt ho ?_ ?_ hz fun st' hp hs=>?_
  · intro p hp
    obtain ⟨n,t,e⟩:=hI.intKeys p hp
    exact ⟨n,by rw [e]⟩
  · intro v1 v2 r e
    exact keyKind_ints (by rw [← e];exact hI)
  · have e:∀ k,KK numKind (arrOf st') k = K (arrOf st') k:=fun k=>by
      unfold KK K
      cases (arrOf st')[k]? with
      | none=>rfl
      | some p=>obtain ⟨u,v⟩:=p;cases u <;> rfl
    obtain ⟨ns',r1,r2,r3⟩:=sorted_out hI hp fun i j hij hj=>by
      have:=hs i j hij hj
      rw [e,e] at this
      have:decide (K (arrOf st') j < K (arrOf st') i) = false:=this
      exact Int.not_lt.1 (of_decide_eq_false this)
    exact h _ ns' r1 r2 r3
theorem sort_strs {a:Addr} {vs:List Value} {ss:List Str} {n:Nat} {P:Fin→Shared→Prop} (ho:s.heap.get? a = some (seqObj "list" vs.toArray n)) (hS:StrsAre vs ss) (hz:vs.length < 64)
    (h:∀ (out:Array Value) (ss':List Str),StrsAre out.toList ss'→ss'.Perm ss→sortedS ss' = true→P (.done (.ret .none)) { s with heap:=sortedHeap s.heap a vs out }) :
    wpAny (model prog w) A (Builtin.«list.sort» ⟨[.ref a],[]⟩) P E s:=by
  refine sort_any PyProof.Rows.strKind_oneLt ho hS.keysOf (fun v₁ v₂ rest e=>keyKind_strs (by rw [← e];exact hS)) hz fun st' hp hs=>?_
  obtain ⟨ss',h1,h2,h3⟩:=sorted_out_str hS hp hs
  exact h _ ss' h1 h2 h3
end
end Mine
end

section
open PySem PyProof.Rows
namespace Mine
noncomputable def HdAt (A:Around) (h:Heap):Prop:=A.handled = none∨∃ e o vs,A.handled = some (.ref e)∧h.get? e = some o∧o.data = .fields vs∧vs[2]? = some Value.none
section
variable {prog:Program} {w:World} {A:Around} {E:Value→Shared→Prop} {s:Shared}
theorem entry_unchain:entryFor table "proto.unchain" = some Builtin.«proto.unchain»:=entryFor_of_fast (by kernel_rfl)
theorem unchain_at {v sl:Value} {e:Addr} {o:Obj} {vs:Array Value} {b:Bool} {Q:Value→Shared→Prop} (h1:s.heap.get? e = some o) (h2:o.data = .fields vs) (h3:vs[2]? = some Value.none) (q:Q .none s) :
    wpAny (model prog w) A (runValue (.builtin "proto.unchain" ⟨[v, .ref e,sl, .bool b],[]⟩)) Q E s:=by
  refine runValue_entry entry_unchain ?_
  show wpAny _ _ (field (.ref e) 2 >>= _) _ _ s
  refine wpAny_bind (wpAny_field h1 h2 h3 ?_)
  show wpAny _ _ (if (Value.none == Value.none) = true then _ else _) _ _ s
  rw [if_pos (show (Value.none == Value.none) = true from rfl)]
  exact wpAny_pure ⟨_,rfl,q⟩
theorem raiseNew_at {α:Type} {Q:α→Shared→Prop} {a:Addr} {o:Obj} {vs:Array Value} (hd:HdAt A s.heap) (hn:∀ e,A.handled = some (.ref e)→e≠a) (h1:s.heap.get? a = some o) (h2:o.data = .fields vs) (h3:2 < vs.size)
    (h:∀ h' o',Heap.ExtBut a s.heap h'→h'.get? a = some o'→o'.cls = o.cls→E (.ref a) { s with heap:=h' }):wpAny (model prog w) A (raiseNew (α:=α) (.ref a)) Q E s:=by
  unfold raiseNew
  refine wpAny_bind (wpAny_handled ?_)
  rcases hd with hd | ⟨e,oe,ve,e1,e2,e3,e4⟩
  · rw [hd]
    exact wpAny_bind (wpAny_pure (wpAny_throw (h _ _ (fun _ _ _ x=>x) h1 rfl)))
  · rw [e1]
    have ne:=hn e e1
    dsimp only
    rw [if_pos (by simpa using ne)]
    refine wpAny_bind (wpAny_holding (unchain_at e2 e3 e4 ?_))
    refine wpAny_bind ?_
    refine wpAny_mono (wpAny_setField (x:=.ref e) (i:=2) h1 h2 h3 (Q:=fun _ s'=>s' = { s with heap:=s.heap.update a (Obj.mapFields (·.setIfInBounds 2 (.ref e))) }) rfl) (fun _ s' z=>?_) fun _ _ z=>z
    subst z
    exact wpAny_throw (h _ _ (Heap.SameBut.update ..).extBut (Heap.get?_update_self _ h1 (Obj.isFreed_of_fields (Obj.data_mapFields h2 _))) (Obj.cls_mapFields ..))
theorem next_list_end {it l:Addr} {i:Nat} {items} {Q:Option Value→Shared→Prop} (hh:HdAt A s.heap) (hn:∀ e,A.handled = some (.ref e)→e≠it)
    (hit:s.heap.IsListIter it l i) (hl:s.heap.IsList l items) (hx:items[i]? = none)
    (hQ:∀ h',Heap.ExtBut it s.heap h'→Q none { s with heap:=h' }):wpAny (model prog w) A (pyNext (.ref it)) Q E s:=by
  obtain ⟨o,ho,hc,hd⟩:=id hit
  obtain ⟨ol,hol,_,nl,hdl⟩:=hl
  unfold pyNext
  refine wpAny_bind (wpAny_attempt (wpAny_callSpecial?_slot (name:=Str.ofString "__next__") hit.typeIs slot_listiter_next
    (wpAny_call_entry slot_listiter_next hit.typeIs entry_listiter_next ?_ (args_listiter_next _))))
  show wpAny _ _ (field (.ref it) 0 >>= _) _ _ s
  refine wpAny_bind (wpAny_field ho hd (x:=.ref l) rfl ?_)
  show wpAny _ _ (if (Value.ref l == Value.none) = true then _ else _) _ _ s
  rw [if_neg (show ¬ ((Value.ref l == Value.none) = true) from Bool.false_ne_true)]
  show wpAny _ _ (field (.ref it) 1 >>= _) _ _ s
  refine wpAny_bind (wpAny_field ho hd (x:=.int i 0) rfl ?_)
  show wpAny _ _ (seqItems? (.ref l) >>= _) _ _ s
  refine wpAny_bind (wpAny_seqItems hol hdl ?_)
  simp only [Int.toNat_natCast,hx]
  refine wpAny_bind (wpAny_rule (wpAny_bind (wpAny_setField ho hd (by simp) ?_)))
  show wpAny _ _ (newExc (.type "StopIteration") [] >>= _) _ _ _
  refine wpAny_bind ?_
  simp only [newExc,newTuple]
  refine wpAny_bind (wpAny_newObj_type ?_ (by size_fits))
  refine wpAny_bind (m:=firstArgMember _ _) (wpAny_of_eq (a:=Value.none) (by first | rfl | (simp only [firstArgMember];rfl)) ?_)
  refine wpAny_newObj_type ?_ (by size_fits)
  refine raiseNew_at (hh.imp id fun ⟨e,o,vs,e1,e2,e3,e4⟩=>⟨e,o,vs,e1,(((Heap.SameBut.update ..).extBut.push _).push _) e o (hn e e1) e2,e3,e4⟩) (fun e e1=>?_) (Heap.get?_push_size _ rfl) rfl (by rw [show ownMembersOf (.type "StopIteration") [] = #[] from rfl];simp) fun h' o' x1 x2 x3=>?_
  · rcases hh with hh | ⟨e',o,vs,e1',e2,_⟩
    · rw [show A.in1.handled = none from hh] at e1;cases e1
    · rw [show A.in1.handled = some (.ref e') from e1'] at e1
      cases e1
      have:=Heap.lt_size e2
      intro q;subst q
      rw [Heap.size_push,Heap.size_after_update] at this
      exact absurd this (Nat.not_lt.2 (Nat.le_succ _))
  refine wpAny_bind (wpAny_isInstance (T := "StopIteration") (b:=true) ⟨_,x2,x3⟩ isSubtype_stop ?_)
  refine wpAny_pure (hQ _ fun b o hb e=>x1 b o ?_ ((((Heap.SameBut.update ..).extBut.push _).push _) b o hb e))
  intro q;subst q
  have:=Heap.lt_size e
  rw [Heap.size_push,Heap.size_after_update] at this
  exact absurd this (Nat.not_lt.2 (Nat.le_succ _))
end
end Mine
end

section
open PySem PyProof.Rows PySem.Calls
namespace Mine
noncomputable def er:Value→Value
  | .int i _=>.int i 0
  | .float b _=>.float b 0
  | .str x _=>.str x 0
  | .bytes b _=>.bytes b 0
  | v=>v
theorem er_int {V:Value} {i:Int} {t:Tok} (h:er V = .int i t):∃ u,V = .int i u:=by
  cases V <;> simp [er] at h;exact ⟨_,by rw [h.1]⟩
theorem er_str {V:Value} {x:Str} {t:Tok} (h:er V = .str x t):∃ u,V = .str x u:=by
  cases V <;> simp [er] at h;exact ⟨_,by rw [h.1]⟩
theorem er_bool {V:Value} {b:Bool} (h:er V = .bool b):V = .bool b:=by
  cases V <;> simp [er] at h;rw [h]
theorem er_none {V:Value} (h:er V = .none):V = .none:=by
  cases V <;> simp [er] at h;rfl
theorem er_ref {V:Value} {a:Addr} (h:er V = .ref a):V = .ref a:=by
  cases V <;> simp [er] at h;rw [h]
inductive AObj where
  | list (xs:List Value)
  | rlist (xs:List Value)
  | tup (xs:List Value)
  | idict (kvs:List (Int×Value))
  | sdict (kvs:List (Str×Value))
  | inst (C d:Addr)
  | ns (kvs:List (Str×Value))
  | range (lo hi st:Int)
  | exc (C:Addr)
  | tab
noncomputable abbrev Hp:=Addr→Option AObj
noncomputable abbrev Loc:=Str→Option Value
noncomputable abbrev QV:=Value→Hp→Prop
noncomputable abbrev XV:=Addr→Hp→Prop
noncomputable def Hp.upd (H:Hp) (a:Addr) (o:AObj):Hp:=fun b=>if b = a then some o else H b
noncomputable def Loc.upd (l:Loc) (x:Str) (v:Value):Loc:=fun y=>if y = x then some v else l y
noncomputable def Loc.del (l:Loc) (x:Str):Loc:=fun y=>if y = x then none else l y
theorem Hp.upd_same (H:Hp) (a:Addr) (o:AObj):H.upd a o a = some o:=by simp [Hp.upd]
theorem Hp.upd_ne (H:Hp) {a b:Addr} (o:AObj) (h:b≠a):H.upd a o b = H b:=by simp [Hp.upd,h]
inductive Ty where
  | str | int | bool | list | tuple | listOrTuple | valueError
  | cls (x:Str)
  deriving DecidableEq
inductive Bf where
  | len | list | sorted | sortedSet | int | all | max1 | max2 | range
  deriving DecidableEq
inductive Bm where
  | append | pop | join
  deriving DecidableEq
inductive Ex where
  | none
  | bool (b:Bool)
  | int (i:Int)
  | str (x:Str)
  | loc (x:Str)
  | glob (x:Str)
  | attr (o:Ex) (a:Str)
  | bin (op:Operator) (l r:Ex)
  | neg (e:Ex)
  | not (e:Ex)
  | bop (isAnd:Bool) (es:List Ex)
  | cmp (l:Ex) (op:CmpOp) (r:Ex)
  | cmp2 (l:Ex) (op:CmpOp) (m:Ex) (op2:CmpOp) (r:Ex)
  | isi (e:Ex) (t:Ty)
  | bf (f:Bf) (args:List Ex)
  | bm (m:Bm) (o:Ex) (args:List Ex)
  | call (f:Ex) (args:List Ex)
  | meth (o:Ex) (m:Str) (args:List Ex)
  | idx (o i:Ex)
  | slice (o:Ex) (lo hi:Option Ex)
  | list (es:List Ex)
  | tup (es:List Ex)
  | dict (ks vs:List Ex)
  | comp (elt:Ex) (x:Str) (src:Ex) (ifs:List Ex)
mutual
inductive Sm where
  | expr (e:Ex)
  | asg (x:Str) (e:Ex)
  | asgAttr (o:Ex) (a:Str) (e:Ex)
  | asgIdx (o i e:Ex)
  | ite (c:Ex) (t f:List Sm)
  | for_ (x:Str) (src:Ex) (body:List Sm)
  | while_ (c:Ex) (body:List Sm)
  | ret (e:Ex)
  | raise (c:Str)
  | try_ (body:List Sm) (hs:List Hd)
  | cont
  | pass
inductive Hd where
  | mk (c:Str) (n:Option Str) (body:List Sm)
end
structure Pm where
  prog:Program
  w:World
  s₀:Shared
  mg:Str→Option Value
  mb:Str→Option Value
  K:PySem.W.Frag
  lam:Option (Addr×Addr):=none
noncomputable abbrev Pm.base (P:Pm):Heap:=P.s₀.heap
noncomputable abbrev Pm.M (P:Pm):Model:=model P.prog P.w
structure PmOk (P:Pm):Prop where
  g:P.base.Ns mainGlobals P.mg
  b:P.base.Ns builtinsNs P.mb
  lim:P.base.NoLimit
  kin:P.K.In P.base
  lam:∀ c T,P.lam = some (c,T)→PySem.W.CodeHd P.base c T∧P.base.BuiltinsAt P.mg T
inductive All2 {α β:Type} (R:α→β→Prop):List α→List β→Prop where
  | nil:All2 R [] []
  | cons {a b as bs}:R a b→All2 R as bs→All2 R (a :: as) (b :: bs)
noncomputable def NsEs (w:World) (es:List DictEntry) (kvs:List (Str×Value)):Prop :=
  All2 (fun e p=>(∃ t,e.key = .str p.1 t)∧er e.val = p.2∧e.hash = PyData.keyHash w.params p.1) es kvs
noncomputable def IsL (h:Heap) (a:Addr) (vs:Array Value):Prop:=∃ n,h.get? a = some { cls:=.type "list",dict:=none,data:=.seq vs n,slots:=#[] }
noncomputable def Mt (P:Pm) (h:Heap) (a:Addr):AObj→Prop
  | .list xs=>∃ vs,h.IsList a vs∧vs.toList.map er = xs∧xs.length≤2 ^ 25∧IsL h a vs
  | .rlist xs=>∃ vs,h.IsList a vs∧vs.toList.map er = xs∧xs.length≤2 ^ 25
  | .tup xs=>∃ vs,h.IsTuple a vs∧vs.toList.map er = xs∧xs.length≤2 ^ 25
  | .idict kvs=>∃ ks,h.DictOf (intKind P.prog P.w) a ks∧ks.map (fun p=>(p.1,er p.2)) = kvs
  | .sdict kvs=>∃ ks,h.DictOf (PySem.strKind P.prog P.w) a ks∧ks.map (fun p=>(p.1,er p.2)) = kvs
  | .inst C d=>h.get? a = some { cls:=.ref C,dict:=some d,data:=.plain }
  | .ns kvs=>∃ es n,h.get? a = some { cls:=.type "dict",data:=.dict es n }∧NsEs P.w es.toList kvs∧(kvs.map (·.1)).Nodup
  | .range lo hi st=>∃ t u v,IsRange h a lo hi st t u v
  | .exc C=>∃ vs sl,h.get? a = some { cls:=.ref C,dict:=none,data:=.fields vs,slots:=sl }
  | .tab=>∃ c ps,P.lam = some (c,a)∧h.get? a = some (PySem.W.tabObj ps)∧TriplesOk ps.toList
theorem Mt.congr {P:Pm} {h h':Heap} {a:Addr} {o:AObj} (e:h'.get? a = h.get? a) (m:Mt P h a o):Mt P h' a o:=by
  cases o with
  | list xs=>obtain ⟨vs,⟨o,ho,r⟩,q1,q2,n,q3⟩:=m;exact ⟨vs,⟨o,e.trans ho,r⟩,q1,q2,n,e.trans q3⟩
  | rlist xs=>obtain ⟨vs,⟨o,ho,r⟩,q⟩:=m;exact ⟨vs,⟨o,e.trans ho,r⟩,q⟩
  | tup xs=>obtain ⟨vs,⟨o,ho,r⟩,q⟩:=m;exact ⟨vs,⟨o,e.trans ho,r⟩,q⟩
  | idict xs=>obtain ⟨vs,⟨o,es,ep,ho,r⟩,q⟩:=m;exact ⟨vs,⟨o,es,ep,e.trans ho,r⟩,q⟩
  | sdict xs=>obtain ⟨vs,⟨o,es,ep,ho,r⟩,q⟩:=m;exact ⟨vs,⟨o,es,ep,e.trans ho,r⟩,q⟩
  | inst C d=>exact e.trans m
  | ns kvs=>obtain ⟨es,n,ho,r⟩:=m;exact ⟨es,n,e.trans ho,r⟩
  | range lo hi st=>obtain ⟨t,u,v,ho⟩:=m;exact ⟨t,u,v,e.trans ho⟩
  | exc C=>obtain ⟨vs,sl,ho⟩:=m;exact ⟨vs,sl,e.trans ho⟩
  | tab=>obtain ⟨c,ps,h1,h2,h3⟩:=m;exact ⟨c,ps,h1,e.trans h2,h3⟩
theorem Mt.some {P:Pm} {h:Heap} {a:Addr} {o:AObj} (m:Mt P h a o):∃ O,h.get? a = some O:=by
  cases o with
  | list xs=>obtain ⟨vs,⟨o,ho,r⟩,q⟩:=m;exact ⟨o,ho⟩
  | rlist xs=>obtain ⟨vs,⟨o,ho,r⟩,q⟩:=m;exact ⟨o,ho⟩
  | tup xs=>obtain ⟨vs,⟨o,ho,r⟩,q⟩:=m;exact ⟨o,ho⟩
  | idict xs=>obtain ⟨vs,⟨o,es,ep,ho,r⟩,q⟩:=m;exact ⟨o,ho⟩
  | sdict xs=>obtain ⟨vs,⟨o,es,ep,ho,r⟩,q⟩:=m;exact ⟨o,ho⟩
  | inst C d=>exact ⟨_,m⟩
  | ns kvs=>obtain ⟨es,n,ho,r⟩:=m;exact ⟨_,ho⟩
  | range lo hi st=>obtain ⟨t,u,v,ho⟩:=m;exact ⟨_,ho⟩
  | exc C=>obtain ⟨vs,sl,ho⟩:=m;exact ⟨_,ho⟩
  | tab=>obtain ⟨c,ps,h1,h2,h3⟩:=m;exact ⟨_,h2⟩
structure Fm where
  env:Env
  A:Around
  g:Addr→Option Obj
  fr:Addr→Option Data
  ro:Bool
  x:Option Addr:=none
noncomputable def lamX:Str := "looked"
structure FmOk (P:Pm) (F:Fm):Prop where
  kind:F.env.scope.kind = .function
  glob:F.env.globals = mainGlobals
  blt:F.env.builtins = builtinsNs
  base:∀ b o,P.base.get? b = some o→F.g b = some o
  above:P.base.objs.size≤F.env.locals
  lg:F.g F.env.locals = none
  lf:F.fr F.env.locals = none
  cl:∀ x c,(x,c)∈F.env.cells→c≠F.env.locals
  cg:F.ro = false→∀ x c,(x,c)∈F.env.cells→F.g c = none∧F.fr c = none
  apart:F.env.cells.Pairwise (fun x y=>x.2≠y.2)
  cn:∀ x c,(x,c)∈F.env.cells→F.env.cells.lookup x = some c
  cf:∀ x c,(x,c)∈F.env.cells→F.fr c = none
  fg:∀ b d,F.fr b = some d→F.g b = none∧∀ vs,d≠.fields vs
  frames:∃ fenv outer,F.A.frames = some (fenv :: outer)∧(F.ro = false→fenv = F.env∧F.env.frame = some F.env.locals) ∧
    ∀ e∈fenv :: outer,e.scope.kind≠.module∧∃ b,e.frame = some b∧(b = F.env.locals∨(F.fr b).isSome = true)
  xg:∀ a,F.x = some a→(∃ O,F.g a = some O)∧F.A.handled = some (.ref a)
  code:∀ c T,P.lam = some (c,T)→F.env.kindOf lamX = some .local→F.env.code = .ref c
noncomputable def Bigs (P:Pm) (a:Addr):AObj→Prop
  | .idict _ | .sdict _=>P.base.objs.size≤a
  | _=>True
theorem bigs_of {P:Pm} {a:Addr} {o:AObj} (h:P.base.objs.size≤a):Bigs P a o:=by cases o <;> first | exact h | trivial
noncomputable def AObj.isR:AObj→Bool
  | .rlist _=>true
  | .exc _=>true
  | _=>false
noncomputable def AObj.isRL:AObj→Bool
  | .rlist _=>true
  | _=>false
noncomputable def Hp.del (H:Hp) (e:Addr):Hp:=fun b=>if b = e then none else H b
noncomputable def Fre (P:Pm) (F:Fm) (a:Addr):AObj→Prop
  | .rlist _=>∃ O,P.base.get? a = some O
  | .exc _=>F.x = some a
  | _=>F.g a = none∧F.fr a = none∧a≠F.env.locals∧∀ x c,(x,c)∈F.env.cells→a≠c
theorem fre_of {P:Pm} {F:Fm} {a:Addr} {o:AObj} (hr:o.isR = false) (h:F.g a = none∧F.fr a = none∧a≠F.env.locals∧∀ x c,(x,c)∈F.env.cells→a≠c):Fre P F a o:=by cases o <;> first | exact h | cases hr
theorem of_fre {P:Pm} {F:Fm} {a:Addr} {o:AObj} (h:Fre P F a o) (hr:o.isR = false):F.g a = none∧F.fr a = none∧a≠F.env.locals∧∀ x c,(x,c)∈F.env.cells→a≠c:=by cases o <;> first | exact h | cases hr
theorem r_fre {P:Pm} {F:Fm} {a:Addr} {o:AObj} (h:Fre P F a o) (hr:o.isR = true):(∃ O,P.base.get? a = some O)∨F.x = some a:=by cases o <;> first | exact .inl h | exact .inr h | cases hr
theorem fre_r {P:Pm} {F F':Fm} {a:Addr} {o:AObj} (hr:o.isR = true) (hx:F'.x = F.x) (h:Fre P F a o):Fre P F' a o:=by cases o <;> first | exact h | exact hx.trans h | cases hr
structure Inv (P:Pm) (F:Fm) (l:Loc) (H:Hp) (s:Shared):Prop where
  gens:s.gens = P.s₀.gens
  os:s.os = P.s₀.os
  keep:∀ b o,F.g b = some o→s.heap.get? b = some o
  frk:∀ b d,F.fr b = some d→∃ o,s.heap.get? b = some o∧o.data = d
  loc:∃ m,s.heap.Ns F.env.locals m∧∀ x v,l x = some v→F.env.kindOf x = some .local→∃ V,m x = some V∧er V = v
  cel:∀ x c,F.env.cells.lookup x = some c→∃ vo,s.heap.IsCell c vo ∧
    ∀ v,l x = some v→(F.env.kindOf x = some .cell∨F.env.kindOf x = some .free)→∃ V,vo = some V∧er V = v
  objs:∀ a o,H a = some o→Mt P s.heap a o
  free:∀ a o,H a = some o→Fre P F a o
  big:∀ a o,H a = some o→Bigs P a o
section
variable {P:Pm} {F:Fm} {l:Loc} {H:Hp} {s:Shared}
theorem Inv.toks (I:Inv P F l H s) (t:Nat):Inv P F l H { s with toks:=t }:=⟨I.gens,I.os,I.keep,I.frk,I.loc,I.cel,I.objs,I.free,I.big⟩
theorem Inv.lt_of (I:Inv P F l H s) {a:Addr} {o:AObj} (h:H a = some o):a < s.heap.objs.size:=let ⟨_,e⟩:=(I.objs a o h).some;Heap.lt_size e
theorem Inv.fresh (I:Inv P F l H s):H s.heap.objs.size = none:=by
  cases e:H s.heap.objs.size with
  | none=>rfl
  | some o=>exact absurd (I.lt_of e) (Nat.lt_irrefl _)
structure Off (F:Fm) (H:Hp) (a:Addr):Prop where
  h:H a = none
  g:F.g a = none
  fr:F.fr a = none
  l:a≠F.env.locals
  c:∀ x c,(x,c)∈F.env.cells→a≠c
theorem Inv.off (K:FmOk P F) (I:Inv P F l H s) {a:Addr} (n:s.heap.get? a = none):Off F H a:=by
  refine ⟨?_, ?_, ?_, ?_, ?_⟩
  · cases e:H a with
    | none=>rfl
    | some o=>obtain ⟨_,e'⟩:=(I.objs a o e).some;rw [n] at e';cases e'
  · cases e:F.g a with
    | none=>rfl
    | some o=>have:=I.keep a o e;rw [n] at this;cases this
  · cases e:F.fr a with
    | none=>rfl
    | some o=>obtain ⟨_,e',_⟩:=I.frk a o e;rw [n] at e';cases e'
  · rintro rfl
    obtain ⟨m,⟨o,es,ep,ho,_⟩,_⟩:=I.loc
    rw [n] at ho;cases ho
  · rintro x c hm rfl
    obtain ⟨vo,⟨o,ho,_⟩,_⟩:=I.cel x a (K.cn x a hm)
    rw [n] at ho;cases ho
theorem Inv.step (I:Inv P F l H s) {h':Heap} {t:Nat} (k:∀ b o,s.heap.get? b = some o→¬ Off F H b→h'.get? b = some o):Inv P F l H { s with heap:=h',toks:=t }:=by
  refine ⟨I.gens,I.os,fun b o e=>k b o (I.keep b o e) fun q=>?_,fun b d e=>?_, ?_,fun x c e=>?_,fun a o e=>?_,I.free,I.big⟩
  · rw [q.g] at e;cases e
  · obtain ⟨o,ho,hd⟩:=I.frk b d e
    exact ⟨o,k b o ho fun q=>(by rw [q.fr] at e;cases e),hd⟩
  · obtain ⟨m,⟨o,es,ep,ho,r⟩,q⟩:=I.loc
    exact ⟨m,⟨o,es,ep,k _ _ ho fun q=>q.l rfl,r⟩,q⟩
  · obtain ⟨vo,⟨o,ho,r⟩,q⟩:=I.cel x c e
    exact ⟨vo,⟨o,k _ _ ho fun q=>q.c x c (mem_of_lookup e) rfl,r⟩,q⟩
  · obtain ⟨O,ho⟩:=(I.objs a o e).some
    refine (I.objs a o e).congr ((k _ _ ho fun q=>?_).trans ho.symm)
    rw [q.h] at e;cases e
theorem r_g {a:Addr} {o:AObj} (K:FmOk P F) (h:Fre P F a o) (hr:o.isR = true):∃ O,F.g a = some O:=(r_fre h hr).elim (fun ⟨O,e⟩=>⟨O,K.base _ _ e⟩) fun e=>(K.xg a e).1
theorem Inv.neL (K:FmOk P F) (I:Inv P F l H s) {a:Addr} {o:AObj} (h:H a = some o):a≠F.env.locals:=by
  cases hr:o.isR with
  | false=>exact (of_fre (I.free a o h) hr).2.2.1
  | true =>
    obtain ⟨O,e⟩:=r_g K (I.free a o h) hr
    rintro rfl
    rw [K.lg] at e;cases e
theorem Inv.frN (K:FmOk P F) (I:Inv P F l H s) {a:Addr} {o:AObj} (h:H a = some o):F.fr a = none:=by
  cases hr:o.isR with
  | false=>exact (of_fre (I.free a o h) hr).2.1
  | true =>
    obtain ⟨O,e⟩:=r_g K (I.free a o h) hr
    cases q:F.fr a with
    | none=>rfl
    | some d=>rw [(K.fg a d q).1] at e;cases e
theorem Inv.neC (K:FmOk P F) (I:Inv P F l H s) {a:Addr} {o:AObj} (h:H a = some o) {x:Str} {c:Addr} (hm:(x,c)∈F.env.cells):a≠c:=by
  cases hr:o.isR with
  | false=>exact (of_fre (I.free a o h) hr).2.2.2 x c hm
  | true =>
    rintro rfl
    obtain ⟨vo,⟨oc,ho,hd⟩,_⟩:=I.cel x a (K.cn x a hm)
    have m:=I.objs a o h
    cases o <;> first | (cases hr;done) | skip
    · obtain ⟨vs,⟨ol,hl,_,n,hs⟩,_⟩:=m
      rw [ho] at hl;cases hl
      rw [hd] at hs;cases hs
    · obtain ⟨vs,sl,hl⟩:=m
      rw [ho] at hl;cases hl
      cases hd
end
end Mine
end

section
open PySem PyProof.Rows PySem.Calls
namespace Mine
noncomputable def allNews (base h:Heap) (L:Addr):List (Addr×Obj) :=
  (List.range h.objs.size).filterMap fun a=>if a = L then none else match base.get? a with
    | some _=>none
    | none=>(h.get? a).map fun o=>(a,o)
theorem mem_allNews {base h:Heap} {L a:Addr} {o:Obj} (ho:h.get? a = some o) (hl:a≠L) (hb:base.get? a = none):(a,o)∈allNews base h L:=by
  refine List.mem_filterMap.mpr ⟨a,List.mem_range.mpr (Heap.lt_size ho), ?_⟩
  rw [if_neg hl,hb,ho];rfl
theorem allNews_mem {base h:Heap} {L:Addr} {p:Addr×Obj} (hp:p∈allNews base h L):h.get? p.1 = some p.2∧p.1≠L∧base.get? p.1 = none:=by
  obtain ⟨a,_,e⟩:=List.mem_filterMap.mp hp
  by_cases hl:a = L
  · rw [if_pos hl] at e;cases e
  · rw [if_neg hl] at e
    cases hb:base.get? a with
    | some o=>rw [hb] at e;cases e
    | none =>
      rw [hb] at e
      cases ho:h.get? a with
      | none=>simp [ho] at e
      | some o =>
        simp [ho] at e
        subst e
        exact ⟨ho,hl,hb⟩
theorem news_all (base h:Heap) (L:Addr):News base L h (allNews base h L):=fun _ hp=>allNews_mem hp
section
variable {P:Pm} {F:Fm} {l:Loc} {H:Hp} {s:Shared}
theorem Inv.fr (K:FmOk P F) (I:Inv P F l H s):∃ m,Fr P.base F.env.locals s.heap m∧∀ x v,l x = some v→F.env.kindOf x = some .local→∃ V,m x = some V∧er V = v:=by
  obtain ⟨m,hn,q⟩:=I.loc
  exact ⟨m,⟨hn,fun b o e=>I.keep b o (K.base b o e),K.above⟩,q⟩
theorem kept_all {base h h':Heap} {L:Addr} {m:Str→Option Value} {news:List (Addr×Obj)} (F:Fr base L h' m) (N:News base L h' news) (hsub:∀ p∈allNews base h L,p∈news)
    (hb:base.StaysIn h) {b:Addr} {o:Obj} (e:h.get? b = some o) (hl:b≠L):h'.get? b = some o:=by
  cases q:base.get? b with
  | some o'=>have:=hb b o' q;rw [e] at this;cases this;exact F.keep b o q
  | none=>exact (N _ (hsub _ (mem_allNews e hl q))).1
theorem Inv.stepL (I:Inv P F l H s) {h':Heap} {t:Nat} (k:∀ b o,s.heap.get? b = some o→b≠F.env.locals→¬ Off F H b→h'.get? b = some o)
    {m:Str→Option Value} (hn:h'.Ns F.env.locals m) (K:FmOk P F) {l':Loc}
    (hm:∀ x v,l' x = some v→F.env.kindOf x = some .local→∃ V,m x = some V∧er V = v)
    (hc:∀ x v,l' x = some v→(F.env.kindOf x = some .cell∨F.env.kindOf x = some .free)→l x = some v):Inv P F l' H { s with heap:=h',toks:=t }:=by
  refine ⟨I.gens,I.os,fun b o e=>k b o (I.keep b o e) (fun q=>?_) fun q=>?_,fun b d e=>?_,⟨m,hn,hm⟩,fun x c e=>?_,fun a o e=>?_,I.free,I.big⟩
  · rw [q,K.lg] at e;cases e
  · rw [q.g] at e;cases e
  · obtain ⟨o,ho,hd⟩:=I.frk b d e
    exact ⟨o,k b o ho (fun q=>by rw [q,K.lf] at e;cases e) fun q=>(by rw [q.fr] at e;cases e),hd⟩
  · obtain ⟨vo,⟨o,ho,r⟩,q⟩:=I.cel x c e
    exact ⟨vo,⟨o,k _ _ ho (K.cl x c (mem_of_lookup e)) fun q=>q.c x c (mem_of_lookup e) rfl,r⟩,fun v hv hk=>q v (hc x v hv hk) hk⟩
  · obtain ⟨O,ho⟩:=(I.objs a o e).some
    refine (I.objs a o e).congr ((k _ _ ho (I.neL K e) fun q=>?_).trans ho.symm)
    rw [q.h] at e;cases e
theorem Inv.push (I:Inv P F l H s) (o:Obj):Inv P F l H { s with heap:=s.heap.push o } :=
  I.step (t:=s.toks) fun _ _ e _=>Heap.get?_push_of_some o e
theorem Inv.more (K:FmOk P F) (I:Inv P F l H s) {h':Heap} {t:Nat} {a:Addr} {o:AObj} (n:s.heap.get? a = none) (hz:Bigs P a o) (k:∀ b o,s.heap.get? b = some o→h'.get? b = some o) (m:Mt P h' a o) (hr:o.isR = false:=by rfl) :
    Inv P F l (H.upd a o) { s with heap:=h',toks:=t }:=by
  have I':=I.step (t:=t) (h':=h') fun b o e _=>k b o e
  have of:=I.off K n
  refine ⟨I'.gens,I'.os,I'.keep,I'.frk,I'.loc,I'.cel,fun b o' e=>?_,fun b o' e=>?_,fun b o' e=>?_⟩
  · by_cases q:b = a
    · subst q;rw [Hp.upd_same] at e;cases e;exact m
    · rw [Hp.upd_ne _ _ q] at e;exact I'.objs b o' e
  · by_cases q:b = a
    · subst q;rw [Hp.upd_same] at e;cases e;exact fre_of hr ⟨of.g,of.fr,of.l,of.c⟩
    · rw [Hp.upd_ne _ _ q] at e;exact I.free b o' e
  · by_cases q:b = a
    · subst q;rw [Hp.upd_same] at e;cases e;exact hz
    · rw [Hp.upd_ne _ _ q] at e;exact I.big b o' e
theorem Inv.base_le (K:FmOk P F) (I:Inv P F l H s):P.base.objs.size≤s.heap.objs.size:=by
  obtain ⟨m,hn,_⟩:=I.loc
  exact Nat.le_of_lt (Nat.lt_of_le_of_lt K.above hn.lt)
theorem Inv.alloc (K:FmOk P F) (I:Inv P F l H s) {O:Obj} {o:AObj} {t:Nat} (m:Mt P (s.heap.push O) s.heap.objs.size o) (hr:o.isR = false:=by rfl):Inv P F l (H.upd s.heap.objs.size o) { s with heap:=s.heap.push O,toks:=t } :=
  I.more K (Heap.get?_none_of_le (Nat.le_refl _)) (bigs_of (I.base_le K)) (fun _ _ e=>Heap.get?_push_of_some O e) m hr
theorem Inv.track (I:Inv P F l H s) {a:Addr} {o:AObj} (of:Off F H a) (hz:Bigs P a o) (m:Mt P s.heap a o) (hr:o.isR = false:=by rfl):Inv P F l (H.upd a o) s:=by
  refine ⟨I.gens,I.os,I.keep,I.frk,I.loc,I.cel,fun b o' e=>?_,fun b o' e=>?_,fun b o' e=>?_⟩
  · by_cases q:b = a
    · subst q;rw [Hp.upd_same] at e;cases e;exact m
    · rw [Hp.upd_ne _ _ q] at e;exact I.objs b o' e
  · by_cases q:b = a
    · subst q;rw [Hp.upd_same] at e;cases e;exact fre_of hr ⟨of.g,of.fr,of.l,of.c⟩
    · rw [Hp.upd_ne _ _ q] at e;exact I.free b o' e
  · by_cases q:b = a
    · subst q;rw [Hp.upd_same] at e;cases e;exact hz
    · rw [Hp.upd_ne _ _ q] at e;exact I.big b o' e
theorem Inv.after (K:FmOk P F) (I:Inv P F l H s) {h':Heap} {t:Nat} {m:Str→Option Value} {news:List (Addr×Obj)}
    (hm:∀ x v,l x = some v→F.env.kindOf x = some .local→∃ V,m x = some V∧er V = v) (F':Fr P.base F.env.locals h' m) (N':News P.base F.env.locals h' news)
    (hsub:∀ p∈allNews P.base s.heap F.env.locals,p∈news):Inv P F l H { s with heap:=h',toks:=t } :=
  I.stepL (fun _ _ e hb _=>kept_all F' N' hsub (fun b o e=>I.keep b o (K.base b o e)) e hb) F'.ns K hm fun _ _ h _=>h
theorem Inv.ofSize (K:FmOk P F) (I:Inv P F l H s):Off F H s.heap.objs.size:=I.off K (Heap.get?_none_of_le (Nat.le_refl _))
theorem Inv.put (I:Inv P F l H s) {h':Heap} {t:Nat} {a:Addr} {o o':AObj} (ha:H a = some o) (k:∀ b,b≠a→h'.get? b = s.heap.get? b) (m:Mt P h' a o') (hb:Bigs P a o→Bigs P a o':=by exact id) (hr:o.isR = false:=by rfl) (hr':o'.isR = false:=by rfl) :
    Inv P F l (H.upd a o') { s with heap:=h',toks:=t }:=by
  obtain ⟨fg,ff,fl,fc⟩:=of_fre (I.free a o ha) hr
  refine ⟨I.gens,I.os,fun b O e=>(k b fun q=>?_).trans (I.keep b O e),fun b d e=>?_, ?_,fun x c e=>?_,fun b O e=>?_,fun b O e=>?_,fun b O e=>?_⟩
  · rw [q,fg] at e;cases e
  · obtain ⟨O,ho,hd⟩:=I.frk b d e
    exact ⟨O,(k b fun q=>by rw [q,ff] at e;cases e).trans ho,hd⟩
  · obtain ⟨m',⟨O,es,ep,ho,r⟩,q⟩:=I.loc
    exact ⟨m',⟨O,es,ep,(k _ (Ne.symm fl)).trans ho,r⟩,q⟩
  · obtain ⟨vo,⟨O,ho,r⟩,q⟩:=I.cel x c e
    exact ⟨vo,⟨O,(k _ (Ne.symm (fc x c (mem_of_lookup e)))).trans ho,r⟩,q⟩
  · by_cases q:b = a
    · subst q;rw [Hp.upd_same] at e;cases e;exact m
    · rw [Hp.upd_ne _ _ q] at e;exact (I.objs b O e).congr (k b q)
  · by_cases q:b = a
    · subst q;rw [Hp.upd_same] at e;cases e;exact fre_of hr' ⟨fg,ff,fl,fc⟩
    · rw [Hp.upd_ne _ _ q] at e;exact I.free b O e
  · by_cases q:b = a
    · subst q;rw [Hp.upd_same] at e;cases e;exact hb (I.big _ _ ha)
    · rw [Hp.upd_ne _ _ q] at e;exact I.big b O e
theorem Inv.putL (K:FmOk P F) (I:Inv P F l H s) {h':Heap} {t:Nat} {a:Addr} {o o':AObj} (ha:H a = some o) (k:∀ b O,s.heap.get? b = some O→b≠a→b≠F.env.locals→h'.get? b = some O)
    {m:Str→Option Value} (hn:h'.Ns F.env.locals m) (hm:∀ x v,l x = some v→F.env.kindOf x = some .local→∃ V,m x = some V∧er V = v) (mt:Mt P h' a o') (hb:Bigs P a o→Bigs P a o':=by exact id) (hr:o.isR = false:=by rfl) (hr':o'.isR = false:=by rfl) :
    Inv P F l (H.upd a o') { s with heap:=h',toks:=t }:=by
  obtain ⟨fg,ff,fl,fc⟩:=of_fre (I.free a o ha) hr
  refine ⟨I.gens,I.os,fun b O e=>k b O (I.keep b O e) (fun q=>?_) fun q=>?_,fun b d e=>?_,⟨m,hn,hm⟩,fun x c e=>?_,fun b O e=>?_,fun b O e=>?_,fun b O e=>?_⟩
  · rw [q,fg] at e;cases e
  · rw [q,K.lg] at e;cases e
  · obtain ⟨O,ho,hd⟩:=I.frk b d e
    exact ⟨O,k b O ho (fun q=>by rw [q,ff] at e;cases e) (fun q=>by rw [q,K.lf] at e;cases e),hd⟩
  · obtain ⟨vo,⟨O,ho,r⟩,q⟩:=I.cel x c e
    exact ⟨vo,⟨O,k _ _ ho (Ne.symm (fc x c (mem_of_lookup e))) (K.cl x c (mem_of_lookup e)),r⟩,q⟩
  · by_cases q:b = a
    · subst q;rw [Hp.upd_same] at e;cases e;exact mt
    · rw [Hp.upd_ne _ _ q] at e
      obtain ⟨O',ho⟩:=(I.objs b O e).some
      exact (I.objs b O e).congr ((k b O' ho q (I.neL K e)).trans ho.symm)
  · by_cases q:b = a
    · subst q;rw [Hp.upd_same] at e;cases e;exact fre_of hr' ⟨fg,ff,fl,fc⟩
    · rw [Hp.upd_ne _ _ q] at e;exact I.free b O e
  · by_cases q:b = a
    · subst q;rw [Hp.upd_same] at e;cases e;exact hb (I.big _ _ ha)
    · rw [Hp.upd_ne _ _ q] at e;exact I.big b O e
theorem filterMap_ne {f:Nat→Option (Addr×Obj)} (hf:∀ a p,f a = some p→p.1 = a):∀ xs:List Nat,xs.Pairwise (·≠·)→(xs.filterMap f).Pairwise fun p q=>p.1≠q.1
  | [],_=>.nil
  | x :: xs,h=>by
    obtain ⟨h1,h2⟩:=List.pairwise_cons.mp h
    rw [List.filterMap_cons]
    split
    · exact filterMap_ne hf xs h2
    · rename_i p hp
      refine List.pairwise_cons.mpr ⟨fun q hq e=>?_,filterMap_ne hf xs h2⟩
      obtain ⟨y,hy,e'⟩:=List.mem_filterMap.mp hq
      have e1:p.1 = x:=hf _ _ hp
      have e2:q.1 = y:=hf _ _ e'
      exact h1 y hy (e1.symm.trans (e.trans e2))
theorem allNews_split {base h:Heap} {L a:Addr} {o:Obj} (hm:(a,o)∈allNews base h L):∃ pre post,allNews base h L = pre++(a,o) :: post∧(∀ p∈pre,p.1≠a)∧∀ p∈post,p.1≠a:=by
  obtain ⟨pre,post,e⟩:=List.append_of_mem hm
  have hp:(allNews base h L).Pairwise fun p q=>p.1≠q.1:=by
    refine filterMap_ne (fun b p hb=>?_) _ (List.Pairwise.imp (fun h=>Nat.ne_of_lt h) List.pairwise_lt_range)
    by_cases e:b = L
    · rw [if_pos e] at hb;cases hb
    · rw [if_neg e] at hb
      cases q:base.get? b with
      | some o=>rw [q] at hb;cases hb
      | none =>
        rw [q] at hb
        obtain ⟨o,_,rfl⟩:=Option.map_eq_some_iff.mp hb
        rfl
  rw [e] at hp
  obtain ⟨_,h2,h3⟩:=List.pairwise_append.mp hp
  exact ⟨pre,post,e,fun p hp=>h3 p hp (a,o) (.head _),fun p hp=>((List.pairwise_cons.mp h2).1 p hp).symm⟩
end
section
variable {P:Pm} {F:Fm} {l:Loc} {H:Hp} {s:Shared} {E:Value→Shared→Prop}
noncomputable def Own (env:Env) (x:Str):Prop:=env.kindOf x = some .local∨((env.kindOf x = some .cell∨env.kindOf x = some .free)∧∃ c,env.cells.lookup x = some c)
theorem ld_loc (K:FmOk P F) (I:Inv P F l H s) {x:Str} {pos:Pos} {v:Value} {Q:Value→Shared→Prop} (hv:l x = some v) (ho:Own F.env x) (hd:(x == ("__debug__" : Str)) = false) (hcd:(x == ("__classdict__" : Str)) = false)
    (h:∀ V,er V = v→Q V s):wpAny P.M F.A (eval (.Name x pos) F.env) Q E s:=by
  refine wpAny_Name ?_ hd
  rcases ho with hl | ⟨hk,c,hc⟩
  · obtain ⟨m,hn,q⟩:=I.loc
    obtain ⟨V,hV,e⟩:=q x v hv hl
    exact wpAny_loadName_local K.kind hl hn hV (h V e)
  · obtain ⟨vo,hi,q⟩:=I.cel x c hc
    obtain ⟨V,rfl,e⟩:=q v hv hk
    rcases hk with hk | hk
    · exact wpAny_loadName_cell K.kind hk hc hi (h V e)
    · exact wpAny_loadName_free K.kind hk hc hi (h V e) hcd
theorem ld_glob (Y:PmOk P) (K:FmOk P F) (I:Inv P F l H s) {x:Str} {pos:Pos} {v:Value} {Q:Value→Shared→Prop} (hv:P.mg x = some v∨(P.mg x = none∧P.mb x = some v)) (hk:F.env.kindOf x = some .globalImplicit) (hd:(x == ("__debug__" : Str)) = false)
    (h:Q v s):wpAny P.M F.A (eval (.Name x pos) F.env) Q E s:=by
  have k:∀ b o,P.base.get? b = some o→s.heap.get? b = some o:=fun b o e=>I.keep b o (K.base b o e)
  refine Calls.Name_function_global K.kind hk ?_ hd
  rcases hv with hv | ⟨h1,h2⟩
  · exact Calls.loadGlobal_global (by rw [K.glob];exact Y.g.keeps k) hv h
  · exact Calls.loadGlobal_builtin (by rw [K.glob];exact Y.g.keeps k) h1 (by rw [K.blt];exact Y.b.keeps k) h2 h
theorem st_loc (K:FmOk P F) (I:Inv P F l H s) (hro:F.ro = false) {x:Str} {V:Value} {Q:Unit→Shared→Prop} (ho:F.env.kindOf x = some .local∨(F.env.kindOf x = some .cell∧∃ c,F.env.cells.lookup x = some c))
    (h:∀ s',Inv P F (l.upd x (er V)) H s'→Q () s'):wpAny P.M F.A (storeName F.env x V) Q E s:=by
  rcases ho with hl | ⟨hk,c,hc⟩
  · obtain ⟨m,hn,q⟩:=I.loc
    refine wpAny_storeName_local hl hn (fun h' hn' hs=>h _ (I.stepL (t:=s.toks + 1) (fun b o e hb _=>hs.extBut b o hb e) hn' K (fun y v hy hky=>?_) fun y v hy hky=>?_)) (by rw [K.kind];rfl)
    · by_cases e:y = x
      · subst e;simp [Loc.upd] at hy;subst hy;exact ⟨V,by simp,rfl⟩
      · simp [Loc.upd,e] at hy;simp [e];exact q y v hy hky
    · by_cases e:y = x
      · subst e;rw [hl] at hky;simp at hky
      · simpa [Loc.upd,e] using hy
  · obtain ⟨vo,hi,q⟩:=I.cel x c hc
    have hm:=mem_of_lookup hc
    refine wpAny_storeName_cell K.kind hk hc hi fun h' hi' hs=>h _ ?_
    have other:∀ b o,s.heap.get? b = some o→b≠c→h'.get? b = some o:=fun b o e hb=>(hs.2 b hb).trans e
    have g1:=(K.cg hro x c hm)
    refine ⟨I.gens,I.os,fun b o e=>other b o (I.keep b o e) fun z=>?_,fun b d e=>?_, ?_,fun y c' e=>?_,fun a o e=>?_,I.free,I.big⟩
    · rw [z,g1.1] at e;cases e
    · obtain ⟨o,ho,hd⟩:=I.frk b d e
      exact ⟨o,other b o ho (fun z=>by rw [z,g1.2] at e;cases e),hd⟩
    · obtain ⟨m,⟨o,es,ep,ho,r⟩,q⟩:=I.loc
      refine ⟨m,⟨o,es,ep,other _ _ ho (Ne.symm (K.cl x c hm)),r⟩,fun y v hy hky=>q y v ?_ hky⟩
      by_cases z:y = x
      · subst z;rw [hk] at hky;cases hky
      · simpa [Loc.upd,z] using hy
    · by_cases z:y = x
      · subst z
        rw [hc] at e;cases e
        exact ⟨some V,hi',fun v hv _=>⟨V,rfl,by simpa [Loc.upd] using hv⟩⟩
      · obtain ⟨vo',⟨o,ho,r⟩,q'⟩:=I.cel y c' e
        refine ⟨vo',⟨o,other _ _ ho fun w=>z ?_,r⟩,fun v hv hky=>q' v (by simpa [Loc.upd,z] using hv) hky⟩
        exact name_of_addr K.apart (mem_of_lookup e) (w ▸ hm)
    · obtain ⟨O,ho⟩:=(I.objs a o e).some
      exact (I.objs a o e).congr ((other a O ho (I.neC K e hm)).trans ho.symm)
end
end Mine
end

section
open PySem PyProof.Rows PySem.Calls
namespace Mine
structure Gx where
  glob:Str→Option Value
  fn:Addr→Bool→List Value→Hp→QV→XV→Prop
  meth:Addr→Str→Option Addr
  init:Addr→Option Addr
  isExc:Addr→Bool
  sub:Addr→Addr→Bool
  fld:Addr→Str→Bool
noncomputable def at? {α:Type} (xs:List α) (k:Int):Option α :=
  if 0≤k then xs[k.toNat]? else if -(xs.length:Int)≤k then xs[(k + xs.length).toNat]? else none
noncomputable def cutAt (n:Nat) (i:Int):Nat:=if i < 0 then (i + n).toNat else min i.toNat n
noncomputable def hiAt (n:Nat):Option Int→Nat
  | none=>n
  | some i=>cutAt n i
noncomputable def loAt (n:Nat):Option Int→Nat
  | none=>0
  | some i=>cutAt n i
noncomputable def pySlice {α:Type} (xs:List α) (lo hi:Option Int):List α:=(xs.take (hiAt xs.length hi)).drop (loAt xs.length lo)
mutual
inductive Rd (H:Hp):Value→PyData→Prop where
  | none:Rd H .none .none
  | bool (b:Bool):Rd H (.bool b) (.bool b)
  | int (i:Int) (t:Tok):Rd H (.int i t) (.int i)
  | str (x:Str) (t:Tok):Rd H (.str x t) (.str x)
  | list {a:Addr} {xs:List Value} {ds:List PyData}:H a = some (.list xs)→RdAll H xs ds→Rd H (.ref a) (.list ds)
  | tup {a:Addr} {xs:List Value} {ds:List PyData}:H a = some (.tup xs)→RdAll H xs ds→Rd H (.ref a) (.tuple ds)
  | rlist {a:Addr} {xs:List Value} {ds:List PyData}:H a = some (.rlist xs)→RdAll H xs ds→Rd H (.ref a) (.list ds)
inductive RdAll (H:Hp):List Value→List PyData→Prop where
  | nil:RdAll H [] []
  | cons {v:Value} {vs:List Value} {d:PyData} {ds:List PyData}:Rd H v d→RdAll H vs ds→RdAll H (v :: vs) (d :: ds)
end
noncomputable def newV (o:AObj) (H:Hp) (Q:QV):Prop:=∀ c,H c = none→Q (.ref c) (H.upd c o)
noncomputable def newT (xs:List Value) (H:Hp) (Q:QV):Prop:=(∀ c,H c = none→Q (.ref c) (H.upd c (.tup xs)))∧∀ c,H c = some (.tup xs)→Q (.ref c) H
noncomputable def chr1 (c:Nat):Str:=⟨#[c]⟩
noncomputable def onSome {α:Type} (o:Option α) (k:α→Prop):Prop:=match o with | some v=>k v | none=>False
noncomputable def onInt (v:Value) (k:Int→Prop):Prop:=match v with | .int i _=>k i | _=>False
noncomputable def onStr (v:Value) (k:Str→Prop):Prop:=match v with | .str x _=>k x | _=>False
noncomputable def onRef (v:Value) (k:Addr→Prop):Prop:=match v with | .ref a=>k a | _=>False
noncomputable def onBool (v:Value) (k:Bool→Prop):Prop:=match v with | .bool b=>k b | _=>False
noncomputable def on1 (xs:List Value) (k:Value→Prop):Prop:=match xs with | v :: r=>(match r with | []=>k v | _ :: _=>False) | []=>False
noncomputable def on2 (xs:List Value) (k:Value→Value→Prop):Prop:=match xs with | v :: r=>on1 r (k v) | []=>False
theorem onInt_elim {V v:Value} {k:Int→Prop} (e:er V = v) (h:onInt v k):∃ i t,V = .int i t∧k i:=by
  subst e;cases V <;> first | exact h.elim | exact ⟨_,_,rfl,h⟩
theorem onStr_elim {V v:Value} {k:Str→Prop} (e:er V = v) (h:onStr v k):∃ i t,V = .str i t∧k i:=by
  subst e;cases V <;> first | exact h.elim | exact ⟨_,_,rfl,h⟩
theorem onRef_elim {V v:Value} {k:Addr→Prop} (e:er V = v) (h:onRef v k):∃ a,V = .ref a∧k a:=by
  subst e;cases V <;> first | exact h.elim | exact ⟨_,rfl,h⟩
theorem onBool_elim {V v:Value} {k:Bool→Prop} (e:er V = v) (h:onBool v k):∃ a,V = .bool a∧k a:=by
  subst e;cases V <;> first | exact h.elim | exact ⟨_,rfl,h⟩
theorem on1_elim {Vs:List Value} {k:Value→Prop} (h:on1 (Vs.map er) k):∃ V,Vs = [V]∧k (er V):=by
  cases Vs with
  | nil=>exact h.elim
  | cons V r=>cases r with
    | nil=>exact ⟨V,rfl,h⟩
    | cons _ _=>exact h.elim
theorem on2_elim {Vs:List Value} {k:Value→Value→Prop} (h:on2 (Vs.map er) k):∃ V W,Vs = [V,W]∧k (er V) (er W):=by
  cases Vs with
  | nil=>exact h.elim
  | cons V r =>
    obtain ⟨W,rfl,h⟩:=on1_elim (Vs:=r) (k:=k (er V)) h
    exact ⟨V,W,rfl,h⟩
noncomputable def on0 (xs:List Value) (k:Prop):Prop:=match xs with | []=>k | _ :: _=>False
theorem on0_elim {Vs:List Value} {k:Prop} (h:on0 (Vs.map er) k):Vs = []∧k:=by
  cases Vs with
  | nil=>exact ⟨rfl,h⟩
  | cons _ _=>exact h.elim
noncomputable def addR (a b:Addr) (H:Hp) (Q:QV):Prop:=match H a with
  | some (.list xs)=>(match H b with | some (.list ys)=>xs.length + ys.length≤sizeLine∧newV (.list (xs++ys)) H Q | _=>False)
  | _=>False
noncomputable def addV (a b:Value) (H:Hp) (Q:QV):Prop:=match a with
  | .int x _=>onInt b fun y=>Q (.int (x + y) 0) H
  | .str x _=>onStr b fun y=>x.length + y.length≤sizeLine∧Q (.str (x++y) 0) H
  | .ref a=>onRef b fun b=>addR a b H Q
  | _=>False
noncomputable def multV (a b:Value) (H:Hp) (Q:QV):Prop:=match a with
  | .int x _=>onInt b fun y=>(x.natAbs < 2 ^ 63∨y.natAbs < 2 ^ 63)∧Q (.int (x * y) 0) H
  | .str x _=>onInt b fun n=>x.length≤1000∧n≤1000∧-1000≤n∧Q (.str (Txt.mul x n) 0) H
  | .ref a=>onInt b fun n=>(match H a with
    | some (.list xs)=>n≤1000∧-1000≤n∧xs.length≤1000∧newV (.list (List.replicate n.toNat xs).flatten) H Q
    | _=>False)
  | _=>False
noncomputable def binV (op:Operator) (a b:Value) (H:Hp) (Q:QV):Prop :=
  match op with
  | .Add=>addV a b H Q
  | .Sub=>onInt a fun x=>onInt b fun y=>Q (.int (x - y) 0) H
  | .Mult=>multV a b H Q
  | .FloorDiv=>onInt a fun x=>onInt b fun y=>0 < y∧y < 2 ^ 63∧Q (.int (x / y) 0) H
  | .Mod=>onInt a fun x=>onInt b fun y=>0 < y∧Q (.int (x % y) 0) H
  | .Pow=>onInt a fun x=>onInt b fun y=>0≤y∧y≤100∧x.natAbs < 2 ^ 63∧Q (.int (x ^ y.toNat) 0) H
  | _=>False
noncomputable def eqV (a b:Value) (H:Hp) (k:Bool→Prop):Prop :=
  match a,b with
  | .int x _, .int y _=>k (decide (x = y))
  | .str x _, .str y _=>k (decide (x = y))
  | .none, .str _ _=>k false
  | a,b=>∃ da db,Rd H a da∧Rd H b db∧SeqAt.shaped da = true∧SeqAt.shaped db = true∧k (PyData.eqv da db)
noncomputable def inV (a b:Value) (H:Hp) (k:Bool→Prop):Prop :=
  match a,b with
  | .str x _, .str y _=>k (Txt.contains y x)
  | .int i _, .ref d=>match H d with
    | some (.idict kvs)=>k (valueAt kvs i).isSome
    | some (.list xs)=>∃ ns:List Int,xs = ns.map (fun n=>Value.int n 0)∧k (decide (i∈ns))
    | _=>False
  | _,_=>False
noncomputable def cmpV (op:CmpOp) (a b:Value) (H:Hp) (Q:QV):Prop :=
  match op with
  | .Eq=>eqV a b H fun r=>Q (.bool r) H
  | .NotEq=>eqV a b H fun r=>Q (.bool (!r)) H
  | .In=>inV a b H fun r=>Q (.bool r) H
  | .NotIn=>inV a b H fun r=>Q (.bool (!r)) H
  | .Is=>match b with
    | .none=>(match a with | .none=>Q (.bool true) H | .builtin _=>False | _=>Q (.bool false) H)
    | _=>False
  | .IsNot=>match b with
    | .none=>(match a with | .none=>Q (.bool false) H | .builtin _=>False | _=>Q (.bool true) H)
    | _=>False
  | .Lt=>match a,b with
    | .int x _, .int y _=>Q (.bool (decide (x < y))) H
    | .str x _, .str y _=>Q (.bool (decide (x.cps.toList < y.cps.toList))) H
    | _,_=>False
  | .Gt=>match a,b with
    | .int x _, .int y _=>Q (.bool (decide (y < x))) H
    | .str x _, .str y _=>Q (.bool (decide (y.cps.toList < x.cps.toList))) H
    | _,_=>False
  | .LtE=>match a,b with
    | .int x _, .int y _=>Q (.bool (decide (x≤y))) H
    | _,_=>False
  | .GtE=>match a,b with
    | .int x _, .int y _=>Q (.bool (decide (y≤x))) H
    | _,_=>False
noncomputable def idxV (o i:Value) (H:Hp) (Q:QV):Prop :=
  match o,i with
  | .ref a, .int k _=>match H a with
    | some (.list xs)=>(match at? xs k with | some v=>Q v H | none=>False)
    | some (.rlist xs)=>(match at? xs k with | some v=>Q v H | none=>False)
    | some (.tup xs)=>(match at? xs k with | some v=>Q v H | none=>False)
    | some (.idict kvs)=>(match valueAt kvs k with | some v=>Q v H | none=>False)
    | _=>False
  | .str x _, .int k _=>(match at? x.cps.toList k with | some c=>x.length≤sizeLine∧Q (.str (chr1 c) 0) H | none=>False)
  | _,_=>False
noncomputable def partOf (v:Value):Option (Option Int) :=
  match v with
  | .none=>some none
  | .int i _=>some (some i)
  | _=>none
noncomputable def sliceV (o lo hi:Value) (H:Hp) (Q:QV):Prop :=
  match partOf lo,partOf hi with
  | some l,some h=>match o with
    | .ref a=>(match H a with
      | some (.list xs)=>xs.length≤sizeLine∧newV (.list (pySlice xs l h)) H Q
      | some (.rlist xs)=>xs.length≤sizeLine∧newV (.list (pySlice xs l h)) H Q
      | _=>False)
    | .str x _=>x.length≤sizeLine∧Q (.str ⟨(pySlice x.cps.toList l h).toArray⟩ 0) H
    | _=>False
  | _,_=>False
noncomputable def attrV (G:Gx) (o:Value) (a:Str) (H:Hp) (Q:QV):Prop :=
  match o with
  | .ref x=>match H x with
    | some (.inst C d)=>(match H d with
      | some (.ns kvs)=>G.fld C a = true∧(match valueAt kvs a with | some (.builtin _)=>False | some v=>Q v H | none=>False)
      | _=>False)
    | _=>False
  | _=>False
noncomputable def truthV (v:Value) (k:Bool→Prop):Prop:=match v with | .bool b=>k b | _=>False
noncomputable def lenV (v:Value) (H:Hp) (Q:QV):Prop :=
  match v with
  | .str x _=>x.length≤sizeLine∧Q (.int x.length 0) H
  | .ref a=>match H a with
    | some (.list xs)=>Q (.int xs.length 0) H
    | some (.rlist xs)=>Q (.int xs.length 0) H
    | some (.tup xs)=>Q (.int xs.length 0) H
    | _=>False
  | _=>False
noncomputable def Ty.blt:Ty→Bool
  | .str | .int | .bool | .list | .tuple | .listOrTuple=>true
  | _=>false
noncomputable def isiV (G:Gx) (v:Value) (t:Ty) (H:Hp) (Q:QV):Prop :=
  match v with
  | .none=>t.blt = true∧Q (.bool false) H
  | .bool _=>t.blt = true∧Q (.bool (t == .bool || t == .int)) H
  | .int _ _=>t.blt = true∧Q (.bool (t == .int)) H
  | .str _ _=>t.blt = true∧Q (.bool (t == .str)) H
  | .ref a=>match H a with
    | some (.list _)=>t.blt = true∧Q (.bool (t == .list || t == .listOrTuple)) H
    | some (.tup _)=>t.blt = true∧Q (.bool (t == .tuple || t == .listOrTuple)) H
    | some (.idict _)=>t.blt = true∧Q (.bool false) H
    | some (.sdict _)=>t.blt = true∧Q (.bool false) H
    | some (.exc C)=>G.isExc C = true∧(match t with
      | .valueError=>Q (.bool true) H
      | .cls x=>(match G.glob x with | some (.ref D)=>G.isExc D = true∧Q (.bool (G.sub C D)) H | _=>False)
      | _=>False)
    | _=>False
  | _=>False
noncomputable def rangeL (lo hi st:Int):List Value :=
  (List.range (Builtin.Range.rangeSize lo hi st).toNat).map fun (k:Nat)=>.int (lo + (k:Int) * st) 0
noncomputable def iterV (v:Value) (H:Hp) (k:(Hp→Prop)→List Value→Prop):Prop :=
  match v with
  | .str x _=>k (fun _=>True) (x.cps.toList.map fun c=>.str (chr1 c) 0)
  | .ref a=>match H a with
    | some (.list xs)=>k (fun H'=>H' a = some (.list xs)) xs
    | some (.tup xs)=>k (fun H'=>H' a = some (.tup xs)) xs
    | some (.range lo hi st)=>Builtin.Range.small lo hi st = true∧k (fun _=>True) (rangeL lo hi st)
    | _=>False
  | _=>False
noncomputable def seqV (v:Value) (H:Hp) (k:List Value→Prop):Prop :=
  match v with
  | .ref a=>match H a with
    | some (.list xs)=>k xs
    | some (.tup xs)=>k xs
    | some (.idict kvs)=>k (kvs.map fun p=>.int p.1 0)
    | some (.range lo hi st)=>Builtin.Range.small lo hi st = true∧k (rangeL lo hi st)
    | _=>False
  | _=>False
noncomputable def rangeV (args:List Value) (H:Hp) (Q:QV):Prop :=
  match args with
  | [.int hi _]=>hi < 2 ^ 60∧-(2 ^ 60) < hi∧newV (.range 0 hi 1) H Q
  | [.int lo _, .int hi _]=>hi < 2 ^ 60∧-(2 ^ 60) < hi∧lo < 2 ^ 60∧-(2 ^ 60) < lo∧newV (.range lo hi 1) H Q
  | [.int lo _, .int hi _, .int st _]=>st≠0∧-1000 < st∧st < 1000∧hi < 2 ^ 60∧-(2 ^ 60) < hi∧lo < 2 ^ 60∧-(2 ^ 60) < lo∧newV (.range lo hi st) H Q
  | _=>False
noncomputable def strLe (x y:Str):Prop:=¬ (y.cps.toList < x.cps.toList)
noncomputable def sortedV (v:Value) (H:Hp) (Q:QV):Prop :=
  match v with
  | .ref a=>match H a with
    | some (.idict kvs)=>kvs.length < 64∧∀ ms:List Int,ms.Perm (kvs.map (·.1))→ms.Pairwise (·≤·)→newV (.list (ms.map fun n=>Value.int n 0)) H Q
    | _=>False
  | _=>False
noncomputable def strsOf:List Value→Option (List Str)
  | []=>some []
  | .str x _ :: r=>(strsOf r).map (x :: ·)
  | _ :: _=>none
noncomputable def dd1 (S:List Str) (k:Str):List Str:=if k∈S then S else S++[k]
noncomputable def bfV (f:Bf) (args:List Value) (H:Hp) (Q:QV):Prop :=
  match f with
  | .len=>on1 args fun v=>lenV v H Q
  | .list=>on1 args fun v=>seqV v H fun xs=>xs.length≤sizeLine∧newV (.list xs) H Q
  | .sorted=>on1 args fun v=>sortedV v H Q
  | .int=>on1 args fun v=>onBool v fun b=>Q (.int (if b then 1 else 0) 0) H
  | .all=>on1 args fun v=>onRef v fun a=>(match H a with
    | some (.list xs)=>∃ bs:List Bool,xs = bs.map Value.bool∧Q (.bool (bs.all id)) H
    | _=>False)
  | .max2=>on2 args fun v w=>onInt v fun x=>onInt w fun y=>Q (.int (max x y) 0) H
  | .range=>rangeV args H Q
  | .max1=>on1 args fun v=>onRef v fun a=>(match H a with
    | some (.list xs)=>∃ ns:List Int,xs = ns.map (fun n=>Value.int n 0)∧0 < ns.length∧∀ m∈ns,(∀ k∈ns,k≤m)→Q (.int m 0) H
    | _=>False)
  | .sortedSet=>on1 args fun v=>onRef v fun a=>(match H a with
    | some (.list xs)=>∃ ss:List Str,xs = ss.map (fun x=>Value.str x 0)∧ss.length < 64∧∀ ms:List Str,ms.Perm (ss.foldl dd1 [])→sortedS ms = true→newV (.list (ms.map fun x=>Value.str x 0)) H Q
    | _=>False)
inductive Bk where
  | list | dict | str
noncomputable def bmV (b:Bk) (m:Bm) (o:Value) (args:List Value) (H:Hp) (Q:QV):Prop :=
  match b with
  | .list=>(match m with
    | .append=>onRef o fun a=>on1 args fun v=>(match H a with
      | some (.list xs)=>xs.length≤sizeLine∧Q .none (H.upd a (.list (xs++[v])))
      | _=>False)
    | .pop=>onRef o fun a=>on0 args (match H a with
      | some (.list xs)=>xs.length≤sizeLine∧(match xs.getLast? with | some v=>Q v (H.upd a (.list xs.dropLast)) | none=>False)
      | _=>False)
    | _=>False)
  | .dict=>(match m with
    | .pop=>onRef o fun a=>on1 args fun v=>onInt v fun k=>(match H a with
      | some (.idict kvs)=>kvs.length≤sizeLine∧(match valueAt kvs k with | some v=>Q v (H.upd a (.idict (PySem.without kvs k))) | none=>False)
      | _=>False)
    | _=>False)
  | .str=>(match m with
    | .join=>onStr o fun x=>on1 args fun v=>onRef v fun a=>(match H a with
      | some (.list xs)=>(match strsOf xs with
        | some ss=>JoinOk x ss = true∧Q (.str (Txt.join x ss) 0) H
        | none=>False)
      | _=>False)
    | _=>False)
noncomputable def callV (G:Gx) (hm:Bool) (f:Value) (args:List Value) (H:Hp) (Q:QV) (X:XV):Prop :=
  match f with
  | .ref a=>match G.init a with
    | some fi=>∀ d x,H d = none→H x = none→d≠x→G.fn fi hm (.ref x :: args) ((H.upd d (.ns [])).upd x (.inst a d)) (fun r H'=>r = .none∧Q (.ref x) H') X
    | none=>G.fn a hm args H Q X
  | _=>False
noncomputable def methV (G:Gx) (o:Value) (m:Str) (H:Hp) (k:Addr→Prop):Prop :=
  match o with
  | .ref x=>match H x with
    | some (.inst C d)=>(match H d,G.meth C m with
      | some (.ns kvs),some f=>valueAt kvs m = none∧k f
      | _,_=>False)
    | _=>False
  | _=>False
noncomputable def bmOn (m:Bm) (v:Value) (H:Hp) (k:Bk→Prop):Prop :=
  match v with
  | .str _ _=>m = .join∧k .str
  | .ref a=>(match H a with
    | some (.list _)=>(m = .append∨m = .pop)∧k .list
    | some (.idict _)=>m = .pop∧k .dict
    | _=>False)
  | _=>False
noncomputable def compG (guard:Hp→Prop) (step:Value→Hp→(Option Value→Hp→Prop)→Prop):List Value→List Value→Hp→(List Value→Hp→Prop)→Prop
  | [],acc,H,k=>guard H∧k acc H
  | v :: vs,acc,H,k=>guard H∧step v H fun r H'=>compG guard step vs (match r with | some u=>acc++[u] | none=>acc) H' k
noncomputable def dictV:List Value→List Value→Hp→QV→Prop:=fun ks vs H Q =>
  (ks = []∧vs = []∧newV (.idict []) H Q) ∨
  (∃ ss:List Str,ks = ss.map (fun x=>Value.str x 0)∧ss.Nodup∧ss.length = vs.length∧ss.length≤15∧ss≠[]∧newV (.sdict (ss.zip vs)) H Q)
noncomputable def iterH (hm:Bool) (v:Value) (H:Hp) (k:(Hp→Prop)→List Value→Prop):Prop :=
  (hm = false∧iterV v H k)∨(hm = true∧∃ a,v = .ref a∧H a = some (.list [])∧k (fun H=>H a = some (.list [])) [])
noncomputable def bfH (hm:Bool) (f:Bf) (vs:List Value) (H:Hp):Prop:=(f = .len∨f = .int)∨hm = false∨(f = .list∧∃ a xs,vs = [.ref a]∧H a = some (.list xs))∨(f = .all∧∃ a,vs = [.ref a]∧H a = some (.list []))
mutual
noncomputable def wpE (G:Gx) (hm:Bool):Ex→Loc→Hp→QV→XV→Prop
  | .none,_,H,Q,_=>Q .none H
  | .bool b,_,H,Q,_=>Q (.bool b) H
  | .int i,_,H,Q,_=>Q (.int i 0) H
  | .str x,_,H,Q,_=>Q (.str x 0) H
  | .loc x,l,H,Q,_=>onSome (l x) fun v=>Q v H
  | .glob x,_,H,Q,_=>onSome (G.glob x) fun v=>Q v H
  | .attr o a,l,H,Q,X=>wpE G hm o l H (fun v H1=>attrV G v a H1 Q) X
  | .bin op x y,l,H,Q,X=>wpE G hm x l H (fun a H1=>wpE G hm y l H1 (fun b H2=>binV op a b H2 Q) X) X
  | .neg x,l,H,Q,X=>wpE G hm x l H (fun a H1=>match a with | .int i _=>Q (.int (-i) 0) H1 | _=>False) X
  | .not x,l,H,Q,X=>wpE G hm x l H (fun a H1=>truthV a fun b=>Q (.bool (!b)) H1) X
  | .bop a es,l,H,Q,X=>wpB G hm a es l H Q X
  | .cmp x op y,l,H,Q,X=>wpE G hm x l H (fun a H1=>wpE G hm y l H1 (fun b H2=>cmpV op a b H2 Q) X) X
  | .cmp2 x op y op2 z,l,H,Q,X=>wpE G hm x l H (fun a H1=>wpE G hm y l H1 (fun b H2=>cmpV op a b H2 fun c H3=>truthV c fun r =>
      if r then wpE G hm z l H3 (fun d H4=>cmpV op2 b d H4 Q) X else Q (.bool false) H3) X) X
  | .isi e t,l,H,Q,X=>wpE G hm e l H (fun v H1=>isiV G v t H1 Q) X
  | .bf f args,l,H,Q,X=>wpEs G hm args l H (fun vs H1=>bfH hm f vs H1∧bfV f vs H1 Q) X
  | .bm m o args,l,H,Q,X=>wpE G hm o l H (fun v H1=>bmOn m v H1 fun b=>wpEs G hm args l H1 (fun vs H2=>bmV b m v vs H2 Q) X) X
  | .call f args,l,H,Q,X=>wpE G hm f l H (fun v H1=>wpEs G hm args l H1 (fun vs H2=>callV G hm v vs H2 Q X) X) X
  | .meth o m args,l,H,Q,X=>wpE G hm o l H (fun v H1=>methV G v m H1 fun f=>wpEs G hm args l H1 (fun vs H2=>G.fn f hm (v :: vs) H2 Q X) X) X
  | .idx o i,l,H,Q,X=>wpE G hm o l H (fun v H1=>wpE G hm i l H1 (fun k H2=>idxV v k H2 Q) X) X
  | .slice o lo hi,l,H,Q,X=>wpE G hm o l H (fun v H1=>wpO G hm lo l H1 (fun a H2=>wpO G hm hi l H2 (fun b H3=>sliceV v a b H3 Q) X) X) X
  | .list es,l,H,Q,X=>wpEs G hm es l H (fun vs H1=>vs.length≤sizeLine∧newV (.list vs) H1 Q) X
  | .tup es,l,H,Q,X=>wpEs G hm es l H (fun vs H1=>vs.length≤sizeLine∧newV (.tup vs) H1 Q) X
  | .dict ks vs,l,H,Q,X=>wpEs G hm ks l H (fun a H1=>wpEs G hm vs l H1 (fun b H2=>dictV a b H2 Q) X) X
  | .comp elt x src ifs,l,H,Q,X=>wpE G hm src l H (fun v H1=>iterH hm v H1 fun guard items=>items.length≤sizeLine ∧
      compG guard (fun v H2 k=>wpB G hm true ifs ((l.del ".0").upd x v) H2 (fun c H3=>truthV c fun r =>
        if r then wpE G hm elt ((l.del ".0").upd x v) H3 (fun u H4=>k (some u) H4) (fun _ _=>False) else k none H3) (fun _ _=>False)) items [] H1
        fun us H'=>newV (.list us) H' Q) X
noncomputable def wpEs (G:Gx) (hm:Bool):List Ex→Loc→Hp→(List Value→Hp→Prop)→XV→Prop
  | [],_,H,Q,_=>Q [] H
  | e :: es,l,H,Q,X=>wpE G hm e l H (fun v H1=>wpEs G hm es l H1 (fun vs H2=>Q (v :: vs) H2) X) X
noncomputable def wpO (G:Gx) (hm:Bool):Option Ex→Loc→Hp→QV→XV→Prop
  | none,_,H,Q,_=>Q .none H
  | some e,l,H,Q,X=>wpE G hm e l H Q X
noncomputable def wpB (G:Gx) (hm:Bool) (isAnd:Bool):List Ex→Loc→Hp→QV→XV→Prop
  | [],_,H,Q,_=>Q (.bool isAnd) H
  | e :: es,l,H,Q,X=>wpE G hm e l H (fun v H1=>truthV v fun b=>if b = isAnd then (match es with | []=>Q (.bool b) H1 | _=>wpB G hm isAnd es l H1 Q X) else Q (.bool b) H1) X
end
noncomputable def setAttrV (G:Gx) (o:Value) (a:Str) (v:Value) (H:Hp) (k:Hp→Prop):Prop :=
  match o with
  | .ref x=>match H x with
    | some (.inst C d)=>(match H d with
      | some (.ns kvs)=>G.fld C a = true∧kvs.length≤100∧k (H.upd d (.ns (stored kvs a v)))
      | _=>False)
    | _=>False
  | _=>False
noncomputable def setItemV (o i v:Value) (H:Hp) (k:Hp→Prop):Prop :=
  match o,i with
  | .ref a, .int n _=>match H a with
    | some (.idict kvs)=>kvs.length≤sizeLine∧k (H.upd a (.idict (stored kvs n v)))
    | _=>False
  | _,_=>False
inductive Fl where
  | next | cont
  | ret (v:Value)
noncomputable abbrev QS:=Fl→Loc→Hp→Prop
noncomputable abbrev XS:=Addr→Loc→Hp→Prop
noncomputable def forG (guard:Hp→Prop) (x:Str) (body:Loc→Hp→QS→Prop):List Value→Loc→Hp→QS→Prop
  | [],l,H,Q=>guard H∧Q .next l H
  | v :: vs,l,H,Q=>guard H∧body (l.upd x v) H fun f l' H'=>match f with
    | .next | .cont=>forG guard x body vs l' H' Q
    | .ret r=>Q (.ret r) l' H'
noncomputable def whileN (test:Loc→Hp→(Bool→Hp→Prop)→Prop) (body:Loc→Hp→QS→Prop) (Q:QS):Nat→Loc→Hp→Prop
  | 0,_,_=>False
  | n + 1,l,H=>test l H fun b H1=>if b then body l H1 (fun f l' H'=>match f with
      | .next | .cont=>whileN test body Q n l' H'
      | .ret r=>Q (.ret r) l' H') else Q .next l H1
mutual
noncomputable def wpS (G:Gx) (hm:Bool):Sm→Loc→Hp→QS→XS→Prop
  | .expr e,l,H,Q,X=>wpE G hm e l H (fun _ H'=>Q .next l H') (fun C H'=>X C l H')
  | .asg x e,l,H,Q,X=>wpE G hm e l H (fun v H'=>Q .next (l.upd x v) H') (fun C H'=>X C l H')
  | .asgAttr o a e,l,H,Q,X=>wpE G hm e l H (fun v H1=>wpE G hm o l H1 (fun ov H2=>setAttrV G ov a v H2 fun H'=>Q .next l H') (fun C H'=>X C l H')) (fun C H'=>X C l H')
  | .asgIdx o i e,l,H,Q,X=>wpE G hm e l H (fun v H1=>wpE G hm o l H1 (fun ov H2=>wpE G hm i l H2 (fun iv H3=>setItemV ov iv v H3 fun H'=>Q .next l H') (fun C H'=>X C l H')) (fun C H'=>X C l H')) (fun C H'=>X C l H')
  | .ite c t f,l,H,Q,X=>wpE G hm c l H (fun v H1=>truthV v fun b=>if b then wpSs G hm t l H1 Q X else wpSs G hm f l H1 Q X) (fun C H'=>X C l H')
  | .for_ x src body,l,H,Q,X=>wpE G hm src l H (fun v H1=>iterH hm v H1 fun guard items=>forG guard x (fun l' H' K=>wpSs G hm body l' H' K X) items l H1 Q) (fun C H'=>X C l H')
  | .while_ c body,l,H,Q,X=>∃ n,whileN (fun l' H' K=>wpE G hm c l' H' (fun v H1=>truthV v fun b=>K b H1) (fun C H'=>X C l' H')) (fun l' H' K=>wpSs G hm body l' H' K X) Q n l H
  | .ret e,l,H,Q,X=>wpE G hm e l H (fun v H'=>Q (.ret v) l H') (fun C H'=>X C l H')
  | .raise c,l,H,_,X=>hm = false∧(match G.glob c with | some (.ref C)=>G.isExc C = true∧X C l H | _=>False)
  | .try_ body hs,l,H,Q,X=>wpSs G hm body l H Q fun C l' H'=>hm = false∧G.isExc C = true∧wpH G hs C l' H' Q X
  | .cont,l,H,Q,_=>Q .cont l H
  | .pass,l,H,Q,_=>Q .next l H
noncomputable def wpSs (G:Gx) (hm:Bool):List Sm→Loc→Hp→QS→XS→Prop
  | [],l,H,Q,_=>Q .next l H
  | st :: r,l,H,Q,X=>wpS G hm st l H (fun f l' H'=>match f with | .next=>wpSs G hm r l' H' Q X | f=>Q f l' H') X
noncomputable def wpH (G:Gx):List Hd→Addr→Loc→Hp→QS→XS→Prop
  | [],C,l,H,_,X=>X C l H
  | .mk c n body :: r,C,l,H,Q,X=>match G.glob c with
    | some (.ref D)=>G.isExc D = true∧if G.sub C D then (match n with
        | none=>wpSs G true body l H Q (fun _ _ _=>False)
        | some y=>∀ e,H e = none→wpSs G true body (l.upd y (.ref e)) (H.upd e (.exc C)) (fun f l' H'=>Q f (l'.del y) (H'.del e)) (fun _ _ _=>False))
      else wpH G r C l H Q X
    | _=>False
end
noncomputable def wpF (G:Gx) (hm:Bool) (params:List Str) (body:List Sm) (args:List Value) (H:Hp) (Q:QV) (X:XV):Prop :=
  params.length = args.length∧wpSs G hm body (fun x=>(params.zip args).lookup x) H
    (fun f _ H'=>match f with | .next=>Q .none H' | .ret v=>Q v H' | .cont=>False) (fun C _ H'=>X C H')
end Mine
end

section
open PySem PyProof.Rows PySem.Calls
namespace Mine
noncomputable def PostE (P:Pm) (F:Fm) (l:Loc) (Q:QV):Value→Shared→Prop:=fun V s'=>∃ H',Inv P F l H' s'∧Q (er V) H'
section
variable {P:Pm} {F:Fm} {l:Loc} {H:Hp} {s:Shared} {E:Value→Shared→Prop} {Q:QV} {A' B' a b:Value}
theorem same_int {x:Int} {t:Nat} (I:Inv P F l H s) (h:Q (.int x 0) H) (u:Tok):PostE P F l Q (.int x u) { s with toks:=t }:=⟨H,I.toks t,h⟩
theorem IsL.isList {h:Heap} {a:Addr} {vs:Array Value} (x:IsL h a vs):h.IsList a vs:=let ⟨n,e⟩:=x;⟨_,e,rfl,n,rfl⟩
theorem mt_list {h:Heap} {a:Addr} {vs:Array Value} (hl:IsL h a vs) (hz:vs.size≤2 ^ 25):Mt P h a (.list (vs.toList.map er)):=⟨vs,hl.isList,rfl,by simpa using hz,hl⟩
theorem mt_tup {h:Heap} {a:Addr} {vs:Array Value} (hl:h.IsTuple a vs) (hz:vs.size≤2 ^ 25):Mt P h a (.tup (vs.toList.map er)):=⟨vs,hl,rfl,by simpa using hz⟩
theorem new_list (K:FmOk P F) (I:Inv P F l H s) {h':Heap} {t:Nat} {m:Str→Option Value} {vs:Array Value} {n:Nat}
    (hm:∀ x v,l x = some v→F.env.kindOf x = some .local→∃ V,m x = some V∧er V = v) (F':Fr P.base F.env.locals h' m)
    (N':News P.base F.env.locals h' ((s.heap.objs.size,{ cls:=.type "list",data:=.seq vs n }) :: allNews P.base s.heap F.env.locals))
    (hz:vs.size≤2 ^ 25) (h:newV (.list (vs.toList.map er)) H Q):PostE P F l Q (.ref s.heap.objs.size) { s with heap:=h',toks:=t } :=
  ⟨_,(I.after K hm F' N' fun _ hp=>.tail _ hp).track (I.ofSize K) (bigs_of (I.base_le K)) (mt_list ⟨n,(N' _ (.head _)).1⟩ hz),h _ I.fresh⟩
theorem abs63 {y:Int} (h:0 < y) (h2:y < 2 ^ 63):y.natAbs < 2 ^ 63:=Int.natAbs_lt_natAbs_of_nonneg_of_lt (Int.le_of_lt h) h2
theorem intBits_lt {x:Int} (h:x.natAbs < 2 ^ 63):Builtin.Int.intBits x≤64:=by
  unfold Builtin.Int.intBits
  split
  · exact Nat.zero_le _
  · exact Nat.le_succ_of_le ((Nat.log2_lt (n:=x.natAbs) (k:=63) (by intro q;simp_all)).mpr h)
theorem s_mulL (K:FmOk P F) (I:Inv P F l H s) {a:Addr} {xs:List Value} {n:Int} {u:Tok} (hx:H a = some (.list xs)) (h1:n≤1000) (h2:-1000≤n) (h3:xs.length≤1000) (q:newV (.list (List.replicate n.toNat xs).flatten) H Q) :
    wpAny P.M F.A (binaryOp .Mult (.ref a) (.int n u)) (PostE P F l Q) E s:=by
  obtain ⟨m,Fr,hm⟩:=I.fr K
  obtain ⟨vs,hl,rfl,z1,k,hk⟩:=I.objs _ _ hx
  rw [List.length_map,Array.length_toList] at h3
  have hz:vs.size * n.toNat≤1000 * 1000:=Nat.mul_le_mul h3 (Int.toNat_le.2 h1)
  have e:=listMul_foldl_if vs n.toNat
  refine mul_list Fr (news_all _ _ _) hk (Int.le_trans (by decide) h2) (Int.lt_of_le_of_lt h1 (by decide)) (Nat.le_trans hz (by decide)) fun h' F' N'=>?_
  rw [e] at N'
  refine new_list K I (t:=s.toks) hm F' N' ?_ ?_
  · rw [List.size_toArray,List.length_flatten,List.map_replicate,List.sum_replicate_nat,Array.length_toList]
    exact Nat.le_trans (Nat.le_of_eq (Nat.mul_comm ..)) (Nat.le_trans hz (by decide))
  · rw [List.map_flatten,List.map_replicate];exact q
theorem s_bin (K:FmOk P F) (I:Inv P F l H s) (op:Operator) (ha:er A' = a) (hb:er B' = b) (h:binV op a b H Q):wpAny P.M F.A (binaryOp op A' B') (PostE P F l Q) E s:=by
  unfold binV at h
  split at h
  · unfold addV at h
    split at h
    · obtain ⟨_,rfl⟩:=er_int ha;obtain ⟨y,_,rfl,h⟩:=onInt_elim hb h
      exact add_int (same_int I h _)
    · obtain ⟨_,rfl⟩:=er_str ha;obtain ⟨y,_,rfl,h⟩:=onStr_elim hb h
      exact add_str (fun t' tk=>⟨H,I.toks tk,h.2⟩) h.1
    · have:=er_ref ha;subst this;obtain ⟨y,rfl,h⟩:=onRef_elim hb h
      obtain ⟨m,Fr,hm⟩:=I.fr K
      unfold addR at h
      split at h
      · rename_i xs hx
        split at h
        · rename_i ys hy
          obtain ⟨vs,hl,rfl,z1⟩:=I.objs _ _ hx
          obtain ⟨ws,hl',rfl,z2⟩:=I.objs _ _ hy
          simp only [List.length_map,Array.length_toList] at h z1 z2
          refine add_arrays Fr (news_all _ _ _) hl hl' (fun h' F' N'=>new_list K I (t:=s.toks) hm F' N' ?_ ?_) h.1
          · simp;have:=h.1;simp [sizeLine] at this;exact Nat.le_trans this (by decide)
          · simpa using h.2
        · exact h.elim
      · exact h.elim
    · exact h.elim
  · obtain ⟨x,_,rfl,h⟩:=onInt_elim ha h;obtain ⟨y,_,rfl,h⟩:=onInt_elim hb h
    exact sub_int (same_int I h _)
  · unfold multV at h
    split at h
    · rename_i x _;obtain ⟨_,rfl⟩:=er_int ha;obtain ⟨y,_,rfl,h⟩:=onInt_elim hb h
      refine mul_int (same_int I h.2 _) ?_
      unfold IntMulOk shortFactorBits
      rcases h.1 with q | q
      · have:=intBits_lt q;simp;omega
      · have:=intBits_lt q;simp;omega
    · rename_i x _;obtain ⟨_,rfl⟩:=er_str ha;obtain ⟨n,_,rfl,h⟩:=onInt_elim hb h
      refine SB.mul ?_ (fun t' tk=>⟨H,I.toks tk,h.2.2.2⟩)
      obtain ⟨h1,h2,h3,_⟩:=h
      refine ⟨by simp;omega,fun q _=>?_,fun q _=>?_⟩
      · have:(1000:Int)≤(2 ^ 63 - 1) / n:=by
          apply Int.le_ediv_of_mul_le (by omega)
          have:1000 * n≤1000 * 1000:=Int.mul_le_mul_of_nonneg_left h2 (by omega)
          omega
        omega
      · have:x.length * n.toNat≤1000 * 1000:=Nat.mul_le_mul h1 (by omega)
        simp [Builtin.Str.tooLong,sizeLine];omega
    · have:=er_ref ha;subst this;obtain ⟨n,_,rfl,h⟩:=onInt_elim hb h
      split at h
      · rename_i xs hx
        obtain ⟨h1,h2,h3,q⟩:=h
        exact s_mulL K I hx h1 h2 h3 q
      · exact h.elim
    · exact h.elim
  · obtain ⟨x,_,rfl,h⟩:=onInt_elim ha h;obtain ⟨y,_,rfl,h⟩:=onInt_elim hb h
    refine floordiv_int (Int.ne_of_gt h.1) ?_ (.inl ?_)
    · rw [Int.fdiv_eq_ediv_of_nonneg _ (Int.le_of_lt h.1)];exact same_int I h.2.2 _
    · unfold Builtin.divisionGoesByPylong
      have:y.natAbs.log2 < 63:=by
        by_cases hy:y.natAbs = 0
        · rw [hy];decide
        · exact (Nat.log2_lt hy).mpr (abs63 h.1 h.2.1)
      have h0:¬ y = 0:=Int.ne_of_gt h.1
      simp [h0]
      exact fun z=>absurd z (Nat.not_lt.2 (Nat.succ_le_of_lt (Nat.lt_of_le_of_lt (Nat.div_le_self ..) (Nat.lt_of_lt_of_le this (show 63≤300 by decide)))))
  · obtain ⟨x,_,rfl,h⟩:=onInt_elim ha h;obtain ⟨y,_,rfl,h⟩:=onInt_elim hb h
    refine mod_int (Int.ne_of_gt h.1) ?_
    rw [Int.fmod_eq_emod_of_nonneg _ (Int.le_of_lt h.1)];exact same_int I h.2 _
  · obtain ⟨x,_,rfl,h⟩:=onInt_elim ha h;obtain ⟨y,_,rfl,h⟩:=onInt_elim hb h
    have:=intBits_lt h.2.2.1
    refine pow_int h.1 ?_ (same_int I h.2.2.2 _)
    have h1:(Builtin.Int.intBits x:Int) * y≤64 * 100:=Int.mul_le_mul (Int.ofNat_le.2 this) h.2.1 h.1 (by decide)
    exact Int.le_trans h1 (by decide)
  · exact h.elim
theorem reads_of (I:Inv P F l H s) {v:Value} {d:PyData} (h:Rd H v d):∀ V,er V = v→∃ as,Reads s.heap V d as:=by
  refine Rd.rec (motive_1:=fun v d _=>∀ V,er V = v→∃ as,Reads s.heap V d as) (motive_2:=fun vs ds _=>∀ Vs:List Value,Vs.map er = vs→∃ as,ReadsAll s.heap Vs ds as)
    (fun V e=>⟨[],by rw [er_none e];exact .none⟩) (fun b V e=>⟨[],by rw [er_bool e];exact .bool b⟩) (fun i t V e=>⟨[],by obtain ⟨u,rfl⟩:=er_int e;exact .int i u⟩) (fun x t V e=>⟨[],by obtain ⟨u,rfl⟩:=er_str e;exact .str x u⟩) ?_ ?_ ?_ ?_ ?_ h
  · intro a xs ds ha _ ih V e
    have:=er_ref e;subst this
    obtain ⟨vs,⟨o,ho,hc,n,hd⟩,q,_⟩:=I.objs _ _ ha
    obtain ⟨as,r⟩:=ih vs.toList q
    exact ⟨_, .list ho hc hd r⟩
  · intro a xs ds ha _ ih V e
    have:=er_ref e;subst this
    obtain ⟨vs,⟨o,ho,hc,n,hd⟩,q,_⟩:=I.objs _ _ ha
    obtain ⟨as,r⟩:=ih vs.toList q
    exact ⟨_, .tuple ho hc hd r⟩
  · intro a xs ds ha _ ih V e
    have:=er_ref e;subst this
    obtain ⟨vs,⟨o,ho,hc,n,hd⟩,q,_⟩:=I.objs _ _ ha
    obtain ⟨as,r⟩:=ih vs.toList q
    exact ⟨_, .list ho hc hd r⟩
  · intro Vs e
    cases Vs with
    | nil=>exact ⟨[], .nil⟩
    | cons=>cases e
  · intro v vs d ds _ _ i1 i2 Vs e
    cases Vs with
    | nil=>cases e
    | cons V Vs =>
      obtain ⟨as,p⟩:=i1 V (List.cons.inj e).1
      obtain ⟨bs,q⟩:=i2 Vs (List.cons.inj e).2
      exact ⟨_, .cons p q⟩
theorem beq_dec {α:Type} [DecidableEq α] (x y:α):(x == y) = decide (x = y):=by rw [Bool.eq_iff_iff];simp
theorem s_eq (I:Inv P F l H s) (hu:F.A.units + 64 < cLine) (ha:er A' = a) (hb:er B' = b) (h:eqV a b H fun r=>Q (.bool r) H):wpAny P.M F.A (compareOp .Eq A' B') (PostE P F l Q) E s:=by
  unfold eqV at h
  split at h
  · obtain ⟨_,rfl⟩:=er_int ha;obtain ⟨_,rfl⟩:=er_int hb
    exact eq_int ⟨H,I,by rw [beq_dec];exact h⟩
  · obtain ⟨_,rfl⟩:=er_str ha;obtain ⟨_,rfl⟩:=er_str hb
    exact eq_str ⟨H,I,by rw [beq_dec];exact h⟩
  · rw [er_none ha];obtain ⟨_,rfl⟩:=er_str hb;exact EqNone.eq_none_str ⟨H,I,h⟩
  · obtain ⟨da,db,ra,rb,sa,sb,q⟩:=h
    obtain ⟨as,ra⟩:=reads_of I ra A' ha
    obtain ⟨bs,rb⟩:=reads_of I rb B' hb
    exact SeqAt.compareEq_shaped ra rb sa sb hu ⟨H,I,q⟩
theorem s_ne (I:Inv P F l H s) (hu:F.A.units + 64 < cLine) (ha:er A' = a) (hb:er B' = b) (h:eqV a b H fun r=>Q (.bool (!r)) H):wpAny P.M F.A (compareOp .NotEq A' B') (PostE P F l Q) E s:=by
  unfold eqV at h
  split at h
  · obtain ⟨_,rfl⟩:=er_int ha;obtain ⟨_,rfl⟩:=er_int hb
    exact ne_int ⟨H,I,by show Q (.bool (_ != _)) H;unfold bne;rw [beq_dec];exact h⟩
  · obtain ⟨_,rfl⟩:=er_str ha;obtain ⟨_,rfl⟩:=er_str hb
    exact ne_str ⟨H,I,by show Q (.bool (_ != _)) H;unfold bne;rw [beq_dec];exact h⟩
  · rw [er_none ha];obtain ⟨_,rfl⟩:=er_str hb;exact EqNone.ne_none_str ⟨H,I,h⟩
  · obtain ⟨da,db,ra,rb,sa,sb,q⟩:=h
    obtain ⟨as,ra⟩:=reads_of I ra A' ha
    obtain ⟨bs,rb⟩:=reads_of I rb B' hb
    exact SeqAt.compareNe_shaped ra rb sa sb hu ⟨H,I,q⟩
theorem valueAt_er {K:Type} [DecidableEq K] (ks:List (K×Value)) (k:K):valueAt (ks.map fun p=>(p.1,er p.2)) k = (valueAt ks k).map er:=by
  unfold valueAt
  induction ks with
  | nil=>rfl
  | cons p r ih =>
    simp only [List.map_cons,List.find?_cons]
    by_cases e:p.1 = k
    · simp [e]
    · simp [e];simpa using ih
theorem not_modules (Y:PmOk P) (I:Inv P F l H s) {a:Addr} {o:AObj} (h:H a = some o) (hb:Bigs P a o→P.base.objs.size≤a:=by exact id):(a == sysModules) = false:=by
  have h3:sysModules < mainGlobals:=by decide
  exact beq_eq_false_iff_ne.mpr (Nat.ne_of_gt (Nat.lt_of_lt_of_le (Nat.lt_trans h3 Y.g.lt) (hb (I.big a o h))))
theorem ints_of:∀ {vs:List Value} {ns:List Int},vs.map er = ns.map (fun n=>Value.int n 0)→IntsAre vs ns
  | [],[],_=>.nil
  | [],_ :: _,e=>by simp at e
  | _ :: _,[],e=>by simp at e
  | v :: vs,n :: ns,e=>by
    simp only [List.map_cons,List.cons.injEq] at e
    obtain ⟨t,rfl⟩:=er_int e.1
    exact .cons n t (ints_of e.2)
theorem strs_of:∀ {vs:List Value} {ns:List Str},vs.map er = ns.map (fun n=>Value.str n 0)→StrsAre vs ns
  | [],[],_=>.nil
  | [],_ :: _,e=>by simp at e
  | _ :: _,[],e=>by simp at e
  | v :: vs,n :: ns,e=>by
    simp only [List.map_cons,List.cons.injEq] at e
    obtain ⟨t,rfl⟩:=er_str e.1
    exact .cons n t (strs_of e.2)
theorem any_mem (ns:List Int) (i:Int):ns.any (· == i) = decide (i∈ns):=by
  rw [Bool.eq_iff_iff];simp
theorem s_in (Y:PmOk P) (I:Inv P F l H s) (ha:er A' = a) (hb:er B' = b) (h:inV a b H fun r=>Q (.bool r) H):wpAny P.M F.A (compareOp .In A' B') (PostE P F l Q) E s:=by
  unfold inV at h
  split at h
  · obtain ⟨_,rfl⟩:=er_str ha;obtain ⟨_,rfl⟩:=er_str hb
    exact in_str ⟨H,I,h⟩
  · obtain ⟨_,rfl⟩:=er_int ha;have:=er_ref hb;subst this
    split at h
    · rename_i hx
      obtain ⟨ks,hd,rfl⟩:=I.objs _ _ hx
      refine wpAny_in_of (intKind_is _ _ _ _) (not_modules Y I hx) hd.mapOf ⟨H,I.toks _, ?_⟩
      rw [valueAt_er] at h
      simpa [er] using h
    · rename_i hx
      obtain ⟨ns,rfl,h⟩:=h
      obtain ⟨⟨vs⟩,hl,q,_⟩:=I.objs _ _ hx
      exact in_list_ints hl (ints_of q) ⟨H,I,by rw [any_mem];exact h⟩
    · exact h.elim
  · exact h.elim
theorem s_notin (Y:PmOk P) (I:Inv P F l H s) (ha:er A' = a) (hb:er B' = b) (h:inV a b H fun r=>Q (.bool (!r)) H):wpAny P.M F.A (compareOp .NotIn A' B') (PostE P F l Q) E s:=by
  unfold inV at h
  split at h
  · obtain ⟨_,rfl⟩:=er_str ha;obtain ⟨_,rfl⟩:=er_str hb
    exact notIn_str ⟨H,I,h⟩
  · obtain ⟨_,rfl⟩:=er_int ha;have:=er_ref hb;subst this
    split at h
    · rename_i hx
      obtain ⟨ks,hd,rfl⟩:=I.objs _ _ hx
      refine wpAny_notIn_of (intKind_is _ _ _ _) (not_modules Y I hx) hd.mapOf ⟨H,I.toks _, ?_⟩
      rw [valueAt_er] at h
      simpa [er] using h
    · rename_i hx
      obtain ⟨ns,rfl,h⟩:=h
      obtain ⟨⟨vs⟩,hl,q,_⟩:=I.objs _ _ hx
      exact notin_list_ints hl (ints_of q) ⟨H,I,by rw [any_mem];exact h⟩
    · exact h.elim
  · exact h.elim
theorem s_is (I:Inv P F l H s) (h:match er A' with | .none=>Q (.bool true) H | .builtin _=>False | _=>Q (.bool false) H):wpAny P.M F.A (compareOp .Is A' .none) (PostE P F l Q) E s:=by
  cases A' <;> dsimp only [er] at h
  case none=>exact wpAny_is_plain rfl ⟨H,I,h⟩
  all_goals exact wpAny_is_other rfl (by simp) ⟨H,I,h⟩
theorem s_isnot (I:Inv P F l H s) (h:match er A' with | .none=>Q (.bool false) H | .builtin _=>False | _=>Q (.bool true) H):wpAny P.M F.A (compareOp .IsNot A' .none) (PostE P F l Q) E s:=by
  cases A' <;> dsimp only [er] at h
  case none=>exact wpAny_isNot_self rfl ⟨H,I,h⟩
  all_goals exact wpAny_isNot_other rfl (by simp) ⟨H,I,h⟩
theorem s_cmp (Y:PmOk P) (I:Inv P F l H s) (hu:F.A.units + 64 < cLine) (op:CmpOp) (ha:er A' = a) (hb:er B' = b) (h:cmpV op a b H Q):wpAny P.M F.A (compareOp op A' B') (PostE P F l Q) E s:=by
  unfold cmpV at h
  cases op <;> dsimp only at h
  · exact s_eq I hu ha hb h
  · exact s_ne I hu ha hb h
  · split at h
    · obtain ⟨_,rfl⟩:=er_int ha;obtain ⟨_,rfl⟩:=er_int hb;exact lt_int ⟨H,I,h⟩
    · obtain ⟨_,rfl⟩:=er_str ha;obtain ⟨_,rfl⟩:=er_str hb;exact lt_str ⟨H,I,h⟩
    · exact h.elim
  · split at h
    · obtain ⟨_,rfl⟩:=er_int ha;obtain ⟨_,rfl⟩:=er_int hb;exact le_int ⟨H,I,h⟩
    · exact h.elim
  · split at h
    · obtain ⟨_,rfl⟩:=er_int ha;obtain ⟨_,rfl⟩:=er_int hb;exact gt_int ⟨H,I,h⟩
    · obtain ⟨_,rfl⟩:=er_str ha;obtain ⟨_,rfl⟩:=er_str hb;exact PySem.P.gt_str ⟨H,I,h⟩
    · exact h.elim
  · split at h
    · obtain ⟨_,rfl⟩:=er_int ha;obtain ⟨_,rfl⟩:=er_int hb;exact ge_int ⟨H,I,h⟩
    · exact h.elim
  · split at h
    · rw [er_none hb];subst ha;exact s_is I h
    · exact h.elim
  · split at h
    · rw [er_none hb];subst ha;exact s_isnot I h
    · exact h.elim
  · exact s_in Y I ha hb h
  · exact s_notin Y I ha hb h
end
end Mine
end

section
open PySem PyProof.Rows PySem.Calls
namespace Mine
theorem slice_core {α:Type} (xs:List α) (a:Nat):∀ n:Nat,a + n≤xs.length→((List.range n).map (fun k=>a + k)).filterMap (fun i=>xs[i]?) = (xs.take (a + n)).drop a
  | 0,_=>by simp
  | n + 1,h=>by
    have ih:=slice_core xs a n (Nat.le_of_succ_le h)
    rw [List.range_succ,List.map_append,List.filterMap_append,ih]
    have hl:a + n < xs.length:=h
    simp only [List.map_cons,List.map_nil,List.filterMap_cons,List.getElem?_eq_getElem hl,List.filterMap_nil]
    have:xs.take (a + (n + 1)) = xs.take (a + n)++[xs[a + n]]:=by rw [← Nat.add_assoc];exact List.take_succ_eq_append_getElem hl
    rw [this,List.drop_append_of_le_length]
    rw [List.length_take];exact Nat.le_min.2 ⟨Nat.le_add_right ..,Nat.le_trans (Nat.le_add_right ..) (Nat.le_of_lt hl)⟩
theorem clip_eq (n:Nat) (i:Int):(max 0 (min (if i < 0 then i + n else i) (n:Int))) = (cutAt n i:Int):=by
  unfold cutAt
  split
  · rename_i h
    rw [Int.ofNat_toNat,Int.min_eq_left (Int.le_trans (Int.add_le_add_right (Int.le_of_lt h) _) (Int.le_of_eq (Int.zero_add _))),Int.max_comm]
  · rename_i h
    have h:=Int.not_lt.1 h
    rw [Int.max_eq_right (Int.le_min.2 ⟨h,Int.natCast_nonneg _⟩)]
    obtain ⟨m,rfl⟩:=Int.eq_ofNat_of_zero_le h
    rw [Int.toNat_natCast]
    rcases Nat.le_total m n with q | q
    · rw [Nat.min_eq_left q,Int.min_eq_left (Int.ofNat_le.2 q)]
    · rw [Nat.min_eq_right q,Int.min_eq_right (Int.ofNat_le.2 q)]
theorem cutAt_le (n:Nat) (i:Int):cutAt n i≤n:=Int.ofNat_le.1 (clip_eq n i ▸ Int.max_le.2 ⟨Int.natCast_nonneg _,Int.min_le_right ..⟩)
theorem hiAt_le (n:Nat) (i:Option Int):hiAt n i≤n:=by cases i <;> simp [hiAt,cutAt_le]
theorem sliceRange_one (a b:Nat):sliceRange (a:Int) (b:Int) 1 = (List.range (b - a)).map fun k=>a + k:=by
  have e:(if (1:Int) > 0 then (if (a:Int) < b then ((b:Int) - a + 1 - 1) / 1 else 0) else (if (a:Int) > b then ((a:Int) - b - 1 - 1) / (-1) else 0)).toNat = b - a:=by
    rw [if_pos Int.one_pos,Int.add_sub_cancel,Int.ediv_one]
    split
    · exact Int.toNat_sub b a
    · rename_i h;exact (Nat.sub_eq_zero_of_le (Int.ofNat_le.1 (Int.not_lt.1 h))).symm
  unfold sliceRange
  simp only [e]
  apply List.map_congr_left
  intro k _
  rw [Int.one_mul,← Int.natCast_add,Int.toNat_natCast]
theorem sliceIdx (n:Nat) (lo hi:Option Int):sliceRange (sliceBounds lo hi none n).1 (sliceBounds lo hi none n).2.1 (sliceBounds lo hi none n).2.2 = (List.range (hiAt n hi - loAt n lo)).map fun k=>loAt n lo + k:=by
  have h1:(sliceBounds lo hi none n).1 = (loAt n lo:Int):=by
    cases lo with
    | none=>simp [sliceBounds,loAt]
    | some i=>simp only [sliceBounds,Option.getD,loAt];rw [if_pos Int.one_pos];exact clip_eq _ _
  have h2:(sliceBounds lo hi none n).2.1 = (hiAt n hi:Int):=by
    cases hi with
    | none=>simp [sliceBounds,hiAt]
    | some i=>simp only [sliceBounds,Option.getD,hiAt];rw [if_pos Int.one_pos];exact clip_eq _ _
  have h3:(sliceBounds lo hi none n).2.2 = 1:=rfl
  rw [h1,h2,h3,sliceRange_one]
theorem slicePick_eq {α:Type} (xs:List α) (lo hi:Option Int) :
    (sliceRange (sliceBounds lo hi none xs.length).1 (sliceBounds lo hi none xs.length).2.1 (sliceBounds lo hi none xs.length).2.2).filterMap (fun i=>xs[i]?) = pySlice xs lo hi:=by
  have key:∀ a b:Nat,b≤xs.length→((List.range (b - a)).map fun k=>a + k).filterMap (fun i=>xs[i]?) = (xs.take b).drop a:=by
    intro a b hb
    by_cases hab:b≤a
    · have:b - a = 0:=Nat.sub_eq_zero_of_le hab
      rw [this]
      rw [List.drop_eq_nil_of_le (by rw [List.length_take];exact Nat.le_trans (Nat.min_le_left ..) hab)]
      simp
    · have e:=Nat.add_sub_cancel' (Nat.le_of_not_le hab)
      rw [slice_core xs a (b - a) (Nat.le_trans (Nat.le_of_eq e) hb),e]
  rw [sliceIdx]
  exact key _ _ (hiAt_le _ _)
theorem pySlice_whole {α:Type} (xs:List α) (lo hi:Option Int) (h:hiAt xs.length hi - loAt xs.length lo = xs.length):pySlice xs lo hi = xs:=by
  have:=hiAt_le xs.length hi
  unfold pySlice
  by_cases z:xs.length = 0
  · have:=List.eq_nil_of_length_eq_zero z;subst this;simp
  · have h2:hiAt xs.length hi = xs.length:=Nat.le_antisymm this (Nat.le_trans (Nat.le_of_eq h.symm) (Nat.sub_le ..))
    have h1:loAt xs.length lo = 0:=Nat.eq_zero_of_not_pos fun q=>Nat.ne_of_lt (Nat.sub_lt (Nat.lt_of_lt_of_le (Nat.pos_of_ne_zero z) (Nat.le_of_eq h2.symm)) q) (h.trans h2.symm)
    rw [h1,h2];simp
theorem pySlice_len {α:Type} (xs:List α) (lo hi:Option Int):(pySlice xs lo hi).length≤xs.length:=by
  unfold pySlice;rw [List.length_drop,List.length_take];exact Nat.le_trans (Nat.sub_le ..) (Nat.min_le_right ..)
theorem pySlice_map {α β:Type} (f:α→β) (xs:List α) (lo hi:Option Int):pySlice (xs.map f) lo hi = (pySlice xs lo hi).map f:=by
  unfold pySlice
  simp [List.map_take,List.map_drop]
theorem at_map {α β:Type} (f:α→β) (xs:List α) (k:Int) {v:β} (h:at? (xs.map f) k = some v):∃ u,at? xs k = some u∧f u = v:=by
  unfold at? at *
  simp only [List.length_map,List.getElem?_map] at h
  split at h
  · rename_i q;rw [if_pos q];exact Option.map_eq_some_iff.mp h
  · rename_i q;rw [if_neg q]
    split at h
    · rename_i q;rw [if_pos q];exact Option.map_eq_some_iff.mp h
    · cases h
theorem at_seqIndex {α:Type} (xs:List α) (k:Int) {v:α} (h:at? xs k = some v):∃ j,seqIndex? k xs.length = some j∧xs[j]? = some v∧-(xs.length:Int)≤k∧k < xs.length:=by
  unfold at? at h
  split at h
  · rename_i q
    have b:=(List.getElem?_eq_some_iff.mp h).1
    have b2:k < xs.length:=Int.lt_of_le_of_lt (Int.self_le_toNat k) (Int.ofNat_lt.2 b)
    refine ⟨k.toNat, ?_,h,Int.le_trans (Int.neg_nonpos_of_nonneg (Int.natCast_nonneg _)) q,b2⟩
    simp only [seqIndex?,if_neg (Int.not_lt.2 q)]
    rw [if_pos (Bool.and_eq_true_iff.2 ⟨decide_eq_true q,decide_eq_true b2⟩)]
  · split at h
    · rename_i q1 q2
      have q1:=Int.not_le.1 q1
      have q3:=Int.add_lt_add_right q1 (xs.length:Int)
      rw [Int.zero_add] at q3
      have q4:0≤k + xs.length:=Int.add_nonneg_iff_neg_le.2 q2
      refine ⟨(k + xs.length).toNat, ?_,h,q2,Int.lt_of_lt_of_le q1 (Int.natCast_nonneg _)⟩
      simp only [seqIndex?,if_pos q1]
      rw [if_pos (Bool.and_eq_true_iff.2 ⟨decide_eq_true q4,decide_eq_true q3⟩)]
    · cases h
section
variable {P:Pm} {F:Fm} {l:Loc} {H:Hp} {s:Shared} {E:Value→Shared→Prop} {Q:QV} {A' B' a b:Value}
theorem idx_hi {k:Int} {n:Nat} (e:k < n) (z:n≤2 ^ 25):k < 2 ^ 63:=Int.lt_of_lt_of_le e (Int.le_trans (Int.ofNat_le.2 z) (by decide))
theorem idx_lo {k:Int} {n:Nat} (e:-(n:Int)≤k) (z:n≤2 ^ 25):-2 ^ 63≤k:=Int.le_trans (Int.neg_le_neg (Int.le_trans (Int.ofNat_le.2 z) (by decide))) e
theorem s_idx (I:Inv P F l H s) (ha:er A' = a) (hb:er B' = b) (h:idxV a b H Q):wpAny P.M F.A (getItem A' B') (PostE P F l Q) E s:=by
  unfold idxV at h
  split at h
  · rename_i x k _;have:=er_ref ha;subst this;obtain ⟨_,rfl⟩:=er_int hb
    split at h
    · rename_i xs hx
      obtain ⟨⟨vs⟩,hl,q,z,_⟩:=I.objs _ _ hx
      split at h
      · rename_i v hv
        subst q
        obtain ⟨V,hV,rfl⟩:=at_map er vs k hv
        simp only [List.length_map] at z
        obtain ⟨j,e1,e2,e3,e4⟩:=at_seqIndex vs k hV
        by_cases hk:0≤k
        · refine wpAny_getItem_list hl hk (idx_hi e4 z) (x:=V) ?_ ⟨H,I,h⟩
          simp only [at?,if_pos hk] at hV
          simpa using hV
        · refine wpAny_getItem_list_neg hl (Int.not_le.1 hk) (by simpa using e3) (idx_lo e3 z) (x:=V) ?_ ⟨H,I,h⟩
          simp only [at?,if_neg hk,if_pos e3] at hV
          simpa using hV
      · exact h.elim
    · rename_i xs hx
      obtain ⟨⟨vs⟩,hl,q,z⟩:=I.objs _ _ hx
      split at h
      · rename_i v hv
        subst q
        obtain ⟨V,hV,rfl⟩:=at_map er vs k hv
        simp only [List.length_map] at z
        obtain ⟨j,e1,e2,e3,e4⟩:=at_seqIndex vs k hV
        by_cases hk:0≤k
        · refine wpAny_getItem_list hl hk (idx_hi e4 z) (x:=V) ?_ ⟨H,I,h⟩
          simp only [at?,if_pos hk] at hV
          simpa using hV
        · refine wpAny_getItem_list_neg hl (Int.not_le.1 hk) (by simpa using e3) (idx_lo e3 z) (x:=V) ?_ ⟨H,I,h⟩
          simp only [at?,if_neg hk,if_pos e3] at hV
          simpa using hV
      · exact h.elim
    · rename_i xs hx
      obtain ⟨⟨vs⟩,hl,q,z⟩:=I.objs _ _ hx
      split at h
      · rename_i v hv
        subst q
        obtain ⟨V,hV,rfl⟩:=at_map er vs k hv
        simp only [List.length_map] at z
        obtain ⟨j,e1,e2,e3,e4⟩:=at_seqIndex vs k hV
        exact getItem_tuple hl (idx_lo e3 z) (idx_hi e4 z) (j:=j) (by simpa using e1) (x:=V) (by simpa using e2) ⟨H,I,h⟩
      · exact h.elim
    · rename_i kvs hx
      obtain ⟨ks,hd,rfl⟩:=I.objs _ _ hx
      split at h
      · rename_i v hv
        rw [valueAt_er] at hv
        obtain ⟨V,hV,rfl⟩:=Option.map_eq_some_iff.mp hv
        exact wpAny_getItem_of (intKind_is _ _ _ _) hd.mapOf hV ⟨H,I.toks _,h⟩
      · exact h.elim
    · exact h.elim
  · rename_i x _ k _;obtain ⟨_,rfl⟩:=er_str ha;obtain ⟨_,rfl⟩:=er_int hb
    split at h
    · rename_i c hc
      obtain ⟨j,e1,e2,e3,e4⟩:=at_seqIndex _ k hc
      have hz:=h.1
      have hlen:x.cps.toList.length = x.length:=by simp [Str.length]
      rw [hlen] at e1 e3 e4
      simp only [sizeLine] at hz
      refine getItem_str (c:=c) (by simp;exact ⟨idx_lo e3 (Nat.le_trans hz (by decide)),idx_hi e4 (Nat.le_trans hz (by decide))⟩) ?_ ⟨H,I.toks _,h.2⟩
      rw [e1]
      simpa using e2
    · exact h.elim
  · exact h.elim
theorem partOf_er {V:Value} {i:Option Int} (h:partOf (er V) = some i):IsPart V i:=by
  cases V <;> simp [er,partOf] at h <;> subst h
  · exact .none
  · exact .int _ _
theorem s_len (I:Inv P F l H s) (ha:er A' = a) (h:lenV a H Q):wpAny P.M F.A (call (.builtin "len") [A']) (PostE P F l Q) E s:=by
  unfold lenV at h
  split at h
  · obtain ⟨_,rfl⟩:=er_str ha
    have:=h.1
    simp only [sizeLine] at this
    exact len_str (fun z=>absurd (Int.le_trans z (Int.ofNat_le.2 this)) (by decide)) ⟨H,I.toks _,h.2⟩
  · have:=er_ref ha;subst this
    split at h
    · rename_i hx
      obtain ⟨vs,hl,rfl,z,_⟩:=I.objs _ _ hx
      simp only [List.length_map,Array.length_toList] at h z
      exact len_list hl (Int.lt_of_le_of_lt (Int.ofNat_le.2 z) (by decide)) ⟨H,I.toks _,h⟩
    · rename_i hx
      obtain ⟨vs,hl,rfl,z⟩:=I.objs _ _ hx
      simp only [List.length_map,Array.length_toList] at h z
      exact len_list hl (Int.lt_of_le_of_lt (Int.ofNat_le.2 z) (by decide)) ⟨H,I.toks _,h⟩
    · rename_i hx
      obtain ⟨vs,hl,rfl,z⟩:=I.objs _ _ hx
      simp only [List.length_map,Array.length_toList] at h z
      exact len_tuple hl (Int.lt_of_le_of_lt (Int.ofNat_le.2 z) (by decide)) ⟨H,I.toks _,h⟩
    · exact h.elim
  · exact h.elim
end
end Mine
end

section
open PySem PyProof.Rows PySem.Calls
open PySem.W (dictOf getL putL putN plainGet hasDictIn findIn isFn noGet plainOver takerIn makesIn subIn)
namespace Mine
section
variable {w:World} {es:List DictEntry} {kvs:List (Str×Value)} {a:Str}
theorem isStr_key {k:Value} {x y:Str} {t:Tok} (h:k = .str x t):k.isStr y = decide (x = y):=by
  subst h;exact beq_dec _ _
theorem NsEs.noRef (h:NsEs w es kvs):es.any (·.refKey) = false:=by
  unfold NsEs at h
  induction h with
  | nil=>rfl
  | cons h _ ih =>
    obtain ⟨⟨t,ht⟩,_⟩:=h
    rw [List.any_cons,ih]
    simp [DictEntry.refKey,ht]
theorem valueAt_cons {K:Type} [DecidableEq K] (p:K×Value) (r:List (K×Value)) (k:K):valueAt (p :: r) k = if p.1 = k then some p.2 else valueAt r k:=by
  unfold valueAt
  by_cases e:p.1 = k <;> simp [e]
theorem NsEs.find (h:NsEs w es kvs):(es.find? (·.key.isStr a)).map (fun e=>er e.val) = valueAt kvs a:=by
  unfold NsEs at h
  induction h with
  | nil=>rfl
  | @cons e0 p _ _ h _ ih =>
    obtain ⟨⟨t,ht⟩,hv,_⟩:=h
    rw [valueAt_cons,List.find?_cons,isStr_key ht]
    by_cases e:p.1 = a
    · simp [e,hv]
    · simp [e,ih]
theorem NsEs.get (h:NsEs w es kvs):∃ V,getL a es = some V∧V.map er = valueAt kvs a:=by
  have f:=h.find (a:=a)
  unfold getL
  cases q:es.find? (·.key.isStr a) with
  | some e=>rw [q] at f;exact ⟨some e.val,rfl,f⟩
  | none=>rw [q] at f;rw [h.noRef];exact ⟨none,rfl,f⟩
theorem stored_cons {K:Type} [DecidableEq K] (p:K×Value) (r:List (K×Value)) (k:K) (v:Value) (hp:p.1 ∉ r.map (·.1)):stored (p :: r) k v = if p.1 = k then (p.1,v) :: r else p :: stored r k v:=by
  unfold stored
  by_cases e:p.1 = k
  · simp only [List.any_cons,e,decide_true,Bool.true_or,if_true,List.map_cons]
    congr 1
    conv=>rhs;rw [← List.map_id r]
    apply List.map_congr_left
    intro q hq
    rw [if_neg]
    · rfl
    · intro h;exact hp (by rw [e,← h];exact List.mem_map_of_mem hq)
  · simp only [List.any_cons,e,decide_false,Bool.false_or,List.map_cons,if_false]
    split <;> rfl
theorem NsEs.put (h:NsEs w es kvs) (hnd:(kvs.map (·.1)).Nodup) {v:Value} {t:Tok}:NsEs w (putL a (PyData.keyHash w.params a) (.str a t) v es) (stored kvs a (er v)):=by
  unfold NsEs at *
  induction h with
  | nil=>exact .cons ⟨⟨t,rfl⟩,rfl,rfl⟩ .nil
  | cons h r ih =>
    rename_i e p es kvs
    obtain ⟨⟨t',ht⟩,hv,hh⟩:=h
    simp only [List.map_cons,List.nodup_cons] at hnd
    rw [stored_cons _ _ _ _ hnd.1]
    unfold putL
    rw [isStr_key ht]
    by_cases q:p.1 = a
    · simp only [q,decide_true,if_true]
      exact .cons ⟨⟨t',by rw [ht,q]⟩,rfl,by rw [hh,q]⟩ r
    · simp only [q,decide_false,if_false,Bool.false_eq_true]
      exact .cons ⟨⟨t',ht⟩,hv,hh⟩ (ih hnd.2)
theorem putL_len (x:Str) (hs:Int) (k v:Value):∀ es:List DictEntry,(putL x hs k v es).length≤es.length + 1
  | []=>by simp [putL]
  | e :: r=>by
    unfold putL
    split
    · simp
    · simp;exact putL_len x hs k v r
theorem NsEs.length (h:NsEs w es kvs):es.length = kvs.length:=by
  unfold NsEs at h
  induction h with
  | nil=>rfl
  | cons _ _ ih=>simp [ih]
end
structure ExcCls (K:PySem.W.Frag) (D:Addr):Prop where
  ga:findIn K (.ref D) "__getattribute__" = some (some (.builtin "BaseException.__getattribute__"))
  gr:findIn K (.ref D) "__getattr__" = some none
  fo:PySem.W.findObj K D none "__class__" = some (.bind (.builtin "getset_descriptor.__get__") (.builtin "object.__class__"))
  ob:PySem.W.mroIn K D (.type "object") = some true
  be:PySem.W.mroIn K D (.type "BaseException") = some true
  cl:(PySem.W.clsIn K D).isSome = true
  ty:PySem.W.typeIn K (.ref D) = some (.type "type")
  ve:subIn K (.ref D) (.type "ValueError") = some true
noncomputable abbrev veMro:List Value:=[.type "ValueError", .type "Exception", .type "BaseException", .type "object"]
noncomputable def OwnObj (h:Heap) (C:Addr):Prop:=∃ bm N nm q bs hdct sn sub ab col dd k0 k1 k2 k3 k5 mN,h.get? C = some (excClassObj nm q C N bs bm hdct sn sub ab col dd k0 k1 k2 k3 k5 "ValueError.__new__")∧h.Ns N mN∧mN "__init__" = none∧OwnTail h veMro bm
structure GxOk (P:Pm) (G:Gx):Prop where
  glob:∀ x v,G.glob x = some v→∃ V,er V = v∧(P.mg x = some V∨(P.mg x = none∧P.mb x = some V))
  fld:∀ C a,G.fld C a = true→plainGet P.K C a = true∧hasDictIn P.K C = true∧findIn P.K (.ref C) a = some none ∧
    findIn P.K (.ref C) "__setattr__" = some (some (.builtin "object.__setattr__"))∧plainOver P.K C = true∧takerIn P.K C a = some none
  meth:∀ C m f,G.meth C m = some f→plainGet P.K C m = true∧findIn P.K (.ref C) m = some (some (.ref f))∧isFn P.K (.ref f) = true
  init:∀ C f,G.init C = some f→makesIn P.K C = true∧findIn P.K (.ref C) "__init__" = some (some (.ref f))∧isFn P.K (.ref f) = true∧PySem.W.keepIn P.K (.ref C) = true
  exc:∀ C,G.isExc C = true→ExcCls P.K C
  sub:∀ C D,G.isExc C = true→G.isExc D = true→subIn P.K (.ref C) (.ref D) = some (G.sub C D)
  self:∀ C,G.isExc C = true→G.sub C C = true
  own:∀ C,G.isExc C = true→OwnObj P.base C
section
variable {P:Pm} {F:Fm} {G:Gx} {l:Loc} {H:Hp} {s:Shared} {E:Value→Shared→Prop} {Q:QV} {A' B' a b:Value}
theorem Inv.kin (Y:PmOk P) (K:FmOk P F) (I:Inv P F l H s):P.K.In s.heap:=Y.kin.keeps fun b o e=>I.keep b o (K.base b o e)
theorem ns_nodup {kvs:List (Str×Value)} {k:Str} {v:Value} (h:(kvs.map (·.1)).Nodup):((stored kvs k v).map (·.1)).Nodup:=by
  unfold stored
  split
  · rw [List.map_map]
    have:((fun x:Str×Value=>x.1) ∘ fun kv:Str×Value=>if kv.1 = k then (kv.1,v) else kv) = fun kv=>kv.1:=by
      funext kv;simp only [Function.comp];split <;> rfl
    rw [this];exact h
  · rename_i q
    rw [List.map_append]
    refine List.nodup_append.mpr ⟨h,by simp,fun a ha b hb e=>?_⟩
    simp at hb
    subst hb
    obtain ⟨p,hp,e2⟩:=List.mem_map.mp ha
    apply q
    rw [List.any_eq_true]
    exact ⟨p,hp,by simp [e2,e]⟩
theorem s_attr (Y:PmOk P) (GO:GxOk P G) (K:FmOk P F) (I:Inv P F l H s) {n:Str} {ex:Bool} (ha:er A' = a) (h:attrV G a n H Q):wpAny P.M F.A (getAttr A' n ex) (PostE P F l Q) E s:=by
  unfold attrV at h
  split at h
  · rename_i x;have:=er_ref ha;subst this
    split at h
    · rename_i C d hx
      split at h
      · rename_i kvs hd
        obtain ⟨hf,h⟩:=h
        obtain ⟨m,Fr,hm⟩:=I.fr K
        have ox:=I.objs _ _ hx
        obtain ⟨es,k,od,ne,_⟩:=I.objs _ _ hd
        obtain ⟨V,g1,g2⟩:=ne.get (a:=n)
        obtain ⟨f1,f2,f3,f4,f5,f6⟩:=GO.fld C n hf
        have II:PySem.W.InstAt s.heap x { cls:=.ref C,dict:=some d,data:=.plain } C (some (dictOf es.toList k)):=⟨ox,rfl,rfl,by simpa [dictOf] using od⟩
        cases V with
        | none=>rw [← g2] at h;exact h.elim
        | some V =>
          rw [← g2] at h
          refine PySem.W.get_own Fr Y.kin II f1 f2 f3 rfl g1 ?_ ⟨H,I.toks _, ?_⟩
          · cases V <;> first | rfl | exact h.elim
          · cases V <;> first | exact h | exact h.elim
      · exact h.elim
    · exact h.elim
  · exact h.elim
theorem s_setattr (Y:PmOk P) (GO:GxOk P G) (K:FmOk P F) (I:Inv P F l H s) {n:Str} {k:Hp→Prop} (ha:er A' = a) (hb:er B' = b) (h:setAttrV G a n b H k):wpAny P.M F.A (setAttr A' n B') (fun _ s'=>∃ H',Inv P F l H' s'∧k H') E s:=by
  unfold setAttrV at h
  split at h
  · rename_i x;have:=er_ref ha;subst this
    split at h
    · rename_i C d hx
      split at h
      · rename_i kvs hd
        obtain ⟨hf,hlen,h⟩:=h
        obtain ⟨m,Fr,hm⟩:=I.fr K
        have ox:=I.objs _ _ hx
        obtain ⟨es,ep,od,ne,nd⟩:=I.objs _ _ hd
        obtain ⟨V,g1,g2⟩:=ne.get (a:=n)
        obtain ⟨f1,f2,f3,f4,f5,f6⟩:=GO.fld C n hf
        have od':s.heap.get? d = some (dictOf es.toList ep):=by simpa [dictOf] using od
        have II:PySem.W.InstAt s.heap x { cls:=.ref C,dict:=some d,data:=.plain } C (some (dictOf es.toList ep)):=⟨ox,rfl,rfl,od'⟩
        have hdL:=(I.neL K hd)
        have hdB:P.base.get? d = none:=by
          cases q:P.base.get? d with
          | none=>rfl
          | some o=>have:=K.base _ _ q;rw [(of_fre (I.free _ _ hd) rfl).1] at this;cases this
        obtain ⟨pre,post,e,h1,h2⟩:=allNews_split (mem_allNews od' hdL hdB)
        have el:es.toList.length = kvs.length:=ne.length
        refine PySem.W.set_plain (I.kin Y K) II f4 (PySem.W.osa_dict (s:={ s with toks:=s.toks + 1 }) (K:=P.K) (es:=putL n (PyData.keyHash P.w.params n) (.str n (s.toks + 1)) B' es.toList) (n:=putN n es.toList ep)
          Fr (pre:=pre) (post:=post) (e ▸ news_all _ _ _) ((I.toks (s.toks + 1)).kin Y K) II rfl f5 f6 f2 (by rw [PySem.W.lookIn_dict,g1];rfl) h1 h2 (PySem.W.putName_dict ..) rfl ?_ fun h' F' N'=>?_)
        · have:=putL_len n (PyData.keyHash P.w.params n) (.str n (s.toks + 1)) B' es.toList
          omega
        · refine ⟨_,I.putL K (t:=s.toks + 1 + 1) hd (fun c O eo hc hL=>?_) F'.ns hm (o':=.ns (stored kvs n b)) ?_,h⟩
          · cases q:P.base.get? c with
            | some o'=>exact (F'.keep c o' q).trans (by rw [← eo];exact (I.keep c o' (K.base c o' q)).symm)
            | none =>
              have hm:=mem_allNews eo hL q
              rw [e] at hm
              refine (N' (c,O) ?_).1
              rcases List.mem_append.mp hm with q | q
              · exact List.mem_append_left _ q
              · rcases List.mem_cons.mp q with q | q
                · exact absurd (congrArg Prod.fst q) hc
                · exact List.mem_append_right _ (.tail _ q)
          · refine ⟨(putL n (PyData.keyHash P.w.params n) (.str n (s.toks + 1)) B' es.toList).toArray,putN n es.toList ep,(N' (d,dictOf _ _) (by simp)).1, ?_,ns_nodup nd⟩
            have:=ne.put (a:=n) (v:=B') (t:=s.toks + 1) nd
            rw [hb] at this
            simpa using this
      · exact h.elim
    · exact h.elim
  · exact h.elim
end
end Mine
end

section
open PySem PyProof.Rows PySem.Calls
namespace Mine
noncomputable def ExcAt (h:Heap) (e C:Addr) (T:Option Addr):Prop :=
  ∃ oe vs,h.get? e = some oe∧oe.cls = .ref C∧oe.data = .fields vs∧(oe.dict = none∧vs[2]? = some .none)∧(match T with
    | none=>vs[1]? = some .none
    | some t=>vs[1]? = some (.ref t)∧t≠e∧∃ ot ts,h.get? t = some ot∧ot.data = .fields ts∧3 < ts.size)
theorem dict_mapFields (f:Array Value→Array Value) (o:Obj):(o.mapFields f).dict = o.dict:=by
  unfold Obj.mapFields;split <;> rfl
structure Exc (P:Pm) (F:Fm) (H:Hp) (s:Shared) (e C:Addr) (b:Bool):Prop where
  big:True
  off:Off F H e
  at_:∃ T,ExcAt s.heap e C T∧(∀ t,T = some t→Off F H t)∧(b = true→T.isSome = true)
theorem Exc.weak {P:Pm} {F:Fm} {H:Hp} {s:Shared} {e C:Addr} {b:Bool} (x:Exc P F H s e C b):Exc P F H s e C false :=
  ⟨x.big,x.off,let ⟨T,h,o,_⟩:=x.at_;⟨T,h,o,fun q=>nomatch q⟩⟩
noncomputable def PostX (P:Pm) (F:Fm) (l:Loc) (X:XV):Value→Shared→Prop:=fun EV s'=>∃ H' e C,EV = .ref e∧Inv P F l H' s'∧Exc P F H' s' e C false∧X C H'
section
variable {P:Pm} {F:Fm} {G:Gx} {l:Loc} {H:Hp} {s:Shared} {E:Value→Shared→Prop}
theorem Inv.slotsOnly (K:FmOk P F) (I:Inv P F l H s) {S:List Addr} {h':Heap} (hS:∀ b∈S,b = F.env.locals∨(F.fr b).isSome = true) (x:Heap.SlotsOnly S s.heap h'):Inv P F l H { s with heap:=h' }:=by
  have out:∀ b,b≠F.env.locals→F.fr b = none→h'.get? b = s.heap.get? b:=fun b h1 h2=>x.2.1 b fun q=>(hS b q).elim h1 fun e=>by rw [h2] at e;cases e
  refine ⟨I.gens,I.os,fun b o e=>?_,fun b d e=>?_, ?_,fun y c e=>?_,fun a o e=>?_,I.free,I.big⟩
  · refine (out b (fun q=>?_) ?_).trans (I.keep b o e)
    · rw [q,K.lg] at e;cases e
    · cases q:F.fr b with
      | none=>rfl
      | some d=>rw [(K.fg b d q).1] at e;cases e
  · obtain ⟨o,ho,hd⟩:=I.frk b d e
    obtain ⟨sl,q⟩:=x.2.2 b o ho
    exact ⟨_,q,hd⟩
  · obtain ⟨m,⟨o,es,ep,ho,hd,r⟩,q⟩:=I.loc
    obtain ⟨sl,q'⟩:=x.2.2 _ o ho
    exact ⟨m,⟨_,es,ep,q',hd,r⟩,q⟩
  · obtain ⟨vo,⟨o,ho,hd⟩,q⟩:=I.cel y c e
    obtain ⟨sl,q'⟩:=x.2.2 _ o ho
    exact ⟨vo,⟨_,q',hd⟩,q⟩
  · exact (I.objs a o e).congr (out a (I.neL K e) (I.frN K e))
theorem frames_fun (K:FmOk P F) (I:Inv P F l H s) (base:Heap) (hb:∀ b,base.get? b = none):∀ {es:List Env},(∀ e∈es,e.scope.kind≠.module∧∃ b,e.frame = some b∧(b = F.env.locals∨(F.fr b).isSome = true))→s.heap.FunFrames base es
  | [],_=>trivial
  | e :: es,h=>by
    obtain ⟨h1,b,h2,h3⟩:=h e (.head _)
    refine ⟨h1, ?_,frames_fun K I base hb fun e he=>h e (.tail _ he)⟩
    rcases h3 with rfl | h3
    · obtain ⟨m,⟨o,es',ep,ho,hd,r⟩,q⟩:=I.loc
      exact ⟨_,o,h2,hb _,ho,fun vs e=>by rw [hd] at e;cases e⟩
    · obtain ⟨d,hd⟩:=Option.isSome_iff_exists.mp h3
      obtain ⟨o,ho,e⟩:=I.frk b d hd
      exact ⟨b,o,h2,hb _,ho,fun vs q=>(K.fg b d hd).2 vs (e ▸ q)⟩
theorem ExcAt.slots {S:List Addr} {h h':Heap} {e C:Addr} {T:Option Addr} (x:Heap.SlotsOnly S h h') (a:ExcAt h e C T):ExcAt h' e C T:=by
  obtain ⟨oe,vs,h1,h2,h3,h5,h4⟩:=a
  obtain ⟨sl,q⟩:=x.2.2 _ _ h1
  refine ⟨_,vs,q,h2,h3,h5, ?_⟩
  cases T with
  | none=>exact h4
  | some t =>
    obtain ⟨a1,a2,ot,ts,a3,a4,a5⟩:=h4
    obtain ⟨sl',q'⟩:=x.2.2 _ _ a3
    exact ⟨a1,a2,_,ts,q',a4,a5⟩
theorem s_entry (K:FmOk P F) (I:Inv P F l H s) (hro:F.ro = false) {e C:Addr} {T:Option Addr} (ha:ExcAt s.heap e C T) (hof:Off F H e) (hb:True) {head:Value} {hadNext:Bool} {Q:Unit→Shared→Prop}
    (h:∀ s',Inv P F l H s'→Exc P F H s' e C true→Q () s') :
    wpAny P.M F.A (do let a ← frameOf F.env;let pl ← entryPlaceOf F.env.locals hadNext;let b ← EntryCells.newEntry head a .none (rawInt F.env.locals) .none pl;setField (.ref e) 1 b) Q E s:=by
  obtain ⟨fenv,outer,hfr,hown,hall⟩:=K.frames
  obtain ⟨rfl,hf⟩:=hown hro
  have ff:=frames_fun K I {} (fun b=>rfl) hall
  refine wpAny_bind (wpAny_frameOf_fun hfr ff hf fun h₁ hs₁=>?_)
  have hS:∀ b∈(F.env :: outer).filterMap (·.frame),b = F.env.locals∨(F.fr b).isSome = true:=fun b hb=>by
    obtain ⟨e',he',q⟩:=List.mem_filterMap.mp hb
    obtain ⟨_,b',q',r⟩:=hall e' he'
    rw [q] at q';cases q';exact r
  have I₁:=I.slotsOnly K hS hs₁
  have a₁:=ha.slots hs₁
  refine wpAny_bind (wpAny_entryPlaceOf fun pl hpl=>?_)
  unfold EntryCells.newEntry newFields
  refine wpAny_bind (wpAny_newObj_type ?_ (hpl.sizeOk5 _ _ _ _ _))
  obtain ⟨oe,vs,h1,h2,h3,h5,h4⟩:=a₁
  have hsz:1 < vs.size:=by
    cases T with
    | none=>exact (Array.getElem?_eq_some_iff.mp h4).1
    | some t=>exact (Array.getElem?_eq_some_iff.mp h4.1).1
  generalize hot:({ cls:=.type "traceback",dict:=none,data:=.fields ([head, .ref F.env.locals, .none,rawInt F.env.locals, .none]++(if pl.isEmpty then List.replicate 6 Value.none else pl)).toArray }:Obj) = ot
  have I₂:=I₁.push ot
  have he₂:=Heap.get?_push_of_some (h:=h₁) ot h1
  have hof₂:Off F H h₁.objs.size:=I₁.ofSize K
  refine wpAny_setField he₂ h3 hsz (h _ ?_ ?_)
  · refine I₂.step (t:=s.toks) fun b o hb hn=>?_
    rw [Heap.get?_update_other _ _ (show e≠b from fun q=>hn (q ▸ hof))]
    exact hb
  · have hd:=Obj.data_mapFields h3 (·.setIfInBounds 1 (Value.ref h₁.objs.size))
    have hne:h₁.objs.size≠e:=Nat.ne_of_gt (Heap.lt_size h1)
    refine ⟨hb,hof,some h₁.objs.size,⟨_,_,Heap.get?_update_self _ he₂ (Obj.isFreed_of_fields hd),(Obj.cls_mapFields _ _).trans h2,hd,⟨(dict_mapFields _ _).trans h5.1,(Array.getElem?_setIfInBounds_ne (by decide)).trans h5.2⟩,by simp [hsz],hne,ot,([head, .ref F.env.locals, .none,rawInt F.env.locals, .none]++(if pl.isEmpty then List.replicate 6 Value.none else pl)).toArray, ?_, ?_, ?_⟩,fun t ht=>?_,fun _=>rfl⟩
    · rw [Heap.get?_update_other _ _ (Ne.symm hne)]
      exact Heap.get?_push_size _ (by rw [← hot];rfl)
    · rw [← hot]
    · simp only [List.size_toArray,List.length_append,List.length_cons,List.length_nil];exact Nat.lt_of_lt_of_le (show 3 < 0 + 1 + 1 + 1 + 1 + 1 by decide) (Nat.le_add_right ..)
    · cases ht;exact hof₂
theorem s_note (K:FmOk P F) (I:Inv P F l H s) (hro:F.ro = false) {e C:Addr} {b:Bool} (x:Exc P F H s e C b) {Q:Unit→Shared→Prop}
    (h:∀ s',Inv P F l H s'→Exc P F H s' e C true→Q () s'):wpAny P.M F.A (noteFrame (.ref e) F.env) Q E s:=by
  obtain ⟨fenv,outer,hfr,hown,hall⟩:=K.frames
  obtain ⟨_,hf⟩:=hown hro
  obtain ⟨hb,hof,T,ha,ht,_⟩:=x
  have ha':=ha
  obtain ⟨oe,vs,h1,h2,h3,h5,h4⟩:=ha
  unfold noteFrame
  simp only [hf]
  cases T with
  | none =>
    refine wpAny_bind (wpAny_field h1 h3 h4 ?_)
    rw [if_neg (by decide)]
    exact s_entry K I hro ha' hof hb h
  | some t =>
    obtain ⟨a1,a2,ot,ts,a3,a4,a5⟩:=h4
    refine wpAny_bind (wpAny_field h1 h3 a1 ?_)
    rw [if_pos (show (Value.ref t != Value.none) = true from by simp)]
    refine wpAny_bind (wpAny_field a3 a4 (Array.getElem?_eq_getElem a5) ?_)
    split
    · exact wpAny_pure (h s I ⟨hb,hof,some t,ha',ht,fun _=>rfl⟩)
    · refine wpAny_bind (wpAny_setField a3 a4 a5 ?_)
      have hoft:=ht t rfl
      have other:∀ c,c≠t→(s.heap.update t (Obj.mapFields (·.setIfInBounds 3 Value.none))).get? c = s.heap.get? c:=fun c hc=>Heap.get?_update_other _ _ (Ne.symm hc)
      have I₁:Inv P F l H { s with heap:=s.heap.update t (Obj.mapFields (·.setIfInBounds 3 Value.none)) }:=I.step (t:=s.toks) fun c o hc hn=>(other c fun q=>hn (q ▸ hoft)).trans hc
      have hd:=Obj.data_mapFields a4 (·.setIfInBounds 3 Value.none)
      refine s_entry K I₁ hro (T:=some t) ⟨oe,vs,(other e (Ne.symm a2)).trans h1,h2,h3,h5,a1,a2,_,_,Heap.get?_update_self _ a3 (Obj.isFreed_of_fields hd),hd,by simpa using a5⟩ hof hb h
theorem s_flight (I:Inv P F l H s) {e C:Addr} {b:Bool} (x:Exc P F H s e C b) {fo:Option Addr} {Q:Unit→Shared→Prop}
    (h:∀ s',Inv P F l H s'→Exc P F H s' e C b→Q () s'):wpAny P.M F.A (setFlight (.ref e) fo) Q E s:=by
  obtain ⟨hb,hof,T,ha,ht,hbt⟩:=x
  have ha':=ha
  obtain ⟨oe,vs,h1,h2,h3,h5,h4⟩:=ha
  unfold setFlight
  cases T with
  | none =>
    refine wpAny_bind (wpAny_field h1 h3 h4 ?_)
    rw [if_neg (by decide)]
    exact wpAny_pure (h s I ⟨hb,hof,none,ha',ht,hbt⟩)
  | some t =>
    obtain ⟨a1,a2,ot,ts,a3,a4,a5⟩:=h4
    refine wpAny_bind (wpAny_field h1 h3 a1 ?_)
    rw [if_pos (show (Value.ref t != Value.none) = true from by simp)]
    have hoft:=ht t rfl
    have other:∀ f c,c≠t→(s.heap.update t f).get? c = s.heap.get? c:=fun f c hc=>Heap.get?_update_other _ _ (Ne.symm hc)
    have hd:=Obj.data_mapFields a4 (·.setIfInBounds 3 (fo.elim Value.none fun f=>rawInt f))
    refine wpAny_setField a3 a4 a5 (h _ (I.step (t:=s.toks) fun c o hc hn=>(other _ c fun q=>hn (q ▸ hoft)).trans hc) ⟨hb,hof,some t,⟨oe,vs,(other _ e (Ne.symm a2)).trans h1,h2,h3,h5,a1,a2,_,_,Heap.get?_update_self _ a3 (Obj.isFreed_of_fields hd),hd,by simpa using a5⟩,ht,hbt⟩)
theorem s_leaving (K:FmOk P F) (I:Inv P F l H s) (hro:F.ro = false) {e C:Addr} {b:Bool} (x:Exc P F H s e C b) {Q:Unit→Shared→Prop}
    (h:∀ s',Inv P F l H s'→Exc P F H s' e C true→Q () s'):wpAny P.M F.A (leaving F.env (.ref e)) Q E s:=by
  unfold leaving
  exact wpAny_bind (s_note K I hro x fun s' I' x'=>s_flight I' x' h)
theorem s_cameBack (I:Inv P F l H s) {e C:Addr} (x:Exc P F H s e C true) (h:∀ s',Inv P F l H s'→Exc P F H s' e C true→E (.ref e) s'):cameBackBy P.M F.A F.env E (.ref e) s:=by
  obtain ⟨hb,hof,T,ha,ht,hbt⟩:=x
  have ha':=ha
  obtain ⟨oe,vs,h1,h2,h3,h5,h4⟩:=ha
  unfold cameBackBy
  cases T with
  | none=>simp at hbt
  | some t =>
    obtain ⟨a1,a2,r⟩:=h4
    refine wpAny_bind (wpAny_field h1 h3 a1 ?_)
    rw [if_neg (by simp)]
    exact s_flight I ⟨hb,hof,some t,ha',ht,fun _=>rfl⟩ h
end
end Mine
end

section
open PySem PyProof.Rows PySem.Calls
namespace Mine
noncomputable def isLoc (sc:Scope) (x:Str):Option Bool :=
  match sc.names.lookup x with
  | some .local | some .cell | some .free=>if x == ("__classdict__" : Str) || x == ("__debug__" : Str) then none else some true
  | some .globalImplicit=>if x == ("__debug__" : Str) then none else some false
  | _=>none
noncomputable def notSuper:Expr→Bool
  | .Call (.Name id _) _ _ _=>id != ("super" : Str)
  | _=>true
noncomputable def bltL:List (Str×Value):=[("len", .builtin "len"),("isinstance", .builtin "isinstance"),("list", .type "list"),("tuple", .type "tuple"),("sorted", .builtin "sorted"),("dict", .type "dict"),("int", .type "int"),("all", .builtin "all"),("max", .builtin "max"),("min", .builtin "min"),("range", .type "range"),("str", .type "str"),("bool", .type "bool"),("ValueError", .type "ValueError"),("set", .type "set")]
noncomputable def bltTab (x:Str):Option Value:=bltL.lookup x
noncomputable def compFine (sc scope:Scope) (x:Str):Bool :=
  scope.kind == .function && (scope.names.map (·.1)).Nodup && scope.names.all (fun y=>y.2 != .cell && (y.2 != .local || y.1 == x || y.1 == (".0" : Str)) && (y.2 != .free || sc.names.lookup y.1 == some .cell)) && scope.names.lookup x == some .local && x != lamX
end Mine
end

section
open PySem PyProof.Rows PySem.Calls
namespace Mine
noncomputable def Room (n:Nat) (A:Around):Prop:=A.depth + 2 * n + 2 < recursionLimit∧A.units + 30 * n + 200 < cLine
noncomputable def RoomC (n:Nat) (A:Around):Prop:=A.depth + 2 * n + 1 < recursionLimit∧A.units + 30 * n + 190 < cLine
theorem Room.c {n:Nat} {A:Around} (R:Room n A):RoomC n A:=⟨Nat.lt_of_succ_lt R.1,Nat.lt_of_le_of_lt (Nat.add_le_add_left (show 190≤200 by decide) _) R.2⟩
theorem Room.cmp {n:Nat} {A:Around} (R:Room n A):A.units + 64 < cLine:=Nat.lt_of_le_of_lt (Nat.add_le_add (Nat.le_add_right ..) (show 64≤200 by decide)) R.2
theorem RoomC.deep {n:Nat} {A:Around} (R:RoomC n A):A.depth < recursionLimit:=Nat.lt_of_le_of_lt (Nat.le_trans (Nat.le_add_right ..) (Nat.le_add_right ..)) R.1
theorem RoomC.in1 {n:Nat} {A:Around} (R:RoomC (n + 1) A):A.depth + 1 + 2 * n + 2 < recursionLimit:=by rw [Nat.add_right_comm A.depth 1];exact R.1
theorem RoomC.in2 {n:Nat} {A:Around} (R:RoomC (n + 1) A):A.units + 3 + 30 * n + 200 < cLine:=by rw [Nat.add_right_comm A.units 3];exact Nat.lt_of_le_of_lt (Nat.add_le_add_left (show 203≤220 by decide) (A.units + 30 * n)) R.2
noncomputable def HdK (F:Fm):Prop:=F.A.handled = none∨∃ e o vs,F.A.handled = some (.ref e)∧F.g e = some o∧o.data = .fields vs∧vs[2]? = some Value.none
noncomputable def HmOk (hm:Bool) (F:Fm):Prop:=HdK F∧(hm = false→F.A.handled = none)
noncomputable def PostC (P:Pm) (F:Fm) (l:Loc) (Q:QV) (X:XV):Result→Shared→Prop:=fun r s'=>match r with
  | .ok (.ret V)=>PostE P F l Q V s'
  | .ok _=>False
  | .error EV=>PostX P F l X EV s'
structure SndFn (P:Pm) (G:Gx) (n:Nat):Prop where
  keep:∀ {f hm args H Q X},G.fn f hm args H Q X→PySem.W.keepIn P.K (.ref f) = true
  run:∀ {f hm args H Q X},G.fn f hm args H Q X→∀ {F l s vals},FmOk P F→RoomC n F.A→HmOk hm F→Inv P F l H s→vals.map er = args →
    codeAny P.M F.A (.call (.ref f) ⟨vals,[]⟩) (PostC P F l Q X) s
structure BltOk (P:Pm):Prop where
  blt:∀ x v,bltTab x = some v→P.mg x = none∧P.mb x = some v
structure ScOk (sc:Scope) (F:Fm):Prop where
  loc:∀ x,isLoc sc x = some true→Own F.env x
  glob:∀ x,isLoc sc x = some false→F.env.kindOf x = some .globalImplicit
  locl:∀ x,sc.names.lookup x = some .local→F.env.kindOf x = some .local
  cell:∀ x,sc.names.lookup x = some .cell→F.env.kindOf x = some .cell∧∃ c,F.env.cells.lookup x = some c
section
variable {P:Pm} {F:Fm} {G:Gx} {n:Nat} {hm:Bool} {l:Loc} {H:Hp} {s:Shared}
theorem isLoc_true {sc:Scope} {x:Str} (h:isLoc sc x = some true):(x == ("__debug__" : Str)) = false∧(x == ("__classdict__" : Str)) = false:=by
  unfold isLoc at h
  split at h <;> first | (split at h <;> simp_all) | simp_all
theorem isLoc_false {sc:Scope} {x:Str} (h:isLoc sc x = some false):(x == ("__debug__" : Str)) = false:=by
  unfold isLoc at h
  split at h <;> first | (split at h <;> simp_all) | simp_all
noncomputable def SE (P:Pm) (G:Gx) (n:Nat) (hm:Bool) (sc:Scope) (e:Expr) (e':Ex):Prop :=
  ∀ ⦃F:Fm⦄ ⦃l:Loc⦄,FmOk P F→ScOk sc F→Room n F.A→HmOk hm F→∀ {H:Hp} {s:Shared} {Q:QV} {X:XV},Inv P F l H s→wpE G hm e' l H Q X→wpAny P.M F.A (eval e F.env) (PostE P F l Q) (PostX P F l X) s
noncomputable def SEs (P:Pm) (G:Gx) (n:Nat) (hm:Bool) (sc:Scope) (es:List Expr) (es':List Ex):Prop :=
  ∀ ⦃F:Fm⦄ ⦃l:Loc⦄,FmOk P F→ScOk sc F→Room n F.A→HmOk hm F→∀ {H:Hp} {s:Shared} {Q:List Value→Hp→Prop} {X:XV} {pos:Pos},Inv P F l H s→wpEs G hm es' l H Q X →
    wpAny P.M F.A (spliced (backTo pos (starEach es F.env))) (fun Vs s'=>∃ H',Inv P F l H' s'∧Q (Vs.map er) H') (PostX P F l X) s
noncomputable def ST (P:Pm) (G:Gx) (n:Nat) (hm:Bool) (sc:Scope) (e:Expr) (e':Ex):Prop :=
  ∀ ⦃F:Fm⦄ ⦃l:Loc⦄,FmOk P F→ScOk sc F→Room n F.A→HmOk hm F→∀ {H:Hp} {s:Shared} {k:Bool→Hp→Prop} {X:XV},Inv P F l H s→wpE G hm e' l H (fun v H'=>truthV v fun b=>k b H') X →
    wpAny P.M F.A (isTrue e F.env (eval e F.env)) (fun b s'=>∃ H',Inv P F l H' s'∧k b H') (PostX P F l X) s
theorem truth_of {V:Value} {k:Bool→Prop} (h:truthV (er V) k):∃ b,V = .bool b∧k b:=by
  unfold truthV at h
  split at h
  · rename_i b e;exact ⟨b,er_bool e,h⟩
  · exact h.elim
theorem SE.test {sc:Scope} {e:Expr} {e':Ex} (h:SE P G n hm sc e e') (he:∀ env whole,isTrue e env whole = (do let v ← whole;standAt e.pos;holding [v] (truthy v))):ST P G n hm sc e e':=by
  intro F l K S R HM H s k X I q
  rw [he]
  refine wpAny_bind (wpAny_mono (h K S R HM I q) (fun V s' z=>?_) fun _ _ z=>z)
  obtain ⟨H',I',z⟩:=z
  obtain ⟨b,rfl,z⟩:=truth_of z
  exact wpAny_bind (wpAny_standAt (wpAny_holding (wpAny_truthy_bool ⟨H',I',z⟩)))
theorem se_none {sc:Scope} {kk:Nat} {pos:Pos}:SE P G n hm sc (.Constant .none kk pos) .none:=fun F l K S R HM H s Q X I q=>wpAny_pure ⟨H,I,q⟩
theorem se_bool {sc:Scope} {b:Bool} {kk:Nat} {pos:Pos}:SE P G n hm sc (.Constant (.bool b) kk pos) (.bool b):=fun F l K S R HM H s Q X I q=>wpAny_pure ⟨H,I,q⟩
theorem se_int {sc:Scope} {i:Int} {kk:Nat} {pos:Pos}:SE P G n hm sc (.Constant (.int i) kk pos) (.int i):=fun F l K S R HM H s Q X I q=>wpAny_Constant_int ⟨H,I.toks _,q⟩
theorem se_str {sc:Scope} {x:Str} {kk:Nat} {pos:Pos}:SE P G n hm sc (.Constant (.str x) kk pos) (.str x):=fun F l K S R HM H s Q X I q=>wpAny_Constant_str ⟨H,I.toks _,q⟩
theorem se_loc {sc:Scope} {x:Str} {pos:Pos} (hl:isLoc sc x = some true):SE P G n hm sc (.Name x pos) (.loc x):=by
  intro F l K S R HM H s Q X I q
  have q:onSome (l x) (fun v=>Q v H):=q
  cases hv:l x with
  | none=>rw [hv] at q;exact (q:False).elim
  | some v=>rw [hv] at q;exact ld_loc K I hv (S.loc x hl) (isLoc_true hl).1 (isLoc_true hl).2 fun V e=>⟨H,I,e ▸ q⟩
theorem se_glob (Y:PmOk P) (GO:GxOk P G) {sc:Scope} {x:Str} {pos:Pos} (hl:isLoc sc x = some false):SE P G n hm sc (.Name x pos) (.glob x):=by
  intro F l K S R HM H s Q X I q
  have q:onSome (G.glob x) (fun v=>Q v H):=q
  cases hv:G.glob x with
  | none=>rw [hv] at q;exact (q:False).elim
  | some v =>
    rw [hv] at q
    obtain ⟨V,rfl,hV⟩:=GO.glob x v hv
    exact ld_glob Y K I hV (S.glob x hl) (isLoc_false hl) ⟨H,I,q⟩
theorem attrBase {o:Expr} {a:Str} {env:Env} {whole:Sem Value} {M:Model} {A:Around} {Q:Value→Shared→Prop} {E:Value→Shared→Prop} {s:Shared} (h:notSuper o = true) (q:wpAny M A whole Q E s):wpAny M A (attributeBase o a env whole) Q E s:=by
  unfold attributeBase
  split
  · have h':(_ != ("super" : Str)) = true:=h
    rw [if_pos (by rw [h'];rfl)]
    exact q
  · exact q
theorem se_attr (Y:PmOk P) (GO:GxOk P G) {sc:Scope} {v:Expr} {v':Ex} {a:Str} {pos:Pos} (hs:notSuper v = true) (h:SE P G n hm sc v v'):SE P G n hm sc (.Attribute v a pos) (.attr v' a):=by
  intro F l K S R HM H s Q X I q
  show wpAny P.M F.A (do let o ← attributeBase v a F.env (eval v F.env);standAt pos.atName;let r ← holding [o] (getAttr o a true);letTemporaryGo v o r;pure r) _ _ s
  conv at q=>whnf
  refine wpAny_bind (attrBase hs (wpAny_mono (h K S R HM I q) (fun V s' z=>?_) fun _ _ z=>z))
  obtain ⟨H',I',z⟩:=z
  exact wpAny_bind (wpAny_standAt (wpAny_bind (wpAny_holding (wpAny_mono (s_attr Y GO K I' rfl z) (fun V' s'' y=>wpAny_bind (wpAny_letTemporaryGo (wpAny_pure y))) fun _ _ z=>z))))
theorem se_bin {sc:Scope} {x y:Expr} {x' y':Ex} {op:Operator} {pos:Pos} (hx:SE P G n hm sc x x') (hy:SE P G n hm sc y y'):SE P G n hm sc (.BinOp x op y pos) (.bin op x' y'):=by
  intro F l K S R HM H s Q X I q
  conv at q=>whnf
  refine wpAny_BinOp (wpAny_mono (hx K S R HM I q) (fun V s' z=>?_) fun _ _ z=>z)
  obtain ⟨H',I',z⟩:=z
  refine wpAny_mono (hy K S R HM I' z) (fun V' s'' z=>?_) fun _ _ z=>z
  obtain ⟨H'',I'',z⟩:=z
  exact s_bin K I'' op rfl rfl z
theorem se_neg {sc:Scope} {x:Expr} {x':Ex} {pos:Pos} (hx:SE P G n hm sc x x'):SE P G n hm sc (.UnaryOp .USub x pos) (.neg x'):=by
  intro F l K S R HM H s Q X I q
  conv at q=>whnf
  show wpAny P.M F.A (do let v ← eval x F.env;standAt pos;holding [v] (unaryOp .USub v)) _ _ s
  refine wpAny_bind (wpAny_mono (hx K S R HM I q) (fun V s' z=>?_) fun _ _ z=>z)
  obtain ⟨H',I',z⟩:=z
  refine wpAny_bind (wpAny_standAt (wpAny_holding ?_))
  split at z
  · rename_i i _ e
    obtain ⟨_,rfl⟩:=er_int e
    exact neg_int ⟨H',I'.toks _,z⟩
  · exact z.elim
theorem se_not {sc:Scope} {x:Expr} {x':Ex} {pos:Pos} (hx:SE P G n hm sc x x'):SE P G n hm sc (.UnaryOp .Not x pos) (.not x'):=by
  intro F l K S R HM H s Q X I q
  conv at q=>whnf
  show wpAny P.M F.A (do let v ← eval x F.env;standAt pos;holding [v] (unaryOp .Not v)) _ _ s
  refine wpAny_bind (wpAny_mono (hx K S R HM I q) (fun V s' z=>?_) fun _ _ z=>z)
  obtain ⟨H',I',z⟩:=z
  obtain ⟨b,rfl,z⟩:=truth_of z
  refine wpAny_bind (wpAny_standAt (wpAny_holding ?_))
  exact not_of (wpAny_truthy_bool ⟨H',I',z⟩)
theorem st_not {sc:Scope} {x:Expr} {x':Ex} {pos:Pos} (hx:ST P G n hm sc x x'):ST P G n hm sc (.UnaryOp .Not x pos) (.not x'):=by
  intro F l K S R HM H s k X I q
  conv at q=>whnf
  show wpAny P.M F.A (do return !(← isTrue x F.env (eval x F.env))) _ _ s
  exact wpAny_bind (wpAny_mono (hx K S R HM I q) (fun V s' z=>wpAny_pure z) fun _ _ z=>z)
theorem se_cmp (Y:PmOk P) {sc:Scope} {x y:Expr} {x' y':Ex} {op:CmpOp} {pos:Pos} (hx:SE P G n hm sc x x') (hy:SE P G n hm sc y y') (hb:behindInMarks op y = false):SE P G n hm sc (.Compare x [op] [y] pos) (.cmp x' op y'):=by
  intro F l K S R HM H s Q X I q
  conv at q=>whnf
  refine wpAny_Compare1 (wpAny_mono (hx K S R HM I q) (fun V s' z=>?_) fun _ _ z=>z) hb
  obtain ⟨H',I',z⟩:=z
  refine wpAny_mono (hy K S R HM I' z) (fun V' s'' z=>?_) fun _ _ z=>z
  obtain ⟨H'',I'',z⟩:=z
  exact s_cmp Y I'' R.cmp op rfl rfl z
theorem st_cmp (Y:PmOk P) {sc:Scope} {x y:Expr} {x' y':Ex} {op:CmpOp} {pos:Pos} (hx:SE P G n hm sc x x') (hy:SE P G n hm sc y y') (hb:behindInMarks op y = false):ST P G n hm sc (.Compare x [op] [y] pos) (.cmp x' op y'):=by
  intro F l K S R HM H s k X I q
  conv at q=>whnf
  refine wpAny_isTrue_Compare1 (wpAny_mono (hx K S R HM I q) (fun V s' z=>?_) fun _ _ z=>z) hb
  obtain ⟨H',I',z⟩:=z
  refine wpAny_mono (hy K S R HM I' z) (fun V' s'' z=>?_) fun _ _ z=>z
  obtain ⟨H'',I'',z⟩:=z
  refine wpAny_mono (s_cmp Y I'' R.cmp op rfl rfl z) (fun V s' z=>?_) fun _ _ z=>z
  obtain ⟨H',I',z⟩:=z
  obtain ⟨b,rfl,z⟩:=truth_of z
  exact wpAny_truthy_bool ⟨H',I',z⟩
theorem idx_type {Q:QV} {V k:Value} (I:Inv P F l H s) (q:idxV (er V) k H Q):∃ T id,s.TypeIs V T∧typeLookup (.type T) (Str.ofString "__getitem__") = pure (some (.builtin id)):=by
  unfold idxV at q
  split at q
  · rename_i a _ _ e;have:=er_ref e;subst this
    split at q
    · rename_i hx;obtain ⟨vs,hl,_⟩:=I.objs _ _ hx;exact ⟨_,_,hl.typeIs,slot_list_getitem.lookup⟩
    · rename_i hx;obtain ⟨vs,hl,_⟩:=I.objs _ _ hx;exact ⟨_,_,hl.typeIs,slot_list_getitem.lookup⟩
    · rename_i hx;obtain ⟨vs,⟨o,ho,hc,_⟩,_⟩:=I.objs _ _ hx;exact ⟨"tuple",_,⟨o,ho,hc⟩,slot_tuple_getitem.lookup⟩
    · rename_i hx;obtain ⟨vs,hl,_⟩:=I.objs _ _ hx;exact ⟨_,_,hl.mapOf.typeIs,slot_dict_getitem.lookup⟩
    · exact q.elim
  · rename_i x _ _ _ e;obtain ⟨_,rfl⟩:=er_str e
    exact ⟨"str",_,rfl,PySem.F.slot_str_getitem.lookup⟩
  · exact q.elim
theorem se_idx {sc:Scope} {x y:Expr} {x' y':Ex} {pos:Pos} (hx:SE P G n hm sc x x') (hy:SE P G n hm sc y y') (hsl:∀ o i,subscripted y false o i = operate [o,i] (getItem o i)):SE P G n hm sc (.Subscript x y pos) (.idx x' y'):=by
  intro F l K S R HM H s Q X I q
  conv at q=>whnf
  refine Subscript_ (wpAny_mono (hx K S R HM I q) (fun V s' q=>?_) fun _ _ z=>z)
  obtain ⟨H1,I1,q⟩:=q
  refine wpAny_mono (hy K S R HM I1 q) (fun V2 s2 q=>?_) fun _ _ z=>z
  obtain ⟨H2,I2,q⟩:=q
  obtain ⟨T,id,h1,h2⟩:=idx_type I2 q
  exact tail_any h1 h2 (s_idx I2 rfl rfl q) (hsl _ _)
noncomputable def SO (P:Pm) (G:Gx) (n:Nat) (hm:Bool) (sc:Scope) (e:Option Expr) (e':Option Ex):Prop :=
  ∀ ⦃F:Fm⦄ ⦃l:Loc⦄,FmOk P F→ScOk sc F→Room n F.A→HmOk hm F→∀ {H:Hp} {s:Shared} {Q:QV} {X:XV},Inv P F l H s→wpO G hm e' l H Q X→wpAny P.M F.A (evalPart e F.env) (PostE P F l Q) (PostX P F l X) s
theorem so_none {sc:Scope}:SO P G n hm sc none none:=by
  intro F l K S R HM H s Q X I q
  simp only [wpO] at q
  exact wpAny_evalPart_none ⟨H,I,q⟩
theorem so_some {sc:Scope} {e:Expr} {e':Ex} (h:SE P G n hm sc e e'):SO P G n hm sc (some e) (some e'):=by
  intro F l K S R HM H s Q X I q
  simp only [wpO] at q
  exact wpAny_evalPart_some (h K S R HM I q)
theorem s_slice (K:FmOk P F) (I:Inv P F l H s) {E:Value→Shared→Prop} {Q:QV} {o lo hi:Value} {A' L' U':Value} {sl:Addr} (hs:s.heap.IsSliceOf sl L' U' .none) (ha:er A' = o) (hl:er L' = lo) (hu:er U' = hi) (h:sliceV o lo hi H Q) :
    wpAny P.M F.A (getItem A' (.ref sl)) (PostE P F l Q) E s:=by
  unfold sliceV at h
  split at h
  · rename_i a b ea eb
    have pa:=partOf_er (V:=L') (by rw [hl];exact ea)
    have pb:=partOf_er (V:=U') (by rw [hu];exact eb)
    split at h
    · rename_i x;have:=er_ref ha;subst this
      split at h
      · rename_i xs hx
        obtain ⟨vs,hL,rfl,z⟩:=I.objs _ _ hx
        simp only [List.length_map,Array.length_toList] at h z
        refine wpAny_getItem_list_slice hL hs pa pb .none (by simp) ⟨_,I.alloc K (t:=s.toks) (mt_list ⟨0,Heap.get?_push_size _ rfl⟩ ?_), ?_⟩ h.1
        · have h1:=pySlice_len vs.toList a b
          have h2:slicePick vs a b none = (pySlice vs.toList a b).toArray:=by
            unfold slicePick
            rw [← slicePick_eq]
            simp only [Array.getElem?_toList,Array.length_toList]
          rw [h2]
          simp only [Array.length_toList] at h1
          simp;first | exact Nat.le_trans h1 z.1 | exact Nat.le_trans h1 z
        · have h2:slicePick vs a b none = (pySlice vs.toList a b).toArray:=by
            unfold slicePick
            rw [← slicePick_eq]
            simp only [Array.getElem?_toList,Array.length_toList]
          have:=h.2 _ I.fresh
          rw [pySlice_map] at this
          rw [h2]
          exact this
      · rename_i xs hx
        obtain ⟨vs,hL,rfl,z⟩:=I.objs _ _ hx
        simp only [List.length_map,Array.length_toList] at h z
        refine wpAny_getItem_list_slice hL hs pa pb .none (by simp) ⟨_,I.alloc K (t:=s.toks) (mt_list ⟨0,Heap.get?_push_size _ rfl⟩ ?_), ?_⟩ h.1
        · have h1:=pySlice_len vs.toList a b
          have h2:slicePick vs a b none = (pySlice vs.toList a b).toArray:=by
            unfold slicePick
            rw [← slicePick_eq]
            simp only [Array.getElem?_toList,Array.length_toList]
          rw [h2]
          simp only [Array.length_toList] at h1
          simp;first | exact Nat.le_trans h1 z.1 | exact Nat.le_trans h1 z
        · have h2:slicePick vs a b none = (pySlice vs.toList a b).toArray:=by
            unfold slicePick
            rw [← slicePick_eq]
            simp only [Array.getElem?_toList,Array.length_toList]
          have:=h.2 _ I.fresh
          rw [pySlice_map] at this
          rw [h2]
          exact this
      · exact h.elim
    · rename_i x _;obtain ⟨t,rfl⟩:=er_str ha
      have hp:∀ {V:Value} {i:Option Int},IsPart V i→∃ l',partValue l' = V∧l'.map (·.1) = i:=by
        intro V i hV
        cases hV with
        | none=>exact ⟨none,rfl,rfl⟩
        | int i t=>exact ⟨some (i,t),rfl,rfl⟩
      obtain ⟨l',e1,h2⟩:=hp pa
      obtain ⟨u',e2,h3⟩:=hp pb
      obtain ⟨o,o1,o2,o3⟩:=hs
      refine wpAny_getItem_str_slice (l:=l') (u:=u') (st:=none) ⟨o,o1,o2,by rw [o3,e1,e2];rfl⟩ rfl ?_
      have hlen:x.cps.toList.length = x.length:=by simp [Str.length]
      have idx:slicePicked x l' u' none = (List.range (hiAt x.length b - loAt x.length a)).map fun k=>loAt x.length a + k:=by
        unfold slicePicked
        rw [h2,h3,← sliceIdx]
        rfl
      have pk:(slicePicked x l' u' none).filterMap (x.cps[·]?) = pySlice x.cps.toList a b:=by
        rw [← slicePick_eq,sliceIdx,hlen,idx]
        simp only [Array.getElem?_toList]
      have q:=h.2
      unfold sliceMade
      split
      · rename_i hc
        have hc:(slicePicked x l' u' none).length = x.length:=by simpa using hc
        rw [idx] at hc
        simp only [List.length_map,List.length_range] at hc
        have w:=pySlice_whole x.cps.toList a b (by rw [hlen];exact hc)
        rw [w] at q
        exact ⟨H,I,q⟩
      · rw [pk]
        refine ⟨?_,H,I.toks _,q⟩
        have:=pySlice_len x.cps.toList a b
        have h1:=h.1
        rw [hlen] at this
        show (pySlice x.cps.toList a b).toArray.size≤sizeLine
        simp only [List.size_toArray]
        exact Nat.le_trans this h1
    · exact h.elim
  · exact h.elim
theorem slice_type {Q:QV} {V a b:Value} (I:Inv P F l H s) (q:sliceV (er V) a b H Q):∃ T id,s.TypeIs V T∧typeLookup (.type T) (Str.ofString "__getitem__") = pure (some (.builtin id)):=by
  unfold sliceV at q
  split at q
  · split at q
    · rename_i e;have:=er_ref e;subst this
      split at q
      · rename_i hx;obtain ⟨vs,hl,_⟩:=I.objs _ _ hx;exact ⟨_,_,hl.typeIs,slot_list_getitem.lookup⟩
      · rename_i hx;obtain ⟨vs,hl,_⟩:=I.objs _ _ hx;exact ⟨_,_,hl.typeIs,slot_list_getitem.lookup⟩
      · exact q.elim
    · rename_i e;obtain ⟨_,rfl⟩:=er_str e
      exact ⟨"str",_,rfl,PySem.F.slot_str_getitem.lookup⟩
    · exact q.elim
  · exact q.elim
theorem se_slice {sc:Scope} {x:Expr} {x':Ex} {lo hi:Option Expr} {lo' hi':Option Ex} {p pos:Pos} (hx:SE P G n hm sc x x') (hl:SO P G n hm sc lo lo') (hh:SO P G n hm sc hi hi') :
    SE P G n hm sc (.Subscript x (.Slice lo hi none p) pos) (.slice x' lo' hi'):=by
  intro F l K S R HM H s Q X I q
  conv at q=>whnf
  refine Subscript_ (wpAny_mono (hx K S R HM I q) (fun V s' q=>?_) fun _ _ z=>z)
  obtain ⟨H1,I1,q⟩:=q
  refine wpAny_Slice (wpAny_mono (hl K S R HM I1 q) (fun V2 s2 q=>?_) fun _ _ z=>z)
  obtain ⟨H2,I2,q⟩:=q
  refine wpAny_mono (hh K S R HM I2 q) (fun V3 s3 q=>?_) fun _ _ z=>z
  obtain ⟨H3,I3,q⟩:=q
  refine wpAny_evalPart_none ?_
  have I4:=I3.push { cls:=.type "slice",data:=.fields #[V2,V3, .none] }
  have ty:=slice_type I4 q
  obtain ⟨T,id,h1,h2⟩:=ty
  exact tail_any h1 h2 (s_slice K I4 (Heap.IsSliceOf.new _ _ _ _) rfl rfl rfl q) rfl
end
end Mine
end

section
open PySem PyProof.Rows PySem.Calls
namespace Mine
section
variable {P:Pm} {F:Fm} {G:Gx} {n:Nat} {hm:Bool} {l:Loc} {H:Hp} {s:Shared}
noncomputable def notStar:Expr→Bool
  | .Starred ..=>false
  | _=>true
theorem star_cons {e:Expr} {es:List Expr} {env:Env} (h:notStar e = true):starEach (e :: es) env = (false,eval e env) :: starEach es env:=by
  cases e <;> first | rfl | cases h
theorem ses_nil {sc:Scope}:SEs P G n hm sc [] []:=by
  intro F l K S R HM H s Q X pos I q
  conv at q=>whnf
  exact spliced_nil ⟨H,I,q⟩
theorem ses_cons {sc:Scope} {e:Expr} {e':Ex} {es:List Expr} {es':List Ex} (hn:notStar e = true) (h:SE P G n hm sc e e') (r:SEs P G n hm sc es es'):SEs P G n hm sc (e :: es) (e' :: es'):=by
  intro F l K S R HM H s Q X pos I q
  conv at q=>whnf
  rw [star_cons hn]
  refine spliced_cons (wpAny_mono (h K S R HM I q) (fun V s' q=>?_) fun _ _ z=>z)
  obtain ⟨H1,I1,q⟩:=q
  exact wpAny_mono (r K S R HM I1 q) (fun Vs s'' z=>z) fun _ _ z=>z
noncomputable def SBs (P:Pm) (G:Gx) (n:Nat) (hm:Bool) (sc:Scope) (es:List Expr) (es':List Ex):Prop :=
  ∀ ⦃F:Fm⦄ ⦃l:Loc⦄,FmOk P F→ScOk sc F→Room n F.A→HmOk hm F→∀ {H:Hp} {s:Shared} {Q:QV} {X:XV} {pos:Pos} {op:BoolOp},es≠[]→Inv P F l H s→wpB G hm (op == .And) es' l H Q X →
    wpAny P.M F.A (boolOp pos op (evalEach es F.env)) (PostE P F l Q) (PostX P F l X) s
noncomputable def STs (P:Pm) (G:Gx) (n:Nat) (hm:Bool) (sc:Scope) (es:List Expr) (es':List Ex):Prop :=
  ∀ ⦃F:Fm⦄ ⦃l:Loc⦄,FmOk P F→ScOk sc F→Room n F.A→HmOk hm F→∀ {H:Hp} {s:Shared} {k:Bool→Hp→Prop} {X:XV} {op:BoolOp},Inv P F l H s→wpB G hm (op == .And) es' l H (fun v H'=>truthV v fun b=>k b H') X →
    wpAny P.M F.A (allTrue op es F.env) (fun b s'=>∃ H',Inv P F l H' s'∧k b H') (PostX P F l X) s
theorem sbs_one {sc:Scope} {e:Expr} {e':Ex} (h:SE P G n hm sc e e'):SBs P G n hm sc [e] [e']:=by
  intro F l K S R HM H s Q X pos op _ I q
  simp only [wpB] at q
  refine wpAny_mono (h K S R HM I q) (fun V s' q=>?_) fun _ _ z=>z
  obtain ⟨H1,I1,q⟩:=q
  obtain ⟨b,hb,q2⟩:=truth_of q
  subst hb
  refine ⟨H1,I1, ?_⟩
  split at q2 <;> exact q2
theorem sbs_cons {sc:Scope} {e:Expr} {e':Ex} {e2:Expr} {es:List Expr} {e2':Ex} {es':List Ex} (h:SE P G n hm sc e e') (r:SBs P G n hm sc (e2 :: es) (e2' :: es')):SBs P G n hm sc (e :: e2 :: es) (e' :: e2' :: es'):=by
  intro F l K S R HM H s Q X pos op _ I q
  rw [wpB] at q
  show wpAny P.M F.A (boolOp pos op (eval e F.env :: eval e2 F.env :: evalEach es F.env)) _ _ s
  unfold boolOp
  refine wpAny_bind (wpAny_mono (h K S R HM I q) (fun V s' q=>?_) fun _ _ z=>z)
  obtain ⟨H1,I1,q⟩:=q
  obtain ⟨b,hb,q2⟩:=truth_of q
  subst hb
  refine wpAny_bind (wpAny_standAt (wpAny_bind (wpAny_holding (wpAny_truthy_bool ?_))))
  cases op <;> cases b
  · exact wpAny_pure ⟨H1,I1,q2⟩
  · exact r K S R HM (by simp) I1 q2
  · exact r K S R HM (by simp) I1 q2
  · exact wpAny_pure ⟨H1,I1,q2⟩
theorem sts_nil {sc:Scope}:STs P G n hm sc [] []:=by
  intro F l K S R HM H s k X op I q
  simp only [wpB,truthV] at q
  exact wpAny_pure ⟨H,I,q⟩
theorem sts_cons {sc:Scope} {e:Expr} {e':Ex} {es:List Expr} {es':List Ex} (hl:es' = []→es = []) (h:ST P G n hm sc e e') (r:STs P G n hm sc es es'):STs P G n hm sc (e :: es) (e' :: es'):=by
  intro F l K S R HM H s k X op I q
  rw [wpB] at q
  show wpAny P.M F.A (do match op,← isTrue e F.env (eval e F.env) with | .And,false=>pure false | .Or,true=>pure true | _,_=>allTrue op es F.env) _ _ s
  refine wpAny_bind (wpAny_mono (h K S R HM I q) (fun b s' q=>?_) fun _ _ z=>z)
  obtain ⟨H1,I1,q⟩:=q
  cases op <;> cases b <;> simp only [beq_self_eq_true,if_true,show ((BoolOp.Or == BoolOp.And) = false) from rfl,Bool.false_eq_true,if_false,reduceCtorEq] at q ⊢
  · exact wpAny_pure ⟨H1,I1,q⟩
  · cases es' with
    | nil=>rw [hl rfl];exact wpAny_pure ⟨H1,I1,q⟩
    | cons a as=>exact r K S R HM I1 q
  · cases es' with
    | nil=>rw [hl rfl];exact wpAny_pure ⟨H1,I1,q⟩
    | cons a as=>exact r K S R HM I1 q
  · exact wpAny_pure ⟨H1,I1,q⟩
theorem se_bop {sc:Scope} {op:BoolOp} {es:List Expr} {es':List Ex} {pos:Pos} (hne:es≠[]) (h:SBs P G n hm sc es es'):SE P G n hm sc (.BoolOp op es pos) (.bop (op == .And) es'):=by
  intro F l K S R HM H s Q X I q
  conv at q=>whnf
  exact h K S R HM hne I q
theorem st_bop {sc:Scope} {op:BoolOp} {es:List Expr} {es':List Ex} {pos:Pos} (h:STs P G n hm sc es es'):ST P G n hm sc (.BoolOp op es pos) (.bop (op == .And) es'):=by
  intro F l K S R HM H s k X I q
  conv at q=>whnf
  exact h K S R HM I q
theorem se_list {sc:Scope} {es:List Expr} {es':List Ex} {pos:Pos} (h:SEs P G n hm sc es es'):SE P G n hm sc (.List es pos) (.list es'):=by
  intro F l K S R HM H s Q X I q
  conv at q=>whnf
  refine List_ (wpAny_mono (h K S R HM I q) (fun Vs s' q=>?_) fun _ _ z=>z)
  obtain ⟨H1,I1,hz,q⟩:=q
  simp only [List.length_map] at hz
  have hz':=hz
  simp only [sizeLine] at hz'
  refine wpAny_newList ⟨_,I1.alloc K (t:=s'.toks) (mt_list ⟨0,Heap.get?_push_size _ rfl⟩ ?_),q _ I1.fresh⟩ hz
  simp;exact Nat.le_trans hz' (by decide)
theorem se_tup {sc:Scope} {es:List Expr} {es':List Ex} {pos:Pos} {kk:Nat} (h:SEs P G n hm sc es es'):SE P G n hm sc (.Tuple es kk pos) (.tup es'):=by
  intro F l K S R HM H s Q X I q
  conv at q=>whnf
  refine Tuple_ (wpAny_mono (h K S R HM I q) (fun Vs s' q=>?_) fun _ _ z=>z)
  obtain ⟨H1,I1,hz,q⟩:=q
  simp only [List.length_map] at hz
  have hz':=hz
  simp only [sizeLine] at hz'
  refine wpAny_newTuple ⟨_,I1.alloc K (t:=s'.toks) (mt_tup ⟨_,Heap.get?_push_size _ rfl,rfl,0,rfl⟩ ?_),q _ I1.fresh⟩ hz
  simp;exact Nat.le_trans hz' (by decide)
theorem evalArgs_any {M:Model} {A:Around} {E:Value→Shared→Prop} {s:Shared} {f:Value} {env:Env} {es:List Expr} {pos:Pos} {Q:Args→Shared→Prop} (hs:es.all notStar = true)
    (h:wpAny M A (spliced (backTo pos (starEach es env))) (fun vs s'=>Q ⟨vs,[]⟩ s') E s):wpAny M A (evalArgs f true (backTo pos (starEach es env)) []) Q E s:=by
  cases es with
  | nil =>
    unfold evalArgs
    show wpAny M A (spliced [] >>= _) Q E s
    refine wpAny_bind (wpAny_mono h (fun vs s' z=>?_) fun _ _ z=>z)
    refine wpAny_bind (wpAny_pure ?_)
    refine wpAny_holding ?_
    show wpAny M A (evalAll [] >>= _) Q E s'
    exact wpAny_bind (wpAny_pure (wpAny_bind (wpAny_pure (wpAny_pure z))))
  | cons e es =>
    rw [star_cons (by simp at hs;exact hs.1)] at h ⊢
    exact evalArgs_plain h
theorem backTo_plain {env:Env} {pos:Pos}:∀ {es:List Expr},es.all notStar = true→(backTo pos (starEach es env)).any (·.1) = false
  | [],_=>rfl
  | e :: es,h=>by
    simp at h
    rw [star_cons h.1]
    show (false || (backTo pos (starEach es env)).any (·.1)) = false
    rw [backTo_plain (by simpa using h.2)];rfl
theorem callWith_any {M:Model} {A:Around} {E:Value→Shared→Prop} {s:Shared} {f:Value} {env:Env} {first:List Value} {es:List Expr} {pos:Pos} {Q:Value→Shared→Prop} (hs:es.all notStar = true)
    (h:wpAny M A (spliced (backTo pos (starEach es env))) (fun vs s'=>(∃ k,(k = Keeper.frame∨k = Keeper.machine)∧PySem.W.Looks M s'.heap (keeperOf f) k)∧wpAny M A (call f (first++vs)) Q E s') E s) :
    wpAny M A (callWith pos f first (backTo pos (starEach es env)) []) Q E s:=by
  unfold callWith
  refine wpAny_bind (wpAny_holding (evalArgs_any hs (wpAny_mono h (fun vs s' q=>?_) fun _ _ z=>z)))
  refine wpAny_bind (wpAny_standAt ?_)
  obtain ⟨⟨k,hk,lk⟩,q⟩:=q
  simp only [backTo_plain hs,List.any_nil,Bool.or_false]
  refine wpAny_bind (lk.here ?_)
  rcases hk with rfl | rfl
  · dsimp only
    split
    · exact wpAny_bind (wpAny_mono q (fun v s'' z=>wpAny_bind (wpAny_holding (wpAny_point (wpAny_pure z)))) fun _ _ z=>z)
    · unfold callMarked
      exact wpAny_bind (wpAny_keep (wpAny_mono q (fun v s'' z=>wpAny_bind (wpAny_holding (wpAny_point (wpAny_pure z)))) fun _ _ z=>z))
  · exact wpAny_bind (wpAny_mono q (fun v s'' z=>wpAny_bind (wpAny_holding (wpAny_point (wpAny_pure z)))) fun _ _ z=>z)
end
end Mine
end

section
open PySem PyProof.Rows PySem.Calls
namespace Mine
theorem strs_vals:∀ (vs xs:List Value) (ss:List Str),vs.map er = xs→strsOf xs = some ss→∃ l:List (Str×Tok),vs = strValues l∧l.map (·.1) = ss
  | [],_,ss,e,h=>by subst e;cases h;exact ⟨[],rfl,rfl⟩
  | V :: vs,_,ss,e,h=>by
    subst e
    cases V <;> simp only [List.map_cons,er,strsOf] at h <;> first | (cases h;done) | skip
    obtain ⟨r,hr,rfl⟩:=Option.map_eq_some_iff.1 h
    obtain ⟨l,e1,e2⟩:=strs_vals vs _ r rfl hr
    rename_i x t
    exact ⟨(x,t) :: l,by rw [e1];rfl,by rw [← e2];rfl⟩
section
variable {P:Pm} {F:Fm} {G:Gx} {n:Nat} {hm:Bool} {l:Loc} {H:Hp} {s:Shared}
theorem Inv.withA (I:Inv P F l H s) (A:Around):Inv P { F with A:=A } l H s:=⟨I.gens,I.os,I.keep,I.frk,I.loc,I.cel,I.objs,I.free,I.big⟩
theorem Inv.ofA {A:Around} (I:Inv P { F with A:=A } l H s):Inv P F l H s:=⟨I.gens,I.os,I.keep,I.frk,I.loc,I.cel,I.objs,I.free,I.big⟩
theorem Off.ofA {A:Around} {a:Addr} (x:Off { F with A:=A } H a):Off F H a:=⟨x.h,x.g,x.fr,x.l,x.c⟩
theorem Exc.ofA {A:Around} {e C:Addr} {b:Bool} (x:Exc P { F with A:=A } H s e C b):Exc P F H s e C b:=⟨x.big,x.off.ofA,let ⟨T,h1,h2,h3⟩:=x.at_;⟨T,h1,fun t ht=>(h2 t ht).ofA,h3⟩⟩
theorem PostX.ofA {A:Around} {X:XV} {V:Value} (h:PostX P { F with A:=A } l X V s):PostX P F l X V s:=let ⟨H',e,C,q,I,x,z⟩:=h;⟨H',e,C,q,I.ofA,x.ofA,z⟩
theorem FmOk.withA (K:FmOk P F) {A:Around} (h:A.frames = F.A.frames) (hx:F.x = none∨A.handled = F.A.handled):FmOk P { F with A:=A } :=
  ⟨K.kind,K.glob,K.blt,K.base,K.above,K.lg,K.lf,K.cl,K.cg,K.apart,K.cn,K.cf,K.fg,let ⟨f,o,a,b,c⟩:=K.frames;⟨f,o,h.trans a,b,c⟩,fun a e=>⟨(K.xg a e).1,hx.elim (fun z=>by rw [z] at e;cases e) fun z=>z.trans (K.xg a e).2⟩,K.code⟩
theorem tc_weight (a:Addr) (Vs:List Value):(Code.builtin "type.__call__" ⟨.ref a :: Vs,[]⟩).weight = 1:=by
  unfold Code.weight
  rw [show (Code.builtin "type.__call__" ⟨.ref a :: Vs,[]⟩).frames = 0 from rfl,show (Code.builtin "type.__call__" ⟨.ref a :: Vs,[]⟩).isCreation = true from rfl,
    show (Code.builtin "type.__call__" ⟨.ref a :: Vs,[]⟩).isGuard = false from by show guardIds.contains "type.__call__" = false;decide +kernel,show (Code.builtin "type.__call__" ⟨.ref a :: Vs,[]⟩).isCaller = false from rfl]
  rfl
theorem tc_room {A:Around} (R:Room n A) (a:Addr) (Vs:List Value):RoomC n (A.under (.builtin "type.__call__" ⟨.ref a :: Vs,[]⟩)):=by
  refine ⟨?_, ?_⟩
  · show A.depth + (Code.builtin "type.__call__" ⟨.ref a :: Vs,[]⟩).weight + 2 * n + 1 < _
    rw [tc_weight,Nat.add_right_comm A.depth 1];exact R.1
  · show A.units + 1 + 30 * n + 190 < _
    rw [Nat.add_right_comm A.units 1];exact Nat.lt_of_le_of_lt (Nat.add_le_add_left (show 191≤200 by decide) _) R.2
theorem tc_frames {A:Around} (a:Addr) (Vs:List Value):(A.under (.builtin "type.__call__" ⟨.ref a :: Vs,[]⟩)).frames = A.frames:=by
  show pushEnvs [] A.frames = A.frames
  cases A.frames <;> rfl
theorem s_call (Y:PmOk P) (GO:GxOk P G) (FN:SndFn P G n) (K:FmOk P F) (R:Room n F.A) (HM:HmOk hm F) (I:Inv P F l H s) {V:Value} {Vs:List Value} {Q:QV} {X:XV} (h:callV G hm (er V) (Vs.map er) H Q X) :
    (∃ k,(k = Keeper.frame∨k = Keeper.machine)∧PySem.W.Looks P.M s.heap (keeperOf V) k)∧wpAny P.M F.A (call V Vs) (PostE P F l Q) (PostX P F l X) s:=by
  unfold callV at h
  split at h
  · rename_i a e;have:=er_ref e;subst this
    split at h
    · rename_i fi hi
      obtain ⟨i1,i2,i3,i4⟩:=GO.init a fi hi
      have kin:=I.kin Y K
      refine ⟨PySem.W.looks_keep i4 kin,wpAny_call ?_⟩
      have I1:=I.alloc K (O:=PySem.W.emptyDict) (o:=.ns []) (t:=s.toks) ⟨#[],0,Heap.get?_push_size _ rfl, .nil, .nil⟩
      have I2:=I1.alloc K (O:=PySem.W.instObj a s.heap.objs.size) (o:=.inst a s.heap.objs.size) (t:=s.toks) (Heap.get?_push_size _ rfl)
      have hsz:(s.heap.push PySem.W.emptyDict).objs.size = s.heap.objs.size + 1:=Heap.size_push ..
      simp only [hsz] at I2
      have q:=h s.heap.objs.size (s.heap.objs.size + 1) I.fresh (by
        have:=I1.fresh
        simp only [hsz] at this
        rwa [Hp.upd_ne _ _ (Nat.succ_ne_self _)] at this) (Nat.ne_of_lt (Nat.lt_succ_self _))
      obtain ⟨hh,hg,hd,ht,ho⟩:=s
      refine PySem.W.make_core (PySem.W.makes_of kin i1) (PySem.W.looks_findIn kin i2) (fun self=>PySem.W.bind_fn kin self (beq_iff_eq.mp i3)) (.inl (by simp)) ?_
      refine codeAny_mono (FN.run q (F:={ F with A:=F.A.under (.builtin "type.__call__" ⟨.ref a :: Vs,[]⟩) }) (l:=l) (K.withA (tc_frames _ _) (.inr rfl)) (tc_room R _ _) HM (I2.withA _) rfl) fun r s' z=>?_
      rcases r with e | (_ | _ | _ | v)
      · exact PostX.ofA z
      · exact z.elim
      · exact z.elim
      · exact z.elim
      · obtain ⟨H',I',q1,q2⟩:=z
        exact ⟨er_none q1,H',I'.ofA,q2⟩
    · refine ⟨PySem.W.looks_keep (FN.keep h) (I.kin Y K),wpAny_call (codeAny_mono (FN.run h K R.c HM I rfl) fun r s' z=>?_)⟩
      rcases r with e | (_ | _ | _ | v) <;> exact z
  · exact h.elim
theorem se_call (Y:PmOk P) (GO:GxOk P G) (FN:SndFn P G n) {sc:Scope} {f:Str} {p pos:Pos} {args:List Expr} {f':Ex} {args':List Ex} (hs:args.all notStar = true) (hf:SE P G n hm sc (.Name f p) f') (ha:SEs P G n hm sc args args') :
    SE P G n hm sc (.Call (.Name f p) args [] pos) (.call f' args'):=by
  intro F l K S R HM H s Q X I q
  conv at q=>whnf
  refine wpAny_Call_NameR (wpAny_mono (hf K S R HM I q) (fun V s' q=>?_) fun _ _ z=>z)
  obtain ⟨H1,I1,q⟩:=q
  refine callWith_any hs (wpAny_mono (ha K S R HM I1 q) (fun Vs s2 q=>?_) fun _ _ z=>z)
  obtain ⟨H2,I2,q⟩:=q
  exact s_call Y GO FN K R HM I2 q
theorem s_method (Y:PmOk P) (GO:GxOk P G) (K:FmOk P F) (I:Inv P F l H s) {E:Value→Shared→Prop} {V:Value} {m:Str} {k:Addr→Prop} {pl:Sem Bool} {Q:Value×List Value→Shared→Prop} (h:methV G (er V) m H k)
    (hq:∀ f x,V = .ref x→k f→Q (.ref f,[.ref x]) s):wpAny P.M F.A (getMethod V m pl) Q E s:=by
  unfold methV at h
  split at h
  · rename_i x e;have:=er_ref e;subst this
    split at h
    · rename_i C d hx
      split at h
      · rename_i kvs f hd hm
        obtain ⟨hv,hk⟩:=h
        obtain ⟨mm,Fr,hmm⟩:=I.fr K
        obtain ⟨es,kk,od,ne,_⟩:=I.objs _ _ hd
        obtain ⟨W,g1,g2⟩:=ne.get (a:=m)
        obtain ⟨f1,f2,f3⟩:=GO.meth C m f hm
        have II:PySem.W.InstAt s.heap x { cls:=.ref C,dict:=some d,data:=.plain } C (some (PySem.W.dictOf es.toList kk)):=⟨I.objs _ _ hx,rfl,rfl,by simpa [PySem.W.dictOf] using od⟩
        rw [hv] at g2
        cases W with
        | none=>exact PySem.W.method_inst Fr Y.kin II f1 f2 f3 g1 (hq f x rfl hk)
        | some W=>simp at g2
      · exact h.elim
    · exact h.elim
  · exact h.elim
theorem backTo_stars {env:Env} {pos:Pos}:∀ {es:List Expr},es.all notStar = true→(backTo pos (starEach es env)).all (fun x=>!x.1) = true
  | [],_=>rfl
  | e :: es,h=>by
    simp at h
    rw [star_cons h.1]
    show (true && (backTo pos (starEach es env)).all (fun x=>!x.1)) = true
    rw [backTo_stars (by simpa using h.2)];rfl
theorem attrBase_eq {o:Expr} {a:Str} {env:Env} {whole:Sem Value} (h:notSuper o = true):attributeBase o a env whole = whole:=by
  unfold attributeBase
  split
  · have h':(_ != ("super" : Str)) = true:=h
    rw [if_pos (by rw [h'];rfl)]
  · rfl
theorem se_meth (Y:PmOk P) (GO:GxOk P G) (FN:SndFn P G n) {sc:Scope} {o:Expr} {m:Str} {ap pos:Pos} {args:List Expr} {o':Ex} {args':List Ex} (hs:args.all notStar = true) (hsup:notSuper o = true) (hline:(ap.endLine == pos.line) = true) (hlen:args.length < 29)
    (ho:SE P G n hm sc o o') (ha:SEs P G n hm sc args args') :
    SE P G n hm sc (.Call (.Attribute o m ap) args [] pos) (.meth o' m args'):=by
  intro F l K S R HM H s Q X I q
  conv at q=>whnf
  rw [arm_eval_Call,attrBase_eq hsup]
  refine wpAny_bind (wpAny_mono (ho K S R HM I q) (fun V s' q=>?_) fun _ _ z=>z)
  obtain ⟨H1,I1,q⟩:=q
  refine wpAny_bind (wpAny_standAt ?_)
  have hform:methodCallForm (args.length + ([]:List Keyword).length) (backTo pos (starEach args F.env)) (backToKw pos (keywordEach [] F.env)) = true:=by
    unfold methodCallForm
    rw [backTo_stars hs]
    have:backToKw pos (keywordEach [] F.env) = []:=rfl
    simp [this];exact Nat.lt_succ_of_lt ‹_›
  have hpos:methodCallPos true o F.env ap pos = pure pos:=by unfold methodCallPos;simp [hline]
  unfold methodCall
  rw [hform]
  refine wpAny_bind (wpAny_holding (s_method Y GO K I1 q fun f x e q=>?_))
  subst e
  refine wpAny_bind (wpAny_of_eq hpos ?_)
  refine callWith_any hs (wpAny_mono (ha K S R HM I1 q) (fun Vs s2 q=>?_) fun _ _ z=>z)
  obtain ⟨H2,I2,q⟩:=q
  refine ⟨PySem.W.looks_keep (FN.keep q) (I2.kin Y K),wpAny_call (codeAny_mono (FN.run q K R.c HM I2 rfl) fun r s' z=>?_)⟩
  rcases r with e | (_ | _ | _ | v) <;> exact z
noncomputable def bmName:Bm→Str
  | .append => "append" | .pop => "pop" | .join => "join"
noncomputable def bmId:Bk→Bm→String
  | .list, .append => "list.append"
  | .list,_ => "list.pop"
  | .dict,_ => "dict.pop"
  | .str,_ => "str.join"
theorem bm_get {M:Model} {A:Around} {E:Value→Shared→Prop} {s:Shared} {v:Value} {T:String} {name nm:Str} {id idd:String} {pl:Sem Bool} {Q:Value×List Value→Shared→Prop} (sl:Slot T nm idd) (hT:s.TypeIs v T) (pa:PlainAttrs T)
    (hty:typeOf (.builtin idd) = pure (.type "method_descriptor")) (hd:∀ a,v = .ref a→∃ o,s.heap.get? a = some o∧o.dict = none) (h:Q (.builtin id,[v]) s) (e1:name = nm:=by rfl) (e2:id = idd:=by rfl):wpAny M A (getMethod v name pl) Q E s:=by
  subst e1 e2
  exact getMethod_builtin hT pa sl hty hd h
theorem s_bmOn (I:Inv P F l H s) {E:Value→Shared→Prop} {V:Value} {m:Bm} {k:Bk→Prop} {pl:Sem Bool} {Q:Value×List Value→Shared→Prop} (h:bmOn m (er V) H k)
    (hq:∀ b,k b→Q (.builtin (bmId b m),[V]) s):wpAny P.M F.A (getMethod V (bmName m) pl) Q E s:=by
  unfold bmOn at h
  split at h
  · rename_i x _ e;obtain ⟨t,rfl⟩:=er_str e
    obtain ⟨rfl,h⟩:=h
    exact bm_get PySem.F.slot_str_join rfl PySem.F.plainAttrs_str PySem.F.type_str_join (fun _ e=>nomatch e) (hq .str h)
  · rename_i a e;have:=er_ref e;subst this
    split at h
    · rename_i xs hx
      obtain ⟨vs,hl,_,_,n,e⟩:=I.objs _ _ hx
      have hd:∀ b,Value.ref a = .ref b→∃ o,s.heap.get? b = some o∧o.dict = none:=fun b q=>by cases q;exact ⟨_,e,rfl⟩
      obtain ⟨rfl | rfl,h⟩:=h
      · exact bm_get slot_list_append hl.typeIs PySem.F.plainAttrs_list type_list_append hd (hq .list h)
      · exact bm_get PySem.F.slot_list_pop hl.typeIs PySem.F.plainAttrs_list PySem.F.type_list_pop hd (hq .list h)
    · rename_i xs hx
      obtain ⟨vs,hl,_⟩:=I.objs _ _ hx
      obtain ⟨rfl,h⟩:=h
      exact bm_get PySem.F.slot_dict_pop hl.mapOf.typeIs PySem.F.plainAttrs_dict PySem.F.type_dict_pop hl.mapOf.noDict (hq .dict h)
    · exact h.elim
  · exact h.elim
theorem mapSeq_exact (f:Array Value→Array Value) (vs:Array Value) (n:Nat):∃ n',Obj.mapSeq f { cls:=.type "list",dict:=none,data:=.seq vs n,slots:=#[] } = { cls:=.type "list",dict:=none,data:=.seq (f vs) n',slots:=#[] }:=by
  unfold Obj.mapSeq
  exact ⟨_,rfl⟩
theorem IsL.update {h:Heap} {a:Addr} {vs:Array Value} (x:IsL h a vs) (f:Array Value→Array Value):IsL (h.update a (Obj.mapSeq f)) a (f vs):=by
  obtain ⟨n,e⟩:=x
  obtain ⟨n',e'⟩:=mapSeq_exact f vs n
  exact ⟨n',by rw [Heap.get?_update_self _ e (by rw [e'];rfl),e']⟩
theorem without_er {K:Type} [DecidableEq K] (ks:List (K×Value)) (k:K):(PySem.without ks k).map (fun p=>(p.1,er p.2)) = PySem.without (ks.map fun p=>(p.1,er p.2)) k:=by
  unfold PySem.without
  rw [List.filter_map]
  rfl
theorem s_bm (K:FmOk P F) (I:Inv P F l H s) {E:Value→Shared→Prop} {V:Value} {Vs:List Value} {b:Bk} {m:Bm} {Q:QV} (h:bmV b m (er V) (Vs.map er) H Q) :
    wpAny P.M F.A (call (.builtin (bmId b m)) (V :: Vs)) (PostE P F l Q) E s:=by
  unfold bmV at h
  split at h
  · split at h
    · obtain ⟨a,eV,h'⟩:=onRef_elim rfl h;clear h;subst eV
      obtain ⟨W,eW,h⟩:=on1_elim h';clear h';subst eW
      split at h
      · rename_i xs hx
        obtain ⟨hz,q⟩:=h
        obtain ⟨vs,hl,e,hz2,ex⟩:=I.objs _ _ hx
        have hsz:vs.size≤sizeLine:=by rw [← e] at hz;simpa using hz
        obtain ⟨n,e0⟩:=id ex
        refine wpAny_call_entry slot_list_append hl.typeIs entry_list_append ?_ (args_list_append _ _)
        show wpAny _ _ (updateSeq a (·.push W) >>= fun _=>ret .none) _ _ s
        refine wpAny_bind (wpAny_updateSeq e0 rfl (wpAny_pure ⟨.none,rfl, ?_⟩) hsz)
        refine ⟨_,I.put (t:=s.toks) hx (fun b hb=>Heap.get?_update_other _ _ (Ne.symm hb)) (mt_list (ex.update _) ?_), ?_⟩
        · simp only [Array.size_push];exact Nat.le_trans (Nat.succ_le_succ hsz) (by decide)
        · simpa [e,er] using q
      · exact h.elim
    · obtain ⟨a,eV,h'⟩:=onRef_elim rfl h;clear h;subst eV
      obtain ⟨eW,h⟩:=on0_elim h';clear h';subst eW
      split at h
      · rename_i xs hx
        obtain ⟨hz,q⟩:=h
        obtain ⟨vs,hl,e,hz2,ex⟩:=I.objs _ _ hx
        have hsz:vs.size≤sizeLine:=by rw [← e] at hz;simpa using hz
        obtain ⟨n,e0⟩:=id ex
        split at q
        · rename_i v hv
          obtain ⟨y,hy,hyv⟩:∃ y,vs[vs.size - 1]? = some y∧er y = v:=by
            rw [← e,List.getLast?_map] at hv
            obtain ⟨y,hy,e'⟩:=Option.map_eq_some_iff.mp hv
            refine ⟨y, ?_,e'⟩
            rw [List.getLast?_eq_getElem?] at hy
            simpa using hy
          subst hyv
          refine call_meets PySem.F.slot_list_pop hl.typeIs PySem.F.entry_list_pop (PySem.F.args_list_pop_1 _) (PySem.MeetsSeq.list_pop_last a vs n y hy hsz) ⟨e0, ?_⟩
          have dl:(vs.eraseIdxIfInBounds (vs.size - 1)).toList = vs.toList.dropLast:=by
            obtain ⟨l⟩:=vs
            simp only [List.eraseIdxIfInBounds_toArray,List.size_toArray,List.eraseIdx_length_sub_one]
          refine ⟨_,I.put (t:=s.toks) hx (fun b hb=>Heap.get?_update_other _ _ (Ne.symm hb)) (mt_list (ex.update _) ?_), ?_⟩
          · rw [← Array.length_toList,dl]
            rw [List.length_dropLast,Array.length_toList];exact Nat.le_trans (Nat.sub_le ..) (Nat.le_trans hsz (by decide))
          · have:((vs.eraseIdxIfInBounds (vs.size - 1)).toList.map er) = xs.dropLast:=by
              rw [dl,← e,List.map_dropLast]
            rw [this];exact q
        · exact q.elim
      · exact h.elim
    · exact h.elim
  · split at h
    · obtain ⟨a,eV,h'⟩:=onRef_elim rfl h;clear h;subst eV
      obtain ⟨W,eW,h2⟩:=on1_elim h';clear h';subst eW
      obtain ⟨k,t,eW,h⟩:=onInt_elim rfl h2;clear h2;subst eW
      split at h
      · rename_i kvs hx
        obtain ⟨hz,q⟩:=h
        obtain ⟨ks,hd,e⟩:=I.objs _ _ hx
        split at q
        · rename_i v hv
          rw [← e] at hv
          rw [valueAt_er] at hv
          obtain ⟨W,hw,hwv⟩:=Option.map_eq_some_iff.mp hv
          subst hwv
          refine call_meetsIn PySem.F.slot_dict_pop hd.mapOf.typeIs PySem.F.entry_dict_pop (PySem.F.args_dict_pop_2 _ _) (meets_dict_pop_there _ a (intKind_is _ _ _ _) [] (.inl rfl) rfl) ⟨ks,W,hd,by rw [← e] at hz;simpa using hz,hw,fun h' hd' sb=>?_⟩
          refine ⟨_,I.put (t:=s.toks + 1) (o':=.idict ((PySem.without ks k).map fun p=>(p.1,er p.2))) hx (fun b hb=>sb.2 b hb) ⟨_,hd',rfl⟩, ?_⟩
          have:(PySem.without ks k).map (fun p=>(p.1,er p.2)) = PySem.without kvs k:=by rw [← e,without_er]
          rw [this];exact q
        · exact q.elim
      · exact h.elim
    · exact h.elim
  · split at h
    · obtain ⟨x,t,eV,h'⟩:=onStr_elim rfl h;clear h;subst eV
      obtain ⟨W,eW,h2⟩:=on1_elim h';clear h';subst eW
      obtain ⟨a,eW,h⟩:=onRef_elim rfl h2;clear h2;subst eW
      split at h
      · rename_i xs hx
        obtain ⟨vs,hl,e,_⟩:=I.objs _ _ hx
        split at h
        · rename_i ss hs
          obtain ⟨ok,q⟩:=h
          obtain ⟨ls,e1,e2⟩:=strs_vals _ _ _ e hs
          refine PySem.SC.join (l:=ls) (by rw [← e1];simpa using hl) e2 ok fun t' k=>⟨H,I.toks _,q⟩
        · exact h.elim
      · exact h.elim
    · exact h.elim
end
end Mine
end

section
open PySem PyProof.Rows PySem.Calls
open PySem.W (Looks Frag InstAt findIn findObj mroIn subIn typeIn clsIn looks_findIn looks_find looks_mroIn looks_subIn looks_typeIn class_get handed_on)
namespace Mine
section
variable {prog:Program} {w:World} {A:Around} {E:Value→Shared→Prop} {s:Shared} {K:Frag} {x D:Addr} {ox:Obj}
theorem exc_check {M:Model} {nameV:Value} {Q:Unit→Shared→Prop} (C:ExcCls K D) (X:K.In s.heap) (I:InstAt s.heap x ox D none) (hq:Q () s):wpAny M A (checkBuiltinCall "BaseException.__getattribute__" ⟨[.ref x,nameV],[]⟩) Q E s:=by
  have hk:builtinKind "BaseException.__getattribute__" = some .slot:=by decide +kernel
  have hsplit:splitId "BaseException.__getattribute__" = some ("BaseException", "__getattribute__"):=by decide +kernel
  have ha:=PySem.F.args_bexc_ga (.ref x) nameV
  have L0:=I.type (M:=M)
  have L1:Looks M s.heap (isInstance (.ref x) (.type "BaseException")) true:=L0.andThen (looks_mroIn X C.be)
  obtain ⟨hh,g,d,t,os⟩:=s
  simp only [checkBuiltinCall,hk,hsplit]
  refine wpAny_bind (L1.at ?_)
  repeat (any_goals (first | assumption | wp_step))
theorem exc_attr {tk:Tok} {fill expr:Bool} {Q:Value→Shared→Prop} (C:ExcCls K D) (X:K.In s.heap) (I:InstAt s.heap x ox D none) (hq:Q (.ref D) s) :
    wpAny (model prog w) A (getAttrBy (.ref x) (.str "__class__" tk) fill expr) Q E s:=by
  have L0:=I.type (M:=model prog w)
  have L1:=looks_findIn (M:=model prog w) X C.ga
  have L2:=looks_findIn (M:=model prog w) X C.gr
  have L3:=looks_find (M:=model prog w) X I C.fo
  have I':=I
  have X':=X
  have CG:=fun {A':Around} {R:Result→Shared→Prop} (h:R (.ok (.ret (.ref D))) s)=>class_get (prog:=prog) (w:=w) (A:=A') (tp:=.ref D) X I C.ob h
  have EC:=fun {A':Around} {E':Value→Shared→Prop} {nameV:Value} {Q':Unit→Shared→Prop} (hq:Q' () s)=>exc_check (M:=model prog w) (A:=A') (E:=E') (nameV:=nameV) C X I hq
  obtain ⟨hh,g,d,t,os⟩:=s
  unfold getAttrBy
  refine wpAny_holding (wpAny_bind (L0.at (wpAny_bind (L1.at ?_))))
  show wpAny _ _ (getAttrByItsOwn _ _ _ _ _ _) _ _ _
  unfold getAttrByItsOwn hookBefore
  refine wpAny_bind ?_
  show wpAny _ _ (typeLookup (.ref D) "__getattr__") _ _ _
  refine L2.at ?_
  refine wpAny_bind (wpAny_attempt (wpAny_holding ?_))
  have hb:callGetattribute (.ref x) (.str "__class__" tk) (.builtin "BaseException.__getattribute__") expr = boundAndCalled (.builtin "BaseException.__getattribute__") (.ref x) (.str "__class__" tk):=by
    unfold callGetattribute
    rw [if_neg (by cases expr <;> decide)]
  rw [hb]
  unfold boundAndCalled
  refine wpAny_bind (wpAny_of_eq (PySem.F.excAttr_ValueError.ga.bind (.ref x)) ?_)
  refine wpAny_call ?_
  refine codeAny_call_builtin PySem.F.excAttr_ValueError.ga.plain PySem.F.entry_bexc_ga (EC ?_)
  unfold Builtin.«object.__getattribute__»
  repeat (any_goals (first | assumption | with_reducible refine L0.at ?_ | with_reducible refine L3.at ?_ | wp_step))
  refine CG ?_
  dsimp only
  refine wpAny_pure ?_
  dsimp only
  exact handed_on rfl hq
theorem exc_class {Q:Option Value→Shared→Prop} (C:ExcCls K D) (X:K.In s.heap) (I:InstAt s.heap x ox D none) (hq:Q (some (.ref D)) { s with toks:=s.toks + 1 }) :
    wpAny (model prog w) A (getAttr? (.ref x) "__class__") Q E s:=by
  unfold getAttr? getAttrBy?
  exact wpAny_bind (wpAny_mkText (wpAny_bind (wpAny_attempt (exc_attr (s:={ s with toks:=s.toks + 1 }) C X I (wpAny_pure hq)))))
structure AskCls (K:Frag) (c:Value):Prop where
  ty:∀ (M:Model) h',K.In h'→Looks M h' (typeOf c) (.type "type")
  is:∀ (M:Model) h',K.In h'→Looks M h' (isType c) true
theorem exc_nested {c:Value} {dep:Int} {tk:Tok} {b:Bool} {Q:Fin→Shared→Prop} (C:ExcCls K D) (X:K.In s.heap) (I:InstAt s.heap x ox D none) (U:AskCls K c)
    (hne:(Value.ref D == c) = true→b = true) (hsub:∀ (M:Model) h',K.In h'→Looks M h' (isSubtype (.ref D) c) b) (h:∀ t,Q (.done (.ret (.bool b))) { s with toks:=t }) :
    wpAny (model prog w) A (Builtin.«isinstance.nested» ⟨[.ref x,c, .int dep tk],[]⟩) Q E s:=by
  obtain ⟨cdD,hcD⟩:=Option.isSome_iff_exists.mp C.cl
  have hisD:Looks (model prog w) s.heap (isType (.ref D)) true:=by
    unfold PySem.W.clsIn at hcD
    split at hcD
    · rename_i ho
      intro A' Q' E' s' k q
      unfold isType loadHead
      exact wpAny_bind (wpAny_loadPart (k _ _ (X _ _ ho)) (wpAny_pure q))
    · cases hcD
  have hty:=U.ty (model prog w) _ X
  have his:=U.is (model prog w) _ X
  have hs:=hsub (model prog w) _ X
  have EC:=fun {A':Around} {E':Value→Shared→Prop} {Q':Option Value→Shared→Prop} (hq:Q' (some (.ref D)) { s with toks:=s.toks + 1 })=>exc_class (prog:=prog) (w:=w) (A:=A') (E:=E') C X I hq
  have L0:=I.type (M:=model prog w)
  obtain ⟨h0,g,d,tt,os⟩:=s
  have LI:Looks (model prog w) h0 (isInstance (.ref x) c) b:=L0.andThen hs
  unfold Builtin.«isinstance.nested»
  refine wpAny_bind (L0.at ?_)
  by_cases q:(Value.ref D == c) = true
  · rw [if_pos q]
    have:=hne q
    subst this
    exact wpAny_bind (wpAny_rule (wpAny_bind (wpAny_pure (wpAny_pure (h _)))))
  rw [if_neg q]
  refine wpAny_bind (hty.at ?_)
  rw [if_pos (by decide)]
  k_delta "plainIsInstance"
  refine wpAny_bind (wpAny_bind (his.at ?_))
  simp only [Bool.not_true,Bool.false_eq_true,if_false]
  refine wpAny_bind (LI.at ?_)
  cases b with
  | true =>
    simp only [if_true]
    exact wpAny_pure (wpAny_pure (h _))
  | false =>
    simp only [Bool.false_eq_true,if_false]
    refine wpAny_bind (EC ?_)
    refine wpAny_bind (hisD.at ?_)
    simp only [Bool.not_true,Bool.false_eq_true,if_false]
    refine wpAny_bind (wpAny_rule ?_)
    refine hs.at ?_
    first
      | exact wpAny_pure (h _)
      | exact wpAny_pure (wpAny_pure (h _))
      | exact wpAny_bind (wpAny_pure (wpAny_pure (h _)))
theorem exc_isi {c:Value} {b:Bool} {Q:Value→Shared→Prop} (C:ExcCls K D) (X:K.In s.heap) (I:InstAt s.heap x ox D none) (U:AskCls K c)
    (hne:(Value.ref D == c) = true→b = true) (hsub:∀ (M:Model) h',K.In h'→Looks M h' (isSubtype (.ref D) c) b) (h:∀ t,Q (.bool b) { s with toks:=t }) :
    wpAny (model prog w) A (call (.builtin "isinstance") [.ref x,c]) Q E s :=
  call_isinstance (S:=fun _ R s=>(K.In s.heap∧InstAt s.heap x ox D none)∧∀ t,R (.ok (.ret (.bool b))) { s with toks:=t })
    (fun _ _ _ _ _ hs=>isinstance_outer (exc_nested C hs.1.1 hs.1.2 U hne hsub hs.2) (by intro q;cases q)) ⟨⟨X,I⟩,h⟩
end
end Mine
end

section
open PySem PyProof.Rows PySem.Calls
open PySem.W (Looks looks_subIn looks_typeIn)
namespace Mine
section
variable {P:Pm} {F:Fm} {G:Gx} {n:Nat} {hm:Bool} {l:Loc} {H:Hp} {s:Shared}
noncomputable def Ty.val:Ty→Option Value
  | .str=>some (.type "str") | .int=>some (.type "int") | .bool=>some (.type "bool") | .list=>some (.type "list") | .tuple=>some (.type "tuple") | .valueError=>some (.type "ValueError")
  | _=>none
theorem ask_own (K:PySem.W.Frag) {D:Addr} (C:ExcCls K D):AskCls K (.ref D):=by
  refine ⟨fun M h' X=>looks_typeIn X C.ty,fun M h' X=>?_⟩
  obtain ⟨cd,hc⟩:=Option.isSome_iff_exists.mp C.cl
  unfold PySem.W.clsIn at hc
  split at hc
  · rename_i ho
    intro A' Q' E' s' k q
    unfold isType loadHead
    exact wpAny_bind (wpAny_loadPart (k _ _ (X _ _ ho)) (wpAny_pure q))
  · cases hc
theorem meta_VE:typeOf (.type "ValueError") = pure (.type "type"):=by kernel_rfl
theorem ask_VE (K:PySem.W.Frag):AskCls K (.type "ValueError"):=⟨fun _ _ _=>Looks.of_pure meta_VE,fun _ _ _=>Looks.of_pure rfl⟩
theorem exc_inst (I:Inv P F l H s) {x D:Addr} (h:H x = some (.exc D)):∃ ox,PySem.W.InstAt s.heap x ox D none:=by
  obtain ⟨vs,sl,e⟩:=I.objs _ _ h
  exact ⟨_,e,rfl,rfl,trivial⟩
theorem s_isi (Y:PmOk P) (GO:GxOk P G) (K:FmOk P F) (I:Inv P F l H s) {E:Value→Shared→Prop} {V T:Value} {t:Ty} {Q:QV} (ht:t.val = some T) (h:isiV G (er V) t H Q) :
    wpAny P.M F.A (call (.builtin "isinstance") [V,T]) (PostE P F l Q) E s:=by
  have R:∀ {b:Bool} {u:Nat},Q (.bool b) H→PostE P F l Q (.bool b) { s with toks:=u }:=fun q=>⟨H,I.toks _,q⟩
  unfold isiV at h
  split at h
  · rename_i e;have:=er_none e;subst this
    obtain ⟨hb,q⟩:=h
    cases t <;> cases ht <;> first | cases hb | skip
    · exact IsiPair.NoneType_str (R q)
    · exact IsiPair.NoneType_int (R q)
    · exact IsiPair.NoneType_bool (R q)
    · exact IsiPair.NoneType_list (R q)
    · exact IsiPair.NoneType_tuple (R q)
  · rename_i e;have:=er_bool e;subst this
    obtain ⟨hb,q⟩:=h
    cases t <;> cases ht <;> first | cases hb | skip
    · exact IsiPair.bool_str (R q)
    · exact IsiPair.bool_int (R (u:=s.toks) q)
    · exact IsiPair.bool_bool (R (u:=s.toks) q)
    · exact IsiPair.bool_list (R q)
    · exact IsiPair.bool_tuple (R q)
  · rename_i e;obtain ⟨u,rfl⟩:=er_int e
    obtain ⟨hb,q⟩:=h
    cases t <;> cases ht <;> first | cases hb | skip
    · exact IsiPair.int_str (R q)
    · exact IsiPair.int_int (R (u:=s.toks) q)
    · exact IsiPair.int_bool (R q)
    · exact IsiPair.int_list (R q)
    · exact IsiPair.int_tuple (R q)
  · rename_i e;obtain ⟨u,rfl⟩:=er_str e
    obtain ⟨hb,q⟩:=h
    cases t <;> cases ht <;> first | cases hb | skip
    · exact IsiPair.str_str (R (u:=s.toks) q)
    · exact IsiPair.str_int (R q)
    · exact IsiPair.str_bool (R q)
    · exact IsiPair.str_list (R q)
    · exact IsiPair.str_tuple (R q)
  · rename_i a e;have:=er_ref e;subst this
    split at h
    · rename_i hx
      obtain ⟨hb,q⟩:=h
      obtain ⟨vs,⟨o,ho,hc,_⟩,_⟩:=I.objs _ _ hx
      cases t <;> cases ht <;> first | cases hb | skip
      · exact IsiPair.list_str ho hc (R q)
      · exact IsiPair.list_int ho hc (R q)
      · exact IsiPair.list_bool ho hc (R q)
      · exact IsiPair.list_list ho hc (R (u:=s.toks) q)
      · exact IsiPair.list_tuple ho hc (R q)
    · rename_i hx
      obtain ⟨hb,q⟩:=h
      obtain ⟨vs,⟨o,ho,hc,_⟩,_⟩:=I.objs _ _ hx
      cases t <;> cases ht <;> first | cases hb | skip
      · exact IsiPair.tuple_str ho hc (R q)
      · exact IsiPair.tuple_int ho hc (R q)
      · exact IsiPair.tuple_bool ho hc (R q)
      · exact IsiPair.tuple_list ho hc (R q)
      · exact IsiPair.tuple_tuple ho hc (R (u:=s.toks) q)
    · rename_i hx
      obtain ⟨hb,q⟩:=h
      obtain ⟨vs,⟨o,es,ep,ho,hc,_⟩,_⟩:=I.objs _ _ hx
      cases t <;> cases ht <;> first | cases hb | skip
      · exact IsiPair.dict_str ho hc.1 (R q)
      · exact IsiPair.dict_int ho hc.1 (R q)
      · exact IsiPair.dict_bool ho hc.1 (R q)
      · exact IsiPair.dict_list ho hc.1 (R q)
      · exact IsiPair.dict_tuple ho hc.1 (R q)
    · rename_i hx
      obtain ⟨hb,q⟩:=h
      obtain ⟨vs,⟨o,es,ep,ho,hc,_⟩,_⟩:=I.objs _ _ hx
      cases t <;> cases ht <;> first | cases hb | skip
      · exact IsiPair.dict_str ho hc.1 (R q)
      · exact IsiPair.dict_int ho hc.1 (R q)
      · exact IsiPair.dict_bool ho hc.1 (R q)
      · exact IsiPair.dict_list ho hc.1 (R q)
      · exact IsiPair.dict_tuple ho hc.1 (R q)
    · rename_i C hx
      obtain ⟨he,q⟩:=h
      obtain ⟨ox,II⟩:=exc_inst I hx
      cases t <;> cases ht <;> first | exact q.elim | skip
      exact exc_isi (GO.exc C he) (I.kin Y K) II (ask_VE _) (fun _=>rfl) (fun M h' X=>looks_subIn X (GO.exc C he).ve) fun t=>R q
    · exact h.elim
  · exact h.elim
theorem machine_builtin (M:Model) (h:Heap) (id:String):∃ k,(k = Keeper.frame∨k = Keeper.machine)∧Looks M h (keeperOf (.builtin id)) k:=⟨.machine, .inr rfl,Looks.of_pure rfl⟩
theorem ld_blt (Y:PmOk P) (B:BltOk P) {sc:Scope} (K:FmOk P F) (S:ScOk sc F) (I:Inv P F l H s) {E:Value→Shared→Prop} {x:Str} {p:Pos} {v:Value} {Q:Value→Shared→Prop} (hb:bltTab x = some v) (hl:isLoc sc x = some false) (h:Q v s):wpAny P.M F.A (eval (.Name x p) F.env) Q E s :=
  ld_glob Y K I (.inr (B.blt x v hb)) (S.glob x hl) (isLoc_false hl) h
theorem se_isi (Y:PmOk P) (B:BltOk P) (GO:GxOk P G) {sc:Scope} {e:Expr} {e':Ex} {x:Str} {t:Ty} {p p2 pos:Pos} (hn:notStar e = true) (hi:isLoc sc "isinstance" = some false) (hx:isLoc sc x = some false) {T:Value} (hT:t.val = some T) (hb:bltTab x = some T) (he:SE P G n hm sc e e') :
    SE P G n hm sc (.Call (.Name "isinstance" p) [e, .Name x p2] [] pos) (.isi e' t):=by
  intro F l K S R HM H s Q X I q
  conv at q=>whnf
  refine wpAny_Call_NameR (ld_blt Y B K S I (v:=.builtin "isinstance") (by decide +kernel) hi ?_)
  refine callWith_any (by rw [List.all_cons,hn];rfl) ?_
  rw [star_cons hn]
  refine spliced_cons (wpAny_mono (he K S R HM I q) (fun V s' q=>?_) fun _ _ z=>z)
  obtain ⟨H1,I1,q⟩:=q
  refine spliced_cons (ld_blt Y B K S I1 hb hx (spliced_nil ⟨machine_builtin _ _ _, ?_⟩))
  exact s_isi Y GO K I1 hT q
theorem se_bm {sc:Scope} {o:Expr} {m:Str} {b:Bm} {ap pos:Pos} {args:List Expr} {o':Ex} {args':List Ex} (hb:m = bmName b) (hs:args.all notStar = true) (hsup:notSuper o = true) (hline:(ap.endLine == pos.line) = true) (hlen:args.length < 29)
    (ho:SE P G n hm sc o o') (ha:SEs P G n hm sc args args') :
    SE P G n hm sc (.Call (.Attribute o m ap) args [] pos) (.bm b o' args'):=by
  intro F l K S R HM H s Q X I q
  subst hb
  conv at q=>whnf
  rw [arm_eval_Call,attrBase_eq hsup]
  refine wpAny_bind (wpAny_mono (ho K S R HM I q) (fun V s' q=>?_) fun _ _ z=>z)
  obtain ⟨H1,I1,q⟩:=q
  refine wpAny_bind (wpAny_standAt ?_)
  have hform:methodCallForm (args.length + ([]:List Keyword).length) (backTo pos (starEach args F.env)) (backToKw pos (keywordEach [] F.env)) = true:=by
    unfold methodCallForm
    rw [backTo_stars hs]
    have:backToKw pos (keywordEach [] F.env) = []:=rfl
    simp [this];exact Nat.lt_succ_of_lt ‹_›
  have hpos:methodCallPos true o F.env ap pos = pure pos:=by unfold methodCallPos;simp [hline]
  unfold methodCall
  rw [hform]
  refine wpAny_bind (wpAny_holding (s_bmOn I1 q fun b q=>?_))
  refine wpAny_bind (wpAny_of_eq hpos ?_)
  refine callWith_any hs (wpAny_mono (ha K S R HM I1 q) (fun Vs s2 q=>?_) fun _ _ z=>z)
  obtain ⟨H2,I2,q⟩:=q
  exact ⟨machine_builtin _ _ _,s_bm K I2 q⟩
end
end Mine
end

section
open PySem PyProof.Rows PySem.Calls
namespace Mine
noncomputable def Fm.also (F:Fm) (c:Addr) (o:Obj):Fm:={ F with g:=fun b=>if b = c then some o else F.g b }
section
variable {P:Pm} {F:Fm} {G:Gx} {n:Nat} {hm:Bool} {l:Loc} {H:Hp} {s:Shared} {c:Addr} {o:Obj}
theorem FmOk.also (K:FmOk P F) (x:Off F H c):FmOk P (F.also c o):=by
  refine ⟨K.kind,K.glob,K.blt,fun b o' e=>?_,K.above, ?_,K.lf,K.cl,fun hr y d hy=>?_,K.apart,K.cn,K.cf,fun b d e=>?_,K.frames,fun a e=>?_,K.code⟩
  · show (if b = c then some o else F.g b) = some o'
    have:=K.base b o' e
    rw [if_neg (fun q=>by rw [q,x.g] at this;cases this)]
    exact this
  · show (if F.env.locals = c then some o else F.g F.env.locals) = none
    rw [if_neg (Ne.symm x.l)];exact K.lg
  · obtain ⟨h1,h2⟩:=K.cg hr y d hy
    refine ⟨?_,h2⟩
    show (if d = c then some o else F.g d) = none
    rw [if_neg (Ne.symm (x.c y d hy))];exact h1
  · obtain ⟨h1,h2⟩:=K.fg b d e
    refine ⟨?_,h2⟩
    show (if b = c then some o else F.g b) = none
    have e':F.fr b = some d:=e
    rw [if_neg (fun q=>by rw [q,x.fr] at e';cases e')];exact h1
  · refine ⟨?_,(K.xg a e).2⟩
    show ∃ O,(if a = c then some o else F.g a) = some O
    split
    · exact ⟨_,rfl⟩
    · exact (K.xg a e).1
theorem Inv.also (I:Inv P F l H s) (x:Off F H c) (h:s.heap.get? c = some o):Inv P (F.also c o) l H s:=by
  refine ⟨I.gens,I.os,fun b o' e=>?_,I.frk,I.loc,I.cel,I.objs,fun a o' e=>?_,I.big⟩
  · by_cases q:b = c
    · have e:(if b = c then some o else F.g b) = some o':=e
      rw [if_pos q] at e;cases e;rw [q];exact h
    · have e:(if b = c then some o else F.g b) = some o':=e
      rw [if_neg q] at e;exact I.keep b o' e
  · cases hr:o'.isR with
    | true=>exact fre_r (F:=F) (F':=F.also c o) hr rfl (I.free a o' e)
    | false =>
      obtain ⟨h1,h2⟩:=of_fre (I.free a o' e) hr
      refine fre_of hr ⟨?_,h2⟩
      show (if a = c then some o else F.g a) = none
      rw [if_neg (fun q=>by rw [q,x.h] at e;cases e)];exact h1
theorem Inv.back (K:FmOk P F) (x:Off F H c) {l':Loc} {H':Hp} (I:Inv P (F.also c o) l' H' s):Inv P F l' H' s∧s.heap.get? c = some o∧Off F H' c:=by
  refine ⟨⟨I.gens,I.os,fun b o' e=>?_,I.frk,I.loc,I.cel,I.objs,fun a o' e=>?_,I.big⟩,I.keep c o (by show (if c = c then some o else F.g c) = some o;rw [if_pos rfl]), ?_,x.g,x.fr,x.l,x.c⟩
  · refine I.keep b o' ?_
    show (if b = c then some o else F.g b) = some o'
    rw [if_neg (fun q=>by rw [q,x.g] at e;cases e)];exact e
  · cases hr:o'.isR with
    | true=>exact fre_r (F:=F.also c o) (F':=F) hr rfl (I.free a o' e)
    | false =>
      obtain ⟨h1,h2⟩:=of_fre (I.free a o' e) hr
      refine fre_of hr ⟨?_,h2⟩
      have h1:(if a = c then some o else F.g a) = none:=h1
      split at h1
      · cases h1
      · exact h1
  · cases e:H' c with
    | none=>rfl
    | some o' =>
      cases hr:o'.isR with
      | true =>
        rcases r_fre (I.free c o' e) hr with ⟨O,e'⟩ | e'
        · have:=K.base _ _ e'
          rw [x.g] at this;cases this
        · obtain ⟨O,e'⟩:=(K.xg c e').1
          rw [x.g] at e';cases e'
      | false =>
        have:=(of_fre (I.free c o' e) hr).1
        have this:(if c = c then some o else F.g c) = none:=this
        rw [if_pos rfl] at this;cases this
theorem Off.back {H':Hp} {a:Addr} (x:Off (F.also c o) H' a):Off F H' a:=by
  refine ⟨x.h, ?_,x.fr,x.l,x.c⟩
  have:(if a = c then some o else F.g a) = none:=x.g
  split at this
  · cases this
  · exact this
theorem Exc.back {H':Hp} {e C:Addr} {b:Bool} (x:Exc P (F.also c o) H' s e C b):Exc P F H' s e C b :=
  ⟨x.big,x.off.back,let ⟨T,h1,h2,h3⟩:=x.at_;⟨T,h1,fun t ht=>(h2 t ht).back,h3⟩⟩
end
noncomputable def HdJ (A:Around) (J:Addr) (h:Heap):Prop:=A.handled = none∨∃ e o vs,A.handled = some (.ref e)∧e≠J∧h.get? e = some o∧o.data = .fields vs∧vs[2]? = some Value.none
theorem HdK.at_ {P:Pm} {F:Fm} {l:Loc} {H:Hp} {s:Shared} (k:HdK F) (I:Inv P F l H s) {J:Addr} (hJ:F.g J = none):HdJ F.A J s.heap :=
  k.imp id fun ⟨e,o,vs,h1,h2,h3,h4⟩=>⟨e,o,vs,h1,(fun q=>by rw [q,hJ] at h2;cases h2),I.keep e o h2,h3,h4⟩
theorem HdK.also {F:Fm} (k:HdK F) {c:Addr} {o:Obj} (hc:F.g c = none):HdK (F.also c o) :=
  k.imp id fun ⟨e,o',vs,h1,h2,h3,h4⟩=>⟨e,o',vs,h1,by show (if e = c then some o else F.g e) = some o';rw [if_neg (fun q=>by rw [q,hc] at h2;cases h2)];exact h2,h3,h4⟩
theorem HmOk.also {F:Fm} {hm:Bool} (k:HmOk hm F) {c:Addr} {o:Obj} (hc:F.g c = none):HmOk hm (F.also c o):=⟨k.1.also hc,k.2⟩
structure Turns (P:Pm) (A:Around) (J:Addr) (guard:Hp→Prop) (items:List Value) (St:Nat→Heap→Prop):Prop where
  at_:∀ i h,St i h→∃ o,h.get? J = some o
  frame:∀ i h h',St i h→(∀ o,h.get? J = some o→h'.get? J = some o)→St i h'
  item:∀ i (s:Shared) (Q:Option Value→Shared→Prop) (E:Value→Shared→Prop) (H:Hp),(∀ a o,H a = some o→Mt P s.heap a o)→H J = none→guard H→St i s.heap→∀ v,items[i]? = some v →
    (∀ V h' tk,er V = v→St (i + 1) h'→(∀ b o,b≠J→s.heap.get? b = some o→h'.get? b = some o)→Q (some V) { s with heap:=h',toks:=tk })→wpAny P.M A (pyNext (.ref J)) Q E s
  done:∀ (s:Shared) (Q:Option Value→Shared→Prop) (E:Value→Shared→Prop) (H:Hp),(∀ a o,H a = some o→Mt P s.heap a o)→H J = none→guard H→St items.length s.heap→HdJ A J s.heap →
    (∀ h' tk,(∀ b o,b≠J→s.heap.get? b = some o→h'.get? b = some o)→Q none { s with heap:=h',toks:=tk })→wpAny P.M A (pyNext (.ref J)) Q E s
  self:∀ i (s:Shared) (Q:Value→Shared→Prop) (E:Value→Shared→Prop),St i s.heap→Q (.ref J) s→wpAny P.M A (pyIter (.ref J)) Q E s
theorem turns_list {P:Pm} {A:Around} (hh:A.handled = none) (J a:Addr) (xs:List Value):Turns P A J (fun H=>H a = some (.list xs)) xs (fun i h=>h.IsListIter J a i) where
  at_:=fun i h ⟨o,ho,_⟩=>⟨o,ho⟩
  frame:=fun i h h' ⟨o,ho,r⟩ k=>⟨o,k o ho,r⟩
  item:=fun i s Q E H mt hJ g st v hv hq=>by
    obtain ⟨vs,hl,e,_⟩:=mt a _ g
    have hne:a≠J:=fun q=>by rw [q,hJ] at g;cases g
    rw [← e,List.getElem?_map] at hv
    obtain ⟨V,hV,e2⟩:=Option.map_eq_some_iff.mp hv
    have hi:i < vs.size:=by have:=(List.getElem?_eq_some_iff.mp hV).1;simpa using this
    refine (Walks.list (prog:=P.prog) (w:=P.w) hh J a hne vs).item i s Q E hi ⟨st,hl⟩ fun V' h' tk hP st' k=>hq V' h' tk ?_ st'.1 fun b o hb=>k b o (by simp [hb])
    have:some V' = some V:=by rw [← hP];simpa using hV
    cases this;exact e2
  done:=fun s Q E H mt hJ g st _ hq=>by
    obtain ⟨vs,hl,e,_⟩:=mt a _ g
    have hne:a≠J:=fun q=>by rw [q,hJ] at g;cases g
    refine (Walks.list (prog:=P.prog) (w:=P.w) hh J a hne vs).done s Q E ⟨?_,hl⟩ fun h' tk k=>hq h' tk fun b o hb=>k b o (by simp [hb])
    have:vs.size = xs.length:=by rw [← e];simp
    rw [this];exact st
  self:=fun i s Q E st hq=>wpAny_pyIter_listiter st hq
theorem turns_nil {P:Pm} {A:Around} (J a:Addr):Turns P A J (fun H=>H a = some (.list [])) [] (fun i h=>h.IsListIter J a i) where
  at_:=fun i h ⟨o,ho,_⟩=>⟨o,ho⟩
  frame:=fun i h h' ⟨o,ho,r⟩ k=>⟨o,k o ho,r⟩
  item:=fun i s Q E H mt hJ g st v hv hq=>by cases hv
  done:=fun s Q E H mt hJ g st hd hq=>by
    obtain ⟨vs,hl,e,_⟩:=mt a _ g
    have e:vs.toList = []:=List.map_eq_nil_iff.1 e
    refine next_list_end (hd.imp id fun ⟨e,o,vs,h1,_,h2,h3,h4⟩=>⟨e,o,vs,h1,h2,h3,h4⟩) (fun e h1=>?_) st hl (by rw [← Array.getElem?_toList,e];rfl) fun h' x=>hq h' s.toks fun b o hb=>x b o hb
    rcases hd with hd | ⟨e',_,_,h2,h3,_⟩
    · rw [hd] at h1;cases h1
    · rw [h2] at h1;cases h1;exact h3
  self:=fun i s Q E st hq=>wpAny_pyIter_listiter st hq
theorem turns_tup {P:Pm} {A:Around} (hh:A.handled = none) (J a:Addr) (xs:List Value):Turns P A J (fun H=>H a = some (.tup xs)) xs (fun i h=>h.IsTupleIter J a i) where
  at_:=fun i h ⟨o,ho,_⟩=>⟨o,ho⟩
  frame:=fun i h h' ⟨o,ho,r⟩ k=>⟨o,k o ho,r⟩
  item:=fun i s Q E H mt hJ g st v hv hq=>by
    obtain ⟨vs,hl,e,_⟩:=mt a _ g
    have hne:a≠J:=fun q=>by rw [q,hJ] at g;cases g
    rw [← e,List.getElem?_map] at hv
    obtain ⟨V,hV,e2⟩:=Option.map_eq_some_iff.mp hv
    have hi:i < vs.size:=by have:=(List.getElem?_eq_some_iff.mp hV).1;simpa using this
    refine (Walks.tuple (prog:=P.prog) (w:=P.w) hh J a hne vs).item i s Q E hi ⟨st,hl⟩ fun V' h' tk hP st' k=>hq V' h' tk ?_ st'.1 fun b o hb=>k b o (by simp [hb])
    have:some V' = some V:=by rw [← hP];simpa using hV
    cases this;exact e2
  done:=fun s Q E H mt hJ g st _ hq=>by
    obtain ⟨vs,hl,e,_⟩:=mt a _ g
    have hne:a≠J:=fun q=>by rw [q,hJ] at g;cases g
    refine (Walks.tuple (prog:=P.prog) (w:=P.w) hh J a hne vs).done s Q E ⟨?_,hl⟩ fun h' tk k=>hq h' tk fun b o hb=>k b o (by simp [hb])
    have:vs.size = xs.length:=by rw [← e];simp
    rw [this];exact st
  self:=fun i s Q E st hq=>wpAny_pyIter_tupleiter st hq
theorem turns_range {P:Pm} {A:Around} (hh:A.handled = none) (J:Addr) (lo hi st:Int):Turns P A J (fun _=>True) (rangeL lo hi st) (fun i h=>IsRangeIter h J (lo + (i:Nat) * st) (((Builtin.Range.rangeSize lo hi st).toNat:Int) - (i:Nat)) st) where
  at_:=fun i h r=>⟨_,r⟩
  frame:=fun i h h' r k=>k _ r
  item:=fun i s Q E H mt hJ g r v hv hq=>by
    have hi:i < (Builtin.Range.rangeSize lo hi st).toNat:=by have:=(List.getElem?_eq_some_iff.mp hv).1;simpa [rangeL] using this
    refine (Walks.range (prog:=P.prog) (w:=P.w) hh J lo st _).item i s Q E hi r fun V h' tk hP st' k=>hq V h' tk ?_ st' fun b o hb=>k b o (by simp [hb])
    obtain ⟨t,rfl⟩:=hP
    simp [rangeL,hi] at hv
    simp [er,hv]
  done:=fun s Q E H mt hJ g r _ hq=>by
    have:(rangeL lo hi st).length = (Builtin.Range.rangeSize lo hi st).toNat:=by simp [rangeL]
    rw [this] at r
    exact (Walks.range (prog:=P.prog) (w:=P.w) hh J lo st (Builtin.Range.rangeSize lo hi st).toNat).done s Q E r fun h' tk k=>hq h' tk fun b o hb=>k b o (by simp [hb])
  self:=fun i s Q E r hq=>wpAny_pyIter_rangeiter r hq
theorem turns_str {P:Pm} {A:Around} {J:Addr} {x:Str} {St:Nat→Heap→Prop} (W:Walks P.prog P.w A J [J] [J] x.cps.size (SignAt x) St) (hat:∀ i h,St i h→∃ o,h.get? J = some o):Turns P A J (fun _=>True) (x.cps.toList.map fun c=>.str (chr1 c) 0) St where
  at_:=hat
  frame:=fun i h h' r k=>W.frame i h h' r fun b hb o e=>by simp at hb;subst hb;exact k o e
  item:=fun i s Q E H mt hJ g r v hv hq=>by
    have hi:i < x.cps.size:=by have:=(List.getElem?_eq_some_iff.mp hv).1;simpa using this
    refine W.item i s Q E hi r fun V h' tk hP st' k=>hq V h' tk ?_ st' fun b o hb=>k b o (by simp [hb])
    obtain ⟨c,u,hc,rfl⟩:=hP
    simp at hv
    obtain ⟨c',hc',rfl⟩:=hv
    rw [hc] at hc';cases hc'
    rfl
  done:=fun s Q E H mt hJ g r _ hq=>by
    refine W.done s Q E (by simpa using r) fun h' tk k=>hq h' tk fun b o hb=>k b o (by simp [hb])
  self:=fun i s Q E r hq=>W.self i s Q E r hq
section
variable {P:Pm} {F:Fm} {G:Gx} {n:Nat} {hm:Bool} {l:Loc} {H:Hp} {s:Shared}
theorem s_iter (K:FmOk P F) (HM:HmOk hm F) (I:Inv P F l H s) {E:Value→Shared→Prop} {V:Value} {k:(Hp→Prop)→List Value→Prop} (h:iterH hm (er V) H k) :
    wpAny P.M F.A (pyIter V) (fun it s'=>∃ guard items J St,k guard items∧it = .ref J∧Inv P F l H s'∧Off F H J∧P.base.objs.size≤J∧St 0 s'.heap∧∀ A:Around,A.handled = F.A.handled→Turns P A J guard items St) E s:=by
  have of:=I.ofSize K
  have bz:=I.base_le K
  rcases h with ⟨hf,h⟩ | ⟨_,a,e,hx,h⟩
  rotate_left
  · have:=er_ref e;subst this
    obtain ⟨vs,hl,_⟩:=I.objs _ _ hx
    exact wpAny_pyIter_list hl ⟨_,_,_,_,h,rfl,I.push _,of,bz,⟨_,Heap.get?_push_size _ rfl,rfl,rfl⟩,fun A _=>turns_nil _ a⟩
  have hn:=HM.2 hf
  rw [hn]
  unfold iterV at h
  split at h
  · rename_i x _ e;obtain ⟨t,rfl⟩:=er_str e
    cases ha:x.cps.all (· < 128)
    · exact wpAny_pyIter_wide ha ⟨_,_,_,_,h,rfl,I.push _,of,bz,⟨_,Heap.get?_push_size _ rfl,rfl,rfl⟩,fun A hA=>turns_str (Walks.strWide hA _ x t) fun i h ⟨o,ho,_⟩=>⟨o,ho⟩⟩
    · exact wpAny_pyIter_ascii ha ⟨_,_,_,_,h,rfl,I.push _,of,bz,⟨_,Heap.get?_push_size _ rfl,rfl,rfl⟩,fun A hA=>turns_str (Walks.strAscii hA _ x t) fun i h ⟨o,ho,_⟩=>⟨o,ho⟩⟩
  · rename_i a e;have:=er_ref e;subst this
    split at h
    · rename_i xs hx
      obtain ⟨vs,hl,_⟩:=I.objs _ _ hx
      exact wpAny_pyIter_list hl ⟨_,_,_,_,h,rfl,I.push _,of,bz,⟨_,Heap.get?_push_size _ rfl,rfl,rfl⟩,fun A hA=>turns_list hA _ a xs⟩
    · rename_i xs hx
      obtain ⟨vs,hl,_⟩:=I.objs _ _ hx
      exact wpAny_pyIter_tuple hl ⟨_,_,_,_,h,rfl,I.push _,of,bz,⟨_,Heap.get?_push_size _ rfl,rfl,rfl⟩,fun A hA=>turns_tup hA _ a xs⟩
    · rename_i lo hi st hx
      obtain ⟨t,u,v,hr⟩:=I.objs _ _ hx
      refine wpAny_pyIter_range hr h.1 ⟨_,_,_,_,h.2,rfl,I.push _,of,bz, ?_,fun A hA=>turns_range hA _ lo hi st⟩
      have hz:((Builtin.Range.rangeSize lo hi st).toNat:Int) = Builtin.Range.rangeSize lo hi st:=(rangeSize_toNat lo hi st).symm
      show IsRangeIter _ _ (lo + ((0:Nat):Int) * st) (((Builtin.Range.rangeSize lo hi st).toNat:Int) - ((0:Nat):Int)) st
      rw [hz]
      have e1:lo + ((0:Nat):Int) * st = lo:=by simp
      have e2:Builtin.Range.rangeSize lo hi st - ((0:Nat):Int) = Builtin.Range.rangeSize lo hi st:=by simp
      rw [e1,e2]
      exact Heap.get?_push_size _ rfl
    · exact h.elim
  · exact h.elim
end
end Mine
end

section
open PySem PyProof.Rows PySem.Calls
open PySem.W (Looks looks_subIn looks_typeIn looks_mroIn)
namespace Mine
noncomputable def PostS (P:Pm) (F:Fm) (Q:QS):Flow→Shared→Prop:=fun f s'=>∃ l' H',Inv P F l' H' s'∧(match f with
  | .next=>Q .next l' H'
  | .cont=>Q .cont l' H'
  | .ret V=>Q (.ret (er V)) l' H'
  | .brk=>False)
noncomputable def PostSX (P:Pm) (F:Fm) (X:XS):Value→Shared→Prop:=fun EV s'=>∃ l' H' e C,EV = .ref e∧Inv P F l' H' s'∧Exc P F H' s' e C false∧X C l' H'
section
variable {P:Pm} {F:Fm} {G:Gx} {n:Nat} {hm:Bool} {l:Loc} {H:Hp} {s:Shared}
theorem left1 {n i:Nat} (h:i < n):n - (i + 1) + 1 < n - i + 1:=Nat.succ_lt_succ (Nat.sub_lt_sub_left h (Nat.lt_succ_self i))
theorem PostX.toS {X:XS} {V:Value} {s':Shared} (h:PostX P F l (fun C H'=>X C l H') V s'):PostSX P F X V s' :=
  let ⟨H',e,C,q,I,x,z⟩:=h;⟨l,H',e,C,q,I,x,z⟩
noncomputable def S1 (P:Pm) (G:Gx) (n:Nat) (hm:Bool) (sc:Scope) (st:Stmt) (st':Sm):Prop :=
  ∀ ⦃F:Fm⦄ ⦃l:Loc⦄,FmOk P F→ScOk sc F→Room n F.A→HmOk hm F→F.ro = false→∀ {H:Hp} {s:Shared} {Q:QS} {X:XS},Inv P F l H s→wpS G hm st' l H Q X→wpAny P.M F.A (exec st F.env) (PostS P F Q) (PostSX P F X) s
noncomputable def SS (P:Pm) (G:Gx) (n:Nat) (hm:Bool) (sc:Scope) (st:List Stmt) (st':List Sm):Prop :=
  ∀ ⦃F:Fm⦄ ⦃l:Loc⦄,FmOk P F→ScOk sc F→Room n F.A→HmOk hm F→F.ro = false→∀ {H:Hp} {s:Shared} {Q:QS} {X:XS},Inv P F l H s→wpSs G hm st' l H Q X→wpAny P.M F.A (execs st F.env) (PostS P F Q) (PostSX P F X) s
theorem ss_nil {sc:Scope}:SS P G n hm sc [] []:=by
  intro F l K S R HM ro H s Q X I q
  conv at q=>whnf
  exact wpAny_execs_nil ⟨l,H,I,q⟩
theorem ss_cons {sc:Scope} {st:Stmt} {st':Sm} {r:List Stmt} {r':List Sm} (h:S1 P G n hm sc st st') (hr:SS P G n hm sc r r'):SS P G n hm sc (st :: r) (st' :: r'):=by
  intro F l K S R HM ro H s Q X I q
  conv at q=>whnf
  refine wpAny_execs_cons (wpAny_mono (h K S R HM ro I q) (fun f s' z=>?_) fun _ _ z=>z)
  obtain ⟨l',H',I',z⟩:=z
  cases f with
  | next=>exact hr K S R HM ro I' z
  | brk=>exact z.elim
  | cont=>exact ⟨l',H',I',z⟩
  | ret v=>exact ⟨l',H',I',z⟩
noncomputable def notComp:Expr→Bool
  | .ListComp .. | .SetComp .. | .DictComp ..=>false
  | _=>true
theorem swaps_no {v:Expr} {t:Option Expr} {line:Nat} {env:Env} (h:notComp v = true):swapsWith v t line env = pure false:=by
  cases v <;> first | rfl | cases h
theorem s1_expr {sc:Scope} {e:Expr} {e':Ex} {pos:Pos} (hc:notComp e = true) (h:SE P G n hm sc e e'):S1 P G n hm sc (.Expr e pos) (.expr e'):=by
  intro F l K S R HM ro H s Q X I q
  conv at q=>whnf
  refine wpAny_Expr_any (wpAny_mono (h K S R HM I q) (fun V s' z=>?_) fun _ _ z=>PostX.toS z) ?_ (swaps_no hc)
  · obtain ⟨H',I',z⟩:=z
    exact ⟨l,H',I',z⟩
  · unfold interactive;rw [K.kind];rfl
theorem s1_cont {sc:Scope} {pos:Pos}:S1 P G n hm sc (.Continue pos) .cont:=by
  intro F l K S R HM ro H s Q X I q
  conv at q=>whnf
  rw [arm_exec_Continue]
  exact wpAny_bind (wpAny_standAt (wpAny_pure ⟨l,H,I,q⟩))
theorem s1_ret {sc:Scope} {e:Expr} {e':Ex} {pos:Pos} (h:SE P G n hm sc e e'):S1 P G n hm sc (.Return (some e) pos) (.ret e'):=by
  intro F l K S R HM ro H s Q X I q
  conv at q=>whnf
  rw [arm_exec_Return]
  refine wpAny_bind (wpAny_standAt ?_)
  show wpAny P.M F.A (do return Flow.ret (← eval e F.env)) _ _ s
  refine wpAny_bind (wpAny_mono (h K S R HM I q) (fun V s' z=>wpAny_pure ?_) fun _ _ z=>PostX.toS z)
  obtain ⟨H',I',z⟩:=z
  exact ⟨l,H',I',z⟩
noncomputable def isSt (sc:Scope) (x:Str):Bool:=match sc.names.lookup x with
  | some .local | some .cell=>true
  | _=>false
theorem st_of {sc:Scope} (S:ScOk sc F) {x:Str} (h:isSt sc x = true):F.env.kindOf x = some .local∨(F.env.kindOf x = some .cell∧∃ c,F.env.cells.lookup x = some c):=by
  unfold isSt at h
  split at h
  · rename_i e;exact .inl (S.locl x e)
  · rename_i e;exact .inr (S.cell x e)
  · cases h
theorem s1_asg {sc:Scope} {x:Str} {p pos:Pos} {e:Expr} {e':Ex} (hx:isSt sc x = true) (hc:notComp e = true) (h:SE P G n hm sc e e'):S1 P G n hm sc (.Assign [.Name x p] e pos) (.asg x e'):=by
  intro F l K S R HM ro H s Q X I q
  conv at q=>whnf
  refine wpAny_Assign_Name (wpAny_mono (h K S R HM I q) (fun V s' z=>?_) fun _ _ z=>PostX.toS z) (swaps_no hc)
  obtain ⟨H',I',z⟩:=z
  exact st_loc K I' ro (st_of S hx) fun s'' I''=>⟨_,_,I'',z⟩
theorem swaps_attr {v:Expr} {o:Expr} {a:Str} {p:Pos} {line:Nat} {env:Env}:swapsWith v (some (.Attribute o a p)) line env = pure false:=by
  cases v <;> rfl
theorem swaps_sub {v:Expr} {o i:Expr} {p:Pos} {line:Nat} {env:Env}:swapsWith v (some (.Subscript o i p)) line env = pure false:=by
  cases v <;> rfl
theorem s1_asgAttr (Y:PmOk P) (GO:GxOk P G) {sc:Scope} {o e:Expr} {a:Str} {p pos:Pos} {o' e':Ex} (ho:SE P G n hm sc o o') (h:SE P G n hm sc e e'):S1 P G n hm sc (.Assign [.Attribute o a p] e pos) (.asgAttr o' a e'):=by
  intro F l K S R HM ro H s Q X I q
  conv at q=>whnf
  refine plainObj_wpAny_Assign_Attribute (wpAny_mono (h K S R HM I q) (fun V s' z=>?_) fun _ _ z=>PostX.toS z) swaps_attr
  obtain ⟨H1,I1,z⟩:=z
  refine wpAny_mono (ho K S R HM I1 z) (fun V2 s2 z=>?_) fun _ _ z=>PostX.toS z
  obtain ⟨H2,I2,z⟩:=z
  refine wpAny_mono (s_setattr Y GO K I2 rfl rfl z) (fun _ s3 z=>?_) fun _ _ z=>z
  obtain ⟨H3,I3,z⟩:=z
  exact ⟨l,H3,I3,z⟩
theorem stored_er {K:Type} [DecidableEq K] (ks:List (K×Value)) (k:K) (v:Value):(stored ks k v).map (fun p=>(p.1,er p.2)) = stored (ks.map fun p=>(p.1,er p.2)) k (er v):=by
  unfold stored
  have e1:(ks.map fun p=>(p.1,er p.2)).any (fun kv=>decide (kv.1 = k)) = ks.any (fun kv=>decide (kv.1 = k)):=by rw [List.any_map];rfl
  rw [e1]
  split
  · rw [List.map_map,List.map_map]
    apply List.map_congr_left
    intro p _
    by_cases h:p.1 = k <;> simp [h]
  · simp
theorem s_setitem (Y:PmOk P) (I:Inv P F l H s) {E:Value→Shared→Prop} {O J V:Value} {k:Hp→Prop} (h:setItemV (er O) (er J) (er V) H k):wpAny P.M F.A (setItem O J V) (fun _ s'=>∃ H',Inv P F l H' s'∧k H') E s:=by
  unfold setItemV at h
  split at h
  · rename_i a i _ e1 e2;have:=er_ref e1;subst this;obtain ⟨t,rfl⟩:=er_int e2
    split at h
    · rename_i kvs hx
      obtain ⟨hz,q⟩:=h
      obtain ⟨ks,hd,e⟩:=I.objs _ _ hx
      refine wpAny_setItem_pairs (intKind_is _ _ _ _) hd (fun h' hd' sb=>⟨_,I.put (t:=s.toks + 1) (o':=.idict ((stored ks i V).map fun p=>(p.1,er p.2))) hx (fun b hb=>sb.2 b hb) ⟨_,hd',rfl⟩, ?_⟩) (by rw [← e] at hz;simpa using hz)
      rw [stored_er,e];exact q
    · exact h.elim
  · exact h.elim
theorem s1_asgIdx (Y:PmOk P) {sc:Scope} {o i e:Expr} {p pos:Pos} {o' i' e':Ex} (ho:SE P G n hm sc o o') (hi:SE P G n hm sc i i') (h:SE P G n hm sc e e'):S1 P G n hm sc (.Assign [.Subscript o i p] e pos) (.asgIdx o' i' e'):=by
  intro F l K S R HM ro H s Q X I q
  conv at q=>whnf
  refine wpAny_Assign_Subscript (wpAny_mono (h K S R HM I q) (fun V s' z=>?_) fun _ _ z=>PostX.toS z) swaps_sub
  obtain ⟨H1,I1,z⟩:=z
  refine wpAny_mono (ho K S R HM I1 z) (fun V2 s2 z=>?_) fun _ _ z=>PostX.toS z
  obtain ⟨H2,I2,z⟩:=z
  refine wpAny_mono (hi K S R HM I2 z) (fun V3 s3 z=>?_) fun _ _ z=>PostX.toS z
  obtain ⟨H3,I3,z⟩:=z
  refine wpAny_mono (s_setitem Y I3 z) (fun _ s4 z=>?_) fun _ _ z=>z
  obtain ⟨H4,I4,z⟩:=z
  exact ⟨l,H4,I4,z⟩
theorem s1_if {sc:Scope} {c:Expr} {c':Ex} {t f:List Stmt} {t' f':List Sm} {pos:Pos} (hc:ST P G n hm sc c c') (ht:SS P G n hm sc t t') (hf:SS P G n hm sc f f'):S1 P G n hm sc (.If c t f pos) (.ite c' t' f'):=by
  intro F l K S R HM ro H s Q X I q
  conv at q=>whnf
  refine wpAny_If (wpAny_mono (hc K S R HM (k:=fun b H1=>if b then wpSs G hm t' l H1 Q X else wpSs G hm f' l H1 Q X) I q) (fun b s' z=>?_) fun _ _ z=>PostX.toS z)
  obtain ⟨H',I',z⟩:=z
  cases b with
  | true=>exact ht K S R HM ro I' z
  | false=>exact hf K S R HM ro I' z
theorem s_noted (K:FmOk P F) (ro:F.ro = false) {X:XS} {EV:Value} (z:PostSX P F X EV s):notedBy P.M F.A F.env (fun e s'=>cameBackBy P.M F.A F.env (PostSX P F X) e s') EV s:=by
  obtain ⟨l',H',e,C,rfl,I,x,z⟩:=z
  exact s_note K I ro x fun s' I' x'=>s_cameBack I' x' fun s'' I'' x''=>⟨l',H',e,C,rfl,I'',x''.weak,z⟩
theorem s1_while {sc:Scope} {c:Expr} {c':Ex} {b:List Stmt} {b':List Sm} {pos:Pos} (hc:ST P G n hm sc c c') (hb:SS P G n hm sc b b'):S1 P G n hm sc (.While c b [] pos) (.while_ c' b'):=by
  intro F l K S R HM ro H s Q X I q
  conv at q=>whnf
  obtain ⟨m,q⟩:=q
  refine wpAny_While (codeAny_whileLoop (fun k s=>∃ l H,Inv P F l H s∧whileN (fun l' H' K=>wpE G hm c' l' H' (fun v H1=>truthV v fun b=>K b H1) (fun C H'=>X C l' H')) (fun l' H' K=>wpSs G hm b' l' H' K X) Q k l H) ?_ m ⟨l,H,I,q⟩)
  rintro k s ⟨l,H,I,q⟩
  cases k with
  | zero=>exact q.elim
  | succ k =>
    unfold whileN at q
    refine wpAny_mono (hc K S R HM I q) (fun b s' z=>?_) fun _ _ z=>s_noted K ro (PostX.toS z)
    obtain ⟨H',I',z⟩:=z
    cases b with
    | false =>
      simp only [Bool.false_eq_true,if_false] at z ⊢
      exact wpAny_execs_nil ⟨l,H',I',z⟩
    | true =>
      simp only [if_true] at z ⊢
      refine wpAny_mono (hb K S R HM ro I' z) (fun f s' z=>?_) fun _ _ z=>s_noted K ro z
      obtain ⟨l2,H2,I2,z⟩:=z
      cases f with
      | next=>exact ⟨k,Nat.lt_succ_self _,l2,H2,I2,z⟩
      | cont=>exact ⟨k,Nat.lt_succ_self _,l2,H2,I2,z⟩
      | brk=>exact z.elim
      | ret v=>exact ⟨l2,H2,I2,z⟩
noncomputable def notSet:Expr→Bool
  | .Set ..=>false
  | _=>true
theorem folded_no {e:Expr} {env:Env} {x:Value} (h:notSet e = true):foldedSetIterable e env x = pure x:=by
  cases e <;> first | rfl | cases h
theorem Inv.turn (K:FmOk P F) (I:Inv P F l H s) {J:Addr} (of:Off F H J) {h':Heap} {t:Nat} (k:∀ b o,b≠J→s.heap.get? b = some o→h'.get? b = some o):Inv P F l H { s with heap:=h',toks:=t } :=
  I.step fun b o e hn=>k b o (fun q=>hn (q ▸ of)) e
theorem s1_for {sc:Scope} {x:Str} {px pos:Pos} {it:Expr} {it':Ex} {b:List Stmt} {b':List Sm} (hx:isSt sc x = true) (hset:notSet it = true) (hi:SE P G n hm sc it it') (hb:SS P G n hm sc b b') :
    S1 P G n hm sc (.For (.Name x px) it b [] pos) (.for_ x it' b'):=by
  intro F l K S R HM ro H s Q X I q
  conv at q=>whnf
  refine wpAny_For (wpAny_mono (hi K S R HM I q) (fun V s1 q=>?_) fun _ _ z=>PostX.toS z) (fun _=>folded_no hset)
  obtain ⟨H1,I1,q⟩:=q
  refine wpAny_mono (s_iter K HM I1 q) (fun it s2 q=>?_) fun _ _ z=>z
  obtain ⟨guard,items,J,St,q,rfl,I2,of,bz,st,T⟩:=q
  have T:=T F.A rfl
  refine codeAny_forLoop (fun k s=>∃ i l H,Inv P F l H s∧Off F H J∧St i s.heap∧i≤items.length∧k = items.length - i + 1∧forG guard x (fun l' H' K=>wpSs G hm b' l' H' K X) (items.drop i) l H Q) ?_ (items.length + 1) ⟨0,l,H1,I2,of,st,Nat.zero_le _,rfl,q⟩
  rintro k s ⟨i,l,H,I,of,st,hle,hk,q⟩
  rcases Nat.lt_or_ge i items.length with hi | hi
  · obtain ⟨v,hv⟩:∃ v,items[i]? = some v:=⟨_,List.getElem?_eq_getElem hi⟩
    have hd:items.drop i = v :: items.drop (i + 1):=by
      rw [List.drop_eq_getElem_cons hi]
      have:=List.getElem?_eq_getElem hi
      rw [hv] at this;cases this;rfl
    rw [hd] at q
    unfold forG at q
    obtain ⟨g,q⟩:=q
    refine T.item i s _ _ H I.objs of.h g st v hv fun V h' tk hV st' k'=>?_
    have I':=I.turn (t:=tk) K of k'
    obtain ⟨o,ho⟩:=T.at_ _ _ st'
    dsimp only
    have KA:=K.also (o:=o) of
    have SA:ScOk sc (F.also J o):=⟨S.loc,S.glob,S.locl,S.cell⟩
    refine wpAny_assign_Name (st_loc KA (I'.also of ho) ro (st_of SA hx) fun s3 I3=>?_)
    rw [hV] at I3
    refine wpAny_mono (hb KA SA R (HM.also of.g) ro I3 q) (fun f s4 z=>?_) fun EV s4 z=>?_
    · obtain ⟨l4,H4,I4,z⟩:=z
      obtain ⟨I5,ho5,of5⟩:=I4.back K of
      have st5:St (i + 1) s4.heap:=T.frame _ _ _ st' fun o' e=>by rw [ho] at e;cases e;exact ho5
      have nx:forG guard x (fun l' H' K=>wpSs G hm b' l' H' K X) (items.drop (i + 1)) l4 H4 Q→∃ m,m < k∧∃ i l H,Inv P F l H s4∧Off F H J∧St i s4.heap∧i≤items.length∧m = items.length - i + 1∧forG guard x (fun l' H' K=>wpSs G hm b' l' H' K X) (items.drop i) l H Q :=
        fun q=>⟨items.length - (i + 1) + 1,by rw [hk];exact left1 hi,i + 1,l4,H4,I5,of5,st5,hi,rfl,q⟩
      cases f with
      | next=>exact nx z
      | cont=>exact nx z
      | brk=>exact z.elim
      | ret v=>exact ⟨l4,H4,I5,z⟩
    · obtain ⟨l',H',e,C,rfl,I4,x4,z⟩:=z
      exact s_noted K ro ⟨l',H',e,C,rfl,(I4.back K of).1,x4.back,z⟩
  · have:i = items.length:=Nat.le_antisymm hle hi
    subst this
    rw [List.drop_length] at q
    unfold forG at q
    refine T.done s _ _ H I.objs of.h q.1 st (HM.1.at_ I of.g) fun h' tk k'=>wpAny_execs_nil ⟨l,H,I.turn K of k',q.2⟩
end
end Mine
end

section
open PySem PyProof.Rows PySem.Calls
open PySem.W (Looks looks_subIn looks_typeIn looks_mroIn)
namespace Mine
section
variable {P:Pm} {F:Fm} {G:Gx} {n:Nat} {hm:Bool} {l:Loc} {H:Hp} {s:Shared}
theorem s1_raise (Y:PmOk P) (GO:GxOk P G) {sc:Scope} {x m:Str} {np cpos pos mp:Pos} {kk:Nat} (hl:isLoc sc x = some false):S1 P G n hm sc (.Raise (some (.Call (.Name x np) [.Constant (.str m) kk mp] [] cpos)) none pos) (.raise x):=by
  intro F l K S R HM ro H s Q X I q
  conv at q=>whnf
  obtain ⟨hmf,q⟩:=q
  split at q
  · rename_i C hC
    obtain ⟨he,q⟩:=q
    obtain ⟨V,hV,hg⟩:=GO.glob x _ hC
    have:=er_ref hV;subst this
    obtain ⟨bm,N,nm,qn,bs,hdct,sn,sub,ab,col,dd,k0,k1,k2,k3,k5,mN,c1,c2,c3,c4⟩:=GO.own C he
    have FB:=PySem.F.excBase_ValueError
    refine wpAny_Raise_call_subT (C:=C) (nm:=nm) (q:=qn) (N:=N) (bs:=bs) (bm:=bm) (hdct:=hdct) (sn:=sn) (sub:=sub) (ab:=ab) (col:=col) (dd:=dd) (k0:=k0) (k1:=k1) (k2:=k2) (k3:=k3) (k5:=k5)
      FB (mN:=mN) (c4.hasType FB.hasBase) (HM.2 hmf) (backTo_plain rfl) c3 (ld_glob Y K I hg (S.glob x hl) (isLoc_false hl) ⟨rfl, ?_⟩)
    refine evalArgs_any rfl (spliced_cons (wpAny_Constant_str (k:=kk) (pos:=mp) (spliced_nil ?_)))
    have k:∀ b o,P.base.get? b = some o→s.heap.get? b = some o:=fun b o e=>I.keep b o (K.base b o e)
    refine ⟨rfl,by simp [sizeLine],k _ _ c1,c2.keeps k,c4.keeps k,fun h' e M=>?_⟩
    obtain ⟨t,m1,m2,m3⟩:=M.there
    refine ⟨l,H,e,C,rfl,I.step (t:=s.toks + 1) fun b o hb _=>M.keeps b o hb,⟨trivial,I.off K M.new,none,⟨_,_,m1,rfl,rfl,⟨rfl,rfl⟩,rfl⟩,fun t q=>(nomatch q),fun q=>(nomatch q)⟩,q⟩
  · exact q.elim
theorem s_matches (Y:PmOk P) (GO:GxOk P G) (K:FmOk P F) (I:Inv P F l H s) {A:Around} {E:Value→Shared→Prop} {e C D:Addr} {b:Bool} (x:Exc P F H s e C b) (hc:G.isExc C = true) (hd:G.isExc D = true) {Q:Bool→Shared→Prop} (h:Q (G.sub C D) s) :
    wpAny P.M A (excMatches (.ref e) (.ref D)) Q E s:=by
  have X:=I.kin Y K
  obtain ⟨T,⟨oe,vs,h1,h2,h3,h5,h4⟩,_⟩:=x.at_
  have LT:Looks P.M s.heap (typeOf (.ref D)) (.type "type"):=looks_typeIn X (GO.exc D hd).ty
  have L1:Looks P.M s.heap (isInstance (.ref D) (.type "tuple")) false:=LT.andThen (Looks.of_pure (by rw [isSubtype_type];kernel_rfl))
  have L2:Looks P.M s.heap (isExcClass (.ref D)) true:=by
    have a:=(ask_own _ (GO.exc D hd)).is P.M _ X
    unfold isExcClass
    exact a.andThen (looks_mroIn X (GO.exc D hd).be)
  have L3:Looks P.M s.heap (typeOf (.ref e)) (.ref C):=by
    have II:PySem.W.InstAt s.heap e oe C none:=⟨h1,h2,by unfold PySem.W.notCls;rw [h3],by rw [h5.1];trivial⟩
    exact II.type
  have L4:=looks_subIn (M:=P.M) X (GO.sub C D hc hd)
  obtain ⟨hh,g,d,t,os⟩:=s
  unfold excMatches
  refine wpAny_bind (L1.at ?_)
  simp only [Bool.false_eq_true,if_false]
  refine wpAny_bind (wpAny_pure ?_)
  simp only [List.forIn_cons,List.forIn_nil,bind_assoc,pure_bind]
  refine wpAny_bind (L2.at ?_)
  simp only [Bool.not_true,Bool.false_eq_true,if_false]
  refine wpAny_bind (wpAny_pure (wpAny_bind (wpAny_pure (wpAny_bind (L3.at (wpAny_bind (L4.at ?_)))))))
  cases hb:G.sub C D with
  | true =>
    rw [hb] at h
    exact wpAny_bind (wpAny_pure (wpAny_bind (wpAny_pure (wpAny_pure h))))
  | false =>
    rw [hb] at h
    exact wpAny_bind (wpAny_pure (wpAny_bind (wpAny_pure (wpAny_pure h))))
theorem s_passOn (I:Inv P F l H s) {α:Type} {e C:Addr} (x:Exc P F H s e C true) {what:String} {Q:α→Shared→Prop} {E:Value→Shared→Prop} (h:∀ s',Inv P F l H s'→Exc P F H s' e C true→E (.ref e) s') :
    wpAny P.M F.A (PySem.passOn (α:=α) what (.ref e) F.env) Q E s:=by
  obtain ⟨T,ha,ht,hbt⟩:=x.at_
  obtain ⟨oe,vs,h1,h2,h3,h5,h4⟩:=ha
  unfold PySem.passOn
  cases T with
  | none=>simp at hbt
  | some t =>
    obtain ⟨a1,a2,r⟩:=h4
    refine wpAny_bind (wpAny_field h1 h3 a1 ?_)
    rw [if_neg (by simp)]
    exact wpAny_bind (s_flight I x fun s' I' x'=>wpAny_throw (h s' I' x'))
inductive SH (P:Pm) (G:Gx) (n:Nat) (sc:Scope):List ExceptHandler→List Hd→Prop where
  | nil:SH P G n sc [] []
  | plain {x:Str} {xp pos:Pos} {b₀:Stmt} {body:List Stmt} {body':List Sm} {r:List ExceptHandler} {r':List Hd}:isLoc sc x = some false→SS P G n true sc (b₀ :: body) body'→SH P G n sc r r' →
      SH P G n sc (.ExceptHandler (some (.Name x xp)) none (b₀ :: body) pos :: r) (.mk x none body' :: r')
  | as {x y:Str} {xp pos:Pos} {b₀:Stmt} {body:List Stmt} {body':List Sm} {r:List ExceptHandler} {r':List Hd}:isLoc sc x = some false→sc.names.lookup y = some .local→SS P G n true sc (b₀ :: body) body'→SH P G n sc r r' →
      SH P G n sc (.ExceptHandler (some (.Name x xp)) (some y) (b₀ :: body) pos :: r) (.mk x (some y) body' :: r')
theorem Exc.withA {A:Around} {e C:Addr} {b:Bool} (x:Exc P F H s e C b):Exc P { F with A:=A } H s e C b:=⟨x.big,⟨x.off.h,x.off.g,x.off.fr,x.off.l,x.off.c⟩,let ⟨T,h1,h2,h3⟩:=x.at_;⟨T,h1,fun t ht=>let z:=h2 t ht;⟨z.h,z.g,z.fr,z.l,z.c⟩,h3⟩⟩
theorem x_none (K:FmOk P F) (hh:F.A.handled = none):F.x = none:=by
  cases e:F.x with
  | none=>rfl
  | some a=>have:=(K.xg a e).2;rw [hh] at this;cases this
noncomputable def Fm.named (F:Fm) (e:Addr) (o:Obj):Fm:={ F.also e o with x:=some e }
theorem FmOk.named {o:Obj} {e:Addr} (K:FmOk P F) (x:Off F H e) (h:F.A.handled = some (.ref e)):FmOk P (F.named e o) :=
  have K':=K.also (o:=o) x
  ⟨K'.kind,K'.glob,K'.blt,K'.base,K'.above,K'.lg,K'.lf,K'.cl,K'.cg,K'.apart,K'.cn,K'.cf,K'.fg,K'.frames,fun a q=>by
    have q:some e = some a:=q
    cases q
    exact ⟨⟨o,if_pos rfl⟩,h⟩,K'.code⟩
theorem Inv.named {e C:Addr} {vs:Array Value} {sl:Array (Option Value)} (I:Inv P F l H s) (hx:F.x = none) (x:Off F H e) (h:s.heap.get? e = some { cls:=.ref C,dict:=none,data:=.fields vs,slots:=sl }):Inv P (F.named e { cls:=.ref C,dict:=none,data:=.fields vs,slots:=sl }) l (H.upd e (.exc C)) s:=by
  have I':=I.also x h
  refine ⟨I'.gens,I'.os,I'.keep,I'.frk,I'.loc,I'.cel,fun a o q=>?_,fun a o q=>?_,fun a o q=>?_⟩
  · by_cases z:a = e
    · subst z;rw [Hp.upd_same] at q;cases q;exact ⟨vs,sl,h⟩
    · rw [Hp.upd_ne _ _ z] at q;exact I'.objs a o q
  · by_cases z:a = e
    · subst z;rw [Hp.upd_same] at q;cases q;exact rfl
    · rw [Hp.upd_ne _ _ z] at q
      cases hr:o.isR with
      | false =>
        have f:=of_fre (I'.free a o q) hr
        exact fre_of hr f
      | true =>
        rcases r_fre (I.free a o q) hr with w | w
        · cases o <;> first | exact w | (cases hr;done) | skip
          have:=I.free a _ q
          rw [show Fre P F a (.exc _) = (F.x = some a) from rfl,hx] at this;cases this
        · rw [hx] at w;cases w
  · by_cases z:a = e
    · subst z;rw [Hp.upd_same] at q;cases q;exact trivial
    · rw [Hp.upd_ne _ _ z] at q;exact I'.big a o q
theorem Inv.unnamed {e:Addr} {o:Obj} (K:FmOk P F) (hx:F.x = none) {H0:Hp} (x:Off F H0 e) (I:Inv P (F.named e o) l H s):Inv P F l (H.del e) s:=by
  have sub:∀ a o',(H.del e) a = some o'→a≠e∧H a = some o':=fun a o' q=>by
    have q:(if a = e then none else H a) = some o':=q
    split at q
    · cases q
    · exact ⟨‹_›,q⟩
  refine ⟨I.gens,I.os,fun b o' q=>I.keep b o' ?_,I.frk,I.loc,I.cel,fun a o' q=>I.objs a o' (sub a o' q).2,fun a o' q=>?_,fun a o' q=>I.big a o' (sub a o' q).2⟩
  · show (if b = e then some o else F.g b) = some o'
    rw [if_neg (fun z=>by rw [z,x.g] at q;cases q)];exact q
  · obtain ⟨ne,q⟩:=sub a o' q
    cases hr:o'.isR with
    | true =>
      have f:=I.free a o' q
      cases o' <;> first | (cases hr;done) | skip
      · exact f
      have f:some e = some a:=f
      cases f;exact absurd rfl ne
    | false =>
      obtain ⟨h1,h2⟩:=of_fre (I.free a o' q) hr
      refine fre_of hr ⟨?_,h2⟩
      have h1:(if a = e then some o else F.g a) = none:=h1
      rw [if_neg ne] at h1;exact h1
theorem s_unbind (K:FmOk P F) (I:Inv P F l H s) (ro:F.ro = false) {y:Str} (hy:F.env.kindOf y = some .local) {pos:Pos} {E:Value→Shared→Prop} {Q:Unit→Shared→Prop} (h:∀ s',Inv P F (l.del y) H s'→Q () s') :
    wpAny P.M F.A (do bindName F.env y .none;unbindBehindTheSuite F.env y pos) Q E s:=by
  refine wpAny_bind (wpAny_bindName (st_loc K I ro (.inl hy) fun s1 I1=>?_))
  unfold unbindBehindTheSuite
  obtain ⟨m,hn,hm⟩:=I1.loc
  obtain ⟨V,hV,_⟩:=hm y .none (by simp [Loc.upd,er]) hy
  refine wpAny_onRaise (wpAny_unbindName_local hy hn hV (by rw [K.kind];rfl) fun h' u hn' sb=>h _ ?_)
  refine I1.stepL (t:=s1.toks) (fun b o e hb _=>sb.extBut b o hb e) hn' K (fun x v hx hk=>?_) fun x v hx hk=>?_
  · by_cases q:x = y
    · simp [Loc.del,q] at hx
    · simp [Loc.del,q] at hx
      simp only [if_neg q]
      exact hm x v (by simpa [Loc.upd,q] using hx) hk
  · by_cases q:x = y
    · simp [Loc.del,q] at hx
    · simpa [Loc.upd,Loc.del,q] using hx
theorem s_handle (Y:PmOk P) (GO:GxOk P G) {sc:Scope} {hs:List ExceptHandler} {hs':List Hd} (h:SH P G n sc hs hs') (K:FmOk P F) (S:ScOk sc F) (R:Room n F.A) (hh:F.A.handled = none) (ro:F.ro = false) {e C:Addr} (hc:G.isExc C = true) {Q:QS} {X:XS} :
    ∀ {l H s},Inv P F l H s→Exc P F H s e C true→wpH G hs' C l H Q X→wpAny P.M F.A (handleBy (.ref e) F.env hs) (PostS P F Q) (PostSX P F X) s:=by
  induction h with
  | nil =>
    intro l H s I x q
    simp only [wpH] at q
    exact wpAny_handleBy_nil (s_passOn I x fun s' I' x'=>⟨l,H,e,C,rfl,I',x'.weak,q⟩)
  | @plain y xp pos b₀ body body' r r' hy hb hr ih =>
    intro l H s I x q
    simp only [wpH] at q
    split at q
    · rename_i D hD
      obtain ⟨V,hV,hg⟩:=GO.glob y _ hD
      have:=er_ref hV;subst this
      have KM:FmOk P { F with A:=F.A.mark (some (.ref e)) }:=K.withA rfl (.inl (x_none K hh))
      refine wpAny_handleBy_cons (codeAny_handlers_test ?_) (by intro q;cases q)
      obtain ⟨hdD,q⟩:=q
      refine ld_glob (F:={ F with A:=F.A.mark (some (.ref e)) }) Y KM (I.withA _) hg (S.glob y hy) (isLoc_false hy) (s_matches Y GO K I x hc hdD ?_)
      cases hsub:G.sub C D with
      | false =>
        rw [hsub] at q
        exact ih I x q
      | true =>
        rw [hsub] at q
        simp only [if_true] at q ⊢
        refine codeAny_handlers_suite (s_flight (F:={ F with A:=F.A.mark (some (.ref e)) }) (I.withA _) x.withA fun s1 I1 x1=>?_)
        obtain ⟨T,⟨oe,vs,h1,h2,h3,h5,h4⟩,_⟩:=x1.at_
        have hd:HdK (Fm.also { F with A:=F.A.mark (some (.ref e)) } e oe):=.inr ⟨e,oe,vs,rfl,if_pos rfl,h3,h5.2⟩
        refine wpAny_mono (hb (KM.also x1.off) ⟨S.loc,S.glob,S.locl,S.cell⟩ R ⟨hd,fun z=>nomatch z⟩ ro (I1.also x1.off h1) q) (fun f s2 z=>?_) fun EV s2 z=>?_
        · obtain ⟨l2,H2,I2,z⟩:=z
          exact ⟨l2,H2,(I2.back KM x1.off).1.ofA,z⟩
        · obtain ⟨_,_,_,_,_,_,_,z⟩:=z
          exact z.elim
    · exact q.elim
  | @as x y xp pos b₀ body body' r r' hx hy hb hr ih =>
    intro l H s I ex q
    simp only [wpH] at q
    split at q
    · rename_i D hD
      obtain ⟨V,hV,hg⟩:=GO.glob x _ hD
      have:=er_ref hV;subst this
      have KM:FmOk P { F with A:=F.A.mark (some (.ref e)) }:=K.withA rfl (.inl (x_none K hh))
      refine wpAny_handleBy_cons (codeAny_handlers_test ?_) (by intro q;cases q)
      obtain ⟨hdD,q⟩:=q
      refine ld_glob (F:={ F with A:=F.A.mark (some (.ref e)) }) Y KM (I.withA _) hg (S.glob x hx) (isLoc_false hx) (s_matches Y GO K I ex hc hdD ?_)
      cases hsub:G.sub C D with
      | false =>
        rw [hsub] at q
        exact ih I ex q
      | true =>
        rw [hsub] at q
        simp only [if_true] at q ⊢
        refine codeAny_handlers_suite_as (s_flight (F:={ F with A:=F.A.mark (some (.ref e)) }) (I.withA _) ex.withA fun s1 I1 x1=>?_)
        obtain ⟨T,⟨⟨c,d,dt,sl⟩,vs,h1,h2,h3,h5,h4⟩,_⟩:=x1.at_
        have h2:c = .ref C:=h2
        have h3:dt = .fields vs:=h3
        have h6:d = none:=h5.1
        subst h2 h3 h6
        have hx0:=x_none K hh
        have hxn:(Fm.mk F.env (F.A.mark (some (.ref e))) F.g F.fr F.ro F.x).x = none:=hx0
        have KX:=KM.named (o:={ cls:=.ref C,dict:=none,data:=.fields vs,slots:=sl }) x1.off rfl
        have hd:HdK (Fm.named { F with A:=F.A.mark (some (.ref e)) } e { cls:=.ref C,dict:=none,data:=.fields vs,slots:=sl }):=.inr ⟨e,_,vs,rfl,if_pos rfl,rfl,h5.2⟩
        refine st_loc KX (I1.named hxn x1.off h1) ro (.inl (S.locl y hy)) fun s2 I2=>?_
        refine wpAny_mono (hb KX ⟨S.loc,S.glob,S.locl,S.cell⟩ R ⟨hd,fun z=>nomatch z⟩ ro I2 (q e x1.off.h)) (fun f s3 z=>?_) fun EV s3 z=>?_
        · obtain ⟨l3,H3,I3,z⟩:=z
          refine s_unbind K (I3.unnamed KM hxn x1.off).ofA ro (S.locl y hy) fun s4 I4=>⟨_,_,I4, ?_⟩
          cases f <;> exact z
        · obtain ⟨_,_,_,_,_,_,_,z⟩:=z
          exact z.elim
    · exact q.elim
theorem s1_try (Y:PmOk P) (GO:GxOk P G) {sc:Scope} {body:List Stmt} {body':List Sm} {h₀:ExceptHandler} {hs:List ExceptHandler} {hs':List Hd} {pos:Pos} (hb:SS P G n hm sc body body') (hh:SH P G n sc (h₀ :: hs) hs') :
    S1 P G n hm sc (.Try body (h₀ :: hs) [] [] pos) (.try_ body' hs'):=by
  intro F l K S R HM ro H s Q X I q
  conv at q=>whnf
  refine wpAny_Try_except (wpAny_mono (hb K S R HM ro I q) (fun f s1 z=>?_) fun EV s1 z=>?_)
  · obtain ⟨l1,H1,I1,z⟩:=z
    cases f with
    | next=>exact wpAny_execs_nil ⟨l1,H1,I1,z⟩
    | brk=>exact z.elim
    | cont=>exact ⟨l1,H1,I1,z⟩
    | ret v=>exact ⟨l1,H1,I1,z⟩
  · obtain ⟨l1,H1,e,C,rfl,I1,x1,hf,hc,z⟩:=z
    refine s_note K I1 ro x1 fun s2 I2 x2=>s_flight I2 x2 fun s3 I3 x3=>?_
    exact s_handle Y GO hh K S R (HM.2 hf) ro hc I3 x3 z
end
end Mine
end

section
open PySem PyProof.Rows PySem.Calls
namespace Mine
noncomputable def isCell (F:Fm) (b:Addr):Bool:=F.env.cells.any fun x=>x.2 == b
theorem isCell_mem {F:Fm} {x:Str} {c:Addr} (h:(x,c)∈F.env.cells):isCell F c = true:=by
  unfold isCell
  exact List.any_eq_true.mpr ⟨_,h,by simp⟩
theorem mem_isCell {F:Fm} {c:Addr} (h:isCell F c = true):∃ x,(x,c)∈F.env.cells:=by
  unfold isCell at h
  obtain ⟨⟨x,c'⟩,hm,e⟩:=List.any_eq_true.mp h
  have:c' = c:=by simpa using e
  subst this;exact ⟨x,hm⟩
noncomputable def Fm.call (F:Fm) (h:Heap) (env:Env):Fm where
  env:=env
  A:=F.A.deeper env
  g:=fun b=>if isCell F b then h.get? b else F.g b
  fr:=fun b=>if b = F.env.locals then (h.get? b).map (·.data) else F.fr b
  ro:=false
  x:=F.x
theorem HdK.call {P:Pm} {F:Fm} {l:Loc} {H:Hp} {s:Shared} (k:HdK F) (I:Inv P F l H s) (env:Env):HdK (F.call s.heap env) :=
  k.imp id fun ⟨e,o,vs,h1,h2,h3,h4⟩=>⟨e,o,vs,h1,(by
    show (if isCell F e then s.heap.get? e else F.g e) = some o
    split
    · exact I.keep e o h2
    · exact h2),h3,h4⟩
noncomputable def scFine (sc:Scope) (params:List Str):Bool :=
  sc.kind == .function && !sc.isCoroutine && !sc.isGenerator && (sc.names.map (·.1)).Nodup && sc.names.all (fun x=>x.2 != .free) && params.all (fun x=>sc.names.lookup x == some .local || sc.names.lookup x == some .cell) && params.Nodup
structure FnAt (P:Pm) (f:Addr) (params:List Str) (sc:Scope) (body:List Stmt):Prop where
  at_:∃ o fd,P.base.get? f = some o∧o.data = .func fd∧P.base.CodeRec fd.code fd.qualname∧fd.body = .stmts body∧fd.scope = sc∧fd.closure = []∧fd.globals = mainGlobals∧fd.builtins = builtinsNs∧(∀ c T,P.lam = some (c,T)→sc.names.lookup lamX = some .local→fd.code = .ref c) ∧
    ∀ vals,vals.length = params.length→bindArgs fd ⟨vals,[]⟩ = pure (params.zip vals)
  fine:scFine sc params = true
  keep:PySem.W.keepIn P.K (.ref f) = true
theorem cells_lookup_acc {x:Str}:∀ (names:List (Str×NameKind)) (k:Nat) (acc:List (Str×Addr)),(∃ c,acc.lookup x = some c)→∃ c,(cellsFrom k names acc).lookup x = some c
  | [],k,acc,h=>h
  | (y,kind) :: r,k,acc,h=>by
    unfold cellsFrom
    split
    · refine cells_lookup_acc r _ _ ?_
      rw [List.lookup_cons]
      split
      · exact ⟨_,rfl⟩
      · exact h
    · exact cells_lookup_acc r _ _ h
theorem cells_lookup {x:Str}:∀ (names:List (Str×NameKind)) (k:Nat) (acc:List (Str×Addr)),names.lookup x = some .cell→∃ c,(cellsFrom k names acc).lookup x = some c
  | [],k,acc,h=>by cases h
  | (y,kind) :: r,k,acc,h=>by
    rw [List.lookup_cons] at h
    unfold cellsFrom
    split at h
    · rename_i e
      cases h
      rw [if_pos (by decide)]
      refine cells_lookup_acc r _ _ ⟨k, ?_⟩
      rw [List.lookup_cons,e]
    · split
      · exact cells_lookup r _ _ h
      · exact cells_lookup r _ _ h
theorem cells_names:∀ (names:List (Str×NameKind)) (k:Nat) (acc:List (Str×Addr)),(names.map (·.1)).Nodup→(acc.map (·.1)).Nodup→(∀ x∈names.map (·.1),x ∉ acc.map (·.1))→((cellsFrom k names acc).map (·.1)).Nodup
  | [],k,acc,_,h,_=>h
  | (y,kind) :: r,k,acc,hn,h,hd=>by
    rw [List.map_cons,List.nodup_cons] at hn
    unfold cellsFrom
    split
    · refine cells_names r _ _ hn.2 ?_ ?_
      · rw [List.map_cons,List.nodup_cons]
        exact ⟨hd y (by simp),h⟩
      · intro x hx hm
        rw [List.map_cons,List.mem_cons] at hm
        rcases hm with rfl | hm
        · exact hn.1 hx
        · exact hd x (by rw [List.map_cons];exact .tail _ hx) hm
    · exact cells_names r _ _ hn.2 h fun x hx=>hd x (by rw [List.map_cons];exact .tail _ hx)
theorem lookup_of_mem {α:Type} {x:Str} {c:α}:∀ {l:List (Str×α)},(l.map (·.1)).Nodup→(x,c)∈l→l.lookup x = some c
  | (y,d) :: r,hn,hm=>by
    rw [List.map_cons,List.nodup_cons] at hn
    rw [List.lookup_cons]
    rcases List.mem_cons.mp hm with q | q
    · cases q;simp
    · have:(x == y) = false:=by
        apply beq_eq_false_iff_ne.mpr
        intro e
        exact hn.1 (List.mem_map.mpr ⟨(x,c),q,e⟩)
      rw [this]
      exact lookup_of_mem hn.2 q
theorem bindL_get {k:Str→Option NameKind} {x:Str} (hk:k x = some .local):∀ (ps:List Str) (vs:List Value) (m:Str→Option Value),ps.Nodup→∀ v,((ps.zip (vs.map er)).lookup x = some v→∃ V,bindL k (ps.zip vs) m x = some V∧er V = v)∧((ps.zip vs).lookup x = none→bindL k (ps.zip vs) m x = m x)
  | [],vs,m,_,v=>⟨fun h=>by simp at h,fun _=>rfl⟩
  | p :: ps,[],m,_,v=>⟨fun h=>by simp at h,fun _=>rfl⟩
  | p :: ps,V :: vs,m,hn,v=>by
    rw [List.nodup_cons] at hn
    obtain ⟨h1,h2⟩:=bindL_get hk ps vs (if k p = some .local then fun y=>if y = p then some V else m y else m) hn.2 v
    constructor
    · intro h
      rw [List.map_cons,List.zip_cons_cons,List.lookup_cons] at h
      show ∃ W,bindL k (ps.zip vs) (if k p = some .local then fun y=>if y = p then some V else m y else m) x = some W∧_
      split at h
      · rename_i e
        have:x = p:=by simpa using e
        subst this
        cases h
        have no:(ps.zip vs).lookup x = none:=by
          apply List.lookup_eq_none_iff.mpr
          intro q hq
          have:=(List.of_mem_zip hq).1
          refine bne_iff_ne.mpr ?_
          rintro rfl
          exact hn.1 this
        have:=(bindL_get hk ps vs (if k x = some .local then fun y=>if y = x then some V else m y else m) hn.2 (er V)).2 no
        rw [this,if_pos hk]
        exact ⟨V,by simp,rfl⟩
      · exact h1 h
    · intro h
      rw [List.zip_cons_cons,List.lookup_cons] at h
      show bindL k (ps.zip vs) (if k p = some .local then fun y=>if y = p then some V else m y else m) x = m x
      split at h
      · cases h
      · rename_i e
        rw [h2 h]
        have:x≠p:=by simpa using e
        split
        · simp [this]
        · rfl
theorem bindC_get {k:Str→Option NameKind} {x:Str} (hk:k x≠some .local):∀ (ps:List Str) (vs:List Value) (m:Str→Option Value),ps.Nodup→∀ v,((ps.zip (vs.map er)).lookup x = some v→∃ V,bindC k (ps.zip vs) m x = some V∧er V = v)∧((ps.zip vs).lookup x = none→bindC k (ps.zip vs) m x = m x)
  | [],vs,m,_,v=>⟨fun h=>by simp at h,fun _=>rfl⟩
  | p :: ps,[],m,_,v=>⟨fun h=>by simp at h,fun _=>rfl⟩
  | p :: ps,V :: vs,m,hn,v=>by
    rw [List.nodup_cons] at hn
    obtain ⟨h1,h2⟩:=bindC_get hk ps vs (if k p = some .local then m else fun y=>if y = p then some V else m y) hn.2 v
    constructor
    · intro h
      rw [List.map_cons,List.zip_cons_cons,List.lookup_cons] at h
      show ∃ W,bindC k (ps.zip vs) (if k p = some .local then m else fun y=>if y = p then some V else m y) x = some W∧_
      split at h
      · rename_i e
        have:x = p:=by simpa using e
        subst this
        cases h
        have no:(ps.zip vs).lookup x = none:=by
          apply List.lookup_eq_none_iff.mpr
          intro q hq
          have:=(List.of_mem_zip hq).1
          refine bne_iff_ne.mpr ?_
          rintro rfl
          exact hn.1 this
        have:=(bindC_get hk ps vs (if k x = some .local then m else fun y=>if y = x then some V else m y) hn.2 (er V)).2 no
        rw [this,if_neg hk]
        exact ⟨V,by simp,rfl⟩
      · exact h1 h
    · intro h
      rw [List.zip_cons_cons,List.lookup_cons] at h
      show bindC k (ps.zip vs) (if k p = some .local then m else fun y=>if y = p then some V else m y) x = m x
      split at h
      · cases h
      · rename_i e
        rw [h2 h]
        have:x≠p:=by simpa using e
        split
        · rfl
        · simp [this]
section
variable {P:Pm} {F:Fm} {G:Gx} {n:Nat} {hm:Bool} {l:Loc} {H:Hp} {s:Shared}
theorem call_xg (K:FmOk P F) (I:Inv P F l H s) (env:Env):∀ a,(F.call s.heap env).x = some a→(∃ O,(F.call s.heap env).g a = some O)∧F.A.handled = some (.ref a):=fun a e=>by
  obtain ⟨⟨O,h⟩,h2⟩:=K.xg a e
  refine ⟨⟨O, ?_⟩,h2⟩
  show (if isCell F a then s.heap.get? a else F.g a) = some O
  split
  · exact I.keep a O h
  · exact h
theorem call_frame (K:FmOk P F) (I:Inv P F l H s) {env:Env} (hk:env.scope.kind = .function) (hg:env.globals = mainGlobals) (hb:env.builtins = builtinsNs) (hL:env.locals = s.heap.objs.size) (hf:env.frame = some env.locals)
    (ab:∀ x c,(x,c)∈env.cells→env.locals < c) (ap:env.cells.Pairwise fun x y=>x.2≠y.2) (cn:∀ x c,(x,c)∈env.cells→env.cells.lookup x = some c) (hc:∀ c T,P.lam = some (c,T)→env.kindOf lamX = some .local→env.code = .ref c):FmOk P (F.call s.heap env):=by
  have nn:∀ b,s.heap.objs.size≤b→s.heap.get? b = none:=fun b hb=>Heap.get?_none_of_le hb
  have g0:∀ b,s.heap.objs.size≤b→(F.call s.heap env).g b = none:=fun b hb=>by
    show (if isCell F b then s.heap.get? b else F.g b) = none
    split
    · exact nn b hb
    · exact (I.off K (nn b hb)).g
  have f0:∀ b,s.heap.objs.size≤b→(F.call s.heap env).fr b = none:=fun b hb=>by
    show (if b = F.env.locals then (s.heap.get? b).map (·.data) else F.fr b) = none
    rw [if_neg (I.off K (nn b hb)).l]
    exact (I.off K (nn b hb)).fr
  refine ⟨hk,hg,hb,fun b o e=>?_, ?_, ?_, ?_,fun x c hm=>Nat.ne_of_gt (ab x c hm),fun _ x c hm=>⟨g0 c ?_,f0 c ?_⟩,ap,cn,fun x c hm=>f0 c ?_,fun b d e=>?_, ?_,call_xg K I env,hc⟩
  · show (if isCell F b then s.heap.get? b else F.g b) = some o
    split
    · exact I.keep b o (K.base b o e)
    · exact K.base b o e
  · show P.base.objs.size≤env.locals
    rw [hL];exact I.base_le K
  · exact g0 _ (by show s.heap.objs.size≤env.locals;rw [hL];exact Nat.le_refl _)
  · exact f0 _ (by show s.heap.objs.size≤env.locals;rw [hL];exact Nat.le_refl _)
  · have:=ab x c hm;rw [hL] at this;exact Nat.le_of_lt this
  · have:=ab x c hm;rw [hL] at this;exact Nat.le_of_lt this
  · have:=ab x c hm;rw [hL] at this;exact Nat.le_of_lt this
  · have e:(if b = F.env.locals then (s.heap.get? b).map (·.data) else F.fr b) = some d:=e
    show (if isCell F b then s.heap.get? b else F.g b) = none∧_
    by_cases q:b = F.env.locals
    · rw [if_pos q] at e
      subst q
      constructor
      · split
        · rename_i hc
          obtain ⟨x,hm⟩:=mem_isCell hc
          exact absurd rfl (K.cl x _ hm)
        · exact K.lg
      · obtain ⟨m,⟨o,es,ep,ho,hd,_⟩,_⟩:=I.loc
        rw [ho] at e
        cases e
        intro vs q
        have q:o.data = .fields vs:=q
        rw [hd] at q;cases q
    · rw [if_neg q] at e
      obtain ⟨h1,h2⟩:=K.fg b d e
      refine ⟨?_,h2⟩
      split
      · rename_i hc
        obtain ⟨x,hm⟩:=mem_isCell hc
        rw [K.cf x b hm] at e;cases e
      · exact h1
  · obtain ⟨fenv,outer,h1,h2,h3⟩:=K.frames
    refine ⟨env,fenv :: outer, ?_,fun _=>⟨rfl,hf⟩,fun e he=>?_⟩
    · show F.A.frames.map (env :: ·) = _
      rw [h1];rfl
    · rcases List.mem_cons.mp he with rfl | he
      · exact ⟨by rw [hk];decide,_,hf, .inl rfl⟩
      · obtain ⟨k1,b,k2,k3⟩:=h3 e he
        refine ⟨k1,b,k2, .inr ?_⟩
        show ((if b = F.env.locals then (s.heap.get? b).map (·.data) else F.fr b)).isSome = true
        obtain ⟨m,⟨o,es,ep,ho,hd,_⟩,_⟩:=I.loc
        rcases k3 with rfl | k3
        · rw [if_pos rfl,ho];rfl
        · split
          · rename_i q;rw [q,ho];rfl
          · exact k3
theorem Off.up (K:FmOk P F) {l0:Loc} {H0:Hp} (I:Inv P F l0 H0 s) {env:Env} {H':Hp} {a:Addr} (x:Off (F.call s.heap env) H' a):Off F H' a:=by
  have gx:(if isCell F a then s.heap.get? a else F.g a) = none:=x.g
  have fx:(if a = F.env.locals then (s.heap.get? a).map (·.data) else F.fr a) = none:=x.fr
  have c0:∀ y c,(y,c)∈F.env.cells→a≠c:=by
    rintro y c hm rfl
    rw [if_pos (isCell_mem hm)] at gx
    obtain ⟨vo,⟨o,ho,_⟩,_⟩:=I.cel y a (K.cn y a hm)
    rw [ho] at gx;cases gx
  have l0:a≠F.env.locals:=by
    rintro rfl
    obtain ⟨m,⟨o,es,ep,ho,hd,_⟩,_⟩:=I.loc
    rw [if_pos rfl,ho] at fx;cases fx
  refine ⟨x.h, ?_, ?_,l0,c0⟩
  · split at gx
    · rename_i hc
      obtain ⟨y,hm⟩:=mem_isCell hc
      exact absurd rfl (c0 y a hm)
    · exact gx
  · rw [if_neg l0] at fx;exact fx
theorem Exc.up (K:FmOk P F) {l0:Loc} {H0:Hp} (I:Inv P F l0 H0 s) {env:Env} {H':Hp} {s':Shared} {e C:Addr} {b:Bool} (x:Exc P (F.call s.heap env) H' s' e C b):Exc P F H' s' e C b :=
  ⟨x.big,x.off.up K I,let ⟨T,h1,h2,h3⟩:=x.at_;⟨T,h1,fun t ht=>(h2 t ht).up K I,h3⟩⟩
theorem Inv.up (K:FmOk P F) (I:Inv P F l H s) {env:Env} {l':Loc} {H':Hp} {s':Shared} (I':Inv P (F.call s.heap env) l' H' s'):Inv P F l H' s':=by
  have gc:∀ y c,(y,c)∈F.env.cells→s'.heap.get? c = s.heap.get? c:=fun y c hm=>by
    obtain ⟨vo,⟨o,ho,_⟩,_⟩:=I.cel y c (K.cn y c hm)
    rw [ho]
    refine I'.keep c o ?_
    show (if isCell F c then s.heap.get? c else F.g c) = some o
    rw [if_pos (isCell_mem hm)];exact ho
  refine ⟨I'.gens,I'.os,fun b o e=>I'.keep b o ?_,fun b d e=>I'.frk b d ?_, ?_,fun x c e=>?_,I'.objs,fun a o e=>?_,I'.big⟩
  · show (if isCell F b then s.heap.get? b else F.g b) = some o
    split
    · exact I.keep b o e
    · exact e
  · show (if b = F.env.locals then (s.heap.get? b).map (·.data) else F.fr b) = some d
    rw [if_neg (fun q=>by rw [q,K.lf] at e;cases e)];exact e
  · obtain ⟨m,⟨o,es,ep,ho,hd,r⟩,q⟩:=I.loc
    obtain ⟨o',ho',hd'⟩:=I'.frk F.env.locals o.data (by show (if F.env.locals = F.env.locals then (s.heap.get? F.env.locals).map (·.data) else F.fr F.env.locals) = _;rw [if_pos rfl,ho];rfl)
    exact ⟨m,⟨o',es,ep,ho',hd'.trans hd,r⟩,q⟩
  · obtain ⟨vo,⟨o,ho,r⟩,q⟩:=I.cel x c e
    exact ⟨vo,⟨o,(gc x c (mem_of_lookup e)).trans ho,r⟩,q⟩
  · cases hr:o.isR with
    | true=>exact fre_r (F:=F.call s.heap env) (F':=F) hr rfl (I'.free a o e)
    | false =>
    obtain ⟨h1,h2,h3,h4⟩:=of_fre (I'.free a o e) hr
    refine fre_of hr ?_
    have:=Off.up K I (env:=env) (H':=fun _=>none) (a:=a) ⟨rfl,h1,h2,h3,h4⟩
    exact ⟨this.g,this.fr,this.l,this.c⟩
theorem call_inv (K:FmOk P F) (I:Inv P F l H s) {env:Env} {ps:List Str} {vs:List Value} {s₁:Shared} (hL:env.locals = s.heap.objs.size) (nd:ps.Nodup)
    (x:InCallC s env.locals (bindL env.kindOf (ps.zip vs) fun _=>none) env.cells (bindC env.kindOf (ps.zip vs) fun _=>none) s₁):Inv P (F.call s.heap env) (fun y=>(ps.zip (vs.map er)).lookup y) H s₁:=by
  obtain ⟨⟨⟨h,tk,rfl⟩,ns,keep,fresh⟩,cell,apart,above⟩:=x
  have up:∀ a o,H a = some o→a < env.locals:=fun a o e=>by rw [hL];exact I.lt_of e
  refine ⟨I.gens,I.os,fun b o e=>?_,fun b d e=>?_,⟨_,ns,fun y v hy hk=>((bindL_get hk ps vs _ nd v).1 hy)⟩,fun y c e=>⟨_,cell y c e,fun v hy hk=>((bindC_get (fun q=>?_) ps vs _ nd v).1 hy)⟩,fun a o e=>?_,fun a o e=>?_,I.big⟩
  · have e:(if isCell F b then s.heap.get? b else F.g b) = some o:=e
    split at e
    · exact keep b o e
    · exact keep b o (I.keep b o e)
  · have e:(if b = F.env.locals then (s.heap.get? b).map (·.data) else F.fr b) = some d:=e
    split at e
    · obtain ⟨o,ho,hd⟩:=Option.map_eq_some_iff.mp e
      exact ⟨o,keep b o ho,hd⟩
    · obtain ⟨o,ho,hd⟩:=I.frk b d e
      exact ⟨o,keep b o ho,hd⟩
  · have hk:env.kindOf y = some .cell∨env.kindOf y = some .free:=hk
    rw [q] at hk;simp at hk
  · obtain ⟨O,ho⟩:=(I.objs a o e).some
    exact (I.objs a o e).congr ((keep a O ho).trans ho.symm)
  · cases hr:o.isR with
    | true=>exact fre_r (F:=F) (F':=F.call s.heap env) hr rfl (I.free a o e)
    | false =>
    obtain ⟨h1,h2,h3,h4⟩:=of_fre (I.free a o e) hr
    refine fre_of hr ⟨?_, ?_,Nat.ne_of_lt (up a o e),fun y c hm=>Nat.ne_of_lt (Nat.lt_trans (up a o e) (above y c hm))⟩
    · show (if isCell F a then s.heap.get? a else F.g a) = none
      rw [if_neg (fun q=>by obtain ⟨y,hm⟩:=mem_isCell q;exact h4 y a hm rfl)];exact h1
    · show (if a = F.env.locals then (s.heap.get? a).map (·.data) else F.fr a) = none
      rw [if_neg h3];exact h2
theorem call_def (Y:PmOk P) {f:Addr} {ps:List Str} {sc:Scope} {body:List Stmt} {body':List Sm} (D:FnAt P f ps sc body) (hb:SS P G n hm sc body body') {args:List Value} {Q:QV} {X:XV} (q:wpF G hm ps body' args H Q X)
    (K:FmOk P F) (R:RoomC (n + 1) F.A) (HM:HmOk hm F) (I:Inv P F l H s) {vals:List Value} (hv:vals.map er = args):codeAny P.M F.A (.call (.ref f) ⟨vals,[]⟩) (PostC P F l Q X) s:=by
  subst hv
  obtain ⟨hlen,q⟩:=q
  obtain ⟨o,fd,d1,d2,d3,d4,d5,d6,d7,d8,dl,d9⟩:=D.at_
  have fine:=D.fine
  unfold scFine at fine
  simp only [Bool.and_eq_true,beq_iff_eq,Bool.not_eq_true',decide_eq_true_eq,List.all_eq_true,Bool.or_eq_true,bne_iff_ne,ne_eq] at fine
  obtain ⟨⟨⟨⟨⟨⟨f1,f2⟩,f3⟩,f4⟩,f5⟩,f6⟩,f7⟩:=fine
  have k:∀ b o,P.base.get? b = some o→s.heap.get? b = some o:=fun b o e=>I.keep b o (K.base b o e)
  have kd:∀ x,(callEnvC fd s.heap.objs.size f).kindOf x = sc.names.lookup x:=fun x=>by show fd.scope.names.lookup x = _;rw [d5]
  have cl:∀ x,sc.names.lookup x = some .cell→∃ c,(callEnvC fd s.heap.objs.size f).cells.lookup x = some c:=fun x hx=>by
    show ∃ c,(cellsFrom _ fd.scope.names []).lookup x = some c
    rw [d5];exact cells_lookup _ _ _ hx
  have nf:∀ x,sc.names.lookup x≠some .free:=fun x hx=>f5 _ (mem_of_lookup hx) rfl
  refine codeAny_call_cells (binds:=ps.zip vals) R.deep (k _ _ d1) d2 (Y.lim.keeps k) (d3.keeps k) d4 (d9 vals (by simpa using hlen.symm)) d6 (fun x hx=>?_) (fun s₁ x=>?_) (by rw [d5];exact f2) (by rw [d5];exact f3) (by rw [d5];exact f1)
  · have:=f6 x.1 (List.of_mem_zip (a:=x.1) (b:=x.2) hx).1
    rw [d5]
    rcases this with h | h
    · exact .inl h
    · obtain ⟨c,hc⟩:=cells_lookup (x:=x.1) sc.names (s.heap.objs.size + 1) [] h
      exact .inr ⟨h,by rw [hc];rfl⟩
  · have K':FmOk P (F.call s.heap (callEnvC fd s.heap.objs.size f)):=call_frame K I (by show fd.scope.kind = _;rw [d5];exact f1) d7 d8 rfl rfl x.above x.apart (fun y c hm=>lookup_of_mem (cells_names _ _ _ (by rw [d5];exact f4) .nil (by simp)) hm) fun c T hl hk=>dl c T hl ((kd lamX).symm.trans hk)
    have I':=call_inv K I (env:=callEnvC fd s.heap.objs.size f) rfl f7 x
    have S':ScOk sc (F.call s.heap (callEnvC fd s.heap.objs.size f)):=by
      refine ⟨fun y hy=>?_,fun y hy=>?_,fun y hy=>(kd y).trans hy,fun y hy=>⟨(kd y).trans hy,cl y hy⟩⟩
      · unfold isLoc at hy
        split at hy
        · rename_i e;exact .inl ((kd y).trans e)
        · rename_i e;exact .inr ⟨.inl ((kd y).trans e),cl y e⟩
        · rename_i e;exact absurd e (nf y)
        · split at hy <;> cases hy
        · cases hy
      · unfold isLoc at hy
        split at hy
        · split at hy <;> cases hy
        · split at hy <;> cases hy
        · split at hy <;> cases hy
        · rename_i e;exact (kd y).trans e
        · cases hy
    refine wpAny_mono (hb K' S' ⟨?_, ?_⟩ ⟨HM.1.call I _,HM.2⟩ rfl I' q) (fun fl s' z=>?_) fun EV s' z=>?_
    · show F.A.depth + 1 + 2 * n + 2 < _
      exact R.in1
    · show F.A.units + 3 + 30 * n + 200 < _
      exact R.in2
    · obtain ⟨l2,H2,I2,z⟩:=z
      have I3:=Inv.up K I I2
      cases fl with
      | next=>exact ⟨H2,I3,z⟩
      | brk=>exact z.elim
      | cont=>exact z.elim
      | ret v=>exact ⟨H2,I3,z⟩
    · obtain ⟨l2,H2,e,C,rfl,I2,x2,z⟩:=z
      exact s_leaving K' I2 rfl x2 fun s3 I3 x3=>⟨H2,e,C,rfl,Inv.up K I I3,(Exc.up K I x3).weak,z⟩
end
end Mine
end

section
open PySem PyProof.Rows PySem.Calls
namespace Mine
section
variable {P:Pm} {F:Fm} {G:Gx} {n:Nat} {hm:Bool} {l:Loc} {H:Hp} {s:Shared} {E:Value→Shared→Prop} {Q:QV}
theorem Inv.kept (I:Inv P F l H s) {h':Heap} {t:Nat} (k:∀ b o,s.heap.get? b = some o→h'.get? b = some o):Inv P F l H { s with heap:=h',toks:=t }:=I.step fun b o e _=>k b o e
theorem s_list_new (K:FmOk P F) (I:Inv P F l H s) {h':Heap} {t:Nat} {vs:Array Value} {D:Addr} (hD:s.heap.get? D = none) (hz:P.base.objs.size≤D) (k:∀ b o,s.heap.get? b = some o→h'.get? b = some o) (e:IsL h' D vs) (hs:vs.size≤2 ^ 25) (q:newV (.list (vs.toList.map er)) H Q) :
    PostE P F l Q (.ref D) { s with heap:=h',toks:=t } :=
  ⟨_,I.more K hD (bigs_of hz) k (mt_list e hs),q D (I.off K hD).h⟩
theorem absK {x:Int} (h:-1000 < x) (h2:x < 1000):x.natAbs < 1073741824:=by
  cases x with
  | ofNat n=>exact Nat.lt_trans (Int.ofNat_lt.1 h2) (by decide)
  | negSucc n=>exact Nat.lt_trans (Int.ofNat_lt.1 (Int.lt_of_neg_lt_neg h)) (by decide)
theorem szl {n:Nat} (h:n≤sizeLine):n≤2 ^ 25:=Nat.le_trans h (by decide)
theorem s_copy (K:FmOk P F) (I:Inv P F l H s) {T:String} {a:Addr} {vs:Array Value} (hT:T = "list"∨T = "tuple") {o:Obj} {n:Nat} (ho:s.heap.get? a = some o) (hc:o.cls = .type T) (hd:o.data = .seq vs n) (hz:vs.size≤sizeLine) (q:newV (.list (vs.toList.map er)) H Q) :
    wpAny P.M F.A (call (.type "list") [.ref a]) (PostE P F l Q) E s :=
  call_list_seq (hsz:=hz) a hT ho hc hd fun h' c' hk hD=>s_list_new K I (t:=s.toks) (Heap.get?_none_of_le (Nat.le_refl _)) (I.base_le K) hk ⟨c',hD⟩ (szl hz) q
theorem s_range (K:FmOk P F) (I:Inv P F l H s) {Vs:List Value} (h:rangeV (Vs.map er) H Q):wpAny P.M F.A (call (.type "range") Vs) (PostE P F l Q) E s:=by
  unfold rangeV at h
  split at h
  · rename_i hi _ e
    obtain ⟨t,rfl⟩:∃ t,Vs = [.int hi t]:=by
      cases Vs with
      | nil=>cases e
      | cons W r=>cases r with
        | nil=>simp at e;obtain ⟨t,rfl⟩:=er_int e;exact ⟨t,rfl⟩
        | cons _ _=>simp at e
    exact call_range_1 ⟨_,I.alloc K (o:=.range 0 hi 1) (t:=s.toks + 1 + 1) ⟨_,_,_,IsRange.new ..⟩,h.2.2 _ I.fresh⟩
  · rename_i lo _ hi _ e
    obtain ⟨t,u,rfl⟩:∃ t u,Vs = [.int lo t, .int hi u]:=by
      cases Vs with
      | nil=>cases e
      | cons W r=>cases r with
        | nil=>simp at e
        | cons W2 r=>cases r with
          | nil=>simp at e;obtain ⟨t,rfl⟩:=er_int e.1;obtain ⟨u,rfl⟩:=er_int e.2;exact ⟨t,u,rfl⟩
          | cons _ _=>simp at e
    exact call_range_2 ⟨_,I.alloc K (o:=.range lo hi 1) (t:=s.toks + 1) ⟨_,_,_,IsRange.new ..⟩,h.2.2.2.2 _ I.fresh⟩
  · rename_i lo _ hi _ st _ e
    obtain ⟨t,u,v,rfl⟩:∃ t u v,Vs = [.int lo t, .int hi u, .int st v]:=by
      cases Vs with
      | nil=>cases e
      | cons W r=>cases r with
        | nil=>simp at e
        | cons W2 r=>cases r with
          | nil=>simp at e
          | cons W3 r=>cases r with
            | nil=>simp at e;obtain ⟨t,rfl⟩:=er_int e.1;obtain ⟨u,rfl⟩:=er_int e.2.1;obtain ⟨v,rfl⟩:=er_int e.2.2;exact ⟨t,u,v,rfl⟩
            | cons _ _=>simp at e
    obtain ⟨h0,h1,h2,h3,h4,h5,h6,q⟩:=h
    exact call_range_3 h0 ⟨_,I.alloc K (o:=.range lo hi st) (t:=s.toks) ⟨_,_,_,IsRange.new ..⟩,q _ I.fresh⟩ (.inl (PyProof.noPylong_small (absK ‹_› ‹_›)))
  · exact h.elim
theorem bools_of:∀ {vs:List Value} {bs:List Bool},vs.map er = bs.map Value.bool→vs = bs.map Value.bool
  | [],[],_=>rfl
  | [],_ :: _,e=>by simp at e
  | _ :: _,[],e=>by simp at e
  | v :: vs,b :: bs,e=>by
    simp at e
    have h1:=er_bool e.1
    have h2:=bools_of (vs:=vs) (bs:=bs) (by simpa using e.2)
    rw [List.map_cons,h1,h2]
theorem walks_nil {prog:Program} {w:World} {A:Around} {J a e:Addr} (he:A.handled = some (.ref e)) (h1:e≠J):Walks prog w A J [J,a,e] [J] 0 (fun _ _=>False) (fun i h=>h.IsListIter J a i∧h.IsList a #[]∧∃ o vs,h.get? e = some o∧o.data = .fields vs∧vs[2]? = some Value.none) where
  sub:=fun b hb=>by simp at hb;simp [hb]
  frame:=fun _ _ _ st hk=>⟨st.1.at fun o e=>hk J (by simp) o e,st.2.1.at fun o e=>hk a (by simp) o e,let ⟨o,vs,e1,e2,e3⟩:=st.2.2;⟨o,vs,hk e (by simp) o e1,e2,e3⟩⟩
  item:=fun i s Q E hi st hQ=>absurd hi (Nat.not_lt_zero _)
  done:=fun s Q E st hQ=>by
    obtain ⟨s1,s2,o,vs,e1,e2,e3⟩:=st
    exact next_list_end (.inr ⟨e,o,vs,he,e1,e2,e3⟩) (fun e' q=>by rw [he] at q;cases q;exact h1) s1 s2 rfl fun h' x=>hQ h' s.toks fun b o hb q=>x b o (fun z=>hb (by simp [z])) q
  self:=fun _ _ _ _ st hQ=>wpAny_pyIter_listiter st.1 hQ
theorem s_all (K:FmOk P F) (I:Inv P F l H s) (hh:F.A.handled = none) {a:Addr} {xs:List Value} (hx:H a = some (.list xs)) {bs:List Bool} (hb:xs = bs.map Value.bool) (q:Q (.bool (bs.all id)) H) :
    wpAny P.M F.A (call (.builtin "all") [.ref a]) (PostE P F l Q) E s:=by
  obtain ⟨vs,hl,e,_⟩:=I.objs _ _ hx
  subst hb
  have ev:=bools_of e
  refine call_all_walk (wpAny_pyIter_list hl ⟨s.heap.objs.size,_,_,_,_,_,fun i=>bs.getD i true,rfl,Walks.list (A:=F.A.in1) hh _ a (Nat.ne_of_lt (I.lt_of hx)) vs,⟨⟨_,Heap.get?_push_size _ rfl,rfl,rfl⟩,hl.at fun o e=>Heap.get?_push_of_some _ e⟩, ?_,fun h' tk k=>?_⟩)
  · intro i v s' Q' E' hP hQ
    have:vs.toList[i]? = some v:=by simpa using hP
    rw [ev,List.getElem?_map] at this
    obtain ⟨b,hb,rfl⟩:=Option.map_eq_some_iff.mp this
    have:bs.getD i true = b:=by simp [List.getD,hb]
    have hQ:Q' (bs.getD i true) s':=hQ
    rw [this] at hQ
    exact wpAny_truthy_bool hQ
  · refine ⟨H,(I.push _).turn (J:=s.heap.objs.size) K (I.ofSize K) fun b o hb e=>k b o (by simpa using hb) e, ?_⟩
    have hz:vs.size = bs.length:=by have:=congrArg List.length ev;simpa using this
    have:(List.range vs.size).all (fun i=>bs.getD i true) = bs.all id:=by
      rw [hz]
      apply Bool.eq_iff_iff.mpr
      simp only [List.all_eq_true,List.mem_range,id]
      constructor
      · intro h b hb
        obtain ⟨i,hi,rfl⟩:=List.getElem_of_mem hb
        have:=h i hi
        simpa [List.getD,hi] using this
      · intro h i hi
        simp only [List.getD,List.getElem?_eq_getElem hi,Option.getD_some]
        exact h _ (List.getElem_mem hi)
    rw [this];exact q
theorem s_all_nil (K:FmOk P F) (hd:HdK F) (I:Inv P F l H s) {a:Addr} (hx:H a = some (.list [])) (q:Q (.bool true) H) :
    wpAny P.M F.A (call (.builtin "all") [.ref a]) (PostE P F l Q) E s:=by
  obtain ⟨vs,hl,e,_⟩:=I.objs _ _ hx
  have e:vs.toList = []:=List.map_eq_nil_iff.1 e
  have e:vs = #[]:=Array.toList_eq_nil_iff.1 e
  subst e
  have of:=I.ofSize K
  have nJ:a≠s.heap.objs.size:=Nat.ne_of_lt (I.lt_of hx)
  rcases hd with hh | ⟨ee,oe,ve,h1,h2,h3,h4⟩
  · exact s_all K I hh hx (bs:=[]) rfl q
  · have he:=I.keep ee oe h2
    refine call_all_walk (wpAny_pyIter_list hl ⟨s.heap.objs.size,_,_,_,_,_,fun i=>true,rfl,walks_nil (A:=F.A.in1) (a:=a) (e:=ee) h1 (Nat.ne_of_lt (Heap.lt_size he)),⟨⟨_,Heap.get?_push_size _ rfl,rfl,rfl⟩,hl.at fun o e=>Heap.get?_push_of_some _ e,oe,ve,Heap.get?_push_of_some _ he,h3,h4⟩,fun i v s' Q' E' hP hQ=>hP.elim,fun h' tk k=>?_⟩)
    exact ⟨H,(I.push _).turn (J:=s.heap.objs.size) K of fun b o hb e=>k b o (by simpa using hb) e,q⟩
theorem s_max2 (I:Inv P F l H s) (hh:F.A.handled = none) {a b:Int} {t u:Tok} (q:Q (.int (max a b) 0) H):wpAny P.M F.A (call (.builtin "max") [.int a t, .int b u]) (PostE P F l Q) E s:=by
  refine max_two_ints hh fun h' tk k=>⟨H,I.kept k, ?_⟩
  by_cases hc:b > a
  · rw [if_pos hc];have:max a b = b:=Int.max_eq_right (Int.le_of_lt hc)
    rw [this] at q;exact q
  · rw [if_neg hc];have:max a b = a:=Int.max_eq_left (Int.not_lt.1 hc)
    rw [this] at q;exact q
theorem s_max1 (K:FmOk P F) (I:Inv P F l H s) (hh:F.A.handled = none) {a:Addr} {xs:List Value} (hx:H a = some (.list xs)) {ns:List Int} (hn:xs = ns.map fun n=>Value.int n 0) (h0:0 < ns.length) (q:∀ m∈ns,(∀ k∈ns,k≤m)→Q (.int m 0) H) :
    wpAny P.M F.A (call (.builtin "max") [.ref a]) (PostE P F l Q) E s:=by
  obtain ⟨m,Fr,hmm⟩:=I.fr K
  obtain ⟨vs,hl,e,_⟩:=I.objs _ _ hx
  refine max_list_N hh Fr (news_all _ _ _) (vs:=vs.toList) (by simpa using hl) (ints_of (e.trans hn)) h0 fun h' M t tk F' N' hM hle=>?_
  exact ⟨H,I.after K (t:=tk) hmm F' N' fun _ hp=>hp,q M hM hle⟩
theorem seq_ints:∀ {vs:List Value} {ns:List Int},IntsAre vs ns→vs.map er = ns.map fun n=>Value.int n 0
  | _,_, .nil=>rfl
  | _,_, .cons i t r=>by
    rw [List.map_cons,List.map_cons,seq_ints r];rfl
theorem dictAt_of {K:Type} [DecidableEq K] {knd:PySem.KeyKind P.prog P.w K} {h:Heap} {a:Addr} {kvs:List (K×Value)} (x:h.DictOf knd a kvs):∃ ep,h.DictAt knd a kvs ep:=by
  obtain ⟨o,es,ep,r⟩:=x
  exact ⟨ep,o,es,r⟩
theorem isInt_val {k:Int} {v:Value} (h:Value.isInt k v = true):∃ t,v = .int k t:=by
  unfold Value.isInt at h
  split at h
  · rename_i i t
    have:i = k:=by simpa using h
    exact ⟨t,by rw [this]⟩
  · cases h
theorem ints_by {vs:List Value} {kvs:List (Int×Value)} (hl:vs.length = kvs.length) (hp:∀ (j:Nat) (v:Value),vs[j]? = some v→∃ k x,kvs[j]? = some (k,x)∧(intKind P.prog P.w).is k v = true):IntsAre vs (kvs.map (·.1)):=by
  apply ints_of
  apply List.ext_getElem?
  intro j
  rw [List.getElem?_map,List.getElem?_map,List.getElem?_map]
  rcases Nat.lt_or_ge j vs.length with h | h
  · obtain ⟨k,x,e1,e2⟩:=hp j vs[j] (List.getElem?_eq_getElem h)
    rw [List.getElem?_eq_getElem h,e1]
    obtain ⟨t,ht⟩:=isInt_val (show Value.isInt k vs[j] = true from e2)
    rw [ht];rfl
  · rw [List.getElem?_eq_none h,List.getElem?_eq_none (Nat.le_trans (Nat.le_of_eq hl.symm) h)];rfl
theorem seq_strs {vs:List Value} {ss:List Str} (h:StrsAre vs ss):vs.map er = ss.map fun x=>Value.str x 0:=by
  induction h with
  | nil=>rfl
  | cons x t r ih=>rw [List.map_cons,List.map_cons,ih];rfl
theorem s_sortD (K:FmOk P F) (I:Inv P F l H s) (hh:F.A.handled = none) {κ:Type} [DecidableEq κ] {knd:PySem.KeyKind P.prog P.w κ} {a:Addr} {ks:List (κ×Value)} (nm:(a == sysModules) = false) (hd:s.heap.DictOf knd a ks) (hlen:ks.length≤sizeLine) {R:List Value→Prop}
    (run:∀ (vs:List Value) (D:Addr) (s':Shared) (E':Value→Shared→Prop) (Z:Fin→Shared→Prop),vs.length = ks.length→(∀ (j:Nat) (v:Value),vs[j]? = some v→∃ k x,ks[j]? = some (k,x)∧knd.is k v = true)→s'.heap.get? D = some (seqObj "list" vs.toArray 0) →
      (∀ out:Array Value,out.size = ks.length→R (out.toList.map er)→Z (.done (.ret .none)) { s' with heap:=sortedHeap s'.heap D vs out })→wpAny P.M F.A.in1.in1 (Builtin.«list.sort» ⟨[.ref D],[]⟩) Z E' s')
    (q:∀ zs,R zs→newV (.list zs) H Q):wpAny P.M F.A (call (.builtin "sorted") [.ref a]) (PostE P F l Q) E s:=by
  obtain ⟨m,Fr,hmm⟩:=I.fr K
  obtain ⟨ep,hd⟩:=dictAt_of hd
  refine PySem.W.kdu_sorted (PySem.W.kdl_dict nm) hh Fr (news_all _ _ _) hd hlen fun D h' tk vs F' N' lt hl hp=>?_
  have oD:h'.get? D = some (seqObj "list" vs.toArray 0):=(N' _ (.head _)).1
  refine wpAny_call_entry slot_list_sort ⟨_,oD,rfl⟩ entry_list_sort (run vs D _ _ _ hl hp oD fun out hz r=>⟨_,rfl, ?_⟩) (args_list_sort _)
  have I':=I.after K (t:=tk) hmm F' N' fun _ hp=>.tail _ hp
  have nn:s.heap.get? D = none:=by
    cases q:s.heap.get? D with
    | none=>rfl
    | some o=>exact absurd (lt _ (mem_allNews q (N' _ (.head _)).2.1 (N' _ (.head _)).2.2)) (Nat.lt_irrefl _)
  have of:=I.off K nn
  obtain ⟨ep2,hat⟩:=sortedHeap_at (out:=out) oD
  refine ⟨_,(I'.turn (t:=tk) (h':=sortedHeap h' D vs out) K of fun b o hb e=>by rw [sortedHeap_old hb (Heap.lt_size e)];exact e).track (o:=.list (out.toList.map er)) of trivial ?_,q _ r _ of.h⟩
  exact mt_list (vs:=out) ⟨ep2,hat⟩ (Nat.le_trans (Nat.le_of_eq hz) (szl hlen))
theorem s_sorted (Y:PmOk P) (K:FmOk P F) (I:Inv P F l H s) (hh:F.A.handled = none) {V:Value} (h:sortedV (er V) H Q):wpAny P.M F.A (call (.builtin "sorted") [V]) (PostE P F l Q) E s:=by
  unfold sortedV at h
  split at h
  · rename_i a e;have:=er_ref e;subst this
    split at h
    · rename_i kvs hx
      obtain ⟨hz,q⟩:=h
      obtain ⟨ks,hd,rfl⟩:=I.objs _ _ hx
      rw [List.length_map] at hz
      rw [List.map_map] at q
      refine s_sortD K I hh (not_modules Y I hx) hd (Nat.le_trans (Nat.le_of_lt hz) (by decide)) (R:=fun zs=>∃ ms:List Int,zs = ms.map (fun n=>Value.int n 0)∧ms.Perm (ks.map (·.1))∧ms.Pairwise (·≤·)) (fun vs D s' E' Z hl hp oD k=>?_) fun zs r=>?_
      · exact sort_ints oD (ints_by hl hp) (by rw [hl];exact hz) fun out ns' a1 a2 a3=>k out (by have:=congrArg List.length (seq_ints a1);rw [List.length_map,List.length_map,Array.length_toList] at this;rw [this,a2.length_eq,List.length_map]) ⟨ns',seq_ints a1,a2,a3⟩
      · obtain ⟨ms,rfl,p1,p2⟩:=r
        exact q ms p1 p2
    · exact h.elim
  · exact h.elim
theorem s_lrange (K:FmOk P F) (I:Inv P F l H s) (hh:F.A.handled = none) {a:Addr} {lo hi st:Int} (hx:H a = some (.range lo hi st)) (hs:Builtin.Range.small lo hi st = true) (hz:(rangeL lo hi st).length≤sizeLine) (q:newV (.list (rangeL lo hi st)) H Q) :
    wpAny P.M F.A (call (.type "list") [.ref a]) (PostE P F l Q) E s:=by
  obtain ⟨t,u,v,hr⟩:=I.objs _ _ hx
  have hl:(rangeL lo hi st).length = (Builtin.Range.rangeSize lo hi st).toNat:=by unfold rangeL;rw [List.length_map,List.length_range]
  rw [hl] at hz
  refine call_list_range hh hr hs (rangeSize_toNat lo hi st) hz fun h' tk acc c hk hD ha=>?_
  have e:acc.toList.map er = rangeL lo hi st:=by
    apply List.ext_getElem?
    intro i
    rw [List.getElem?_map,Array.getElem?_toList]
    unfold rangeL
    rw [List.getElem?_map]
    rcases Nat.lt_or_ge i acc.size with h | h
    · obtain ⟨t',e⟩:=ha.2 i _ (Array.getElem?_eq_getElem h)
      rw [Array.getElem?_eq_getElem h,List.getElem?_range (by rw [← ha.1];exact h),e];rfl
    · rw [Array.getElem?_eq_none h,List.getElem?_eq_none (by rw [List.length_range,← ha.1];exact h)];rfl
  rw [← e] at q
  exact s_list_new K I (t:=tk) (Heap.get?_none_of_le (Nat.le_refl _)) (I.base_le K) hk ⟨c,hD⟩ (by rw [ha.1];exact szl hz) q
theorem s_keys (Y:PmOk P) (K:FmOk P F) (I:Inv P F l H s) (hh:F.A.handled = none) {a:Addr} {kvs:List (Int×Value)} (hx:H a = some (.idict kvs)) (hz:(kvs.map fun p=>Value.int p.1 0).length≤sizeLine) (q:newV (.list (kvs.map fun p=>Value.int p.1 0)) H Q):wpAny P.M F.A (call (.type "list") [.ref a]) (PostE P F l Q) E s:=by
  obtain ⟨m,Fr,hmm⟩:=I.fr K
  obtain ⟨ks,hd,e⟩:=I.objs _ _ hx
  obtain ⟨ep,hd⟩:=dictAt_of hd
  have hlen:ks.length≤sizeLine:=by rw [← e] at hz;simpa using hz
  refine PySem.W.kdl_N (PySem.W.kdl_dict (not_modules Y I hx)) hh Fr (news_all _ _ _) hd hlen fun D c h' tk vs F' N' lt hl hp=>?_
  have ia:=ints_by hl hp
  have I':=I.after K (t:=tk) hmm F' N' fun _ hp=>.tail _ hp
  have nn:s.heap.get? D = none:=by
    cases q:s.heap.get? D with
    | none=>rfl
    | some o=>exact absurd (lt _ (mem_allNews q (N' _ (.head _)).2.1 (N' _ (.head _)).2.2)) (Nat.lt_irrefl _)
  have of:=I.off K nn
  refine ⟨_,I'.track (o:=.list (kvs.map fun (p:Int×Value)=>Value.int p.1 0)) of trivial ?_,q _ of.h⟩
  have e2:(kvs.map fun p=>Value.int p.1 0) = vs.toArray.toList.map er:=by
    rw [← e,List.map_map]
    have:=seq_ints ia
    rw [List.map_map] at this
    exact this.symm
  rw [e2]
  exact mt_list (vs:=vs.toArray) ⟨c,(N' _ (.head _)).1⟩ (by have:=szl hlen;simp;exact Nat.le_trans (Nat.le_of_eq ‹_›) this)
end
end Mine
end

section
open PySem PyProof.Rows PySem.Calls
namespace Mine
theorem closure_loop {env:Env}:∀ (names:List (Str×NameKind)) (acc:List (Str×Addr)),(names.map (·.1)).Nodup→(acc.map (·.1)).Nodup→(∀ x∈names.map (·.1),x ∉ acc.map (·.1))→(∀ y,(y,NameKind.free)∈names→∃ c,env.cells.lookup y = some c) →
    ∃ cl,(forIn names acc (fun (x:Str×NameKind) (r:List (Str×Addr))=>match x with | (name,kind)=>if (kind == .free) = true then do let c ← cellOf env name;pure (ForInStep.yield ((name,c) :: r)) else pure (ForInStep.yield r)):Sem (List (Str×Addr))) = pure cl ∧
      (cl.map (·.1)).Nodup∧(∀ p∈acc,p∈cl)∧(∀ y c,(y,c)∈cl→(y,c)∈acc∨env.cells.lookup y = some c)∧∀ y,(y,NameKind.free)∈names→∃ c,(y,c)∈cl
  | [],acc,_,h,_,_=>⟨acc,by rw [List.forIn_nil],h,fun _ hp=>hp,fun _ _ hp=>.inl hp,fun _ hy=>by cases hy⟩
  | (y,kind) :: r,acc,hn,h,hd,hf=>by
    rw [List.map_cons,List.nodup_cons] at hn
    by_cases hk:kind = .free
    · subst hk
      obtain ⟨c,hc⟩:=hf y (.head _)
      obtain ⟨cl,e,h1,h2,h3,h4⟩:=closure_loop (env:=env) r ((y,c) :: acc) hn.2 (by rw [List.map_cons,List.nodup_cons];exact ⟨hd y (by simp),h⟩) (fun x hx hm=>by
        rw [List.map_cons,List.mem_cons] at hm
        rcases hm with rfl | hm
        · exact hn.1 hx
        · exact hd x (by rw [List.map_cons];exact .tail _ hx) hm) (fun z hz=>hf z (.tail _ hz))
      refine ⟨cl, ?_,h1,fun p hp=>h2 p (.tail _ hp),fun z d hz=>?_,fun z hz=>?_⟩
      · rw [List.forIn_cons]
        have:cellOf env y = pure c:=by unfold cellOf;rw [hc]
        simp only [beq_self_eq_true,if_true,this]
        exact e
      · rcases h3 z d hz with q | q
        · rcases List.mem_cons.mp q with q | q
          · cases q;exact .inr hc
          · exact .inl q
        · exact .inr q
      · rcases List.mem_cons.mp hz with q | q
        · cases q;exact ⟨c,h2 _ (.head _)⟩
        · exact h4 z q
    · obtain ⟨cl,e,h1,h2,h3,h4⟩:=closure_loop (env:=env) r acc hn.2 h (fun x hx=>hd x (by rw [List.map_cons];exact .tail _ hx)) (fun z hz=>hf z (.tail _ hz))
      refine ⟨cl, ?_,h1,h2,h3,fun z hz=>?_⟩
      · rw [List.forIn_cons]
        have:(kind == NameKind.free) = false:=beq_eq_false_iff_ne.mpr hk
        simp only [this,Bool.false_eq_true,if_false]
        exact e
      · rcases List.mem_cons.mp hz with q | q
        · cases q;exact absurd rfl hk
        · exact h4 z q
theorem closure_ok {env:Env} {scope:Scope} (hn:(scope.names.map (·.1)).Nodup) (hf:∀ y,(y,NameKind.free)∈scope.names→∃ c,env.cells.lookup y = some c) :
    ∃ cl,closureFor scope env = pure cl∧(cl.map (·.1)).Nodup∧(∀ y c,(y,c)∈cl→env.cells.lookup y = some c)∧∀ y,(y,NameKind.free)∈scope.names→∃ c,(y,c)∈cl:=by
  obtain ⟨cl,e,h1,h2,h3,h4⟩:=closure_loop (env:=env) scope.names [] hn .nil (by simp) hf
  refine ⟨cl, ?_,h1,fun y c hy=>(h3 y c hy).resolve_left (by simp),h4⟩
  simp only [closureFor]
  rw [show (forIn scope.names [] _:Sem (List (Str×Addr))) = pure cl from e]
  rfl
theorem lookup_relabel {env:Env} {scope:Scope} (x:Str):(relabel scope env).names.lookup x = (scope.names.lookup x).map fun k=>if (k == NameKind.free && env.scope.kind == .function && env.kindOf x == some .cell) then NameKind.cell else k:=by
  show (scope.names.map fun (n,k)=>if (k == NameKind.free && env.scope.kind == .function && env.kindOf n == some .cell) then (n,NameKind.cell) else (n,k)).lookup x = _
  induction scope.names with
  | nil=>rfl
  | cons p r ih =>
    obtain ⟨n,k⟩:=p
    rw [List.map_cons]
    by_cases hx:x = n
    · subst hx
      by_cases hc:(k == NameKind.free && env.scope.kind == .function && env.kindOf x == some .cell) = true
      · simp only [List.lookup_cons,beq_self_eq_true,Option.map_some,if_pos hc]
      · simp only [List.lookup_cons,beq_self_eq_true,Option.map_some,if_neg hc]
    · have:(x == n) = false:=beq_eq_false_iff_ne.mpr hx
      simp only [List.lookup_cons,this]
      split <;> simp only [List.lookup_cons,this] <;> exact ih
noncomputable def Fm.comp (F:Fm) (h:Heap) (env:Env):Fm:={ F.call h env with A:=F.A,ro:=true }
section
variable {P:Pm} {F:Fm} {G:Gx} {n:Nat} {hm:Bool} {l:Loc} {H:Hp} {s:Shared}
theorem comp_frame (K:FmOk P F) (I:Inv P F l H s) {env:Env} (hk:env.scope.kind = .function) (hg:env.globals = mainGlobals) (hb:env.builtins = builtinsNs) (hL:s.heap.objs.size≤env.locals)
    (nd:(env.cells.map (·.1)).Nodup) (cs:∀ y c,(y,c)∈env.cells→F.env.cells.lookup y = some c) (hc:env.kindOf lamX≠some .local):FmOk P (F.comp s.heap env):=by
  have nn:∀ b,s.heap.objs.size≤b→s.heap.get? b = none:=fun b hb=>Heap.get?_none_of_le hb
  have cm:∀ y c,(y,c)∈env.cells→(y,c)∈F.env.cells:=fun y c h=>mem_of_lookup (cs y c h)
  have cx:∀ y c,(y,c)∈env.cells→∃ o,s.heap.get? c = some o:=fun y c h=>by
    obtain ⟨vo,⟨o,ho,_⟩,_⟩:=I.cel y c (cs y c h);exact ⟨o,ho⟩
  refine ⟨hk,hg,hb,fun b o e=>?_, ?_, ?_, ?_,fun y c h=>?_,fun q=>(nomatch q), ?_,fun y c h=>lookup_of_mem nd h,fun y c h=>?_,fun b d e=>?_, ?_,call_xg K I env,fun _ _ _ q=>absurd q hc⟩
  · show (if isCell F b then s.heap.get? b else F.g b) = some o
    split
    · exact I.keep b o (K.base b o e)
    · exact K.base b o e
  · exact Nat.le_trans (I.base_le K) hL
  · show (if isCell F env.locals then s.heap.get? env.locals else F.g env.locals) = none
    split
    · exact nn _ hL
    · exact (I.off K (nn _ hL)).g
  · show (if env.locals = F.env.locals then (s.heap.get? env.locals).map (·.data) else F.fr env.locals) = none
    rw [if_neg (I.off K (nn _ hL)).l]
    exact (I.off K (nn _ hL)).fr
  · obtain ⟨o,ho⟩:=cx y c h
    exact Nat.ne_of_lt (Nat.lt_of_lt_of_le (Heap.lt_size ho) hL)
  · refine List.Pairwise.imp_of_mem ?_ (List.pairwise_map.mp nd)
    rintro ⟨y,c⟩ ⟨z,d⟩ h1 h2 hne e
    have e:c = d:=e
    subst e
    exact hne (name_of_addr K.apart (cm y c h1) (cm z c h2))
  · show (if c = F.env.locals then (s.heap.get? c).map (·.data) else F.fr c) = none
    rw [if_neg (K.cl y c (cm y c h))];exact K.cf y c (cm y c h)
  · have e:(if b = F.env.locals then (s.heap.get? b).map (·.data) else F.fr b) = some d:=e
    show (if isCell F b then s.heap.get? b else F.g b) = none∧_
    by_cases q:b = F.env.locals
    · rw [if_pos q] at e
      subst q
      constructor
      · split
        · rename_i hc
          obtain ⟨x,hm⟩:=mem_isCell hc
          exact absurd rfl (K.cl x _ hm)
        · exact K.lg
      · obtain ⟨m,⟨o,es,ep,ho,hd,_⟩,_⟩:=I.loc
        rw [ho] at e
        cases e
        intro vs q
        have q:o.data = .fields vs:=q
        rw [hd] at q;cases q
    · rw [if_neg q] at e
      obtain ⟨h1,h2⟩:=K.fg b d e
      refine ⟨?_,h2⟩
      split
      · rename_i hc
        obtain ⟨x,hm⟩:=mem_isCell hc
        rw [K.cf x b hm] at e;cases e
      · exact h1
  · obtain ⟨fenv,outer,h1,h2,h3⟩:=K.frames
    refine ⟨fenv,outer,h1,fun q=>(nomatch q),fun e he=>?_⟩
    obtain ⟨k1,b,k2,k3⟩:=h3 e he
    refine ⟨k1,b,k2, .inr ?_⟩
    show ((if b = F.env.locals then (s.heap.get? b).map (·.data) else F.fr b)).isSome = true
    obtain ⟨m,⟨o,es,ep,ho,hd,_⟩,_⟩:=I.loc
    rcases k3 with rfl | k3
    · rw [if_pos rfl,ho];rfl
    · split
      · rename_i q;rw [q,ho];rfl
      · exact k3
theorem Inv.compUp (K:FmOk P F) (I:Inv P F l H s) {env:Env} {l':Loc} {H':Hp} {s':Shared} (I':Inv P (F.comp s.heap env) l' H' s'):Inv P F l H' s' :=
  Inv.up K I (env:=env) ⟨I'.gens,I'.os,I'.keep,I'.frk,I'.loc,I'.cel,I'.objs,I'.free,I'.big⟩
theorem Off.compUp (K:FmOk P F) (I:Inv P F l H s) {env:Env} {H':Hp} {a:Addr} (x:Off (F.comp s.heap env) H' a):Off F H' a :=
  Off.up K I (env:=env) ⟨x.h,x.g,x.fr,x.l,x.c⟩
inductive STall (P:Pm) (G:Gx) (n:Nat) (hm:Bool) (sc:Scope):List Expr→List Ex→Prop where
  | nil:STall P G n hm sc [] []
  | cons {e:Expr} {e':Ex} {r:List Expr} {r':List Ex}:ST P G n hm sc e e'→STall P G n hm sc r r'→STall P G n hm sc (e :: r) (e' :: r')
theorem tests_false {env:Env}:∀ (r:List Expr),(forIn r false (fun (c:Expr) (r:Bool)=>if r = true then do let ok ← PySem.isTrue c env (eval c env);pure (ForInStep.yield ok) else pure (ForInStep.yield r)):Sem Bool) = pure false
  | []=>by rw [List.forIn_nil]
  | c :: r=>by
    rw [List.forIn_cons]
    show (forIn r false _:Sem Bool) = _
    exact tests_false r
theorem s_tests {sc:Scope} {es:List Expr} {es':List Ex} (h:STall P G n hm sc es es') (K:FmOk P F) (S:ScOk sc F) (R:Room n F.A) (HM:HmOk hm F) {X:XV} {k:Bool→Hp→Prop}:∀ {H:Hp} {s:Shared},Inv P F l H s→wpB G hm true es' l H (fun v H'=>truthV v fun b=>k b H') X →
    wpAny P.M F.A (forIn es true (fun (c:Expr) (r:Bool)=>if r = true then do let ok ← PySem.isTrue c F.env (eval c F.env);pure (ForInStep.yield ok) else pure (ForInStep.yield r))) (fun b s'=>∃ H',Inv P F l H' s'∧k b H') (PostX P F l X) s:=by
  induction h with
  | nil =>
    intro H s I q
    simp only [wpB,truthV] at q
    rw [List.forIn_nil]
    exact wpAny_pure ⟨H,I,q⟩
  | @cons e e' r r' he hr ih =>
    intro H s I q
    rw [wpB] at q
    rw [List.forIn_cons]
    simp only [if_true]
    refine wpAny_bind (wpAny_bind (wpAny_mono (he K S R HM I q) (fun b s1 z=>wpAny_pure ?_) fun _ _ z=>z))
    obtain ⟨H1,I1,z⟩:=z
    cases b with
    | true =>
      simp only [if_true] at z
      cases hr with
      | nil =>
        dsimp only
        rw [List.forIn_nil]
        exact wpAny_pure ⟨H1,I1,z⟩
      | cons a b=>exact ih I1 z
    | false =>
      simp only [Bool.false_eq_true,if_false,truthV] at z
      dsimp only
      rw [tests_false]
      exact wpAny_pure ⟨H1,I1,z⟩
theorem comp_names {sc scope:Scope} {x:Str} (S:ScOk sc F) (hk:F.env.scope.kind = .function) (hf:compFine sc scope x = true) :
    scope.kind = .function∧(scope.names.map (·.1)).Nodup∧(∀ y∈scope.names,y.2≠.cell)∧(∀ y,scope.names.lookup y = some .local→y = x∨y = (".0" : Str)) ∧
      (∀ y,(y,NameKind.free)∈scope.names→F.env.kindOf y = some .cell∧∃ c,F.env.cells.lookup y = some c)∧scope.names.lookup x = some .local∧x≠lamX:=by
  unfold compFine at hf
  simp only [Bool.and_eq_true,beq_iff_eq,decide_eq_true_eq,List.all_eq_true,Bool.or_eq_true,bne_iff_ne,ne_eq] at hf
  obtain ⟨⟨⟨⟨h1,h2⟩,h3⟩,h4⟩,h5⟩:=hf
  refine ⟨h1,h2,fun y hy=>(h3 y hy).1.1,fun y hy=>?_,fun y hy=>?_,h4,h5⟩
  · have:=(h3 _ (mem_of_lookup hy)).1.2
    rcases this with (q | q) | q
    · exact absurd rfl q
    · exact .inl q
    · exact .inr q
  · have:=(h3 _ hy).2
    rcases this with q | q
    · exact absurd rfl q
    · exact S.cell y q
theorem comp_not {scope:Scope} {x:Str} {cl:List (Str×Addr)} {C:Addr} (n4:∀ y,scope.names.lookup y = some .local→y = x∨y = (".0" : Str)) (n7:x≠lamX):(compEnvC scope cl C F.env).kindOf lamX≠some .local:=fun q=>by
  have q:(relabel scope F.env).names.lookup lamX = some .local:=q
  rw [lookup_relabel] at q
  cases e:scope.names.lookup lamX with
  | none=>rw [e] at q;cases q
  | some k =>
    rw [e] at q
    have q:some (if (k == NameKind.free && F.env.scope.kind == .function && F.env.kindOf lamX == some .cell) then NameKind.cell else k) = some NameKind.local:=q
    injection q with q
    split at q
    · cases q
    · rw [q] at e
      rcases n4 _ e with z | z
      · exact n7 z.symm
      · exact absurd z (by decide +kernel)
theorem comp_sc {sc scope:Scope} {x:Str} (S:ScOk sc F) (hk:F.env.scope.kind = .function) (hf:compFine sc scope x = true) {cl:List (Str×Addr)} (nd:(cl.map (·.1)).Nodup) (hcl:∀ y,(y,NameKind.free)∈scope.names→∃ c,(y,c)∈cl) {h:Heap} {C:Addr} :
    ScOk scope (F.comp h (compEnvC scope cl C F.env)):=by
  obtain ⟨n1,n2,n3,n4,n5,n6,n7⟩:=comp_names S hk hf
  have kd:∀ y k,scope.names.lookup y = some k→(compEnvC scope cl C F.env).kindOf y = some (if (k == NameKind.free && F.env.scope.kind == .function && F.env.kindOf y == some .cell) then NameKind.cell else k):=fun y k hy=>by
    show (relabel scope F.env).names.lookup y = _
    rw [lookup_relabel,hy];rfl
  refine ⟨fun y hy=>?_,fun y hy=>?_,fun y hy=>?_,fun y hy=>?_⟩
  · unfold isLoc at hy
    split at hy
    · rename_i e;exact .inl (kd y _ e)
    · rename_i e;exact absurd rfl (n3 _ (mem_of_lookup e))
    · rename_i e
      obtain ⟨q,_⟩:=n5 y (mem_of_lookup e)
      obtain ⟨c,hc⟩:=hcl y (mem_of_lookup e)
      refine .inr ⟨.inl ?_,c,lookup_of_mem nd hc⟩
      have:=kd y _ e
      rw [hk,q] at this
      exact this
    · split at hy <;> cases hy
    · cases hy
  · unfold isLoc at hy
    split at hy
    · split at hy <;> cases hy
    · split at hy <;> cases hy
    · split at hy <;> cases hy
    · rename_i e;exact kd y _ e
    · cases hy
  · exact kd y _ hy
  · exact absurd rfl (n3 _ (mem_of_lookup hy))
theorem Inv.weak {l':Loc} (I:Inv P F l H s) (h:∀ y v,l' y = some v→l y = some v):Inv P F l' H s :=
  ⟨I.gens,I.os,I.keep,I.frk,let ⟨m,hn,q⟩:=I.loc;⟨m,hn,fun y v hy hk=>q y v (h y v hy) hk⟩,fun y c e=>let ⟨vo,hc,q⟩:=I.cel y c e;⟨vo,hc,fun v hy hk=>q v (h y v hy) hk⟩,I.objs,I.free,I.big⟩
theorem st_local (K:FmOk P F) (I:Inv P F l H s) {x:Str} {V:Value} {E:Value→Shared→Prop} {Q:Unit→Shared→Prop} (hl:F.env.kindOf x = some .local)
    (h:∀ s',Inv P F (l.upd x (er V)) H s'→Q () s'):wpAny P.M F.A (storeName F.env x V) Q E s:=by
  obtain ⟨m,hn,q⟩:=I.loc
  refine wpAny_storeName_local hl hn (fun h' hn' hs=>h _ (I.stepL (t:=s.toks + 1) (fun b o e hb _=>hs.extBut b o hb e) hn' K (fun y v hy hky=>?_) fun y v hy hky=>?_)) (by rw [K.kind];rfl)
  · by_cases e:y = x
    · subst e;simp [Loc.upd] at hy;subst hy;exact ⟨V,by simp,rfl⟩
    · simp [Loc.upd,e] at hy;simp [e];exact q y v hy hky
  · by_cases e:y = x
    · subst e;rw [hl] at hky;simp at hky
    · simpa [Loc.upd,e] using hy
theorem append_at {A:Around} {E:Value→Shared→Prop} {D:Addr} {vs:Array Value} {V:Value} {Q:Value→Shared→Prop} (e:IsL s.heap D vs) (hz:vs.size≤sizeLine) (h:Q .none { s with heap:=s.heap.update D (Obj.mapSeq (·.push V)) }) :
    wpAny P.M A (call (.builtin "list.append") [.ref D,V]) Q E s:=by
  obtain ⟨n,e0⟩:=id e
  refine wpAny_call_entry slot_list_append e.isList.typeIs entry_list_append ?_ (args_list_append _ _)
  show wpAny _ _ (updateSeq D (·.push V) >>= fun _=>ret .none) _ _ s
  exact wpAny_bind (wpAny_updateSeq e0 rfl (wpAny_pure ⟨.none,rfl,h⟩) hz)
theorem comp_inv {sc scope:Scope} {x:Str} (K:FmOk P F) (S:ScOk sc F) (hf:compFine sc scope x = true) (I:Inv P F l H s) {cl:List (Str×Addr)} (c1:∀ y c,(y,c)∈cl→F.env.cells.lookup y = some c) {C:Addr} {h₁:Heap} {t:Nat} (hC:s.heap.objs.size≤C)
    (k:∀ b o,s.heap.get? b = some o→h₁.get? b = some o) {m:Str→Option Value} (hn:h₁.Ns C m):Inv P (F.comp s.heap (compEnvC scope cl C F.env)) ((l.del (".0" : Str)).del x) H { s with heap:=h₁,toks:=t }:=by
  obtain ⟨n1,n2,n3,n4,n5,n6,n7⟩:=comp_names S K.kind hf
  have lt:∀ a o,H a = some o→a < C:=fun a o e=>Nat.lt_of_lt_of_le (I.lt_of e) hC
  refine ⟨I.gens,I.os,fun b o e=>?_,fun b d e=>?_,⟨m,hn,fun y v hy hk=>?_⟩,fun y c e=>?_,fun a o e=>?_,fun a o e=>?_,I.big⟩
  · have e:(if isCell F b then s.heap.get? b else F.g b) = some o:=e
    split at e
    · exact k b o e
    · exact k b o (I.keep b o e)
  · have e:(if b = F.env.locals then (s.heap.get? b).map (·.data) else F.fr b) = some d:=e
    split at e
    · obtain ⟨o,ho,hd⟩:=Option.map_eq_some_iff.mp e
      exact ⟨o,k b o ho,hd⟩
    · obtain ⟨o,ho,hd⟩:=I.frk b d e
      exact ⟨o,k b o ho,hd⟩
  · exfalso
    have hk:(relabel scope F.env).names.lookup y = some .local:=hk
    rw [lookup_relabel] at hk
    obtain ⟨kk,e1,e2⟩:=Option.map_eq_some_iff.mp hk
    have:kk = .local:=by
      split at e2
      · cases e2
      · exact e2
    subst this
    rcases n4 y e1 with rfl | rfl
    · simp [Loc.del] at hy
    · simp only [Loc.del] at hy
      split at hy
      · cases hy
      · simp at hy
  · have hc:=c1 y c (mem_of_lookup e)
    obtain ⟨vo,⟨o,ho,hd⟩,q⟩:=I.cel y c hc
    refine ⟨vo,⟨o,k c o ho,hd⟩,fun v hy hk=>q v ?_ ?_⟩
    · simp only [Loc.del] at hy
      split at hy
      · cases hy
      · split at hy
        · cases hy
        · exact hy
    · have hk:(relabel scope F.env).names.lookup y = some .cell∨(relabel scope F.env).names.lookup y = some .free:=hk
      rw [lookup_relabel] at hk
      have hfr:(y,NameKind.free)∈scope.names:=by
        rcases hk with hk | hk
        · obtain ⟨kk,e1,e2⟩:=Option.map_eq_some_iff.mp hk
          split at e2
          · rename_i hc
            simp only [Bool.and_eq_true,beq_iff_eq] at hc
            have:=hc.1.1
            subst this
            exact mem_of_lookup e1
          · subst e2;exact absurd rfl (n3 _ (mem_of_lookup e1))
        · obtain ⟨kk,e1,e2⟩:=Option.map_eq_some_iff.mp hk
          split at e2
          · cases e2
          · subst e2;exact mem_of_lookup e1
      exact .inl (n5 y hfr).1
  · obtain ⟨O,ho⟩:=(I.objs a o e).some
    exact (I.objs a o e).congr ((k a O ho).trans ho.symm)
  · cases hr:o.isR with
    | true=>exact fre_r (F:=F) (F':=F.comp s.heap (compEnvC scope cl C F.env)) hr rfl (I.free a o e)
    | false =>
    obtain ⟨h1,h2,h3,h4⟩:=of_fre (I.free a o e) hr
    refine fre_of hr ⟨?_, ?_,Nat.ne_of_lt (lt a o e),fun y c hm=>?_⟩
    · show (if isCell F a then s.heap.get? a else F.g a) = none
      rw [if_neg (fun q=>by obtain ⟨y,hm⟩:=mem_isCell q;exact h4 y a hm rfl)];exact h1
    · show (if a = F.env.locals then (s.heap.get? a).map (·.data) else F.fr a) = none
      rw [if_neg h3];exact h2
    · exact h4 y c (mem_of_lookup (c1 y c hm))
noncomputable abbrev Step:=Value→Hp→(Option Value→Hp→Prop)→Prop
noncomputable def stepOf (G:Gx) (hm:Bool) (ifs':List Ex) (elt':Ex) (l:Loc) (x:Str):Step:=fun v H2 k=>wpB G hm true ifs' ((l.del (".0" : Str)).upd x v) H2 (fun c H3=>truthV c fun r =>
        if r then wpE G hm elt' ((l.del (".0" : Str)).upd x v) H3 (fun u H4=>k (some u) H4) (fun _ _=>False) else k none H3) (fun _ _=>False)
structure CpI (P:Pm) (Fc:Fm) (l0:Loc) (St:Nat→Heap→Prop) (J D:Addr) (items:List Value) (guard:Hp→Prop) (step:Step) (k3:List Value→Hp→Prop) (k:Nat) (s:Shared) (i:Nat) (Hc:Hp) (us:Array Value):Prop where
  inv:Inv P Fc l0 Hc s
  ofJ:Off Fc Hc J
  ofD:Off Fc Hc D
  st:St i s.heap
  eD:IsL s.heap D us
  hus:us.size≤i
  hle:i≤items.length
  hk:k = items.length - i + 1
  q:compG guard step (items.drop i) (us.toList.map er) Hc k3
theorem drop_nth {items:List Value} {i:Nat} {v:Value} (hv:items[i]? = some v):items.drop i = v :: items.drop (i + 1):=by
  have hi:=(List.getElem?_eq_some_iff.1 hv).1
  rw [List.drop_eq_getElem_cons hi]
  rw [List.getElem?_eq_getElem hi] at hv
  cases hv;rfl
theorem comp_back {Fc:Fm} {x:Str} {v:Value} {J D:Addr} {oj oD:Obj} (KC:FmOk P Fc) {Hc:Hp} (ofJ:Off Fc Hc J) (ofD:Off Fc Hc D) (ofD1:Off (Fc.also J oj) Hc D) {H5:Hp} {s5:Shared} (I5:Inv P ((Fc.also J oj).also D oD) ((l.del (".0" : Str)).upd x v) H5 s5) :
    Inv P Fc ((l.del (".0" : Str)).del x) H5 s5∧Off Fc H5 J∧Off Fc H5 D∧s5.heap.get? J = some oj∧s5.heap.get? D = some oD:=by
  obtain ⟨I6,e6,o6⟩:=I5.back (KC.also ofJ) ofD1
  obtain ⟨I7,e7,o7⟩:=I6.back KC ofJ
  refine ⟨I7.weak fun y v' hy=>?_,o7,⟨o6.h,ofD.g,o6.fr,o6.l,o6.c⟩,e7,e6⟩
  simp only [Loc.del] at hy
  split at hy
  · cases hy
  · rename_i hne
    simp only [Loc.upd,if_neg hne,Loc.del]
    exact hy
theorem comp_turn {scope:Scope} {x:Str} {elt:Expr} {ifs:List Expr} {elt':Ex} {ifs':List Ex} (he:SE P G n hm scope elt elt') (ht:STall P G n hm scope ifs ifs') {Fc:Fm} (KC:FmOk P Fc) (SC:ScOk scope Fc) (HC:HmOk hm Fc) (R:Room n Fc.A) (hx:Fc.env.kindOf x = some .local)
    {J D:Addr} (hJD:J≠D) {guard:Hp→Prop} {items:List Value} {St:Nat→Heap→Prop} (T:Turns P Fc.A J guard items St) {k3:List Value→Hp→Prop} (hz:items.length≤sizeLine) {k:Nat} {i:Nat} {Hc:Hp} {us:Array Value} (C:CpI P Fc ((l.del (".0" : Str)).del x) St J D items guard (stepOf G hm ifs' elt' l x) k3 k s i Hc us) (hi:i < items.length)
    {Z:Option Value→Shared→Prop} {E E1 E2 E3 E4:Value→Shared→Prop} {px:Pos}
    (hZ:∀ V s₁,wpAny P.M Fc.A (assign (.Name x px) Fc.env V) (fun _ s₂ =>
          wpAny P.M Fc.A (forIn ifs true fun c r=>if r = true then do let ok ← PySem.isTrue c Fc.env (eval c Fc.env);pure (ForInStep.yield ok) else pure (ForInStep.yield r)) (fun ok s₃ =>
            if ok = true then wpAny P.M Fc.A (eval elt Fc.env) (fun u s₄ =>
              wpAny P.M Fc.A (call (.builtin "list.append") [.ref D,u]) (fun _ s₅=>∃ m,m < k∧∃ i Hc us,CpI P Fc ((l.del (".0" : Str)).del x) St J D items guard (stepOf G hm ifs' elt' l x) k3 m s₅ i Hc us) E4 s₄) E3 s₃
            else ∃ m,m < k∧∃ i Hc us,CpI P Fc ((l.del (".0" : Str)).del x) St J D items guard (stepOf G hm ifs' elt' l x) k3 m s₃ i Hc us) E2 s₂) E1 s₁→Z (some V) s₁):wpAny P.M Fc.A (pyNext (.ref J)) Z E s:=by
  obtain ⟨v,hv⟩:∃ v,items[i]? = some v:=⟨_,List.getElem?_eq_getElem hi⟩
  have q:=C.q
  rw [drop_nth hv] at q
  unfold compG at q
  obtain ⟨g,q⟩:=q
  unfold stepOf at q
  refine T.item i s _ _ Hc C.inv.objs C.ofJ.h g C.st v hv fun V h' tk hV st' k'=>hZ _ _ ?_
  have I':=C.inv.turn (t:=tk) KC C.ofJ k'
  obtain ⟨oj,hoj⟩:=T.at_ _ _ st'
  obtain ⟨nD,hoD⟩:=C.eD
  have ofD1:Off (Fc.also J oj) Hc D:=⟨C.ofD.h,by show (if D = J then some oj else Fc.g D) = none;rw [if_neg hJD.symm];exact C.ofD.g,C.ofD.fr,C.ofD.l,C.ofD.c⟩
  have K2:=(KC.also (o:=oj) C.ofJ).also (o:={ cls:=.type "list",dict:=none,data:=.seq us nD,slots:=#[] }) ofD1
  have I2':=(I'.also C.ofJ hoj).also ofD1 (k' _ _ hJD.symm hoD)
  have S2:ScOk scope ((Fc.also J oj).also D { cls:=.type "list",dict:=none,data:=.seq us nD,slots:=#[] }):=⟨SC.loc,SC.glob,SC.locl,SC.cell⟩
  have HM2:HmOk hm ((Fc.also J oj).also D { cls:=.type "list",dict:=none,data:=.seq us nD,slots:=#[] }):=⟨(HC.1.also C.ofJ.g).also ofD1.g,HC.2⟩
  refine wpAny_assign_Name (st_local K2 I2' hx fun s4 I4=>?_)
  rw [hV] at I4
  have eL:(((l.del (".0" : Str)).del x).upd x v) = ((l.del (".0" : Str)).upd x v):=by
    funext y
    by_cases q:y = x <;> simp [Loc.upd,Loc.del,q]
  rw [eL] at I4
  have ok:∀ {H5:Hp} {s5:Shared},s5.heap.get? J = some oj→St (i + 1) s5.heap:=fun e5=>T.frame _ _ _ st' fun o' e=>by rw [hoj] at e;cases e;exact e5
  refine wpAny_mono (s_tests ht K2 S2 R HM2 I4 q) (fun b s5 z=>?_) fun _ _ z=>?_
  · obtain ⟨H5,I5,z⟩:=z
    cases b with
    | false =>
      simp only [Bool.false_eq_true,if_false] at z ⊢
      obtain ⟨b1,b2,b3,b4,b5⟩:=comp_back KC C.ofJ C.ofD ofD1 I5
      exact ⟨_,by rw [C.hk];exact left1 hi,i + 1,H5,us,b1,b2,b3,ok (H5:=H5) b4,⟨nD,b5⟩,Nat.le_succ_of_le C.hus,hi,rfl,z⟩
    | true =>
      simp only [if_true] at z ⊢
      refine wpAny_mono (he K2 S2 R HM2 I5 z) (fun V6 s6 z=>?_) fun _ _ z=>?_
      · obtain ⟨H6,I6,z⟩:=z
        obtain ⟨b1,b2,b3,b4,b5⟩:=comp_back KC C.ofJ C.ofD ofD1 I6
        have b6:IsL s6.heap D us:=⟨nD,b5⟩
        refine append_at b6 (Nat.le_trans C.hus (Nat.le_trans C.hle hz)) ?_
        have kD:∀ b o,b≠D→s6.heap.get? b = some o→(s6.heap.update D (Obj.mapSeq (·.push V6))).get? b = some o:=fun b o hb e=>by rw [Heap.get?_update_other _ _ (Ne.symm hb)];exact e
        refine ⟨_,by rw [C.hk];exact left1 hi,i + 1,H6,us.push V6,b1.turn (t:=s6.toks) KC b3 kD,b2,b3,T.frame _ _ _ (ok (H5:=H6) b4) fun o e=>kD _ _ hJD e,b6.update _,by rw [Array.size_push];exact Nat.succ_le_succ C.hus,hi,rfl, ?_⟩
        rw [Array.toList_push,List.map_append];exact z
      · obtain ⟨_,_,_,_,_,_,z⟩:=z
        exact z.elim
  · obtain ⟨_,_,_,_,_,_,z⟩:=z
    exact z.elim
theorem s_comp_core {sc scope:Scope} {x:Str} {px pos:Pos} {elt it:Expr} {ifs:List Expr} {elt' it':Ex} {ifs':List Ex} (hf:compFine sc scope x = true) (hset:notSet it = true) (hi:SE P G n hm sc it it') (he:SE P G n hm scope elt elt') (ht:STall P G n hm scope ifs ifs')
    (K:FmOk P F) (S:ScOk sc F) (R:Room n F.A) (HM:HmOk hm F) (I:Inv P F l H s) {Q:QV} {X:XV} (q:wpE G hm (.comp elt' x it' ifs') l H Q X)
    {cp:Pos} {use:Option (Value→Sem Unit)} {Q' E':Value→Shared→Prop} (hE:∀ V s',PostX P F l X V s'→E' V s')
    (fin:∀ {Hc:Hp} {s':Shared} {us:Array Value} {D C:Addr} {m:Str→Option Value} {r:Flow},Inv P F l Hc s'→Off F Hc D→Off F Hc C→D≠C→s'.heap.Ns C m→IsL s'.heap D us→us.size≤sizeLine→Q (.ref D) (Hc.upd D (.list (us.toList.map er)))→compPost P.M F.A E' use Q' (.ref D) C (.ok r) s') :
    wpAny P.M F.A (comprehension (.ListComp elt [⟨.Name x px,it,ifs,0⟩] scope pos) scope F.env cp (newList []) false (eval it F.env) use) Q' E' s:=by
  obtain ⟨n1,n2,n3,n4,n5,n6,n7⟩:=comp_names S K.kind hf
  obtain ⟨cl,hcl,nd,c1,c2⟩:=closure_ok (env:=F.env) n2 fun y hy=>(n5 y hy).2
  conv at q=>whnf
  refine wpAny_comprehension_free (use:=use) rfl (fun _=>folded_no hset) hcl n1 (fun y hy hl=>?_) (wpAny_mono (hi K S R HM I q) (fun V s1 q=>?_) hE)
  · obtain ⟨y,k⟩:=y
    have hl:k = .local:=hl
    subst hl
    exact lookup_of_mem n2 hy
  obtain ⟨H1,I1,q⟩:=q
  refine wpAny_mono (s_iter K HM I1 q) (fun itv s2 q=>?_) fun _ _ z=>z
  obtain ⟨guard,items,J,St,⟨hz,q⟩,rfl,I2,of,bz,st,T⟩:=q
  have T:=T F.A rfl
  refine wpAny_newObj_type (wpAny_newFunctionEnv n3 (by intro y hy;simp at hy) (fun h₁ hns hsb=>?_) n1)
  dsimp only at hns hsb ⊢
  generalize hH2:s2.heap.push { cls:=.type "list",dict:=none,data:=.seq ([]:List Value).toArray } = hp2 at hns hsb ⊢
  have hC:hp2.objs.size = s2.heap.objs.size + 1:=by rw [← hH2,Heap.size_push]
  have hDC:s2.heap.objs.size≠hp2.objs.size:=by rw [hC];exact Nat.ne_of_lt (Nat.lt_succ_self _)
  have k1:∀ b o,s2.heap.get? b = some o→h₁.get? b = some o:=fun b o e =>
    hsb.extBut b o (by rw [hC];exact Nat.ne_of_lt (Nat.lt_succ_of_lt (Heap.lt_size e))) (Heap.get?_push_of_some _ (hH2 ▸ Heap.get?_push_of_some _ e))
  have hD1:IsL h₁ s2.heap.objs.size #[]:=⟨0,hsb.extBut _ _ hDC (Heap.get?_push_of_some _ (hH2 ▸ Heap.get?_push_size _ rfl))⟩
  have I3:=comp_inv (t:=s2.toks + ([]:List (Str×Value)).length) K S hf I2 c1 (C:=hp2.objs.size) (by rw [hC];exact Nat.le_succ _) k1 hns
  have KC:FmOk P (F.comp s2.heap (compEnvC scope cl hp2.objs.size F.env)):=comp_frame K I2 (env:=compEnvC scope cl hp2.objs.size F.env) n1 K.glob K.blt (by show s2.heap.objs.size≤hp2.objs.size;rw [hC];exact Nat.le_succ _) nd c1 (comp_not n4 n7)
  have SC:ScOk scope (F.comp s2.heap (compEnvC scope cl hp2.objs.size F.env)):=comp_sc S K.kind hf nd c2
  have kx:(compEnvC scope cl hp2.objs.size F.env).kindOf x = some .local:=SC.locl x n6
  have oJ:Off (F.comp s2.heap (compEnvC scope cl hp2.objs.size F.env)) H1 J:=by
    have hJ:J < s2.heap.objs.size:=by obtain ⟨o,ho⟩:=T.at_ _ _ st;exact Heap.lt_size ho
    refine ⟨of.h, ?_, ?_, ?_,fun y c hm=>of.c y c (mem_of_lookup (c1 y c hm))⟩
    · show (if isCell F J then s2.heap.get? J else F.g J) = none
      rw [if_neg (fun q=>by obtain ⟨y,hm⟩:=mem_isCell q;exact of.c y J hm rfl)];exact of.g
    · show (if J = F.env.locals then (s2.heap.get? J).map (·.data) else F.fr J) = none
      rw [if_neg of.l];exact of.fr
    · show J≠hp2.objs.size
      rw [hC];exact Nat.ne_of_lt (Nat.lt_succ_of_lt hJ)
  have ofD:=I2.ofSize K
  have oD:Off (F.comp s2.heap (compEnvC scope cl hp2.objs.size F.env)) H1 s2.heap.objs.size:=by
    refine ⟨ofD.h, ?_, ?_,hDC,fun y c hm=>ofD.c y c (mem_of_lookup (c1 y c hm))⟩
    · show (if isCell F s2.heap.objs.size then s2.heap.get? s2.heap.objs.size else F.g s2.heap.objs.size) = none
      rw [if_neg (fun q=>by obtain ⟨y,hm⟩:=mem_isCell q;exact ofD.c y _ hm rfl)];exact ofD.g
    · show (if s2.heap.objs.size = F.env.locals then (s2.heap.get? s2.heap.objs.size).map (·.data) else F.fr s2.heap.objs.size) = none
      rw [if_neg ofD.l];exact ofD.fr
  have hJD:J≠s2.heap.objs.size:=by obtain ⟨o,ho⟩:=T.at_ _ _ st;exact Nat.ne_of_lt (Heap.lt_size ho)
  have HC:HdK (F.comp s2.heap (compEnvC scope cl hp2.objs.size F.env)):=HM.1.call I2 (compEnvC scope cl hp2.objs.size F.env)
  generalize hFc:F.comp s2.heap (compEnvC scope cl hp2.objs.size F.env) = Fc at *
  have eA:Fc.A = F.A:=by rw [← hFc];rfl
  have eE:Fc.env = compEnvC scope cl hp2.objs.size F.env:=by rw [← hFc];rfl
  have TC:Turns P Fc.A J guard items St:=by rw [eA];exact T
  have loop:∀ s3:Shared,s3 = { s2 with heap:=h₁,toks:=s2.toks + ([]:List (Str×Value)).length } →
      codeAny P.M F.A (.compLoop (.ListComp elt [⟨.Name x px,it,ifs,0⟩] scope pos) 0 (.ref J) (.ref s2.heap.objs.size) (compEnvC scope cl hp2.objs.size F.env))
        (compPost P.M F.A E' use Q' (.ref s2.heap.objs.size) hp2.objs.size) s3:=by
    rintro s3 rfl
    refine codeAny_compLoop_tests (fun k s=>∃ i Hc us,CpI P Fc ((l.del (".0" : Str)).del x) St J s2.heap.objs.size items guard (stepOf G hm ifs' elt' l x) (fun us H'=>newV (.list us) H' Q) k s i Hc us) ?_ (items.length + 1) ⟨0,H1,#[],I3,oJ,oD,T.frame _ _ _ st fun o e=>k1 _ _ e,hD1,Nat.le_refl _,Nat.zero_le _,rfl,q⟩
    rintro k s ⟨i,Hc,us,C⟩
    rcases Nat.lt_or_ge i items.length with hi | hi
    · rw [← eE,← eA]
      exact comp_turn he ht KC SC ⟨HC,fun z=>by rw [eA];exact HM.2 z⟩ (by rw [eA];exact R) (by rw [eE];exact kx) hJD TC hz C hi fun V s₁ h=>h
    · obtain ⟨I,ofJ,ofD,st,eD,hus,hle,hk,q⟩:=C
      have:i = items.length:=Nat.le_antisymm hle hi
      subst this
      rw [List.drop_length] at q
      unfold compG at q
      refine T.done s _ _ Hc I.objs ofJ.h q.1 st (eA ▸ HC.at_ I ofJ.g) fun h' tk k'=>?_
      have I':=I.turn (t:=tk) KC ofJ k'
      have eD':IsL h' s2.heap.objs.size us:=let ⟨nD,e⟩:=eD;⟨nD,k' _ _ hJD.symm e⟩
      obtain ⟨m,hnC,_⟩:=I'.loc
      rw [eE] at hnC
      have nC:Hc hp2.objs.size = none:=by
        cases e:Hc hp2.objs.size with
        | none=>rfl
        | some o =>
          have:=I'.neL KC e
          rw [eE] at this
          exact absurd rfl this
      rw [← hFc] at I' ofD
      have IF:=Inv.compUp K I2 I'
      have ofDF:=Off.compUp K I2 ofD
      have ofC0:=I2.off K (a:=hp2.objs.size) (Heap.get?_none_of_le (by rw [hC];exact Nat.le_succ _))
      exact fin IF ofDF ⟨nC,ofC0.g,ofC0.fr,ofC0.l,ofC0.c⟩ hDC hnC eD' (Nat.le_trans hus hz) (q.2 _ ofDF.h)
  exact codeAny_compStart_list (loop _ rfl) (T.self 0 _ _ _ (T.frame _ _ _ st fun o e=>k1 _ _ e) (loop _ rfl))
theorem s_comp {sc scope:Scope} {x:Str} {px pos:Pos} {elt it:Expr} {ifs:List Expr} {elt' it':Ex} {ifs':List Ex} (hf:compFine sc scope x = true) (hset:notSet it = true) (hi:SE P G n hm sc it it') (he:SE P G n hm scope elt elt') (ht:STall P G n hm scope ifs ifs')
    (K:FmOk P F) (S:ScOk sc F) (R:Room n F.A) (HM:HmOk hm F) (I:Inv P F l H s) {Q:QV} {X:XV} (q:wpE G hm (.comp elt' x it' ifs') l H Q X) :
    wpAny P.M F.A (eval (.ListComp elt [⟨.Name x px,it,ifs,0⟩] scope pos) F.env) (PostE P F l Q) (PostX P F l X) s:=by
  rw [eval_ListComp]
  refine s_comp_core hf hset hi he ht K S R HM I q (use:=none) (fun _ _ z=>z) fun {Hc s' us D C m r} IF oD oC hDC hn eD hz q=>⟨m,hn,fun h'' sb=>?_⟩
  have IG:=IF.turn (t:=s'.toks) (h':=h'') K oC fun b o hb e=>sb.extBut b o hb e
  exact ⟨_,IG.track (o:=.list (us.toList.map er)) oD trivial (mt_list (let ⟨nD,e⟩:=eD;⟨nD,sb.extBut _ _ hDC e⟩) (szl hz)),q⟩
noncomputable def swapFine (sc scope:Scope) (y:Str):Bool:=sc.names.lookup y == some .local && !(scope.names.any fun z=>z.1 == y && (z.2 == .local || z.2 == .cell))
theorem s1_asgComp_ok {sc scope:Scope} {x y:Str} {px py pos spos:Pos} {elt it:Expr} {ifs:List Expr} {elt' it':Ex} {ifs':List Ex} (hs:(swapFine sc scope y && py.line == pos.line) = true) (hf:compFine sc scope x = true) (hset:notSet it = true) (hi:SE P G n hm sc it it') (he:SE P G n hm scope elt elt') (ht:STall P G n hm scope ifs ifs')
    (K:FmOk P F) (S:ScOk sc F) (R:Room n F.A) (HM:HmOk hm F) (ro:F.ro = false) (I:Inv P F l H s) {Q:QS} {X:XS} (q:wpS G hm (.asg y (.comp elt' x it' ifs')) l H Q X) :
    wpAny P.M F.A (exec (.Assign [.Name y py] (.ListComp elt [⟨.Name x px,it,ifs,0⟩] scope pos) spos) F.env) (PostS P F Q) (PostSX P F X) s:=by
  simp only [swapFine,Bool.and_eq_true,beq_iff_eq,Bool.not_eq_true'] at hs
  obtain ⟨⟨h1,h2⟩,h3⟩:=hs
  have ky:F.env.kindOf y = some .local:=S.locl y h1
  have hsw:swapsWith (.ListComp elt [⟨.Name x px,it,ifs,0⟩] scope pos) (some (.Name y py)) spos.line F.env = pure true:=by
    have:(F.env.blockKind == .function && F.env.kindOf y == some .local && py.line == pos.line && !(scope.names.any fun (n,k)=>n == y && (k == .local || k == .cell))) = true:=by
      rw [ky]
      have e:F.env.blockKind = .function:=by unfold Env.blockKind;rw [K.kind];rfl
      rw [e,h3]
      have e2:(scope.names.any fun (n,k)=>n == y && (k == .local || k == .cell)) = false:=h2
      rw [e2];simp
    show (pure (F.env.blockKind == .function && F.env.kindOf y == some .local && py.line == pos.line && !(scope.names.any fun (n,k)=>n == y && (k == .local || k == .cell))):Sem Bool) = pure true
    rw [this]
  rw [exec_Assign_Name_used _ _ _ _ hsw]
  conv at q=>whnf
  refine wpAny_bind (wpAny_standAt (wpAny_bind ?_))
  show wpAny _ F.A (do let _ ← comprehension (.ListComp elt [⟨.Name x px,it,ifs,0⟩] scope pos) scope F.env _ (newList []) false (eval it F.env) (some (assign (.Name y py) F.env))) _ _ s
  refine wpAny_bind (wpAny_mono (s_comp_core hf hset hi he ht K S R HM I q (use:=some (assign (.Name y py) F.env)) (Q':=fun _ s'=>PostS P F Q .next s') (fun _ _ z=>PostX.toS z) fun {Hc s' us D C m r} IF oD oC hDC hn eD hz q=>?_) (fun _ s' hq=>wpAny_pure (wpAny_pure hq)) fun _ _ e=>e)
  show wpAny P.M F.A (assign (.Name y py) F.env (.ref D)) (fun _ s''=>∃ m,s''.heap.Ns C m∧∀ h',Heap.SameBut C s''.heap h'→PostS P F Q .next { s'' with heap:=h' }) (PostSX P F X) s'
  obtain ⟨oc,es,ep,hoc,hrest⟩:=id hn
  have I1:=IF.track (o:=.list (us.toList.map er)) oD trivial (mt_list eD (szl hz))
  have oC1:Off F (Hc.upd D (.list (us.toList.map er))) C:=⟨(Hp.upd_ne _ _ (Ne.symm hDC)).trans oC.h,oC.g,oC.fr,oC.l,oC.c⟩
  have I2:=I1.also oC1 hoc
  refine wpAny_assign_Name (st_local (F:=F.also C oc) (K.also oC1) I2 ky fun s4 I4=>?_)
  obtain ⟨I5,hC5,oC5⟩:=Inv.back K oC1 I4
  refine ⟨m,⟨oc,es,ep,hC5,hrest⟩,fun h' sb=>⟨_,_,I5.turn (t:=s4.toks) (h':=h') K oC5 fun b o hb e=>sb.extBut b o hb e,q⟩⟩
end
end Mine
end

section
open PySem PyProof.Rows PySem.Calls
namespace Mine
section
variable {P:Pm} {F:Fm} {G:Gx} {n:Nat} {hm:Bool} {l:Loc} {H:Hp} {s:Shared} {E:Value→Shared→Prop} {Q:QV}
noncomputable def bfVal:Bf→Option Value
  | .len=>some (.builtin "len") | .list=>some (.type "list") | .sorted=>some (.builtin "sorted") | .int=>some (.type "int") | .all=>some (.builtin "all") | .max1=>some (.builtin "max") | .max2=>some (.builtin "max") | .range=>some (.type "range")
  | _=>none
theorem s_bf (Y:PmOk P) (K:FmOk P F) (HM:HmOk hm F) (I:Inv P F l H s) {b:Bf} {v:Value} {Vs:List Value} (hv:bfVal b = some v) (hf:bfH hm b (Vs.map er) H) (h:bfV b (Vs.map er) H Q):wpAny P.M F.A (call v Vs) (PostE P F l Q) E s:=by
  have hh:b≠.len→b≠.list→b≠.all→b≠.int→F.A.handled = none:=fun n1 n2 n3 n4=>by
    rcases hf with (z | z) | z | z | z
    · exact absurd z n1
    · exact absurd z n4
    · exact HM.2 z
    · exact absurd z.1 n2
    · exact absurd z.1 n3
  unfold bfV at h
  split at h
  · obtain ⟨V,eV,h'⟩:=on1_elim h;clear h;subst eV;have h:=h';clear h'
    cases hv
    exact s_len I rfl h
  · obtain ⟨V,eV,h'⟩:=on1_elim h;clear h;subst eV;have h:=h';clear h'
    cases hv
    unfold seqV at h
    split at h
    · rename_i a e;have:=er_ref e;subst this
      split at h
      · rename_i hx
        obtain ⟨vs,⟨o,ho,hc,n,hd⟩,e2,_⟩:=I.objs _ _ hx
        rw [← e2] at h
        exact s_copy K I (.inl rfl) ho hc hd (by simpa using h.1) h.2
      · rename_i hx
        obtain ⟨vs,⟨o,ho,hc,n,hd⟩,e2,_⟩:=I.objs _ _ hx
        rw [← e2] at h
        exact s_copy K I (.inr rfl) ho hc hd (by simpa using h.1) h.2
      · rename_i kvs hx
        have hn:F.A.handled = none:=by
          rcases hf with (z | z) | z | ⟨_,a',xs,e1,e2⟩ | z
          · cases z
          · cases z
          · exact HM.2 z
          · injection e1 with e1 _
            injection e1 with e1
            rw [← e1,hx] at e2;cases e2
          · cases z.1
        exact s_keys Y K I hn hx h.1 h.2
      · rename_i lo hi st hx
        have hn:F.A.handled = none:=by
          rcases hf with (z | z) | z | ⟨_,a',xs,e1,e2⟩ | z
          · cases z
          · cases z
          · exact HM.2 z
          · injection e1 with e1 _
            injection e1 with e1
            rw [← e1,hx] at e2;cases e2
          · cases z.1
        exact s_lrange K I hn hx h.1 h.2.1 h.2.2
      · exact h.elim
    · exact h.elim
  · obtain ⟨V,eV,h'⟩:=on1_elim h;clear h;subst eV;have h:=h';clear h'
    cases hv
    exact s_sorted Y K I (hh nofun nofun nofun nofun) h
  · obtain ⟨V,eV,h'⟩:=on1_elim h;clear h;subst eV;have h:=h';clear h'
    cases hv
    obtain ⟨b,eV,h'⟩:=onBool_elim rfl h;clear h;subst eV;have h:=h';clear h'
    exact call_int_bool ⟨H,I.toks _,h⟩
  · obtain ⟨V,eV,h'⟩:=on1_elim h;clear h;subst eV;have h:=h';clear h'
    cases hv
    obtain ⟨a,eV,h'⟩:=onRef_elim rfl h;clear h;subst eV;have h:=h';clear h'
    split at h
    · rename_i hx
      obtain ⟨bs,hb,q⟩:=h
      rcases hf with (z | z) | z | z | ⟨_,a',e1,e2⟩
      · cases z
      · cases z
      · exact s_all K I (HM.2 z) hx hb q
      · cases z.1
      · injection e1 with e1 _
        injection e1 with e1
        rw [← e1,hx] at e2
        injection e2 with e2;injection e2 with e2
        subst e2
        have:bs = []:=List.map_eq_nil_iff.1 hb.symm
        subst this
        exact s_all_nil K HM.1 I hx q
    · exact h.elim
  · obtain ⟨V,W,eV,h'⟩:=on2_elim h;clear h;subst eV;have h:=h';clear h'
    cases hv
    obtain ⟨x,_,eV,h'⟩:=onInt_elim rfl h;clear h;subst eV;have h:=h';clear h'
    obtain ⟨y,_,eV,h'⟩:=onInt_elim rfl h;clear h;subst eV;have h:=h';clear h'
    exact s_max2 I (hh nofun nofun nofun nofun) h
  · cases hv
    exact s_range K I h
  · obtain ⟨V,eV,h'⟩:=on1_elim h;clear h;subst eV;have h:=h';clear h'
    cases hv
    obtain ⟨a,eV,h'⟩:=onRef_elim rfl h;clear h;subst eV;have h:=h';clear h'
    split at h
    · rename_i hx
      obtain ⟨ns,hn,h0,q⟩:=h
      exact s_max1 K I (hh nofun nofun nofun nofun) hx hn h0 q
    · exact h.elim
  · cases hv
theorem se_bf (Y:PmOk P) (B:BltOk P) {sc:Scope} {f:Str} {b:Bf} {p pos:Pos} {args:List Expr} {args':List Ex} {v:Value} (hv:bfVal b = some v) (hbt:bltTab f = some v) (hs:args.all notStar = true) (hl:isLoc sc f = some false) (ha:SEs P G n hm sc args args') :
    SE P G n hm sc (.Call (.Name f p) args [] pos) (.bf b args'):=by
  intro F l K S R HM H s Q X I q
  conv at q=>whnf
  refine wpAny_Call_NameR (ld_blt Y B K S I hbt hl ?_)
  refine callWith_any hs (wpAny_mono (ha K S R HM I q) (fun Vs s2 q=>?_) fun _ _ z=>z)
  obtain ⟨H2,I2,hf,q⟩:=q
  refine ⟨?_,s_bf Y K HM I2 hv hf q⟩
  cases b <;> cases hv <;> exact ⟨.machine, .inr rfl,PySem.W.Looks.of_pure rfl⟩
theorem se_dict0 {sc:Scope} {pos:Pos}:SE P G n hm sc (.Dict [] [] pos) (.dict [] []):=by
  intro F l K S R HM H s Q X I q
  conv at q=>whnf
  refine wpAny_Dict_empty ⟨_,I.alloc K (o:=.idict []) (t:=s.toks) ⟨[],⟨_,#[],0,Heap.get?_push_size _ rfl, ?_,rfl, ?_, ?_,by simp⟩,rfl⟩, ?_⟩
  · exact ⟨rfl,rfl,rfl⟩
  · intro e he;simp at he
  · exact Pairs.nil
  · rcases q with ⟨_,_,q⟩ | ⟨ss,e,_,_,_,hne,_⟩
    · exact q _ I.fresh
    · simp at e;exact absurd e hne
end
end Mine
end

section
open PySem PyProof.Rows PySem.Calls
namespace Mine
theorem se_comp {P:Pm} {G:Gx} {n:Nat} {hm:Bool} {sc scope:Scope} {x:Str} {px pos:Pos} {elt it:Expr} {ifs:List Expr} {elt' it':Ex} {ifs':List Ex} (hf:compFine sc scope x = true) (hset:notSet it = true) (hi:SE P G n hm sc it it') (he:SE P G n hm scope elt elt') (ht:STall P G n hm scope ifs ifs') :
    SE P G n hm sc (.ListComp elt [⟨.Name x px,it,ifs,0⟩] scope pos) (.comp elt' x it' ifs'):=by
  intro F l K S R HM H s Q X I q
  exact s_comp hf hset hi he ht K S R HM I q
theorem s1_asgComp {P:Pm} {G:Gx} {n:Nat} {hm:Bool} {sc scope:Scope} {x y:Str} {px py pos spos:Pos} {elt it:Expr} {ifs:List Expr} {elt' it':Ex} {ifs':List Ex} (hs:(swapFine sc scope y && py.line == pos.line) = true) (hf:compFine sc scope x = true) (hset:notSet it = true) (hi:SE P G n hm sc it it') (he:SE P G n hm scope elt elt') (ht:STall P G n hm scope ifs ifs') :
    S1 P G n hm sc (.Assign [.Name y py] (.ListComp elt [⟨.Name x px,it,ifs,0⟩] scope pos) spos) (.asg y (.comp elt' x it' ifs')) :=
  fun _ _ K S R HM ro _ _ _ _ I q=>s1_asgComp_ok hs hf hset hi he ht K S R HM ro I q
section
variable {P:Pm} {F:Fm} {G:Gx} {n:Nat} {hm:Bool} {l:Loc} {H:Hp} {s:Shared}
end
section
variable {P:Pm} {G:Gx} {n:Nat} {hm:Bool} {sc:Scope}
theorem sts_one {e:Expr} {e':Ex} (h:ST P G n hm sc e e'):STs P G n hm sc [e] [e']:=sts_cons (fun _=>rfl) h sts_nil
theorem sts_more {e e2:Expr} {e' e2':Ex} {es:List Expr} {es':List Ex} (h:ST P G n hm sc e e') (r:STs P G n hm sc (e2 :: es) (e2' :: es')):STs P G n hm sc (e :: e2 :: es) (e' :: e2' :: es'):=sts_cons (fun q=>nomatch q) h r
theorem se_bop1 {op:BoolOp} {e:Expr} {e':Ex} {es:List Expr} {es':List Ex} {pos:Pos} (h:SBs P G n hm sc (e :: es) (e' :: es')):SE P G n hm sc (.BoolOp op (e :: es) pos) (.bop (op == .And) (e' :: es')):=se_bop (List.cons_ne_nil _ _) h
theorem se_idx1 {x y:Expr} {x' y':Ex} {pos:Pos} (hx:SE P G n hm sc x x') (hy:SE P G n hm sc y y') (hsl:(fun o i=>subscripted y false o i) = fun o i=>operate [o,i] (getItem o i)):SE P G n hm sc (.Subscript x y pos) (.idx x' y'):=se_idx hx hy fun o i=>congrFun (congrFun hsl o) i
theorem st_of_se {e:Expr} {e':Ex} (h:SE P G n hm sc e e') (he:(fun env whole=>PySem.isTrue e env whole) = fun env whole=>(do let v ← whole;standAt e.pos;holding [v] (truthy v))):ST P G n hm sc e e':=SE.test h fun env w=>congrFun (congrFun he env) w
end
theorem len1 {vals:List Value} (h:vals.length = 1):∃ a,vals = [a]:=by
  cases vals with
  | nil=>cases h
  | cons a r=>cases r with
    | nil=>exact ⟨a,rfl⟩
    | cons _ _=>simp at h
theorem len2 {vals:List Value} (h:vals.length = 2):∃ a b,vals = [a,b]:=by
  cases vals with
  | nil=>cases h
  | cons a r =>
    obtain ⟨b,rfl⟩:=len1 (vals:=r) (by simpa using h)
    exact ⟨a,b,rfl⟩
theorem len3 {vals:List Value} (h:vals.length = 3):∃ a b c,vals = [a,b,c]:=by
  cases vals with
  | nil=>cases h
  | cons a r =>
    obtain ⟨b,c,rfl⟩:=len2 (vals:=r) (by simpa using h)
    exact ⟨a,b,c,rfl⟩
theorem len4 {vals:List Value} (h:vals.length = 4):∃ a b c d,vals = [a,b,c,d]:=by
  cases vals with
  | nil=>cases h
  | cons a r =>
    obtain ⟨b,c,d,rfl⟩:=len3 (vals:=r) (by simpa using h)
    exact ⟨a,b,c,d,rfl⟩
theorem len5 {vals:List Value} (h:vals.length = 5):∃ a b c d e,vals = [a,b,c,d,e]:=by
  cases vals with
  | nil=>cases h
  | cons a r =>
    obtain ⟨b,c,d,e,rfl⟩:=len4 (vals:=r) (by simpa using h)
    exact ⟨a,b,c,d,e,rfl⟩
noncomputable def bodyOf:Stmt→List Stmt
  | .FunctionDef _ _ b _ _ _ _ _ _ _=>b
  | _=>[]
noncomputable def scOf:Stmt→Scope
  | .FunctionDef _ _ _ _ _ _ sc _ _ _=>sc
  | _=>default
end Mine
end

section
open PySem PyProof.Rows PySem.Calls
namespace Mine
section
variable {P:Pm} {F:Fm} {G:Gx} {n:Nat} {hm:Bool} {l:Loc} {H:Hp} {s:Shared} {E:Value→Shared→Prop} {Q:QV}
theorem Inv.drawn (I:Inv P F l H s) (d:Drawn):Inv P F l H { s with drawn:=d }:=⟨I.gens,I.os,I.keep,I.frk,I.loc,I.cel,I.objs,I.free,I.big⟩
theorem dd1_len (S:List Str) (k:Str):(dd1 S k).length≤S.length + 1:=Sw.add1_len S k
theorem dds_len (xs:List Str):∀ S:List Str,(xs.foldl dd1 S).length≤S.length + xs.length:=by
  induction xs with
  | nil=>exact fun S=>Nat.le_refl _
  | cons x xs ih=>exact fun S=>Nat.le_trans (ih (dd1 S x)) (Nat.le_trans (Nat.add_le_add_right (dd1_len S x) _) (Nat.le_of_eq (by rw [List.length_cons];exact Nat.add_right_comm _ _ _)))
theorem s_sset (K:FmOk P F) (I:Inv P F l H s) (hh:F.A.handled = none) {a:Addr} {xs:List Value} (hx:H a = some (.list xs)) {ss:List Str} (hn:xs = ss.map fun x=>Value.str x 0) (h64:ss.length < 64) (q:∀ ms:List Str,ms.Perm (ss.foldl dd1 [])→sortedS ms = true→newV (.list (ms.map fun x=>Value.str x 0)) H Q) :
    wpAny P.M F.A (call (.type "set") [.ref a]) (fun v s'=>wpAny P.M F.A (call (.builtin "sorted") [v]) (PostE P F l Q) E s') E s:=by
  have hz:ss.length≤1000:=Nat.le_trans (Nat.le_of_lt h64) (by decide)
  obtain ⟨vs,hl,e,_⟩:=I.objs _ _ hx
  refine Sw.call_set hh (vs:=vs.toList) (xs:=ss) (by simpa using hl) (strs_of (e.trans hn)) (Nat.lt_of_le_of_lt (Nat.succ_le_succ hz) (by unfold scanBound;decide)) fun h1 t1 k1 x=>?_
  obtain ⟨es,ep,t,ks,x,hel,hs,hp,hled,hpl⟩:=x.ex
  have hks:ks.length≤1000:=by rw [hp.length_eq];exact Nat.le_trans (dds_len ss []) (by rw [List.length_nil,Nat.zero_add];exact hz)
  have hes:es.size = ks.length:=by rw [← Sw.strs_len hs,List.length_map,Array.length_toList]
  have hsl:es.size≤sizeLine:=by rw [hes];exact Nat.le_trans hks (by decide)
  refine Sw.sorted_set (s:={ s with heap:=h1,toks:=t1 }) hh x ⟨fun e=>by rw [hled,e];rfl,fun _=>hpl.imp id fun z=>by rw [z];exact Nat.zero_le _,hsl⟩ fun D h2 t2 d us k2 nD oD hpu=>?_
  obtain ⟨ls,h3,h4⟩:=Sw.strs_perm hpu hs
  have hul:us.length < 64:=by rw [Sw.strs_len h3,h4.length_eq,hp.length_eq];exact Nat.lt_of_le_of_lt (dds_len ss []) (by rw [List.length_nil,Nat.zero_add];exact h64)
  have nn:s.heap.get? D = none:=by
    cases q:s.heap.get? D with
    | none=>rfl
    | some o=>rw [k1 _ _ q] at nD;cases nD
  have of:=I.off K nn
  have I':Inv P F l H { s with heap:=h2,toks:=t2,drawn:=d }:=(I.kept (t:=t2) fun b o e=>k2 b o (k1 b o e)).drawn d
  refine wpAny_call_entry slot_list_sort ⟨_,oD,rfl⟩ entry_list_sort (sort_strs oD h3 hul fun out ss' a1 a2 a3=>⟨_,rfl, ?_⟩) (args_list_sort _)
  obtain ⟨ep2,hat⟩:=sortedHeap_at (out:=out) oD
  have hz2:out.size≤2 ^ 25:=by
    rw [← Array.length_toList,Sw.strs_len a1,a2.length_eq,h4.length_eq]
    exact Nat.le_trans hks (by decide)
  refine ⟨_,(I'.turn (t:=t2) (h':=sortedHeap h2 D us out) K of fun b o hb e=>by rw [sortedHeap_old hb (Heap.lt_size e)];exact e).track (o:=.list (out.toList.map er)) of trivial (mt_list (vs:=out) ⟨ep2,hat⟩ hz2), ?_⟩
  rw [seq_strs a1]
  exact q ss' (a2.trans (h4.trans hp)) a3 _ of.h
theorem se_sset (Y:PmOk P) (B:BltOk P) {sc:Scope} {e:Expr} {e':Ex} {p p2 pos pos2:Pos} (hn:notStar e = true) (hl:isLoc sc "sorted" = some false) (hl2:isLoc sc "set" = some false) (he:SE P G n hm sc e e') :
    SE P G n hm sc (.Call (.Name "sorted" p) [.Call (.Name "set" p2) [e] [] pos2] [] pos) (.bf .sortedSet [e']):=by
  intro F l K S R HM H s Q X I q
  refine wpAny_Call_NameR (ld_blt Y B K S I (x := "sorted") (v:=.builtin "sorted") (by decide +kernel) hl ?_)
  refine callWith_any (by rfl) ?_
  rw [star_cons rfl]
  refine spliced_cons ?_
  refine wpAny_Call_NameR (ld_blt Y B K S I (x := "set") (v:=.type "set") (by decide +kernel) hl2 ?_)
  refine callWith_any (es:=[e]) (by rw [List.all_cons,hn];rfl) (wpAny_mono (ses_cons hn he ses_nil K S R HM I q) (fun Vs s1 q=>?_) fun _ _ z=>z)
  obtain ⟨H1,I1,hf,q⟩:=q
  have hh:F.A.handled = none:=by
    rcases hf with (z | z) | z | z | z
    · cases z
    · cases z
    · exact HM.2 z
    · cases z.1
    · cases z.1
  obtain ⟨V,eV,q2⟩:=on1_elim q
  subst eV
  obtain ⟨a,eV,q3⟩:=onRef_elim rfl q2
  subst eV
  clear q q2
  refine ⟨⟨.machine, .inr rfl,PySem.W.Looks.of_pure rfl⟩, ?_⟩
  split at q3
  · rename_i xs hx
    obtain ⟨ss,e1,e2,q⟩:=q3
    refine wpAny_mono (s_sset K I1 hh hx e1 e2 q) (fun v s2 q=>?_) fun _ _ z=>z
    exact spliced_nil ⟨⟨.machine, .inr rfl,PySem.W.Looks.of_pure rfl⟩,q⟩
  · exact q3.elim
end
end Mine
end

section
open PySem PyProof.Rows PySem.Calls
namespace Mine
noncomputable abbrev Tab:=Addr→Option (List Str×List Sm)
noncomputable def GG (g:Gx) (tab:Tab):Nat→Gx
  | 0=>{ g with fn:=fun _ _ _ _ _ _=>False }
  | n + 1=>{ g with fn:=fun f hm args H Q X=>match tab f with
      | some (ps,sm)=>wpF (GG g tab n) hm ps sm args H Q X
      | none=>False }
structure TabOk (P:Pm) (tab:Tab):Prop where
  ok:∀ f ps sm,tab f = some (ps,sm)→∃ sc body,FnAt P f ps sc body∧∀ {G:Gx} {n:Nat},GxOk P G→SndFn P G n→∀ hm,SS P G n hm sc body sm
section
variable {P:Pm} {g:Gx} {tab:Tab}
theorem gg_ok (GO:GxOk P g) (n:Nat):GxOk P (GG g tab n):=by
  cases n <;> exact ⟨GO.glob,GO.fld,GO.meth,GO.init,GO.exc,GO.sub,GO.self,GO.own⟩
theorem gg_snd (Y:PmOk P) (B:BltOk P) (GO:GxOk P g) (T:TabOk P tab):∀ n,SndFn P (GG g tab n) n
  | 0=>⟨fun h=>h.elim,fun h=>h.elim⟩
  | n + 1=>by
    have ih:=gg_snd Y B GO T n
    refine ⟨fun {f hm args H Q X} h=>?_,fun {f hm args H Q X} h {F l s vals} K R HM I hv=>?_⟩
    · have h:(match tab f with | some (ps,sm)=>wpF (GG g tab n) hm ps sm args H Q X | none=>False):=h
      split at h
      · rename_i ps sm e
        obtain ⟨sc,body,D,_⟩:=T.ok f ps sm e
        exact D.keep
      · exact h.elim
    · have h:(match tab f with | some (ps,sm)=>wpF (GG g tab n) hm ps sm args H Q X | none=>False):=h
      split at h
      · rename_i ps sm e
        obtain ⟨sc,body,D,htr⟩:=T.ok f ps sm e
        exact call_def Y D (htr (gg_ok GO n) ih hm) h K R HM I hv
      · exact h.elim
theorem call_top (Y:PmOk P) (B:BltOk P) (GO:GxOk P g) (T:TabOk P tab) {n:Nat} {f:Addr} {A:Around} (hA:A.frames = some []) (hh:A.handled = none) (R:RoomC (n + 1) A) {vals:List Value} {Q:QV} {H₀:Hp} {h:Heap} (hk:∀ b o,P.base.get? b = some o→h.get? b = some o) (hz:h.objs.size = P.base.objs.size) (hH:∀ a o,H₀ a = some o→(o.isRL = true∧Mt P P.base a o)∨(o = .tab∧P.base.get? a = none∧Mt P h a o))
    (q:(GG g tab (n + 1)).fn f false (vals.map er) H₀ Q (fun _ _=>False)) :
    codeAny P.M A (.call (.ref f) ⟨vals,[]⟩) (fun r s'=>∃ V H',r = .ok (.ret V)∧Q (er V) H'∧s'.gens = P.s₀.gens∧s'.os = P.s₀.os∧(∀ b o,P.base.get? b = some o→s'.heap.get? b = some o)∧∀ a o,H' a = some o→Mt P s'.heap a o) { P.s₀ with heap:=h }:=by
  have q:(match tab f with | some (ps,sm)=>wpF (GG g tab n) false ps sm (vals.map er) H₀ Q (fun _ _=>False) | none=>False):=q
  split at q
  · rename_i ps sm e
    obtain ⟨sc,body,D,htr⟩:=T.ok f ps sm e
    have hb:SS P (GG g tab n) n false sc body sm:=htr (gg_ok GO n) (gg_snd Y B GO T n) false
    obtain ⟨hlen,q⟩:=q
    obtain ⟨o,fd,d1,d2,d3,d4,d5,d6,d7,d8,dl,d9⟩:=D.at_
    have fine:=D.fine
    unfold scFine at fine
    simp only [Bool.and_eq_true,beq_iff_eq,Bool.not_eq_true',decide_eq_true_eq,List.all_eq_true,Bool.or_eq_true,bne_iff_ne,ne_eq] at fine
    obtain ⟨⟨⟨⟨⟨⟨f1,f2⟩,f3⟩,f4⟩,f5⟩,f6⟩,f7⟩:=fine
    have kd:∀ x,(callEnvC fd h.objs.size f).kindOf x = sc.names.lookup x:=fun x=>by show fd.scope.names.lookup x = _;rw [d5]
    have cl:∀ x,sc.names.lookup x = some .cell→∃ c,(callEnvC fd h.objs.size f).cells.lookup x = some c:=fun x hx=>by
      show ∃ c,(cellsFrom _ fd.scope.names []).lookup x = some c
      rw [d5];exact cells_lookup _ _ _ hx
    have nf:∀ x,sc.names.lookup x≠some .free:=fun x hx=>f5 _ (mem_of_lookup hx) rfl
    have d1':=hk _ _ d1
    have d3':h.CodeRec fd.code fd.qualname:=let ⟨c,oc,vs,tq,a1,a2,a3⟩:=d3;⟨c,oc,vs,tq,a1,hk _ _ a2,a3⟩
    refine codeAny_call_cells (binds:=ps.zip vals) R.deep d1' d2 (Y.lim.keeps hk) d3' d4 (d9 vals (by simpa using hlen.symm)) d6 (fun x hx=>?_) (fun s₁ x=>?_) (by rw [d5];exact f2) (by rw [d5];exact f3) (by rw [d5];exact f1)
    · have:=f6 x.1 (List.of_mem_zip (a:=x.1) (b:=x.2) hx).1
      rw [d5]
      rcases this with z | z
      · exact .inl z
      · obtain ⟨c,hc⟩:=cells_lookup (x:=x.1) sc.names (h.objs.size + 1) [] z
        exact .inr ⟨z,by rw [hc];rfl⟩
    · let F:Fm:={ env:=callEnvC fd h.objs.size f,A:=A.deeper (callEnvC fd h.objs.size f),g:=fun b=>P.base.get? b,fr:=fun _=>none,ro:=false }
      have nn:∀ b,h.objs.size≤b→P.base.get? b = none:=fun b hb=>Heap.get?_none_of_le (hz ▸ hb)
      have ab:∀ y c,(y,c)∈F.env.cells→h.objs.size < c:=x.above
      have K:FmOk P F:=by
        refine ⟨by show fd.scope.kind = _;rw [d5];exact f1,d7,d8,fun b o e=>e,Nat.le_of_eq hz.symm,nn _ (Nat.le_refl _),rfl,fun y c hm=>Nat.ne_of_gt (ab y c hm),fun _ y c hm=>⟨nn c (Nat.le_of_lt (ab y c hm)),rfl⟩,x.apart,
          fun y c hm=>lookup_of_mem (cells_names _ _ _ (by rw [d5];exact f4) .nil (by simp)) hm,fun _ _ _=>rfl,fun b d e=>(nomatch e), ?_,fun a e=>(nomatch e),fun c T hl hk=>dl c T hl ((kd lamX).symm.trans hk)⟩
        refine ⟨F.env,[], ?_,fun _=>⟨rfl,rfl⟩,fun e he=>?_⟩
        · show A.frames.map _ = _
          rw [hA];rfl
        · rcases List.mem_cons.mp he with rfl | he
          · exact ⟨by show fd.scope.kind≠_;rw [d5,f1];decide,_,rfl, .inl rfl⟩
          · cases he
      have S:ScOk sc F:=by
        refine ⟨fun y hy=>?_,fun y hy=>?_,fun y hy=>(kd y).trans hy,fun y hy=>⟨(kd y).trans hy,cl y hy⟩⟩
        · unfold isLoc at hy
          split at hy
          · rename_i e;exact .inl ((kd y).trans e)
          · rename_i e;exact .inr ⟨.inl ((kd y).trans e),cl y e⟩
          · rename_i e;exact absurd e (nf y)
          · split at hy <;> cases hy
          · cases hy
        · unfold isLoc at hy
          split at hy
          · split at hy <;> cases hy
          · split at hy <;> cases hy
          · split at hy <;> cases hy
          · rename_i e;exact (kd y).trans e
          · cases hy
      have I:Inv P F (fun y=>(ps.zip (vals.map er)).lookup y) H₀ s₁:=by
        obtain ⟨⟨⟨h2,tk,rfl⟩,ns,keep,fresh⟩,cell,apart,above⟩:=x
        refine ⟨rfl,rfl,fun b o e=>keep b o (hk b o e),fun b d e=>(nomatch e),⟨_,ns,fun y v hy hk=>((bindL_get hk ps vals _ f7 v).1 hy)⟩,fun y c e=>⟨_,cell y c e,fun v hy hk=>((bindC_get (fun q=>?_) ps vals _ f7 v).1 hy)⟩,fun a o e=>?_,fun a o e=>?_,fun a o e=>?_⟩
        · have hk:(callEnvC fd h.objs.size f).kindOf y = some .cell∨(callEnvC fd h.objs.size f).kindOf y = some .free:=hk
          rw [q] at hk;simp at hk
        · rcases hH a o e with ⟨_,z⟩ | ⟨_,_,z⟩
          · obtain ⟨O,ho⟩:=z.some
            exact z.congr ((keep a O (hk a O ho)).trans ho.symm)
          · obtain ⟨O,ho⟩:=z.some
            exact z.congr ((keep a O ho).trans ho.symm)
        · rcases hH a o e with ⟨hr,z⟩ | ⟨rfl,hn,z⟩
          · cases o <;> first | exact z.some | cases hr
          · have lt:a < h.objs.size:=let ⟨_,ho⟩:=z.some;Heap.lt_size ho
            exact ⟨hn,rfl,Nat.ne_of_lt lt,fun y c hm=>Nat.ne_of_lt (Nat.lt_trans lt (above y c hm))⟩
        · rcases hH a o e with ⟨hr,_⟩ | ⟨rfl,_⟩
          · cases o <;> first | trivial | cases hr
          · trivial
      refine wpAny_mono (hb K S ⟨?_, ?_⟩ ⟨.inl hh,fun _=>hh⟩ rfl I q) (fun fl s' z=>?_) fun EV s' z=>?_
      · show A.depth + 1 + 2 * n + 2 < _
        exact R.in1
      · show A.units + 3 + 30 * n + 200 < _
        exact R.in2
      · obtain ⟨l2,H2,I2,z⟩:=z
        cases fl with
        | next=>exact ⟨_,H2,rfl,z,I2.gens,I2.os,I2.keep,I2.objs⟩
        | brk=>exact z.elim
        | cont=>exact z.elim
        | ret v=>exact ⟨_,H2,rfl,z,I2.gens,I2.os,I2.keep,I2.objs⟩
      · obtain ⟨_,_,_,_,_,_,_,z⟩:=z
        exact z.elim
  · exact q.elim
end
end Mine
end

section
open PySem PyProof.Rows PySem.Calls
open PySem.W (Frag nsIn mg_of ns_none_of findIn plainGet hasDictIn isFn plainOver takerIn makesIn subIn mroIn clsIn typeIn findObj excIn keepIn codeIn codeRec_of own_of_in TopRead)
namespace Mine
noncomputable def excOk (K:Frag) (names:List Str) (C:Addr):Bool :=
  findIn K (.ref C) "__getattribute__" == some (some (.builtin "BaseException.__getattribute__")) && findIn K (.ref C) "__getattr__" == some none &&
  (match findObj K C none "__class__" with | some (.bind g a)=>g == .builtin "getset_descriptor.__get__" && a == .builtin "object.__class__" | _=>false) &&
  mroIn K C (.type "object") == some true && mroIn K C (.type "BaseException") == some true && (clsIn K C).isSome && typeIn K (.ref C) == some (.type "type") && subIn K (.ref C) (.type "ValueError") == some true &&
  subIn K (.ref C) (.ref C) == some true && excIn K C veMro "ValueError.__new__" && names.any fun x=>nsIn K mainGlobals x == some (some (.ref C))
noncomputable def gOf (K:Frag) (names:List Str):Gx where
  glob:=fun x=>match nsIn K mainGlobals x with | some (some v)=>some (er v) | _=>none
  fn:=fun _ _ _ _ _ _=>False
  meth:=fun C m=>match findIn K (.ref C) m with | some (some (.ref f))=>if plainGet K C m && isFn K (.ref f) then some f else none | _=>none
  init:=fun C=>match findIn K (.ref C) "__init__" with | some (some (.ref f))=>if makesIn K C && isFn K (.ref f) && keepIn K (.ref C) then some f else none | _=>none
  isExc:=excOk K names
  sub:=fun C D=>subIn K (.ref C) (.ref D) == some true
  fld:=fun C a=>plainGet K C a && hasDictIn K C && findIn K (.ref C) a == some none && findIn K (.ref C) "__setattr__" == some (some (.builtin "object.__setattr__")) && plainOver K C && takerIn K C a == some none
theorem g_ok {P:Pm} {names:List Str} {p:Program} {loose:List Str} (Y:PmOk P) (T:TopRead p loose P.mg P.mb P.base):GxOk P (gOf P.K names):=by
  refine ⟨fun x v h=>?_,fun C a h=>?_,fun C m f h=>?_,fun C f h=>?_,fun C h=>?_,fun C D h _=>?_,fun C h=>?_,fun C h=>?_⟩
  · have h:(match nsIn P.K mainGlobals x with | some (some v)=>some (er v) | _=>none) = some v:=h
    split at h
    · rename_i V e
      cases h
      exact ⟨V,rfl, .inl (mg_of Y.kin T.g e)⟩
    · cases h
  · simp only [gOf,Bool.and_eq_true,beq_iff_eq] at h
    obtain ⟨⟨⟨⟨⟨h1,h2⟩,h3⟩,h4⟩,h5⟩,h6⟩:=h
    exact ⟨h1,h2,h3,h4,h5,h6⟩
  · have h:(match findIn P.K (.ref C) m with | some (some (.ref f))=>if plainGet P.K C m && isFn P.K (.ref f) then some f else none | _=>none) = some f:=h
    split at h
    · rename_i f' e
      split at h
      · rename_i q
        simp only [Bool.and_eq_true] at q
        cases h
        exact ⟨q.1,e,q.2⟩
      · cases h
    · cases h
  · have h:(match findIn P.K (.ref C) "__init__" with | some (some (.ref f))=>if makesIn P.K C && isFn P.K (.ref f) && keepIn P.K (.ref C) then some f else none | _=>none) = some f:=h
    split at h
    · rename_i f' e
      split at h
      · rename_i q
        simp only [Bool.and_eq_true] at q
        cases h
        exact ⟨q.1.1,e,q.1.2,q.2⟩
      · cases h
    · cases h
  · have h:excOk P.K names C = true:=h
    unfold excOk at h
    simp only [Bool.and_eq_true,beq_iff_eq] at h
    obtain ⟨⟨⟨⟨⟨⟨⟨⟨⟨⟨h1,h2⟩,h3⟩,h4⟩,h5⟩,h6⟩,h7⟩,h8⟩,h9⟩,h10⟩,h11⟩:=h
    refine ⟨h1,h2, ?_,h4,h5,h6,h7,h8⟩
    split at h3
    · rename_i g a e
      simp only [Bool.and_eq_true,beq_iff_eq] at h3
      rw [e,h3.1,h3.2]
    · cases h3
  · have h:excOk P.K names C = true:=h
    unfold excOk at h
    simp only [Bool.and_eq_true,beq_iff_eq] at h
    obtain ⟨⟨⟨⟨⟨⟨⟨⟨⟨⟨h1,h2⟩,h3⟩,h4⟩,h5⟩,h6⟩,h7⟩,h8⟩,h9⟩,h10⟩,h11⟩:=h
    show subIn P.K (.ref C) (.ref D) = some (subIn P.K (.ref C) (.ref D) == some true)
    show mroIn P.K C (.ref D) = some (mroIn P.K C (.ref D) == some true)
    unfold mroIn at h4 ⊢
    obtain ⟨cd,hc,h4⟩:=Option.bind_eq_some_iff.mp h4
    rw [hc]
    simp only [Option.bind_some]
    split at h4
    · cases h4
    · rename_i q
      rw [if_neg q]
      cases cd.mro.contains (Value.ref D) <;> rfl
  · have h:excOk P.K names C = true:=h
    unfold excOk at h
    simp only [Bool.and_eq_true,beq_iff_eq] at h
    obtain ⟨⟨⟨⟨⟨⟨⟨⟨⟨⟨h1,h2⟩,h3⟩,h4⟩,h5⟩,h6⟩,h7⟩,h8⟩,h9⟩,h10⟩,h11⟩:=h
    exact beq_iff_eq.mpr h9
  · have h:excOk P.K names C = true:=h
    unfold excOk at h
    simp only [Bool.and_eq_true] at h
    obtain ⟨⟨_,h10⟩,h11⟩:=h
    obtain ⟨x,_,hx⟩:=List.any_eq_true.mp h11
    exact (own_of_in Y.kin T (beq_iff_eq.mp hx) h10).obj
noncomputable def bltNames:List Str:=["len", "isinstance", "list", "tuple", "sorted", "dict", "int", "all", "max", "min", "range", "str", "bool", "ValueError", "set"]
theorem blt_mem {x:Str} {v:Value} (h:bltTab x = some v):x∈bltNames∧bootBuiltins x = some v∧x≠"__name__" := by
  have hm:(x,v)∈bltL:=mem_of_lookup h
  have:=List.all_eq_true.1 (show (bltL.all fun p=>bltNames.contains p.1 && bootBuiltins p.1 == some p.2 && p.1 != "__name__") = true by decide +kernel) _ hm
  simp only [Bool.and_eq_true,beq_iff_eq,bne_iff_ne,List.contains_iff_mem] at this
  exact ⟨this.1.1,this.1.2,this.2⟩
theorem blt_ok {P:Pm} {p:Program} {loose:List Str} (Y:PmOk P) (T:TopRead p loose P.mg P.mb P.base) (h:bltNames.all (fun x=>nsIn P.K mainGlobals x == some none) = true):BltOk P:=by
  refine ⟨fun x v hx=>?_⟩
  obtain ⟨h1,h2,h3⟩:=blt_mem hx
  have:=List.all_eq_true.mp h x h1
  exact ⟨ns_none_of Y.kin T.g (beq_iff_eq.mp this),(T.builtins x h3).trans h2⟩
theorem tab_mem {α:Type} {a:Addr} {b:α}:∀ {l:List (Addr×α)},l.lookup a = some b→(a,b)∈l
  | [],h=>by cases h
  | (c,d) :: r,h=>by
    rw [List.lookup_cons] at h
    split at h
    · rename_i e
      cases h
      have:a = c:=by simpa using e
      rw [this];exact .head _
    · exact .tail _ (tab_mem h)
theorem fn_at {P:Pm} {f:Addr} {o:Obj} {fd:FuncData} {ps:List Str} {body:List Stmt} (Y:PmOk P) (h1:P.K.lookup f = some o) (h2:o.data = .func fd) (h3:codeIn P.K fd.code fd.qualname = true) (h4:fd.body = .stmts body) (h5:fd.closure = []) (h6:fd.globals = mainGlobals) (h7:fd.builtins = builtinsNs)
    (h8:∀ vals,vals.length = ps.length→bindArgs fd ⟨vals,[]⟩ = pure (ps.zip vals)) (h9:scFine fd.scope ps = true) (h10:keepIn P.K (.ref f) = true) (h11:∀ c T,P.lam = some (c,T)→fd.scope.names.lookup lamX = some .local→fd.code = .ref c):FnAt P f ps fd.scope body :=
  ⟨⟨o,fd,Y.kin _ _ h1,h2,codeRec_of Y.kin h3,h4,rfl,h5,h6,h7,h11,h8⟩,h9,h10⟩
noncomputable def RowOk (P:Pm) (e:Addr×(List Str×List Sm)):Prop:=∃ sc body,FnAt P e.1 e.2.1 sc body∧∀ {G:Gx} {n:Nat},GxOk P G→SndFn P G n→∀ hm,SS P G n hm sc body e.2.2
inductive RowsOk (P:Pm):List (Addr×(List Str×List Sm))→Prop where
  | nil:RowsOk P []
  | cons {e:Addr×(List Str×List Sm)} {r:List (Addr×(List Str×List Sm))}:RowOk P e→RowsOk P r→RowsOk P (e :: r)
theorem RowsOk.mem {P:Pm} {L:List (Addr×(List Str×List Sm))} (h:RowsOk P L):∀ {e},e∈L→RowOk P e:=by
  induction h with
  | nil=>intro e h;cases h
  | cons h1 _ ih =>
    intro e h
    cases h with
    | head=>exact h1
    | tail _ h=>exact ih h
theorem tabOk_of {P:Pm} {L:List (Addr×(List Str×List Sm))} (h:RowsOk P L):TabOk P (fun f=>L.lookup f):=⟨fun _ _ _ e=>h.mem (tab_mem e)⟩
end Mine
end

section
open PySem PyProof.Rows PySem.Calls
open PySem.W (Frag nsIn mg_of TopRead)
namespace Mine
noncomputable def hOf (a:Addr) (ns:List Int):Hp:=fun b=>if b = a then some (.rlist (ns.map fun n=>Value.int n 0)) else none
noncomputable def LawTells (K:Params→Frag) (names:List Str) (tab:Tab) (f:Addr):Prop :=
  ∀ (p:Params) (a:Addr) (ns:List Int),ns.length≤63→(GG (gOf (K p) names) tab 13).fn f false [.ref a] (hOf a ns) (fun v _=>v = .bool true) (fun _ _=>False)
theorem len63 {n:Nat} (h:¬ (63:Int) < (n:Int)):n≤63:=Int.ofNat_le.1 (Int.not_lt.1 h)
theorem law_runs {prog vp:Program} {w:World} {s:Shared} {mg mb:Str→Option Value} {K:Params→Frag} {names loose:List Str} {tab:Tab} {f fa a:Addr} {nm:Str} {vs:List Value} {ns:List Int} {Q:Value→Shared→Prop} {E:Value→Shared→Prop}
    (KX:(K w.params).In s.heap) (T:TopRead vp loose mg mb s.heap) (hmg:mg nm = some (.ref fa)) (hf:nsIn (K w.params) mainGlobals nm = some (some (.ref f))) (hb:bltNames.all (fun x=>nsIn (K w.params) mainGlobals x == some none) = true)
    (TO:∀ {P:Pm},PmOk P→BltOk P→P.K = K P.w.params→P.lam = none→TabOk P tab) (hL:s.heap.IsList a vs.toArray) (hI:IntsAre vs ns) (hl:¬ (63:Int) < (ns.length:Int)) (law:LawTells K names tab f)
    (q:∀ s',s'.gens = s.gens→s'.os = s.os→(∀ b o,s.heap.get? b = some o→s'.heap.get? b = some o)→Q (.bool true) s') :
    wpAny (model prog w) callerA (call (.ref fa) [.ref a]) Q E s:=by
  let P:Pm:={ prog:=prog,w:=w,s₀:=s,mg:=mg,mb:=mb,K:=K w.params }
  have Y:PmOk P:=⟨T.g,T.b,T.nolimit,KX,fun _ _ e=>nomatch e⟩
  have T':TopRead vp loose P.mg P.mb P.base:=T
  have GO:GxOk P (gOf P.K names):=g_ok Y T'
  have hH:∀ b o,hOf a ns b = some o→o.isRL = true∧Mt P P.base b o:=fun b o h=>by
    unfold hOf at h
    split at h
    · rename_i e
      cases h
      subst e
      exact ⟨rfl,vs.toArray,hL,seq_ints hI,by simp;exact Nat.le_trans (len63 hl) (by decide)⟩
    · cases h
  have B:BltOk P:=blt_ok Y T' hb
  have e:fa = f:=by
    have:=mg_of KX T.g hf
    rw [hmg] at this
    cases this;rfl
  subst e
  have L:=law w.params a ns (len63 hl)
  refine wpAny_call (codeAny_mono (call_top (P:=P) Y B GO (TO Y B rfl rfl) (n:=12) rfl rfl ?_ (vals:=[.ref a]) (h:=P.base) (fun _ _ e=>e) rfl (fun b o e=>.inl (hH b o e)) L) fun r s' z=>?_)
  · exact ⟨by decide,by decide⟩
  · obtain ⟨V,H',rfl,hV,h1,h2,h3,_⟩:=z
    have:=er_bool hV
    subst this
    exact q s' h1 h2 h3
noncomputable def hOfT (a T:Addr) (ns:List Int):Hp:=fun b=>if b = a then some (.rlist (ns.map fun n=>Value.int n 0)) else if b = T then some .tab else none
noncomputable def LawTellsT (K:Params→Frag) (names:List Str) (tab:Tab) (f T:Addr):Prop :=
  ∀ (p:Params) (a:Addr) (ns:List Int),a≠T→ns.length≤63→(GG (gOf (K p) names) tab 13).fn f false [.ref a] (hOfT a T ns) (fun v H=>v = .bool true∧H T = some .tab) (fun _ _=>False)
end Mine
end

section
open PySem PyProof.Rows PySem.Calls PySem.W
namespace Mine
section
variable {P:Pm} {lam:Option (Addr×Addr)} {K:List (Addr×Obj)} {f:Addr} {fd:FuncData} {body:List Stmt} {b:List Sm} {x y z u v:Str}
noncomputable def lamOk (lam:Option (Addr×Addr)) (fd:FuncData):Bool:=match lam with
  | some (c,_)=>fd.scope.names.lookup lamX != some .local || fd.code == .ref c
  | none=>true
theorem row_of {ps:List Str} (Y:PmOk P) (hK:P.K = K) (hl:P.lam = lam) (h1:K.lookup f = some { cls:=.type "function",data:=.func fd }) (h2:fd.body = .stmts body) (h3:(codeIn K fd.code fd.qualname && scFine fd.scope ps && keepIn K (.ref f) && lamOk lam fd) = true) (h5:fd.closure = []∧fd.globals = mainGlobals∧fd.builtins = builtinsNs)
    (d:∀ {G:Gx} {n:Nat},GxOk P G→SndFn P G n→∀ hm,SS P G n hm fd.scope body b) (h8:∀ vals,vals.length = ps.length→bindArgs fd ⟨vals,[]⟩ = pure (ps.zip vals)):RowOk P (f,(ps,b)):=by
  subst hK
  obtain ⟨h3,h9⟩:=Bool.and_eq_true_iff.1 h3
  have h3:=Bool.and_eq_true_iff.1 h3
  have h4:=Bool.and_eq_true_iff.1 h3.1
  refine ⟨_,_,fn_at Y h1 rfl h4.1 h2 h5.1 h5.2.1 h5.2.2 h8 h4.2 h3.2 fun c T e hk=>?_,d⟩
  rw [← hl,e] at h9
  have h9:(fd.scope.names.lookup lamX != some .local || fd.code == .ref c) = true:=h9
  rw [hk] at h9
  exact beq_iff_eq.1 h9
theorem row1 (Y:PmOk P) (hK:P.K = K) (hl:P.lam = lam) (h1:K.lookup f = some { cls:=.type "function",data:=.func fd }) (h2:fd.body = .stmts body) (h3:(codeIn K fd.code fd.qualname && scFine fd.scope [x] && keepIn K (.ref f) && lamOk lam fd) = true) (h5:fd.closure = []∧fd.globals = mainGlobals∧fd.builtins = builtinsNs)
    (d:∀ {G:Gx} {n:Nat},GxOk P G→SndFn P G n→∀ hm,SS P G n hm fd.scope body b) (h8:∀ a,bindArgs fd ⟨[a],[]⟩ = pure [(x,a)]):RowOk P (f,([x],b)) :=
  row_of Y hK hl h1 h2 h3 h5 d fun vals h=>by obtain ⟨a,rfl⟩:=len1 h;exact h8 a
theorem row2 (Y:PmOk P) (hK:P.K = K) (hl:P.lam = lam) (h1:K.lookup f = some { cls:=.type "function",data:=.func fd }) (h2:fd.body = .stmts body) (h3:(codeIn K fd.code fd.qualname && scFine fd.scope [x,y] && keepIn K (.ref f) && lamOk lam fd) = true) (h5:fd.closure = []∧fd.globals = mainGlobals∧fd.builtins = builtinsNs)
    (d:∀ {G:Gx} {n:Nat},GxOk P G→SndFn P G n→∀ hm,SS P G n hm fd.scope body b) (h8:∀ a c,bindArgs fd ⟨[a,c],[]⟩ = pure [(x,a),(y,c)]):RowOk P (f,([x,y],b)) :=
  row_of Y hK hl h1 h2 h3 h5 d fun vals h=>by obtain ⟨a,c,rfl⟩:=len2 h;exact h8 a c
theorem row3 (Y:PmOk P) (hK:P.K = K) (hl:P.lam = lam) (h1:K.lookup f = some { cls:=.type "function",data:=.func fd }) (h2:fd.body = .stmts body) (h3:(codeIn K fd.code fd.qualname && scFine fd.scope [x,y,z] && keepIn K (.ref f) && lamOk lam fd) = true) (h5:fd.closure = []∧fd.globals = mainGlobals∧fd.builtins = builtinsNs)
    (d:∀ {G:Gx} {n:Nat},GxOk P G→SndFn P G n→∀ hm,SS P G n hm fd.scope body b) (h8:∀ a c e,bindArgs fd ⟨[a,c,e],[]⟩ = pure [(x,a),(y,c),(z,e)]):RowOk P (f,([x,y,z],b)) :=
  row_of Y hK hl h1 h2 h3 h5 d fun vals h=>by obtain ⟨a,c,e,rfl⟩:=len3 h;exact h8 a c e
theorem row4 (Y:PmOk P) (hK:P.K = K) (hl:P.lam = lam) (h1:K.lookup f = some { cls:=.type "function",data:=.func fd }) (h2:fd.body = .stmts body) (h3:(codeIn K fd.code fd.qualname && scFine fd.scope [x,y,z,u] && keepIn K (.ref f) && lamOk lam fd) = true) (h5:fd.closure = []∧fd.globals = mainGlobals∧fd.builtins = builtinsNs)
    (d:∀ {G:Gx} {n:Nat},GxOk P G→SndFn P G n→∀ hm,SS P G n hm fd.scope body b) (h8:∀ a c e g,bindArgs fd ⟨[a,c,e,g],[]⟩ = pure [(x,a),(y,c),(z,e),(u,g)]):RowOk P (f,([x,y,z,u],b)) :=
  row_of Y hK hl h1 h2 h3 h5 d fun vals h=>by obtain ⟨a,c,e,g,rfl⟩:=len4 h;exact h8 a c e g
theorem row5 (Y:PmOk P) (hK:P.K = K) (hl:P.lam = lam) (h1:K.lookup f = some { cls:=.type "function",data:=.func fd }) (h2:fd.body = .stmts body) (h3:(codeIn K fd.code fd.qualname && scFine fd.scope [x,y,z,u,v] && keepIn K (.ref f) && lamOk lam fd) = true) (h5:fd.closure = []∧fd.globals = mainGlobals∧fd.builtins = builtinsNs)
    (d:∀ {G:Gx} {n:Nat},GxOk P G→SndFn P G n→∀ hm,SS P G n hm fd.scope body b) (h8:∀ a c e g i,bindArgs fd ⟨[a,c,e,g,i],[]⟩ = pure [(x,a),(y,c),(z,e),(u,g),(v,i)]):RowOk P (f,([x,y,z,u,v],b)) :=
  row_of Y hK hl h1 h2 h3 h5 d fun vals h=>by obtain ⟨a,c,e,g,i,rfl⟩:=len5 h;exact h8 a c e g i
end
end Mine
end

section
open PySem PySem.W PyProof.Rows
namespace Mine
noncomputable def topRunT (tb:String→Option Builtin) (p:Program) (w:World) (n₀:Nat) (ann:Option Value):Nat→SharedT→Thread→Option SharedT
  | 0,_,_=>none
  | n + 1,s,t=>match through t with
    | true=>some s
    | false=>match stepOk n₀ ann t with
      | false=>none
      | true=>match stepT (denote tb) p w s t with
        | some (s',t')=>topRunT tb p w n₀ ann n s' t'
        | none=>none
theorem topRun_of {tb:String→Option Builtin} {p:Program} {w:World} {n₀:Nat} {ann:Option Value}:∀ {n:Nat} {s s':SharedT} {t:Thread},topRunT tb p w n₀ ann n s t = some s'→topRun tb p w n₀ ann n s.abs t = some s'.abs
  | 0,_,_,_,h=>by cases h
  | n + 1,s,s',t,h=>by
    unfold topRunT at h
    unfold topRun
    cases he:through t with
    | true=>rw [he] at h;cases h;rfl
    | false =>
      rw [he] at h
      cases hk:stepOk n₀ ann t with
      | false=>rw [hk] at h;cases h
      | true =>
        rw [hk] at h
        cases hs:stepT (denote tb) p w s t with
        | none=>rw [hs] at h;cases h
        | some r=>obtain ⟨s₂,t₂⟩:=r;rw [hs] at h;rw [stepT_spec hs];exact topRun_of h
noncomputable def fillT:List Obj→BT→Nat→Option (BT×Nat)
  | [],t,n=>some (t,n)
  | o :: r,t,n=>match ((t.ins n o).get n).isSome with
    | true=>fillT r (t.ins n o) (n + 1)
    | false=>none
theorem fill_abs {life:Life}:∀ (l:List Obj) (t:BT) (n:Nat) {t':BT} {n':Nat},fillT l t n = some (t',n')→(absHeap t' n' life).objs.toList = (absHeap t n life).objs.toList++l
  | [],t,n,t',n',h=>by cases h;simp
  | o :: r,t,n,t',n',h=>by
    unfold fillT at h
    cases g:((t.ins n o).get n).isSome with
    | false=>rw [g] at h;cases h
    | true =>
      rw [g] at h
      rw [fill_abs r _ _ h,absHeap_ins g]
      show ((absHeap t n life).objs.push o).toList++r = _
      simp
noncomputable def toT (s:Shared):Option SharedT:=match fillT s.heap.objs.toList .nil 0 with
  | some (t,n)=>some ⟨t,n,s.heap.life,s.gens,s.drawn,s.toks,s.os⟩
  | none=>none
theorem toT_abs {s:Shared} {x:SharedT} (h:toT s = some x):x.abs = s:=by
  unfold toT at h
  cases e:fillT s.heap.objs.toList .nil 0 with
  | none=>rw [e] at h;cases h
  | some r =>
    obtain ⟨t,n⟩:=r
    rw [e] at h
    cases h
    have:=fill_abs (life:=s.heap.life) _ _ _ e
    obtain ⟨⟨objs,life⟩,gens,drawn,toks,os⟩:=s
    show Shared.mk (absHeap t n life) gens drawn toks os = _
    congr 1
    have e2:(absHeap t n life).objs.toList = objs.toList:=by simpa [absHeap,BT.list] using this
    have e3:(absHeap t n life).objs = objs:=Array.toList_inj.mp e2
    show Heap.mk (absHeap t n life).objs life = _
    rw [e3]
noncomputable def topFromT (tb:String→Option Builtin) (p:Program) (w:World) (N:Nat) (s₀:Shared):Option Shared :=
  match s₀.heap.isNs mainGlobals && s₀.gens.size == 0 with
  | true=>match toT s₀ with
    | some x=>(topRunT tb p w s₀.heap.objs.size (s₀.heap.nsMap mainGlobals "__annotations__") N x (topStub p)).bind fun s₁=>match staticsOk (importedModules p.main.body) s₀.heap s₁.abs.heap && namesBound p s₁.abs.heap && gensDone s₁.abs && laidKept s₀.heap s₁.abs.heap with
      | true=>some s₁.abs
      | false=>none
    | none=>none
  | false=>none
theorem topFrom_of {tb:String→Option Builtin} {p:Program} {w:World} {N:Nat} {s₀ r:Shared} (h:topFromT tb p w N s₀ = some r):topFrom tb p w N s₀ = some r:=by
  unfold topFromT at h
  unfold topFrom
  cases e:s₀.heap.isNs mainGlobals && s₀.gens.size == 0 with
  | false=>rw [e] at h;cases h
  | true =>
    rw [e] at h
    dsimp only at h ⊢
    cases ex:toT s₀ with
    | none=>rw [ex] at h;cases h
    | some x =>
      rw [ex] at h
      dsimp only at h
      cases er:topRunT tb p w s₀.heap.objs.size (s₀.heap.nsMap mainGlobals "__annotations__") N x (topStub p) with
      | none=>rw [er] at h;cases h
      | some s₁ =>
        rw [er] at h
        have:=topRun_of er
        rw [toT_abs ex] at this
        rw [this]
        exact h
theorem left_of {p q:Program} {loose:List Str} {Xt:Shared→Bool} {α:Type} {Yf:Shared→α} {Ya:World→α} {N:Nat}
    (h:∀ w:World,Option.map (fun s=>(openSeen q loose (importedModules p.main.body) Xt true s,Yf s)) ((fencedOpening treeTable p w N).bind (topFromT treeTable p w N)) = some (openGood q loose,Ya w)):LeftO p q loose Xt Yf Ya N:=by
  intro w
  have h:=h w
  unfold openEnds
  cases e:fencedOpening treeTable p w N with
  | none=>rw [e] at h;cases h
  | some s₀ =>
    rw [e] at h
    simp only [Option.bind_some] at h ⊢
    cases e2:topFromT treeTable p w N s₀ with
    | none=>rw [e2] at h;cases h
    | some r=>rw [e2] at h;rw [topFrom_of e2];exact h
end Mine
end

section
open PySem PyProof.Rows
namespace Mine
theorem lo60 (k:Nat):-2 ^ 60 < (k:Int):=Int.lt_of_lt_of_le (by decide) (Int.natCast_nonneg k)
theorem up60 {k:Nat} (h:k < 2 ^ 60):(k:Int) < 2 ^ 60:=Int.lt_of_lt_of_le (Int.ofNat_lt.2 h) (by decide)
theorem rsize_nat (n:Nat):Builtin.Range.rangeSize 0 (n:Int) 1 = n:=by
  unfold Builtin.Range.rangeSize
  rw [if_pos (by decide)]
  split
  · rw [Int.sub_zero,Int.ediv_one,Int.sub_add_cancel]
  · exact Int.le_antisymm (Int.natCast_nonneg _) (Int.not_lt.1 ‹_›)
theorem rangeL_nat (n:Nat):rangeL 0 (n:Int) 1 = (List.range n).map fun (k:Nat)=>Value.int (k:Int) 0:=by
  unfold rangeL
  rw [rsize_nat]
  refine List.map_congr_left fun k _=>?_
  congr 1;rw [Int.mul_one,Int.zero_add]
theorem rangeL_len (n:Nat):(rangeL 0 (n:Int) 1).length = n:=by rw [rangeL_nat];simp
theorem small_nat {n:Nat} (h:n < 2 ^ 60):Builtin.Range.small 0 (n:Int) 1 = true:=by
  unfold Builtin.Range.small
  rw [rsize_nat]
  simp [Builtin.Range.rangeFitsLong]
  have q:(n:Int) < 9223372036854775808:=Int.ofNat_lt.2 (Nat.lt_trans h (by decide))
  exact ⟨q, .inr q⟩
theorem forG_ind {guard:Hp→Prop} {x:Str} {body:Loc→Hp→QS→Prop} {Q:QS} (I:Nat→Loc→Hp→Prop) {f:Nat→Value} :
    ∀ (m k:Nat),(∀ i l H,I i l H→guard H) →
    (∀ i,k≤i→i < k + m→∀ l H,I i l H→∀ K:QS,(∀ l' H',I (i + 1) l' H'→K .next l' H'∧K .cont l' H')→(∀ r l' H',Q (.ret r) l' H'→K (.ret r) l' H')→body (l.upd x (f i)) H K) →
    (∀ l H,I (k + m) l H→Q .next l H)→∀ l H,I k l H→forG guard x body ((List.range' k m).map f) l H Q
  | 0,k,hg,_,hq,l,H,h=>⟨hg _ _ _ h,hq _ _ h⟩
  | m + 1,k,hg,hb,hq,l,H,h=>by
    refine ⟨hg _ _ _ h,hb k (Nat.le_refl _) (Nat.lt_add_of_pos_right (Nat.succ_pos m)) l H h _ (fun l' H' h'=>?_) fun r l' H' q=>q⟩
    have ih:=forG_ind (guard:=guard) (x:=x) (body:=body) (Q:=Q) I (f:=f) m (k + 1) hg (fun i h1 h2=>hb i (Nat.le_of_succ_le h1) (Nat.succ_add_eq_add_succ k m ▸ h2)) (fun l H h=>hq l H (by rw [show k + (m + 1) = k + 1 + m from (Nat.succ_add_eq_add_succ k m).symm];exact h)) l' H' h'
    exact ⟨ih,ih⟩
theorem forG_range {guard:Hp→Prop} {x:Str} {body:Loc→Hp→QS→Prop} {Q:QS} (I:Nat→Loc→Hp→Prop) {n:Nat} {l:Loc} {H:Hp}
    (hg:∀ i l H,I i l H→guard H)
    (hb:∀ i,i < n→∀ l H,I i l H→∀ K:QS,(∀ l' H',I (i + 1) l' H'→K .next l' H'∧K .cont l' H')→(∀ r l' H',Q (.ret r) l' H'→K (.ret r) l' H')→body (l.upd x (.int (i:Int) 0)) H K)
    (hq:∀ l H,I n l H→Q .next l H) (h:I 0 l H):forG guard x body (rangeL 0 (n:Int) 1) l H Q:=by
  rw [rangeL_nat,List.range_eq_range']
  exact forG_ind I (f:=fun (k:Nat)=>Value.int (k:Int) 0) n 0 hg (fun i _ h2=>hb i (Nat.zero_add n ▸ h2)) (fun l H h=>hq l H (by rw [Nat.zero_add] at h;exact h)) l H h
end Mine
namespace Mine
noncomputable def Ls (l:Loc):List (Str×Value)→Prop
  | []=>True
  | (x,v) :: r=>l x = some v∧Ls l r
section
variable {K:Type} [DecidableEq K]
end
theorem perm_eq {xs ys:List Int} (h:xs.Perm ys) (hx:xs.Pairwise (·≤·)) (hy:ys.Pairwise (·≤·)):xs = ys:=h.eq_of_pairwise (fun a b _ _ h1 h2=>Int.le_antisymm h1 h2) hx hy
end Mine
namespace Mine
theorem forG_list {guard:Hp→Prop} {x:Str} {body:Loc→Hp→QS→Prop} {Q:QS} (I:List Value→Loc→Hp→Prop) (hg:∀ r l H,I r l H→guard H)
    (hb:∀ v r l H,I (v :: r) l H→∀ K:QS,(∀ l' H',I r l' H'→K .next l' H'∧K .cont l' H')→(∀ ρ l' H',Q (.ret ρ) l' H'→K (.ret ρ) l' H')→body (l.upd x v) H K)
    (hq:∀ l H,I [] l H→Q .next l H):∀ (xs:List Value) (l:Loc) (H:Hp),I xs l H→forG guard x body xs l H Q
  | [],l,H,h=>⟨hg _ _ _ h,hq _ _ h⟩
  | v :: r,l,H,h=>⟨hg _ _ _ h,hb v r l H h _ (fun l' H' h'=>⟨forG_list I hg hb hq r l' H' h',forG_list I hg hb hq r l' H' h'⟩) fun _ _ _ q=>q⟩
theorem compG_list {guard:Hp→Prop} {step:Value→Hp→(Option Value→Hp→Prop)→Prop} {k:List Value→Hp→Prop} (I:List Value→List Value→Hp→Prop) (hg:∀ r acc H,I r acc H→guard H)
    (hb:∀ v r acc H,I (v :: r) acc H→∀ K:Option Value→Hp→Prop,(∀ u H',(match u with | some u=>I r (acc++[u]) H' | none=>I r acc H')→K u H')→step v H K)
    (hk:∀ acc H,I [] acc H→k acc H):∀ (xs acc:List Value) (H:Hp),I xs acc H→compG guard step xs acc H k
  | [],acc,H,h=>⟨hg _ _ _ h,hk _ _ h⟩
  | v :: r,acc,H,h=>⟨hg _ _ _ h,hb v r acc H h _ fun u H' h'=>by
      cases u with
      | none=>exact compG_list I hg hb hk r acc H' h'
      | some u=>exact compG_list I hg hb hk r (acc++[u]) H' h'⟩
end Mine
namespace Mine
end Mine
end

section
open PySem PyProof.Rows
namespace Mine
structure Ev (G:Gx) (hm:Bool) (e:Ex) (l:Loc) (H:Hp) (v:Value):Prop where
  run:∀ (Q:QV) (X:XV),Q v H→wpE G hm e l H Q X
structure EvL (G:Gx) (hm:Bool) (es:List Ex) (l:Loc) (H:Hp) (vs:List Value):Prop where
  run:∀ (Q:List Value→Hp→Prop) (X:XV),Q vs H→wpEs G hm es l H Q X
section
variable {G:Gx} {hm:Bool} {l:Loc} {H:Hp}
theorem some_at {α:Type} {o:Option α} {v:α} {k:α→Prop} (h:o = some v) (q:k v):onSome o k:=by subst h;exact q
theorem ev_none:Ev G hm .none l H .none:=.mk fun _ _ q=>q
theorem ev_bool {b:Bool}:Ev G hm (.bool b) l H (.bool b):=.mk fun _ _ q=>q
theorem ev_int {i:Int}:Ev G hm (.int i) l H (.int i 0):=.mk fun _ _ q=>q
theorem ev_str {x:Str}:Ev G hm (.str x) l H (.str x 0):=.mk fun _ _ q=>q
theorem ev_loc {x:Str} {v:Value} (h:l x = some v):Ev G hm (.loc x) l H v:=.mk fun _ _ q=>some_at h q
theorem ev_glob {x:Str} {v:Value} (h:G.glob x = some v):Ev G hm (.glob x) l H v:=.mk fun _ _ q=>some_at h q
noncomputable def nb:Value→Bool
  | .builtin _=>false
  | _=>true
theorem attr_at {x d C:Addr} {a:Str} {Q:QV} {kvs:List (Str×Value)} {v:Value} (hi:H x = some (.inst C d)) (hn:H d = some (.ns kvs)) (hf:G.fld C a = true) (hv:valueAt kvs a = some v) (hb:nb v = true) (q:Q v H):attrV G (.ref x) a H Q:=by
  conv=>whnf
  rw [hi]
  conv=>whnf
  rw [hn]
  refine ⟨hf, ?_⟩
  rw [hv]
  cases v <;> first | exact q | cases hb
theorem ev_attr {o:Ex} {x d C:Addr} {a:Str} {kvs:List (Str×Value)} {v:Value} (ho:Ev G hm o l H (.ref x)) (hi:H x = some (.inst C d)) (hn:H d = some (.ns kvs)) (hf:G.fld C a = true) (hv:valueAt kvs a = some v) (hb:nb v = true):Ev G hm (.attr o a) l H v :=
  .mk fun Q X q=>ho.run (fun v H1=>attrV G v a H1 Q) X (attr_at hi hn hf hv hb q)
section
variable {x y:Ex} {a b:Int} {t u:Tok}
theorem ev_bin {op:Operator} {v w r:Value} (hx:Ev G hm x l H v) (hy:Ev G hm y l H w) (h:∀ Q:QV,Q r H→binV op v w H Q):Ev G hm (.bin op x y) l H r :=
  .mk fun Q X q=>hx.run (fun a H1=>wpE G hm y l H1 (fun b H2=>binV op a b H2 Q) X) X (hy.run (fun b H2=>binV op v b H2 Q) X (h Q q))
theorem ev_add (hx:Ev G hm x l H (.int a t)) (hy:Ev G hm y l H (.int b u)):Ev G hm (.bin .Add x y) l H (.int (a + b) 0):=ev_bin hx hy fun _ q=>q
theorem ev_sub (hx:Ev G hm x l H (.int a t)) (hy:Ev G hm y l H (.int b u)):Ev G hm (.bin .Sub x y) l H (.int (a - b) 0):=ev_bin hx hy fun _ q=>q
theorem ev_mul (hx:Ev G hm x l H (.int a t)) (hy:Ev G hm y l H (.int b u)) (h:a.natAbs < 2 ^ 63∨b.natAbs < 2 ^ 63):Ev G hm (.bin .Mult x y) l H (.int (a * b) 0):=ev_bin hx hy fun _ q=>⟨h,q⟩
theorem ev_div (hx:Ev G hm x l H (.int a t)) (hy:Ev G hm y l H (.int b u)) (h:0 < b) (h2:b < 2 ^ 63):Ev G hm (.bin .FloorDiv x y) l H (.int (a / b) 0):=ev_bin hx hy fun _ q=>⟨h,h2,q⟩
theorem ev_mod (hx:Ev G hm x l H (.int a t)) (hy:Ev G hm y l H (.int b u)) (h:0 < b):Ev G hm (.bin .Mod x y) l H (.int (a % b) 0):=ev_bin hx hy fun _ q=>⟨h,q⟩
theorem ev_pow (hx:Ev G hm x l H (.int a t)) (hy:Ev G hm y l H (.int b u)) (h:0≤b) (h2:b≤100) (h3:a.natAbs < 2 ^ 63):Ev G hm (.bin .Pow x y) l H (.int (a ^ b.toNat) 0):=ev_bin hx hy fun _ q=>⟨h,h2,h3,q⟩
theorem ev_cat {p r:Str} (hx:Ev G hm x l H (.str p t)) (hy:Ev G hm y l H (.str r u)) (h:p.length + r.length≤sizeLine):Ev G hm (.bin .Add x y) l H (.str (p++r) 0):=ev_bin hx hy fun _ q=>⟨h,q⟩
theorem ev_rep {p:Str} (hx:Ev G hm x l H (.str p t)) (hy:Ev G hm y l H (.int b u)) (h:p.length≤1000) (h2:b≤1000) (h3:-1000≤b):Ev G hm (.bin .Mult x y) l H (.str (Txt.mul p b) 0):=ev_bin hx hy fun _ q=>⟨h,h2,h3,q⟩
theorem ev_neg (hx:Ev G hm x l H (.int a t)):Ev G hm (.neg x) l H (.int (-a) 0):=.mk fun Q X q=>hx.run (fun a H1=>match a with | .int i _=>Q (.int (-i) 0) H1 | _=>False) X q
theorem ev_not {b:Bool} (hx:Ev G hm x l H (.bool b)) {z:Bool} (hz:(!b) = z):Ev G hm (.not x) l H (.bool z):=by subst hz;exact .mk fun Q X q=>hx.run (fun a H1=>truthV a fun b=>Q (.bool (!b)) H1) X q
theorem ev_cmp {op:CmpOp} {v w r:Value} (hx:Ev G hm x l H v) (hy:Ev G hm y l H w) (h:∀ Q:QV,Q r H→cmpV op v w H Q):Ev G hm (.cmp x op y) l H r :=
  .mk fun Q X q=>hx.run (fun a H1=>wpE G hm y l H1 (fun b H2=>cmpV op a b H2 Q) X) X (hy.run (fun b H2=>cmpV op v b H2 Q) X (h Q q))
theorem ev_eq (hx:Ev G hm x l H (.int a t)) (hy:Ev G hm y l H (.int b u)) {z:Bool} (hz:(decide (a = b)) = z):Ev G hm (.cmp x .Eq y) l H (.bool z):=by subst hz;exact ev_cmp hx hy fun _ q=>q
theorem ev_ne (hx:Ev G hm x l H (.int a t)) (hy:Ev G hm y l H (.int b u)) {z:Bool} (hz:(!decide (a = b)) = z):Ev G hm (.cmp x .NotEq y) l H (.bool z):=by subst hz;exact ev_cmp hx hy fun _ q=>q
theorem ev_lt (hx:Ev G hm x l H (.int a t)) (hy:Ev G hm y l H (.int b u)) {z:Bool} (hz:(decide (a < b)) = z):Ev G hm (.cmp x .Lt y) l H (.bool z):=by subst hz;exact ev_cmp hx hy fun _ q=>q
theorem ev_gt (hx:Ev G hm x l H (.int a t)) (hy:Ev G hm y l H (.int b u)) {z:Bool} (hz:(decide (b < a)) = z):Ev G hm (.cmp x .Gt y) l H (.bool z):=by subst hz;exact ev_cmp hx hy fun _ q=>q
section
variable {p r:Str}
theorem ev_eqs (hx:Ev G hm x l H (.str p t)) (hy:Ev G hm y l H (.str r u)) {z:Bool} (hz:(decide (p = r)) = z):Ev G hm (.cmp x .Eq y) l H (.bool z):=by subst hz;exact ev_cmp hx hy fun _ q=>q
theorem ev_nes (hx:Ev G hm x l H (.str p t)) (hy:Ev G hm y l H (.str r u)) {z:Bool} (hz:(!decide (p = r)) = z):Ev G hm (.cmp x .NotEq y) l H (.bool z):=by subst hz;exact ev_cmp hx hy fun _ q=>q
end
noncomputable def isN:Value→Option Bool
  | .none=>some true
  | .builtin _=>none
  | _=>some false
theorem in_idict {d:Addr} {kvs:List (Int×Value)} {k:Bool→Prop} (h:H d = some (.idict kvs)) (q:k (valueAt kvs a).isSome):inV (.int a t) (.ref d) H k:=by
  conv=>whnf
  rw [h]
  exact q
theorem ev_in {d:Addr} {kvs:List (Int×Value)} (hx:Ev G hm x l H (.int a t)) (hy:Ev G hm y l H (.ref d)) (h:H d = some (.idict kvs)) {z:Bool} (hz:(valueAt kvs a).isSome = z):Ev G hm (.cmp x .In y) l H (.bool z):=by subst hz;exact ev_cmp hx hy fun Q q=>in_idict (t:=t) (k:=fun r=>Q (.bool r) H) h q
theorem ev_notin {d:Addr} {kvs:List (Int×Value)} (hx:Ev G hm x l H (.int a t)) (hy:Ev G hm y l H (.ref d)) (h:H d = some (.idict kvs)) {z:Bool} (hz:(!(valueAt kvs a).isSome) = z):Ev G hm (.cmp x .NotIn y) l H (.bool z):=by subst hz;exact ev_cmp hx hy fun Q q=>in_idict (t:=t) (k:=fun r=>Q (.bool (!r)) H) h q
theorem ev_ned {c:Addr} {w:Value} {d e:PyData} (hx:Ev G hm x l H (.ref c)) (hy:Ev G hm y l H w) (h1:Rd H (.ref c) d) (h2:Rd H w e) (s1:SeqAt.shaped d = true) (s2:SeqAt.shaped e = true) {z:Bool} (hz:(!PyData.eqv d e) = z):Ev G hm (.cmp x .NotEq y) l H (.bool z):=by subst hz;exact ev_cmp hx hy fun _ q=>⟨d,e,h1,h2,s1,s2,q⟩
theorem ev_one {k:Bool} {b:Bool} (hx:Ev G hm x l H (.bool b)):Ev G hm (.bop k [x]) l H (.bool b):=.mk fun Q X q=>show wpB G hm k [x] l H Q X from hx.run _ _ (by
  show if b = k then Q (.bool b) H else Q (.bool b) H
  split <;> exact q)
theorem ev_stop {k:Bool} {es:List Ex} (hx:Ev G hm x l H (.bool (!k))):Ev G hm (.bop k (x :: es)) l H (.bool (!k)):=.mk fun Q X q=>show wpB G hm k (x :: es) l H Q X from hx.run _ _ (by
  show if (!k) = k then _ else Q (.bool (!k)) H
  rw [if_neg (by cases k <;> exact nofun)];exact q)
theorem ev_go {k b:Bool} {es:List Ex} (hx:Ev G hm x l H (.bool k)) (hr:Ev G hm (.bop k (y :: es)) l H (.bool b)):Ev G hm (.bop k (x :: y :: es)) l H (.bool b):=.mk fun Q X q=>hx.run (fun v H1=>truthV v fun b=>if b = k then wpB G hm k (y :: es) l H1 Q X else Q (.bool b) H1) X (by
  show if k = k then wpB G hm k (y :: es) l H Q X else Q (.bool k) H
  rw [if_pos rfl];exact hr.run Q X q)
noncomputable def isiOf (t:Ty):Value→Option Bool
  | .none=>if t.blt then some false else none
  | .bool _=>if t.blt then some (t == .bool || t == .int) else none
  | .int _ _=>if t.blt then some (t == .int) else none
  | .str _ _=>if t.blt then some (t == .str) else none
  | _=>none
theorem ev_isi {ty:Ty} {v:Value} {b:Bool} (hx:Ev G hm x l H v) (h:isiOf ty v = some b):Ev G hm (.isi x ty) l H (.bool b):=.mk fun Q X q=>hx.run (fun v H1=>isiV G v ty H1 Q) X (by
  cases v <;> simp only [isiOf] at h <;> first
    | (split at h <;> first | (cases h;exact ⟨‹_›,q⟩) | cases h)
    | cases h)
noncomputable def isiObj (t:Ty):AObj→Option Bool
  | .list _=>if t.blt then some (t == .list || t == .listOrTuple) else none
  | .tup _=>if t.blt then some (t == .tuple || t == .listOrTuple) else none
  | .idict _=>if t.blt then some false else none
  | .sdict _=>if t.blt then some false else none
  | _=>none
theorem ev_isir {ty:Ty} {c:Addr} {o:AObj} {b:Bool} (hx:Ev G hm x l H (.ref c)) (hc:H c = some o) (h:isiObj ty o = some b):Ev G hm (.isi x ty) l H (.bool b):=.mk fun Q X q=>hx.run (fun v H1=>isiV G v ty H1 Q) X (by
  show isiV G (.ref c) ty H Q
  conv=>whnf
  rw [hc]
  cases o <;> simp only [isiObj] at h <;> first
    | (split at h <;> first | (cases h;exact ⟨‹_›,q⟩) | cases h)
    | cases h)
theorem ev_idx {v w r:Value} (hx:Ev G hm x l H v) (hy:Ev G hm y l H w) (h:∀ Q:QV,Q r H→idxV v w H Q):Ev G hm (.idx x y) l H r :=
  .mk fun Q X q=>hx.run (fun v H1=>wpE G hm y l H1 (fun k H2=>idxV v k H2 Q) X) X (hy.run (fun k H2=>idxV v k H2 Q) X (h Q q))
noncomputable def seqO:AObj→Option (List Value)
  | .list xs=>some xs
  | .rlist xs=>some xs
  | .tup xs=>some xs
  | _=>none
theorem idx_at {c:Addr} {o:AObj} {xs:List Value} {r:Value} {Q:QV} (hc:H c = some o) (hs:seqO o = some xs) (h:at? xs a = some r) (q:Q r H):idxV (.ref c) (.int a t) H Q:=by
  conv=>whnf
  rw [hc]
  cases o <;> cases hs <;> (conv=>whnf) <;> rw [h] <;> exact q
theorem ev_at {c:Addr} {o:AObj} {xs:List Value} {r:Value} (hx:Ev G hm x l H (.ref c)) (hy:Ev G hm y l H (.int a t)) (hc:H c = some o) (hs:seqO o = some xs) (h:at? xs a = some r):Ev G hm (.idx x y) l H r:=ev_idx hx hy fun _ q=>idx_at hc hs h q
theorem idx_key {c:Addr} {kvs:List (Int×Value)} {r:Value} {Q:QV} (hc:H c = some (.idict kvs)) (h:valueAt kvs a = some r) (q:Q r H):idxV (.ref c) (.int a t) H Q:=by
  conv=>whnf
  rw [hc]
  conv=>whnf
  rw [h]
  exact q
theorem ev_key {c:Addr} {kvs:List (Int×Value)} {r:Value} (hx:Ev G hm x l H (.ref c)) (hy:Ev G hm y l H (.int a t)) (hc:H c = some (.idict kvs)) (h:valueAt kvs a = some r):Ev G hm (.idx x y) l H r:=ev_idx hx hy fun _ q=>idx_key hc h q
theorem ev_chr {p:Str} {c:Nat} (hx:Ev G hm x l H (.str p t)) (hy:Ev G hm y l H (.int a u)) (h:at? p.cps.toList a = some c) (hz:p.length≤sizeLine):Ev G hm (.idx x y) l H (.str (chr1 c) 0):=ev_idx hx hy fun Q q=>by
  conv=>whnf
  rw [h]
  exact ⟨hz,q⟩
end
theorem evl_nil:EvL G hm [] l H []:=.mk fun _ _ q=>q
theorem evl_cons {e:Ex} {es:List Ex} {v:Value} {vs:List Value} (he:Ev G hm e l H v) (hs:EvL G hm es l H vs):EvL G hm (e :: es) l H (v :: vs) :=
  .mk fun Q X q=>he.run (fun v H1=>wpEs G hm es l H1 (fun vs H2=>Q (v :: vs) H2) X) X (hs.run (fun vs H2=>Q (v :: vs) H2) X q)
theorem ev_bf {f:Bf} {es:List Ex} {vs:List Value} {r:Value} (hs:EvL G hm es l H vs) (hh:bfH hm f vs H) (h:∀ Q:QV,Q r H→bfV f vs H Q):Ev G hm (.bf f es) l H r :=
  .mk fun Q X q=>hs.run (fun vs H1=>bfH hm f vs H1∧bfV f vs H1 Q) X ⟨hh,h Q q⟩
theorem len_at {c:Addr} {o:AObj} {xs:List Value} {Q:QV} (hc:H c = some o) (hs:seqO o = some xs) (q:Q (.int xs.length 0) H):lenV (.ref c) H Q:=by
  conv=>whnf
  rw [hc]
  cases o <;> cases hs <;> exact q
theorem ev_len {x:Ex} {c:Addr} {o:AObj} {xs:List Value} (hx:Ev G hm x l H (.ref c)) (hc:H c = some o) (hs:seqO o = some xs):Ev G hm (.bf .len [x]) l H (.int xs.length 0):=ev_bf (evl_cons hx evl_nil) (.inl (.inl rfl)) fun _ q=>len_at hc hs q
section
variable {x y:Ex} {a b:Int} {t u:Tok}
theorem ev_intb {b:Bool} (hx:Ev G hm x l H (.bool b)):Ev G hm (.bf .int [x]) l H (.int (if b then 1 else 0) 0):=ev_bf (evl_cons hx evl_nil) (.inl (.inr rfl)) fun _ q=>q
theorem ev_max (hx:Ev G false x l H (.int a t)) (hy:Ev G false y l H (.int b u)):Ev G false (.bf .max2 [x,y]) l H (.int (max a b) 0):=ev_bf (evl_cons hx (evl_cons hy evl_nil)) (.inr (.inl rfl)) fun _ q=>q
end
end
end Mine
end

section
open PySem PyProof.Rows
namespace Mine
section
variable {G:Gx} {hm:Bool} {l:Loc} {H:Hp} {Q:QV} {X:XV}
theorem w_ev {e:Ex} {v:Value} (h:Ev G hm e l H v) (q:Q v H):wpE G hm e l H Q X:=h.run Q X q
theorem meth_at {x d C f:Addr} {m:Str} {kvs:List (Str×Value)} {k:Addr→Prop} (hi:H x = some (.inst C d)) (hn:H d = some (.ns kvs)) (hf:G.meth C m = some f) (hv:valueAt kvs m = none) (q:k f):methV G (.ref x) m H k:=by
  conv=>whnf
  rw [hi]
  conv=>whnf
  rw [hn,hf]
  exact ⟨hv,q⟩
theorem w_methW {o:Ex} {m:Str} {args:List Ex} {x d C f:Addr} {kvs:List (Str×Value)} (ho:Ev G hm o l H (.ref x)) (hi:H x = some (.inst C d)) (hn:H d = some (.ns kvs)) (hf:G.meth C m = some f) (hv:valueAt kvs m = none)
    (q:wpEs G hm args l H (fun vs H2=>G.fn f hm (.ref x :: vs) H2 Q X) X):wpE G hm (.meth o m args) l H Q X :=
  ho.run (fun v H1=>methV G v m H1 fun f=>wpEs G hm args l H1 (fun vs H2=>G.fn f hm (v :: vs) H2 Q X) X) X (meth_at hi hn hf hv q)
theorem w_meth {o:Ex} {m:Str} {args:List Ex} {x d C f:Addr} {kvs:List (Str×Value)} {vs:List Value} (ho:Ev G hm o l H (.ref x)) (hi:H x = some (.inst C d)) (hn:H d = some (.ns kvs)) (hf:G.meth C m = some f) (hv:valueAt kvs m = none)
    (ha:EvL G hm args l H vs) (q:G.fn f hm (.ref x :: vs) H Q X):wpE G hm (.meth o m args) l H Q X:=w_methW ho hi hn hf hv (ha.run (fun vs H2=>G.fn f hm (.ref x :: vs) H2 Q X) X q)
theorem w_callW {g:Ex} {args:List Ex} {a:Addr} (hg:Ev G hm g l H (.ref a)) (hi:G.init a = none) (q:wpEs G hm args l H (fun vs H2=>G.fn a hm vs H2 Q X) X):wpE G hm (.call g args) l H Q X :=
  hg.run (fun v H1=>wpEs G hm args l H1 (fun vs H2=>callV G hm v vs H2 Q X) X) X (by
    have:(fun vs H2=>callV G hm (.ref a) vs H2 Q X) = fun vs H2=>G.fn a hm vs H2 Q X:=by
      funext vs H2
      show (match G.init a with | some fi=>_ | none=>_) = _
      rw [hi]
    show wpEs G hm args l H (fun vs H2=>callV G hm (.ref a) vs H2 Q X) X
    rw [this];exact q)
theorem w_call {g:Ex} {args:List Ex} {a:Addr} {vs:List Value} (hg:Ev G hm g l H (.ref a)) (hi:G.init a = none) (ha:EvL G hm args l H vs) (q:G.fn a hm vs H Q X):wpE G hm (.call g args) l H Q X:=w_callW hg hi (ha.run (fun vs H2=>G.fn a hm vs H2 Q X) X q)
theorem w_new {g:Ex} {args:List Ex} {C fi:Addr} {vs:List Value} (hg:Ev G hm g l H (.ref C)) (hi:G.init C = some fi) (ha:EvL G hm args l H vs)
    (q:∀ d x,H d = none→H x = none→d≠x→G.fn fi hm (.ref x :: vs) ((H.upd d (.ns [])).upd x (.inst C d)) (fun r H'=>r = .none∧Q (.ref x) H') X):wpE G hm (.call g args) l H Q X :=
  hg.run (fun v H1=>wpEs G hm args l H1 (fun vs H2=>callV G hm v vs H2 Q X) X) X (ha.run (fun vs H2=>callV G hm (.ref C) vs H2 Q X) X (by
    conv=>whnf
    rw [hi]
    exact q))
theorem wl_nil {Q:List Value→Hp→Prop} (q:Q [] H):wpEs G hm [] l H Q X:=q
theorem wl_cons {e:Ex} {es:List Ex} {Q:List Value→Hp→Prop} (q:wpE G hm e l H (fun v H1=>wpEs G hm es l H1 (fun vs H2=>Q (v :: vs) H2) X) X):wpEs G hm (e :: es) l H Q X:=q
theorem w_list {es:List Ex} {vs:List Value} (ha:EvL G hm es l H vs) (hz:vs.length≤sizeLine) (q:∀ c,H c = none→Q (.ref c) (H.upd c (.list vs))):wpE G hm (.list es) l H Q X:=ha.run (fun vs H1=>vs.length≤sizeLine∧newV (.list vs) H1 Q) X ⟨hz,q⟩
theorem w_tup {es:List Ex} {vs:List Value} (ha:EvL G hm es l H vs) (hz:vs.length≤sizeLine) (q:∀ c,H c = none→Q (.ref c) (H.upd c (.tup vs))):wpE G hm (.tup es) l H Q X:=ha.run (fun vs H1=>vs.length≤sizeLine∧newV (.tup vs) H1 Q) X ⟨hz,q⟩
theorem w_tupW {es:List Ex} (q:wpEs G hm es l H (fun vs H1=>vs.length≤sizeLine∧newV (.tup vs) H1 Q) X):wpE G hm (.tup es) l H Q X:=q
theorem w_listW {es:List Ex} (q:wpEs G hm es l H (fun vs H1=>vs.length≤sizeLine∧newV (.list vs) H1 Q) X):wpE G hm (.list es) l H Q X:=q
theorem w_dict0 (q:∀ c,H c = none→Q (.ref c) (H.upd c (.idict []))):wpE G hm (.dict [] []) l H Q X:=Or.inl ⟨rfl,rfl,q⟩
noncomputable def seqI:AObj→Option (List Value)
  | .list xs=>some xs
  | .tup xs=>some xs
  | _=>none
noncomputable def seqS:AObj→Option (List Value)
  | .list xs=>some xs
  | .rlist xs=>some xs
  | _=>none
theorem slice_at {a:Addr} {o:AObj} {xs:List Value} {lo hi:Value} {p r:Option Int} (ha:H a = some o) (hs:seqS o = some xs) (hz:xs.length≤sizeLine) (h1:partOf lo = some p) (h2:partOf hi = some r) (q:∀ c,H c = none→Q (.ref c) (H.upd c (.list (pySlice xs p r)))):sliceV (.ref a) lo hi H Q:=by
  unfold sliceV
  rw [h1,h2]
  show (match H a with | some (.list xs)=>_ | some (.rlist xs)=>_ | _=>False)
  rw [ha]
  cases o <;> cases hs <;> exact ⟨hz,q⟩
theorem w_to {x e:Ex} {a:Addr} {o:AObj} {xs:List Value} {k:Int} {t:Tok} (hx:Ev G hm x l H (.ref a)) (he:Ev G hm e l H (.int k t)) (ha:H a = some o) (hs:seqS o = some xs) (hz:xs.length≤sizeLine) (q:∀ c,H c = none→Q (.ref c) (H.upd c (.list (pySlice xs none (some k))))):wpE G hm (.slice x none (some e)) l H Q X :=
  hx.run (fun v H1=>wpO G hm none l H1 (fun a H2=>wpO G hm (some e) l H2 (fun b H3=>sliceV v a b H3 Q) X) X) X (he.run (fun b H3=>sliceV (.ref a) .none b H3 Q) X (slice_at ha hs hz rfl rfl q))
theorem addl_at {a b:Addr} {xs ys:List Value} (ha:H a = some (.list xs)) (hb:H b = some (.list ys)) (hz:xs.length + ys.length≤sizeLine) (q:∀ c,H c = none→Q (.ref c) (H.upd c (.list (xs++ys)))):binV .Add (.ref a) (.ref b) H Q:=by
  show addR a b H Q
  unfold addR
  rw [ha]
  dsimp only
  rw [hb]
  exact ⟨hz,q⟩
theorem w_binW {op:Operator} {x y:Ex} (q:wpE G hm x l H (fun a H1=>wpE G hm y l H1 (fun b H2=>binV op a b H2 Q) X) X):wpE G hm (.bin op x y) l H Q X:=q
theorem w_cmpW {op:CmpOp} {x y:Ex} (q:wpE G hm x l H (fun a H1=>wpE G hm y l H1 (fun b H2=>cmpV op a b H2 Q) X) X):wpE G hm (.cmp x op y) l H Q X:=q
theorem w_idxW {x y:Ex} (q:wpE G hm x l H (fun v H1=>wpE G hm y l H1 (fun k H2=>idxV v k H2 Q) X) X):wpE G hm (.idx x y) l H Q X:=q
theorem w_notW {x:Ex} (q:wpE G hm x l H (fun a H1=>truthV a fun b=>Q (.bool (!b)) H1) X):wpE G hm (.not x) l H Q X:=q
theorem w_bopW {k:Bool} {es:List Ex} (q:wpB G hm k es l H Q X):wpE G hm (.bop k es) l H Q X:=q
theorem wb_cons {k:Bool} {e e2:Ex} {es:List Ex} (q:wpE G hm e l H (fun v H1=>truthV v fun b=>if b = k then wpB G hm k (e2 :: es) l H1 Q X else Q (.bool b) H1) X):wpB G hm k (e :: e2 :: es) l H Q X:=q
theorem wb_one {k:Bool} {e:Ex} (q:wpE G hm e l H (fun v H1=>truthV v fun b=>Q (.bool b) H1) X):wpB G hm k [e] l H Q X:=by
  have:(fun v (H1:Hp)=>truthV v fun b=>if b = k then Q (.bool b) H1 else Q (.bool b) H1) = fun v H1=>truthV v fun b=>Q (.bool b) H1:=by
    funext v H1;congr 1;funext b;split <;> rfl
  show wpE G hm e l H (fun v H1=>truthV v fun b=>if b = k then Q (.bool b) H1 else Q (.bool b) H1) X
  rw [this];exact q
theorem wb_go {k:Bool} {e e2:Ex} {es:List Ex} (he:Ev G hm e l H (.bool k)) (q:wpB G hm k (e2 :: es) l H Q X):wpB G hm k (e :: e2 :: es) l H Q X:=wb_cons (he.run _ _ (by
  show if k = k then wpB G hm k (e2 :: es) l H Q X else Q (.bool k) H
  rw [if_pos rfl];exact q))
theorem w_bfW {f:Bf} {es:List Ex} (q:wpEs G hm es l H (fun vs H1=>bfH hm f vs H1∧bfV f vs H1 Q) X):wpE G hm (.bf f es) l H Q X:=q
theorem w_range {e:Ex} {n:Int} {t:Tok} (he:Ev G false e l H (.int n t)) (h1:n < 2 ^ 60) (h2:-(2 ^ 60) < n) (q:∀ c,H c = none→Q (.ref c) (H.upd c (.range 0 n 1))):wpE G false (.bf .range [e]) l H Q X :=
  (evl_cons he evl_nil).run (fun vs H1=>bfH false .range vs H1∧bfV .range vs H1 Q) X ⟨.inr (.inl rfl),h1,h2,q⟩
theorem blist_at {a:Addr} {o:AObj} {xs:List Value} (ha:H a = some o) (hs:seqI o = some xs) (hz:xs.length≤sizeLine) (q:∀ c,H c = none→Q (.ref c) (H.upd c (.list xs))):bfV .list [.ref a] H Q:=by
  conv=>whnf
  rw [ha]
  cases o <;> cases hs <;> exact ⟨hz,q⟩
theorem w_blist {e:Ex} {a:Addr} {o:AObj} {xs:List Value} (he:Ev G false e l H (.ref a)) (ha:H a = some o) (hs:seqI o = some xs) (hz:xs.length≤sizeLine) (q:∀ c,H c = none→Q (.ref c) (H.upd c (.list xs))):wpE G false (.bf .list [e]) l H Q X :=
  (evl_cons he evl_nil).run (fun vs H1=>bfH false .list vs H1∧bfV .list vs H1 Q) X ⟨.inr (.inl rfl),blist_at ha hs hz q⟩
theorem w_blistL {e:Ex} {a:Addr} {xs:List Value} (he:Ev G hm e l H (.ref a)) (ha:H a = some (.list xs)) (hz:xs.length≤sizeLine) (q:∀ c,H c = none→Q (.ref c) (H.upd c (.list xs))):wpE G hm (.bf .list [e]) l H Q X :=
  (evl_cons he evl_nil).run (fun vs H1=>bfH hm .list vs H1∧bfV .list vs H1 Q) X ⟨.inr (.inr (.inl ⟨rfl,a,xs,rfl,ha⟩)),blist_at ha rfl hz q⟩
theorem app_at {a:Addr} {xs:List Value} {v:Value} (ha:H a = some (.list xs)) (hz:xs.length≤sizeLine) (q:Q .none (H.upd a (.list (xs++[v])))):bmV .list .append (.ref a) [v] H Q:=by
  conv=>whnf
  rw [ha]
  exact ⟨hz,q⟩
theorem w_appendW {o e:Ex} {a:Addr} {xs:List Value} (ho:Ev G hm o l H (.ref a)) (ha:H a = some (.list xs)) (q:wpE G hm e l H (fun v H1=>bmV .list .append (.ref a) [v] H1 Q) X):wpE G hm (.bm .append o [e]) l H Q X :=
  ho.run (fun v H1=>bmOn .append v H1 fun b=>wpEs G hm [e] l H1 (fun vs H2=>bmV b .append v vs H2 Q) X) X (by
    conv=>whnf
    rw [ha]
    exact ⟨.inl rfl,q⟩)
theorem w_pop {o:Ex} {a:Addr} {xs:List Value} {v:Value} (ho:Ev G hm o l H (.ref a)) (ha:H a = some (.list xs)) (hz:xs.length≤sizeLine) (hv:xs.getLast? = some v) (q:Q v (H.upd a (.list xs.dropLast))):wpE G hm (.bm .pop o []) l H Q X :=
  ho.run (fun v H1=>bmOn .pop v H1 fun b=>wpEs G hm [] l H1 (fun vs H2=>bmV b .pop v vs H2 Q) X) X (by
    conv=>whnf
    rw [ha]
    exact ⟨.inr rfl,by
      conv=>whnf
      rw [ha]
      refine ⟨hz, ?_⟩
      rw [hv]
      exact q⟩)
theorem w_dpop {o e:Ex} {a:Addr} {kvs:List (Int×Value)} {k:Int} {t:Tok} {v:Value} (ho:Ev G hm o l H (.ref a)) (he:Ev G hm e l H (.int k t)) (ha:H a = some (.idict kvs)) (hz:kvs.length≤sizeLine) (hv:valueAt kvs k = some v) (q:Q v (H.upd a (.idict (PySem.without kvs k)))):wpE G hm (.bm .pop o [e]) l H Q X :=
  ho.run (fun v H1=>bmOn .pop v H1 fun b=>wpEs G hm [e] l H1 (fun vs H2=>bmV b .pop v vs H2 Q) X) X (by
    conv=>whnf
    rw [ha]
    exact ⟨rfl,(evl_cons he evl_nil).run _ _ (by
      conv=>whnf
      rw [ha]
      refine ⟨hz, ?_⟩
      rw [hv]
      exact q)⟩)
noncomputable def ca (l:Loc) (x:Str) (v:Value):Loc:=(l.del ".0").upd x v
theorem iter_at {a:Addr} {o:AObj} {xs:List Value} {k:(Hp→Prop)→List Value→Prop} (ha:H a = some o) (hs:seqI o = some xs) (q:k (fun H'=>H' a = some o) xs):iterV (.ref a) H k:=by
  conv=>whnf
  rw [ha]
  cases o <;> cases hs <;> exact q
theorem comp_run {guard:Hp→Prop} {step:Value→Hp→(Option Value→Hp→Prop)→Prop} {p:Value→Bool} {f:Value→Value} (hg:guard H):∀ (items acc:List Value) {k:List Value→Hp→Prop},
    (∀ v∈items,∀ k':Option Value→Hp→Prop,(if p v then k' (some (f v)) H else k' none H)→step v H k')→k (acc++(items.filter p).map f) H→compG guard step items acc H k
  | [],acc,k,_,h=>⟨hg,by simpa using h⟩
  | v :: vs,acc,k,hs,h=>⟨hg,hs v (List.mem_cons_self ..) _ (by
      have ih:=comp_run (p:=p) (f:=f) hg (step:=step) vs
      cases e:p v with
      | true =>
        rw [List.filter_cons,if_pos e] at h
        exact ih (acc++[f v]) (fun u hu=>hs u (List.mem_cons_of_mem _ hu)) (by simpa using h)
      | false =>
        rw [List.filter_cons,if_neg (by rw [e];exact nofun)] at h
        exact ih acc (fun u hu=>hs u (List.mem_cons_of_mem _ hu)) h)⟩
theorem ev_all0:Ev G hm (.bop true []) l H (.bool true):=.mk fun _ _ q=>q
theorem comp_runM {β:Type} {R:Value→β→Prop} {guard:Hp→Prop} {step:Value→Hp→(Option Value→Hp→Prop)→Prop} {g:β→Value} (hg:guard H) {items:List Value} {ys:List β} (hr:All2 R items ys):∀ (acc:List Value) {k:List Value→Hp→Prop},
    (∀ v y,R v y→∀ k':Option Value→Hp→Prop,k' (some (g y)) H→step v H k')→k (acc++ys.map g) H→compG guard step items acc H k:=by
  induction hr with
  | nil=>intro acc k _ h;exact ⟨hg,by simpa using h⟩
  | @cons v y vs ys e _ ih =>
    intro acc k hs h
    exact ⟨hg,hs v y e _ (ih (acc++[g y]) hs (by simpa using h))⟩
theorem w_mapA {β:Type} {R:Value→β→Prop} {elt src:Ex} {x:Str} {a:Addr} {o:AObj} {xs:List Value} {ys:List β} (g:β→Value) (he:Ev G false src l H (.ref a)) (ha:H a = some o) (hs:seqI o = some xs) (hz:xs.length≤sizeLine) (hr:All2 R xs ys)
    (hf:∀ v y,R v y→Ev G false elt (ca l x v) H (g y)) (q:∀ c,H c = none→Q (.ref c) (H.upd c (.list (ys.map g)))):wpE G false (.comp elt x src []) l H Q X :=
  he.run (fun v H1=>iterH false v H1 fun guard items=>items.length≤sizeLine ∧
      compG guard (fun v H2 k=>wpB G false true [] ((l.del ".0").upd x v) H2 (fun c H3=>truthV c fun r =>
        if r then wpE G false elt ((l.del ".0").upd x v) H3 (fun u H4=>k (some u) H4) (fun _ _=>False) else k none H3) (fun _ _=>False)) items [] H1
        fun us H'=>newV (.list us) H' Q) X (.inl ⟨rfl,iter_at ha hs ⟨hz,comp_runM (g:=g) ha hr [] (fun v y e k' hk=>(hf v y e).run _ _ hk) (by rw [List.nil_append];exact q)⟩⟩)
theorem w_compI {elt src:Ex} {x:Str} {a:Addr} {o:AObj} {xs:List Value} (I:List Value→List Value→Hp→Prop) (he:Ev G false src l H (.ref a)) (ha:H a = some o) (hs:seqI o = some xs) (hz:xs.length≤sizeLine)
    (hg:∀ r acc H',I r acc H'→H' a = some o) (hb:∀ v r acc H',I (v :: r) acc H'→∀ K:QV,(∀ u H'',I r (acc++[u]) H''→K u H'')→wpE G false elt (ca l x v) H' K (fun _ _=>False)) (h0:I xs [] H) (q:∀ acc H',I [] acc H'→∀ c,H' c = none→Q (.ref c) (H'.upd c (.list acc))):wpE G false (.comp elt x src []) l H Q X :=
  he.run (fun v H1=>iterH false v H1 fun guard items=>items.length≤sizeLine ∧
      compG guard (fun v H2 k=>wpB G false true [] ((l.del ".0").upd x v) H2 (fun c H3=>truthV c fun r =>
        if r then wpE G false elt ((l.del ".0").upd x v) H3 (fun u H4=>k (some u) H4) (fun _ _=>False) else k none H3) (fun _ _=>False)) items [] H1
        fun us H'=>newV (.list us) H' Q) X (.inl ⟨rfl,iter_at ha hs ⟨hz,compG_list I hg (fun v r acc H' h K hK=>hb v r acc H' h (fun u H4=>K (some u) H4) fun u H'' h'=>hK (some u) H'' h') q xs [] H h0⟩⟩)
theorem w_compRI {elt n:Ex} {x:Str} {k:Nat} {t:Tok} (I:Nat→List Value→Hp→Prop) (hn:Ev G false n l H (.int (k:Int) t)) (hz:k≤sizeLine)
    (hb:∀ i < k,∀ acc H',I i acc H'→∀ K:QV,(∀ u H'',I (i + 1) (acc++[u]) H''→K u H'')→wpE G false elt (ca l x (.int (i:Int) 0)) H' K (fun _ _=>False)) (h0:∀ d,H d = none→I 0 [] (H.upd d (.range 0 k 1))) (q:∀ acc H',I k acc H'→∀ c,H' c = none→Q (.ref c) (H'.upd c (.list acc))):wpE G false (.comp elt x (.bf .range [n]) []) l H Q X:=by
  have hz2:(k:Int) < 2 ^ 60:=Int.lt_of_le_of_lt (Int.ofNat_le.2 hz) (by decide)
  refine w_range (Q:=fun v H1=>iterH false v H1 fun guard items=>items.length≤sizeLine ∧
      compG guard (fun v H2 k=>wpB G false true [] ((l.del ".0").upd x v) H2 (fun c H3=>truthV c fun r =>
        if r then wpE G false elt ((l.del ".0").upd x v) H3 (fun u H4=>k (some u) H4) (fun _ _=>False) else k none H3) (fun _ _=>False)) items [] H1
        fun us H'=>newV (.list us) H' Q) hn hz2 (lo60 k) fun d hd=>.inl ⟨rfl, ?_⟩
  have h1:=h0 d hd
  have hdd:(H.upd d (.range 0 k 1)) d = some (.range 0 k 1):=Hp.upd_same _ _ _
  generalize H.upd d (.range 0 k 1) = H1 at *
  conv=>whnf
  rw [hdd]
  refine ⟨small_nat (Nat.lt_of_le_of_lt hz (by decide)),by rw [rangeL_len];exact hz, ?_⟩
  rw [rangeL_nat,List.range_eq_range']
  have key:∀ (m j:Nat) (acc:List Value) (H':Hp),j + m = k→I j acc H'→compG (fun _=>True) (fun v H2 k=>wpB G false true [] ((l.del ".0").upd x v) H2 (fun c H3=>truthV c fun r =>
        if r then wpE G false elt ((l.del ".0").upd x v) H3 (fun u H4=>k (some u) H4) (fun _ _=>False) else k none H3) (fun _ _=>False)) ((List.range' j m).map fun (i:Nat)=>Value.int (i:Int) 0) acc H' fun us H'=>newV (.list us) H' Q:=by
    intro m
    induction m with
    | zero=>intro j acc H' hj hI;exact ⟨trivial,q acc H' (by rw [Nat.add_zero] at hj;rw [← hj];exact hI)⟩
    | succ m ih =>
      intro j acc H' hj hI
      exact ⟨trivial,hb j (Nat.lt_of_lt_of_le (Nat.lt_add_of_pos_right (Nat.succ_pos m)) (Nat.le_of_eq hj)) acc H' hI _ fun u H'' hI'=>ih (j + 1) (acc++[u]) H'' ((Nat.succ_add_eq_add_succ j m).trans hj) hI'⟩
  exact key k 0 [] H1 (Nat.zero_add k) h1
theorem w_compr {elt n:Ex} {x:Str} {ifs:List Ex} {k:Nat} {t:Tok} (p:Value→Bool) (f:Value→Value) (hn:Ev G false n l H (.int (k:Int) t)) (hz:k≤sizeLine)
    (hp:∀ i < k,∀ H',(∀ a o,H a = some o→H' a = some o)→Ev G false (.bop true ifs) (ca l x (.int (i:Int) 0)) H' (.bool (p (.int (i:Int) 0)))) (hf:∀ i < k,∀ H',(∀ a o,H a = some o→H' a = some o)→p (.int (i:Int) 0) = true→Ev G false elt (ca l x (.int (i:Int) 0)) H' (f (.int (i:Int) 0)))
    (q:∀ d c,H d = none→H c = none→c≠d→Q (.ref c) ((H.upd d (.range 0 k 1)).upd c (.list ((((List.range k).map fun (i:Nat)=>Value.int (i:Int) 0).filter p).map f)))):wpE G false (.comp elt x (.bf .range [n]) ifs) l H Q X:=by
  have hz2:(k:Int) < 2 ^ 60:=Int.lt_of_le_of_lt (Int.ofNat_le.2 hz) (by decide)
  refine w_range (Q:=fun v H1=>iterH false v H1 fun guard items=>items.length≤sizeLine ∧
      compG guard (fun v H2 k=>wpB G false true ifs ((l.del ".0").upd x v) H2 (fun c H3=>truthV c fun r =>
        if r then wpE G false elt ((l.del ".0").upd x v) H3 (fun u H4=>k (some u) H4) (fun _ _=>False) else k none H3) (fun _ _=>False)) items [] H1
        fun us H'=>newV (.list us) H' Q) hn hz2 (lo60 k) fun d hd=>.inl ⟨rfl, ?_⟩
  have hk:∀ a o,H a = some o→(H.upd d (.range 0 k 1)) a = some o:=fun a o e=>(Hp.upd_ne _ _ fun z=>by rw [z,hd] at e;cases e).trans e
  have hdd:(H.upd d (.range 0 k 1)) d = some (.range 0 k 1):=Hp.upd_same _ _ _
  have q':∀ c,(H.upd d (.range 0 k 1)) c = none→Q (.ref c) ((H.upd d (.range 0 k 1)).upd c (.list ((((List.range k).map fun (i:Nat)=>Value.int (i:Int) 0).filter p).map f))):=fun c hc=>by
    have hcd:c≠d:=fun z=>by rw [z,hdd] at hc;cases hc
    refine q d c hd ?_ hcd
    rw [Hp.upd_ne _ _ hcd] at hc;exact hc
  generalize H.upd d (.range 0 k 1) = H1 at *
  conv=>whnf
  rw [hdd]
  refine ⟨small_nat (Nat.lt_of_le_of_lt hz (by decide)), ?_⟩
  rw [rangeL_nat]
  refine ⟨by simpa using hz,comp_run (p:=p) (f:=f) trivial _ [] (fun v hv k' hk'=>?_) (by rw [List.nil_append];exact q')⟩
  obtain ⟨i,hi,rfl⟩:=List.mem_map.1 hv
  have hi:=List.mem_range.1 hi
  refine (hp i hi H1 hk).run _ _ ?_
  show if p (.int (i:Int) 0) = true then _ else _
  cases e:p (.int (i:Int) 0) with
  | true=>rw [e] at hk';exact (hf i hi H1 hk e).run _ _ hk'
  | false=>rw [e] at hk';exact hk'
end
end Mine
end

section
open PySem PyProof.Rows
namespace Mine
section
variable {G:Gx} {hm:Bool} {l:Loc} {H:Hp} {Q:QS} {X:XS} {r:List Sm}
noncomputable def sq (G:Gx) (hm:Bool) (r:List Sm) (Q:QS) (X:XS):QS:=fun f l' H'=>match f with | .next=>wpSs G hm r l' H' Q X | f=>Q f l' H'
theorem ss_nl (q:Q .next l H):wpSs G hm [] l H Q X:=q
theorem sq_next (q:wpSs G hm r l H Q X):sq G hm r Q X .next l H:=q
theorem ss_sq (q:wpSs G hm r l H Q X):wpSs G hm [] l H (sq G hm r Q X) X:=q
theorem ss_asgW {x:Str} {e:Ex} (q:wpE G hm e l H (fun v H'=>wpSs G hm r (l.upd x v) H' Q X) (fun C H'=>X C l H')):wpSs G hm (.asg x e :: r) l H Q X:=q
theorem ss_asg {x:Str} {e:Ex} {v:Value} (he:Ev G hm e l H v) (q:wpSs G hm r (l.upd x v) H Q X):wpSs G hm (.asg x e :: r) l H Q X:=ss_asgW (w_ev he q)
theorem ss_exprW {e:Ex} (q:wpE G hm e l H (fun _ H'=>wpSs G hm r l H' Q X) (fun C H'=>X C l H')):wpSs G hm (.expr e :: r) l H Q X:=q
theorem ss_retW {e:Ex} (q:wpE G hm e l H (fun v H'=>Q (.ret v) l H') (fun C H'=>X C l H')):wpSs G hm (.ret e :: r) l H Q X:=q
theorem ss_ret {e:Ex} {v:Value} (he:Ev G hm e l H v) (q:Q (.ret v) l H):wpSs G hm (.ret e :: r) l H Q X:=ss_retW (w_ev he q)
theorem ss_ifW {c:Ex} {t f:List Sm} (q:wpE G hm c l H (fun v H1=>truthV v fun b=>if b then wpSs G hm t l H1 (sq G hm r Q X) X else wpSs G hm f l H1 (sq G hm r Q X) X) (fun C H'=>X C l H')):wpSs G hm (.ite c t f :: r) l H Q X:=q
theorem ss_if {c:Ex} {t f:List Sm} {b:Bool} (hc:Ev G hm c l H (.bool b)) (ht:b = true→wpSs G hm t l H (sq G hm r Q X) X) (hf:b = false→wpSs G hm f l H (sq G hm r Q X) X):wpSs G hm (.ite c t f :: r) l H Q X:=ss_ifW (w_ev hc (by
  show if b = true then _ else _
  cases b
  · exact hf rfl
  · exact ht rfl))
theorem ss_ift {c:Ex} {t f:List Sm} (hc:Ev G hm c l H (.bool true)) (q:wpSs G hm t l H (sq G hm r Q X) X):wpSs G hm (.ite c t f :: r) l H Q X:=ss_if hc (fun _=>q) nofun
theorem ss_iff {c:Ex} {t f:List Sm} (hc:Ev G hm c l H (.bool false)) (q:wpSs G hm f l H (sq G hm r Q X) X):wpSs G hm (.ite c t f :: r) l H Q X:=ss_if hc nofun (fun _=>q)
theorem ss_iff0 {c:Ex} {t:List Sm} (hc:Ev G hm c l H (.bool false)) (q:wpSs G hm r l H Q X):wpSs G hm (.ite c t [] :: r) l H Q X:=ss_iff hc q
theorem ss_raise {c:Str} {C:Addr} (hh:hm = false) (hg:G.glob c = some (.ref C)) (he:G.isExc C = true) (q:X C l H):wpSs G hm (.raise c :: r) l H Q X:=by
  show hm = false∧(match G.glob c with | some (.ref C)=>G.isExc C = true∧X C l H | _=>False)
  rw [hg];exact ⟨hh,he,q⟩
theorem setattr_at {x d C:Addr} {a:Str} {kvs:List (Str×Value)} {v:Value} {k:Hp→Prop} (hi:H x = some (.inst C d)) (hn:H d = some (.ns kvs)) (hf:G.fld C a = true) (hz:kvs.length≤100) (q:k (H.upd d (.ns (stored kvs a v)))):setAttrV G (.ref x) a v H k:=by
  conv=>whnf
  rw [hi]
  conv=>whnf
  rw [hn]
  exact ⟨hf,hz,q⟩
theorem ss_setW {o:Ex} {a:Str} {e:Ex} (q:wpE G hm e l H (fun v H1=>wpE G hm o l H1 (fun ov H2=>setAttrV G ov a v H2 fun H'=>wpSs G hm r l H' Q X) (fun C H'=>X C l H')) (fun C H'=>X C l H')):wpSs G hm (.asgAttr o a e :: r) l H Q X:=q
theorem ss_set {o:Ex} {a:Str} {e:Ex} {v:Value} {x d C:Addr} {kvs:List (Str×Value)} (he:Ev G hm e l H v) (ho:Ev G hm o l H (.ref x)) (hi:H x = some (.inst C d)) (hn:H d = some (.ns kvs)) (hf:G.fld C a = true) (hz:kvs.length≤100)
    (q:wpSs G hm r l (H.upd d (.ns (stored kvs a v))) Q X):wpSs G hm (.asgAttr o a e :: r) l H Q X:=ss_setW (w_ev he (w_ev ho (setattr_at hi hn hf hz q)))
theorem setkey_at {d:Addr} {kvs:List (Int×Value)} {n:Int} {t:Tok} {v:Value} {k:Hp→Prop} (hd:H d = some (.idict kvs)) (hz:kvs.length≤sizeLine) (q:k (H.upd d (.idict (stored kvs n v)))):setItemV (.ref d) (.int n t) v H k:=by
  conv=>whnf
  rw [hd]
  exact ⟨hz,q⟩
theorem ss_keyW {o i e:Ex} (q:wpE G hm e l H (fun v H1=>wpE G hm o l H1 (fun ov H2=>wpE G hm i l H2 (fun iv H3=>setItemV ov iv v H3 fun H'=>wpSs G hm r l H' Q X) (fun C H'=>X C l H')) (fun C H'=>X C l H')) (fun C H'=>X C l H')):wpSs G hm (.asgIdx o i e :: r) l H Q X:=q
theorem ss_key {o i e:Ex} {v:Value} {d:Addr} {kvs:List (Int×Value)} {n:Int} {t:Tok} (he:Ev G hm e l H v) (ho:Ev G hm o l H (.ref d)) (hi:Ev G hm i l H (.int n t)) (hd:H d = some (.idict kvs)) (hz:kvs.length≤sizeLine)
    (q:wpSs G hm r l (H.upd d (.idict (stored kvs n v))) Q X):wpSs G hm (.asgIdx o i e :: r) l H Q X:=ss_keyW (w_ev he (w_ev ho (w_ev hi (setkey_at hd hz q))))
theorem ss_cont (q:Q .cont l H):wpSs G hm (.cont :: r) l H Q X:=q
theorem tv_t {t f:Prop} (q:t):truthV (.bool true) fun b=>if b = true then t else f:=by
  show if true = true then t else f
  rw [if_pos rfl];exact q
theorem tv_f {t f:Prop} (q:f):truthV (.bool false) fun b=>if b = true then t else f:=by
  show if false = true then t else f
  rw [if_neg nofun];exact q
theorem bo_go {k:Bool} {t:Prop} {f:Bool→Prop} (q:t):truthV (.bool k) fun b=>if b = k then t else f b:=by
  show if k = k then t else f k
  rw [if_pos rfl];exact q
theorem bo_stop {k:Bool} {t:Prop} {f:Bool→Prop} (q:f (!k)):truthV (.bool (!k)) fun b=>if b = k then t else f b:=by
  show if (!k) = k then t else f (!k)
  rw [if_neg (by cases k <;> exact nofun)];exact q
theorem cmp_is {v:Value} {b:Bool} {Q:QV} (h:isN v = some b) (q:Q (.bool b) H):cmpV .Is v .none H Q:=by cases v <;> first | (cases h;exact q) | cases h
theorem ss_forW {x:Str} {src:Ex} {body:List Sm} (q:wpE G hm src l H (fun v H1=>iterH hm v H1 fun guard items=>forG guard x (fun l' H' K=>wpSs G hm body l' H' K X) items l H1 (sq G hm r Q X)) (fun C H'=>X C l H')):wpSs G hm (.for_ x src body :: r) l H Q X:=q
theorem ss_for {x:Str} {src:Ex} {body:List Sm} {a:Addr} {o:AObj} {xs:List Value} (hs:Ev G false src l H (.ref a)) (ha:H a = some o) (ho:seqI o = some xs)
    (q:forG (fun H'=>H' a = some o) x (fun l' H' K=>wpSs G false body l' H' K X) xs l H (sq G false r Q X)):wpSs G false (.for_ x src body :: r) l H Q X:=ss_forW (w_ev hs (.inl ⟨rfl,iter_at ha ho q⟩))
theorem ss_forI {x:Str} {src:Ex} {body:List Sm} {a:Addr} {o:AObj} {xs:List Value} (I:List Value→Loc→Hp→Prop) (hs:Ev G false src l H (.ref a)) (ha:H a = some o) (ho:seqI o = some xs)
    (hg:∀ r l H,I r l H→H a = some o)
    (hb:∀ v rs l' H',I (v :: rs) l' H'→∀ K:QS,(∀ l' H',I rs l' H'→K .next l' H'∧K .cont l' H')→(∀ ρ l' H',Q (.ret ρ) l' H'→K (.ret ρ) l' H')→wpSs G false body (l'.upd x v) H' K X)
    (h0:I xs l H) (hq:∀ l' H',I [] l' H'→wpSs G false r l' H' Q X):wpSs G false (.for_ x src body :: r) l H Q X :=
  ss_for hs ha ho (forG_list I hg hb hq xs l H h0)
theorem ss_forR {x:Str} {e:Ex} {body:List Sm} {n:Nat} {t:Tok} (I:Nat→Loc→Hp→Prop) (he:Ev G false e l H (.int (n:Int) t)) (hz:n < 2 ^ 60)
    (hb:∀ i,i < n→∀ l' H',I i l' H'→∀ K:QS,(∀ l' H',I (i + 1) l' H'→K .next l' H'∧K .cont l' H')→(∀ ρ l' H',Q (.ret ρ) l' H'→K (.ret ρ) l' H')→wpSs G false body (l'.upd x (.int (i:Int) 0)) H' K X)
    (h0:∀ c,H c = none→I 0 l (H.upd c (.range 0 n 1))) (hq:∀ l' H',I n l' H'→wpSs G false r l' H' Q X):wpSs G false (.for_ x (.bf .range [e]) body :: r) l H Q X :=
  ss_forW (w_range he (up60 hz) (lo60 n) fun c hc=>.inl ⟨rfl,by
    have h1:=h0 c hc
    have hcc:(H.upd c (.range 0 n 1)) c = some (.range 0 n 1):=Hp.upd_same _ _ _
    generalize H.upd c (.range 0 n 1) = H1 at *
    conv=>whnf
    rw [hcc]
    exact ⟨small_nat hz,forG_range I (fun _ _ _ _=>trivial) hb hq h1⟩⟩)
theorem ss_while {c:Ex} {body:List Sm} (n:Nat) (q:whileN (fun l' H' K=>wpE G hm c l' H' (fun v H1=>truthV v fun b=>K b H1) (fun C H'=>X C l' H')) (fun l' H' K=>wpSs G hm body l' H' K X) (sq G hm r Q X) n l H):wpSs G hm (.while_ c body :: r) l H Q X:=⟨n,q⟩
theorem ss_tryW {body:List Sm} {hs:List Hd} (q:wpSs G hm body l H (sq G hm r Q X) fun C l' H'=>hm = false∧G.isExc C = true∧wpH G hs C l' H' (sq G hm r Q X) X):wpSs G hm (.try_ body hs :: r) l H Q X:=q
theorem wh_hit {c:Str} {n:Option Str} {body:List Sm} {hs:List Hd} {C D:Addr} (hg:G.glob c = some (.ref D)) (he:G.isExc D = true) (hsub:G.sub C D = true) (q:wpSs G true body l H Q (fun _ _ _=>False)):wpH G (.mk c none body :: hs) C l H Q X:=by
  show (match G.glob c with | some (.ref D)=>_ | _=>False)
  rw [hg]
  refine ⟨he, ?_⟩
  rw [if_pos hsub]
  exact q
noncomputable def fq (Q:QV):QS:=fun f _ H'=>match f with | .next=>Q .none H' | .ret v=>Q v H' | .cont=>False
noncomputable def fx (X:XV):XS:=fun C _ H'=>X C H'
theorem f_in {ps:List Str} {body:List Sm} {args:List Value} {Q:QV} {X:XV} (hl:ps.length = args.length) (q:wpSs G hm body (fun x=>(ps.zip args).lookup x) H (fq Q) (fx X)):wpF G hm ps body args H Q X:=⟨hl,q⟩
end
end Mine
end

section
open PySem PyProof.Rows
namespace Mine.St
open Mine
noncomputable def b_Pile___init__:List Sm:=[.asgAttr (.loc "self") "boxes" (.dict [] []), .asgAttr (.loc "self") "counts" (.dict [] []), .asgAttr (.loc "self") "made" (.int 0)]
noncomputable def b_Pile_need:List Sm:=[.ite (.bop false [.isi (.loc "box") .bool, .not (.isi (.loc "box") .int), .cmp (.loc "box") .NotIn (.attr (.loc "self") "boxes")]) [.raise "NoBox"] [], .ret (.loc "box")]
noncomputable def b_Pile_fresh:List Sm:=[.asgAttr (.loc "self") "made" (.bin .Add (.attr (.loc "self") "made") (.int 1)), .asgIdx (.attr (.loc "self") "boxes") (.attr (.loc "self") "made") (.loc "what"), .asgIdx (.attr (.loc "self") "counts") (.attr (.loc "self") "made") (.int 0), .ret (.attr (.loc "self") "made")]
noncomputable def b_Pile_leaf:List Sm:=[.ret (.meth (.loc "self") "fresh" [.tup [.str "leaf", .loc "number"]])]
noncomputable def b_Pile_branch:List Sm:=[.for_ "row" (.loc "rows") [.expr (.meth (.loc "self") "need" [.idx (.loc "row") (.int 1)])], .for_ "row" (.loc "rows") [.expr (.meth (.loc "self") "hold" [.idx (.loc "row") (.int 1)])], .ret (.meth (.loc "self") "fresh" [.tup [.str "branch", .bf .list [.loc "rows"]]])]
noncomputable def b_Pile_content:List Sm:=[.asg "what" (.idx (.attr (.loc "self") "boxes") (.meth (.loc "self") "need" [.loc "box"])), .ite (.cmp (.idx (.loc "what") (.int 0)) .Eq (.str "branch")) [.ret (.tup [.str "branch", .bf .list [.idx (.loc "what") (.int 1)]])] [], .ret (.loc "what")]
noncomputable def b_Pile_hold:List Sm:=[.expr (.meth (.loc "self") "need" [.loc "box"]), .asgIdx (.attr (.loc "self") "counts") (.loc "box") (.bin .Add (.idx (.attr (.loc "self") "counts") (.loc "box")) (.int 1))]
noncomputable def b_Pile_holders:List Sm:=[.ret (.idx (.attr (.loc "self") "counts") (.meth (.loc "self") "need" [.loc "box"]))]
noncomputable def b_Pile_let_go:List Sm:=[.asg "waiting" (.list [.meth (.loc "self") "need" [.loc "box"]]), .asg "gone" (.int 0), .while_ (.cmp (.loc "waiting") .NotEq (.list [])) [.asg "one" (.bm .pop (.loc "waiting") []), .ite (.cmp (.loc "one") .NotIn (.attr (.loc "self") "boxes")) [.cont] [], .asgIdx (.attr (.loc "self") "counts") (.loc "one") (.bf .max2 [.int 0, .bin .Sub (.idx (.attr (.loc "self") "counts") (.loc "one")) (.int 1)]), .ite (.cmp (.idx (.attr (.loc "self") "counts") (.loc "one")) .Eq (.int 0)) [.asg "what" (.bm .pop (.attr (.loc "self") "boxes") [.loc "one"]), .expr (.bm .pop (.attr (.loc "self") "counts") [.loc "one"]), .asg "gone" (.bin .Add (.loc "gone") (.int 1)), .ite (.cmp (.idx (.loc "what") (.int 0)) .Eq (.str "branch")) [.asg "waiting" (.bin .Add (.loc "waiting") (.comp (.idx (.loc "row") (.int 1)) "row" (.idx (.loc "what") (.int 1)) []))] []] []], .ret (.loc "gone")]
noncomputable def b_Pile_kept:List Sm:=[.ret (.bf .sorted [.attr (.loc "self") "boxes"])]
section
variable {α:Type}
noncomputable def get (l:List (Int×α)) (i:Int):Option α:=(l.find? fun p=>p.1 = i).map (·.2)
noncomputable def put (l:List (Int×α)) (i:Int) (a:α):List (Int×α):=if l.any (fun p=>p.1 = i) then l.map (fun p=>if p.1 = i then (p.1,a) else p) else l++[(i,a)]
noncomputable def del (l:List (Int×α)) (i:Int):List (Int×α):=l.filter fun p=>decide (p.1≠i)
theorem all2_get {R:Value→α→Prop} {vs:List (Int×Value)} {bs:List (Int×α)} (h:All2 (fun p q=>p.1 = q.1∧R p.2 q.2) vs bs) (i:Int) :
    (∃ v c,valueAt vs i = some v∧get bs i = some c∧R v c)∨(valueAt vs i = none∧get bs i = none):=by
  induction h with
  | nil=>exact .inr ⟨rfl,rfl⟩
  | @cons p q vs bs h1 _ ih =>
    unfold valueAt get at ih ⊢
    simp only [List.find?_cons]
    by_cases e:p.1 = i
    · rw [decide_eq_true e,decide_eq_true (h1.1 ▸ e)]
      exact .inl ⟨_,_,rfl,rfl,h1.2⟩
    · rw [decide_eq_false e,decide_eq_false (h1.1 ▸ e)]
      exact ih
theorem all2_any {R:Value→α→Prop} {vs:List (Int×Value)} {bs:List (Int×α)} (h:All2 (fun p q=>p.1 = q.1∧R p.2 q.2) vs bs) (i:Int):(vs.any fun p=>p.1 = i) = (bs.any fun p=>p.1 = i):=by
  induction h with
  | nil=>rfl
  | cons h1 _ ih=>simp only [List.any_cons,h1.1,ih]
theorem all2_append {β:Type} {R:α→β→Prop} {a1 a2:List α} {b1 b2:List β} (h1:All2 R a1 b1) (h2:All2 R a2 b2):All2 R (a1++a2) (b1++b2):=by
  induction h1 with
  | nil=>exact h2
  | cons h _ ih=>exact .cons h ih
theorem all2_put {R:Value→α→Prop} {vs:List (Int×Value)} {bs:List (Int×α)} (h:All2 (fun p q=>p.1 = q.1∧R p.2 q.2) vs bs) (i:Int) {v:Value} {a:α} (ha:R v a):All2 (fun p q=>p.1 = q.1∧R p.2 q.2) (stored vs i v) (put bs i a):=by
  unfold stored put
  rw [all2_any h i]
  split
  · rename_i hany;clear hany
    induction h with
    | nil=>exact .nil
    | @cons p q vs bs h1 _ ih =>
      refine .cons ?_ ih
      simp only
      by_cases e:p.1 = i
      · rw [if_pos e,if_pos (h1.1 ▸ e)];exact ⟨h1.1,ha⟩
      · rw [if_neg e,if_neg (h1.1 ▸ e)];exact h1
  · exact all2_append h (.cons ⟨rfl,ha⟩ .nil)
theorem all2_del {R:Value→α→Prop} {vs:List (Int×Value)} {bs:List (Int×α)} (h:All2 (fun p q=>p.1 = q.1∧R p.2 q.2) vs bs) (i:Int):All2 (fun p q=>p.1 = q.1∧R p.2 q.2) (PySem.without vs i) (del bs i):=by
  unfold PySem.without del
  induction h with
  | nil=>exact .nil
  | @cons p q vs bs h1 _ ih =>
    simp only [List.filter_cons]
    by_cases e:p.1 = i
    · rw [if_neg (by simp [e]),if_neg (by simp [← h1.1,e])];exact ih
    · rw [if_pos (by simp [e]),if_pos (by simp [← h1.1,e])];exact .cons h1 ih
theorem all2_len {β:Type} {R:α→β→Prop} {a:List α} {b:List β} (h:All2 R a b):a.length = b.length:=by
  induction h with
  | nil=>rfl
  | cons _ _ ih=>simp [ih]
theorem all2_keys {R:Value→α→Prop} {vs:List (Int×Value)} {bs:List (Int×α)} (h:All2 (fun p q=>p.1 = q.1∧R p.2 q.2) vs bs):vs.map (·.1) = bs.map (·.1):=by
  induction h with
  | nil=>rfl
  | cons h1 _ ih=>simp [ih,h1.1]
theorem all2_imp {β:Type} {R S:α→β→Prop} (f:∀ a b,R a b→S a b) {a:List α} {b:List β} (h:All2 R a b):All2 S a b:=by
  induction h with
  | nil=>exact .nil
  | cons h _ ih=>exact .cons (f _ _ h) ih
theorem get_none {l:List (Int×α)} {m:Int} (h:m ∉ l.map (·.1)):get l m = none:=by
  unfold get
  rw [Option.map_eq_none_iff,List.find?_eq_none]
  intro p hp e
  exact h (List.mem_map.2 ⟨p,hp,of_decide_eq_true e⟩)
theorem get_mem {l:List (Int×α)} {m:Int} {a:α} (h:get l m = some a):m∈l.map (·.1):=by
  apply Decidable.byContradiction
  intro n
  rw [get_none n] at h;cases h
theorem put_new {l:List (Int×α)} {m:Int} (a:α) (h:m ∉ l.map (·.1)):put l m a = l++[(m,a)]:=by
  unfold put
  rw [if_neg]
  intro e
  obtain ⟨p,hp,e⟩:=List.any_eq_true.1 e
  exact h (List.mem_map.2 ⟨p,hp,of_decide_eq_true e⟩)
theorem get_cons (p:Int×α) (l:List (Int×α)) (j:Int):get (p :: l) j = if p.1 = j then some p.2 else get l j:=by
  unfold get
  rw [List.find?_cons]
  by_cases e:p.1 = j
  · rw [if_pos e,decide_eq_true e];rfl
  · rw [if_neg e,decide_eq_false e]
theorem get_store (l:List (Int×α)) (i j:Int) (a:α):get (l.map fun p=>if p.1 = i then (p.1,a) else p) j = if j = i then (if l.any (fun p=>p.1 = i) then some a else none) else get l j:=by
  induction l with
  | nil=>simp [get]
  | cons p l ih =>
    rw [List.map_cons,get_cons,get_cons,List.any_cons,ih]
    by_cases e:p.1 = i
    · rw [if_pos e]
      by_cases ej:j = i
      · subst ej;simp [e]
      · rw [if_neg ej,if_neg (fun q=>ej (by rw [← q];exact e)),if_neg ej,if_neg (fun q=>ej (by rw [← q];exact e))]
    · rw [if_neg e,decide_eq_false e,Bool.false_or]
      by_cases ej:j = i
      · subst ej;rw [if_neg e,if_pos rfl,if_pos rfl]
      · rw [if_neg ej,if_neg ej]
theorem get_append (l m:List (Int×α)) (j:Int):get (l++m) j = (get l j).or (get m j):=by
  induction l with
  | nil=>simp [get]
  | cons p l ih =>
    rw [List.cons_append,get_cons,get_cons,ih]
    split <;> simp
theorem get_put (l:List (Int×α)) (i j:Int) (a:α):get (put l i a) j = if j = i then some a else get l j:=by
  unfold put
  split
  · rename_i h;rw [get_store,if_pos h]
  · rename_i h
    rw [get_append,get_cons]
    by_cases e:j = i
    · subst e
      have:get l j = none:=get_none fun q=>h (by
        obtain ⟨p,hp,e⟩:=List.mem_map.1 q
        exact List.any_eq_true.2 ⟨p,hp,decide_eq_true e⟩)
      rw [this];simp
    · rw [if_neg e,if_neg (fun q=>e q.symm)];simp [get]
end
noncomputable abbrev Ad:=Str→Str→Addr
noncomputable def has (x:Str) (l:List Str):Bool:=l.any fun y=>decide (y = x)
structure Env (G:Gx) (A:Ad):Prop where
  nobox:G.glob "NoBox" = some (.ref (A "NoBox" ""))
  nobe:G.isExc (A "NoBox" "") = true
  pm:∀ {m:Str},has m ["need", "fresh", "leaf", "branch", "content", "hold", "holders", "let_go", "kept"] = true→G.meth (A "Pile" "") m = some (A "Pile" m)
  pf:∀ {a:Str},has a ["boxes", "counts", "made"] = true→G.fld (A "Pile" "") a = true
structure PileAt (A:Ad) (H:Hp) (x d bx ct:Addr) (bs cs:List (Int×Value)) (mk:Int):Prop where
  i:H x = some (.inst (A "Pile" "") d)
  n:H d = some (.ns [("boxes", .ref bx),("counts", .ref ct),("made", .int mk 0)])
  b:H bx = some (.idict bs)
  c:H ct = some (.idict cs)
  ne:bx≠ct
inductive Ct where
  | leaf (n:Int)
  | br (rows:List (Str×Int))
noncomputable def chg:AObj→Bool
  | .ns _=>true
  | .idict _=>true
  | .sdict _=>true
  | _=>false
noncomputable def Kp (M:List Addr) (H H':Hp):Prop:=∀ a o,H a = some o→(chg o = false∨a ∉ M)→H' a = some o
theorem Kp.refl (M:List Addr) (H:Hp):Kp M H H:=fun _ _ h _=>h
theorem Kp.trans {M:List Addr} {H H1 H2:Hp} (h1:Kp M H H1) (h2:Kp M H1 H2):Kp M H H2:=fun a o h n=>h2 a o (h1 a o h n) n
theorem Kp.mono {M M':List Addr} {H H':Hp} (h:Kp M H H') (s:∀ a,a∈M→a∈M'):Kp M' H H':=fun a o e n=>h a o e (n.imp id fun n q=>n (s a q))
theorem kp_new {M:List Addr} {H:Hp} {c:Addr} (hc:H c = none) (o:AObj):Kp M H (H.upd c o):=fun a o' h _=>(Hp.upd_ne _ _ fun e=>by rw [e,hc] at h;cases h).trans h
theorem kp_upd {M:List Addr} {H:Hp} {d:Addr} {o':AObj} (hd:H d = some o') (hm:chg o' = true) (hM:d∈M) (o:AObj):Kp M H (H.upd d o):=fun a p h n=>by
  refine (Hp.upd_ne _ _ fun e=>?_).trans h
  subst e
  rw [hd] at h;cases h
  rcases n with n | n
  · rw [hm] at n;cases n
  · exact n hM
theorem Kp.tup {M:List Addr} {H H':Hp} (h:Kp M H H') {a:Addr} {xs:List Value} (e:H a = some (.tup xs)):H' a = some (.tup xs):=h a _ e (.inl rfl)
theorem Kp.list {M:List Addr} {H H':Hp} (h:Kp M H H') {a:Addr} {xs:List Value} (e:H a = some (.list xs)):H' a = some (.list xs):=h a _ e (.inl rfl)
theorem Kp.rlist {M:List Addr} {H H':Hp} (h:Kp M H H') {a:Addr} {xs:List Value} (e:H a = some (.rlist xs)):H' a = some (.rlist xs):=h a _ e (.inl rfl)
noncomputable def RRow (H:Hp) (v:Value) (r:Str×Int):Prop:=∃ a,v = .ref a∧H a = some (.tup [.str r.1 0, .int r.2 0])
noncomputable def RCt (D:List Addr) (H:Hp) (v:Value):Ct→Prop
  | .leaf n=>∃ a,v = .ref a∧H a = some (.tup [.str (Str.ofString "leaf") 0, .int n 0])
  | .br rows=>∃ a l xs,v = .ref a∧H a = some (.tup [.str (Str.ofString "branch") 0, .ref l])∧H l = some (.list xs)∧All2 (RRow H) xs rows∧l ∉ D
theorem RRow.kp {M:List Addr} {H H':Hp} (k:Kp M H H') {v:Value} {r:Str×Int} (h:RRow H v r):RRow H' v r:=let ⟨a,e,q⟩:=h;⟨a,e,k.tup q⟩
theorem RCt.kp {D M:List Addr} {H H':Hp} (k:Kp M H H') {v:Value}:∀ {c:Ct},RCt D H v c→RCt D H' v c
  | .leaf _,⟨a,e,q⟩=>⟨a,e,k.tup q⟩
  | .br _,⟨a,l,xs,e,q,q2,q3,q4⟩=>⟨a,l,xs,e,k.tup q,k.list q2,all2_imp (fun _ _ h=>h.kp k) q3,q4⟩
structure PA where
  x:Addr
  d:Addr
  bx:Addr
  ct:Addr
noncomputable abbrev PA.M (π:PA):List Addr:=[π.d,π.bx,π.ct]
noncomputable def vints (cs:List (Int×Int)):List (Int×Value):=cs.map fun p=>(p.1, .int p.2 0)
structure PileR (A:Ad) (D:List Addr) (H:Hp) (π:PA) (bs:List (Int×Ct)) (cs:List (Int×Int)) (mk:Int):Prop where
  ex:∃ bvs,PileAt A H π.x π.d π.bx π.ct bvs (vints cs) mk∧All2 (fun p q=>p.1 = q.1∧RCt D H p.2 q.2) bvs bs
  dom:∀ a∈D,∃ xs,H a = some (.list xs)
theorem ints_get (cs:List (Int×Int)) (i:Int):valueAt (vints cs) i = (get cs i).map fun k=>.int k 0:=by
  unfold valueAt get vints
  rw [List.find?_map]
  cases h:cs.find? ((fun kv=>decide (kv.1 = i)) ∘ fun (p:Int×Int)=>(p.1,Value.int p.2 0)) with
  | none =>
    have:cs.find? (fun p=>decide (p.1 = i)) = none:=h
    rw [this];rfl
  | some p =>
    have:cs.find? (fun p=>decide (p.1 = i)) = some p:=h
    rw [this];rfl
theorem ints_put (cs:List (Int×Int)) (i k:Int):stored (vints cs) i (.int k 0) = vints (put cs i k):=by
  unfold stored put vints
  rw [List.any_map]
  have:(cs.any ((fun kv=>decide (kv.1 = i)) ∘ fun (p:Int×Int)=>(p.1,Value.int p.2 0))) = cs.any fun p=>decide (p.1 = i):=rfl
  rw [this]
  split
  · rw [List.map_map,List.map_map]
    refine List.map_congr_left fun p _=>?_
    simp only [Function.comp]
    split <;> rfl
  · rw [List.map_append];rfl
theorem ints_del (cs:List (Int×Int)) (i:Int):PySem.without (vints cs) i = vints (del cs i):=by
  unfold PySem.without del vints
  rw [List.filter_map];rfl
theorem ints_len (cs:List (Int×Int)):(vints cs).length = cs.length:=by simp [vints]
end Mine.St
end

section
open PySem PyProof.Rows Mine Mine.St
local macro_rules | `(tactic| got_up) => `(tactic| first | assumption | exact PileAt.i ‹_› | exact PileAt.n ‹_› | exact PileAt.b ‹_› | exact PileAt.c ‹_›)
local macro_rules | `(tactic| nest_cls) => `(tactic| first
  | assumption | exact Env.pf ‹_› rfl | exact Env.pm ‹_› rfl | exact Env.nobox ‹_› | exact Env.nobe ‹_›)
local macro_rules | `(tactic| mem_news) => `(tactic| first
  | exact ev_loc rfl | exact ev_loc (by assumption) | exact ev_int | exact ev_str | exact ev_none | exact ev_bool
  | (apply ev_glob;nest_cls)
  | (apply ev_attr;mem_news;got_up;got_up;nest_cls;rfl;rfl)
  | (apply ev_at;mem_news;mem_news;got_up;rfl;(first | rfl | assumption))
  | (apply ev_key;mem_news;mem_news;got_up;assumption)
  | ((first | apply ev_not | apply ev_isi);mem_news;rfl)
  | ((first | apply ev_isir | apply ev_len);mem_news;got_up;rfl)
  | ((first | apply ev_is | apply ev_isnot);mem_news;(first | rfl | assumption))
  | ((first | apply ev_add | apply ev_sub | apply ev_max | apply ev_go | apply evl_cons);mem_news;mem_news)
  | (apply ev_stop;mem_news)
  | ((first | apply ev_neg | apply ev_one);mem_news)
  | ((first | apply ev_eq | apply ev_ne | apply ev_lt | apply ev_gt);mem_news;mem_news;(first | rfl | assumption))
  | ((first | apply ev_eqs | apply ev_nes | apply ev_lts | apply ev_gts | apply ev_ins);mem_news;mem_news;(first | rfl | assumption))
  | ((first | apply ev_in | apply ev_notin);mem_news;mem_news;got_up;(first | rfl | assumption))
  | exact evl_nil)

section
open PySem PyProof.Rows
namespace Mine.St
open Mine
theorem ev_cast {G:Gx} {hm:Bool} {e:Ex} {l:Loc} {H:Hp} {v w:Value} (h:Ev G hm e l H v) (q:v = w):Ev G hm e l H w:=q ▸ h
section
variable {A:Ad} {D:List Addr} {G:Gx} {H:Hp} {π:PA} {bs:List (Int×Ct)} {cs:List (Int×Int)} {mk:Int} {Q:QV} {X:XV}
theorem PileAt.ds {x d bx ct:Addr} {bs cs:List (Int×Value)} (hp:PileAt A H x d bx ct bs cs mk):x≠d∧x≠bx∧x≠ct∧d≠bx∧d≠ct:=by
  refine ⟨?_, ?_, ?_, ?_, ?_⟩ <;> (intro e;subst e)
  · have:=hp.i;rw [hp.n] at this;cases this
  · have:=hp.i;rw [hp.b] at this;cases this
  · have:=hp.i;rw [hp.c] at this;cases this
  · have:=hp.n;rw [hp.b] at this;cases this
  · have:=hp.n;rw [hp.c] at this;cases this
theorem PileAt.made {x d bx ct:Addr} {bs cs:List (Int×Value)} (hp:PileAt A H x d bx ct bs cs mk) (mk':Int):PileAt A (H.upd d (.ns [("boxes", .ref bx),("counts", .ref ct),("made", .int mk' 0)])) x d bx ct bs cs mk':=by
  obtain ⟨n1,n2,n3,n4,n5⟩:=hp.ds
  exact ⟨(Hp.upd_ne _ _ n1).trans hp.i,Hp.upd_same _ _ _,(Hp.upd_ne _ _ n4.symm).trans hp.b,(Hp.upd_ne _ _ n5.symm).trans hp.c,hp.ne⟩
theorem PileAt.box {x d bx ct:Addr} {bs cs:List (Int×Value)} (hp:PileAt A H x d bx ct bs cs mk) (bs':List (Int×Value)):PileAt A (H.upd bx (.idict bs')) x d bx ct bs' cs mk:=by
  obtain ⟨n1,n2,n3,n4,n5⟩:=hp.ds
  exact ⟨(Hp.upd_ne _ _ n2).trans hp.i,(Hp.upd_ne _ _ n4).trans hp.n,Hp.upd_same _ _ _,(Hp.upd_ne _ _ hp.ne.symm).trans hp.c,hp.ne⟩
theorem PileAt.cnt {x d bx ct:Addr} {bs cs:List (Int×Value)} (hp:PileAt A H x d bx ct bs cs mk) (cs':List (Int×Value)):PileAt A (H.upd ct (.idict cs')) x d bx ct bs cs' mk:=by
  obtain ⟨n1,n2,n3,n4,n5⟩:=hp.ds
  exact ⟨(Hp.upd_ne _ _ n3).trans hp.i,(Hp.upd_ne _ _ n5).trans hp.n,(Hp.upd_ne _ _ hp.ne).trans hp.b,Hp.upd_same _ _ _,hp.ne⟩
theorem PileAt.kp0 {M:List Addr} {H':Hp} {bs cs:List (Int×Value)} (p:PileAt A H π.x π.d π.bx π.ct bs cs mk) (k:Kp M H H') (h1:π.d ∉ M) (h2:π.bx ∉ M) (h3:π.ct ∉ M):PileAt A H' π.x π.d π.bx π.ct bs cs mk :=
  ⟨k _ _ p.i (.inl rfl),k _ _ p.n (.inr h1),k _ _ p.b (.inr h2),k _ _ p.c (.inr h3),p.ne⟩
theorem PileAt.new {bs cs:List (Int×Value)} (p:PileAt A H π.x π.d π.bx π.ct bs cs mk) {c:Addr} (hc:H c = none) (o:AObj):PileAt A (H.upd c o) π.x π.d π.bx π.ct bs cs mk:=p.kp0 (kp_new (M:=[]) hc o) (by simp) (by simp) (by simp)
theorem PileAt.kd {bs cs:List (Int×Value)} (p:PileAt A H π.x π.d π.bx π.ct bs cs mk) (o:AObj):Kp π.M H (H.upd π.d o):=kp_upd p.n rfl (by simp [PA.M]) o
theorem PileAt.kb {bs cs:List (Int×Value)} (p:PileAt A H π.x π.d π.bx π.ct bs cs mk) (o:AObj):Kp π.M H (H.upd π.bx o):=kp_upd p.b rfl (by simp [PA.M]) o
theorem PileAt.kc {bs cs:List (Int×Value)} (p:PileAt A H π.x π.d π.bx π.ct bs cs mk) (o:AObj):Kp π.M H (H.upd π.ct o):=kp_upd p.c rfl (by simp [PA.M]) o
theorem PileR.domk {M:List Addr} {H':Hp} (h:PileR A D H π bs cs mk) (k:Kp M H H'):∀ a∈D,∃ xs,H' a = some (.list xs):=fun a ha=>let ⟨xs,e⟩:=h.dom a ha;⟨xs,k.list e⟩
theorem PileR.notin (h:PileR A D H π bs cs mk) {c:Addr} (hc:H c = none):c ∉ D:=fun z=>by
  obtain ⟨xs,e⟩:=h.dom c z
  rw [hc] at e;cases e
theorem PileR.kp {M:List Addr} {H':Hp} (h:PileR A D H π bs cs mk) (k:Kp M H H') (h1:π.d ∉ M) (h2:π.bx ∉ M) (h3:π.ct ∉ M):PileR A D H' π bs cs mk:=by
  obtain ⟨bvs,p,r⟩:=h.ex
  exact ⟨⟨bvs,p.kp0 k h1 h2 h3,all2_imp (fun _ _ q=>⟨q.1,q.2.kp k⟩) r⟩,h.domk k⟩
theorem PileR.kp0 {H':Hp} (h:PileR A D H π bs cs mk) (k:Kp [] H H'):PileR A D H' π bs cs mk:=h.kp k (by simp) (by simp) (by simp)
theorem PileR.box (h:PileR A D H π bs cs mk) {i:Int} {c:Ct} (e:get bs i = some c):∃ bvs v,PileAt A H π.x π.d π.bx π.ct bvs (vints cs) mk∧All2 (fun p q=>p.1 = q.1∧RCt D H p.2 q.2) bvs bs∧valueAt bvs i = some v∧RCt D H v c:=by
  obtain ⟨bvs,p,r⟩:=h.ex
  rcases all2_get r i with ⟨v,c',h1,h2,h3⟩ | ⟨h1,h2⟩
  · rw [e] at h2;cases h2;exact ⟨bvs,v,p,r,h1,h3⟩
  · rw [e] at h2;cases h2
theorem ints_some {cs:List (Int×Int)} {i k:Int} (h:get cs i = some k):valueAt (vints cs) i = some (.int k 0):=by rw [ints_get,h];rfl
noncomputable def HasF (tab:Tab) (f:Addr) (ps:List Str) (b:List Sm):Prop:=tab f = some (ps,b)
theorem fn_gg {g:Gx} {tab:Tab} {n:Nat} {f:Addr} {ps:List Str} {b:List Sm} (e:HasF tab f ps b) {hm:Bool} {args:List Value} {H:Hp} {Q:QV} {X:XV} (h:wpF (GG g tab n) hm ps b args H Q X):(GG g tab (n + 1)).fn f hm args H Q X:=by
  show (match tab f with | some (ps,sm)=>wpF (GG g tab n) hm ps sm args H Q X | none=>False)
  have e:tab f = some (ps,b):=e
  rw [e];exact h
theorem Env.gg {g:Gx} {A:Ad} (f:Env g A) (tab:Tab) (n:Nat):Env (GG g tab n) A:=by
  cases n <;> exact ⟨f.nobox,f.nobe,f.pm,f.pf⟩
noncomputable def C_need (G:Gx) (A:Ad):Prop:=∀ ⦃D:List Addr⦄ ⦃H:Hp⦄ ⦃π:PA⦄ ⦃bs:List (Int×Ct)⦄ ⦃cs:List (Int×Int)⦄ ⦃mk:Int⦄,PileR A D H π bs cs mk→∀ ⦃i:Int⦄ ⦃t:Tok⦄ ⦃c:Ct⦄,get bs i = some c→∀ ⦃hm:Bool⦄ ⦃Q:QV⦄ ⦃X:XV⦄,Q (.int i t) H→G.fn (A "Pile" "need") hm [.ref π.x, .int i t] H Q X
theorem need_ok (F:Env G A) (h:PileR A D H π bs cs mk) {i:Int} {t:Tok} {c:Ct} (e:get bs i = some c) {hm:Bool} (q:Q (.int i t) H):wpF G hm ["self", "box"] b_Pile_need [.ref π.x, .int i t] H Q X:=by
  obtain ⟨bvs,v,p,r,hv,_⟩:=h.box e
  refine f_in rfl ?_
  have hb:(!(valueAt bvs i).isSome) = false:=by rw [hv];rfl
  refine ss_iff0 (by mem_news) ?_
  exact ss_ret (by mem_news) q
noncomputable def C_fresh (G:Gx) (A:Ad):Prop:=∀ ⦃D:List Addr⦄ ⦃H:Hp⦄ ⦃π:PA⦄ ⦃bs:List (Int×Ct)⦄ ⦃cs:List (Int×Int)⦄ ⦃mk:Int⦄,PileR A D H π bs cs mk→∀ ⦃v:Value⦄ ⦃c:Ct⦄,RCt D H v c→bs.length≤sizeLine→cs.length≤sizeLine→∀ ⦃Q:QV⦄ ⦃X:XV⦄,
  (∀ H',PileR A D H' π (put bs (mk + 1) c) (put cs (mk + 1) 0) (mk + 1)→Kp π.M H H'→Q (.int (mk + 1) 0) H')→G.fn (A "Pile" "fresh") false [.ref π.x,v] H Q X
theorem fresh_ok (F:Env G A) (h:PileR A D H π bs cs mk) {v:Value} {c:Ct} (hv:RCt D H v c) (z1:bs.length≤sizeLine) (z2:cs.length≤sizeLine)
    (q:∀ H',PileR A D H' π (put bs (mk + 1) c) (put cs (mk + 1) 0) (mk + 1)→Kp π.M H H'→Q (.int (mk + 1) 0) H'):wpF G false ["self", "what"] b_Pile_fresh [.ref π.x,v] H Q X:=by
  obtain ⟨bvs,p,r⟩:=h.ex
  refine f_in rfl ?_
  refine ss_set (by mem_news) (by mem_news) p.i p.n (by nest_cls) (by simp) ?_
  have p1:=p.made (mk + 1)
  refine ss_key (by mem_news) (by mem_news) (by mem_news) p1.b (by rw [all2_len r];exact z1) ?_
  have p2:=p1.box (stored bvs (mk + 1) v)
  refine ss_key (by mem_news) (by mem_news) (by mem_news) p2.c (by rw [ints_len];exact z2) ?_
  have p3:=p2.cnt (stored (vints cs) (mk + 1) (.int 0 0))
  have k:=((p.kd _).trans (p1.kb _)).trans (p2.kc (.idict (stored (vints cs) (mk + 1) (.int 0 0))))
  refine ss_ret (by mem_news) (q _ ⟨⟨_,by rw [← ints_put];exact p3,all2_put (all2_imp (fun _ _ z=>⟨z.1,z.2.kp k⟩) r) _ (hv.kp k)⟩,h.domk k⟩ k)
theorem ns_leaf {v:Value} {n:Int} {a:Addr} {H:Hp} (h:v = .ref a) (e:H a = some (.tup [.str (Str.ofString "leaf") 0, .int n 0])):RCt D H v (.leaf n):=⟨a,h,e⟩
noncomputable def C_hold (G:Gx) (A:Ad):Prop:=∀ ⦃D:List Addr⦄ ⦃H:Hp⦄ ⦃π:PA⦄ ⦃bs:List (Int×Ct)⦄ ⦃cs:List (Int×Int)⦄ ⦃mk:Int⦄,PileR A D H π bs cs mk→∀ ⦃i k:Int⦄ ⦃t:Tok⦄ ⦃c:Ct⦄,get bs i = some c→get cs i = some k→cs.length≤sizeLine→∀ ⦃Q:QV⦄ ⦃X:XV⦄,
  (∀ H',PileR A D H' π bs (put cs i (k + 1)) mk→Kp π.M H H'→Q .none H')→G.fn (A "Pile" "hold") false [.ref π.x, .int i t] H Q X
theorem hold_ok (F:Env G A) (N:C_need G A) (h:PileR A D H π bs cs mk) {i k:Int} {t:Tok} {c:Ct} (e:get bs i = some c) (ec:get cs i = some k) (z2:cs.length≤sizeLine)
    (q:∀ H',PileR A D H' π bs (put cs i (k + 1)) mk→Kp π.M H H'→Q .none H'):wpF G false ["self", "box"] b_Pile_hold [.ref π.x, .int i t] H Q X:=by
  obtain ⟨bvs,p,r⟩:=h.ex
  refine f_in rfl ?_
  refine ss_exprW (w_meth (by mem_news) p.i p.n (by nest_cls) (by rfl) (by mem_news) (N h e ?_))
  have hv:=ints_some ec
  refine ss_key (by mem_news) (by mem_news) (by mem_news) p.c (by rw [ints_len];exact z2) ?_
  have p3:=p.cnt (stored (vints cs) i (.int (k + 1) 0))
  have kk:=p.kc (.idict (stored (vints cs) i (.int (k + 1) 0)))
  exact ss_nl (q _ ⟨⟨_,by rw [← ints_put];exact p3,all2_imp (fun _ _ z=>⟨z.1,z.2.kp kk⟩) r⟩,h.domk kk⟩ kk)
noncomputable def C_holders (G:Gx) (A:Ad):Prop:=∀ ⦃D:List Addr⦄ ⦃H:Hp⦄ ⦃π:PA⦄ ⦃bs:List (Int×Ct)⦄ ⦃cs:List (Int×Int)⦄ ⦃mk:Int⦄,PileR A D H π bs cs mk→∀ ⦃i k:Int⦄ ⦃t:Tok⦄ ⦃c:Ct⦄,get bs i = some c→get cs i = some k→∀ ⦃Q:QV⦄ ⦃X:XV⦄,
  Q (.int k 0) H→G.fn (A "Pile" "holders") false [.ref π.x, .int i t] H Q X
theorem holders_ok (F:Env G A) (N:C_need G A) (h:PileR A D H π bs cs mk) {i k:Int} {t:Tok} {c:Ct} (e:get bs i = some c) (ec:get cs i = some k) (q:Q (.int k 0) H):wpF G false ["self", "box"] b_Pile_holders [.ref π.x, .int i t] H Q X:=by
  obtain ⟨bvs,p,r⟩:=h.ex
  refine f_in rfl ?_
  have hv:=ints_some ec
  refine ss_retW (w_idxW (w_ev (v:=.ref π.ct) (by mem_news) (w_meth (by mem_news) p.i p.n (by nest_cls) (by rfl) (by mem_news) (N h e ?_))))
  exact idx_key p.c hv q
noncomputable def C_leaf (G:Gx) (A:Ad):Prop:=∀ ⦃D:List Addr⦄ ⦃H:Hp⦄ ⦃π:PA⦄ ⦃bs:List (Int×Ct)⦄ ⦃cs:List (Int×Int)⦄ ⦃mk:Int⦄,PileR A D H π bs cs mk→∀ ⦃n:Int⦄,bs.length≤sizeLine→cs.length≤sizeLine→∀ ⦃Q:QV⦄ ⦃X:XV⦄,
  (∀ H',PileR A D H' π (put bs (mk + 1) (.leaf n)) (put cs (mk + 1) 0) (mk + 1)→Kp π.M H H'→Q (.int (mk + 1) 0) H')→G.fn (A "Pile" "leaf") false [.ref π.x, .int n 0] H Q X
theorem leaf_ok (F:Env G A) (N:C_fresh G A) (h:PileR A D H π bs cs mk) {n:Int} (z1:bs.length≤sizeLine) (z2:cs.length≤sizeLine)
    (q:∀ H',PileR A D H' π (put bs (mk + 1) (.leaf n)) (put cs (mk + 1) 0) (mk + 1)→Kp π.M H H'→Q (.int (mk + 1) 0) H'):wpF G false ["self", "number"] b_Pile_leaf [.ref π.x, .int n 0] H Q X:=by
  obtain ⟨bvs,p,r⟩:=h.ex
  refine f_in rfl ?_
  refine ss_retW (w_methW (by mem_news) p.i p.n (by nest_cls) (by rfl) (wl_cons (w_tup (by mem_news) (Nat.le_of_ble_eq_true rfl) fun a ha=>wl_nil ?_)))
  have kn:Kp [] H (H.upd a (.tup [.str (Str.ofString "leaf") 0, .int n 0])):=kp_new ha _
  refine N (h.kp0 kn) (ns_leaf rfl (Hp.upd_same _ _ _)) z1 z2 fun H' h' k'=>q H' h' ((kn.mono (by simp)).trans k')
noncomputable def C_content (G:Gx) (A:Ad):Prop:=∀ ⦃D:List Addr⦄ ⦃H:Hp⦄ ⦃π:PA⦄ ⦃bs:List (Int×Ct)⦄ ⦃cs:List (Int×Int)⦄ ⦃mk:Int⦄,PileR A D H π bs cs mk→∀ ⦃i:Int⦄ ⦃t:Tok⦄ ⦃c:Ct⦄,get bs i = some c→(∀ rows,c = .br rows→rows.length≤sizeLine)→∀ ⦃hm:Bool⦄ ⦃Q:QV⦄ ⦃X:XV⦄,
  (∀ v H',RCt D H' v c→Kp [] H H'→(∀ a l u,v = .ref a→H' a = some (.tup [u, .ref l])→H l = none)→Q v H')→G.fn (A "Pile" "content") hm [.ref π.x, .int i t] H Q X
theorem content_ok (F:Env G A) (N:C_need G A) (h:PileR A D H π bs cs mk) {i:Int} {t:Tok} {c:Ct} (e:get bs i = some c) (zc:∀ rows,c = .br rows→rows.length≤sizeLine) {hm:Bool}
    (q:∀ v H',RCt D H' v c→Kp [] H H'→(∀ a l u,v = .ref a→H' a = some (.tup [u, .ref l])→H l = none)→Q v H'):wpF G hm ["self", "box"] b_Pile_content [.ref π.x, .int i t] H Q X:=by
  obtain ⟨bvs,v,p,r,hv,hc⟩:=h.box e
  refine f_in rfl ?_
  refine ss_asgW (w_idxW (w_ev (v:=.ref π.bx) (by mem_news) (w_meth (by mem_news) p.i p.n (by nest_cls) (by rfl) (by mem_news) (N h e ?_))))
  refine idx_key p.b hv ?_
  cases c with
  | leaf n =>
    obtain ⟨a,rfl,ha⟩:=id hc
    refine ss_iff0 (by mem_news) ?_
    exact ss_ret (by mem_news) (q _ H hc (Kp.refl _ _) fun a' l u e1 e2=>by cases e1;rw [ha] at e2;cases e2)
  | br rows =>
    obtain ⟨a,rl,xs,rfl,ha,hl,hr, -⟩:=id hc
    refine ss_ift (by mem_news) ?_
    refine ss_retW (w_tupW (wl_cons (w_ev ev_str (wl_cons (w_blistL (by mem_news) hl (by rw [all2_len hr];exact zc rows rfl) fun c hcn=>wl_nil ⟨Nat.le_of_ble_eq_true rfl,fun b hb=>?_⟩)))))
    have k1:Kp [] H (H.upd c (.list xs)):=kp_new hcn _
    have k2:=k1.trans (kp_new (M:=[]) hb (.tup [.str (Str.ofString "branch") 0, .ref c]))
    refine q _ _ ⟨b,c,xs,rfl,Hp.upd_same _ _ _,(kp_new (M:=[]) hb _).list (Hp.upd_same _ _ _),all2_imp (fun _ _ z=>z.kp k2) hr,h.notin hcn⟩ k2 fun a' l u e1 e2=>?_
    cases e1
    rw [Hp.upd_same] at e2;cases e2;exact hcn
end
end Mine.St
end

section
open PySem PyProof.Rows
namespace Mine.St
open Mine
section
variable {A:Ad} {D:List Addr} {G:Gx} {H:Hp} {π:PA} {bs:List (Int×Ct)} {cs:List (Int×Int)} {mk:Int} {Q:QV} {X:XV}
noncomputable def holdAll (cs:List (Int×Int)):List (Str×Int)→Option (List (Int×Int))
  | []=>some cs
  | r :: rows=>match get cs r.2 with
    | some k=>holdAll (put cs r.2 (k + 1)) rows
    | none=>none
theorem put_len {α:Type} (l:List (Int×α)) (i:Int) (a b:α) (h:get l i = some b):(put l i a).length = l.length:=by
  unfold put
  rw [if_pos]
  · simp
  · obtain ⟨p,hp,e⟩:=List.mem_map.1 (get_mem h)
    exact List.any_eq_true.2 ⟨p,hp,decide_eq_true e⟩
theorem holdAll_cons {cs cs':List (Int×Int)} {r:Str×Int} {rows:List (Str×Int)} (h:holdAll cs (r :: rows) = some cs'):∃ k,get cs r.2 = some k∧holdAll (put cs r.2 (k + 1)) rows = some cs':=by
  have h:(match get cs r.2 with | some k=>holdAll (put cs r.2 (k + 1)) rows | none=>none) = some cs':=h
  cases e:get cs r.2 with
  | none=>rw [e] at h;cases h
  | some k=>rw [e] at h;exact ⟨k,rfl,h⟩
noncomputable def C_branch (G:Gx) (A:Ad):Prop:=∀ ⦃D:List Addr⦄ ⦃H:Hp⦄ ⦃π:PA⦄ ⦃bs:List (Int×Ct)⦄ ⦃cs:List (Int×Int)⦄ ⦃mk:Int⦄,PileR A D H π bs cs mk→∀ ⦃rl:Addr⦄ ⦃xs:List Value⦄ ⦃rows:List (Str×Int)⦄ ⦃cs':List (Int×Int)⦄,H rl = some (.list xs)→All2 (RRow H) xs rows→(∀ r∈rows,∃ c,get bs r.2 = some c)→holdAll cs rows = some cs' →
  bs.length≤sizeLine→cs.length≤sizeLine→rows.length≤sizeLine→∀ ⦃Q:QV⦄ ⦃X:XV⦄,(∀ H',PileR A D H' π (put bs (mk + 1) (.br rows)) (put cs' (mk + 1) 0) (mk + 1)→Kp π.M H H'→Q (.int (mk + 1) 0) H')→G.fn (A "Pile" "branch") false [.ref π.x, .ref rl] H Q X
section
variable {rl:Addr} {xs:List Value} {rows:List (Str×Int)} {cs':List (Int×Int)} {l:Loc} {H0:Hp}
theorem branch_b (F:Env G A) (B:C_fresh G A) (h:PileR A D H π bs cs mk) (hl:H0 rl = some (.list xs)) (hr:All2 (RRow H0) xs rows) (kk:Kp π.M H0 H) (z1:bs.length≤sizeLine) (z2:cs.length≤sizeLine) (z3:rows.length≤sizeLine) (g1:l "self" = some (.ref π.x)) (g2:l "rows" = some (.ref rl))
    (q:∀ H',PileR A D H' π (put bs (mk + 1) (.br rows)) (put cs (mk + 1) 0) (mk + 1)→Kp π.M H0 H'→Q (.int (mk + 1) 0) H'):wpSs G false (b_Pile_branch.drop 2) l H (fq Q) (fx X):=by
  obtain ⟨bvs',p', -⟩:=id h.ex
  refine ss_retW (w_methW (by mem_news) p'.i p'.n (by nest_cls) (by rfl) (wl_cons (w_tupW (wl_cons (w_ev ev_str (wl_cons (w_blist (by mem_news) (kk.list hl) rfl (by rw [all2_len hr];exact z3) fun c hcn=>wl_nil ⟨Nat.le_of_ble_eq_true rfl,fun b hb=>?_⟩)))))))
  have k2:=(kp_new (M:=[]) hcn (.list xs)).trans (kp_new (M:=[]) hb (.tup [.str (Str.ofString "branch") 0, .ref c]))
  have k3:=kk.trans (k2.mono (M':=π.M) (by simp))
  exact B (h.kp0 k2) (c:=.br rows) ⟨b,c,xs,rfl,Hp.upd_same _ _ _,(kp_new (M:=[]) hb _).list (Hp.upd_same _ _ _),all2_imp (fun _ _ z=>z.kp k3) hr,h.notin hcn⟩ z1 z2 fun H' h'' k''=>q H' h'' (k3.trans k'')
structure BrI (A:Ad) (D:List Addr) (π:PA) (mk:Int) (H0:Hp) (bs:List (Int×Ct)) (cs':List (Int×Int)) (rl:Addr) (r:List Value) (rs:List (Str×Int)) (cs1:List (Int×Int)) (l:Loc) (H:Hp):Prop where
  g1:l "self" = some (.ref π.x)
  g2:l "rows" = some (.ref rl)
  k:Kp π.M H0 H
  w:All2 (RRow H0) r rs
  b:∀ x∈rs,∃ c,get bs x.2 = some c
  h:PileR A D H π bs cs1 mk
  hh:holdAll cs1 rs = some cs'
  z:cs1.length≤sizeLine
theorem branch_a (F:Env G A) (C:C_hold G A) (B:C_fresh G A) (h:PileR A D H π bs cs mk) (hl:H rl = some (.list xs)) (hr:All2 (RRow H) xs rows) (hb:∀ r∈rows,∃ c,get bs r.2 = some c) (hc:holdAll cs rows = some cs')
    (z1:bs.length≤sizeLine) (z2:cs.length≤sizeLine) (z3:rows.length≤sizeLine) (g1:l "self" = some (.ref π.x)) (g2:l "rows" = some (.ref rl))
    (q:∀ H',PileR A D H' π (put bs (mk + 1) (.br rows)) (put cs' (mk + 1) 0) (mk + 1)→Kp π.M H H'→Q (.int (mk + 1) 0) H'):wpSs G false (b_Pile_branch.drop 1) l H (fq Q) (fx X):=by
  refine ss_forI (fun r l' H'=>∃ rs cs1,BrI A D π mk H bs cs' rl r rs cs1 l' H') (by mem_news) hl rfl (fun r l' H' h=>by obtain ⟨_,_,I⟩:=h;exact I.k.list hl) ?_ ⟨rows,cs,g1,g2,Kp.refl _ _,hr,hb,h,hc,z2⟩ ?_
  · rintro v rs l' H' ⟨ws,cs1,I⟩ K hK _
    have g1:=I.g1
    cases I.w with
    | @cons _ row _ ws' e1 e2 =>
    obtain ⟨a,rfl,ha⟩:=e1
    have ha:=I.k.tup ha
    obtain ⟨c,hcc⟩:=I.b row (List.mem_cons_self ..)
    obtain ⟨k,hk,hh⟩:=holdAll_cons I.hh
    obtain ⟨bvs',p', -⟩:=id I.h.ex
    refine ss_exprW (w_meth (by mem_news) p'.i p'.n (by nest_cls) (by rfl) (by mem_news) (C I.h hcc hk I.z fun H2 h2 k2=>?_))
    exact ss_nl (hK (l'.upd "row" (.ref a)) H2 ⟨ws',_,I.g1,I.g2,I.k.trans k2,e2,fun x hx=>I.b x (List.mem_cons_of_mem _ hx),h2,hh,by rw [put_len _ _ _ _ hk];exact I.z⟩).1
  · rintro l2 H2 ⟨ws,cs1,I⟩
    have hw:=I.w;have hh:=I.hh
    cases hw
    cases hh
    exact branch_b F B I.h hl hr I.k z1 I.z z3 I.g1 I.g2 q
structure BrJ (π:PA) (H0:Hp) (bs:List (Int×Ct)) (rl:Addr) (r:List Value) (rs:List (Str×Int)) (l:Loc) (H:Hp):Prop where
  e:H = H0
  g1:l "self" = some (.ref π.x)
  g2:l "rows" = some (.ref rl)
  w:All2 (RRow H0) r rs
  b:∀ x∈rs,∃ c,get bs x.2 = some c
theorem branch_ok (F:Env G A) (N:C_need G A) (C:C_hold G A) (B:C_fresh G A) (h:PileR A D H π bs cs mk) (hl:H rl = some (.list xs)) (hr:All2 (RRow H) xs rows) (hb:∀ r∈rows,∃ c,get bs r.2 = some c) (hc:holdAll cs rows = some cs')
    (z1:bs.length≤sizeLine) (z2:cs.length≤sizeLine) (z3:rows.length≤sizeLine)
    (q:∀ H',PileR A D H' π (put bs (mk + 1) (.br rows)) (put cs' (mk + 1) 0) (mk + 1)→Kp π.M H H'→Q (.int (mk + 1) 0) H'):wpF G false ["self", "rows"] b_Pile_branch [.ref π.x, .ref rl] H Q X:=by
  obtain ⟨bvs,p,r⟩:=id h.ex
  refine f_in rfl ?_
  refine ss_forI (fun r l' H'=>∃ rs,BrJ π H bs rl r rs l' H') (by mem_news) hl rfl (fun r l' H' h=>by obtain ⟨_,I⟩:=h;rw [I.e];exact hl) ?_ ⟨rows,rfl,rfl,rfl,hr,hb⟩ ?_
  · rintro v rs l' H' ⟨ws,I⟩ K hK _
    obtain rfl:=I.e
    have g1:=I.g1
    cases I.w with
    | @cons _ row _ ws' e1 e2 =>
    obtain ⟨a,rfl,ha⟩:=e1
    obtain ⟨c,hcc⟩:=I.b row (List.mem_cons_self ..)
    refine ss_exprW (w_meth (by mem_news) p.i p.n (by nest_cls) (by rfl) (by mem_news) (N h hcc ?_))
    exact ss_nl (hK (l'.upd "row" (.ref a)) H' ⟨ws',rfl,I.g1,I.g2,e2,fun x hx=>I.b x (List.mem_cons_of_mem _ hx)⟩).1
  · rintro l1 H1 ⟨ws,I⟩
    obtain rfl:=I.e
    exact branch_a F C B h hl hr hb hc z1 z2 z3 I.g1 I.g2 q
end
noncomputable def kids:Ct→List Int
  | .leaf _=>[]
  | .br rows=>rows.map (·.2)
noncomputable abbrev LgV:=Option (List (Int×Ct)×List (Int×Int)×Int)
noncomputable def lgoB (rec:List Int→List (Int×Ct)→List (Int×Int)→Int→LgV) (one:Int) (w:List Int) (bs:List (Int×Ct)) (cs:List (Int×Int)) (g:Int):LgV:=match get bs one with
  | none=>rec w bs cs g
  | some c=>match get cs one with
    | none=>none
    | some k=>if max 0 (k - 1) = 0 then (if (kids c).length≤2 ^ 20 then rec (w++kids c) (del bs one) (del (put cs one (max 0 (k - 1))) one) (g + 1) else none) else rec w bs (put cs one (max 0 (k - 1))) g
noncomputable def lgo:Nat→List Int→List (Int×Ct)→List (Int×Int)→Int→LgV
  | 0,_,_,_,_=>none
  | n + 1,w,bs,cs,g=>if w.length≤2 ^ 20∧bs.length≤2 ^ 20∧cs.length≤2 ^ 20 then (match w.getLast? with
    | none=>some (bs,cs,g)
    | some one=>lgoB (lgo n) one w.dropLast bs cs g) else none
section
variable {n:Nat} {one g k:Int} {w:List Int} {bs:List (Int×Ct)} {cs:List (Int×Int)} {c:Ct} {r:List (Int×Ct)×List (Int×Int)×Int} {rec:List Int→List (Int×Ct)→List (Int×Int)→Int→LgV}
theorem lgo_eq (hz:w.length≤2 ^ 20∧bs.length≤2 ^ 20∧cs.length≤2 ^ 20) (hl:w.getLast? = some one):lgo (n + 1) w bs cs g = lgoB (lgo n) one w.dropLast bs cs g:=by
  show (if _ then (match w.getLast? with | none=>some (bs,cs,g) | some one=>lgoB (lgo n) one w.dropLast bs cs g) else none) = _
  rw [if_pos hz,hl]
theorem lgo_z (e:lgo (n + 1) w bs cs g = some r):w.length≤2 ^ 20∧bs.length≤2 ^ 20∧cs.length≤2 ^ 20:=by
  apply Decidable.byContradiction
  intro hz
  have e:(if _ then _ else none) = some r:=e
  rw [if_neg hz] at e;cases e
theorem lgo_nil (e:lgo (n + 1) [] bs cs g = some r):r = (bs,cs,g):=by
  have hz:=lgo_z e
  have e:(if _ then some (bs,cs,g) else none) = some r:=e
  rw [if_pos hz] at e
  injection e with e;exact e.symm
theorem lgoB_none (h:get bs one = none):lgoB rec one w bs cs g = rec w bs cs g:=by unfold lgoB;rw [h]
theorem lgoB_no (h:get bs one = some c) (hk:get cs one = none):lgoB rec one w bs cs g = none:=by unfold lgoB;rw [h];dsimp only;rw [hk]
theorem lgoB_some (h:get bs one = some c) (hk:get cs one = some k):lgoB rec one w bs cs g = if max 0 (k - 1) = 0 then (if (kids c).length≤2 ^ 20 then rec (w++kids c) (del bs one) (del (put cs one (max 0 (k - 1))) one) (g + 1) else none) else rec w bs (put cs one (max 0 (k - 1))) g:=by
  unfold lgoB;rw [h];dsimp only;rw [hk]
end
theorem rd_ints {H:Hp}:∀ w:List Int,RdAll H (w.map fun n=>Value.int n 0) (w.map PyData.int)
  | []=>.nil
  | n :: w=>.cons (.int n 0) (rd_ints w)
theorem lay_ints:∀ w:List Int,PyData.canLayAll0 (w.map PyData.int) = true
  | []=>rfl
  | _ :: w=>lay_ints w
theorem depth_ints:∀ w:List Int,PyData.depthAll (w.map PyData.int)≤1
  | []=>Nat.zero_le 1
  | _ :: w=>Nat.max_le.2 ⟨Nat.zero_le 1,depth_ints w⟩
theorem shaped_ints (w:List Int):SeqAt.shaped (.list (w.map PyData.int)) = true:=by
  refine Bool.and_eq_true_iff.2 ⟨lay_ints w,decide_eq_true ?_⟩
  show PyData.depthAll (w.map PyData.int) + 1≤64
  exact Nat.le_trans (Nat.succ_le_succ (depth_ints w)) (by decide)
theorem eqv_nil (w:List PyData):PyData.eqv (.list w) (.list []) = w.isEmpty:=by
  cases w <;> rfl
noncomputable def lgC:Ex:=.cmp (.loc "waiting") .NotEq (.list [])
noncomputable def lgG:List Sm:=[.asg "what" (.bm .pop (.attr (.loc "self") "boxes") [.loc "one"]), .expr (.bm .pop (.attr (.loc "self") "counts") [.loc "one"]), .asg "gone" (.bin .Add (.loc "gone") (.int 1)), .ite (.cmp (.idx (.loc "what") (.int 0)) .Eq (.str "branch")) [.asg "waiting" (.bin .Add (.loc "waiting") (.comp (.idx (.loc "row") (.int 1)) "row" (.idx (.loc "what") (.int 1)) []))] []]
noncomputable def lgB:List Sm:=[.asg "one" (.bm .pop (.loc "waiting") []), .ite (.cmp (.loc "one") .NotIn (.attr (.loc "self") "boxes")) [.cont] [], .asgIdx (.attr (.loc "self") "counts") (.loc "one") (.bf .max2 [.int 0, .bin .Sub (.idx (.attr (.loc "self") "counts") (.loc "one")) (.int 1)]), .ite (.cmp (.idx (.attr (.loc "self") "counts") (.loc "one")) .Eq (.int 0)) lgG []]
theorem Kp.fresh {M:List Addr} {H H1:Hp} (k:Kp M H H1) {c:Addr} (hc:H c = none) (o:AObj):Kp M H (H1.upd c o):=fun a p h n=>(Hp.upd_ne _ _ fun e=>by rw [e,hc] at h;cases h).trans (k a p h n)
theorem PileAt.notList {bvs cvs:List (Int×Value)} (h:PileAt A H π.x π.d π.bx π.ct bvs cvs mk) {a:Addr} {xs:List Value} (e:H a = some (.list xs)):a≠π.x∧a≠π.d∧a≠π.bx∧a≠π.ct :=
  ⟨fun q=>(by rw [q,h.i] at e;cases e),fun q=>(by rw [q,h.n] at e;cases e),fun q=>(by rw [q,h.b] at e;cases e),fun q=>(by rw [q,h.c] at e;cases e)⟩
theorem PileAt.other {bvs cvs:List (Int×Value)} (h:PileAt A H π.x π.d π.bx π.ct bvs cvs mk) {a:Addr} {xs:List Value} (e:H a = some (.list xs)) (o:AObj):PileAt A (H.upd a o) π.x π.d π.bx π.ct bvs cvs mk :=
  let ⟨n1,n2,n3,n4⟩:=h.notList e
  ⟨(Hp.upd_ne _ _ n1.symm).trans h.i,(Hp.upd_ne _ _ n2.symm).trans h.n,(Hp.upd_ne _ _ n3.symm).trans h.b,(Hp.upd_ne _ _ n4.symm).trans h.c,h.ne⟩
theorem Kp.none {bvs cvs:List (Int×Value)} {H0:Hp} (k:Kp π.M H0 H) (h:PileAt A H π.x π.d π.bx π.ct bvs cvs mk) {a:Addr} (e:H a = none):H0 a = none:=by
  cases q:H0 a with
  | none=>rfl
  | some o =>
    by_cases hM:a∈π.M
    · simp only [PA.M,List.mem_cons,List.not_mem_nil,or_false] at hM
      rcases hM with rfl | rfl | rfl
      · rw [h.n] at e;cases e
      · rw [h.b] at e;cases e
      · rw [h.c] at e;cases e
    · rw [k a o q (.inr hM)] at e;cases e
structure LgI (A:Ad) (D:List Addr) (π:PA) (mk:Int) (H0:Hp) (w:List Int) (bs:List (Int×Ct)) (cs:List (Int×Int)) (g:Int) (wl:Addr) (bvs:List (Int×Value)) (l:Loc) (H:Hp):Prop where
  s:l "self" = some (.ref π.x)
  g:l "gone" = some (.int g 0)
  wa:l "waiting" = some (.ref wl)
  hw:H wl = some (.list (w.map fun n=>Value.int n 0))
  h0:H0 wl = none
  p:PileAt A H π.x π.d π.bx π.ct bvs (vints cs) mk
  r:All2 (fun p q=>p.1 = q.1∧RCt D H0 p.2 q.2) bvs bs
  k:Kp π.M H0 H
theorem len_line {n:Nat} (h:n≤2 ^ 20):n≤sizeLine:=Nat.le_trans h (by decide)
section
variable {H0:Hp} {w:List Int} {bs:List (Int×Ct)} {cs:List (Int×Int)} {g:Int} {wl:Addr} {bvs:List (Int×Value)} {l:Loc} {X:XS} {K:QS} {one:Int} {fin:List (Int×Ct)×List (Int×Int)×Int} {n:Nat}
theorem LgI.new (I:LgI A D π mk H0 w bs cs g wl bvs l H) {c:Addr} (hc:H c = none) (o:AObj):LgI A D π mk H0 w bs cs g wl bvs l (H.upd c o) :=
  ⟨I.s,I.g,I.wa,(kp_new (M:=[]) hc o).list I.hw,I.h0,I.p.new hc o,I.r,I.k.trans (kp_new hc o)⟩
theorem LgI.pop (I:LgI A D π mk H0 w bs cs g wl bvs l H) (v:Value):LgI A D π mk H0 w.dropLast bs cs g wl bvs (l.upd "one" v) (H.upd wl (.list (w.map fun n=>Value.int n 0).dropLast)) :=
  ⟨I.s,I.g,I.wa,by rw [Hp.upd_same,List.map_dropLast],I.h0,I.p.other I.hw _,I.r,I.k.fresh I.h0 _⟩
theorem LgI.cnt (I:LgI A D π mk H0 w bs cs g wl bvs l H) (cs':List (Int×Int)):LgI A D π mk H0 w bs cs' g wl bvs l (H.upd π.ct (.idict (vints cs'))) :=
  ⟨I.s,I.g,I.wa,(I.p.kc _).list I.hw,I.h0,I.p.cnt _,I.r,I.k.trans (I.p.kc _)⟩
theorem LgI.box (I:LgI A D π mk H0 w bs cs g wl bvs l H) (v:Value):LgI A D π mk H0 w (del bs one) cs g wl (PySem.without bvs one) (l.upd "what" v) (H.upd π.bx (.idict (PySem.without bvs one))) :=
  ⟨I.s,I.g,I.wa,(I.p.kb _).list I.hw,I.h0,I.p.box _,all2_del I.r one,I.k.trans (I.p.kb _)⟩
theorem LgI.go (I:LgI A D π mk H0 w bs cs g wl bvs l H) (g':Int):LgI A D π mk H0 w bs cs g' wl bvs (l.upd "gone" (.int g' 0)) H:=⟨I.s,rfl,I.wa,I.hw,I.h0,I.p,I.r,I.k⟩
theorem LgI.more (I:LgI A D π mk H0 w bs cs g wl bvs l H) {w2:Addr} (hw2:H w2 = none) (ks:List Int):LgI A D π mk H0 (w++ks) bs cs g w2 bvs (l.upd "waiting" (.ref w2)) (H.upd w2 (.list ((w.map fun n=>Value.int n 0)++ks.map fun n=>Value.int n 0))) :=
  ⟨I.s,I.g,rfl,by rw [Hp.upd_same,List.map_append],I.k.none I.p hw2,I.p.new hw2 _,I.r,I.k.trans (kp_new hw2 _)⟩
theorem lg_kids (F:Env G A) {c:Ct} {v:Value} (hv:RCt D H0 v c) (hzk:(kids c).length≤2 ^ 20) (hzw:w.length≤2 ^ 20) (I:LgI A D π mk H0 w bs cs g wl bvs l H) (gw:l "what" = some v)
    (hK:∀ wl l' H',LgI A D π mk H0 (w++kids c) bs cs g wl bvs l' H'→K .next l' H'):wpSs G false [.ite (.cmp (.idx (.loc "what") (.int 0)) .Eq (.str "branch")) [.asg "waiting" (.bin .Add (.loc "waiting") (.comp (.idx (.loc "row") (.int 1)) "row" (.idx (.loc "what") (.int 1)) []))] []] l H K X:=by
  cases c with
  | leaf m =>
    obtain ⟨a,rfl,ha⟩:=hv
    have ha:=I.k.tup ha
    exact ss_iff0 (by mem_news) (ss_nl (hK wl _ _ (by rw [kids,List.append_nil];exact I)))
  | br rows =>
    obtain ⟨a,rl,xs,rfl,ha,hrl,hrr, -⟩:=hv
    have ha:=I.k.tup ha
    have hrl:=I.k.list hrl
    have hkl:(kids (.br rows)).length = rows.length:=List.length_map ..
    have hlen:xs.length≤2 ^ 20:=by rw [all2_len hrr,← hkl];exact hzk
    refine ss_ift (by mem_news) ?_
    refine ss_asgW (w_binW (w_ev (ev_loc I.wa) (w_mapA (fun r:Str×Int=>.int r.2 0) (by mem_news) hrl rfl (len_line hlen) hrr (fun v row hv=>?_) fun nl hnl=>?_)))
    · obtain ⟨b,rfl,hb⟩:=hv
      have hb:=I.k.tup hb
      mem_news
    · have I':=I.new hnl (.list (rows.map fun r=>.int r.2 0))
      refine addl_at I'.hw (Hp.upd_same _ _ _) ?_ fun w2 hw2=>ss_nl (hK w2 _ _ ?_)
      · rw [List.length_map,List.length_map,← hkl];exact Nat.le_trans (Nat.add_le_add hzw hzk) (by decide)
      · have:=I'.more hw2 (kids (.br rows))
        rw [kids,List.map_map] at this
        exact this
theorem lg_gone (F:Env G A) {c:Ct} {v:Value} {k:Int} (hc:get cs one = some k) (q1:valueAt bvs one = some v) (hv:RCt D H0 v c) (hzk:(kids c).length≤2 ^ 20) (hzw:w.length≤2 ^ 20) (hzb:bs.length≤2 ^ 20) (hzc:cs.length≤2 ^ 20) (I:LgI A D π mk H0 w bs cs g wl bvs l H) (go:l "one" = some (.int one 0))
    (hK:∀ wl bvs l' H',LgI A D π mk H0 (w++kids c) (del bs one) (del cs one) (g + 1) wl bvs l' H'→K .next l' H'):wpSs G false lgG l H K X:=by
  have g1:=I.s;have hp:=I.p
  refine ss_asgW (w_dpop (by mem_news) (by mem_news) hp.b (by rw [all2_len I.r];exact len_line hzb) q1 ?_)
  have I4:=I.box (one:=one) v
  have hp4:=I4.p;have g3:=I4.g
  generalize H.upd π.bx (.idict (PySem.without bvs one)) = H4 at I4 hp4 ⊢
  refine ss_exprW (w_dpop (by mem_news) (by mem_news) hp4.c (by rw [ints_len];exact len_line hzc) (ints_some hc) ?_)
  rw [ints_del]
  have I5:=I4.cnt (del cs one)
  generalize H4.upd π.ct (.idict (vints (del cs one))) = H5 at I5 ⊢
  refine ss_asg (by mem_news) ?_
  exact lg_kids F hv hzk hzw (I5.go (g + 1)) rfl fun wl l' H' I=>hK wl _ l' H' I
theorem lg_turn (F:Env G A) (hz:w.length≤2 ^ 20∧bs.length≤2 ^ 20∧cs.length≤2 ^ 20) (hl:w.getLast? = some one) (I:LgI A D π mk H0 w bs cs g wl bvs l H)
    (hK:∀ w' bs' cs' g' wl bvs l' H',LgI A D π mk H0 w' bs' cs' g' wl bvs l' H'→lgo n w' bs' cs' g' = some fin→K .next l' H'∧K .cont l' H') (e:lgo (n + 1) w bs cs g = some fin):wpSs G false lgB l H K X:=by
  rw [lgo_eq hz hl] at e
  have hzw:w.dropLast.length≤2 ^ 20:=by rw [List.length_dropLast];exact Nat.le_trans (Nat.sub_le ..) hz.1
  refine ss_asgW (w_pop (ev_loc I.wa) I.hw (by rw [List.length_map];exact len_line hz.1) (by rw [List.getLast?_map,hl];rfl) ?_)
  have I2:=I.pop (.int one 0)
  generalize H.upd wl (.list (w.map fun n=>Value.int n 0).dropLast) = H2 at I2 ⊢
  have g1:=I2.s;have hp2:=I2.p
  rcases all2_get I.r one with ⟨v,c,q1,q2,q3⟩ | ⟨q1,q2⟩
  · have hb:(!(valueAt bvs one).isSome) = false:=by rw [q1];rfl
    refine ss_iff0 (by mem_news) ?_
    cases hc:get cs one with
    | none=>rw [lgoB_no q2 hc] at e;cases e
    | some k =>
    rw [lgoB_some q2 hc] at e
    have hv:=ints_some hc
    refine ss_key (by mem_news) (by mem_news) (by mem_news) hp2.c (by rw [ints_len];exact len_line hz.2.2) ?_
    rw [ints_put]
    have I3:=I2.cnt (put cs one (max 0 (k - 1)))
    generalize H2.upd π.ct (.idict (vints (put cs one (max 0 (k - 1))))) = H3 at I3 ⊢
    have hp3:=I3.p
    have hc3:get (put cs one (max 0 (k - 1))) one = some (max 0 (k - 1)):=by rw [get_put,if_pos rfl]
    have hv:=ints_some hc3
    refine ss_if (b:=decide (max 0 (k - 1) = 0)) (by mem_news) (fun hm=>?_) fun hm=>?_
    · rw [if_pos (of_decide_eq_true hm)] at e
      by_cases hzk:(kids c).length≤2 ^ 20
      · rw [if_pos hzk] at e
        exact lg_gone F hc3 q1 q3 hzk hzw hz.2.1 (by rw [put_len _ _ _ _ hc];exact hz.2.2) I3 rfl fun wl bvs l' H' I=>(hK _ _ _ _ _ _ _ _ I e).1
      · rw [if_neg hzk] at e;cases e
    · rw [if_neg (of_decide_eq_false hm)] at e
      exact ss_nl (hK _ _ _ _ _ _ _ _ I3 e).1
  · rw [lgoB_none q2] at e
    have hb:(!(valueAt bvs one).isSome) = true:=by rw [q1];rfl
    exact ss_ift (by mem_news) (ss_cont (hK _ _ _ _ _ _ _ _ I2 e).2)
end
noncomputable def LgW (G:Gx) (X:XS) (Q:QS) (n:Nat) (l:Loc) (H:Hp):Prop:=whileN (fun l' H' K=>wpE G false lgC l' H' (fun v H1=>truthV v fun b=>K b H1) (fun C H'=>X C l' H')) (fun l' H' K=>wpSs G false lgB l' H' K X) Q n l H
section
variable {H0:Hp} {w:List Int} {bs:List (Int×Ct)} {cs:List (Int×Int)} {g:Int} {wl:Addr} {bvs:List (Int×Value)} {l:Loc} {X:XS} {Q:QS} {r:List (Int×Ct)×List (Int×Int)×Int} {n:Nat}
theorem lg_cond (I:LgI A D π mk H0 w bs cs g wl bvs l H) {K:Bool→Hp→Prop} {X:XV} (q:∀ H1,LgI A D π mk H0 w bs cs g wl bvs l H1→K (!w.isEmpty) H1):wpE G false lgC l H (fun v H1=>truthV v fun b=>K b H1) X:=by
  refine w_cmpW (w_ev (ev_loc I.wa) (w_list evl_nil (Nat.le_of_ble_eq_true rfl) fun e1 he1=>?_))
  have I1:=I.new he1 (.list [])
  refine ⟨.list (w.map PyData.int), .list [], .list I1.hw (rd_ints w), .list (Hp.upd_same _ _ _) .nil,shaped_ints w,rfl, ?_⟩
  rw [eqv_nil,List.isEmpty_map]
  exact q _ I1
theorem lg_step (F:Env G A) (hD:∀ a∈D,∃ xs,H0 a = some (.list xs)) (fin:∀ l' H',l' "gone" = some (.int r.2.2 0)→PileR A D H' π r.1 r.2.1 mk→Kp π.M H0 H'→Q .next l' H')
    (ih:∀ w bs cs g wl bvs l H,LgI A D π mk H0 w bs cs g wl bvs l H→lgo n w bs cs g = some r→LgW G X Q n l H) (I:LgI A D π mk H0 w bs cs g wl bvs l H) (e:lgo (n + 1) w bs cs g = some r):LgW G X Q (n + 1) l H:=by
  refine lg_cond I fun H1 I1=>?_
  cases hlast:w.getLast? with
  | none =>
    obtain rfl:w = []:=List.getLast?_eq_none_iff.1 hlast
    obtain rfl:=lgo_nil e
    exact fin _ _ I1.g ⟨⟨bvs,I1.p,all2_imp (fun _ _ q=>⟨q.1,q.2.kp I1.k⟩) I1.r⟩,fun a ha=>let ⟨xs,e⟩:=hD a ha;⟨xs,I1.k.list e⟩⟩ I1.k
  | some one =>
    have hem:w.isEmpty = false:=by cases w with | nil=>cases hlast | cons _ _=>rfl
    rw [hem]
    exact lg_turn F (lgo_z e) hlast I1 (fun w' bs1 cs1 g1 wl' bvs' l' H' I' e'=>have h:=ih w' bs1 cs1 g1 wl' bvs' l' H' I' e';⟨h,h⟩) e
theorem lgo_loop (F:Env G A) (hD:∀ a∈D,∃ xs,H0 a = some (.list xs)) (fin:∀ l' H',l' "gone" = some (.int r.2.2 0)→PileR A D H' π r.1 r.2.1 mk→Kp π.M H0 H'→Q .next l' H') (n:Nat) :
    ∀ w bs cs g wl bvs l H,LgI A D π mk H0 w bs cs g wl bvs l H→lgo n w bs cs g = some r→LgW G X Q n l H :=
  Nat.rec (fun _ _ _ _ _ _ _ _ _ e=>nomatch e) (fun _ ih _ _ _ _ _ _ _ _=>lg_step F hD fin ih) n
end
noncomputable def C_let_go (G:Gx) (A:Ad):Prop:=∀ ⦃D:List Addr⦄ ⦃H:Hp⦄ ⦃π:PA⦄ ⦃bs:List (Int×Ct)⦄ ⦃cs:List (Int×Int)⦄ ⦃mk:Int⦄,PileR A D H π bs cs mk→∀ ⦃i:Int⦄ ⦃c:Ct⦄,get bs i = some c→∀ ⦃n:Nat⦄ ⦃bs':List (Int×Ct)⦄ ⦃cs':List (Int×Int)⦄ ⦃g':Int⦄,lgo n [i] bs cs 0 = some (bs',cs',g')→∀ ⦃Q:QV⦄ ⦃X:XV⦄,
  (∀ H',PileR A D H' π bs' cs' mk→Kp π.M H H'→Q (.int g' 0) H')→G.fn (A "Pile" "let_go") false [.ref π.x, .int i 0] H Q X
theorem let_go_ok (F:Env G A) (N:C_need G A) (h:PileR A D H π bs cs mk) {i:Int} {c:Ct} (e:get bs i = some c) {n:Nat} {bs':List (Int×Ct)} {cs':List (Int×Int)} {g':Int} (hg:lgo n [i] bs cs 0 = some (bs',cs',g'))
    (q:∀ H',PileR A D H' π bs' cs' mk→Kp π.M H H'→Q (.int g' 0) H'):wpF G false ["self", "box"] b_Pile_let_go [.ref π.x, .int i 0] H Q X:=by
  obtain ⟨bvs,p,r⟩:=id h.ex
  refine f_in rfl ?_
  refine ss_asgW (w_listW (wl_cons (w_meth (by mem_news) p.i p.n (by nest_cls) (by rfl) (by mem_news) (N h e (wl_nil ⟨Nat.le_of_ble_eq_true rfl,fun wl hwl=>?_⟩)))))
  refine ss_asg (by mem_news) ?_
  refine ss_while n ?_
  refine lgo_loop F h.dom (H0:=H) (r:=(bs',cs',g')) (fun l' H' g3 h' k'=>?_) n [i] bs cs 0 wl bvs _ _ ⟨rfl,rfl,rfl,Hp.upd_same _ _ _,hwl,p.new hwl _,r,kp_new hwl _⟩ hg
  exact ss_ret (ev_loc g3) (q H' h' k')
structure TabP (tab:Tab) (A:Ad):Prop where
  need:HasF tab (A "Pile" "need") ["self", "box"] b_Pile_need
  fresh:HasF tab (A "Pile" "fresh") ["self", "what"] b_Pile_fresh
  hold:HasF tab (A "Pile" "hold") ["self", "box"] b_Pile_hold
  leaf:HasF tab (A "Pile" "leaf") ["self", "number"] b_Pile_leaf
  content:HasF tab (A "Pile" "content") ["self", "box"] b_Pile_content
  branch:HasF tab (A "Pile" "branch") ["self", "rows"] b_Pile_branch
  let_go:HasF tab (A "Pile" "let_go") ["self", "box"] b_Pile_let_go
section
variable {g:Gx} {tab:Tab} (f:Env g A) (t:TabP tab A) (n:Nat)
include f t
theorem need_at:C_need (GG g tab (n + 1)) A:=fun _ _ _ _ _ _ h _ _ _ e _ _ _ q=>fn_gg t.need (need_ok (f.gg tab n) h e q)
theorem fresh_at:C_fresh (GG g tab (n + 1)) A:=fun _ _ _ _ _ _ h _ _ hv z1 z2 _ _ q=>fn_gg t.fresh (fresh_ok (f.gg tab n) h hv z1 z2 q)
theorem hold_at:C_hold (GG g tab (n + 2)) A:=fun _ _ _ _ _ _ h _ _ _ _ e ec z _ _ q=>fn_gg t.hold (hold_ok (f.gg tab _) (need_at f t n) h e ec z q)
theorem leaf_at:C_leaf (GG g tab (n + 2)) A:=fun _ _ _ _ _ _ h _ z1 z2 _ _ q=>fn_gg t.leaf (leaf_ok (f.gg tab _) (fresh_at f t n) h z1 z2 q)
theorem content_at:C_content (GG g tab (n + 2)) A:=fun _ _ _ _ _ _ h _ _ _ e zc _ _ _ q=>fn_gg t.content (content_ok (f.gg tab _) (need_at f t n) h e zc q)
theorem branch_at:C_branch (GG g tab (n + 3)) A:=fun _ _ _ _ _ _ h _ _ _ _ h1 h2 h3 h4 z1 z2 z3 _ _ q=>fn_gg t.branch (branch_ok (f.gg tab _) (need_at f t (n + 1)) (hold_at f t n) (fresh_at f t (n + 1)) h h1 h2 h3 h4 z1 z2 z3 q)
theorem let_go_at:C_let_go (GG g tab (n + 2)) A:=fun _ _ _ _ _ _ h _ _ e _ _ _ _ hg _ _ q=>fn_gg t.let_go (let_go_ok (f.gg tab _) (need_at f t n) h e hg q)
end
end
end Mine.St
end

section
open PySem PyProof.Rows
namespace Mine.St
open Mine
section
variable {A:Ad} {D:List Addr} {G:Gx} {H H':Hp} {π:PA} {bs:List (Int×Ct)} {cs:List (Int×Int)} {mk:Int} {Q:QV} {X:XV}
theorem Kp.absent (k:Kp [] H H') {c:Addr} (h:H' c = Option.none):H c = Option.none:=by
  cases e:H c with
  | none=>rfl
  | some p=>rw [k c p e (.inr List.not_mem_nil)] at h;cases h
theorem RCt.grow {v:Value} {c:Ct} (h:RCt D H v c) (k:Kp [] H H') {a:Addr} (ha:H a = none):RCt (a :: D) H' v c:=by
  cases c with
  | leaf n=>exact RCt.kp k h
  | br rows =>
    obtain ⟨b,l,xs,e,q,q2,q3,q4⟩:=h
    refine ⟨b,l,xs,e,k.tup q,k.list q2,all2_imp (fun _ _ h=>h.kp k) q3,fun z=>?_⟩
    rcases List.mem_cons.1 z with z | z
    · rw [z,ha] at q2;cases q2
    · exact q4 z
theorem RRow.app {v:Value} {r:Str×Int} (h:RRow H v r) {a:Addr} {xs:List Value} (ha:H a = some (.list xs)) (o:AObj):RRow (H.upd a o) v r:=by
  obtain ⟨b,e,q⟩:=h
  exact ⟨b,e,(Hp.upd_ne _ _ fun z=>by rw [z,ha] at q;cases q).trans q⟩
theorem RCt.app {v:Value} {c:Ct} (h:RCt D H v c) {a:Addr} (hD:a∈D) {xs:List Value} (ha:H a = some (.list xs)) (o:AObj):RCt D (H.upd a o) v c:=by
  cases c with
  | leaf n =>
    obtain ⟨b,e,q⟩:=h
    exact ⟨b,e,(Hp.upd_ne _ _ fun z=>by rw [z,ha] at q;cases q).trans q⟩
  | br rows =>
    obtain ⟨b,l,ys,e,q,q2,q3,q4⟩:=h
    exact ⟨b,l,ys,e,(Hp.upd_ne _ _ fun z=>by rw [z,ha] at q;cases q).trans q,(Hp.upd_ne _ _ fun z=>q4 (by rw [z];exact hD)).trans q2,all2_imp (fun _ _ h=>h.app ha o) q3,q4⟩
theorem PileR.grow (h:PileR A D H π bs cs mk) (k:Kp [] H H') {a:Addr} (ha:H a = none) {xs:List Value} (hx:H' a = some (.list xs)):PileR A (a :: D) H' π bs cs mk:=by
  obtain ⟨bvs,p,r⟩:=h.ex
  refine ⟨⟨bvs,p.kp0 k List.not_mem_nil List.not_mem_nil List.not_mem_nil,all2_imp (fun _ _ q=>⟨q.1,q.2.grow k ha⟩) r⟩,fun b hb=>?_⟩
  rcases List.mem_cons.1 hb with z | z
  · exact ⟨xs,z ▸ hx⟩
  · exact h.domk k b z
theorem PileR.app (h:PileR A D H π bs cs mk) {a:Addr} (hD:a∈D) (ys:List Value):PileR A D (H.upd a (.list ys)) π bs cs mk:=by
  obtain ⟨bvs,p,r⟩:=h.ex
  obtain ⟨xs,ha⟩:=h.dom a hD
  refine ⟨⟨bvs,p.other ha _,all2_imp (fun _ _ q=>⟨q.1,q.2.app hD ha _⟩) r⟩,fun b hb=>?_⟩
  by_cases e:b = a
  · subst e;exact ⟨ys,Hp.upd_same _ _ _⟩
  · obtain ⟨zs,q⟩:=h.dom b hb
    exact ⟨zs,(Hp.upd_ne _ _ e).trans q⟩
theorem sorted_keys {d:Addr} {kvs:List (Int×Value)} (hd:H d = some (.idict kvs)) (hz:kvs.length < 64) (ha:(kvs.map (·.1)).Pairwise (· < ·)) (q:∀ c,H c = none→Q (.ref c) (H.upd c (.list ((kvs.map (·.1)).map fun n=>Value.int n 0)))):bfV .sorted [.ref d] H Q:=by
  have hle:(kvs.map (·.1)).Pairwise (·≤·):=ha.imp fun h=>Int.le_of_lt h
  conv=>whnf
  rw [hd]
  refine ⟨hz,fun ms hp hs=>?_⟩
  rw [perm_eq hp hs hle]
  exact q
noncomputable def C_kept (G:Gx) (A:Ad):Prop:=∀ ⦃D:List Addr⦄ ⦃H:Hp⦄ ⦃π:PA⦄ ⦃bs:List (Int×Ct)⦄ ⦃cs:List (Int×Int)⦄ ⦃mk:Int⦄,PileR A D H π bs cs mk→bs.length < 64→(bs.map (·.1)).Pairwise (· < ·)→∀ ⦃Q:QV⦄ ⦃X:XV⦄,(∀ c,H c = none→Q (.ref c) (H.upd c (.list ((bs.map (·.1)).map fun n=>Value.int n 0))))→G.fn (A "Pile" "kept") false [.ref π.x] H Q X
theorem kept_ok (F:Env G A) (h:PileR A D H π bs cs mk) (hz:bs.length < 64) (ha:(bs.map (·.1)).Pairwise (· < ·)) (q:∀ c,H c = none→Q (.ref c) (H.upd c (.list ((bs.map (·.1)).map fun n=>Value.int n 0)))):wpF G false ["self"] b_Pile_kept [.ref π.x] H Q X:=by
  obtain ⟨bvs,p,r⟩:=h.ex
  rw [← all2_keys r] at ha q
  refine f_in rfl ?_
  refine ss_retW (w_bfW (wl_cons (w_ev (v:=.ref π.bx) (by mem_news) (wl_nil ⟨.inr (.inl rfl),sorted_keys p.b (by rw [all2_len r];exact hz) ha q⟩))))
noncomputable def C_pinit (G:Gx) (A:Ad):Prop:=∀ ⦃H:Hp⦄ ⦃x d:Addr⦄,H d = none→H x = none→d≠x→∀ ⦃Q:QV⦄ ⦃X:XV⦄,(∀ H' π,π.x = x→PileR A [] H' π [] [] 0→Kp [] H H'→(∀ a∈π.M,H a = none)→Q .none H')→G.fn (A "Pile" "__init__") false [.ref x] ((H.upd d (.ns [])).upd x (.inst (A "Pile" "") d)) Q X
theorem kp_two {x d:Addr} (hd:H d = none) (hx:H x = none) (o o':AObj):Kp [] H ((H.upd d o).upd x o'):=fun c p hc _=>by
  rw [Hp.upd_ne _ _ (fun e=>by rw [e,hx] at hc;cases hc),Hp.upd_ne _ _ (fun e=>by rw [e,hd] at hc;cases hc)];exact hc
theorem kp_mine {H0:Hp} {d:Addr} (h:Kp [] H0 H) (hd:H0 d = none) (o:AObj):Kp [] H0 (H.upd d o):=h.fresh hd o
theorem pinit_ok (F:Env G A) {x d:Addr} (hd:H d = none) (hx:H x = none) (hdx:d≠x) (q:∀ H' π,π.x = x→PileR A [] H' π [] [] 0→Kp [] H H'→(∀ a∈π.M,H a = none)→Q .none H'):wpF G false ["self"] b_Pile___init__ [.ref x] ((H.upd d (.ns [])).upd x (.inst (A "Pile" "") d)) Q X:=by
  have k1:=kp_two hd hx (.ns []) (.inst (A "Pile" "") d)
  have i1:((H.upd d (.ns [])).upd x (.inst (A "Pile" "") d)) x = some (.inst (A "Pile" "") d):=Hp.upd_same _ _ _
  have n1:((H.upd d (.ns [])).upd x (.inst (A "Pile" "") d)) d = some (.ns []):=by rw [Hp.upd_ne _ _ hdx,Hp.upd_same]
  generalize (H.upd d (.ns [])).upd x (.inst (A "Pile" "") d) = H1 at *
  refine f_in rfl ?_
  refine ss_setW (w_dict0 fun bx hbx=>w_ev (v:=.ref x) (by mem_news) ?_)
  have k2:Kp [] H1 (H1.upd bx (.idict [])):=kp_new hbx _
  have b2:(H1.upd bx (.idict [])) bx = some (.idict []):=Hp.upd_same _ _ _
  have i2:=k2 _ _ i1 (.inl rfl)
  have n2:=k2 _ _ n1 (.inr (by simp))
  have dbx:d≠bx:=fun e=>by rw [← e,n1] at hbx;cases hbx
  have xbx:x≠bx:=fun e=>by rw [← e,i1] at hbx;cases hbx
  have hbx0:=k1.absent hbx
  have k12:=k1.trans k2
  generalize H1.upd bx (.idict []) = H2 at *
  refine setattr_at i2 n2 (by nest_cls) (by simp) ?_
  have k3:=kp_mine k12 hd (.ns (stored [] (Str.ofString "boxes") (.ref bx)))
  have i3:=(Hp.upd_ne H2 (.ns (stored [] (Str.ofString "boxes") (.ref bx))) hdx.symm).trans i2
  have n3:(H2.upd d (.ns (stored [] (Str.ofString "boxes") (.ref bx)))) d = some (.ns [("boxes", .ref bx)]):=Hp.upd_same _ _ _
  have b3:=(Hp.upd_ne H2 (.ns (stored [] (Str.ofString "boxes") (.ref bx))) dbx.symm).trans b2
  generalize H2.upd d (.ns (stored [] (Str.ofString "boxes") (.ref bx))) = H3 at *
  refine ss_setW (w_dict0 fun ct hct=>w_ev (v:=.ref x) (by mem_news) ?_)
  have k4:Kp [] H3 (H3.upd ct (.idict [])):=kp_new hct _
  have c4:(H3.upd ct (.idict [])) ct = some (.idict []):=Hp.upd_same _ _ _
  have i4:=k4 _ _ i3 (.inl rfl)
  have n4:=k4 _ _ n3 (.inr (by simp))
  have b4:=k4 _ _ b3 (.inr (by simp))
  have dct:d≠ct:=fun e=>by rw [← e,n3] at hct;cases hct
  have bct:bx≠ct:=fun e=>by rw [← e,b3] at hct;cases hct
  have hct0:=k3.absent hct
  have k34:=k3.trans k4
  generalize H3.upd ct (.idict []) = H4 at *
  refine setattr_at i4 n4 (by nest_cls) (by simp) ?_
  have k5:=kp_mine k34 hd (.ns (stored [("boxes", .ref bx)] (Str.ofString "counts") (.ref ct)))
  have i5:=(Hp.upd_ne H4 (.ns (stored [("boxes", .ref bx)] (Str.ofString "counts") (.ref ct))) hdx.symm).trans i4
  have n5:(H4.upd d (.ns (stored [("boxes", .ref bx)] (Str.ofString "counts") (.ref ct)))) d = some (.ns [("boxes", .ref bx),("counts", .ref ct)]):=Hp.upd_same _ _ _
  have b5:=(Hp.upd_ne H4 (.ns (stored [("boxes", .ref bx)] (Str.ofString "counts") (.ref ct))) dbx.symm).trans b4
  have c5:=(Hp.upd_ne H4 (.ns (stored [("boxes", .ref bx)] (Str.ofString "counts") (.ref ct))) dct.symm).trans c4
  generalize H4.upd d (.ns (stored [("boxes", .ref bx)] (Str.ofString "counts") (.ref ct))) = H5 at *
  refine ss_set ev_int (by mem_news) i5 n5 (by nest_cls) (by simp) (ss_nl ?_)
  refine q _ ⟨x,d,bx,ct⟩ rfl ⟨⟨[],⟨(Hp.upd_ne _ _ hdx.symm).trans i5,Hp.upd_same _ _ _,(Hp.upd_ne _ _ dbx.symm).trans b5,(Hp.upd_ne _ _ dct.symm).trans c5,bct⟩, .nil⟩,fun _ z=>absurd z List.not_mem_nil⟩ (kp_mine k5 hd _) ?_
  intro a ha
  simp only [PA.M,List.mem_cons,List.not_mem_nil,or_false] at ha
  rcases ha with rfl | rfl | rfl
  · exact hd
  · exact hbx0
  · exact hct0
noncomputable def C_no (m:Str) (G:Gx) (A:Ad):Prop:=∀ ⦃D:List Addr⦄ ⦃H:Hp⦄ ⦃π:PA⦄ ⦃bs:List (Int×Ct)⦄ ⦃cs:List (Int×Int)⦄ ⦃mk:Int⦄,PileR A D H π bs cs mk→∀ ⦃i:Int⦄ ⦃t:Tok⦄,get bs i = none→∀ ⦃Q:QV⦄ ⦃X:XV⦄,X (A "NoBox" "") H→G.fn (A "Pile" m) false [.ref π.x, .int i t] H Q X
section
variable {i:Int} {t:Tok}
theorem PileR.nobox (h:PileR A D H π bs cs mk) (e:get bs i = none):∃ bvs,PileAt A H π.x π.d π.bx π.ct bvs (vints cs) mk∧valueAt bvs i = none:=by
  obtain ⟨bvs,p,r⟩:=h.ex
  rcases all2_get r i with ⟨v,c',h1,h2,h3⟩ | ⟨h1,h2⟩
  · rw [e] at h2;cases h2
  · exact ⟨bvs,p,h1⟩
theorem need_no (F:Env G A) (h:PileR A D H π bs cs mk) (e:get bs i = none) (q:X (A "NoBox" "") H):wpF G false ["self", "box"] b_Pile_need [.ref π.x, .int i t] H Q X:=by
  obtain ⟨bvs,p,hv⟩:=h.nobox e
  have hb:(!(valueAt bvs i).isSome) = true:=by rw [hv];rfl
  refine f_in rfl (ss_ift (by mem_news) ?_)
  exact ss_raise rfl F.nobox F.nobe q
theorem content_no (F:Env G A) (N:C_no "need" G A) (h:PileR A D H π bs cs mk) (e:get bs i = none) (q:X (A "NoBox" "") H):wpF G false ["self", "box"] b_Pile_content [.ref π.x, .int i t] H Q X:=by
  obtain ⟨bvs,p,hv⟩:=h.nobox e
  exact f_in rfl (ss_asgW (w_idxW (w_ev (v:=.ref π.bx) (by mem_news) (w_meth (by mem_news) p.i p.n (by nest_cls) (by rfl) (by mem_news) (N h e q)))))
theorem hold_no (F:Env G A) (N:C_no "need" G A) (h:PileR A D H π bs cs mk) (e:get bs i = none) (q:X (A "NoBox" "") H):wpF G false ["self", "box"] b_Pile_hold [.ref π.x, .int i t] H Q X:=by
  obtain ⟨bvs,p,hv⟩:=h.nobox e
  exact f_in rfl (ss_exprW (w_meth (by mem_news) p.i p.n (by nest_cls) (by rfl) (by mem_news) (N h e q)))
theorem holders_no (F:Env G A) (N:C_no "need" G A) (h:PileR A D H π bs cs mk) (e:get bs i = none) (q:X (A "NoBox" "") H):wpF G false ["self", "box"] b_Pile_holders [.ref π.x, .int i t] H Q X:=by
  obtain ⟨bvs,p,hv⟩:=h.nobox e
  exact f_in rfl (ss_retW (w_idxW (w_ev (v:=.ref π.ct) (by mem_news) (w_meth (by mem_news) p.i p.n (by nest_cls) (by rfl) (by mem_news) (N h e q)))))
theorem let_go_no (F:Env G A) (N:C_no "need" G A) (h:PileR A D H π bs cs mk) (e:get bs i = none) (q:X (A "NoBox" "") H):wpF G false ["self", "box"] b_Pile_let_go [.ref π.x, .int i t] H Q X:=by
  obtain ⟨bvs,p,hv⟩:=h.nobox e
  exact f_in rfl (ss_asgW (w_listW (wl_cons (w_meth (by mem_news) p.i p.n (by nest_cls) (by rfl) (by mem_news) (N h e q)))))
noncomputable def C_bno (G:Gx) (A:Ad):Prop:=∀ ⦃D:List Addr⦄ ⦃H:Hp⦄ ⦃π:PA⦄ ⦃bs:List (Int×Ct)⦄ ⦃cs:List (Int×Int)⦄ ⦃mk:Int⦄,PileR A D H π bs cs mk→∀ ⦃i j:Int⦄ ⦃c:Ct⦄ ⦃rl:Addr⦄ ⦃a b:Addr⦄ ⦃x y:Value⦄ ⦃rs:List Value⦄,get bs j = some c→get bs i = none→H rl = some (.list (.ref a :: .ref b :: rs))→H a = some (.tup [x, .int j 0])→H b = some (.tup [y, .int i 0])→∀ ⦃Q:QV⦄ ⦃X:XV⦄,X (A "NoBox" "") H→G.fn (A "Pile" "branch") false [.ref π.x, .ref rl] H Q X
theorem branch_no (F:Env G A) (N:C_need G A) (N0:C_no "need" G A) (h:PileR A D H π bs cs mk) {i j:Int} {c:Ct} {rl:Addr} {a b:Addr} {x y:Value} {rs:List Value} (ej:get bs j = some c) (ei:get bs i = none) (hl:H rl = some (.list (.ref a :: .ref b :: rs))) (ha:H a = some (.tup [x, .int j 0])) (hb:H b = some (.tup [y, .int i 0])) (q:X (A "NoBox" "") H) :
    wpF G false ["self", "rows"] b_Pile_branch [.ref π.x, .ref rl] H Q X:=by
  obtain ⟨bvs,p,hv⟩:=h.nobox ei
  refine f_in rfl (ss_for (by mem_news) hl rfl ⟨hl, ?_⟩)
  refine ss_exprW (w_meth (by mem_news) p.i p.n (by nest_cls) (by rfl) (by mem_news) (N h ej ?_))
  refine ss_nl ⟨hl, ?_⟩
  exact ss_exprW (w_meth (by mem_news) p.i p.n (by nest_cls) (by rfl) (by mem_news) (N0 h ei q))
end
structure TabQ (tab:Tab) (A:Ad):Prop where
  p:TabP tab A
  holders:HasF tab (A "Pile" "holders") ["self", "box"] b_Pile_holders
  kept:HasF tab (A "Pile" "kept") ["self"] b_Pile_kept
  pinit:HasF tab (A "Pile" "__init__") ["self"] b_Pile___init__
section
variable {g:Gx} {tab:Tab} (f:Env g A) (t:TabQ tab A) (n:Nat)
include f t
theorem holders_at:C_holders (GG g tab (n + 2)) A:=fun _ _ _ _ _ _ h _ _ _ _ e ec _ _ q=>fn_gg t.holders (holders_ok (f.gg tab _) (need_at f t.p n) h e ec q)
theorem kept_at:C_kept (GG g tab (n + 1)) A:=fun _ _ _ _ _ _ h hz ha _ _ q=>fn_gg t.kept (kept_ok (f.gg tab _) h hz ha q)
theorem pinit_at:C_pinit (GG g tab (n + 1)) A:=fun _ _ _ hd hx hne _ _ q=>fn_gg t.pinit (pinit_ok (f.gg tab _) hd hx hne q)
theorem need_na:C_no "need" (GG g tab (n + 1)) A:=fun _ _ _ _ _ _ h _ _ e _ _ q=>fn_gg t.p.need (need_no (f.gg tab _) h e q)
theorem content_na:C_no "content" (GG g tab (n + 2)) A:=fun _ _ _ _ _ _ h _ _ e _ _ q=>fn_gg t.p.content (content_no (f.gg tab _) (need_na f t n) h e q)
theorem hold_na:C_no "hold" (GG g tab (n + 2)) A:=fun _ _ _ _ _ _ h _ _ e _ _ q=>fn_gg t.p.hold (hold_no (f.gg tab _) (need_na f t n) h e q)
theorem holders_na:C_no "holders" (GG g tab (n + 2)) A:=fun _ _ _ _ _ _ h _ _ e _ _ q=>fn_gg t.holders (holders_no (f.gg tab _) (need_na f t n) h e q)
theorem let_go_na:C_no "let_go" (GG g tab (n + 2)) A:=fun _ _ _ _ _ _ h _ _ e _ _ q=>fn_gg t.p.let_go (let_go_no (f.gg tab _) (need_na f t n) h e q)
theorem branch_na:C_bno (GG g tab (n + 2)) A:=fun _ _ _ _ _ _ h _ _ _ _ _ _ _ _ _ ej ei hl ha hb _ _ q=>fn_gg t.p.branch (branch_no (f.gg tab _) (need_at f t.p n) (need_na f t n) h ej ei hl ha hb q)
end
end
end Mine.St
end

section
open PySem PyProof.Rows
namespace Mine.L8
open Mine Mine.St
noncomputable def b__law_whole:List Sm:=[.ret (.bop true [.isi (.loc "_law_seen") .int, .not (.isi (.loc "_law_seen") .bool)])]
noncomputable def b__law_count:List Sm:=[.ret (.bop true [.call (.glob "_law_whole") [.loc "_law_seen"], .cmp (.loc "_law_seen") .Eq (.loc "_law_due")])]
noncomputable def b__law_rows_by:List Sm:=[.asg "_law_many" (.bin .Mod (.loc "_law_cell") (.int 6)), .ite (.cmp (.bin .Mod (.bin .FloorDiv (.loc "_law_cell") (.int 6)) (.int 8)) .Eq (.int 7)) [.asg "_law_many" (.bin .Mod (.bin .FloorDiv (.loc "_law_cell") (.int 48)) (.int 41))] [], .asg "_law_some" (.comp (.bin .Add (.idx (.str "nopqrstuvwxyz") (.bin .Mod (.bin .Add (.bin .FloorDiv (.loc "_law_cell") (.int 7)) (.bin .Mult (.int 5) (.loc "_law_k"))) (.int 13))) (.bin .Mult (.idx (.str "abcd") (.bin .Mod (.loc "_law_k") (.int 4))) (.bin .FloorDiv (.loc "_law_k") (.int 13)))) "_law_k" (.bf .range [.loc "_law_many"]) []), .asg "_law_names" (.bf .sortedSet [.loc "_law_some"]), .ret (.comp (.tup [.idx (.loc "_law_names") (.loc "_law_k"), .idx (.loc "_law_there") (.bin .Mod (.bin .Add (.bin .FloorDiv (.loc "_law_cell") (.int 11)) (.bin .Mult (.int 3) (.loc "_law_k"))) (.bf .len [.loc "_law_there"]))]) "_law_k" (.bf .range [.bf .len [.loc "_law_names"]]) [])]
noncomputable def b__law_alike:List Sm:=[.ite (.bop false [.not (.isi (.loc "_law_seen") .tuple), .cmp (.bf .len [.loc "_law_seen"]) .NotEq (.int 2), .not (.isi (.idx (.loc "_law_seen") (.int 0)) .str), .cmp (.idx (.loc "_law_seen") (.int 0)) .NotEq (.idx (.loc "_law_due") (.int 0))]) [.ret (.bool false)] [], .ite (.cmp (.idx (.loc "_law_due") (.int 0)) .Eq (.str "leaf")) [.ret (.call (.glob "_law_count") [.idx (.loc "_law_seen") (.int 1), .idx (.loc "_law_due") (.int 1)])] [], .ite (.bop false [.not (.isi (.idx (.loc "_law_seen") (.int 1)) .list), .cmp (.bf .len [.idx (.loc "_law_seen") (.int 1)]) .NotEq (.bf .len [.idx (.loc "_law_due") (.int 1)])]) [.ret (.bool false)] [], .for_ "_law_k" (.bf .range [.bf .len [.idx (.loc "_law_due") (.int 1)]]) [.asg "_law_pair" (.idx (.idx (.loc "_law_seen") (.int 1)) (.loc "_law_k")), .ite (.bop false [.not (.isi (.loc "_law_pair") .tuple), .cmp (.loc "_law_pair") .NotEq (.idx (.idx (.loc "_law_due") (.int 1)) (.loc "_law_k")), .not (.call (.glob "_law_whole") [.idx (.loc "_law_pair") (.int 1)])]) [.ret (.bool false)] []], .ret (.bool true)]
noncomputable def b__law_gone:List Sm:=[.asg "_law_waiting" (.list [.loc "_law_box"]), .asg "_law_gone_here" (.int 0), .while_ (.cmp (.loc "_law_waiting") .NotEq (.list [])) [.asg "_law_one" (.bm .pop (.loc "_law_waiting") []), .ite (.cmp (.loc "_law_one") .In (.loc "_law_counts")) [.asgIdx (.loc "_law_counts") (.loc "_law_one") (.bf .max2 [.int 0, .bin .Sub (.idx (.loc "_law_counts") (.loc "_law_one")) (.int 1)])] [], .ite (.bop true [.cmp (.loc "_law_one") .In (.loc "_law_counts"), .cmp (.idx (.loc "_law_counts") (.loc "_law_one")) .Eq (.int 0)]) [.asg "_law_gone_here" (.bin .Add (.loc "_law_gone_here") (.int 1)), .expr (.bm .pop (.loc "_law_counts") [.loc "_law_one"]), .asg "_law_left" (.bm .pop (.loc "_law_inside") [.loc "_law_one"]), .ite (.cmp (.idx (.loc "_law_left") (.int 0)) .Eq (.str "branch")) [.asg "_law_waiting" (.bin .Add (.loc "_law_waiting") (.comp (.idx (.loc "_law_pair") (.int 1)) "_law_pair" (.idx (.loc "_law_left") (.int 1)) []))] []] []], .ret (.loc "_law_gone_here")]
noncomputable def b__law_refused:List Sm:=[.try_ [.ite (.cmp (.bin .Mod (.loc "_law_cell") (.int 6)) .Eq (.int 0)) [.expr (.meth (.loc "_law_pile") "content" [.loc "_law_box"])] [.ite (.cmp (.bin .Mod (.loc "_law_cell") (.int 6)) .Eq (.int 1)) [.expr (.meth (.loc "_law_pile") "let_go" [.loc "_law_box"])] [.ite (.cmp (.bin .Mod (.loc "_law_cell") (.int 6)) .Eq (.int 2)) [.expr (.meth (.loc "_law_pile") "hold" [.loc "_law_box"])] [.ite (.cmp (.bin .Mod (.loc "_law_cell") (.int 6)) .Eq (.int 3)) [.expr (.meth (.loc "_law_pile") "holders" [.loc "_law_box"])] [.expr (.meth (.loc "_law_pile") "branch" [.list [.tup [.str "a", .loc "_law_good"], .tup [.str "b", .loc "_law_box"], .tup [.str "c", .loc "_law_good"]]])]]]]] [.mk "NoBox" none [.ret (.bool true)]], .ret (.bool false)]
noncomputable def b__law_as_due:List Sm:=[.asg "_law_kept" (.meth (.loc "_law_pile") "kept" []), .ite (.bop false [.not (.isi (.loc "_law_kept") .list), .cmp (.loc "_law_kept") .NotEq (.bf .sorted [.loc "_law_inside"]), .not (.call (.glob "_law_count") [.attr (.loc "_law_pile") "made", .loc "_law_made"])]) [.ret (.bool false)] [], .ret (.bf .all [.comp (.bop true [.call (.glob "_law_whole") [.loc "_law_box"], .call (.glob "_law_count") [.meth (.loc "_law_pile") "holders" [.loc "_law_box"], .idx (.loc "_law_counts") (.loc "_law_box")]]) "_law_box" (.loc "_law_kept") []])]
noncomputable def b__law_step:List Sm:=[.asg "_law_there" (.bf .sorted [.loc "_law_inside"]), .asg "_law_way" (.bin .Mod (.loc "_law_cell") (.int 6)), .asg "_law_some" (.bin .FloorDiv (.loc "_law_cell") (.int 6)), .ite (.bop false [.cmp (.loc "_law_way") .Eq (.int 0), .cmp (.loc "_law_there") .Eq (.list [])]) [.asg "_law_number" (.bin .Add (.bin .Sub (.bin .Mod (.loc "_law_some") (.bin .Sub (.bin .Mult (.int 2) (.bin .Pow (.int 10) (.int 30))) (.int 1))) (.bin .Pow (.int 10) (.int 30))) (.int 1)), .asgIdx (.loc "_law_inside") (.bin .Add (.loc "_law_made") (.int 1)) (.tup [.str "leaf", .loc "_law_number"]), .asgIdx (.loc "_law_counts") (.bin .Add (.loc "_law_made") (.int 1)) (.int 0), .ret (.call (.glob "_law_count") [.meth (.loc "_law_pile") "leaf" [.loc "_law_number"], .bin .Add (.loc "_law_made") (.int 1)])] [], .ite (.cmp (.loc "_law_way") .Lt (.int 3)) [.asg "_law_rows" (.call (.glob "_law_rows_by") [.loc "_law_some", .loc "_law_there"]), .asg "_law_handed" (.bf .list [.loc "_law_rows"]), .asg "_law_seen" (.meth (.loc "_law_pile") "branch" [.loc "_law_handed"]), .ite (.cmp (.loc "_law_handed") .NotEq (.loc "_law_rows")) [.ret (.bool false)] [], .expr (.bm .append (.loc "_law_handed") [.tup [.str "zzz", .idx (.loc "_law_there") (.int 0)]]), .for_ "_law_pair" (.loc "_law_rows") [.asgIdx (.loc "_law_counts") (.idx (.loc "_law_pair") (.int 1)) (.bin .Add (.idx (.loc "_law_counts") (.idx (.loc "_law_pair") (.int 1))) (.int 1))], .asgIdx (.loc "_law_inside") (.bin .Add (.loc "_law_made") (.int 1)) (.tup [.str "branch", .loc "_law_rows"]), .asgIdx (.loc "_law_counts") (.bin .Add (.loc "_law_made") (.int 1)) (.int 0), .ret (.call (.glob "_law_count") [.loc "_law_seen", .bin .Add (.loc "_law_made") (.int 1)])] [], .asg "_law_box" (.idx (.loc "_law_there") (.bin .Mod (.loc "_law_some") (.bf .len [.loc "_law_there"]))), .ite (.cmp (.loc "_law_way") .Eq (.int 3)) [.asgIdx (.loc "_law_counts") (.loc "_law_box") (.bin .Add (.idx (.loc "_law_counts") (.loc "_law_box")) (.int 1)), .ret (.bop true [.cmp (.meth (.loc "_law_pile") "hold" [.loc "_law_box"]) .Is (.none), .call (.glob "_law_alike") [.meth (.loc "_law_pile") "content" [.loc "_law_box"], .idx (.loc "_law_inside") (.loc "_law_box")]])] [], .ite (.cmp (.loc "_law_way") .Eq (.int 4)) [.ret (.call (.glob "_law_count") [.meth (.loc "_law_pile") "let_go" [.loc "_law_box"], .call (.glob "_law_gone") [.loc "_law_inside", .loc "_law_counts", .loc "_law_box"]])] [], .asg "_law_missing" (.comp (.loc "_law_box") "_law_box" (.bf .range [.int 1, .bin .Add (.loc "_law_made") (.int 2)]) [.cmp (.loc "_law_box") .NotIn (.loc "_law_inside")]), .ret (.call (.glob "_law_refused") [.loc "_law_pile", .idx (.loc "_law_missing") (.bin .Mod (.loc "_law_some") (.bf .len [.loc "_law_missing"])), .loc "_law_box", .bin .FloorDiv (.loc "_law_some") (.int 64)])]
noncomputable def b__law_chain:List Sm:=[.asg "_law_pile" (.call (.glob "Pile") []), .asg "_law_box" (.meth (.loc "_law_pile") "leaf" [.int 7]), .for_ "_law_k" (.bf .range [.loc "_law_many"]) [.asg "_law_box" (.meth (.loc "_law_pile") "branch" [.comp (.tup [.idx (.str "abcdefghijklm") (.loc "_law_at"), .loc "_law_box"]) "_law_at" (.bf .range [.loc "_law_named"]) []])], .ite (.bop false [.cmp (.meth (.loc "_law_pile") "kept" []) .NotEq (.comp (.bin .Add (.loc "_law_k") (.int 1)) "_law_k" (.bf .range [.bin .Add (.loc "_law_many") (.int 1)]) []), .not (.call (.glob "_law_count") [.meth (.loc "_law_pile") "holders" [.int 1], .bin .Mult (.loc "_law_named") (.bf .int [.cmp (.loc "_law_many") .Gt (.int 0)])])]) [.ret (.bool false)] [], .ret (.bop true [.call (.glob "_law_count") [.meth (.loc "_law_pile") "let_go" [.loc "_law_box"], .bin .Add (.loc "_law_many") (.int 1)], .cmp (.meth (.loc "_law_pile") "kept" []) .Eq (.list []), .call (.glob "_law_count") [.attr (.loc "_law_pile") "made", .bin .Add (.loc "_law_many") (.int 1)]])]
noncomputable def b_law:List Sm:=[.ite (.bop true [.cmp (.loc "_law_script") .NotEq (.list []), .not (.call (.glob "_law_chain") [.bin .Mod (.bin .FloorDiv (.idx (.loc "_law_script") (.int 0)) (.int 7)) (.int 61), .bin .Add (.int 1) (.bin .Mod (.bin .FloorDiv (.idx (.loc "_law_script") (.int 0)) (.int 427)) (.int 3))])]) [.ret (.bool false)] [], .asg "_law_pile" (.call (.glob "Pile") []), .asg "_law_inside" (.dict [] []), .asg "_law_counts" (.dict [] []), .asg "_law_made" (.int 0), .for_ "_law_cell" (.slice (.loc "_law_script") none (some (.int 40))) [.ite (.not (.call (.glob "_law_step") [.loc "_law_pile", .loc "_law_inside", .loc "_law_counts", .loc "_law_made", .loc "_law_cell"])) [.ret (.bool false)] [], .asg "_law_made" (.bf .max1 [.bin .Add (.list [.loc "_law_made"]) (.bf .list [.loc "_law_inside"])]), .ite (.not (.call (.glob "_law_as_due") [.loc "_law_pile", .loc "_law_inside", .loc "_law_counts", .loc "_law_made"])) [.ret (.bool false)] [], .for_ "_law_box" (.slice (.bf .sorted [.loc "_law_inside"]) (some (.neg (.int 1))) none) [.asg "_law_told" (.meth (.loc "_law_pile") "content" [.loc "_law_box"]), .ite (.not (.call (.glob "_law_alike") [.loc "_law_told", .idx (.loc "_law_inside") (.loc "_law_box")])) [.ret (.bool false)] [], .ite (.cmp (.idx (.idx (.loc "_law_inside") (.loc "_law_box")) (.int 0)) .Eq (.str "branch")) [.expr (.bm .append (.idx (.loc "_law_told") (.int 1)) [.tup [.str "more", .int 1]])] []]], .ret (.bf .all [.comp (.call (.glob "_law_alike") [.meth (.loc "_law_pile") "content" [.loc "_law_box"], .idx (.loc "_law_inside") (.loc "_law_box")]) "_law_box" (.bf .sorted [.loc "_law_inside"]) []])]
structure LEnv (G:Gx) (A:Ad) (fs:List Str):Prop where
  fn:∀ {x:Str},has x fs = true→G.glob x = some (.ref (A x ""))∧G.init (A x "") = none
  pile:G.glob "Pile" = some (.ref (A "Pile" ""))
  ipile:G.init (A "Pile" "") = some (A "Pile" "__init__")
  sub:G.sub (A "NoBox" "") (A "NoBox" "") = true
theorem LEnv.gg {g:Gx} {A:Ad} {fs:List Str} (f:LEnv g A fs) (tab:Tab) (n:Nat):LEnv (GG g tab n) A fs:=by
  cases n <;> exact ⟨f.fn,f.pile,f.ipile,f.sub⟩
noncomputable abbrev FS:List Str:=["_law_whole", "_law_count", "_law_rows_by", "_law_alike", "_law_gone", "_law_refused", "_law_as_due", "_law_step", "_law_chain"]
end Mine.L8
end
section
open PySem PyProof.Rows Mine Mine.St Mine.L8
end

local macro_rules | `(tactic| nest_cls) => `(tactic| first | exact (LEnv.fn ‹_› rfl).1 | exact (LEnv.fn ‹_› rfl).2)
section
open PySem PyProof.Rows
namespace Mine.L8
open Mine Mine.St
section
variable {A:Ad} {D E:List Addr} {G:Gx} {H H':Hp} {π:PA} {bs:List (Int×Ct)} {cs:List (Int×Int)} {mk:Int} {Q:QV} {X:XV}
theorem at_lt {α:Type} {xs:List α} {k:Int} (h0:0≤k) (h1:k < xs.length):∃ v,at? xs k = some v∧v∈xs:=by
  have h2:k.toNat < xs.length:=(Int.toNat_lt h0).2 h1
  refine ⟨xs[k.toNat], ?_,List.getElem_mem h2⟩
  unfold at?
  rw [if_pos h0,List.getElem?_eq_getElem h2]
theorem at_nat {α:Type} (xs:List α) (k:Nat):at? xs (k:Int) = xs[k]?:=by
  unfold at?
  rw [if_pos (Int.natCast_nonneg k)];rfl
theorem mod_lt (a:Int) {b:Int} (h:0 < b):0≤a % b∧a % b < b:=⟨Int.emod_nonneg _ (Int.ne_of_gt h),Int.emod_lt_of_pos _ h⟩
theorem all2_at {α β:Type} {R:α→β→Prop} {xs:List α} {ys:List β} (h:All2 R xs ys):∀ {i:Nat} {y:β},ys[i]? = some y→∃ x,xs[i]? = some x∧R x y:=by
  induction h with
  | nil=>intro i y e;cases e
  | cons r _ ih =>
    intro i y e
    cases i with
    | zero=>cases e;exact ⟨_,rfl,r⟩
    | succ i=>exact ih e
theorem whole_ok {i:Int} {t:Tok} (q:Q (.bool true) H):wpF G false ["_law_seen"] b__law_whole [.int i t] H Q X:=by
  refine f_in rfl (ss_ret (v:=.bool true) ?_ q)
  exact ev_go (by mem_news) (ev_one (by mem_news))
noncomputable def C_whole (G:Gx) (A:Ad):Prop:=∀ ⦃H:Hp⦄ ⦃i:Int⦄ ⦃t:Tok⦄ ⦃Q:QV⦄ ⦃X:XV⦄,Q (.bool true) H→G.fn (A "_law_whole" "") false [.int i t] H Q X
noncomputable def C_count (G:Gx) (A:Ad):Prop:=∀ ⦃H:Hp⦄ ⦃i j:Int⦄ ⦃t u:Tok⦄ ⦃Q:QV⦄ ⦃X:XV⦄,i = j→Q (.bool true) H→G.fn (A "_law_count" "") false [.int i t, .int j u] H Q X
theorem count_ok (F:LEnv G A FS) (W:C_whole G A) {i j:Int} {t u:Tok} (e:i = j) (q:Q (.bool true) H):wpF G false ["_law_seen", "_law_due"] b__law_count [.int i t, .int j u] H Q X:=by
  refine f_in rfl (ss_retW (w_bopW (wb_cons (w_call (by mem_news) (by nest_cls) (by mem_news) (W ?_)))))
  exact tv_t (wb_one (w_ev (ev_eq (ev_loc rfl) (ev_loc rfl) (decide_eq_true e)) q))
noncomputable def rowD (r:Str×Int):PyData:=.tuple [.str r.1, .int r.2]
noncomputable def OkR (rows:List (Str×Int)):Prop:=rows.length≤41∧∀ r∈rows,PyData.strOk r.1 = true
theorem rd_rows {xs:List Value} {rows:List (Str×Int)} (h:All2 (RRow H) xs rows):RdAll H xs (rows.map rowD):=by
  induction h with
  | nil=>exact .nil
  | cons e _ ih =>
    obtain ⟨a,rfl,ha⟩:=e
    exact .cons (.tup ha (.cons (.str _ _) (.cons (.int _ _) .nil))) ih
theorem lay_rows (rows:List (Str×Int)):(∀ r∈rows,PyData.strOk r.1 = true)→PyData.canLayAll0 (rows.map rowD) = true:=by
  induction rows with
  | nil=>exact fun _=>rfl
  | cons r rows ih=>exact fun h=>Bool.and_eq_true_iff.2 ⟨Bool.and_eq_true_iff.2 ⟨h r (List.mem_cons_self ..),rfl⟩,ih fun x hx=>h x (List.mem_cons_of_mem _ hx)⟩
theorem depth_row (r:Str×Int):PyData.depth (rowD r)≤2:=by
  show PyData.depthAll [.str r.1, .int r.2] + 1≤2
  exact Nat.succ_le_succ (Nat.max_le.2 ⟨Nat.zero_le 1,Nat.max_le.2 ⟨Nat.zero_le 1,Nat.zero_le 1⟩⟩)
theorem depth_rows (rows:List (Str×Int)):PyData.depthAll (rows.map rowD)≤2:=by
  induction rows with
  | nil=>exact Nat.zero_le 2
  | cons r rows ih=>exact Nat.max_le.2 ⟨depth_row r,ih⟩
theorem shaped_rows {rows:List (Str×Int)} (h:∀ r∈rows,PyData.strOk r.1 = true):SeqAt.shaped (.list (rows.map rowD)) = true :=
  Bool.and_eq_true_iff.2 ⟨lay_rows rows h,decide_eq_true (Nat.le_trans (Nat.succ_le_succ (depth_rows rows)) (by decide))⟩
theorem shaped_row {r:Str×Int} (h:PyData.strOk r.1 = true):SeqAt.shaped (rowD r) = true :=
  Bool.and_eq_true_iff.2 ⟨Bool.and_eq_true_iff.2 ⟨h,rfl⟩,decide_eq_true (Nat.le_trans (depth_row r) (by decide))⟩
theorem eqv_row (r:Str×Int):PyData.eqv (rowD r) (rowD r) = true:=Bool.and_eq_true_iff.2 ⟨beq_self_eq_true r.1,Bool.and_eq_true_iff.2 ⟨beq_self_eq_true r.2,rfl⟩⟩
theorem eqv_rows (rows:List (Str×Int)):PyData.eqvAll (rows.map rowD) (rows.map rowD) = true:=by
  induction rows with
  | nil=>rfl
  | cons r rows ih=>exact Bool.and_eq_true_iff.2 ⟨eqv_row r,ih⟩
theorem eqv_ints (w:List Int):PyData.eqvAll (w.map PyData.int) (w.map PyData.int) = true:=by
  induction w with
  | nil=>rfl
  | cons n w ih=>exact Bool.and_eq_true_iff.2 ⟨beq_self_eq_true n,ih⟩
noncomputable def OkC:Ct→Prop
  | .leaf _=>True
  | .br rows=>OkR rows
noncomputable def C_alike (G:Gx) (A:Ad):Prop:=∀ ⦃D E:List Addr⦄ ⦃H:Hp⦄ ⦃v w:Value⦄ ⦃c:Ct⦄,RCt D H v c→RCt E H w c→OkC c→∀ ⦃Q:QV⦄ ⦃X:XV⦄,(∀ H',Kp [] H H'→Q (.bool true) H')→G.fn (A "_law_alike" "") false [v,w] H Q X
section
variable {v w:Value} {c:Ct} {a b sl dl:Addr} {xs ys:List Value} {rows:List (Str×Int)} {l:Loc} {QS':QS} {XS':XS}
noncomputable def alB:List Sm:=[.asg "_law_pair" (.idx (.idx (.loc "_law_seen") (.int 1)) (.loc "_law_k")), .ite (.bop false [.not (.isi (.loc "_law_pair") .tuple), .cmp (.loc "_law_pair") .NotEq (.idx (.idx (.loc "_law_due") (.int 1)) (.loc "_law_k")), .not (.call (.glob "_law_whole") [.idx (.loc "_law_pair") (.int 1)])]) [.ret (.bool false)] []]
structure AlI (H0:Hp) (a b:Addr) (l:Loc) (H:Hp):Prop where
  s:l "_law_seen" = some (.ref a)
  d:l "_law_due" = some (.ref b)
  k:Kp [] H0 H
theorem al_turn (F:LEnv G A FS) (W:C_whole G A) {H0:Hp} (ha:H0 a = some (.tup [.str (Str.ofString "branch") 0, .ref sl])) (hl:H0 sl = some (.list xs)) (hr:All2 (RRow H0) xs rows) (hb:H0 b = some (.tup [.str (Str.ofString "branch") 0, .ref dl])) (hd:H0 dl = some (.list ys)) (hs:All2 (RRow H0) ys rows)
    (ok:OkR rows) {i:Nat} {r:Str×Int} (hi:rows[i]? = some r) (I:AlI H0 a b l H) (q:∀ l' H',AlI H0 a b l' H'→QS' .next l' H'):wpSs G false alB (l.upd "_law_k" (.int (i:Int) 0)) H QS' XS':=by
  obtain ⟨_,h1,p,rfl,hp⟩:=all2_at hr hi
  obtain ⟨_,h2,u,rfl,hu⟩:=all2_at hs hi
  have hp:=I.k.tup hp
  have hu:=I.k.tup hu
  have ha:=I.k.tup ha
  have hb:=I.k.tup hb
  have hl:=I.k.list hl
  have hd:=I.k.list hd
  rw [← at_nat] at h1 h2
  have g1:=I.s
  have g2:=I.d
  have hk:=ok.2 r (List.mem_of_getElem? hi)
  have he:(!PyData.eqv (rowD r) (rowD r)) = false:=by rw [eqv_row r];rfl
  refine ss_asg (ev_at (ev_at (ev_loc (by exact g1)) ev_int ha rfl rfl) (ev_loc (by rfl)) hl rfl h1) ?_
  refine ss_ifW (w_bopW (wb_go (by mem_news) (wb_go (ev_ned (ev_loc (by rfl)) (ev_at (ev_at (ev_loc (by exact g2)) ev_int hb rfl rfl) (ev_loc (by rfl)) hd rfl h2) (.tup hp (.cons (.str _ _) (.cons (.int _ _) .nil))) (.tup hu (.cons (.str _ _) (.cons (.int _ _) .nil))) (shaped_row hk) (shaped_row hk) he) (wb_one (w_notW (w_call (by mem_news) (by nest_cls) (by mem_news) (W ?_)))))))
  exact ss_sq (ss_nl (q _ _ ⟨I.s,I.d,I.k⟩))
theorem alike_ok (F:LEnv G A FS) (W:C_whole G A) (N:C_count G A) (hv:RCt D H v c) (hw:RCt E H w c) (ok:OkC c) (q:∀ H',Kp [] H H'→Q (.bool true) H'):wpF G false ["_law_seen", "_law_due"] b__law_alike [v,w] H Q X:=by
  cases c with
  | leaf n =>
    obtain ⟨a,rfl,ha⟩:=hv
    obtain ⟨b,rfl,hb⟩:=hw
    refine f_in rfl (ss_iff0 (by mem_news) (ss_ift (by mem_news) ?_))
    exact ss_retW (w_call (by mem_news) (by nest_cls) (by mem_news) (N rfl (q H (Kp.refl _ _))))
  | br rows =>
    obtain ⟨a,sl,xs,rfl,ha,hl,hr, -⟩:=hv
    obtain ⟨b,dl,ys,rfl,hb,hd,hs, -⟩:=hw
    have hlen:(!decide ((xs.length:Int) = (ys.length:Int))) = false:=by rw [all2_len hr,all2_len hs,decide_eq_true rfl];rfl
    refine f_in rfl (ss_iff0 (by mem_news) (ss_iff0 (by mem_news) (ss_iff0 (by mem_news) ?_)))
    have hz:ys.length < 2 ^ 60:=Nat.lt_of_le_of_lt (by rw [all2_len hs];exact ok.1) (by decide)
    refine ss_forR (n:=ys.length) (fun _ l' H'=>AlI H a b l' H') (by mem_news) hz (fun i hi l' H' I K hK _=>?_) (fun c hc=>⟨rfl,rfl,kp_new hc _⟩) fun l' H' I=>ss_ret ev_bool (q H' I.k)
    rw [all2_len hs] at hi
    exact al_turn F W ha hl hr hb hd hs ok (List.getElem?_eq_getElem hi) I fun l2 H2 I2=>(hK l2 H2 I2).1
end
end
end Mine.L8
end

section
open PySem PyProof.Rows
namespace Mine.L8
open Mine Mine.St
theorem dd_len (xs:List Str):∀ S:List Str,(xs.foldl dd1 S).length≤S.length + xs.length:=by
  have one:∀ (S:List Str) (k:Str),(dd1 S k).length≤S.length + 1:=fun S k=>by
    unfold dd1
    split
    · exact Nat.le_succ _
    · rw [List.length_append];exact Nat.le_refl _
  induction xs with
  | nil=>exact fun S=>Nat.le_refl _
  | cons x xs ih=>exact fun S=>Nat.le_trans (ih (dd1 S x)) (Nat.le_trans (Nat.add_le_add_right (one S x) _) (Nat.le_of_eq (by rw [List.length_cons];exact Nat.add_right_comm _ _ _)))
theorem dd_mem (xs:List Str):∀ (S:List Str) (y:Str),y∈xs.foldl dd1 S→y∈S∨y∈xs:=by
  induction xs with
  | nil=>exact fun S y h=>.inl h
  | cons x xs ih =>
    intro S y h
    rcases ih (dd1 S x) y h with h | h
    · unfold dd1 at h
      split at h
      · exact .inl h
      · rcases List.mem_append.1 h with h | h
        · exact .inl h
        · exact .inr (by rw [List.mem_singleton.1 h];exact List.mem_cons_self ..)
    · exact .inr (List.mem_cons_of_mem _ h)
noncomputable def nm (c k:Nat):Str:=chr1 (110 + c)++Txt.mul (chr1 (97 + k % 4)) ((k / 13:Nat):Int)
theorem nm_ok:∀ c < 13,∀ k < 41,PyData.strOk (nm c k) = true∧(chr1 (110 + c)).length + (Txt.mul (chr1 (97 + k % 4)) ((k / 13:Nat):Int)).length≤100:=by decide +kernel
theorem nop_at:∀ c < 13,at? (Str.ofString "nopqrstuvwxyz").cps.toList ((c:Nat):Int) = some (110 + c):=by decide +kernel
theorem abcd_at:∀ c < 4,at? (Str.ofString "abcd").cps.toList ((c:Nat):Int) = some (97 + c):=by decide +kernel
theorem nop_len:(Str.ofString "nopqrstuvwxyz").length≤sizeLine:=by decide +kernel
theorem abcd_len:(Str.ofString "abcd").length≤sizeLine:=by decide +kernel
noncomputable def nmI (cell:Int) (k:Nat):Nat:=((cell / 7 + 5 * (k:Int)) % 13).toNat
theorem nmI_lt (cell:Int) (k:Nat):nmI cell k < 13:=(Int.toNat_lt (mod_lt _ (by decide)).1).2 (mod_lt _ (b:=13) (by decide)).2
theorem nmI_eq (cell:Int) (k:Nat):(cell / 7 + 5 * (k:Int)) % 13 = ((nmI cell k:Nat):Int):=(Int.toNat_of_nonneg (mod_lt _ (b:=13) (by decide)).1).symm
noncomputable def nmF (cell:Int):Value→Value
  | .int k _=>.str (nm (nmI cell k.toNat) k.toNat) 0
  | v=>v
noncomputable def rbE:Ex:=.bin .Add (.idx (.str "nopqrstuvwxyz") (.bin .Mod (.bin .Add (.bin .FloorDiv (.loc "_law_cell") (.int 7)) (.bin .Mult (.int 5) (.loc "_law_k"))) (.int 13))) (.bin .Mult (.idx (.str "abcd") (.bin .Mod (.loc "_law_k") (.int 4))) (.bin .FloorDiv (.loc "_law_k") (.int 13)))
section
variable {A:Ad} {D E:List Addr} {G:Gx} {H H':Hp} {π:PA} {bs:List (Int×Ct)} {cs:List (Int×Int)} {mk:Int} {Q:QV} {X:XV} {l:Loc}
theorem rb_ev {cell:Int} {t:Tok} {k:Nat} (hk:k < 41) (g1:l "_law_cell" = some (.int cell t)) (g2:l "_law_k" = some (.int (k:Int) 0)):Ev G false rbE l H (nmF cell (.int (k:Int) 0)):=by
  have b:=nm_ok _ (nmI_lt cell k) k hk
  have e1:at? (Str.ofString "nopqrstuvwxyz").cps.toList ((cell / 7 + 5 * (k:Int)) % 13) = some (110 + nmI cell k):=by rw [nmI_eq];exact nop_at _ (nmI_lt cell k)
  have e2:at? (Str.ofString "abcd").cps.toList ((k:Int) % 4) = some (97 + k % 4):=abcd_at _ (Nat.mod_lt k (by decide))
  have h3:((k / 13:Nat):Int)≤1000:=Int.ofNat_le.2 (Nat.le_trans (Nat.div_le_self k 13) (Nat.le_trans (Nat.le_of_lt hk) (by decide)))
  exact ev_cat (ev_chr ev_str (ev_mod (ev_add (ev_div (ev_loc g1) ev_int (by decide) (by decide)) (ev_mul ev_int (ev_loc g2) (.inl (by decide)))) ev_int (by decide)) e1 nop_len)
    (ev_rep (ev_chr ev_str (ev_mod (ev_loc g2) ev_int (by decide)) e2 abcd_len) (ev_div (ev_loc g2) ev_int (by decide) (by decide)) (Nat.le_of_ble_eq_true rfl) h3 (Int.le_trans (by decide) (Int.natCast_nonneg _))) (Nat.le_trans b.2 (by decide))
theorem sset_at {a:Addr} {ss:List Str} (ha:H a = some (.list (ss.map fun x=>Value.str x 0))) (hz:ss.length < 64) (q:∀ ms:List Str,ms.Perm (ss.foldl dd1 [])→∀ c,H c = none→Q (.ref c) (H.upd c (.list (ms.map fun x=>Value.str x 0)))):bfV .sortedSet [.ref a] H Q:=by
  conv=>whnf
  rw [ha]
  exact ⟨ss,rfl,hz,fun ms hp _=>q ms hp⟩
noncomputable def C_rows_by (G:Gx) (A:Ad):Prop:=∀ ⦃H:Hp⦄ ⦃th:Addr⦄ ⦃ks:List Int⦄ ⦃cell:Int⦄ ⦃t:Tok⦄,H th = some (.list (ks.map fun n=>Value.int n 0))→ks≠[]→∀ ⦃Q:QV⦄ ⦃X:XV⦄,
  (∀ H' rl xs rows,Kp [] H H'→H rl = none→H' rl = some (.list xs)→All2 (RRow H') xs rows→OkR rows→(∀ r∈rows,r.2∈ks)→Q (.ref rl) H')→G.fn (A "_law_rows_by" "") false [.int cell t, .ref th] H Q X
structure RbI (H0:Hp) (ks:List Int) (i:Nat) (acc:List Value) (rows:List (Str×Int)) (H:Hp):Prop where
  k:Kp [] H0 H
  r:All2 (RRow H) acc rows
  n:rows.length = i
  o:∀ r∈rows,PyData.strOk r.1 = true
  m:∀ r∈rows,r.2∈ks
theorem rb_turn {th nl:Addr} {ks:List Int} {ms:List Str} {cell:Int} {t:Tok} {H0:Hp} {i:Nat} {acc:List Value} (hi:i < ms.length) (hth:H0 th = some (.list (ks.map fun n=>Value.int n 0))) (hk:ks≠[]) (hnl:H0 nl = some (.list (ms.map fun x=>Value.str x 0))) (ho:∀ x∈ms,PyData.strOk x = true)
    (g1:l "_law_cell" = some (.int cell t)) (g2:l "_law_there" = some (.ref th)) (g3:l "_law_names" = some (.ref nl)) {rows:List (Str×Int)} (I:RbI H0 ks i acc rows H) (q:∀ u H' rows',RbI H0 ks (i + 1) (acc++[u]) rows' H'→Q u H') :
    wpE G false (.tup [.idx (.loc "_law_names") (.loc "_law_k"), .idx (.loc "_law_there") (.bin .Mod (.bin .Add (.bin .FloorDiv (.loc "_law_cell") (.int 11)) (.bin .Mult (.int 3) (.loc "_law_k"))) (.bf .len [.loc "_law_there"]))]) (ca l "_law_k" (.int (i:Int) 0)) H Q X:=by
  have hth:=I.k.list hth
  have hnl:=I.k.list hnl
  have hpos:0 < (((ks.map fun n=>Value.int n 0).length:Nat):Int):=by
    rw [List.length_map]
    exact Int.natCast_pos.2 (List.length_pos_iff.2 hk)
  have hm:=mod_lt (cell / 11 + 3 * (i:Int)) hpos
  obtain ⟨v,hv,hvm⟩:=at_lt (xs:=ks.map fun n=>Value.int n 0) hm.1 hm.2
  obtain ⟨b,hb,rfl⟩:=List.mem_map.1 hvm
  have hn:at? (ms.map fun x=>Value.str x 0) (i:Int) = some (.str ms[i] 0):=by rw [at_nat,List.getElem?_map,List.getElem?_eq_getElem hi];rfl
  refine w_tup (evl_cons (ev_at (ev_loc (by exact g3)) (ev_loc (by rfl)) hnl rfl hn) (evl_cons (ev_at (ev_loc (by exact g2)) (ev_mod (ev_add (ev_div (ev_loc (by exact g1)) ev_int (by decide) (by decide)) (ev_mul ev_int (ev_loc (by rfl)) (.inl (by decide)))) (ev_len (ev_loc (by exact g2)) hth rfl) hpos) hth rfl hv) evl_nil)) (Nat.le_of_ble_eq_true rfl) fun c hc=>?_
  have k1:Kp [] H (H.upd c (.tup [.str ms[i] 0, .int b 0])):=kp_new hc _
  refine q _ _ (rows++[(ms[i],b)]) ⟨I.k.trans k1,all2_append (all2_imp (fun _ _ z=>z.kp k1) I.r) (.cons ⟨c,rfl,Hp.upd_same _ _ _⟩ .nil),by rw [List.length_append,I.n];rfl,fun r hr=>?_,fun r hr=>?_⟩
  · rcases List.mem_append.1 hr with hr | hr
    · exact I.o r hr
    · rw [List.mem_singleton.1 hr];exact ho _ (List.getElem_mem hi)
  · rcases List.mem_append.1 hr with hr | hr
    · exact I.m r hr
    · rw [List.mem_singleton.1 hr];exact hb
theorem rb_rest {th:Addr} {ks:List Int} {cell:Int} {t:Tok} {m:Nat} (hm:m < 41) (hth:H th = some (.list (ks.map fun n=>Value.int n 0))) (hk:ks≠[]) (g1:l "_law_cell" = some (.int cell t)) (g2:l "_law_there" = some (.ref th)) (g3:l "_law_many" = some (.int (m:Int) 0))
    (q:∀ H' rl xs rows,Kp [] H H'→H rl = none→H' rl = some (.list xs)→All2 (RRow H') xs rows→OkR rows→(∀ r∈rows,r.2∈ks)→Q (.ref rl) H'):wpSs G false (b__law_rows_by.drop 2) l H (fq Q) (fx X):=by
  refine ss_asgW (w_compr (k:=m) (fun _=>true) (nmF cell) (ev_loc g3) (Nat.le_trans (Nat.le_of_lt hm) (by decide)) (fun i _ H' _=>ev_all0) (fun i hi H' _ _=>rb_ev (Nat.lt_trans hi hm) (by exact g1) (by rfl)) fun d c hd hc hcd=>?_)
  have e1:((((List.range m).map fun (i:Nat)=>Value.int (i:Int) 0).filter fun _=>true).map (nmF cell)) = ((List.range m).map fun i=>nm (nmI cell i) i).map fun x=>Value.str x 0:=by
    rw [List.filter_eq_self.2 (fun _ _=>rfl),List.map_map,List.map_map]
    exact List.map_congr_left fun i _=>rfl
  rw [e1]
  have k1:Kp [] H (H.upd d (.range 0 (m:Int) 1)):=kp_new hd _
  have k2:Kp [] (H.upd d (.range 0 (m:Int) 1)) ((H.upd d (.range 0 (m:Int) 1)).upd c (.list (((List.range m).map fun i=>nm (nmI cell i) i).map fun x=>Value.str x 0))):=kp_new ((Hp.upd_ne _ _ hcd).trans hc) _
  have hsl:((H.upd d (.range 0 (m:Int) 1)).upd c (.list (((List.range m).map fun i=>nm (nmI cell i) i).map fun x=>Value.str x 0))) c = _:=Hp.upd_same _ _ _
  have k12:=k1.trans k2
  clear k1 k2 e1
  generalize (H.upd d (.range 0 (m:Int) 1)).upd c (.list (((List.range m).map fun i=>nm (nmI cell i) i).map fun x=>Value.str x 0)) = H1 at k12 hsl ⊢
  have hlen:((List.range m).map fun i=>nm (nmI cell i) i).length = m:=by rw [List.length_map,List.length_range]
  refine ss_asgW (w_bfW (wl_cons (w_ev (ev_loc rfl) (wl_nil ⟨.inr (.inl rfl),sset_at hsl (by rw [hlen];exact Nat.lt_trans hm (by decide)) fun ms hp nl hnl=>?_⟩))))
  have k3:Kp [] H1 (H1.upd nl (.list (ms.map fun x=>Value.str x 0))):=kp_new hnl _
  have hn2:(H1.upd nl (.list (ms.map fun x=>Value.str x 0))) nl = some (.list (ms.map fun x=>Value.str x 0)):=Hp.upd_same _ _ _
  have k13:=k12.trans k3
  generalize H1.upd nl (.list (ms.map fun x=>Value.str x 0)) = H2 at k13 hn2 ⊢
  have hml:ms.length≤m:=by rw [hp.length_eq];exact Nat.le_trans (dd_len _ []) (by rw [List.length_nil,Nat.zero_add,hlen];exact Nat.le_refl _)
  have ho:∀ x∈ms,PyData.strOk x = true:=fun x hx=>by
    rcases dd_mem _ _ _ (hp.mem_iff.1 hx) with z | z
    · exact absurd z List.not_mem_nil
    · obtain ⟨i,hi,rfl⟩:=List.mem_map.1 z
      exact (nm_ok _ (nmI_lt cell i) i (Nat.lt_trans (List.mem_range.1 hi) hm)).1
  have hth2:=k13.list hth
  refine ss_retW (w_compRI (k:=(ms.map fun x=>Value.str x 0).length) (fun i acc H'=>∃ rows,RbI H2 ks i acc rows H') (ev_len (ev_loc rfl) hn2 rfl) (by rw [List.length_map];exact Nat.le_trans hml (Nat.le_trans (Nat.le_of_lt hm) (by decide))) (fun i hi acc H' I K hK=>?_) (fun d hd=>⟨[],kp_new hd _, .nil,rfl,fun _ z=>absurd z List.not_mem_nil,fun _ z=>absurd z List.not_mem_nil⟩) fun acc H' I c hc=>?_)
  · obtain ⟨rows,I⟩:=I
    rw [List.length_map] at hi
    exact rb_turn hi hth2 hk hn2 ho (by exact g1) (by exact g2) (by rfl) I fun u H'' rows' I'=>hK u H'' ⟨rows',I'⟩
  · obtain ⟨rows,I⟩:=I
    have k4:=kp_new (M:=[]) hc (.list acc)
    refine q _ c acc rows ((k13.trans I.k).trans k4) ((k13.trans I.k).absent hc) (Hp.upd_same _ _ _) (all2_imp (fun _ _ z=>z.kp k4) I.r) ⟨?_,I.o⟩ I.m
    rw [I.n,List.length_map]
    exact Nat.le_trans hml (Nat.le_of_lt hm)
theorem rows_by_ok {th:Addr} {ks:List Int} {cell:Int} {t:Tok} (hth:H th = some (.list (ks.map fun n=>Value.int n 0))) (hk:ks≠[])
    (q:∀ H' rl xs rows,Kp [] H H'→H rl = none→H' rl = some (.list xs)→All2 (RRow H') xs rows→OkR rows→(∀ r∈rows,r.2∈ks)→Q (.ref rl) H'):wpF G false ["_law_cell", "_law_there"] b__law_rows_by [.int cell t, .ref th] H Q X:=by
  have cast:∀ {a b:Int} (h:0 < b),a % b = (((a % b).toNat:Nat):Int):=fun h=>(Int.toNat_of_nonneg (mod_lt _ h).1).symm
  have lt41:∀ {a b:Int} (h:0 < b) (_:b≤41),(a % b).toNat < 41:=fun h h2=>(Int.toNat_lt (mod_lt _ h).1).2 (Int.lt_of_lt_of_le (mod_lt _ h).2 h2)
  refine f_in rfl (ss_asg (ev_mod (ev_loc rfl) ev_int (by decide)) ?_)
  refine ss_if (ev_eq (ev_mod (ev_div (ev_loc rfl) ev_int (by decide) (by decide)) ev_int (by decide)) ev_int rfl) (fun _=>?_) fun _=>ss_sq ?_
  · refine ss_asg (ev_mod (ev_div (ev_loc rfl) ev_int (by decide) (by decide)) ev_int (by decide)) (ss_sq ?_)
    exact rb_rest (m:=(cell / 48 % 41).toNat) (lt41 (by decide) (by decide)) hth hk rfl rfl (by rw [← cast (by decide)];rfl) q
  · exact rb_rest (m:=(cell % 6).toNat) (lt41 (by decide) (by decide)) hth hk rfl rfl (by rw [← cast (by decide)];rfl) q
end
end Mine.L8
end

section
open PySem PyProof.Rows
namespace Mine.L8
open Mine Mine.St
section
variable {A:Ad} {D E:List Addr} {G:Gx} {H H':Hp} {π:PA} {bs:List (Int×Ct)} {cs:List (Int×Int)} {mk:Int} {Q:QV} {X:XV} {l:Loc}
noncomputable def C_refused (G:Gx) (A:Ad):Prop:=∀ ⦃D:List Addr⦄ ⦃H:Hp⦄ ⦃π:PA⦄ ⦃bs:List (Int×Ct)⦄ ⦃cs:List (Int×Int)⦄ ⦃mk:Int⦄,PileR A D H π bs cs mk→∀ ⦃i j cell:Int⦄ ⦃t:Tok⦄ ⦃c:Ct⦄,get bs i = none→get bs j = some c→∀ ⦃Q:QV⦄ ⦃X:XV⦄,
  (∀ H',PileR A D H' π bs cs mk→Kp [] H H'→Q (.bool true) H')→G.fn (A "_law_refused" "") false [.ref π.x, .int i 0, .int j 0, .int cell t] H Q X
theorem refused_ok (F:Env G A) (L:LEnv G A FS) (N1:C_no "content" G A) (N2:C_no "let_go" G A) (N3:C_no "hold" G A) (N4:C_no "holders" G A) (N5:C_bno G A) (h:PileR A D H π bs cs mk) {i j cell:Int} {t:Tok} {c:Ct} (hi:get bs i = none) (hj:get bs j = some c)
    (q:∀ H',PileR A D H' π bs cs mk→Kp [] H H'→Q (.bool true) H'):wpF G false ["_law_pile", "_law_box", "_law_good", "_law_cell"] b__law_refused [.ref π.x, .int i 0, .int j 0, .int cell t] H Q X:=by
  obtain ⟨bvs,p,hv⟩:=h.nobox hi
  have fin:∀ (l:Loc) H',PileR A D H' π bs cs mk→Kp [] H H'→false = false∧G.isExc (A "NoBox" "") = true∧wpH G [.mk "NoBox" none [.ret (.bool true)]] (A "NoBox" "") l H' (sq G false [.ret (.bool false)] (fq Q) (fx X)) (fx X):=fun l H' h' k=>⟨rfl,F.nobe,wh_hit (n:=none) F.nobox F.nobe L.sub (ss_ret ev_bool (q H' h' k))⟩
  refine f_in rfl (ss_tryW ?_)
  refine ss_if (ev_eq (ev_mod (ev_loc rfl) ev_int (by decide)) ev_int rfl) (fun _=>?_) fun _=>?_
  · exact ss_exprW (w_meth (by mem_news) p.i p.n (by nest_cls) (by rfl) (by mem_news) (N1 h hi (fin _ H h (Kp.refl _ _))))
  refine ss_if (ev_eq (ev_mod (ev_loc rfl) ev_int (by decide)) ev_int rfl) (fun _=>?_) fun _=>?_
  · exact ss_exprW (w_meth (by mem_news) p.i p.n (by nest_cls) (by rfl) (by mem_news) (N2 h hi (fin _ H h (Kp.refl _ _))))
  refine ss_if (ev_eq (ev_mod (ev_loc rfl) ev_int (by decide)) ev_int rfl) (fun _=>?_) fun _=>?_
  · exact ss_exprW (w_meth (by mem_news) p.i p.n (by nest_cls) (by rfl) (by mem_news) (N3 h hi (fin _ H h (Kp.refl _ _))))
  refine ss_if (ev_eq (ev_mod (ev_loc rfl) ev_int (by decide)) ev_int rfl) (fun _=>?_) fun _=>?_
  · exact ss_exprW (w_meth (by mem_news) p.i p.n (by nest_cls) (by rfl) (by mem_news) (N4 h hi (fin _ H h (Kp.refl _ _))))
  refine ss_exprW (w_methW (by mem_news) p.i p.n (by nest_cls) (by rfl) (wl_cons (w_listW (wl_cons (w_tup (by mem_news) (Nat.le_of_ble_eq_true rfl) fun a ha=>wl_cons (w_tup (by mem_news) (Nat.le_of_ble_eq_true rfl) fun b hb=>wl_cons (w_tup (by mem_news) (Nat.le_of_ble_eq_true rfl) fun d hd=>wl_nil ⟨Nat.le_of_ble_eq_true rfl,fun rl hrl=>wl_nil ?_⟩)))))))
  have k1:=kp_new (M:=[]) ha (.tup [.str (Str.ofString "a") 0, .int j 0])
  have k2:=kp_new (M:=[]) hb (.tup [.str (Str.ofString "b") 0, .int i 0])
  have k3:=kp_new (M:=[]) hd (.tup [.str (Str.ofString "c") 0, .int j 0])
  have k4:=kp_new (M:=[]) hrl (.list [.ref a, .ref b, .ref d])
  have k:=((k1.trans k2).trans k3).trans k4
  exact N5 (h.kp0 k) hj hi (Hp.upd_same _ _ _) (((k2.trans k3).trans k4).tup (Hp.upd_same _ _ _)) ((k3.trans k4).tup (Hp.upd_same _ _ _)) (fin _ _ (h.kp0 k) k)
structure Mir (D:List Addr) (H:Hp) (ad cd:Addr) (bs:List (Int×Ct)) (cs:List (Int×Int)):Prop where
  ex:∃ ivs,H ad = some (.idict ivs)∧All2 (fun p q=>p.1 = q.1∧RCt D H p.2 q.2) ivs bs
  c:H cd = some (.idict (vints cs))
  ne:ad≠cd
variable {ad cd:Addr}
theorem Mir.kp {M:List Addr} (m:Mir D H ad cd bs cs) (k:Kp M H H') (h1:ad ∉ M) (h2:cd ∉ M):Mir D H' ad cd bs cs:=by
  obtain ⟨ivs,e,r⟩:=m.ex
  exact ⟨⟨ivs,k _ _ e (.inr h1),all2_imp (fun _ _ q=>⟨q.1,q.2.kp k⟩) r⟩,k _ _ m.c (.inr h2),m.ne⟩
theorem Mir.kp0 (m:Mir D H ad cd bs cs) (k:Kp [] H H'):Mir D H' ad cd bs cs:=m.kp k List.not_mem_nil List.not_mem_nil
theorem Mir.grow (m:Mir D H ad cd bs cs) (k:Kp [] H H') {a:Addr} (ha:H a = none):Mir (a :: D) H' ad cd bs cs:=by
  obtain ⟨ivs,e,r⟩:=m.ex
  exact ⟨⟨ivs,k _ _ e (.inr List.not_mem_nil),all2_imp (fun _ _ q=>⟨q.1,q.2.grow k ha⟩) r⟩,k _ _ m.c (.inr List.not_mem_nil),m.ne⟩
theorem Mir.app (m:Mir D H ad cd bs cs) {a:Addr} (hD:a∈D) {xs:List Value} (ha:H a = some (.list xs)) (o:AObj):Mir D (H.upd a o) ad cd bs cs:=by
  obtain ⟨ivs,e,r⟩:=m.ex
  have h1:ad≠a:=fun z=>by rw [z,ha] at e;cases e
  have h2:cd≠a:=fun z=>by have:=m.c;rw [z,ha] at this;cases this
  exact ⟨⟨ivs,(Hp.upd_ne _ _ h1).trans e,all2_imp (fun _ _ q=>⟨q.1,q.2.app hD ha o⟩) r⟩,(Hp.upd_ne _ _ h2).trans m.c,m.ne⟩
theorem Mir.putB (m:Mir D H ad cd bs cs) {ivs:List (Int×Value)} (e:H ad = some (.idict ivs)) (r:All2 (fun p q=>p.1 = q.1∧RCt D H p.2 q.2) ivs bs) {v:Value} {c:Ct} (hv:RCt D H v c) (i:Int):Mir D (H.upd ad (.idict (stored ivs i v))) ad cd (put bs i c) cs:=by
  have k:Kp [ad] H (H.upd ad (.idict (stored ivs i v))):=kp_upd e rfl (List.mem_cons_self ..) _
  exact ⟨⟨_,Hp.upd_same _ _ _,all2_put (all2_imp (fun _ _ q=>⟨q.1,q.2.kp k⟩) r) i (hv.kp k)⟩,(Hp.upd_ne _ _ m.ne.symm).trans m.c,m.ne⟩
theorem Mir.cnt (m:Mir D H ad cd bs cs) (cs':List (Int×Int)):Mir D (H.upd cd (.idict (vints cs'))) ad cd bs cs':=by
  obtain ⟨ivs,e,r⟩:=m.ex
  have k:Kp [cd] H (H.upd cd (.idict (vints cs'))):=kp_upd m.c rfl (List.mem_cons_self ..) _
  exact ⟨⟨ivs,(Hp.upd_ne _ _ m.ne).trans e,all2_imp (fun _ _ q=>⟨q.1,q.2.kp k⟩) r⟩,Hp.upd_same _ _ _,m.ne⟩
theorem Mir.box (m:Mir D H ad cd bs cs) {i:Int} {c:Ct} (e:get bs i = some c):∃ ivs v,H ad = some (.idict ivs)∧valueAt ivs i = some v∧RCt D H v c:=by
  obtain ⟨ivs,h,r⟩:=m.ex
  rcases all2_get r i with ⟨v,c',h1,h2,h3⟩ | ⟨h1,h2⟩
  · rw [e] at h2;cases h2;exact ⟨ivs,v,h,h1,h3⟩
  · rw [e] at h2;cases h2
theorem keys_put {α:Type} {l:List (Int×α)} {i:Int} {b:α} (a:α) (h:get l i = some b):(put l i a).map (·.1) = l.map (·.1):=by
  unfold put
  have:l.any (fun p=>p.1 = i) = true:=by
    obtain ⟨p,hp,e⟩:=List.mem_map.1 (get_mem h)
    exact List.any_eq_true.2 ⟨p,hp,decide_eq_true e⟩
  rw [if_pos this,List.map_map]
  refine List.map_congr_left fun p _=>?_
  show (if p.1 = i then (p.1,a) else p).1 = p.1
  split <;> rfl
theorem keys_del {α:Type} (l:List (Int×α)) (i:Int):(del l i).map (·.1) = (l.map (·.1)).filter fun k=>decide (k≠i):=by
  unfold del
  rw [List.filter_map];rfl
theorem get_of {α:Type} {l:List (Int×α)} {i:Int} (h:i∈l.map (·.1)):∃ a,get l i = some a:=by
  induction l with
  | nil=>exact absurd h List.not_mem_nil
  | cons p l ih =>
    rw [get_cons]
    by_cases e:p.1 = i
    · rw [if_pos e];exact ⟨_,rfl⟩
    · rw [if_neg e]
      rcases List.mem_cons.1 h with z | z
      · exact absurd z.symm e
      · exact ih z
theorem get_other {α β:Type} {l:List (Int×α)} {m:List (Int×β)} (h:l.map (·.1) = m.map (·.1)) {i:Int} {a:α} (e:get l i = some a):∃ b,get m i = some b:=get_of (h ▸ get_mem e)
theorem get_noth {α β:Type} {l:List (Int×α)} {m:List (Int×β)} (h:l.map (·.1) = m.map (·.1)) {i:Int} (e:get l i = none):get m i = none:=by
  cases q:get m i with
  | none=>rfl
  | some b =>
    obtain ⟨a,z⟩:=get_other h.symm q
    rw [e] at z;cases z
noncomputable def goC:Ex:=.cmp (.loc "_law_waiting") .NotEq (.list [])
noncomputable def goK:List Sm:=[.ite (.cmp (.idx (.loc "_law_left") (.int 0)) .Eq (.str "branch")) [.asg "_law_waiting" (.bin .Add (.loc "_law_waiting") (.comp (.idx (.loc "_law_pair") (.int 1)) "_law_pair" (.idx (.loc "_law_left") (.int 1)) []))] []]
noncomputable def goG:List Sm:=.asg "_law_gone_here" (.bin .Add (.loc "_law_gone_here") (.int 1)) :: .expr (.bm .pop (.loc "_law_counts") [.loc "_law_one"]) :: .asg "_law_left" (.bm .pop (.loc "_law_inside") [.loc "_law_one"]) :: goK
noncomputable def goB:List Sm:=[.asg "_law_one" (.bm .pop (.loc "_law_waiting") []), .ite (.cmp (.loc "_law_one") .In (.loc "_law_counts")) [.asgIdx (.loc "_law_counts") (.loc "_law_one") (.bf .max2 [.int 0, .bin .Sub (.idx (.loc "_law_counts") (.loc "_law_one")) (.int 1)])] [], .ite (.bop true [.cmp (.loc "_law_one") .In (.loc "_law_counts"), .cmp (.idx (.loc "_law_counts") (.loc "_law_one")) .Eq (.int 0)]) goG []]
structure GoI (D:List Addr) (ad cd:Addr) (H0:Hp) (w:List Int) (bs:List (Int×Ct)) (cs:List (Int×Int)) (g:Int) (wl:Addr) (ivs:List (Int×Value)) (l:Loc) (H:Hp):Prop where
  s:l "_law_inside" = some (.ref ad)
  t:l "_law_counts" = some (.ref cd)
  g:l "_law_gone_here" = some (.int g 0)
  wa:l "_law_waiting" = some (.ref wl)
  hw:H wl = some (.list (w.map fun n=>Value.int n 0))
  h0:H0 wl = none
  i:H ad = some (.idict ivs)
  c:H cd = some (.idict (vints cs))
  ne:ad≠cd
  r:All2 (fun p q=>p.1 = q.1∧RCt D H0 p.2 q.2) ivs bs
  k:Kp [ad,cd] H0 H
  y:bs.map (·.1) = cs.map (·.1)
section
variable {H0:Hp} {w:List Int} {g:Int} {wl:Addr} {ivs:List (Int×Value)} {XX:XS} {K:QS} {one:Int} {fin:List (Int×Ct)×List (Int×Int)×Int} {n:Nat}
theorem GoI.new (I:GoI D ad cd H0 w bs cs g wl ivs l H) {c:Addr} (hc:H c = none) (o:AObj):GoI D ad cd H0 w bs cs g wl ivs l (H.upd c o) :=
  have k:=kp_new (M:=[]) hc o
  ⟨I.s,I.t,I.g,I.wa,k.list I.hw,I.h0,k _ _ I.i (.inr List.not_mem_nil),k _ _ I.c (.inr List.not_mem_nil),I.ne,I.r,I.k.trans (kp_new hc o),I.y⟩
theorem GoI.off (I:GoI D ad cd H0 w bs cs g wl ivs l H):ad≠wl∧cd≠wl :=
  ⟨fun z=>(by have:=I.i;rw [z,I.hw] at this;cases this),fun z=>(by have:=I.c;rw [z,I.hw] at this;cases this)⟩
theorem GoI.pop (I:GoI D ad cd H0 w bs cs g wl ivs l H) (v:Value):GoI D ad cd H0 w.dropLast bs cs g wl ivs (l.upd "_law_one" v) (H.upd wl (.list (w.map fun n=>Value.int n 0).dropLast)) :=
  ⟨I.s,I.t,I.g,I.wa,by rw [Hp.upd_same,List.map_dropLast],I.h0,(Hp.upd_ne _ _ I.off.1).trans I.i,(Hp.upd_ne _ _ I.off.2).trans I.c,I.ne,I.r,I.k.fresh I.h0 _,I.y⟩
theorem GoI.cnt (I:GoI D ad cd H0 w bs cs g wl ivs l H) {cs':List (Int×Int)} (hy:bs.map (·.1) = cs'.map (·.1)):GoI D ad cd H0 w bs cs' g wl ivs l (H.upd cd (.idict (vints cs'))) :=
  ⟨I.s,I.t,I.g,I.wa,(Hp.upd_ne _ _ I.off.2.symm).trans I.hw,I.h0,(Hp.upd_ne _ _ I.ne).trans I.i,Hp.upd_same _ _ _,I.ne,I.r,I.k.trans (kp_upd I.c rfl (List.mem_cons_of_mem _ (List.mem_cons_self ..)) _),hy⟩
theorem GoI.was (I:GoI D ad cd H0 w bs cs g wl ivs l H) {w2:Addr} (hw2:H w2 = none):H0 w2 = none:=by
  cases q:H0 w2 with
  | none=>rfl
  | some o =>
    by_cases z:w2∈[ad,cd]
    · rcases List.mem_cons.1 z with z | z
      · rw [z,I.i] at hw2;cases hw2
      · rw [List.mem_singleton.1 z,I.c] at hw2;cases hw2
    · rw [I.k _ _ q (.inr z)] at hw2;cases hw2
theorem GoI.more (I:GoI D ad cd H0 w bs cs g wl ivs l H) {w2:Addr} (hw2:H w2 = none) (ks:List Int):GoI D ad cd H0 (w++ks) bs cs g w2 ivs (l.upd "_law_waiting" (.ref w2)) (H.upd w2 (.list ((w.map fun n=>Value.int n 0)++ks.map fun n=>Value.int n 0))) :=
  have J:=I.new hw2 (.list ((w.map fun n=>Value.int n 0)++ks.map fun n=>Value.int n 0))
  ⟨J.s,J.t,J.g,rfl,by rw [Hp.upd_same,List.map_append],I.was hw2,J.i,J.c,J.ne,J.r,J.k,J.y⟩
theorem go_kids {c:Ct} {v:Value} (hv:RCt D H0 v c) (hzk:(kids c).length≤2 ^ 20) (hzw:w.length≤2 ^ 20) (I:GoI D ad cd H0 w bs cs g wl ivs l H) (gw:l "_law_left" = some v)
    (hK:∀ wl l' H',GoI D ad cd H0 (w++kids c) bs cs g wl ivs l' H'→K .next l' H'):wpSs G false goK l H K XX:=by
  cases c with
  | leaf m =>
    obtain ⟨a,rfl,ha⟩:=hv
    have ha:=I.k.tup ha
    exact ss_iff0 (by mem_news) (ss_nl (hK wl _ _ (by rw [kids,List.append_nil];exact I)))
  | br rows =>
    obtain ⟨a,rl,xs,rfl,ha,hrl,hrr, -⟩:=hv
    have ha:=I.k.tup ha
    have hrl:=I.k.list hrl
    have hkl:(kids (.br rows)).length = rows.length:=List.length_map ..
    have hlen:xs.length≤2 ^ 20:=by rw [all2_len hrr,← hkl];exact hzk
    refine ss_ift (by mem_news) ?_
    refine ss_asgW (w_binW (w_ev (ev_loc I.wa) (w_mapA (fun r:Str×Int=>.int r.2 0) (by mem_news) hrl rfl (len_line hlen) hrr (fun v row hv=>?_) fun nl hnl=>?_)))
    · obtain ⟨b,rfl,hb⟩:=hv
      have hb:=I.k.tup hb
      mem_news
    · have I':=I.new hnl (.list (rows.map fun r=>.int r.2 0))
      refine addl_at I'.hw (Hp.upd_same _ _ _) ?_ fun w2 hw2=>ss_nl (hK w2 _ _ ?_)
      · rw [List.length_map,List.length_map,← hkl];exact Nat.le_trans (Nat.add_le_add hzw hzk) (by decide)
      · have:=I'.more hw2 (kids (.br rows))
        rw [kids,List.map_map] at this
        exact this
theorem go_gone {c:Ct} {v:Value} {k:Int} (hb:get bs one = some c) (hc:get cs one = some k) (q1:valueAt ivs one = some v) (hv:RCt D H0 v c) (hzk:(kids c).length≤2 ^ 20) (hzw:w.length≤2 ^ 20) (hzb:bs.length≤2 ^ 20) (hzc:cs.length≤2 ^ 20) (I:GoI D ad cd H0 w bs cs g wl ivs l H) (go:l "_law_one" = some (.int one 0))
    (hK:∀ wl ivs l' H',GoI D ad cd H0 (w++kids c) (del bs one) (del cs one) (g + 1) wl ivs l' H'→K .next l' H'):wpSs G false goG l H K XX:=by
  refine ss_asg (ev_add (ev_loc I.g) ev_int) ?_
  refine ss_exprW (w_dpop (ev_loc I.t) (ev_loc go) I.c (by rw [ints_len];exact len_line hzc) (ints_some hc) ?_)
  rw [ints_del]
  have hi:(H.upd cd (.idict (vints (del cs one)))) ad = some (.idict ivs):=(Hp.upd_ne _ _ I.ne).trans I.i
  refine ss_asgW (w_dpop (ev_loc I.s) (ev_loc go) hi (by rw [all2_len I.r];exact len_line hzb) q1 ?_)
  have k1:Kp [ad,cd] H (H.upd cd (.idict (vints (del cs one)))):=kp_upd I.c rfl (List.mem_cons_of_mem _ (List.mem_cons_self ..)) _
  have k2:Kp [ad,cd] (H.upd cd (.idict (vints (del cs one)))) ((H.upd cd (.idict (vints (del cs one)))).upd ad (.idict (PySem.without ivs one))):=kp_upd hi rfl (List.mem_cons_self ..) _
  refine go_kids hv hzk hzw (g:=g + 1) (bs:=del bs one) (cs:=del cs one) (ivs:=PySem.without ivs one) (wl:=wl) ⟨I.s,I.t,rfl,I.wa,(k1.trans k2).list I.hw,I.h0,Hp.upd_same _ _ _,(Hp.upd_ne _ _ I.ne.symm).trans (Hp.upd_same _ _ _),I.ne,all2_del I.r one,(I.k.trans k1).trans k2, ?_⟩ rfl fun wl l' H' I=>hK wl _ l' H' I
  rw [keys_del,keys_del,I.y]
theorem go_turn (hz:w.length≤2 ^ 20∧bs.length≤2 ^ 20∧cs.length≤2 ^ 20) (hl:w.getLast? = some one) (I:GoI D ad cd H0 w bs cs g wl ivs l H)
    (hK:∀ w' bs' cs' g' wl ivs l' H',GoI D ad cd H0 w' bs' cs' g' wl ivs l' H'→lgo n w' bs' cs' g' = some fin→K .next l' H') (e:lgo (n + 1) w bs cs g = some fin):wpSs G false goB l H K XX:=by
  rw [lgo_eq hz hl] at e
  have hzw:w.dropLast.length≤2 ^ 20:=by rw [List.length_dropLast];exact Nat.le_trans (Nat.sub_le ..) hz.1
  refine ss_asgW (w_pop (ev_loc I.wa) I.hw (by rw [List.length_map];exact len_line hz.1) (by rw [List.getLast?_map,hl];rfl) ?_)
  have I2:=I.pop (.int one 0)
  generalize H.upd wl (.list (w.map fun n=>Value.int n 0).dropLast) = H2 at I2 ⊢
  have hc2:=I2.c
  rcases all2_get I.r one with ⟨v,c,q1,q2,q3⟩ | ⟨q1,q2⟩
  · obtain ⟨k,hc⟩:=get_other I.y q2
    rw [lgoB_some q2 hc] at e
    have hv:=ints_some hc
    have hb:(valueAt (vints cs) one).isSome = true:=by rw [hv];rfl
    refine ss_ift (ev_in (ev_loc rfl) (ev_loc I2.t) hc2 hb) ?_
    refine ss_key (ev_max ev_int (ev_sub (ev_key (ev_loc I2.t) (ev_loc rfl) hc2 hv) ev_int)) (ev_loc I2.t) (ev_loc rfl) hc2 (by rw [ints_len];exact len_line hz.2.2) (ss_sq ?_)
    rw [ints_put]
    have I3:=I2.cnt (cs':=put cs one (max 0 (k - 1))) (by rw [keys_put _ hc];exact I.y)
    generalize H2.upd cd (.idict (vints (put cs one (max 0 (k - 1))))) = H3 at I3 ⊢
    have hc3:get (put cs one (max 0 (k - 1))) one = some (max 0 (k - 1)):=by rw [get_put,if_pos rfl]
    have hv3:=ints_some hc3
    have hb3:(valueAt (vints (put cs one (max 0 (k - 1)))) one).isSome = true:=by rw [hv3];rfl
    refine ss_if (b:=decide (max 0 (k - 1) = 0)) (ev_go (ev_in (ev_loc rfl) (ev_loc I3.t) I3.c hb3) (ev_one (ev_eq (ev_key (ev_loc I3.t) (ev_loc rfl) I3.c hv3) ev_int rfl))) (fun hm=>?_) fun hm=>?_
    · rw [if_pos (of_decide_eq_true hm)] at e
      by_cases hzk:(kids c).length≤2 ^ 20
      · rw [if_pos hzk] at e
        exact go_gone q2 hc3 q1 q3 hzk hzw hz.2.1 (by rw [put_len _ _ _ _ hc];exact hz.2.2) I3 rfl fun wl ivs l' H' I=>hK _ _ _ _ _ _ _ _ I e
      · rw [if_neg hzk] at e;cases e
    · rw [if_neg (of_decide_eq_false hm)] at e
      exact ss_sq (ss_nl (hK _ _ _ _ _ _ _ _ I3 e))
  · rw [lgoB_none q2] at e
    have hc:=get_noth I.y q2
    have hb:(valueAt (vints cs) one).isSome = false:=by rw [St.ints_get,hc];rfl
    refine ss_iff0 (ev_in (ev_loc rfl) (ev_loc I2.t) hc2 hb) ?_
    exact ss_iff0 (ev_stop (ev_in (ev_loc rfl) (ev_loc I2.t) hc2 hb)) (ss_nl (hK _ _ _ _ _ _ _ _ I2 e))
end
end
end Mine.L8
end

section
open PySem PyProof.Rows
namespace Mine.L8
open Mine Mine.St
section
variable {A:Ad} {D E:List Addr} {G:Gx} {H H':Hp} {π:PA} {bs:List (Int×Ct)} {cs:List (Int×Int)} {mk:Int} {Q:QV} {X:XV} {l:Loc} {ad cd:Addr}
noncomputable def GoW (G:Gx) (XX:XS) (K:QS) (n:Nat) (l:Loc) (H:Hp):Prop:=whileN (fun l' H' K=>wpE G false goC l' H' (fun v H1=>truthV v fun b=>K b H1) (fun C H'=>XX C l' H')) (fun l' H' K=>wpSs G false goB l' H' K XX) K n l H
section
variable {H0:Hp} {w:List Int} {g:Int} {wl:Addr} {ivs:List (Int×Value)} {XX:XS} {K:QS} {r:List (Int×Ct)×List (Int×Int)×Int} {n:Nat}
theorem go_cond (I:GoI D ad cd H0 w bs cs g wl ivs l H) {K:Bool→Hp→Prop} {X:XV} (q:∀ H1,GoI D ad cd H0 w bs cs g wl ivs l H1→K (!w.isEmpty) H1):wpE G false goC l H (fun v H1=>truthV v fun b=>K b H1) X:=by
  refine w_cmpW (w_ev (ev_loc I.wa) (w_list evl_nil (Nat.le_of_ble_eq_true rfl) fun e1 he1=>?_))
  have I1:=I.new he1 (.list [])
  refine ⟨.list (w.map PyData.int), .list [], .list I1.hw (rd_ints w), .list (Hp.upd_same _ _ _) .nil,shaped_ints w,rfl, ?_⟩
  rw [eqv_nil,List.isEmpty_map]
  exact q _ I1
theorem go_step (fin:∀ l' H',l' "_law_gone_here" = some (.int r.2.2 0)→Mir D H' ad cd r.1 r.2.1→Kp [ad,cd] H0 H'→K .next l' H')
    (ih:∀ w bs cs g wl ivs l H,GoI D ad cd H0 w bs cs g wl ivs l H→lgo n w bs cs g = some r→GoW G XX K n l H) (I:GoI D ad cd H0 w bs cs g wl ivs l H) (e:lgo (n + 1) w bs cs g = some r):GoW G XX K (n + 1) l H:=by
  refine go_cond I fun H1 I1=>?_
  cases hlast:w.getLast? with
  | none =>
    obtain rfl:w = []:=List.getLast?_eq_none_iff.1 hlast
    obtain rfl:=lgo_nil e
    exact fin _ _ I1.g ⟨⟨ivs,I1.i,all2_imp (fun _ _ q=>⟨q.1,q.2.kp I1.k⟩) I1.r⟩,I1.c,I1.ne⟩ I1.k
  | some one =>
    have hem:w.isEmpty = false:=by cases w with | nil=>cases hlast | cons _ _=>rfl
    rw [hem]
    exact go_turn (lgo_z e) hlast I1 (fun w' bs1 cs1 g1 wl' ivs' l' H' I' e'=>ih w' bs1 cs1 g1 wl' ivs' l' H' I' e') e
theorem go_loop (fin:∀ l' H',l' "_law_gone_here" = some (.int r.2.2 0)→Mir D H' ad cd r.1 r.2.1→Kp [ad,cd] H0 H'→K .next l' H') (n:Nat) :
    ∀ w bs cs g wl ivs l H,GoI D ad cd H0 w bs cs g wl ivs l H→lgo n w bs cs g = some r→GoW G XX K n l H :=
  Nat.rec (fun _ _ _ _ _ _ _ _ _ e=>nomatch e) (fun _ ih _ _ _ _ _ _ _ _=>go_step fin ih) n
end
noncomputable def C_gone (G:Gx) (A:Ad):Prop:=∀ ⦃D:List Addr⦄ ⦃H:Hp⦄ ⦃ad cd:Addr⦄ ⦃bs:List (Int×Ct)⦄ ⦃cs:List (Int×Int)⦄,Mir D H ad cd bs cs→bs.map (·.1) = cs.map (·.1)→∀ ⦃i:Int⦄ ⦃n:Nat⦄ ⦃bs':List (Int×Ct)⦄ ⦃cs':List (Int×Int)⦄ ⦃g':Int⦄,lgo n [i] bs cs 0 = some (bs',cs',g')→∀ ⦃Q:QV⦄ ⦃X:XV⦄,
  (∀ H',Mir D H' ad cd bs' cs'→Kp [ad,cd] H H'→Q (.int g' 0) H')→G.fn (A "_law_gone" "") false [.ref ad, .ref cd, .int i 0] H Q X
theorem gone_ok (m:Mir D H ad cd bs cs) (hy:bs.map (·.1) = cs.map (·.1)) {i:Int} {n:Nat} {bs':List (Int×Ct)} {cs':List (Int×Int)} {g':Int} (hg:lgo n [i] bs cs 0 = some (bs',cs',g'))
    (q:∀ H',Mir D H' ad cd bs' cs'→Kp [ad,cd] H H'→Q (.int g' 0) H'):wpF G false ["_law_inside", "_law_counts", "_law_box"] b__law_gone [.ref ad, .ref cd, .int i 0] H Q X:=by
  obtain ⟨ivs,hi,hr⟩:=m.ex
  refine f_in rfl (ss_asgW (w_list (by mem_news) (Nat.le_of_ble_eq_true rfl) fun wl hwl=>ss_asg ev_int (ss_while n ?_)))
  have k:=kp_new (M:=[]) hwl (.list [.int i 0])
  exact go_loop (H0:=H) (r:=(bs',cs',g')) (fun l' H' g3 m' k'=>ss_ret (ev_loc g3) (q H' m' k')) n [i] bs cs 0 wl ivs _ _ ⟨rfl,rfl,rfl,rfl,Hp.upd_same _ _ _,hwl,k _ _ hi (.inr List.not_mem_nil),k _ _ m.c (.inr List.not_mem_nil),m.ne,hr,kp_new hwl _,hy⟩ hg
noncomputable def wsz (bs:List (Int×Ct)):Nat:=(bs.map fun p=>(kids p.2).length).sum
theorem wsz_cons (p:Int×Ct) (bs:List (Int×Ct)):wsz (p :: bs) = (kids p.2).length + wsz bs:=by unfold wsz;rw [List.map_cons,List.sum_cons]
theorem del_cons {α:Type} (p:Int×α) (l:List (Int×α)) (i:Int):del (p :: l) i = if p.1 = i then del l i else p :: del l i:=by
  unfold del
  rw [List.filter_cons]
  by_cases e:p.1 = i
  · rw [if_pos e,if_neg (by rw [decide_eq_true_iff];exact fun z=>z e)]
  · rw [if_neg e,if_pos (decide_eq_true e)]
theorem wsz_le (bs:List (Int×Ct)) (i:Int):wsz (del bs i)≤wsz bs:=by
  induction bs with
  | nil=>exact Nat.le_refl _
  | cons p bs ih =>
    rw [del_cons,wsz_cons]
    split
    · exact Nat.le_trans ih (Nat.le_add_left _ _)
    · rw [wsz_cons];exact Nat.add_le_add_left ih _
theorem wsz_del {bs:List (Int×Ct)} {i:Int} {c:Ct} (h:get bs i = some c):(kids c).length + wsz (del bs i)≤wsz bs:=by
  induction bs with
  | nil=>cases h
  | cons p bs ih =>
    rw [get_cons] at h
    rw [del_cons,wsz_cons]
    by_cases e:p.1 = i
    · rw [if_pos e] at h ⊢
      injection h with h
      rw [h];exact Nat.add_le_add_left (wsz_le bs i) _
    · rw [if_neg e] at h ⊢
      rw [wsz_cons,Nat.add_left_comm]
      exact Nat.add_le_add_left (ih h) _
theorem del_sub {α:Type} (l:List (Int×α)) (i:Int):(del l i).Sublist l:=List.filter_sublist
theorem del_len {α:Type} (l:List (Int×α)) (i:Int):(del l i).length≤l.length:=(del_sub l i).length_le
theorem keys_len {α β:Type} {l:List (Int×α)} {m:List (Int×β)} (h:l.map (·.1) = m.map (·.1)):m.length = l.length:=by
  have:=congrArg List.length h
  rw [List.length_map,List.length_map] at this
  exact this.symm
theorem last_split {w:List Int} {one:Int} (h:w.getLast? = some one):w.length = w.dropLast.length + 1:=by
  cases w with
  | nil=>cases h
  | cons a r=>rw [List.length_dropLast];rfl
theorem lgo_some (n:Nat):∀ (w:List Int) (bs:List (Int×Ct)) (cs:List (Int×Int)) (g:Int),n≤2 ^ 20→w.length + wsz bs≤n→bs.length≤2 ^ 20→bs.map (·.1) = cs.map (·.1)→∃ r,lgo (n + 1) w bs cs g = some r∧r.1.Sublist bs∧r.1.map (·.1) = r.2.1.map (·.1):=by
  induction n with
  | zero =>
    intro w bs cs g _ hn hb hy
    obtain rfl:w = []:=List.length_eq_zero_iff.1 (Nat.le_zero.1 (Nat.le_trans (Nat.le_add_right _ _) hn))
    refine ⟨(bs,cs,g), ?_,List.Sublist.refl _,hy⟩
    show (if _ then _ else _) = _
    rw [if_pos ⟨Nat.zero_le _,hb,by rw [keys_len hy];exact hb⟩]
    rfl
  | succ n ih =>
    intro w bs cs g h20 hn hb hy
    have hz:w.length≤2 ^ 20∧bs.length≤2 ^ 20∧cs.length≤2 ^ 20:=⟨Nat.le_trans (Nat.le_trans (Nat.le_add_right _ _) hn) h20,hb,by rw [keys_len hy];exact hb⟩
    have h20':n≤2 ^ 20:=Nat.le_trans (Nat.le_succ n) h20
    cases hl:w.getLast? with
    | none =>
      obtain rfl:w = []:=List.getLast?_eq_none_iff.1 hl
      refine ⟨(bs,cs,g), ?_,List.Sublist.refl _,hy⟩
      show (if _ then _ else _) = _
      rw [if_pos hz]
      rfl
    | some one =>
      rw [lgo_eq hz hl]
      rw [last_split hl,Nat.add_right_comm] at hn
      have hn:=Nat.le_of_succ_le_succ hn
      cases hg:get bs one with
      | none=>rw [lgoB_none hg];exact ih _ _ _ _ h20' hn hb hy
      | some c =>
        obtain ⟨k,hc⟩:=get_other hy hg
        rw [lgoB_some hg hc]
        have hy2:bs.map (·.1) = (put cs one (max 0 (k - 1))).map (·.1):=by rw [keys_put _ hc];exact hy
        split
        · have hk:=wsz_del hg
          rw [if_pos (Nat.le_trans (Nat.le_trans (Nat.le_trans (Nat.le_add_right _ _) hk) (Nat.le_trans (Nat.le_add_left _ _) hn)) h20')]
          obtain ⟨r,e,s,y⟩:=ih (w.dropLast++kids c) (del bs one) (del (put cs one (max 0 (k - 1))) one) (g + 1) h20' (by
            rw [List.length_append,Nat.add_assoc]
            exact Nat.le_trans (Nat.add_le_add_left hk _) hn) (Nat.le_trans (del_len _ _) hb) (by rw [keys_del,keys_del,hy2])
          exact ⟨r,e,s.trans (del_sub _ _),y⟩
        · exact ih _ _ _ _ h20' hn hb hy2
structure W8 (N:Nat) (bs:List (Int×Ct)) (cs:List (Int×Int)) (mk:Int):Prop where
  y:bs.map (·.1) = cs.map (·.1)
  inc:(bs.map (·.1)).Pairwise (· < ·)
  hi:∀ k∈bs.map (·.1),1≤k∧k≤mk
  ok:∀ p∈bs,OkC p.2
  z:bs.length≤N
  m0:0≤mk
  m:mk≤N
section
variable {N:Nat}
theorem W8.zero:W8 0 [] [] 0:=⟨rfl, .nil,fun _ z=>absurd z List.not_mem_nil,fun _ z=>absurd z List.not_mem_nil,Nat.le_refl _,Int.le_refl _,Int.le_refl _⟩
theorem W8.mono (w:W8 N bs cs mk) {M:Nat} (h:N≤M):W8 M bs cs mk:=⟨w.y,w.inc,w.hi,w.ok,Nat.le_trans w.z h,w.m0,Int.le_trans w.m (Int.ofNat_le.2 h)⟩
theorem W8.new (w:W8 N bs cs mk):mk + 1 ∉ bs.map (·.1):=fun h=>absurd (w.hi _ h).2 (Int.not_le.2 (Int.lt_succ mk))
theorem W8.newc (w:W8 N bs cs mk):mk + 1 ∉ cs.map (·.1):=by rw [← w.y];exact w.new
theorem W8.add (w:W8 N bs cs mk) {c:Ct} (hc:OkC c):W8 (N + 1) (put bs (mk + 1) c) (put cs (mk + 1) 0) (mk + 1):=by
  rw [put_new _ w.new,put_new _ w.newc]
  refine ⟨?_, ?_,fun k hk=>?_,fun p hp=>?_, ?_,Int.le_add_one w.m0,Int.add_le_add_right w.m 1⟩
  · rw [List.map_append,List.map_append,w.y];rfl
  · rw [List.map_append,List.pairwise_append]
    refine ⟨w.inc,List.pairwise_singleton _ _,fun a ha b hb=>?_⟩
    rw [List.mem_singleton.1 hb]
    exact Int.lt_add_one_of_le (w.hi a ha).2
  · rw [List.map_append] at hk
    rcases List.mem_append.1 hk with hk | hk
    · exact ⟨(w.hi k hk).1,Int.le_add_one (w.hi k hk).2⟩
    · rw [List.mem_singleton.1 hk];exact ⟨Int.le_add_of_nonneg_left w.m0,Int.le_refl _⟩
  · rcases List.mem_append.1 hp with hp | hp
    · exact w.ok p hp
    · rw [List.mem_singleton.1 hp];exact hc
  · rw [List.length_append];exact Nat.succ_le_succ w.z
theorem W8.keysc (w:W8 N bs cs mk) {cs':List (Int×Int)} (h:cs'.map (·.1) = cs.map (·.1)):W8 N bs cs' mk:=⟨w.y.trans h.symm,w.inc,w.hi,w.ok,w.z,w.m0,w.m⟩
theorem W8.sub (w:W8 N bs cs mk) {bs':List (Int×Ct)} {cs':List (Int×Int)} (s:bs'.Sublist bs) (y:bs'.map (·.1) = cs'.map (·.1)):W8 N bs' cs' mk :=
  ⟨y,w.inc.sublist (s.map _),fun k hk=>w.hi k ((s.map _).subset hk),fun p hp=>w.ok p (s.subset hp),Nat.le_trans s.length_le w.z,w.m0,w.m⟩
theorem W8.lz (w:W8 N bs cs mk) (h:N≤1000):bs.length≤sizeLine∧cs.length≤sizeLine :=
  have:=Nat.le_trans (Nat.le_trans w.z h) (show 1000≤sizeLine by decide)
  ⟨this,by rw [keys_len w.y];exact this⟩
theorem W8.l64 (w:W8 N bs cs mk) (h:N≤62):bs.length < 64:=Nat.lt_of_le_of_lt (Nat.le_trans w.z h) (by decide)
theorem W8.okc (w:W8 N bs cs mk) {i:Int} {c:Ct} (h:get bs i = some c):OkC c:=by
  unfold St.get at h
  cases e:bs.find? fun p=>decide (p.1 = i) with
  | none=>rw [e] at h;cases h
  | some p =>
    rw [e] at h
    injection h with h
    rw [← h]
    exact w.ok p (List.mem_of_find?_eq_some e)
theorem okc_kids {c:Ct} (h:OkC c):(kids c).length≤41:=by
  cases c with
  | leaf n=>exact Nat.zero_le _
  | br rows=>exact Nat.le_trans (Nat.le_of_eq (List.length_map ..)) h.1
theorem wsz_bound (bs:List (Int×Ct)):(∀ p∈bs,OkC p.2)→wsz bs≤41 * bs.length:=by
  induction bs with
  | nil=>exact fun _=>Nat.le_refl _
  | cons p bs ih =>
    intro h
    rw [wsz_cons,List.length_cons,Nat.mul_succ,Nat.add_comm]
    exact Nat.add_le_add (ih fun q hq=>h q (List.mem_cons_of_mem _ hq)) (okc_kids (h p (List.mem_cons_self ..)))
theorem W8.go (w:W8 N bs cs mk) (h:N≤1000) (i:Int):∃ bs' cs' g',lgo (50001 + 1) [i] bs cs 0 = some (bs',cs',g')∧W8 N bs' cs' mk:=by
  obtain ⟨⟨bs',cs',g'⟩,e,s,y⟩:=lgo_some 50001 [i] bs cs 0 (by decide) (Nat.le_trans (Nat.add_le_add_left (Nat.le_trans (wsz_bound bs w.ok) (Nat.mul_le_mul_left 41 (Nat.le_trans w.z h))) 1) (by decide)) (Nat.le_trans (Nat.le_trans w.z h) (by decide)) w.y
  exact ⟨bs',cs',g',e,w.sub s y⟩
theorem holdAll_some (rows:List (Str×Int)):∀ cs:List (Int×Int),(∀ r∈rows,r.2∈cs.map (·.1))→∃ cs',holdAll cs rows = some cs'∧cs'.map (·.1) = cs.map (·.1):=by
  induction rows with
  | nil=>exact fun cs _=>⟨cs,rfl,rfl⟩
  | cons r rows ih =>
    intro cs h
    obtain ⟨k,e⟩:=get_of (h r (List.mem_cons_self ..))
    have hy:=keys_put (k + 1) e
    obtain ⟨cs',e2,y2⟩:=ih (put cs r.2 (k + 1)) fun x hx=>by rw [hy];exact h x (List.mem_cons_of_mem _ hx)
    refine ⟨cs', ?_,y2.trans hy⟩
    show (match get cs r.2 with | some k=>holdAll (put cs r.2 (k + 1)) rows | none=>none) = some cs'
    rw [e];exact e2
end
end
end Mine.L8
end

section
open PySem PyProof.Rows
namespace Mine.St
open Mine
section
variable {A:Ad} {D:List Addr} {H H':Hp} {π:PA} {bs:List (Int×Ct)} {cs:List (Int×Int)} {mk:Int} {ad cd:Addr}
theorem RCt.weak {v:Value} {c:Ct} (h:RCt D H v c):RCt [] H v c:=by
  cases c with
  | leaf n=>exact h
  | br rows =>
    obtain ⟨a,l,xs,e,q,q2,q3, -⟩:=h
    exact ⟨a,l,xs,e,q,q2,q3,List.not_mem_nil⟩
theorem PileR.weak (h:PileR A D H π bs cs mk):PileR A [] H π bs cs mk:=by
  obtain ⟨bvs,p,r⟩:=h.ex
  exact ⟨⟨bvs,p,all2_imp (fun _ _ q=>⟨q.1,q.2.weak⟩) r⟩,fun _ z=>absurd z List.not_mem_nil⟩
structure Ap (π:PA) (ad cd:Addr):Prop where
  a:ad ∉ π.M
  c:cd ∉ π.M
theorem off2 {x:Addr} {M:List Addr} (hx:x∈M) (ha:ad ∉ M) (hc:cd ∉ M):x ∉ [ad,cd]:=fun z=>by
  rcases List.mem_cons.1 z with z | z
  · exact ha (z ▸ hx)
  · exact hc (List.mem_singleton.1 z ▸ hx)
theorem PileR.out (h:PileR A D H π bs cs mk) (ap:Ap π ad cd) (k:Kp [ad,cd] H H'):PileR A D H' π bs cs mk :=
  h.kp k (off2 (M:=π.M) (List.mem_cons_self ..) ap.a ap.c) (off2 (M:=π.M) (List.mem_cons_of_mem _ (List.mem_cons_self ..)) ap.a ap.c) (off2 (M:=π.M) (List.mem_cons_of_mem _ (List.mem_cons_of_mem _ (List.mem_cons_self ..))) ap.a ap.c)
end
end Mine.St
namespace Mine.L8
open Mine Mine.St
section
variable {A:Ad} {D E:List Addr} {G:Gx} {H H':Hp} {π:PA} {bs:List (Int×Ct)} {cs:List (Int×Int)} {mk:Int} {Q:QV} {X:XV} {l:Loc} {ad cd:Addr} {N:Nat}
theorem Mir.weak (m:Mir D H ad cd bs cs):Mir [] H ad cd bs cs:=by
  obtain ⟨ivs,e,r⟩:=m.ex
  exact ⟨⟨ivs,e,all2_imp (fun _ _ q=>⟨q.1,q.2.weak⟩) r⟩,m.c,m.ne⟩
theorem Mir.ka (m:Mir D H ad cd bs cs) (o:AObj):Kp [ad,cd] H (H.upd ad o):=by
  obtain ⟨ivs,e, -⟩:=m.ex
  exact kp_upd e rfl (List.mem_cons_self ..) o
theorem Mir.kc (m:Mir D H ad cd bs cs) (o:AObj):Kp [ad,cd] H (H.upd cd o):=kp_upd m.c rfl (List.mem_cons_of_mem _ (List.mem_cons_self ..)) o
noncomputable abbrev AM (π:PA) (ad cd:Addr):List Addr:=ad :: cd :: π.M
theorem kpI (k:Kp π.M H H'):Kp (AM π ad cd) H H':=k.mono fun _ h=>List.mem_cons_of_mem _ (List.mem_cons_of_mem _ h)
theorem kpO (k:Kp [ad,cd] H H'):Kp (AM π ad cd) H H':=k.mono fun _ h=>by
  rcases List.mem_cons.1 h with h | h
  · rw [h];exact List.mem_cons_self ..
  · rw [List.mem_singleton.1 h];exact List.mem_cons_of_mem _ (List.mem_cons_self ..)
theorem kpN (k:Kp [] H H'):Kp (AM π ad cd) H H':=k.mono fun _ h=>absurd h List.not_mem_nil
structure S8 (A:Ad) (H:Hp) (π:PA) (ad cd:Addr) (N:Nat) (bs:List (Int×Ct)) (cs:List (Int×Int)) (mk:Int):Prop where
  p:PileR A [] H π bs cs mk
  m:Mir [] H ad cd bs cs
  w:W8 N bs cs mk
  ap:Ap π ad cd
  n:N≤60
theorem S8.kp0 (s:S8 A H π ad cd N bs cs mk) (k:Kp [] H H'):S8 A H' π ad cd N bs cs mk:=⟨s.p.kp0 k,s.m.kp0 k,s.w,s.ap,s.n⟩
theorem S8.n1 (s:S8 A H π ad cd N bs cs mk):N≤1000:=Nat.le_trans s.n (by decide)
theorem S8.l64 (s:S8 A H π ad cd N bs cs mk):bs.length < 64:=s.w.l64 (Nat.le_trans s.n (by decide))
theorem all_true {a:Addr} {n:Nat} (ha:H a = some (.list (List.replicate n (.bool true)))) (q:Q (.bool true) H):bfV .all [.ref a] H Q:=by
  conv=>whnf
  rw [ha]
  refine ⟨List.replicate n true,by rw [List.map_replicate], ?_⟩
  have:(List.replicate n true).all id = true:=List.all_eq_true.2 fun x hx=>List.eq_of_mem_replicate hx
  rw [this];exact q
theorem rep_snoc {α:Type} (n:Nat) (a:α):List.replicate n a++[a] = List.replicate (n + 1) a:=List.replicate_succ'.symm
structure AdI (H0:Hp) (ks:List Int) (r acc:List Value) (H:Hp):Prop where
  k:Kp [] H0 H
  a:∃ n,acc = List.replicate n (.bool true)
  r:∀ v∈r,∃ i∈ks,v = .int i 0
theorem eqv_list (w:List Int):PyData.eqv (.list (w.map PyData.int)) (.list (w.map PyData.int)) = true:=eqv_ints w
noncomputable def C_as_due (G:Gx) (A:Ad):Prop:=∀ ⦃H:Hp⦄ ⦃π:PA⦄ ⦃ad cd:Addr⦄ ⦃N:Nat⦄ ⦃bs:List (Int×Ct)⦄ ⦃cs:List (Int×Int)⦄ ⦃mk:Int⦄,S8 A H π ad cd N bs cs mk→∀ ⦃Q:QV⦄ ⦃X:XV⦄,(∀ H',Kp [] H H'→Q (.bool true) H')→G.fn (A "_law_as_due" "") false [.ref π.x, .ref ad, .ref cd, .int mk 0] H Q X
theorem ad_turn (F:Env G A) (L:LEnv G A FS) (W:C_whole G A) (C:C_count G A) (HO:C_holders G A) (s:S8 A H π ad cd N bs cs mk) {i:Int} (hi:i∈bs.map (·.1)) (g1:l "_law_pile" = some (.ref π.x)) (g2:l "_law_counts" = some (.ref cd)) (g3:l "_law_box" = some (.int i 0)) (q:Q (.bool true) H) :
    wpE G false (.bop true [.call (.glob "_law_whole") [.loc "_law_box"], .call (.glob "_law_count") [.meth (.loc "_law_pile") "holders" [.loc "_law_box"], .idx (.loc "_law_counts") (.loc "_law_box")]]) l H Q X:=by
  obtain ⟨c,hc⟩:=get_of hi
  obtain ⟨k,hk⟩:=get_other s.w.y hc
  obtain ⟨bvs,p, -⟩:=id s.p.ex
  refine w_bopW (wb_cons (w_call (by mem_news) (by nest_cls) (by mem_news) (W (tv_t (wb_one ?_)))))
  refine w_callW (by mem_news) (by nest_cls) (wl_cons (w_meth (by mem_news) p.i p.n (by nest_cls) (by rfl) (by mem_news) (HO s.p hc hk ?_)))
  exact wl_cons (w_ev (ev_key (ev_loc g2) (ev_loc g3) s.m.c (ints_some hk)) (wl_nil (C rfl q)))
theorem as_due_ok (F:Env G A) (L:LEnv G A FS) (W:C_whole G A) (C:C_count G A) (KP:C_kept G A) (HO:C_holders G A) (s:S8 A H π ad cd N bs cs mk) (q:∀ H',Kp [] H H'→Q (.bool true) H') :
    wpF G false ["_law_pile", "_law_inside", "_law_counts", "_law_made"] b__law_as_due [.ref π.x, .ref ad, .ref cd, .int mk 0] H Q X:=by
  obtain ⟨bvs,p, -⟩:=id s.p.ex
  have lz:=s.w.lz s.n1
  refine f_in rfl (ss_asgW (w_meth (by mem_news) p.i p.n (by nest_cls) (by rfl) (by mem_news) (KP s.p s.l64 s.w.inc fun c hc=>?_)))
  have k1:=kp_new (M:=[]) hc (.list ((bs.map (·.1)).map fun n=>Value.int n 0))
  have h1:(H.upd c (.list ((bs.map (·.1)).map fun n=>Value.int n 0))) c = some (.list ((bs.map (·.1)).map fun n=>Value.int n 0)):=Hp.upd_same _ _ _
  generalize H.upd c (.list ((bs.map (·.1)).map fun n=>Value.int n 0)) = H1 at k1 h1 ⊢
  have s1:=s.kp0 k1
  obtain ⟨ivs,hi,hr⟩:=s1.m.ex
  refine ss_ifW (w_bopW (wb_go (by mem_news) (wb_cons (w_cmpW (w_ev (ev_loc rfl) (w_bfW (wl_cons (w_ev (v:=.ref ad) (by mem_news) (wl_nil ⟨.inr (.inl rfl),sorted_keys hi (by rw [all2_len hr];exact s.l64) (by rw [all2_keys hr];exact s.w.inc) fun d hd=>?_⟩)))))))))
  rw [all2_keys hr]
  have k2:=kp_new (M:=[]) hd (.list ((bs.map (·.1)).map fun n=>Value.int n 0))
  have h2:(H1.upd d (.list ((bs.map (·.1)).map fun n=>Value.int n 0))) d = some (.list ((bs.map (·.1)).map fun n=>Value.int n 0)):=Hp.upd_same _ _ _
  generalize H1.upd d (.list ((bs.map (·.1)).map fun n=>Value.int n 0)) = H2 at k2 h2 ⊢
  have s2:=s1.kp0 k2
  have h1:=k2.list h1
  obtain ⟨bvs2,p2, -⟩:=id s2.p.ex
  refine ⟨.list ((bs.map (·.1)).map PyData.int), .list ((bs.map (·.1)).map PyData.int), .list h1 (rd_ints _), .list h2 (rd_ints _),shaped_ints _,shaped_ints _, ?_⟩
  rw [eqv_list]
  refine bo_go (k:=false) (wb_one (w_notW (w_call (by mem_news) (by nest_cls) (by mem_news) (C rfl ?_))))
  refine ss_sq ?_
  refine ss_retW (r:=[]) (w_bfW (wl_cons (w_compI (AdI H2 (bs.map (·.1))) (ev_loc rfl) h1 rfl (by rw [List.length_map,List.length_map];exact lz.1) (fun r acc H' I=>I.k.list h1) (fun v r acc H' I K hK=>?_) ⟨Kp.refl _ _,⟨0,rfl⟩,fun v hv=>?_⟩ fun acc H' I e he=>wl_nil ⟨.inr (.inl rfl), ?_⟩)))
  · obtain ⟨i,hi,rfl⟩:=I.r v (List.mem_cons_self ..)
    refine ad_turn F L W C HO (s2.kp0 I.k) hi (by rfl) (by rfl) (by rfl) (hK _ _ ⟨I.k, ?_,fun v hv=>I.r v (List.mem_cons_of_mem _ hv)⟩)
    obtain ⟨n,rfl⟩:=I.a
    exact ⟨n + 1,rep_snoc n _⟩
  · obtain ⟨i,hi,rfl⟩:=List.mem_map.1 hv
    exact ⟨i,hi,rfl⟩
  · obtain ⟨n,rfl⟩:=I.a
    exact all_true (Hp.upd_same _ _ _) (q _ (((k1.trans k2).trans I.k).trans (kp_new he _)))
end
end Mine.L8
end

section
open PySem PyProof.Rows
namespace Mine.L8
open Mine Mine.St
section
variable {A:Ad} {D E:List Addr} {G:Gx} {H H':Hp} {π:PA} {bs:List (Int×Ct)} {cs:List (Int×Int)} {mk:Int} {Q:QV} {X:XV} {l:Loc} {ad cd:Addr} {N:Nat} {K:QS} {XX:XS}
structure St8 (π:PA) (ad cd:Addr) (mk:Int) (l:Loc):Prop where
  p:l "_law_pile" = some (.ref π.x)
  i:l "_law_inside" = some (.ref ad)
  c:l "_law_counts" = some (.ref cd)
  m:l "_law_made" = some (.int mk 0)
noncomputable def Aft (A:Ad) (π:PA) (ad cd:Addr) (N:Nat) (mk:Int) (H:Hp) (R:Hp→Prop):Prop :=
  ∀ H' bs' cs' mk',S8 A H' π ad cd (N + 1) bs' cs' mk'→mk≤mk'→(mk' = mk∨mk'∈bs'.map (·.1))→Kp (AM π ad cd) H H'→R H'
theorem Aft.kp {R:Hp→Prop} (q:Aft A π ad cd N mk H R) (k:Kp (AM π ad cd) H H'):Aft A π ad cd N mk H' R:=fun H2 bs' cs' mk' s h1 h2 k2=>q H2 bs' cs' mk' s h1 h2 (k.trans k2)
theorem put_mem {α:Type} (l:List (Int×α)) (i:Int) (a:α):i∈(put l i a).map (·.1):=get_mem (a:=a) (by rw [get_put,if_pos rfl])
noncomputable def stL:List Sm:=[.asgIdx (.loc "_law_inside") (.bin .Add (.loc "_law_made") (.int 1)) (.tup [.str "leaf", .loc "_law_number"]), .asgIdx (.loc "_law_counts") (.bin .Add (.loc "_law_made") (.int 1)) (.int 0), .ret (.call (.glob "_law_count") [.meth (.loc "_law_pile") "leaf" [.loc "_law_number"], .bin .Add (.loc "_law_made") (.int 1)])]
theorem st_leaf (F:Env G A) (L:LEnv G A FS) (C:C_count G A) (LE:C_leaf G A) (s:S8 A H π ad cd N bs cs mk) (hn:N + 1≤60) (g:St8 π ad cd mk l) {n:Int} (gn:l "_law_number" = some (.int n 0)) (q:Aft A π ad cd N mk H fun H'=>∀ l',K (.ret (.bool true)) l' H'):wpSs G false stL l H K XX:=by
  have g1:=g.p
  have lz:=s.w.lz s.n1
  refine ss_keyW (w_tup (by mem_news) (Nat.le_of_ble_eq_true rfl) fun a ha=>w_ev (ev_loc g.i) (w_ev (ev_add (ev_loc g.m) ev_int) ?_))
  have k1:=kp_new (M:=[]) ha (.tup [.str (Str.ofString "leaf") 0, .int n 0])
  have hv:RCt [] (H.upd a (.tup [.str (Str.ofString "leaf") 0, .int n 0])) (.ref a) (.leaf n):=⟨a,rfl,Hp.upd_same _ _ _⟩
  generalize H.upd a (.tup [.str (Str.ofString "leaf") 0, .int n 0]) = H1 at k1 hv ⊢
  have s1:=s.kp0 k1
  obtain ⟨ivs,hi,hr⟩:=s1.m.ex
  refine setkey_at hi (by rw [all2_len hr];exact lz.1) ?_
  have m2:=s1.m.putB hi hr hv (mk + 1)
  have k2:=s1.m.ka (.idict (stored ivs (mk + 1) (.ref a)))
  have p2:=s1.p.out s.ap k2
  generalize H1.upd ad (.idict (stored ivs (mk + 1) (.ref a))) = H2 at m2 k2 p2 ⊢
  refine ss_key ev_int (ev_loc g.c) (ev_add (ev_loc g.m) ev_int) m2.c (by rw [ints_len];exact lz.2) ?_
  rw [ints_put]
  have m3:=m2.cnt (put cs (mk + 1) 0)
  have k3:=m2.kc (.idict (vints (put cs (mk + 1) 0)))
  have p3:=p2.out s.ap k3
  generalize H2.upd cd (.idict (vints (put cs (mk + 1) 0))) = H3 at m3 k3 p3 ⊢
  obtain ⟨bvs,pa, -⟩:=id p3.ex
  refine ss_retW (w_callW (by mem_news) (by nest_cls) (wl_cons (w_meth (by mem_news) pa.i pa.n (by nest_cls) (by rfl) (by mem_news) (LE p3 lz.1 lz.2 fun H4 h4 k4=>?_))))
  refine wl_cons (w_ev (ev_add (ev_loc g.m) ev_int) (wl_nil (C rfl ?_)))
  exact q H4 _ _ _ ⟨h4,m3.kp k4 s.ap.a s.ap.c,s.w.add trivial,s.ap,hn⟩ (Int.le_add_one (Int.le_refl _)) (.inr (put_mem _ _ _)) ((((kpN k1).trans (kpO k2)).trans (kpO k3)).trans (kpI k4)) l
noncomputable def stF:List Sm:=[.asgIdx (.loc "_law_counts") (.idx (.loc "_law_pair") (.int 1)) (.bin .Add (.idx (.loc "_law_counts") (.idx (.loc "_law_pair") (.int 1))) (.int 1))]
noncomputable def stE:List Sm:=[.asgIdx (.loc "_law_inside") (.bin .Add (.loc "_law_made") (.int 1)) (.tup [.str "branch", .loc "_law_rows"]), .asgIdx (.loc "_law_counts") (.bin .Add (.loc "_law_made") (.int 1)) (.int 0), .ret (.call (.glob "_law_count") [.loc "_law_seen", .bin .Add (.loc "_law_made") (.int 1)])]
noncomputable def stB:List Sm:=.asg "_law_rows" (.call (.glob "_law_rows_by") [.loc "_law_some", .loc "_law_there"]) :: .asg "_law_handed" (.bf .list [.loc "_law_rows"]) :: .asg "_law_seen" (.meth (.loc "_law_pile") "branch" [.loc "_law_handed"]) :: .ite (.cmp (.loc "_law_handed") .NotEq (.loc "_law_rows")) [.ret (.bool false)] [] :: .expr (.bm .append (.loc "_law_handed") [.tup [.str "zzz", .idx (.loc "_law_there") (.int 0)]]) :: .for_ "_law_pair" (.loc "_law_rows") stF :: stE
structure Br8 (A:Ad) (π:PA) (ad cd:Addr) (N:Nat) (mk:Int) (D:List Addr) (bs bs2:List (Int×Ct)) (cs2:List (Int×Int)) (rl:Addr) (xs:List Value) (rows:List (Str×Int)) (cs1:List (Int×Int)) (H:Hp):Prop where
  p:PileR A D H π bs2 cs2 (mk + 1)
  m:Mir D H ad cd bs cs1
  o:H rl = some (.list xs)
  r:All2 (RRow H) xs rows
  d:rl ∉ D
  y:cs1.length≤sizeLine
  zb:bs.length≤sizeLine
variable {bs2:List (Int×Ct)} {cs1 cs2 cs3:List (Int×Int)} {rl:Addr} {xs:List Value} {rows:List (Str×Int)}
theorem Br8.kpO (b:Br8 A π ad cd N mk D bs bs2 cs2 rl xs rows cs1 H) (ap:Ap π ad cd) (cs':List (Int×Int)) (hz:cs'.length≤sizeLine):Br8 A π ad cd N mk D bs bs2 cs2 rl xs rows cs' (H.upd cd (.idict (vints cs'))) :=
  have k:=b.m.kc (.idict (vints cs'))
  ⟨b.p.out ap k,b.m.cnt cs',k.list b.o,all2_imp (fun _ _ z=>z.kp k) b.r,b.d,hz,b.zb⟩
structure FoI (A:Ad) (π:PA) (ad cd:Addr) (N:Nat) (mk:Int) (D:List Addr) (bs bs2:List (Int×Ct)) (cs2:List (Int×Int)) (rl:Addr) (xs:List Value) (rows:List (Str×Int)) (cs':List (Int×Int)) (H0:Hp) (l0:Loc) (r:List Value) (rs:List (Str×Int)) (cs1:List (Int×Int)) (l:Loc) (H:Hp):Prop where
  b:Br8 A π ad cd N mk D bs bs2 cs2 rl xs rows cs1 H
  g:St8 π ad cd mk l
  s:l "_law_seen" = some (.int (mk + 1) 0)
  o:l "_law_rows" = some (.ref rl)
  r:All2 (RRow H) r rs
  h:holdAll cs1 rs = some cs'
  k:Kp [ad,cd] H0 H
theorem st_for (ap:Ap π ad cd) {H0:Hp} {l0:Loc} {cs':List (Int×Int)} {v:Value} {r:List Value} {rs:List (Str×Int)} (I:FoI A π ad cd N mk D bs bs2 cs2 rl xs rows cs' H0 l0 (v :: r) rs cs1 l H) (hK:∀ rs' cs3 l' H',FoI A π ad cd N mk D bs bs2 cs2 rl xs rows cs' H0 l0 r rs' cs3 l' H'→K .next l' H'):wpSs G false stF (l.upd "_law_pair" v) H K XX:=by
  have hr:=I.r
  cases hr with
  | @cons _ row _ rs' e1 e2 =>
  obtain ⟨a,rfl,ha⟩:=e1
  obtain ⟨k,hk,hh⟩:=holdAll_cons I.h
  have hv:=ints_some hk
  have gc:=I.g.c
  refine ss_key (ev_add (ev_key (ev_loc (by exact gc)) (ev_at (ev_loc (by rfl)) ev_int ha rfl rfl) I.b.m.c hv) ev_int) (ev_loc (by exact gc)) (ev_at (ev_loc (by rfl)) ev_int ha rfl rfl) I.b.m.c (by rw [ints_len];exact I.b.y) ?_
  rw [ints_put]
  have kk:=I.b.m.kc (.idict (vints (put cs1 row.2 (k + 1))))
  have b':=I.b.kpO ap (put cs1 row.2 (k + 1)) (by rw [put_len _ _ _ _ hk];exact I.b.y)
  exact ss_nl (hK rs' _ _ _ ⟨b',⟨I.g.p,I.g.i,I.g.c,I.g.m⟩,I.s,I.o,all2_imp (fun _ _ z=>z.kp kk) e2,hh,I.k.trans kk⟩)
theorem st_end (L:LEnv G A FS) (C:C_count G A) (ap:Ap π ad cd) (b:Br8 A π ad cd N mk D bs bs2 cs2 rl xs rows cs1 H) (g:St8 π ad cd mk l) (gs:l "_law_seen" = some (.int (mk + 1) 0)) (gr:l "_law_rows" = some (.ref rl))
    (q:∀ H',PileR A D H' π bs2 cs2 (mk + 1)→Mir D H' ad cd (put bs (mk + 1) (.br rows)) (put cs1 (mk + 1) 0)→Kp [ad,cd] H H'→K (.ret (.bool true)) l H'):wpSs G false stE l H K XX:=by
  refine ss_keyW (w_tup (by mem_news) (Nat.le_of_ble_eq_true rfl) fun a ha=>w_ev (ev_loc g.i) (w_ev (ev_add (ev_loc g.m) ev_int) ?_))
  have k1:=kp_new (M:=[]) ha (.tup [.str (Str.ofString "branch") 0, .ref rl])
  have hv:RCt D (H.upd a (.tup [.str (Str.ofString "branch") 0, .ref rl])) (.ref a) (.br rows):=⟨a,rl,xs,rfl,Hp.upd_same _ _ _,k1.list b.o,all2_imp (fun _ _ z=>z.kp k1) b.r,b.d⟩
  generalize H.upd a (.tup [.str (Str.ofString "branch") 0, .ref rl]) = H1 at k1 hv ⊢
  have m1:=b.m.kp0 k1
  have p1:=b.p.kp0 k1
  obtain ⟨ivs,hi,hr⟩:=m1.ex
  refine setkey_at hi (by rw [all2_len hr];exact b.zb) ?_
  have m2:=m1.putB hi hr hv (mk + 1)
  have k2:=m1.ka (.idict (stored ivs (mk + 1) (.ref a)))
  have p2:=p1.out ap k2
  generalize H1.upd ad (.idict (stored ivs (mk + 1) (.ref a))) = H2 at m2 k2 p2 ⊢
  refine ss_key ev_int (ev_loc g.c) (ev_add (ev_loc g.m) ev_int) m2.c (by rw [ints_len];exact b.y) ?_
  rw [ints_put]
  have m3:=m2.cnt (put cs1 (mk + 1) 0)
  have k3:=m2.kc (.idict (vints (put cs1 (mk + 1) 0)))
  have p3:=p2.out ap k3
  generalize H2.upd cd (.idict (vints (put cs1 (mk + 1) 0))) = H3 at m3 k3 p3 ⊢
  have gm:=g.m
  exact ss_retW (w_call (by mem_news) (by nest_cls) (by mem_news) (C rfl (q H3 p3 m3 (((k1.mono fun _ z=>absurd z List.not_mem_nil).trans k2).trans k3))))
end
end Mine.L8
end

section
open PySem PyProof.Rows
namespace Mine.L8
open Mine Mine.St
section
variable {A:Ad} {D E:List Addr} {G:Gx} {H H':Hp} {π:PA} {bs:List (Int×Ct)} {cs:List (Int×Int)} {mk:Int} {Q:QV} {X:XV} {l:Loc} {ad cd:Addr} {N:Nat} {K:QS} {XX:XS}
variable {bs2:List (Int×Ct)} {cs1 cs2 cs3:List (Int×Int)} {rl:Addr} {xs:List Value} {rows:List (Str×Int)}
theorem st_tail (L:LEnv G A FS) (C:C_count G A) (ap:Ap π ad cd) {cs':List (Int×Int)} (b:Br8 A π ad cd N mk D bs bs2 cs2 rl xs rows cs H) (hh:holdAll cs rows = some cs') (g:St8 π ad cd mk l) (gs:l "_law_seen" = some (.int (mk + 1) 0)) (gr:l "_law_rows" = some (.ref rl))
    (q:∀ H' l',PileR A D H' π bs2 cs2 (mk + 1)→Mir D H' ad cd (put bs (mk + 1) (.br rows)) (put cs' (mk + 1) 0)→Kp [ad,cd] H H'→K (.ret (.bool true)) l' H'):wpSs G false (.for_ "_law_pair" (.loc "_law_rows") stF :: stE) l H K XX:=by
  refine ss_forI (fun r l' H'=>∃ rs cs1,FoI A π ad cd N mk D bs bs2 cs2 rl xs rows cs' H l r rs cs1 l' H') (ev_loc gr) b.o rfl (fun r l' H' h=>by obtain ⟨_,_,I⟩:=h;exact I.b.o) (fun v r l' H' h K hK _=>?_) ⟨rows,cs,b,g,gs,gr,b.r,hh,Kp.refl _ _⟩ fun l' H' h=>?_
  · obtain ⟨rs,cs1,I⟩:=h
    exact st_for ap I fun rs' cs3 l2 H2 I2=>(hK l2 H2 ⟨rs',cs3,I2⟩).1
  · obtain ⟨rs,cs1,I⟩:=h
    have hr:=I.r;have hh:=I.h
    cases hr
    cases hh
    exact st_end L C ap I.b I.g I.s I.o fun H2 p2 m2 k2=>q H2 l' p2 m2 (I.k.trans k2)
theorem ne_of_some {a c:Addr} {o:AObj} (ha:H a = some o) (hc:H c = none):a≠c:=fun z=>by rw [z,hc] at ha;cases ha
theorem st_branch (F:Env G A) (L:LEnv G A FS) (C:C_count G A) (RB:C_rows_by G A) (BR:C_branch G A) (s:S8 A H π ad cd N bs cs mk) (hn:N + 1≤60) (g:St8 π ad cd mk l) {th:Addr} {c:Int} {t:Tok} (gt:l "_law_there" = some (.ref th)) (gc:l "_law_some" = some (.int c t)) (hth:H th = some (.list ((bs.map (·.1)).map fun n=>Value.int n 0))) (hk:bs.map (·.1)≠[])
    (q:Aft A π ad cd N mk H fun H'=>∀ l',K (.ret (.bool true)) l' H'):wpSs G false stB l H K XX:=by
  have lz:=s.w.lz s.n1
  refine ss_asgW (w_call (by mem_news) (by nest_cls) (by mem_news) (RB hth hk fun H1 rl xs rows k1 hrl hl hr ok hm=>?_))
  have s1:=s.kp0 k1
  have hxl:xs.length≤sizeLine:=by rw [all2_len hr];exact Nat.le_trans ok.1 (by decide)
  refine ss_asgW (w_blistL (ev_loc rfl) hl hxl fun c hc=>?_)
  have k2:=kp_new (M:=[]) hc (.list xs)
  have hc2:(H1.upd c (.list xs)) c = some (.list xs):=Hp.upd_same _ _ _
  have p2:=s1.p.grow k2 hc hc2
  have m2:=s1.m.grow k2 hc
  have hr2:=all2_imp (fun _ _ z=>RRow.kp k2 z) hr
  have hl2:=k2.list hl
  have hne:rl≠c:=ne_of_some hl hc
  have hc0:=k1.absent hc
  have k12:=k1.trans k2
  generalize H1.upd c (.list xs) = H2 at k2 hc2 p2 m2 hr2 hl2 k12 ⊢
  obtain ⟨cs',hh,hy⟩:=holdAll_some rows cs fun r hr=>by rw [← s.w.y];exact hm r hr
  obtain ⟨bvs,pa, -⟩:=id p2.ex
  have gp:=g.p
  refine ss_asgW (w_meth (ev_loc (by exact gp)) pa.i pa.n (by nest_cls) (by rfl) (by mem_news) (BR p2 hc2 hr2 (fun r hr=>get_of (hm r hr)) hh lz.1 lz.2 (Nat.le_trans ok.1 (by decide)) fun H3 h3 k3=>?_))
  have m3:=m2.kp k3 s.ap.a s.ap.c
  have hc3:=k3.list hc2
  have hl3:=k3.list hl2
  have hr3:=all2_imp (fun _ _ z=>RRow.kp k3 z) hr2
  have he:(!PyData.eqv (.list (rows.map rowD)) (.list (rows.map rowD))) = false:=by rw [show PyData.eqv (.list (rows.map rowD)) (.list (rows.map rowD)) = true from eqv_rows rows];rfl
  refine ss_iff0 (ev_ned (ev_loc (by rfl)) (ev_loc (by rfl)) (.list hc3 (rd_rows hr3)) (.list hl3 (rd_rows hr3)) (shaped_rows ok.2) (shaped_rows ok.2) he) ?_
  have k13:Kp (AM π ad cd) H H3:=(kpN k12).trans (kpI k3)
  have hth3:=k13.list hth
  obtain ⟨v,hv, -⟩:=at_lt (xs:=(bs.map (·.1)).map fun n=>Value.int n 0) (Int.le_refl 0) (by rw [List.length_map];exact Int.natCast_pos.2 (List.length_pos_iff.2 hk))
  refine ss_exprW (w_appendW (ev_loc (by rfl)) hc3 (w_tup (evl_cons ev_str (evl_cons (ev_at (ev_loc (by exact gt)) ev_int hth3 rfl hv) evl_nil)) (Nat.le_of_ble_eq_true rfl) fun d hd=>?_))
  have k4:=kp_new (M:=[]) hd (.tup [.str (Str.ofString "zzz") 0,v])
  have p4:=h3.kp0 k4
  have m4:=m3.kp0 k4
  have hc4:=k4.list hc3
  have hl4:=k4.list hl3
  have hr4:=all2_imp (fun _ _ z=>RRow.kp k4 z) hr3
  have k14:=k13.trans (kpN k4)
  generalize H3.upd d (.tup [.str (Str.ofString "zzz") 0,v]) = H4 at k4 p4 m4 hc4 hl4 hr4 k14 ⊢
  refine app_at hc4 hxl ?_
  have hD:c∈[c]:=List.mem_cons_self ..
  have p5:=p4.app hD (xs++[.ref d])
  have m5:=m4.app hD hc4 (.list (xs++[.ref d]))
  have hl5:(H4.upd c (.list (xs++[.ref d]))) rl = some (.list xs):=(Hp.upd_ne _ _ hne).trans hl4
  have hr5:=all2_imp (fun _ _ z=>RRow.app z hc4 (.list (xs++[.ref d]))) hr4
  have k15:=k14.fresh hc0 (.list (xs++[.ref d]))
  generalize H4.upd c (.list (xs++[.ref d])) = H5 at p5 m5 hl5 hr5 k15 ⊢
  refine st_tail (cs:=cs) (N:=N) L C s.ap ⟨p5,m5,hl5,hr5,fun z=>hne (List.mem_singleton.1 z),lz.2,lz.1⟩ hh ⟨g.p,g.i,g.c,g.m⟩ rfl rfl fun H6 l' p6 m6 k6=>?_
  exact q H6 _ _ _ ⟨p6.weak,m6.weak,(s.w.keysc hy).add ok,s.ap,hn⟩ (Int.le_add_one (Int.le_refl _)) (.inr (put_mem _ _ _)) (k15.trans (kpO k6)) l'
noncomputable def stH:List Sm:=[.asgIdx (.loc "_law_counts") (.loc "_law_box") (.bin .Add (.idx (.loc "_law_counts") (.loc "_law_box")) (.int 1)), .ret (.bop true [.cmp (.meth (.loc "_law_pile") "hold" [.loc "_law_box"]) .Is (.none), .call (.glob "_law_alike") [.meth (.loc "_law_pile") "content" [.loc "_law_box"], .idx (.loc "_law_inside") (.loc "_law_box")]])]
theorem okc_len {c:Ct} (h:OkC c):∀ rows,c = .br rows→rows.length≤sizeLine:=fun rows e=>by
  rw [e] at h
  exact Nat.le_trans h.1 (by decide)
theorem W8.up (w:W8 N bs cs mk):W8 (N + 1) bs cs mk:=w.mono (Nat.le_succ N)
theorem st_same (F:Env G A) (L:LEnv G A FS) (CC:C_content G A) (AL:C_alike G A) (p:PileR A [] H π bs cs mk) (m:Mir [] H ad cd bs cs1) {i:Int} {c:Ct} (hi:get bs i = some c) (ok:OkC c) (g1:l "_law_pile" = some (.ref π.x)) (g2:l "_law_inside" = some (.ref ad)) (g3:l "_law_box" = some (.int i 0)) (q:∀ H',Kp [] H H'→Q (.bool true) H') :
    wpE G false (.call (.glob "_law_alike") [.meth (.loc "_law_pile") "content" [.loc "_law_box"], .idx (.loc "_law_inside") (.loc "_law_box")]) l H Q X:=by
  obtain ⟨bvs,pa, -⟩:=id p.ex
  refine w_callW (by mem_news) (by nest_cls) (wl_cons (w_meth (by mem_news) pa.i pa.n (by nest_cls) (by rfl) (by mem_news) (CC p hi (okc_len ok) fun v H1 hv k1 _=>?_)))
  obtain ⟨ivs,w,e1,e2,e3⟩:=(m.kp0 k1).box hi
  exact wl_cons (w_ev (ev_key (ev_loc g2) (ev_loc g3) e1 e2) (wl_nil (AL hv e3 ok fun H2 k2=>q H2 (k1.trans k2))))
theorem st_hold (F:Env G A) (L:LEnv G A FS) (CC:C_content G A) (AL:C_alike G A) (HO:C_hold G A) (s:S8 A H π ad cd N bs cs mk) (hn:N + 1≤60) (g:St8 π ad cd mk l) {i:Int} {c:Ct} (hi:get bs i = some c) (gb:l "_law_box" = some (.int i 0))
    (q:Aft A π ad cd N mk H fun H'=>∀ l',K (.ret (.bool true)) l' H'):wpSs G false stH l H K XX:=by
  have lz:=s.w.lz s.n1
  obtain ⟨k,hk⟩:=get_other s.w.y hi
  have g1:=g.p
  refine ss_key (ev_add (ev_key (ev_loc g.c) (ev_loc gb) s.m.c (ints_some hk)) ev_int) (ev_loc g.c) (ev_loc gb) s.m.c (by rw [ints_len];exact lz.2) ?_
  rw [ints_put]
  have m1:=s.m.cnt (put cs i (k + 1))
  have k1:=s.m.kc (.idict (vints (put cs i (k + 1))))
  have p1:=s.p.out s.ap k1
  generalize H.upd cd (.idict (vints (put cs i (k + 1)))) = H1 at m1 k1 p1 ⊢
  obtain ⟨bvs,pa, -⟩:=id p1.ex
  refine ss_retW (w_bopW (wb_cons (w_cmpW (w_meth (by mem_news) pa.i pa.n (by nest_cls) (by rfl) (by mem_news) (HO p1 hi hk lz.2 fun H2 h2 k2=>w_ev ev_none (cmp_is rfl (tv_t (wb_one ?_))))))))
  have m2:=m1.kp k2 s.ap.a s.ap.c
  refine st_same F L CC AL h2 m2 hi (s.w.okc hi) g.p g.i gb fun H3 k3=>?_
  exact q H3 _ _ _ ⟨h2.kp0 k3,m2.kp0 k3,(s.w.keysc (keys_put _ hk)).up,s.ap,hn⟩ (Int.le_refl _) (.inl rfl) (((kpO k1).trans (kpI k2)).trans (kpN k3)) l
noncomputable def stG:List Sm:=[.ret (.call (.glob "_law_count") [.meth (.loc "_law_pile") "let_go" [.loc "_law_box"], .call (.glob "_law_gone") [.loc "_law_inside", .loc "_law_counts", .loc "_law_box"]])]
theorem st_go (F:Env G A) (L:LEnv G A FS) (C:C_count G A) (LG:C_let_go G A) (GO:C_gone G A) (s:S8 A H π ad cd N bs cs mk) (hn:N + 1≤60) (g:St8 π ad cd mk l) {i:Int} {c:Ct} (hi:get bs i = some c) (gb:l "_law_box" = some (.int i 0))
    (q:Aft A π ad cd N mk H fun H'=>∀ l',K (.ret (.bool true)) l' H'):wpSs G false stG l H K XX:=by
  obtain ⟨bs',cs',g',e,w'⟩:=s.w.go s.n1 i
  obtain ⟨bvs,pa, -⟩:=id s.p.ex
  have g1:=g.p;have g2:=g.i;have g3:=g.c
  refine ss_retW (w_callW (by mem_news) (by nest_cls) (wl_cons (w_meth (by mem_news) pa.i pa.n (by nest_cls) (by rfl) (by mem_news) (LG s.p hi e fun H1 h1 k1=>wl_cons (w_call (by mem_news) (by nest_cls) (by mem_news) (GO (s.m.kp k1 s.ap.a s.ap.c) s.w.y e fun H2 m2 k2=>wl_nil (C rfl ?_)))))))
  exact q H2 _ _ _ ⟨h1.out s.ap k2,m2,w'.up,s.ap,hn⟩ (Int.le_refl _) (.inl rfl) ((kpI k1).trans (kpO k2)) l
end
end Mine.L8
end

section
open PySem PyProof.Rows
namespace Mine.L8
open Mine Mine.St
section
variable {A:Ad} {D E:List Addr} {G:Gx} {H H':Hp} {π:PA} {bs:List (Int×Ct)} {cs:List (Int×Int)} {mk:Int} {Q:QV} {X:XV} {l:Loc} {ad cd:Addr} {N:Nat} {K:QS} {XX:XS}
theorem rsize_12 (n:Nat):Builtin.Range.rangeSize 1 ((n:Int) + 2) 1 = ((n + 1:Nat):Int):=by
  unfold Builtin.Range.rangeSize
  have h:(1:Int) < (n:Int) + 2:=Int.lt_of_lt_of_le (by decide) (Int.add_le_add_right (Int.natCast_nonneg n) 2)
  rw [if_pos (by decide),if_pos h,Int.ediv_one]
  have:(n:Int) + 2 - 1 - 1 = n:=by rw [Int.sub_sub];exact Int.add_sub_cancel _ _
  rw [this];rfl
noncomputable def oneTo (n:Nat):List Value:=(List.range (n + 1)).map fun (k:Nat)=>Value.int ((k:Int) + 1) 0
theorem rangeL_12 (n:Nat):rangeL 1 ((n:Int) + 2) 1 = oneTo n:=by
  unfold rangeL oneTo
  rw [rsize_12]
  refine List.map_congr_left fun k _=>?_
  congr 1
  rw [Int.mul_one];exact Int.add_comm _ _
theorem small_12 {n:Nat} (h:n≤1000):Builtin.Range.small 1 ((n:Int) + 2) 1 = true:=by
  unfold Builtin.Range.small
  rw [rsize_12]
  have a:((n + 1:Nat):Int) < 9223372036854775808:=Int.lt_of_le_of_lt (Int.ofNat_le.2 (Nat.succ_le_succ h)) (by decide)
  have b:(n:Int) + 2 < 9223372036854775808:=Int.lt_of_le_of_lt (Int.add_le_add_right (Int.ofNat_le.2 h) 2) (by decide)
  have c:-9223372036854775808≤(n:Int) + 2:=Int.le_trans (by decide) (Int.add_le_add_right (Int.natCast_nonneg n) 2)
  simp [Builtin.Range.rangeFitsLong]
  exact ⟨⟨⟨c,b⟩,Int.le_trans (by decide) (Int.add_le_add_right (Int.natCast_nonneg n) 1),a⟩, .inr ⟨c,b⟩⟩
theorem oneTo_len (n:Nat):(oneTo n).length = n + 1:=by unfold oneTo;rw [List.length_map,List.length_range]
theorem w_comp12 {elt e:Ex} {x:Str} {ifs:List Ex} {n:Nat} {t:Tok} (p:Value→Bool) (he:Ev G false e l H (.int ((n:Int) + 2) t)) (hz:n≤1000)
    (hp:∀ v∈oneTo n,∀ H',Kp [] H H'→Ev G false (.bop true ifs) (ca l x v) H' (.bool (p v))) (hf:∀ v∈oneTo n,∀ H',Ev G false elt (ca l x v) H' v)
    (q:∀ H' c,Kp [] H H'→H' c = none→Q (.ref c) (H'.upd c (.list ((oneTo n).filter p)))):wpE G false (.comp elt x (.bf .range [.int 1,e]) ifs) l H Q X:=by
  have b1:(n:Int) + 2 < 2 ^ 60:=Int.lt_of_le_of_lt (Int.add_le_add_right (Int.ofNat_le.2 hz) 2) (by decide)
  have b2:-(2 ^ 60) < (n:Int) + 2:=Int.lt_of_lt_of_le (by decide) (Int.add_le_add_right (Int.natCast_nonneg n) 2)
  refine (evl_cons ev_int (evl_cons he evl_nil)).run (fun vs H1=>bfH false .range vs H1∧bfV .range vs H1 fun v H1=>iterH false v H1 fun guard items=>items.length≤sizeLine ∧
      compG guard (fun v H2 k=>wpB G false true ifs ((l.del ".0").upd x v) H2 (fun c H3=>truthV c fun r =>
        if r then wpE G false elt ((l.del ".0").upd x v) H3 (fun u H4=>k (some u) H4) (fun _ _=>False) else k none H3) (fun _ _=>False)) items [] H1
        fun us H'=>newV (.list us) H' Q) X ⟨.inr (.inl rfl),b1,b2,by decide,by decide,fun d hd=>.inl ⟨rfl, ?_⟩⟩
  have k:=kp_new (M:=[]) hd (.range 1 ((n:Int) + 2) 1)
  have hdd:(H.upd d (.range 1 ((n:Int) + 2) 1)) d = some (.range 1 ((n:Int) + 2) 1):=Hp.upd_same _ _ _
  generalize H.upd d (.range 1 ((n:Int) + 2) 1) = H1 at k hdd ⊢
  conv=>whnf
  rw [hdd]
  refine ⟨small_12 hz, ?_⟩
  rw [rangeL_12]
  refine ⟨by rw [oneTo_len];exact Nat.le_trans (Nat.succ_le_succ hz) (by decide),comp_run (p:=p) (f:=id) trivial _ [] (fun v hv k' hk'=>?_) (by rw [List.nil_append,List.map_id];exact fun c hc=>q H1 c k hc)⟩
  refine (hp v hv H1 k).run _ _ ?_
  show if p v = true then _ else _
  cases e:p v with
  | true=>rw [e] at hk';exact (hf v hv H1).run _ _ hk'
  | false=>rw [e] at hk';exact hk'
noncomputable def stM:List Sm:=[.asg "_law_missing" (.comp (.loc "_law_box") "_law_box" (.bf .range [.int 1, .bin .Add (.loc "_law_made") (.int 2)]) [.cmp (.loc "_law_box") .NotIn (.loc "_law_inside")]), .ret (.call (.glob "_law_refused") [.loc "_law_pile", .idx (.loc "_law_missing") (.bin .Mod (.loc "_law_some") (.bf .len [.loc "_law_missing"])), .loc "_law_box", .bin .FloorDiv (.loc "_law_some") (.int 64)])]
noncomputable def noV (ivs:List (Int×Value)):Value→Bool
  | .int i _=>!(valueAt ivs i).isSome
  | _=>false
theorem noV_get {ivs:List (Int×Value)} (r:All2 (fun p q=>p.1 = q.1∧RCt D H p.2 q.2) ivs bs) (i:Int) (t:Tok):noV ivs (.int i t) = true ↔ get bs i = none:=by
  show (!(valueAt ivs i).isSome) = true ↔ _
  rcases all2_get r i with ⟨v,c,h1,h2,_⟩ | ⟨h1,h2⟩
  · rw [h1,h2];exact ⟨fun z=>(nomatch z),fun z=>(nomatch z)⟩
  · rw [h1,h2];exact ⟨fun _=>rfl,fun _=>rfl⟩
theorem st_miss (F:Env G A) (L:LEnv G A FS) (RF:C_refused G A) (s:S8 A H π ad cd N bs cs mk) (hn:N + 1≤60) (g:St8 π ad cd mk l) {i c:Int} {ct:Ct} {t:Tok} (hi:get bs i = some ct) (gb:l "_law_box" = some (.int i 0)) (gc:l "_law_some" = some (.int c t))
    (q:Aft A π ad cd N mk H fun H'=>∀ l',K (.ret (.bool true)) l' H'):wpSs G false stM l H K XX:=by
  obtain ⟨n,rfl⟩:=Int.eq_ofNat_of_zero_le s.w.m0
  obtain ⟨ivs,hiv,hr⟩:=s.m.ex
  have hz:n≤1000:=Nat.le_trans (Int.ofNat_le.1 s.w.m) s.n1
  have gi:=g.i
  have gm:=g.m
  have gp:=g.p
  refine ss_asgW (w_comp12 (n:=n) (noV ivs) (ev_add (ev_loc gm) ev_int) hz (fun v hv H' k=>?_) (fun v hv H'=>ev_loc (by rfl)) fun H1 c1 k1 hc1=>?_)
  · obtain ⟨k',_,rfl⟩:=List.mem_map.1 hv
    exact ev_one (ev_notin (ev_loc (by rfl)) (ev_loc (by exact gi)) (k _ _ hiv (.inr List.not_mem_nil)) rfl)
  have k2:=kp_new (M:=[]) hc1 (.list ((oneTo n).filter (noV ivs)))
  have hc2:(H1.upd c1 (.list ((oneTo n).filter (noV ivs)))) c1 = some (.list ((oneTo n).filter (noV ivs))):=Hp.upd_same _ _ _
  have k:=k1.trans k2
  generalize H1.upd c1 (.list ((oneTo n).filter (noV ivs))) = H2 at k hc2 ⊢
  have hpos:0 < (((oneTo n).filter (noV ivs)).length:Int):=by
    refine Int.natCast_pos.2 (List.length_pos_of_mem (a:=Value.int ((n:Int) + 1) 0) (List.mem_filter.2 ⟨List.mem_map.2 ⟨n,List.mem_range.2 (Nat.lt_succ_self n),rfl⟩, ?_⟩))
    exact (noV_get hr _ _).2 (get_none s.w.new)
  have hm:=mod_lt c hpos
  obtain ⟨v,hv,hvm⟩:=at_lt (xs:=(oneTo n).filter (noV ivs)) hm.1 hm.2
  obtain ⟨hv1,hv2⟩:=List.mem_filter.1 hvm
  obtain ⟨j,_,rfl⟩:=List.mem_map.1 hv1
  have hj:=(noV_get hr _ _).1 hv2
  have s2:=s.kp0 k
  refine ss_retW (w_call (by mem_news) (by nest_cls) (evl_cons (ev_loc (by exact gp)) (evl_cons (ev_at (ev_loc (by rfl)) (ev_mod (ev_loc (by exact gc)) (ev_len (ev_loc (by rfl)) hc2 rfl) hpos) hc2 rfl hv) (evl_cons (ev_loc (by exact gb)) (evl_cons (ev_div (ev_loc (by exact gc)) ev_int (by decide) (by decide)) evl_nil)))) (RF s2.p hj hi fun H3 h3 k3=>?_))
  exact q H3 _ _ _ ⟨h3,s2.m.kp0 k3,s.w.up,s.ap,hn⟩ (Int.le_refl _) (.inl rfl) (kpN (k.trans k3)) _
noncomputable def C_step (G:Gx) (A:Ad):Prop:=∀ ⦃H:Hp⦄ ⦃π:PA⦄ ⦃ad cd:Addr⦄ ⦃N:Nat⦄ ⦃bs:List (Int×Ct)⦄ ⦃cs:List (Int×Int)⦄ ⦃mk:Int⦄,S8 A H π ad cd N bs cs mk→N + 1≤60→∀ ⦃cell:Int⦄ ⦃t:Tok⦄ ⦃Q:QV⦄ ⦃X:XV⦄,Aft A π ad cd N mk H (fun H'=>Q (.bool true) H')→G.fn (A "_law_step" "") false [.ref π.x, .ref ad, .ref cd, .int mk 0, .int cell t] H Q X
noncomputable def stN:Sm:=.asg "_law_number" (.bin .Add (.bin .Sub (.bin .Mod (.loc "_law_some") (.bin .Sub (.bin .Mult (.int 2) (.bin .Pow (.int 10) (.int 30))) (.int 1))) (.bin .Pow (.int 10) (.int 30))) (.int 1))
structure StC (G:Gx) (A:Ad):Prop where
  count:C_count G A
  leaf:C_leaf G A
  rows:C_rows_by G A
  branch:C_branch G A
  content:C_content G A
  alike:C_alike G A
  hold:C_hold G A
  letgo:C_let_go G A
  gone:C_gone G A
  refused:C_refused G A
theorem st_num (F:Env G A) (L:LEnv G A FS) (Z:StC G A) (s:S8 A H π ad cd N bs cs mk) (hn:N + 1≤60) (g:St8 π ad cd mk l) {c:Int} {t:Tok} (gc:l "_law_some" = some (.int c t)) (q:Aft A π ad cd N mk H fun H'=>∀ l',K (.ret (.bool true)) l' H'):wpSs G false (stN :: stL) l H K XX:=by
  refine ss_asg (ev_add (ev_sub (ev_mod (ev_loc gc) (ev_sub (ev_mul ev_int (ev_pow ev_int ev_int (by decide) (by decide) (by decide)) (.inl (by decide))) ev_int) (by decide)) (ev_pow ev_int ev_int (by decide) (by decide) (by decide))) ev_int) ?_
  exact st_leaf F L Z.count Z.leaf s hn ⟨g.p,g.i,g.c,g.m⟩ rfl q
theorem st_rest (F:Env G A) (L:LEnv G A FS) (Z:StC G A) (s:S8 A H π ad cd N bs cs mk) (hn:N + 1≤60) (g:St8 π ad cd mk l) {th:Addr} {c w:Int} {t u:Tok} (gt:l "_law_there" = some (.ref th)) (gw:l "_law_way" = some (.int w u)) (gc:l "_law_some" = some (.int c t)) (hth:H th = some (.list ((bs.map (·.1)).map fun n=>Value.int n 0))) (hk:bs.map (·.1)≠[])
    (q:Aft A π ad cd N mk H fun H'=>∀ l',K (.ret (.bool true)) l' H'):wpSs G false (b__law_step.drop 4) l H K XX:=by
  refine ss_if (ev_lt (ev_loc gw) ev_int rfl) (fun _=>st_branch F L Z.count Z.rows Z.branch s hn g gt gc hth hk q) fun _=>ss_sq ?_
  have hpos:0 < ((((bs.map (·.1)).map fun n=>Value.int n 0).length:Nat):Int):=by rw [List.length_map];exact Int.natCast_pos.2 (List.length_pos_iff.2 hk)
  have hm:=mod_lt c hpos
  obtain ⟨v,hv,hvm⟩:=at_lt (xs:=(bs.map (·.1)).map fun n=>Value.int n 0) hm.1 hm.2
  obtain ⟨i,hi,rfl⟩:=List.mem_map.1 hvm
  obtain ⟨ct,hct⟩:=get_of hi
  refine ss_asg (ev_at (ev_loc gt) (ev_mod (ev_loc gc) (ev_len (ev_loc gt) hth rfl) hpos) hth rfl hv) ?_
  have g':St8 π ad cd mk (l.upd "_law_box" (.int i 0)):=⟨g.p,g.i,g.c,g.m⟩
  refine ss_if (ev_eq (ev_loc (by exact gw)) ev_int rfl) (fun _=>st_hold F L Z.content Z.alike Z.hold s hn g' hct rfl q) fun _=>ss_sq ?_
  refine ss_if (ev_eq (ev_loc (by exact gw)) ev_int rfl) (fun _=>st_go F L Z.count Z.letgo Z.gone s hn g' hct rfl q) fun _=>ss_sq ?_
  exact st_miss F L Z.refused s hn g' hct rfl (by exact gc) q
theorem tv2 {b:Bool} {t f:Prop} (ht:b = true→t) (hf:b = false→f):truthV (.bool b) fun b=>truthV (.bool b) fun b=>if b = true then t else f:=by
  cases b
  · exact tv_f (hf rfl)
  · exact tv_t (ht rfl)
theorem step_ok (F:Env G A) (L:LEnv G A FS) (Z:StC G A) (s:S8 A H π ad cd N bs cs mk) (hn:N + 1≤60) {cell:Int} {t:Tok} (q:Aft A π ad cd N mk H fun H'=>Q (.bool true) H') :
    wpF G false ["_law_pile", "_law_inside", "_law_counts", "_law_made", "_law_cell"] b__law_step [.ref π.x, .ref ad, .ref cd, .int mk 0, .int cell t] H Q X:=by
  obtain ⟨ivs,hi,hr⟩:=s.m.ex
  have lz:=s.w.lz s.n1
  refine f_in rfl (ss_asgW (w_bfW (wl_cons (w_ev (v:=.ref ad) (by mem_news) (wl_nil ⟨.inr (.inl rfl),sorted_keys hi (by rw [all2_len hr];exact s.l64) (by rw [all2_keys hr];exact s.w.inc) fun th hth=>?_⟩)))))
  rw [all2_keys hr]
  have k1:=kp_new (M:=[]) hth (.list ((bs.map (·.1)).map fun n=>Value.int n 0))
  have h1:(H.upd th (.list ((bs.map (·.1)).map fun n=>Value.int n 0))) th = some (.list ((bs.map (·.1)).map fun n=>Value.int n 0)):=Hp.upd_same _ _ _
  generalize H.upd th (.list ((bs.map (·.1)).map fun n=>Value.int n 0)) = H1 at k1 h1 ⊢
  have s1:=s.kp0 k1
  refine ss_asg (ev_mod (ev_loc (by rfl)) ev_int (by decide)) (ss_asg (ev_div (ev_loc (by rfl)) ev_int (by decide) (by decide)) ?_)
  have q1:=q.kp (kpN k1)
  by_cases h0:cell % 6 = 0
  · refine ss_ift (ev_stop (ev_eq (ev_loc (by rfl)) ev_int (decide_eq_true h0))) ?_
    exact st_num F L Z s1 hn ⟨rfl,rfl,rfl,rfl⟩ rfl fun H' bs' cs' mk' z1 z2 z3 z4 l'=>q1 H' bs' cs' mk' z1 z2 z3 z4
  refine ss_ifW (w_bopW (wb_go (ev_eq (ev_loc (by rfl)) ev_int (decide_eq_false h0)) (wb_one (w_cmpW (w_ev (ev_loc (by rfl)) (w_list evl_nil (Nat.le_of_ble_eq_true rfl) fun e he=>?_))))))
  have k2:=kp_new (M:=[]) he (.list [])
  have h1:=k2.list h1
  have he2:(H1.upd e (.list [])) e = some (.list []):=Hp.upd_same _ _ _
  generalize H1.upd e (.list []) = H2 at k2 h1 he2 ⊢
  refine ⟨.list ((bs.map (·.1)).map PyData.int), .list [], .list h1 (rd_ints _), .list he2 .nil,shaped_ints _,rfl, ?_⟩
  rw [eqv_nil,List.isEmpty_map]
  have q2:=q1.kp (kpN k2)
  have s2:=s1.kp0 k2
  refine tv2 (fun _=>?_) fun hb=>?_
  · exact st_num F L Z s2 hn ⟨rfl,rfl,rfl,rfl⟩ rfl fun H' bs' cs' mk' z1 z2 z3 z4 l'=>q2 H' bs' cs' mk' z1 z2 z3 z4
  · refine ss_sq (st_rest F L Z s2 hn ⟨rfl,rfl,rfl,rfl⟩ rfl rfl rfl h1 (fun z=>?_) fun H' bs' cs' mk' z1 z2 z3 z4 l'=>q2 H' bs' cs' mk' z1 z2 z3 z4)
    rw [z] at hb;cases hb
end
end Mine.L8
end

section
open PySem PyProof.Rows
namespace Mine.L8
open Mine Mine.St
section
variable {α:Type} {xs:List (Int×α)} {k:Int} {a b:α}
theorem last_get (h:k ∉ xs.map (·.1)):get (xs++[(k,a)]) k = some a:=by rw [get_append,get_none h,get_cons,if_pos rfl];rfl
theorem last_put (h:k ∉ xs.map (·.1)):put (xs++[(k,b)]) k a = xs++[(k,a)]:=by
  unfold put
  rw [if_pos (by rw [List.any_append];simp),List.map_append]
  congr 1
  · have e:xs.map (fun p=>if p.1 = k then (p.1,a) else p) = xs.map id:=List.map_congr_left fun p hp=>if_neg fun (z:p.1 = k)=>h (z ▸ List.mem_map.2 ⟨p,hp,rfl⟩)
    rw [e,List.map_id]
  · rw [List.map_singleton,if_pos rfl]
theorem last_del (h:k ∉ xs.map (·.1)):del (xs++[(k,a)]) k = xs:=by
  unfold del
  rw [List.filter_append]
  have e1:xs.filter (fun p=>decide (p.1≠k)) = xs:=List.filter_eq_self.2 fun p hp=>decide_eq_true fun (z:p.1 = k)=>h (z ▸ List.mem_map.2 ⟨p,hp,rfl⟩)
  have e2:[(k,a)].filter (fun p=>decide (p.1≠k)) = []:=by rw [List.filter_cons,if_neg (by simp),List.filter_nil]
  rw [e1,e2,List.append_nil]
end
noncomputable def chR (n:Nat) (k:Int):List (Str×Int):=(List.range n).map fun i=>(chr1 (97 + i),k)
noncomputable def chB (n:Nat):Nat→List (Int×Ct)
  | 0=>[(1, .leaf 7)]
  | j + 1=>chB n j++[((j:Int) + 2, .br (chR n ((j:Int) + 1)))]
noncomputable def chC (n:Nat):Nat→Int→List (Int×Int)
  | 0,r=>[(1,r)]
  | j + 1,r=>chC n j n++[((j:Int) + 2,r)]
theorem chB_keys (n j:Nat):(chB n j).map (·.1) = (List.range (j + 1)).map fun (i:Nat)=>(i:Int) + 1:=by
  induction j with
  | zero=>rfl
  | succ j ih =>
    unfold chB
    rw [List.map_append,ih,List.range_succ (n:=j + 1),List.map_append]
    congr 1
theorem chC_keys (n j:Nat):∀ r:Int,(chC n j r).map (·.1) = (List.range (j + 1)).map fun (i:Nat)=>(i:Int) + 1:=by
  induction j with
  | zero=>exact fun r=>rfl
  | succ j ih =>
    intro r
    unfold chC
    rw [List.map_append,ih,List.range_succ (n:=j + 1),List.map_append]
    congr 1
theorem ch_new (j:Nat):((j:Int) + 2) ∉ (List.range (j + 1)).map fun (i:Nat)=>(i:Int) + 1:=fun h=>by
  obtain ⟨i,hi,e⟩:=List.mem_map.1 h
  have h1:=List.mem_range.1 hi
  have h3:i = j + 1:=by
    have e:(i:Int) + 1 = (j:Int) + 2:=e
    have e2:((i + 1:Nat):Int) = ((j + 2:Nat):Int):=e
    exact Nat.succ.inj (Int.ofNat.inj e2)
  exact Nat.lt_irrefl _ (h3 ▸ h1)
theorem lgo_last {B:List (Int×Ct)} {C:List (Int×Int)} {k:Int} {c:Ct} (hB:k ∉ B.map (·.1)) (hC:k ∉ C.map (·.1)) (zb:B.length≤1000) (zc:C.length≤1000) (zk:(kids c).length≤1000) {n:Nat} {g:Int}:∀ r:Nat,r≤1000 →
    lgo (n + (r + 1)) (List.replicate (r + 1) k) (B++[(k,c)]) (C++[(k,((r + 1:Nat):Int))]) g = lgo n (kids c) B C (g + 1):=by
  have p20:1000 + 1≤2 ^ 20:=by decide
  have z:∀ r:Nat,r≤1000→∀ x:Int,(List.replicate (r + 1) k).length≤2 ^ 20∧(B++[(k,c)]).length≤2 ^ 20∧(C++[(k,x)]).length≤2 ^ 20:=fun r hr x =>
    ⟨by rw [List.length_replicate];exact Nat.le_trans (Nat.succ_le_succ hr) p20,by rw [List.length_append];exact Nat.le_trans (Nat.succ_le_succ zb) p20,by rw [List.length_append];exact Nat.le_trans (Nat.succ_le_succ zc) p20⟩
  have lastR:∀ r:Nat,(List.replicate (r + 1) k).getLast? = some k:=fun r=>by rw [List.getLast?_replicate,if_neg (Nat.succ_ne_zero r)]
  have dropR:∀ r:Nat,(List.replicate (r + 1) k).dropLast = List.replicate r k:=fun r=>by rw [List.dropLast_replicate];rfl
  intro r
  induction r with
  | zero =>
    intro _
    rw [show n + (0 + 1) = n + 1 from rfl,lgo_eq (z 0 (Nat.zero_le _) _) (lastR 0),dropR,lgoB_some (last_get hB) (last_get hC),if_pos (by decide),if_pos (Nat.le_trans zk (by decide)),last_put hC,last_del hB,last_del hC]
    rfl
  | succ r ih =>
    intro hr
    have hm:max 0 (((r + 1 + 1:Nat):Int) - 1) = ((r + 1:Nat):Int):=by
      have:((r + 1 + 1:Nat):Int) - 1 = ((r + 1:Nat):Int):=by rw [Int.natCast_add (r + 1) 1];exact Int.add_sub_cancel _ _
      rw [this];exact Int.max_eq_right (Int.natCast_nonneg _)
    rw [show n + (r + 1 + 1) = (n + (r + 1)) + 1 from rfl,lgo_eq (z (r + 1) hr _) (lastR (r + 1)),dropR,lgoB_some (last_get hB) (last_get hC),hm,if_neg (fun z:((r + 1:Nat):Int) = 0=>absurd (Int.ofNat.inj z) (Nat.succ_ne_zero r)),last_put hC]
    exact ih (Nat.le_of_succ_le hr)
theorem kids_chR (n:Nat) (k:Int):kids (.br (chR n k)) = List.replicate n k:=by
  show (chR n k).map (·.2) = _
  unfold chR
  rw [List.map_map]
  exact List.eq_replicate_iff.2 ⟨by rw [List.length_map,List.length_range],fun x hx=>by obtain ⟨i,_,rfl⟩:=List.mem_map.1 hx;rfl⟩
theorem chB_len (n j:Nat):(chB n j).length = j + 1:=by
  have:=congrArg List.length (chB_keys n j)
  rw [List.length_map,List.length_map,List.length_range] at this
  exact this
theorem chC_len (n j:Nat) (r:Int):(chC n j r).length = j + 1:=by
  have:=congrArg List.length (chC_keys n j r)
  rw [List.length_map,List.length_map,List.length_range] at this
  exact this
theorem lgo_end (n:Nat) (g:Int):lgo (n + 1) [] [] [] g = some ([],[],g):=by
  show (if _ then _ else _) = _
  rw [if_pos ⟨Nat.zero_le _,Nat.zero_le _,Nat.zero_le _⟩];rfl
theorem lgo_chain {m:Nat} (hm:m + 1≤1000) (j:Nat):j≤900→∀ g:Int,∃ n,lgo n (List.replicate (m + 1) ((j:Int) + 1)) (chB (m + 1) j) (chC (m + 1) j ((m + 1:Nat):Int)) g = some ([],[],g + (j + 1)):=by
  induction j with
  | zero =>
    intro _ g
    refine ⟨1 + (m + 1), ?_⟩
    have:=lgo_last (B:=[]) (C:=[]) (k:=1) (c:=.leaf 7) List.not_mem_nil List.not_mem_nil (Nat.zero_le _) (Nat.zero_le _) (Nat.zero_le _) (n:=1) (g:=g) m (Nat.le_of_succ_le hm)
    rw [List.nil_append,List.nil_append] at this
    exact this.trans (lgo_end 0 (g + 1))
  | succ j ih =>
    intro hj g
    obtain ⟨n,e⟩:=ih (Nat.le_of_succ_le hj) (g + 1)
    refine ⟨n + (m + 1), ?_⟩
    have hlen:(kids (.br (chR (m + 1) ((j:Int) + 1)))).length≤1000:=by rw [kids_chR,List.length_replicate];exact hm
    have:=lgo_last (B:=chB (m + 1) j) (C:=chC (m + 1) j ((m + 1:Nat):Int)) (k:=(j:Int) + 2) (c:=.br (chR (m + 1) ((j:Int) + 1))) (by rw [chB_keys];exact ch_new j) (by rw [chC_keys];exact ch_new j) (by rw [chB_len];exact Nat.le_trans hj (by decide)) (by rw [chC_len];exact Nat.le_trans hj (by decide)) hlen (n:=n) (g:=g) m (Nat.le_of_succ_le hm)
    rw [kids_chR,e] at this
    have e2:(((j + 1:Nat):Int) + 1) = (j:Int) + 2:=rfl
    rw [e2]
    refine this.trans ?_
    congr 3
    rw [Int.add_assoc,Int.add_comm 1,Int.add_assoc (j:Int) 1 1];rfl
theorem lgo_top {m j:Nat} (hm:m + 1≤1000) (hj:j≤900):∃ n,lgo n [(j:Int) + 1] (chB (m + 1) j) (chC (m + 1) j 0) 0 = some ([],[],(j:Int) + 1):=by
  cases j with
  | zero=>exact ⟨2,show lgo 2 [1] [(1, .leaf 7)] [(1,0)] 0 = some ([],[],1) by rfl⟩
  | succ j =>
    obtain ⟨n,e⟩:=lgo_chain hm j (Nat.le_of_succ_le hj) 1
    refine ⟨n + 1, ?_⟩
    have hB:((j:Int) + 2) ∉ (chB (m + 1) j).map (·.1):=by rw [chB_keys];exact ch_new j
    have hC:((j:Int) + 2) ∉ (chC (m + 1) j ((m + 1:Nat):Int)).map (·.1):=by rw [chC_keys];exact ch_new j
    have e2:(((j + 1:Nat):Int) + 1) = (j:Int) + 2:=rfl
    rw [e2]
    have hz:[(j:Int) + 2].length≤2 ^ 20∧(chB (m + 1) (j + 1)).length≤2 ^ 20∧(chC (m + 1) (j + 1) 0).length≤2 ^ 20 :=
      ⟨Nat.le_of_ble_eq_true rfl,by rw [chB_len];exact Nat.le_trans (Nat.succ_le_succ hj) (by decide),by rw [chC_len];exact Nat.le_trans (Nat.succ_le_succ hj) (by decide)⟩
    rw [lgo_eq (one:=(j:Int) + 2) hz rfl]
    unfold chB chC
    rw [lgoB_some (last_get hB) (last_get hC),if_pos (by decide),if_pos (by rw [kids_chR,List.length_replicate];exact Nat.le_trans hm (by decide)),last_put hC,last_del hB,last_del hC,kids_chR]
    refine e.trans ?_
    congr 3
    rw [Int.add_comm,Int.add_assoc];rfl
theorem holdAll_last {C:List (Int×Int)} {k:Int} (hC:k ∉ C.map (·.1)) (rows:List (Str×Int)):(∀ r∈rows,r.2 = k)→∀ x:Int,holdAll (C++[(k,x)]) rows = some (C++[(k,x + rows.length)]):=by
  induction rows with
  | nil=>intro _ x;rw [List.length_nil,Int.natCast_zero,Int.add_zero];rfl
  | cons r rows ih =>
    intro h x
    have e:=h r (List.mem_cons_self ..)
    show (match get (C++[(k,x)]) r.2 with | some k'=>holdAll (put (C++[(k,x)]) r.2 (k' + 1)) rows | none=>none) = _
    rw [e,last_get hC]
    dsimp only
    rw [last_put hC,ih (fun y hy=>h y (List.mem_cons_of_mem _ hy))]
    congr 4
    rw [List.length_cons,Int.natCast_add,Int.add_assoc,Int.add_comm 1];rfl
theorem chR_len (n:Nat) (k:Int):(chR n k).length = n:=by unfold chR;rw [List.length_map,List.length_range]
theorem chR_mem {n:Nat} {k:Int}:∀ r∈chR n k,r.2 = k:=fun r hr=>by
  obtain ⟨i,_,rfl⟩:=List.mem_map.1 hr
  rfl
theorem ch_hold (n j:Nat):holdAll (chC n j 0) (chR n ((j:Int) + 1)) = some (chC n j n):=by
  cases j with
  | zero =>
    have:=holdAll_last (C:=[]) (k:=1) List.not_mem_nil (chR n 1) chR_mem 0
    rw [chR_len,Int.zero_add] at this
    exact this
  | succ j =>
    have e2:(((j + 1:Nat):Int) + 1) = (j:Int) + 2:=rfl
    have:=holdAll_last (C:=chC n j n) (k:=(j:Int) + 2) (by rw [chC_keys];exact ch_new j) (chR n ((j:Int) + 2)) chR_mem 0
    rw [chR_len,Int.zero_add] at this
    rw [e2]
    exact this
theorem chr_ok:∀ i < 41,PyData.strOk (chr1 (97 + i)) = true:=by decide +kernel
theorem chR_ok {n:Nat} (hn:n≤3) (k:Int):OkR (chR n k):=⟨by rw [chR_len];exact Nat.le_trans hn (by decide),fun r hr=>by
  obtain ⟨i,hi,rfl⟩:=List.mem_map.1 hr
  exact chr_ok i (Nat.lt_of_lt_of_le (List.mem_range.1 hi) (Nat.le_trans hn (by decide)))⟩
theorem ch_next {n j:Nat} (c:Ct):put (chB n j) ((j:Int) + 1 + 1) c = chB n j++[((j:Int) + 2,c)]∧put (chC n j n) ((j:Int) + 1 + 1) 0 = chC n (j + 1) 0:=by
  have e2:(j:Int) + 1 + 1 = (j:Int) + 2:=Int.add_assoc _ _ _
  rw [e2]
  exact ⟨put_new _ (by rw [chB_keys];exact ch_new j),put_new _ (by rw [chC_keys];exact ch_new j)⟩
theorem ch_w {n:Nat} (hn:n≤3) (j:Nat):W8 (j + 1) (chB n j) (chC n j 0) ((j:Int) + 1):=by
  induction j with
  | zero=>exact W8.zero.add (c:=.leaf 7) trivial
  | succ j ih =>
    have:=(ih.keysc (cs':=chC n j n) (by rw [chC_keys,chC_keys])).add (c:=.br (chR n ((j:Int) + 1))) (chR_ok hn _)
    rw [(ch_next _).1,(ch_next (.leaf 0)).2] at this
    exact this
theorem ch_first (n:Nat) (j:Nat):get (chC n (j + 1) 0) 1 = some (n:Int):=by
  have h:∀ j,get (chC n j n) 1 = some (n:Int):=fun j=>by
    induction j with
    | zero=>rfl
    | succ j ih=>unfold chC;rw [get_append,ih];rfl
  unfold chC
  rw [get_append,h];rfl
end Mine.L8
end

section
open PySem PyProof.Rows
namespace Mine.L8
open Mine Mine.St
section
variable {A:Ad} {G:Gx} {H H':Hp} {π:PA} {Q:QV} {X:XV} {l:Loc} {K:QS} {XX:XS} {n m j:Nat}
theorem kp_own {M:List Addr} {H0:Hp} (k:Kp [] H0 H) (f:∀ a∈M,H0 a = none) (k2:Kp M H H'):Kp [] H0 H':=fun a o e _=>k2 a o (k a o e (.inr List.not_mem_nil)) (.inr fun z=>by rw [f a z] at e;cases e)
structure ChI (A:Ad) (H0:Hp) (π:PA) (n m j:Nat) (l:Loc) (H:Hp):Prop where
  p:l "_law_pile" = some (.ref π.x)
  mm:l "_law_many" = some (.int (m:Int) 0)
  nn:l "_law_named" = some (.int (n:Int) 0)
  b:l "_law_box" = some (.int ((j:Int) + 1) 0)
  h:PileR A [] H π (chB n j) (chC n j 0) ((j:Int) + 1)
  k:Kp [] H0 H
  f:∀ a∈π.M,H0 a = none
structure CmI (H0:Hp) (b:Int) (i:Nat) (acc:List Value) (H:Hp):Prop where
  k:Kp [] H0 H
  r:All2 (RRow H) acc (chR i b)
theorem abcm_at:∀ c < 13,at? (Str.ofString "abcdefghijklm").cps.toList ((c:Nat):Int) = some (97 + c):=by decide +kernel
theorem abcm_len:(Str.ofString "abcdefghijklm").length≤sizeLine:=by decide +kernel
theorem chR_succ (i:Nat) (b:Int):chR (i + 1) b = chR i b++[(chr1 (97 + i),b)]:=by unfold chR;rw [List.range_succ,List.map_append];rfl
noncomputable def chB1:List Sm:=[.asg "_law_box" (.meth (.loc "_law_pile") "branch" [.comp (.tup [.idx (.str "abcdefghijklm") (.loc "_law_at"), .loc "_law_box"]) "_law_at" (.bf .range [.loc "_law_named"]) []])]
theorem ch_turn (F:Env G A) (BR:C_branch G A) (hn:n≤3) (hj:j≤60) {H0:Hp} (I:ChI A H0 π n m j l H) (q:∀ l' H',ChI A H0 π n m (j + 1) l' H'→K .next l' H') (v:Value):wpSs G false chB1 (l.upd "_law_k" v) H K XX:=by
  obtain ⟨bvs,pa, -⟩:=id I.h.ex
  have gp:=I.p
  have gn:=I.nn
  have gb:=I.b
  refine ss_asgW (w_methW (ev_loc (by exact gp)) pa.i pa.n (by nest_cls) (by rfl) (wl_cons (w_compRI (k:=n) (CmI H ((j:Int) + 1)) (ev_loc (by exact gn)) (Nat.le_trans hn (by decide)) (fun i hi acc H' J K hK=>?_) (fun d hd=>⟨kp_new hd _, .nil⟩) fun acc H' J c hc=>wl_nil ?_)))
  · refine w_tup (evl_cons (ev_chr ev_str (ev_loc (by rfl)) (abcm_at i (Nat.lt_of_lt_of_le hi (Nat.le_trans hn (by decide)))) abcm_len) (evl_cons (ev_loc (by exact gb)) evl_nil)) (Nat.le_of_ble_eq_true rfl) fun c hc=>hK _ _ ⟨J.k.trans (kp_new hc _), ?_⟩
    rw [chR_succ]
    exact all2_append (all2_imp (fun _ _ z=>z.kp (kp_new (M:=[]) hc _)) J.r) (.cons ⟨c,rfl,Hp.upd_same _ _ _⟩ .nil)
  · have k1:=kp_new (M:=[]) hc (.list acc)
    have k:=J.k.trans k1
    have w:=ch_w hn j
    have lz:=w.lz (Nat.le_trans (Nat.succ_le_succ hj) (by decide))
    refine BR (I.h.kp0 k) (Hp.upd_same _ _ _) (all2_imp (fun _ _ z=>z.kp k1) J.r) (fun r hr=>get_of ?_) (ch_hold n j) lz.1 lz.2 (by rw [chR_len];exact Nat.le_trans hn (by decide)) fun H2 h2 k2=>?_
    · rw [chR_mem r hr,chB_keys]
      exact List.mem_map.2 ⟨j,List.mem_range.2 (Nat.lt_succ_self j),rfl⟩
    · rw [(ch_next _).1,(ch_next (.leaf 0)).2] at h2
      exact ss_nl (q _ _ ⟨I.p,I.mm,I.nn,rfl,h2,kp_own (I.k.trans k) I.f k2,I.f⟩)
noncomputable def upV:Value→Value
  | .int i _=>.int (i + 1) 0
  | v=>v
theorem upV_list (n m:Nat):((((List.range (m + 1)).map fun (i:Nat)=>Value.int (i:Int) 0).filter fun _=>true).map upV) = ((chB n m).map (·.1)).map fun i=>Value.int i 0:=by
  rw [List.filter_eq_self.2 (fun _ _=>rfl),List.map_map,chB_keys,List.map_map]
  exact List.map_congr_left fun i _=>rfl
theorem hold1 (n m:Nat):get (chC n m 0) 1 = some ((n:Int) * if decide ((0:Int) < (m:Int)) = true then 1 else 0):=by
  cases m with
  | zero=>rw [if_neg (by decide),Int.mul_zero];rfl
  | succ m=>rw [if_pos (decide_eq_true (Int.natCast_pos.2 (Nat.succ_pos m))),Int.mul_one];exact ch_first n m
noncomputable def chE:List Sm:=[.ret (.bop true [.call (.glob "_law_count") [.meth (.loc "_law_pile") "let_go" [.loc "_law_box"], .bin .Add (.loc "_law_many") (.int 1)], .cmp (.meth (.loc "_law_pile") "kept" []) .Eq (.list []), .call (.glob "_law_count") [.attr (.loc "_law_pile") "made", .bin .Add (.loc "_law_many") (.int 1)]])]
theorem ch_end (F:Env G A) (L:LEnv G A FS) (C:C_count G A) (LG:C_let_go G A) (KP:C_kept G A) (hn:n≤3) (hn1:1≤n) (hm:m≤60) {H0:Hp} (I:ChI A H0 π n m m l H) (q:∀ l' H',Kp [] H0 H'→K (.ret (.bool true)) l' H'):wpSs G false chE l H K XX:=by
  obtain ⟨bvs,pa, -⟩:=id I.h.ex
  have gp:=I.p
  have gm:=I.mm
  have gb:=I.b
  obtain ⟨n',rfl⟩:∃ n',n = n' + 1:=⟨n - 1,(Nat.sub_add_cancel hn1).symm⟩
  obtain ⟨f,e⟩:=lgo_top (m:=n') (j:=m) (Nat.le_trans hn (by decide)) (Nat.le_trans hm (by decide))
  obtain ⟨ct,hct⟩:=get_of (l:=chB (n' + 1) m) (i:=(m:Int) + 1) (by rw [chB_keys];exact List.mem_map.2 ⟨m,List.mem_range.2 (Nat.lt_succ_self m),rfl⟩)
  refine ss_retW (w_bopW (wb_cons (w_callW (by mem_news) (by nest_cls) (wl_cons (w_meth (by mem_news) pa.i pa.n (by nest_cls) (by rfl) (by mem_news) (LG I.h hct e fun H2 h2 k2=>wl_cons (w_ev (ev_add (ev_loc gm) ev_int) (wl_nil (C rfl (tv_t (wb_cons ?_)))))))))))
  obtain ⟨bvs2,pb, -⟩:=id h2.ex
  refine w_cmpW (w_meth (by mem_news) pb.i pb.n (by nest_cls) (by rfl) (by mem_news) (KP h2 (by decide) .nil fun c hc=>w_list evl_nil (Nat.le_of_ble_eq_true rfl) fun d hd=>?_))
  have k3:=kp_new (M:=[]) hc (.list (([]:List (Int×Ct)).map (·.1) |>.map fun n=>Value.int n 0))
  have k4:=kp_new (M:=[]) hd (.list [])
  refine ⟨.list [], .list [], .list (k4.list (Hp.upd_same _ _ _)) .nil, .list (Hp.upd_same _ _ _) .nil,rfl,rfl, ?_⟩
  have h4:=h2.kp0 (k3.trans k4)
  obtain ⟨bvs4,pc, -⟩:=id h4.ex
  refine bo_go (k:=true) (wb_one (w_call (by mem_news) (by nest_cls) (by mem_news) (C rfl ?_)))
  exact q l _ (kp_own I.k I.f (k2.trans ((k3.trans k4).mono fun _ z=>absurd z List.not_mem_nil)))
noncomputable def C_chain (G:Gx) (A:Ad):Prop:=∀ ⦃H:Hp⦄ ⦃n m:Nat⦄,m≤60→1≤n→n≤3→∀ ⦃Q:QV⦄ ⦃X:XV⦄,(∀ H',Kp [] H H'→Q (.bool true) H')→G.fn (A "_law_chain" "") false [.int (m:Int) 0, .int (n:Int) 0] H Q X
theorem ch_mid (F:Env G A) (L:LEnv G A FS) (C:C_count G A) (LG:C_let_go G A) (KP:C_kept G A) (HO:C_holders G A) (hn:n≤3) (hn1:1≤n) (hm:m≤60) {H0:Hp} (I:ChI A H0 π n m m l H) (q:∀ l' H',Kp [] H0 H'→K (.ret (.bool true)) l' H'):wpSs G false (b__law_chain.drop 3) l H K XX:=by
  obtain ⟨bvs,pa, -⟩:=id I.h.ex
  have gp:=I.p
  have gm:=I.mm
  have gn:=I.nn
  have w:=ch_w hn m
  have lz:=w.lz (Nat.le_trans (Nat.succ_le_succ hm) (by decide))
  refine ss_ifW (w_bopW (wb_cons (w_cmpW (w_meth (by mem_news) pa.i pa.n (by nest_cls) (by rfl) (by mem_news) (KP I.h (w.l64 (Nat.le_trans (Nat.succ_le_succ hm) (by decide))) w.inc fun c hc=>w_compr (k:=m + 1) (fun _=>true) upV (ev_add (ev_loc gm) ev_int) (Nat.le_trans (Nat.succ_le_succ hm) (by decide)) (fun i _ H' _=>ev_all0) (fun i _ H' _ _=>ev_add (ev_loc (by rfl)) ev_int) fun d e hd he hed=>?_)))))
  rw [upV_list n m]
  have k1:=kp_new (M:=[]) hc (.list (((chB n m).map (·.1)).map fun n=>Value.int n 0))
  have h1:(H.upd c (.list (((chB n m).map (·.1)).map fun n=>Value.int n 0))) c = _:=Hp.upd_same _ _ _
  generalize H.upd c (.list (((chB n m).map (·.1)).map fun n=>Value.int n 0)) = H1 at k1 h1 hd he ⊢
  have k2:=kp_new (M:=[]) hd (.range 0 ((m + 1:Nat):Int) 1)
  have k3:=kp_new (M:=[]) (H:=H1.upd d (.range 0 ((m + 1:Nat):Int) 1)) ((Hp.upd_ne _ _ hed).trans he) (.list (((chB n m).map (·.1)).map fun i=>Value.int i 0))
  have h3:((H1.upd d (.range 0 ((m + 1:Nat):Int) 1)).upd e (.list (((chB n m).map (·.1)).map fun i=>Value.int i 0))) e = _:=Hp.upd_same _ _ _
  have k23:=k2.trans k3
  clear k2 k3
  generalize (H1.upd d (.range 0 ((m + 1:Nat):Int) 1)).upd e (.list (((chB n m).map (·.1)).map fun i=>Value.int i 0)) = H3 at k23 h3 ⊢
  refine ⟨.list (((chB n m).map (·.1)).map PyData.int), .list (((chB n m).map (·.1)).map PyData.int), .list (k23.list h1) (rd_ints _), .list h3 (rd_ints _),shaped_ints _,shaped_ints _, ?_⟩
  rw [eqv_list]
  have h4:=I.h.kp0 (k1.trans k23)
  obtain ⟨bvs4,pc, -⟩:=id h4.ex
  obtain ⟨ct,hct⟩:=get_of (l:=chB n m) (i:=1) (by rw [chB_keys];exact List.mem_map.2 ⟨0,List.mem_range.2 (Nat.succ_pos m),rfl⟩)
  have hb:(n:Int).natAbs < 2 ^ 63:=Nat.lt_of_le_of_lt hn (by decide)
  refine bo_go (k:=false) (wb_one (w_notW (w_callW (by mem_news) (by nest_cls) (wl_cons (w_meth (by mem_news) pc.i pc.n (by nest_cls) (by rfl) (by mem_news) (HO h4 hct (hold1 n m) (wl_cons (w_ev (ev_mul (ev_loc gn) (ev_intb (ev_gt (ev_loc gm) ev_int rfl)) (.inl hb)) (wl_nil (C rfl ?_))))))))))
  refine ss_sq ?_
  exact ch_end F L C LG KP hn hn1 hm ⟨I.p,I.mm,I.nn,I.b,h4,I.k.trans (k1.trans k23),I.f⟩ q
theorem chain_ok (F:Env G A) (L:LEnv G A FS) (C:C_count G A) (PI:C_pinit G A) (LE:C_leaf G A) (BR:C_branch G A) (LG:C_let_go G A) (KP:C_kept G A) (HO:C_holders G A) (hm:m≤60) (hn1:1≤n) (hn:n≤3) (q:∀ H',Kp [] H H'→Q (.bool true) H') :
    wpF G false ["_law_many", "_law_named"] b__law_chain [.int (m:Int) 0, .int (n:Int) 0] H Q X:=by
  refine f_in rfl (ss_asgW (w_new (ev_glob L.pile) L.ipile evl_nil fun d x hd hx hdx=>PI hd hx hdx fun H1 π e h1 k1 hM=>⟨rfl, ?_⟩))
  subst e
  obtain ⟨bvs,pa, -⟩:=id h1.ex
  refine ss_asgW (w_meth (ev_loc (by rfl)) pa.i pa.n (by nest_cls) (by rfl) (evl_cons ev_int evl_nil) (LE h1 (Nat.zero_le _) (Nat.zero_le _) fun H2 h2 k2=>?_))
  refine ss_forR (n:=m) (ChI A H π n m) (ev_loc (by rfl)) (Nat.lt_of_le_of_lt hm (by decide)) (fun i hi l' H' I K hK _=>?_) (fun c hc=>?_) fun l' H' I=>?_
  · exact ch_turn F BR hn (Nat.le_trans (Nat.le_of_lt hi) hm) I (fun l2 H2 I2=>(hK l2 H2 I2).1) _
  · exact ⟨rfl,rfl,rfl,rfl,h2.kp0 (kp_new hc _),(kp_own k1 hM k2).trans (kp_new hc _),hM⟩
  · exact ch_mid F L C LG KP HO hn hn1 hm I fun l2 H2 k=>q H2 k
end
end Mine.L8
end

section
open PySem PyProof.Rows
namespace Mine.L8
open Mine Mine.St
section
variable {A:Ad} {G:Gx} {H H':Hp} {π:PA} {bs:List (Int×Ct)} {cs:List (Int×Int)} {mk:Int} {Q:QV} {X:XV} {l:Loc} {ad cd:Addr} {N:Nat} {K:QS} {XX:XS}
theorem lkeys_at {d:Addr} {kvs:List (Int×Value)} (hd:H d = some (.idict kvs)) (hz:kvs.length≤sizeLine) (q:∀ c,H c = none→Q (.ref c) (H.upd c (.list (kvs.map fun p=>Value.int p.1 0)))):bfV .list [.ref d] H Q:=by
  conv=>whnf
  rw [hd]
  exact ⟨by rw [List.length_map];exact hz,q⟩
theorem max1_at {c:Addr} {ns:List Int} (hc:H c = some (.list (ns.map fun n=>Value.int n 0))) (h0:0 < ns.length) (q:∀ m∈ns,(∀ k∈ns,k≤m)→Q (.int m 0) H):bfV .max1 [.ref c] H Q:=by
  conv=>whnf
  rw [hc]
  exact ⟨ns,rfl,h0,q⟩
theorem w_fromW {x e:Ex} (q:wpE G false x l H (fun v H1=>wpE G false e l H1 (fun a H2=>sliceV v a .none H2 Q) X) X):wpE G false (.slice x (some e) none) l H Q X:=q
theorem slice_mem {α:Type} {xs:List α} {a b:Option Int} {v:α} (h:v∈pySlice xs a b):v∈xs:=List.mem_of_mem_take (List.mem_of_mem_drop h)
theorem slice40 {α:Type} {xs:List α}:(pySlice xs none (some 40)).length≤40:=by
  unfold pySlice
  rw [List.length_drop,List.length_take]
  refine Nat.le_trans (Nat.sub_le _ _) (Nat.le_trans (Nat.min_le_left _ _) ?_)
  show cutAt xs.length 40≤40
  unfold cutAt
  rw [if_neg (by decide)]
  exact Nat.min_le_left _ _
noncomputable def lwF:List Sm:=[.asg "_law_told" (.meth (.loc "_law_pile") "content" [.loc "_law_box"]), .ite (.not (.call (.glob "_law_alike") [.loc "_law_told", .idx (.loc "_law_inside") (.loc "_law_box")])) [.ret (.bool false)] [], .ite (.cmp (.idx (.idx (.loc "_law_inside") (.loc "_law_box")) (.int 0)) .Eq (.str "branch")) [.expr (.bm .append (.idx (.loc "_law_told") (.int 1)) [.tup [.str "more", .int 1]])] []]
structure InI (A:Ad) (π:PA) (ad cd:Addr) (N:Nat) (bs:List (Int×Ct)) (cs:List (Int×Int)) (mk:Int) (H0:Hp) (r:List Value) (l:Loc) (H:Hp):Prop where
  s:S8 A H π ad cd N bs cs mk
  g:St8 π ad cd mk l
  k:Kp [] H0 H
  r:∀ v∈r,∃ i∈bs.map (·.1),v = .int i 0
theorem in_turn (F:Env G A) (L:LEnv G A FS) (CC:C_content G A) (AL:C_alike G A) {H0:Hp} {v:Value} {r:List Value} (I:InI A π ad cd N bs cs mk H0 (v :: r) l H) (q:∀ l' H',InI A π ad cd N bs cs mk H0 r l' H'→K .next l' H'):wpSs G false lwF (l.upd "_law_box" v) H K XX:=by
  obtain ⟨i,hi,rfl⟩:=I.r v (List.mem_cons_self ..)
  obtain ⟨c,hc⟩:=get_of hi
  have ok:=I.s.w.okc hc
  obtain ⟨bvs,pa, -⟩:=id I.s.p.ex
  have gp:=I.g.p
  have gi:=I.g.i
  refine ss_asgW (w_meth (ev_loc (by exact gp)) pa.i pa.n (by nest_cls) (by rfl) (by mem_news) (CC I.s.p hc (okc_len ok) fun v H1 hv k1 hf=>?_))
  obtain ⟨ivs,w,e1,e2,e3⟩:=(I.s.m.kp0 k1).box hc
  refine ss_ifW (w_notW (w_call (by mem_news) (by nest_cls) (evl_cons (ev_loc (by rfl)) (evl_cons (ev_key (ev_loc (by exact gi)) (ev_loc (by rfl)) e1 e2) evl_nil)) (AL hv e3 ok fun H2 k2=>ss_sq ?_)))
  have e1:=k2 _ _ e1 (.inr List.not_mem_nil)
  have e3:=e3.kp k2
  have hv2:=hv.kp k2
  have nx:∀ {v:Value} {H':Hp},S8 A H' π ad cd N bs cs mk→Kp [] H0 H'→InI A π ad cd N bs cs mk H0 r ((l.upd "_law_box" (.int i 0)).upd "_law_told" v) H':=fun s' k'=>⟨s',⟨I.g.p,I.g.i,I.g.c,I.g.m⟩,k',fun u hu=>I.r u (List.mem_cons_of_mem _ hu)⟩
  cases c with
  | leaf n =>
    obtain ⟨b,rfl,hb⟩:=e3
    refine ss_iff0 (ev_eqs (ev_at (ev_key (ev_loc (by exact gi)) (ev_loc (by rfl)) e1 e2) ev_int hb rfl rfl) ev_str rfl) (ss_nl (q _ _ (nx (I.s.kp0 (k1.trans k2)) (I.k.trans (k1.trans k2)))))
  | br rows =>
    obtain ⟨b,_,_,rfl,hb, -⟩:=e3
    obtain ⟨a,l0,xs,rfl,ha,hl,hr, -⟩:=hv2
    obtain ⟨a',l1,_,ea,ha1, -⟩:=hv
    injection ea with ea
    subst ea
    have:l1 = l0:=by
      have:=k2.tup ha1
      rw [ha] at this
      injection this with this
      injection this with this
      injection this with _ this
      injection this with this _
      injection this with this
      exact this.symm
    subst this
    have hl0:=hf _ _ _ rfl ha1
    refine ss_ift (ev_eqs (ev_at (ev_key (ev_loc (by exact gi)) (ev_loc (by rfl)) e1 e2) ev_int hb rfl rfl) ev_str rfl) ?_
    refine ss_exprW (w_appendW (ev_at (ev_loc (by rfl)) ev_int ha rfl rfl) hl (w_tup (evl_cons ev_str (evl_cons ev_int evl_nil)) (Nat.le_of_ble_eq_true rfl) fun d hd=>?_))
    have k3:=kp_new (M:=[]) hd (.tup [.str (Str.ofString "more") 0, .int 1 0])
    have hl3:=k3.list hl
    have k:=(k1.trans k2).trans k3
    generalize H2.upd d (.tup [.str (Str.ofString "more") 0, .int 1 0]) = H3 at k hl3 ⊢
    refine app_at hl3 (by rw [all2_len hr];exact okc_len ok rows rfl) (ss_sq (ss_nl (q _ _ (nx ?_ ((I.k.trans k).fresh (I.k.absent hl0) _)))))
    exact ⟨((I.s.p.grow k hl0 hl3).app (List.mem_cons_self ..) _).weak,((I.s.m.grow k hl0).app (List.mem_cons_self ..) hl3 _).weak,I.s.w,I.s.ap,I.s.n⟩
noncomputable def lwB:List Sm:=[.ite (.not (.call (.glob "_law_step") [.loc "_law_pile", .loc "_law_inside", .loc "_law_counts", .loc "_law_made", .loc "_law_cell"])) [.ret (.bool false)] [], .asg "_law_made" (.bf .max1 [.bin .Add (.list [.loc "_law_made"]) (.bf .list [.loc "_law_inside"])]), .ite (.not (.call (.glob "_law_as_due") [.loc "_law_pile", .loc "_law_inside", .loc "_law_counts", .loc "_law_made"])) [.ret (.bool false)] [], .for_ "_law_box" (.slice (.bf .sorted [.loc "_law_inside"]) (some (.neg (.int 1))) none) lwF]
structure LwI (A:Ad) (π:PA) (ad cd:Addr) (H0:Hp) (N:Nat) (bs:List (Int×Ct)) (cs:List (Int×Int)) (mk:Int) (r:List Value) (l:Loc) (H:Hp):Prop where
  s:S8 A H π ad cd N bs cs mk
  g:St8 π ad cd mk l
  k:Kp (AM π ad cd) H0 H
  i:∀ v∈r,∃ c,v = .int c 0
  n:N + r.length≤40
structure LwC (G:Gx) (A:Ad):Prop where
  f:Env G A
  l:LEnv G A FS
  step:C_step G A
  due:C_as_due G A
  content:C_content G A
  alike:C_alike G A
  chain:C_chain G A
  pinit:C_pinit G A
theorem lw_last (Z:LwC G A) (s:S8 A H π ad cd N bs cs mk) (g:St8 π ad cd mk l) (q:∀ l' H',S8 A H' π ad cd N bs cs mk→St8 π ad cd mk l'→Kp [] H H'→K .next l' H'):wpSs G false (lwB.drop 3) l H K XX:=by
  obtain ⟨ivs,hi,hr⟩:=s.m.ex
  have lz:=s.w.lz s.n1
  have gi:=g.i
  refine ss_forW (w_fromW (w_bfW (wl_cons (w_ev (v:=.ref ad) (ev_loc gi) (wl_nil ⟨.inr (.inl rfl),sorted_keys hi (by rw [all2_len hr];exact s.l64) (by rw [all2_keys hr];exact s.w.inc) fun c hc=>w_ev (ev_neg ev_int) (slice_at (xs:=(ivs.map (·.1)).map fun n=>Value.int n 0) (Hp.upd_same _ _ _) rfl (by rw [List.length_map,List.length_map,all2_len hr];exact lz.1) rfl rfl fun d hd=>.inl ⟨rfl, ?_⟩)⟩)))))
  have k1:=kp_new (M:=[]) hc (.list ((ivs.map (·.1)).map fun n=>Value.int n 0))
  have k2:=kp_new (M:=[]) hd (.list (pySlice ((ivs.map (·.1)).map fun n=>Value.int n 0) (some (-1)) none))
  have k:=k1.trans k2
  have hdd:((H.upd c (.list ((ivs.map (·.1)).map fun n=>Value.int n 0))).upd d (.list (pySlice ((ivs.map (·.1)).map fun n=>Value.int n 0) (some (-1)) none))) d = some (.list (pySlice ((ivs.map (·.1)).map fun n=>Value.int n 0) (some (-1)) none)):=Hp.upd_same _ _ _
  generalize (H.upd c (.list ((ivs.map (·.1)).map fun n=>Value.int n 0))).upd d (.list (pySlice ((ivs.map (·.1)).map fun n=>Value.int n 0) (some (-1)) none)) = H2 at k hdd ⊢
  have s2:=s.kp0 k
  refine iter_at hdd rfl (forG_list (InI A π ad cd N bs cs mk H2) (fun r l' H' I=>I.k.list hdd) (fun v r l' H' I K hK _=>?_) (fun l' H' I=>sq_next (ss_nl (q l' H' I.s I.g (k.trans I.k)))) _ l H2 ⟨s2,g,Kp.refl _ _,fun v hv=>?_⟩)
  · exact in_turn Z.f Z.l Z.content Z.alike I fun l2 H2 I2=>(hK l2 H2 I2).1
  · obtain ⟨i,hi,rfl⟩:=List.mem_map.1 (slice_mem hv)
    exact ⟨i,by rw [← all2_keys hr];exact hi,rfl⟩
theorem lw_max {ivs:List (Int×Value)} {mk':Int} (s:S8 A H π ad cd N bs cs mk') (h1:mk≤mk') (h2:mk' = mk∨mk'∈bs.map (·.1)) {m:Int} (hm:m∈mk :: bs.map (·.1)) (hle:∀ k∈mk :: bs.map (·.1),k≤m):m = mk':=by
  refine Int.le_antisymm ?_ ?_
  · rcases List.mem_cons.1 hm with z | z
    · rw [z];exact h1
    · exact (s.w.hi m z).2
  · rcases h2 with z | z
    · rw [z];exact hle mk (List.mem_cons_self ..)
    · exact hle mk' (List.mem_cons_of_mem _ z)
theorem lw_turn (Z:LwC G A) {H0:Hp} {v:Value} {r:List Value} (I:LwI A π ad cd H0 N bs cs mk (v :: r) l H) (q:∀ N' bs' cs' mk' l' H',LwI A π ad cd H0 N' bs' cs' mk' r l' H'→K .next l' H'):wpSs G false lwB (l.upd "_law_cell" v) H K XX:=by
  have L:=Z.l
  obtain ⟨c,rfl⟩:=I.i v (List.mem_cons_self ..)
  have hN:N + 1≤40:=Nat.le_trans (Nat.add_le_add_left (Nat.succ_le_succ (Nat.zero_le r.length)) N) I.n
  have gp:=I.g.p;have gi:=I.g.i;have gc:=I.g.c;have gm:=I.g.m
  refine ss_ifW (w_notW (w_call (by mem_news) (by nest_cls) (evl_cons (ev_loc (by exact gp)) (evl_cons (ev_loc (by exact gi)) (evl_cons (ev_loc (by exact gc)) (evl_cons (ev_loc (by exact gm)) (evl_cons (ev_loc (by rfl)) evl_nil))))) (Z.step I.s (Nat.le_trans hN (by decide)) fun H1 bs1 cs1 mk1 s1 h1 h2 k1=>ss_sq ?_)))
  obtain ⟨ivs,hi,hr⟩:=s1.m.ex
  have lz:=s1.w.lz s1.n1
  refine ss_asgW (w_bfW (wl_cons (w_binW (w_list (evl_cons (ev_loc (by exact gm)) evl_nil) (Nat.le_of_ble_eq_true rfl) fun a ha=>?_))))
  have k2:=kp_new (M:=[]) ha (.list [.int mk 0])
  have ha2:(H1.upd a (.list [.int mk 0])) a = some (.list [.int mk 0]):=Hp.upd_same _ _ _
  generalize H1.upd a (.list [.int mk 0]) = H2 at k2 ha2 ⊢
  have hi2:=k2 _ _ hi (.inr List.not_mem_nil)
  refine w_bfW (wl_cons (w_ev (v:=.ref ad) (ev_loc (by exact gi)) (wl_nil ⟨.inr (.inl rfl),lkeys_at hi2 (by rw [all2_len hr];exact lz.1) fun b hb=>?_⟩)))
  have k3:=kp_new (M:=[]) hb (.list (ivs.map fun p=>Value.int p.1 0))
  have hb3:(H2.upd b (.list (ivs.map fun p=>Value.int p.1 0))) b = some (.list (ivs.map fun p=>Value.int p.1 0)):=Hp.upd_same _ _ _
  have ha3:=k3.list ha2
  have k23:=k2.trans k3
  generalize H2.upd b (.list (ivs.map fun p=>Value.int p.1 0)) = H3 at k23 hb3 ha3 ⊢
  refine addl_at ha3 hb3 (by rw [List.length_map,all2_len hr];exact Nat.le_trans (Nat.add_le_add_left (Nat.le_trans s1.w.z s1.n1) _) (Nat.le_of_ble_eq_true rfl)) fun e he=>wl_nil ⟨.inr (.inl rfl), ?_⟩
  have k4:=kp_new (M:=[]) he (.list ([.int mk 0]++ivs.map fun p=>Value.int p.1 0))
  have he4:(H3.upd e (.list ([.int mk 0]++ivs.map fun p=>Value.int p.1 0))) e = some (.list ((mk :: bs1.map (·.1)).map fun n=>Value.int n 0)):=by
    rw [Hp.upd_same,List.map_cons,← all2_keys hr,List.map_map];rfl
  have k24:=k23.trans k4
  generalize H3.upd e (.list ([.int mk 0]++ivs.map fun p=>Value.int p.1 0)) = H4 at k24 he4 ⊢
  refine max1_at he4 (Nat.succ_pos _) fun m hm hle=>?_
  obtain rfl:=lw_max (ivs:=ivs) s1 h1 h2 hm hle
  have s4:=s1.kp0 k24
  have g4:St8 π ad cd m (((l.upd "_law_cell" (.int c 0))).upd "_law_made" (.int m 0)):=⟨gp,gi,gc,rfl⟩
  refine ss_ifW (w_notW (w_call (by mem_news) (by nest_cls) (evl_cons (ev_loc g4.p) (evl_cons (ev_loc g4.i) (evl_cons (ev_loc g4.c) (evl_cons (ev_loc g4.m) evl_nil)))) (Z.due s4 fun H5 k5=>ss_sq ?_)))
  refine lw_last Z (s4.kp0 k5) g4 fun l' H6 s6 g6 k6=>q (N + 1) bs1 cs1 m l' H6 ⟨s6,g6,(I.k.trans k1).trans (kpN ((k24.trans k5).trans k6)),fun u hu=>I.i u (List.mem_cons_of_mem _ hu), ?_⟩
  have:=I.n
  rw [List.length_cons] at this
  rw [Nat.add_assoc,Nat.add_comm 1];exact this
end
end Mine.L8
end

section
open PySem PyProof.Rows
namespace Mine.L8
open Mine Mine.St
section
variable {A:Ad} {G:Gx} {H H':Hp} {π:PA} {bs:List (Int×Ct)} {cs:List (Int×Int)} {mk:Int} {Q:QV} {X:XV} {l:Loc} {ad cd:Addr} {N:Nat} {K:QS} {XX:XS}
theorem w_allS {elt e:Ex} {x:Str} {d:Addr} {kvs:List (Int×Value)} (he:Ev G false e l H (.ref d)) (hd:H d = some (.idict kvs)) (hz:kvs.length < 64) (hs:(kvs.map (·.1)).Pairwise (· < ·))
    (hb:∀ H2,Kp [] H H2→∀ i∈kvs.map (·.1),∀ K:QV,(∀ H3,Kp [] H2 H3→K (.bool true) H3)→wpE G false elt (ca l x (.int i 0)) H2 K (fun _ _=>False)) (q:∀ H',Kp [] H H'→Q (.bool true) H'):wpE G false (.bf .all [.comp elt x (.bf .sorted [e]) []]) l H Q X:=by
  refine w_bfW (wl_cons (w_bfW (Q:=fun v H1=>iterH false v H1 fun guard items=>items.length≤sizeLine ∧
      compG guard (fun v H2 k=>wpB G false true [] ((l.del ".0").upd x v) H2 (fun c H3=>truthV c fun r =>
        if r then wpE G false elt ((l.del ".0").upd x v) H3 (fun u H4=>k (some u) H4) (fun _ _=>False) else k none H3) (fun _ _=>False)) items [] H1
        fun us H'=>newV (.list us) H' fun v H1=>wpEs G false [] l H1 (fun vs H2=>bfH false .all (v :: vs) H2∧bfV .all (v :: vs) H2 Q) X) (wl_cons (w_ev he (wl_nil ⟨.inr (.inl rfl),sorted_keys hd hz hs fun c hc=>.inl ⟨rfl, ?_⟩⟩)))))
  have k1:=kp_new (M:=[]) hc (.list ((kvs.map (·.1)).map fun n=>Value.int n 0))
  have h1:(H.upd c (.list ((kvs.map (·.1)).map fun n=>Value.int n 0))) c = some (.list ((kvs.map (·.1)).map fun n=>Value.int n 0)):=Hp.upd_same _ _ _
  generalize H.upd c (.list ((kvs.map (·.1)).map fun n=>Value.int n 0)) = H1 at k1 h1 ⊢
  refine iter_at h1 rfl ⟨by rw [List.length_map,List.length_map];exact Nat.le_trans (Nat.le_of_lt hz) (by decide),compG_list (AdI H1 (kvs.map (·.1))) (fun r acc H' I=>I.k.list h1) (fun v r acc H' I K hK=>?_) (fun acc H' I e he=>wl_nil ⟨.inr (.inl rfl), ?_⟩) _ [] H1 ⟨Kp.refl _ _,⟨0,rfl⟩,fun v hv=>?_⟩⟩
  · obtain ⟨i,hi,rfl⟩:=I.r v (List.mem_cons_self ..)
    refine hb H' (k1.trans I.k) i hi (fun u H4=>K (some u) H4) fun H3 k3=>hK (some (.bool true)) H3 ⟨I.k.trans k3, ?_,fun u hu=>I.r u (List.mem_cons_of_mem _ hu)⟩
    obtain ⟨n,rfl⟩:=I.a
    exact ⟨n + 1,rep_snoc n _⟩
  · obtain ⟨i,hi,rfl⟩:=List.mem_map.1 hv
    exact ⟨i,hi,rfl⟩
  · obtain ⟨n,rfl⟩:=I.a
    exact all_true (Hp.upd_same _ _ _) (q _ ((k1.trans I.k).trans (kp_new he _)))
theorem PileAt.inM {bvs cvs:List (Int×Value)} (p:PileAt A H π.x π.d π.bx π.ct bvs cvs mk) {a:Addr} (ha:H a = none):a ∉ π.M:=fun z=>by
  rcases List.mem_cons.1 z with z | z
  · rw [z,p.n] at ha;cases ha
  rcases List.mem_cons.1 z with z | z
  · rw [z,p.b] at ha;cases ha
  · rw [List.mem_singleton.1 z,p.c] at ha;cases ha
theorem lw_loop (Z:LwC G A) {a:Addr} {ns:List Int} (hn:ns.length≤63) (ha:H a = some (.rlist (ns.map fun n=>Value.int n 0))) (s:S8 A H π ad cd 0 [] [] 0) (g:St8 π ad cd 0 l) (ga:l "_law_script" = some (.ref a)) (q:∀ l' H',K (.ret (.bool true)) l' H'):wpSs G false (b_law.drop 5) l H K XX:=by
  have L:=Z.l
  have F:=Z.f
  refine ss_forW (w_to (ev_loc ga) ev_int ha rfl (by rw [List.length_map];exact Nat.le_trans hn (by decide)) fun c hc=>.inl ⟨rfl, ?_⟩)
  have k1:=kp_new (M:=[]) hc (.list (pySlice (ns.map fun n=>Value.int n 0) none (some 40)))
  have h1:(H.upd c (.list (pySlice (ns.map fun n=>Value.int n 0) none (some 40)))) c = some (.list (pySlice (ns.map fun n=>Value.int n 0) none (some 40))):=Hp.upd_same _ _ _
  generalize H.upd c (.list (pySlice (ns.map fun n=>Value.int n 0) none (some 40))) = H1 at k1 h1 ⊢
  refine iter_at h1 rfl (forG_list (fun r l' H'=>∃ N bs cs mk,LwI A π ad cd H1 N bs cs mk r l' H') (fun r l' H' h=>by obtain ⟨_,_,_,_,I⟩:=h;exact I.k.list h1) (fun v r l' H' h K hK _=>?_) (fun l' H' h=>sq_next ?_) _ l H1 ⟨0,[],[],0,s.kp0 k1,g,Kp.refl _ _,fun v hv=>?_, ?_⟩)
  · obtain ⟨N,bs,cs,mk,I⟩:=h
    exact lw_turn Z I fun N' bs' cs' mk' l2 H2 I2=>(hK l2 H2 ⟨N',bs',cs',mk',I2⟩).1
  · obtain ⟨N,bs,cs,mk,I⟩:=h
    obtain ⟨ivs,hi,hr⟩:=I.s.m.ex
    have lz:=I.s.w.lz I.s.n1
    have gp:=I.g.p;have gi:=I.g.i
    refine ss_retW (w_allS (ev_loc gi) hi (by rw [all2_len hr];exact I.s.l64) (by rw [all2_keys hr];exact I.s.w.inc) (fun H2 k2 i hi2 K hK=>?_) fun H2 _=>q l' H2)
    rw [all2_keys hr] at hi2
    obtain ⟨ct,hct⟩:=get_of hi2
    have s2:=I.s.kp0 k2
    exact st_same F L Z.content Z.alike s2.p s2.m hct (I.s.w.okc hct) gp gi (by rfl) hK
  · obtain ⟨n,_,rfl⟩:=List.mem_map.1 (slice_mem hv)
    exact ⟨n,rfl⟩
  · rw [Nat.zero_add];exact slice40
theorem lw_main (Z:LwC G A) {a:Addr} {ns:List Int} (hn:ns.length≤63) (ha:H a = some (.rlist (ns.map fun n=>Value.int n 0))) (ga:l "_law_script" = some (.ref a)) (q:∀ l' H',K (.ret (.bool true)) l' H'):wpSs G false (b_law.drop 1) l H K XX:=by
  have L:=Z.l
  refine ss_asgW (w_new (ev_glob L.pile) L.ipile evl_nil fun d x hd hx hdx=>Z.pinit hd hx hdx fun H2 π e h2 k2 hM=>⟨rfl, ?_⟩)
  subst e
  refine ss_asgW (w_dict0 fun ad had=>?_)
  have k3:=kp_new (M:=[]) had (.idict [])
  have had3:(H2.upd ad (.idict [])) ad = some (.idict []):=Hp.upd_same _ _ _
  obtain ⟨_,p2, -⟩:=id h2.ex
  have hA:=PileAt.inM p2 had
  generalize H2.upd ad (.idict []) = H3 at k3 had3 ⊢
  have h3:=h2.kp0 k3
  refine ss_asgW (w_dict0 fun cd hcd=>?_)
  have k4:=kp_new (M:=[]) hcd (.idict [])
  have hcd4:(H3.upd cd (.idict [])) cd = some (.idict []):=Hp.upd_same _ _ _
  obtain ⟨_,p3, -⟩:=id h3.ex
  have hC:=PileAt.inM p3 hcd
  have hne:ad≠cd:=ne_of_some had3 hcd
  generalize H3.upd cd (.idict []) = H4 at k4 hcd4 ⊢
  refine ss_asg ev_int ?_
  refine lw_loop Z hn (((k2.trans k3).trans k4).rlist ha) ⟨h3.kp0 k4,⟨⟨[],k4 _ _ had3 (.inr List.not_mem_nil), .nil⟩,hcd4,hne⟩,W8.zero,⟨hA,hC⟩,Nat.zero_le _⟩ ⟨rfl,rfl,rfl,rfl⟩ (by exact ga) q
theorem law_ok (Z:LwC G A) {a:Addr} {ns:List Int} (hn:ns.length≤63) (ha:H a = some (.rlist (ns.map fun n=>Value.int n 0))) (q:∀ H',Q (.bool true) H'):wpF G false ["_law_script"] b_law [.ref a] H Q X:=by
  have L:=Z.l
  have cast:∀ {a b:Int} (h:0 < b),a % b = (((a % b).toNat:Nat):Int):=fun h=>(Int.toNat_of_nonneg (mod_lt _ h).1).symm
  refine f_in rfl (ss_ifW (w_bopW (wb_cons (w_cmpW (w_ev (ev_loc rfl) (w_list evl_nil (Nat.le_of_ble_eq_true rfl) fun e he=>?_))))))
  have k1:=kp_new (M:=[]) he (.list [])
  have he1:(H.upd e (.list [])) e = some (.list []):=Hp.upd_same _ _ _
  generalize H.upd e (.list []) = H1 at k1 he1 ⊢
  have ha1:=k1.rlist ha
  refine ⟨.list (ns.map PyData.int), .list [], .rlist ha1 (rd_ints ns), .list he1 .nil,shaped_ints ns,rfl, ?_⟩
  rw [eqv_nil,List.isEmpty_map]
  cases ns with
  | nil =>
    refine bo_stop (k:=true) ?_
    refine ss_sq ?_
    exact lw_main Z hn ha1 rfl fun _ H'=>q H'
  | cons c r =>
    have v1:(((c / 7 % 61).toNat:Nat):Int) = c / 7 % 61:=(cast (by decide)).symm
    have v2:(((c / 427 % 3).toNat + 1:Nat):Int) = 1 + c / 427 % 3:=by rw [Int.natCast_add,← cast (by decide)];exact Int.add_comm _ _
    have b1:(c / 7 % 61).toNat≤60:=Nat.le_of_lt_succ ((Int.toNat_lt (mod_lt _ (by decide)).1).2 (mod_lt (c / 7) (b:=61) (by decide)).2)
    have b2:(c / 427 % 3).toNat + 1≤3:=(Int.toNat_lt (mod_lt _ (by decide)).1).2 (mod_lt (c / 427) (b:=3) (by decide)).2
    refine bo_go (k:=true) (wb_one (w_notW (w_call (by mem_news) (by nest_cls)
      (evl_cons (ev_cast (ev_mod (ev_div (ev_at (ev_loc (by rfl)) ev_int ha1 rfl rfl) ev_int (by decide) (by decide)) ev_int (by decide)) (congrArg (Value.int · 0) v1.symm))
      (evl_cons (ev_cast (ev_add ev_int (ev_mod (ev_div (ev_at (ev_loc (by rfl)) ev_int ha1 rfl rfl) ev_int (by decide) (by decide)) ev_int (by decide))) (congrArg (Value.int · 0) v2.symm)) evl_nil)) (Z.chain b1 (Nat.succ_pos _) b2 fun H2 k2=>?_))))
    refine ss_sq ?_
    exact lw_main Z hn (k2.rlist ha1) rfl fun _ H'=>q H'
end
section
variable {A:Ad}
structure E8 (g:Gx) (A:Ad):Prop where
  p:Env g A
  l:LEnv g A FS
structure TabL (tab:Tab) (A:Ad):Prop where
  q:TabQ tab A
  whole:HasF tab (A "_law_whole" "") ["_law_seen"] b__law_whole
  count:HasF tab (A "_law_count" "") ["_law_seen", "_law_due"] b__law_count
  rows_by:HasF tab (A "_law_rows_by" "") ["_law_cell", "_law_there"] b__law_rows_by
  alike:HasF tab (A "_law_alike" "") ["_law_seen", "_law_due"] b__law_alike
  gone:HasF tab (A "_law_gone" "") ["_law_inside", "_law_counts", "_law_box"] b__law_gone
  refused:HasF tab (A "_law_refused" "") ["_law_pile", "_law_box", "_law_good", "_law_cell"] b__law_refused
  as_due:HasF tab (A "_law_as_due" "") ["_law_pile", "_law_inside", "_law_counts", "_law_made"] b__law_as_due
  step:HasF tab (A "_law_step" "") ["_law_pile", "_law_inside", "_law_counts", "_law_made", "_law_cell"] b__law_step
  chain:HasF tab (A "_law_chain" "") ["_law_many", "_law_named"] b__law_chain
  law:HasF tab (A "law" "") ["_law_script"] b_law
section
variable {g:Gx} {tab:Tab} (f:E8 g A) (t:TabL tab A) (n:Nat)
include f t
omit f in
theorem whole_at:C_whole (GG g tab (n + 1)) A:=fun _ _ _ _ _ q=>fn_gg t.whole (whole_ok q)
theorem count_at:C_count (GG g tab (n + 2)) A:=fun _ _ _ _ _ _ _ e q=>fn_gg t.count (count_ok (f.l.gg tab _) (whole_at t n) e q)
omit f in
theorem rows_by_at:C_rows_by (GG g tab (n + 1)) A:=fun _ _ _ _ _ h1 h2 _ _ q=>fn_gg t.rows_by (rows_by_ok h1 h2 q)
theorem alike_at:C_alike (GG g tab (n + 3)) A:=fun _ _ _ _ _ _ h1 h2 h3 _ _ q=>fn_gg t.alike (alike_ok (f.l.gg tab _) (whole_at t (n + 1)) (count_at f t n) h1 h2 h3 q)
omit f in
theorem gone_at:C_gone (GG g tab (n + 1)) A:=fun _ _ _ _ _ _ h1 h2 _ _ _ _ _ h3 _ _ q=>fn_gg t.gone (gone_ok h1 h2 h3 q)
theorem refused_at:C_refused (GG g tab (n + 3)) A:=fun _ _ _ _ _ _ h _ _ _ _ _ h1 h2 _ _ q=>fn_gg t.refused (refused_ok (f.p.gg tab _) (f.l.gg tab _) (content_na f.p t.q n) (let_go_na f.p t.q n) (hold_na f.p t.q n) (holders_na f.p t.q n) (branch_na f.p t.q n) h h1 h2 q)
theorem as_due_at:C_as_due (GG g tab (n + 3)) A:=fun _ _ _ _ _ _ _ _ h _ _ q=>fn_gg t.as_due (as_due_ok (f.p.gg tab _) (f.l.gg tab _) (whole_at t (n + 1)) (count_at f t n) (kept_at f.p t.q (n + 1)) (holders_at f.p t.q n) h q)
theorem step_at:C_step (GG g tab (n + 4)) A:=fun _ _ _ _ _ _ _ _ h hn _ _ _ _ q=>fn_gg t.step (step_ok (f.p.gg tab _) (f.l.gg tab _) ⟨count_at f t (n + 1),leaf_at f.p t.q.p (n + 1),rows_by_at t (n + 2),branch_at f.p t.q.p n,content_at f.p t.q.p (n + 1),alike_at f t n,hold_at f.p t.q.p (n + 1),let_go_at f.p t.q.p (n + 1),gone_at t (n + 2),refused_at f t n⟩ h hn q)
theorem chain_at:C_chain (GG g tab (n + 4)) A:=fun _ _ _ h1 h2 h3 _ _ q=>fn_gg t.chain (chain_ok (f.p.gg tab _) (f.l.gg tab _) (count_at f t (n + 1)) (pinit_at f.p t.q (n + 2)) (leaf_at f.p t.q.p (n + 1)) (branch_at f.p t.q.p n) (let_go_at f.p t.q.p (n + 1)) (kept_at f.p t.q (n + 2)) (holders_at f.p t.q (n + 1)) h1 h2 h3 q)
theorem law_tells {a:Addr} {ns:List Int} {H:Hp} (hn:ns.length≤63) (ha:H a = some (.rlist (ns.map fun n=>Value.int n 0))):(GG g tab 13).fn (A "law" "") false [.ref a] H (fun v _=>v = .bool true) (fun _ _=>False) :=
  fn_gg t.law (law_ok ⟨f.p.gg tab 12,f.l.gg tab 12,step_at f t 8,as_due_at f t 9,content_at f.p t.q.p 10,alike_at f t 9,chain_at f t 8,pinit_at f.p t.q 11⟩ hn ha fun _=>rfl)
end
end
end Mine.L8
end

end

section
open PySem PySem.W PyProof.Rows PySem.Challenge
set_option maxHeartbeats 0
set_option maxRecDepth 1000000
namespace Mine.L8
section
noncomputable def stA (i:Nat):Stmt:=pw_uf040010_08.main.body.getD i (.Pass default)
noncomputable def inA (i j:Nat):Stmt:=match stA i with
  | .ClassDef _ _ _ b _ _ _ _ _ _ _=>b.getD j (.Pass default)
  | s=>s
noncomputable def fo (st:Stmt) (q:String) (m:Value) (c:Nat):FuncData:=match st with
  | .FunctionDef n a b _ _ _ sc _ _ _=>{ name:=n,qualname:=q,params:=a,body:=.stmts b,scope:=sc,globals:=3,closure:=[],defaults:=.none,kwdefaults:=.none,pyModule:=m,code:=.ref c }
  | _=>default
noncomputable def en (P:Params) (x:String) (t:Nat) (v:Value):DictEntry:={ hash:=PyData.keyHash P x,key:=.str x t,val:=v }
noncomputable def KK (P:Params):Frag:=[
  (2,{ cls:=Value.none,data:=Data.dict #[] }),
  (3,{ cls:=Value.type "dict",data:=Data.dict #[en P "__name__" 165 (Value.str (Str.ofString "law_uf040010_08") 326),en P "__doc__" 166 (Value.none),en P "__package__" 167 (Value.none),en P "__loader__" 168 (Value.builtin "__main__.__loader__#opaque"),en P "__spec__" 169 (Value.none),en P "__annotations__" 170 (Value.ref 6),en P "__builtins__" 171 (Value.ref 4),en P "__file__" 173 (Value.str (Str.ofString "/claim/cut.py") 172),en P "__cached__" 174 (Value.none),en P "SnapError" 206 (Value.ref 24),en P "NoBox" 222 (Value.ref 37),en P "Pile" 325 (Value.ref 117),en P "_law_whole" 334 (Value.ref 128),en P "_law_count" 342 (Value.ref 135),en P "_law_rows_by" 348 (Value.ref 140),en P "_law_alike" 358 (Value.ref 147),en P "_law_gone" 364 (Value.ref 152),en P "_law_refused" 374 (Value.ref 159),en P "_law_as_due" 380 (Value.ref 164),en P "_law_step" 386 (Value.ref 169),en P "_law_chain" 392 (Value.ref 174),en P "law" 398 (Value.ref 179)] 22 }),
  (23,{ cls:=Value.type "dict",data:=Data.dict #[en P "__module__" 196 (Value.str (Str.ofString "snaptree.errors") 187),en P "__firstlineno__" 200 (Value.int 2 199),en P "__static_attributes__" 201 (Value.ref 22),en P "__weakref__" 203 (Value.ref 25),en P "__doc__" 204 (Value.none)] 3 }),
  (24,{ cls:=Value.type "type",data:=Data.cls { name:=Str.ofString "SnapError",bases:=[Value.type "ValueError"],mro:=[Value.ref 24,Value.type "ValueError",Value.type "Exception",Value.type "BaseException",Value.type "object"],ns:=23,qualname:=Str.ofString "SnapError",subclasses:=[Value.ref 37] },slots:=#[some (Value.ref 15),none,some (Value.str (Str.ofString "SnapError") 189),some (Value.str (Str.ofString "SnapError") 197),some (Value.builtin "ValueError.__new__"),some (Value.bool true)] }),
  (25,{ cls:=Value.type "getset_descriptor",data:=Data.fields #[Value.str (Str.ofString "__weakref__") 202,Value.ref 24,Value.builtin "ExceptionGroup.__weakref__",Value.none] }),
  (36,{ cls:=Value.type "dict",data:=Data.dict #[en P "__module__" 214 (Value.str (Str.ofString "snaptree.errors") 187),en P "__firstlineno__" 218 (Value.int 4 217),en P "__static_attributes__" 219 (Value.ref 35),en P "__doc__" 220 (Value.none)] 2 }),
  (37,{ cls:=Value.type "type",data:=Data.cls { name:=Str.ofString "NoBox",bases:=[Value.ref 24],mro:=[Value.ref 37,Value.ref 24,Value.type "ValueError",Value.type "Exception",Value.type "BaseException",Value.type "object"],ns:=36,qualname:=Str.ofString "NoBox" },slots:=#[some (Value.ref 28),none,some (Value.str (Str.ofString "NoBox") 207),some (Value.str (Str.ofString "NoBox") 215),some (Value.builtin "ValueError.__new__"),some (Value.bool true)] }),
  (52,{ cls:=Value.type "code",data:=Data.fields #[Value.str (Str.ofString "__init__") 237,Value.str (Str.ofString "Pile.__init__") 238,Value.str (Str.ofString "/claim/cut.py") 239,Value.int 9 0,Value.int 1 0,Value.int 0 0,Value.int 0 0,Value.int 3 0,Value.ref 47,Value.bool true,Value.int 181 0,Value.ref 48,Value.none,Value.ref 49,Value.ref 50,Value.ref 51,Value.int 241 0,Value.int 9 0,Value.str (Str.ofString "/claim/cut.py") 242] }),
  (53,{ cls:=.type "function",data:=.func (fo (inA 4 0) "Pile.__init__" (Value.str (Str.ofString "snaptree.pile") 223) 52) }),
  (59,{ cls:=Value.type "code",data:=Data.fields #[Value.str (Str.ofString "need") 244,Value.str (Str.ofString "Pile.need") 245,Value.str (Str.ofString "/claim/cut.py") 246,Value.int 14 0,Value.int 2 0,Value.int 0 0,Value.int 0 0,Value.int 3 0,Value.ref 54,Value.bool true,Value.int 181 0,Value.ref 55,Value.none,Value.ref 56,Value.ref 57,Value.ref 58,Value.int 249 0,Value.int 14 0,Value.str (Str.ofString "/claim/cut.py") 250] }),
  (60,{ cls:=.type "function",data:=.func (fo (inA 4 1) "Pile.need" (Value.str (Str.ofString "snaptree.pile") 223) 59) }),
  (66,{ cls:=Value.type "code",data:=Data.fields #[Value.str (Str.ofString "fresh") 252,Value.str (Str.ofString "Pile.fresh") 253,Value.str (Str.ofString "/claim/cut.py") 254,Value.int 19 0,Value.int 2 0,Value.int 0 0,Value.int 0 0,Value.int 3 0,Value.ref 61,Value.bool true,Value.int 181 0,Value.ref 62,Value.none,Value.ref 63,Value.ref 64,Value.ref 65,Value.int 257 0,Value.int 19 0,Value.str (Str.ofString "/claim/cut.py") 258] }),
  (67,{ cls:=.type "function",data:=.func (fo (inA 4 2) "Pile.fresh" (Value.str (Str.ofString "snaptree.pile") 223) 66) }),
  (73,{ cls:=Value.type "code",data:=Data.fields #[Value.str (Str.ofString "leaf") 260,Value.str (Str.ofString "Pile.leaf") 261,Value.str (Str.ofString "/claim/cut.py") 262,Value.int 25 0,Value.int 2 0,Value.int 0 0,Value.int 0 0,Value.int 3 0,Value.ref 68,Value.bool true,Value.int 181 0,Value.ref 69,Value.none,Value.ref 70,Value.ref 71,Value.ref 72,Value.int 265 0,Value.int 25 0,Value.str (Str.ofString "/claim/cut.py") 266] }),
  (74,{ cls:=.type "function",data:=.func (fo (inA 4 3) "Pile.leaf" (Value.str (Str.ofString "snaptree.pile") 223) 73) }),
  (80,{ cls:=Value.type "code",data:=Data.fields #[Value.str (Str.ofString "branch") 268,Value.str (Str.ofString "Pile.branch") 269,Value.str (Str.ofString "/claim/cut.py") 270,Value.int 28 0,Value.int 2 0,Value.int 0 0,Value.int 0 0,Value.int 3 0,Value.ref 75,Value.bool true,Value.int 181 0,Value.ref 76,Value.none,Value.ref 77,Value.ref 78,Value.ref 79,Value.int 274 0,Value.int 28 0,Value.str (Str.ofString "/claim/cut.py") 275] }),
  (81,{ cls:=.type "function",data:=.func (fo (inA 4 4) "Pile.branch" (Value.str (Str.ofString "snaptree.pile") 223) 80) }),
  (87,{ cls:=Value.type "code",data:=Data.fields #[Value.str (Str.ofString "content") 277,Value.str (Str.ofString "Pile.content") 278,Value.str (Str.ofString "/claim/cut.py") 279,Value.int 35 0,Value.int 2 0,Value.int 0 0,Value.int 0 0,Value.int 3 0,Value.ref 82,Value.bool true,Value.int 181 0,Value.ref 83,Value.none,Value.ref 84,Value.ref 85,Value.ref 86,Value.int 283 0,Value.int 35 0,Value.str (Str.ofString "/claim/cut.py") 284] }),
  (88,{ cls:=.type "function",data:=.func (fo (inA 4 5) "Pile.content" (Value.str (Str.ofString "snaptree.pile") 223) 87) }),
  (94,{ cls:=Value.type "code",data:=Data.fields #[Value.str (Str.ofString "hold") 286,Value.str (Str.ofString "Pile.hold") 287,Value.str (Str.ofString "/claim/cut.py") 288,Value.int 41 0,Value.int 2 0,Value.int 0 0,Value.int 0 0,Value.int 3 0,Value.ref 89,Value.bool true,Value.int 181 0,Value.ref 90,Value.none,Value.ref 91,Value.ref 92,Value.ref 93,Value.int 291 0,Value.int 41 0,Value.str (Str.ofString "/claim/cut.py") 292] }),
  (95,{ cls:=.type "function",data:=.func (fo (inA 4 6) "Pile.hold" (Value.str (Str.ofString "snaptree.pile") 223) 94) }),
  (101,{ cls:=Value.type "code",data:=Data.fields #[Value.str (Str.ofString "holders") 294,Value.str (Str.ofString "Pile.holders") 295,Value.str (Str.ofString "/claim/cut.py") 296,Value.int 45 0,Value.int 2 0,Value.int 0 0,Value.int 0 0,Value.int 3 0,Value.ref 96,Value.bool true,Value.int 181 0,Value.ref 97,Value.none,Value.ref 98,Value.ref 99,Value.ref 100,Value.int 299 0,Value.int 45 0,Value.str (Str.ofString "/claim/cut.py") 300] }),
  (102,{ cls:=.type "function",data:=.func (fo (inA 4 7) "Pile.holders" (Value.str (Str.ofString "snaptree.pile") 223) 101) }),
  (106,{ cls:=Value.type "code",data:=Data.fields #[Value.str (Str.ofString "let_go") 302,Value.str (Str.ofString "Pile.let_go") 303,Value.str (Str.ofString "/claim/cut.py") 304,Value.int 48 0,Value.int 2 0,Value.int 0 0,Value.int 0 0,Value.int 3 0,Value.ref 103,Value.bool true,Value.int 181 0,Value.ref 104,Value.none,Value.none,Value.none,Value.ref 105,Value.int 305 0,Value.int 48 0,Value.str (Str.ofString "/claim/cut.py") 306] }),
  (107,{ cls:=.type "function",data:=.func (fo (inA 4 8) "Pile.let_go" (Value.str (Str.ofString "snaptree.pile") 223) 106) }),
  (113,{ cls:=Value.type "code",data:=Data.fields #[Value.str (Str.ofString "kept") 308,Value.str (Str.ofString "Pile.kept") 309,Value.str (Str.ofString "/claim/cut.py") 310,Value.int 64 0,Value.int 1 0,Value.int 0 0,Value.int 0 0,Value.int 3 0,Value.ref 108,Value.bool true,Value.int 181 0,Value.ref 109,Value.none,Value.ref 110,Value.ref 111,Value.ref 112,Value.int 312 0,Value.int 64 0,Value.str (Str.ofString "/claim/cut.py") 313] }),
  (114,{ cls:=.type "function",data:=.func (fo (inA 4 9) "Pile.kept" (Value.str (Str.ofString "snaptree.pile") 223) 113) }),
  (116,{ cls:=Value.type "dict",data:=Data.dict #[en P "__module__" 232 (Value.str (Str.ofString "snaptree.pile") 223),en P "__firstlineno__" 236 (Value.int 7 235),en P "__init__" 243 (Value.ref 53),en P "need" 251 (Value.ref 60),en P "fresh" 259 (Value.ref 67),en P "leaf" 267 (Value.ref 74),en P "branch" 276 (Value.ref 81),en P "content" 285 (Value.ref 88),en P "hold" 293 (Value.ref 95),en P "holders" 301 (Value.ref 102),en P "let_go" 307 (Value.ref 107),en P "kept" 314 (Value.ref 114),en P "__static_attributes__" 318 (Value.ref 115),en P "__dict__" 320 (Value.ref 118),en P "__weakref__" 322 (Value.ref 119),en P "__doc__" 323 (Value.none)] 4 }),
  (117,{ cls:=Value.type "type",data:=Data.cls { name:=Str.ofString "Pile",bases:=[Value.type "object"],mro:=[Value.ref 117,Value.type "object"],ns:=116,qualname:=Str.ofString "Pile" },slots:=#[none,none,some (Value.str (Str.ofString "Pile") 225),some (Value.str (Str.ofString "Pile") 233),some (Value.builtin "object.__new__"),some (Value.bool true)] }),
  (118,{ cls:=Value.type "getset_descriptor",data:=Data.fields #[Value.str (Str.ofString "__dict__") 319,Value.ref 117,Value.builtin "function.__dict__",Value.builtin "function.__dict__#set"] }),
  (119,{ cls:=Value.type "getset_descriptor",data:=Data.fields #[Value.str (Str.ofString "__weakref__") 321,Value.ref 117,Value.builtin "ExceptionGroup.__weakref__",Value.none] }),
  (127,{ cls:=Value.type "code",data:=Data.fields #[Value.str (Str.ofString "_law_whole") 328,Value.str (Str.ofString "_law_whole") 329,Value.str (Str.ofString "/claim/cut.py") 330,Value.int 67 0,Value.int 1 0,Value.int 0 0,Value.int 0 0,Value.int 3 0,Value.ref 122,Value.bool true,Value.int 181 0,Value.ref 123,Value.none,Value.ref 124,Value.ref 125,Value.ref 126,Value.int 332 0,Value.int 67 0,Value.str (Str.ofString "/claim/cut.py") 333] }),
  (128,{ cls:=.type "function",data:=.func (fo (stA 6) "_law_whole" (Value.str (Str.ofString "law_uf040010_08") 326) 127) }),
  (134,{ cls:=Value.type "code",data:=Data.fields #[Value.str (Str.ofString "_law_count") 335,Value.str (Str.ofString "_law_count") 336,Value.str (Str.ofString "/claim/cut.py") 337,Value.int 69 0,Value.int 2 0,Value.int 0 0,Value.int 0 0,Value.int 3 0,Value.ref 129,Value.bool true,Value.int 181 0,Value.ref 130,Value.none,Value.ref 131,Value.ref 132,Value.ref 133,Value.int 340 0,Value.int 69 0,Value.str (Str.ofString "/claim/cut.py") 341] }),
  (135,{ cls:=.type "function",data:=.func (fo (stA 7) "_law_count" (Value.str (Str.ofString "law_uf040010_08") 326) 134) }),
  (139,{ cls:=Value.type "code",data:=Data.fields #[Value.str (Str.ofString "_law_rows_by") 343,Value.str (Str.ofString "_law_rows_by") 344,Value.str (Str.ofString "/claim/cut.py") 345,Value.int 71 0,Value.int 2 0,Value.int 0 0,Value.int 0 0,Value.int 3 0,Value.ref 136,Value.bool true,Value.int 181 0,Value.ref 137,Value.none,Value.none,Value.none,Value.ref 138,Value.int 346 0,Value.int 71 0,Value.str (Str.ofString "/claim/cut.py") 347] }),
  (140,{ cls:=.type "function",data:=.func (fo (stA 8) "_law_rows_by" (Value.str (Str.ofString "law_uf040010_08") 326) 139) }),
  (146,{ cls:=Value.type "code",data:=Data.fields #[Value.str (Str.ofString "_law_alike") 349,Value.str (Str.ofString "_law_alike") 350,Value.str (Str.ofString "/claim/cut.py") 351,Value.int 78 0,Value.int 2 0,Value.int 0 0,Value.int 0 0,Value.int 3 0,Value.ref 141,Value.bool true,Value.int 181 0,Value.ref 142,Value.none,Value.ref 143,Value.ref 144,Value.ref 145,Value.int 356 0,Value.int 78 0,Value.str (Str.ofString "/claim/cut.py") 357] }),
  (147,{ cls:=.type "function",data:=.func (fo (stA 9) "_law_alike" (Value.str (Str.ofString "law_uf040010_08") 326) 146) }),
  (151,{ cls:=Value.type "code",data:=Data.fields #[Value.str (Str.ofString "_law_gone") 359,Value.str (Str.ofString "_law_gone") 360,Value.str (Str.ofString "/claim/cut.py") 361,Value.int 90 0,Value.int 3 0,Value.int 0 0,Value.int 0 0,Value.int 3 0,Value.ref 148,Value.bool true,Value.int 181 0,Value.ref 149,Value.none,Value.none,Value.none,Value.ref 150,Value.int 362 0,Value.int 90 0,Value.str (Str.ofString "/claim/cut.py") 363] }),
  (152,{ cls:=.type "function",data:=.func (fo (stA 10) "_law_gone" (Value.str (Str.ofString "law_uf040010_08") 326) 151) }),
  (158,{ cls:=Value.type "code",data:=Data.fields #[Value.str (Str.ofString "_law_refused") 365,Value.str (Str.ofString "_law_refused") 366,Value.str (Str.ofString "/claim/cut.py") 367,Value.int 104 0,Value.int 4 0,Value.int 0 0,Value.int 0 0,Value.int 3 0,Value.ref 153,Value.bool true,Value.int 181 0,Value.ref 154,Value.none,Value.ref 155,Value.ref 156,Value.ref 157,Value.int 372 0,Value.int 104 0,Value.str (Str.ofString "/claim/cut.py") 373] }),
  (159,{ cls:=.type "function",data:=.func (fo (stA 11) "_law_refused" (Value.str (Str.ofString "law_uf040010_08") 326) 158) }),
  (163,{ cls:=Value.type "code",data:=Data.fields #[Value.str (Str.ofString "_law_as_due") 375,Value.str (Str.ofString "_law_as_due") 376,Value.str (Str.ofString "/claim/cut.py") 377,Value.int 119 0,Value.int 4 0,Value.int 0 0,Value.int 0 0,Value.int 3 0,Value.ref 160,Value.bool true,Value.int 181 0,Value.ref 161,Value.none,Value.none,Value.none,Value.ref 162,Value.int 378 0,Value.int 119 0,Value.str (Str.ofString "/claim/cut.py") 379] }),
  (164,{ cls:=.type "function",data:=.func (fo (stA 12) "_law_as_due" (Value.str (Str.ofString "law_uf040010_08") 326) 163) }),
  (168,{ cls:=Value.type "code",data:=Data.fields #[Value.str (Str.ofString "_law_step") 381,Value.str (Str.ofString "_law_step") 382,Value.str (Str.ofString "/claim/cut.py") 383,Value.int 124 0,Value.int 5 0,Value.int 0 0,Value.int 0 0,Value.int 3 0,Value.ref 165,Value.bool true,Value.int 181 0,Value.ref 166,Value.none,Value.none,Value.none,Value.ref 167,Value.int 384 0,Value.int 124 0,Value.str (Str.ofString "/claim/cut.py") 385] }),
  (169,{ cls:=.type "function",data:=.func (fo (stA 13) "_law_step" (Value.str (Str.ofString "law_uf040010_08") 326) 168) }),
  (173,{ cls:=Value.type "code",data:=Data.fields #[Value.str (Str.ofString "_law_chain") 387,Value.str (Str.ofString "_law_chain") 388,Value.str (Str.ofString "/claim/cut.py") 389,Value.int 153 0,Value.int 2 0,Value.int 0 0,Value.int 0 0,Value.int 3 0,Value.ref 170,Value.bool true,Value.int 181 0,Value.ref 171,Value.none,Value.none,Value.none,Value.ref 172,Value.int 390 0,Value.int 153 0,Value.str (Str.ofString "/claim/cut.py") 391] }),
  (174,{ cls:=.type "function",data:=.func (fo (stA 14) "_law_chain" (Value.str (Str.ofString "law_uf040010_08") 326) 173) }),
  (178,{ cls:=Value.type "code",data:=Data.fields #[Value.str (Str.ofString "law") 393,Value.str (Str.ofString "law") 394,Value.str (Str.ofString "/claim/cut.py") 395,Value.int 161 0,Value.int 1 0,Value.int 0 0,Value.int 0 0,Value.int 3 0,Value.ref 175,Value.bool true,Value.int 181 0,Value.ref 176,Value.none,Value.none,Value.none,Value.ref 177,Value.int 396 0,Value.int 161 0,Value.str (Str.ofString "/claim/cut.py") 397] }),
  (179,{ cls:=.type "function",data:=.func (fo (stA 15) "law" (Value.str (Str.ofString "law_uf040010_08") 326) 178) })]
noncomputable def asK:List Nat:=[2,3,23,24,25,36,37,52,53,59,60,66,67,73,74,80,81,87,88,94,95,101,102,106,107,113,114,116,117,118,119,127,128,134,135,139,140,146,147,151,152,158,159,163,164,168,169,173,174,178,179]
noncomputable def kept:Stmt→Bool
  | .Assign [.Name x _] _ _=>x != "__name__"
  | _=>true
noncomputable def view:Program:={ pw_uf040010_08 with main:={ pw_uf040010_08.main with body:=pw_uf040010_08.main.body.filter kept } }
noncomputable def lawD:DefRec:=match (stA 15) with
  | .FunctionDef n a b _ _ _ sc _ _ p=>⟨n,a,b,sc,p⟩
  | _=>⟨"law",default,[],default,default⟩
noncomputable abbrev LAM:Option (Nat×Nat):=none
noncomputable abbrev hook:Hook:=kHook KK asK (fun _=>by kernel_rfl)
theorem left:LeftO rw_uf040010_08.row.prog view [] (fun s=>xlAt view [] s && recOk (RowW.records rw_uf040010_08.row.toRowW) s) hook.obs hook.val 2552:=left_of (by
  intro w
  kernel_rfl)
theorem said:rw_uf040010_08.wellSaid = true:=by kernel_rfl
end
end Mine.L8
end

section
open PySem PyProof.Rows PySem.Calls
set_option maxHeartbeats 4000000
set_option linter.unusedVariables false
namespace Mine.L8
open Mine
noncomputable abbrev fd_Pile___init__:FuncData:=(fo (inA 4 0) "Pile.__init__" (Value.str (Str.ofString "snaptree.pile") 223) 52)
noncomputable abbrev fd_Pile_need:FuncData:=(fo (inA 4 1) "Pile.need" (Value.str (Str.ofString "snaptree.pile") 223) 59)
noncomputable abbrev fd_Pile_fresh:FuncData:=(fo (inA 4 2) "Pile.fresh" (Value.str (Str.ofString "snaptree.pile") 223) 66)
noncomputable abbrev fd_Pile_leaf:FuncData:=(fo (inA 4 3) "Pile.leaf" (Value.str (Str.ofString "snaptree.pile") 223) 73)
noncomputable abbrev fd_Pile_branch:FuncData:=(fo (inA 4 4) "Pile.branch" (Value.str (Str.ofString "snaptree.pile") 223) 80)
noncomputable abbrev fd_Pile_content:FuncData:=(fo (inA 4 5) "Pile.content" (Value.str (Str.ofString "snaptree.pile") 223) 87)
noncomputable abbrev fd_Pile_hold:FuncData:=(fo (inA 4 6) "Pile.hold" (Value.str (Str.ofString "snaptree.pile") 223) 94)
noncomputable abbrev fd_Pile_holders:FuncData:=(fo (inA 4 7) "Pile.holders" (Value.str (Str.ofString "snaptree.pile") 223) 101)
noncomputable abbrev fd_Pile_let_go:FuncData:=(fo (inA 4 8) "Pile.let_go" (Value.str (Str.ofString "snaptree.pile") 223) 106)
noncomputable abbrev fd_Pile_kept:FuncData:=(fo (inA 4 9) "Pile.kept" (Value.str (Str.ofString "snaptree.pile") 223) 113)
noncomputable abbrev fd__law_whole:FuncData:=(fo (stA 6) "_law_whole" (Value.str (Str.ofString "law_uf040010_08") 326) 127)
noncomputable abbrev fd__law_count:FuncData:=(fo (stA 7) "_law_count" (Value.str (Str.ofString "law_uf040010_08") 326) 134)
noncomputable abbrev fd__law_rows_by:FuncData:=(fo (stA 8) "_law_rows_by" (Value.str (Str.ofString "law_uf040010_08") 326) 139)
noncomputable abbrev fd__law_alike:FuncData:=(fo (stA 9) "_law_alike" (Value.str (Str.ofString "law_uf040010_08") 326) 146)
noncomputable abbrev fd__law_gone:FuncData:=(fo (stA 10) "_law_gone" (Value.str (Str.ofString "law_uf040010_08") 326) 151)
noncomputable abbrev fd__law_refused:FuncData:=(fo (stA 11) "_law_refused" (Value.str (Str.ofString "law_uf040010_08") 326) 158)
noncomputable abbrev fd__law_as_due:FuncData:=(fo (stA 12) "_law_as_due" (Value.str (Str.ofString "law_uf040010_08") 326) 163)
noncomputable abbrev fd__law_step:FuncData:=(fo (stA 13) "_law_step" (Value.str (Str.ofString "law_uf040010_08") 326) 168)
noncomputable abbrev fd__law_chain:FuncData:=(fo (stA 14) "_law_chain" (Value.str (Str.ofString "law_uf040010_08") 326) 173)
noncomputable abbrev fd_law:FuncData:=(fo (stA 15) "law" (Value.str (Str.ofString "law_uf040010_08") 326) 178)
theorem d_Pile___init__ {P:Pm} {G:Gx} {n:Nat} (Y:PmOk P) (B:BltOk P) (GO:GxOk P G) (FN:SndFn P G n) (hm:Bool):SS P G n hm (scOf (inA 4 0)) (bodyOf (inA 4 0)) St.b_Pile___init__:=(ss_cons (s1_asgAttr Y GO (se_loc rfl) se_dict0) (ss_cons (s1_asgAttr Y GO (se_loc rfl) se_dict0) (ss_cons (s1_asgAttr Y GO (se_loc rfl) se_int) ss_nil)))
theorem at_Pile___init__ {P:Pm} (Y:PmOk P) (B:BltOk P) (hK:P.K = KK P.w.params) (hl:P.lam = LAM):RowOk P (53,(["self"],St.b_Pile___init__)) :=
  row1 (fd:=fd_Pile___init__) (body:=bodyOf (inA 4 0)) Y hK hl (by kernel_rfl) (by kernel_rfl) (by kernel_rfl) ⟨rfl,rfl,rfl⟩ (fun GO FN hm=>d_Pile___init__ Y B GO FN hm) (fun _=>rfl)
theorem d_Pile_need {P:Pm} {G:Gx} {n:Nat} (Y:PmOk P) (B:BltOk P) (GO:GxOk P G) (FN:SndFn P G n) (hm:Bool):SS P G n hm (scOf (inA 4 1)) (bodyOf (inA 4 1)) St.b_Pile_need:=(ss_cons (s1_if (st_bop (sts_more (st_of_se (se_isi Y B GO rfl rfl rfl rfl rfl (se_loc rfl)) rfl) (sts_more (st_not (st_of_se (se_isi Y B GO rfl rfl rfl rfl rfl (se_loc rfl)) rfl)) (sts_one (st_cmp Y (se_loc rfl) (se_attr Y GO rfl (se_loc rfl)) rfl))))) (ss_cons (s1_raise Y GO rfl) ss_nil) ss_nil) (ss_cons (s1_ret (se_loc rfl)) ss_nil))
theorem at_Pile_need {P:Pm} (Y:PmOk P) (B:BltOk P) (hK:P.K = KK P.w.params) (hl:P.lam = LAM):RowOk P (60,(["self", "box"],St.b_Pile_need)) :=
  row2 (fd:=fd_Pile_need) (body:=bodyOf (inA 4 1)) Y hK hl (by kernel_rfl) (by kernel_rfl) (by kernel_rfl) ⟨rfl,rfl,rfl⟩ (fun GO FN hm=>d_Pile_need Y B GO FN hm) (fun _ _=>rfl)
theorem d_Pile_fresh {P:Pm} {G:Gx} {n:Nat} (Y:PmOk P) (B:BltOk P) (GO:GxOk P G) (FN:SndFn P G n) (hm:Bool):SS P G n hm (scOf (inA 4 2)) (bodyOf (inA 4 2)) St.b_Pile_fresh:=(ss_cons (s1_asgAttr Y GO (se_loc rfl) (se_bin (se_attr Y GO rfl (se_loc rfl)) se_int)) (ss_cons (s1_asgIdx Y (se_attr Y GO rfl (se_loc rfl)) (se_attr Y GO rfl (se_loc rfl)) (se_loc rfl)) (ss_cons (s1_asgIdx Y (se_attr Y GO rfl (se_loc rfl)) (se_attr Y GO rfl (se_loc rfl)) se_int) (ss_cons (s1_ret (se_attr Y GO rfl (se_loc rfl))) ss_nil))))
theorem at_Pile_fresh {P:Pm} (Y:PmOk P) (B:BltOk P) (hK:P.K = KK P.w.params) (hl:P.lam = LAM):RowOk P (67,(["self", "what"],St.b_Pile_fresh)) :=
  row2 (fd:=fd_Pile_fresh) (body:=bodyOf (inA 4 2)) Y hK hl (by kernel_rfl) (by kernel_rfl) (by kernel_rfl) ⟨rfl,rfl,rfl⟩ (fun GO FN hm=>d_Pile_fresh Y B GO FN hm) (fun _ _=>rfl)
theorem d_Pile_leaf {P:Pm} {G:Gx} {n:Nat} (Y:PmOk P) (B:BltOk P) (GO:GxOk P G) (FN:SndFn P G n) (hm:Bool):SS P G n hm (scOf (inA 4 3)) (bodyOf (inA 4 3)) St.b_Pile_leaf:=(ss_cons (s1_ret (se_meth Y GO FN rfl rfl rfl (Nat.le_of_ble_eq_true rfl) (se_loc rfl) (ses_cons rfl (se_tup (ses_cons rfl se_str (ses_cons rfl (se_loc rfl) ses_nil))) ses_nil))) ss_nil)
theorem at_Pile_leaf {P:Pm} (Y:PmOk P) (B:BltOk P) (hK:P.K = KK P.w.params) (hl:P.lam = LAM):RowOk P (74,(["self", "number"],St.b_Pile_leaf)) :=
  row2 (fd:=fd_Pile_leaf) (body:=bodyOf (inA 4 3)) Y hK hl (by kernel_rfl) (by kernel_rfl) (by kernel_rfl) ⟨rfl,rfl,rfl⟩ (fun GO FN hm=>d_Pile_leaf Y B GO FN hm) (fun _ _=>rfl)
theorem d_Pile_branch {P:Pm} {G:Gx} {n:Nat} (Y:PmOk P) (B:BltOk P) (GO:GxOk P G) (FN:SndFn P G n) (hm:Bool):SS P G n hm (scOf (inA 4 4)) (bodyOf (inA 4 4)) St.b_Pile_branch:=(ss_cons (s1_for rfl rfl (se_loc rfl) (ss_cons (s1_expr rfl (se_meth Y GO FN rfl rfl rfl (Nat.le_of_ble_eq_true rfl) (se_loc rfl) (ses_cons rfl (se_idx1 (se_loc rfl) se_int rfl) ses_nil))) ss_nil)) (ss_cons (s1_for rfl rfl (se_loc rfl) (ss_cons (s1_expr rfl (se_meth Y GO FN rfl rfl rfl (Nat.le_of_ble_eq_true rfl) (se_loc rfl) (ses_cons rfl (se_idx1 (se_loc rfl) se_int rfl) ses_nil))) ss_nil)) (ss_cons (s1_ret (se_meth Y GO FN rfl rfl rfl (Nat.le_of_ble_eq_true rfl) (se_loc rfl) (ses_cons rfl (se_tup (ses_cons rfl se_str (ses_cons rfl (se_bf Y B rfl rfl rfl rfl (ses_cons rfl (se_loc rfl) ses_nil)) ses_nil))) ses_nil))) ss_nil)))
theorem at_Pile_branch {P:Pm} (Y:PmOk P) (B:BltOk P) (hK:P.K = KK P.w.params) (hl:P.lam = LAM):RowOk P (81,(["self", "rows"],St.b_Pile_branch)) :=
  row2 (fd:=fd_Pile_branch) (body:=bodyOf (inA 4 4)) Y hK hl (by kernel_rfl) (by kernel_rfl) (by kernel_rfl) ⟨rfl,rfl,rfl⟩ (fun GO FN hm=>d_Pile_branch Y B GO FN hm) (fun _ _=>rfl)
theorem d_Pile_content {P:Pm} {G:Gx} {n:Nat} (Y:PmOk P) (B:BltOk P) (GO:GxOk P G) (FN:SndFn P G n) (hm:Bool):SS P G n hm (scOf (inA 4 5)) (bodyOf (inA 4 5)) St.b_Pile_content:=(ss_cons (s1_asg rfl rfl (se_idx1 (se_attr Y GO rfl (se_loc rfl)) (se_meth Y GO FN rfl rfl rfl (Nat.le_of_ble_eq_true rfl) (se_loc rfl) (ses_cons rfl (se_loc rfl) ses_nil)) rfl)) (ss_cons (s1_if (st_cmp Y (se_idx1 (se_loc rfl) se_int rfl) se_str rfl) (ss_cons (s1_ret (se_tup (ses_cons rfl se_str (ses_cons rfl (se_bf Y B rfl rfl rfl rfl (ses_cons rfl (se_idx1 (se_loc rfl) se_int rfl) ses_nil)) ses_nil)))) ss_nil) ss_nil) (ss_cons (s1_ret (se_loc rfl)) ss_nil)))
theorem at_Pile_content {P:Pm} (Y:PmOk P) (B:BltOk P) (hK:P.K = KK P.w.params) (hl:P.lam = LAM):RowOk P (88,(["self", "box"],St.b_Pile_content)) :=
  row2 (fd:=fd_Pile_content) (body:=bodyOf (inA 4 5)) Y hK hl (by kernel_rfl) (by kernel_rfl) (by kernel_rfl) ⟨rfl,rfl,rfl⟩ (fun GO FN hm=>d_Pile_content Y B GO FN hm) (fun _ _=>rfl)
theorem d_Pile_hold {P:Pm} {G:Gx} {n:Nat} (Y:PmOk P) (B:BltOk P) (GO:GxOk P G) (FN:SndFn P G n) (hm:Bool):SS P G n hm (scOf (inA 4 6)) (bodyOf (inA 4 6)) St.b_Pile_hold:=(ss_cons (s1_expr rfl (se_meth Y GO FN rfl rfl rfl (Nat.le_of_ble_eq_true rfl) (se_loc rfl) (ses_cons rfl (se_loc rfl) ses_nil))) (ss_cons (s1_asgIdx Y (se_attr Y GO rfl (se_loc rfl)) (se_loc rfl) (se_bin (se_idx1 (se_attr Y GO rfl (se_loc rfl)) (se_loc rfl) rfl) se_int)) ss_nil))
theorem at_Pile_hold {P:Pm} (Y:PmOk P) (B:BltOk P) (hK:P.K = KK P.w.params) (hl:P.lam = LAM):RowOk P (95,(["self", "box"],St.b_Pile_hold)) :=
  row2 (fd:=fd_Pile_hold) (body:=bodyOf (inA 4 6)) Y hK hl (by kernel_rfl) (by kernel_rfl) (by kernel_rfl) ⟨rfl,rfl,rfl⟩ (fun GO FN hm=>d_Pile_hold Y B GO FN hm) (fun _ _=>rfl)
theorem d_Pile_holders {P:Pm} {G:Gx} {n:Nat} (Y:PmOk P) (B:BltOk P) (GO:GxOk P G) (FN:SndFn P G n) (hm:Bool):SS P G n hm (scOf (inA 4 7)) (bodyOf (inA 4 7)) St.b_Pile_holders:=(ss_cons (s1_ret (se_idx1 (se_attr Y GO rfl (se_loc rfl)) (se_meth Y GO FN rfl rfl rfl (Nat.le_of_ble_eq_true rfl) (se_loc rfl) (ses_cons rfl (se_loc rfl) ses_nil)) rfl)) ss_nil)
theorem at_Pile_holders {P:Pm} (Y:PmOk P) (B:BltOk P) (hK:P.K = KK P.w.params) (hl:P.lam = LAM):RowOk P (102,(["self", "box"],St.b_Pile_holders)) :=
  row2 (fd:=fd_Pile_holders) (body:=bodyOf (inA 4 7)) Y hK hl (by kernel_rfl) (by kernel_rfl) (by kernel_rfl) ⟨rfl,rfl,rfl⟩ (fun GO FN hm=>d_Pile_holders Y B GO FN hm) (fun _ _=>rfl)
theorem d_Pile_let_go {P:Pm} {G:Gx} {n:Nat} (Y:PmOk P) (B:BltOk P) (GO:GxOk P G) (FN:SndFn P G n) (hm:Bool):SS P G n hm (scOf (inA 4 8)) (bodyOf (inA 4 8)) St.b_Pile_let_go:=(ss_cons (s1_asg rfl rfl (se_list (ses_cons rfl (se_meth Y GO FN rfl rfl rfl (Nat.le_of_ble_eq_true rfl) (se_loc rfl) (ses_cons rfl (se_loc rfl) ses_nil)) ses_nil))) (ss_cons (s1_asg rfl rfl se_int) (ss_cons (s1_while (st_cmp Y (se_loc rfl) (se_list ses_nil) rfl) (ss_cons (s1_asg rfl rfl (se_bm rfl rfl rfl rfl (Nat.le_of_ble_eq_true rfl) (se_loc rfl) ses_nil)) (ss_cons (s1_if (st_cmp Y (se_loc rfl) (se_attr Y GO rfl (se_loc rfl)) rfl) (ss_cons s1_cont ss_nil) ss_nil) (ss_cons (s1_asgIdx Y (se_attr Y GO rfl (se_loc rfl)) (se_loc rfl) (se_bf Y B rfl rfl rfl rfl (ses_cons rfl se_int (ses_cons rfl (se_bin (se_idx1 (se_attr Y GO rfl (se_loc rfl)) (se_loc rfl) rfl) se_int) ses_nil)))) (ss_cons (s1_if (st_cmp Y (se_idx1 (se_attr Y GO rfl (se_loc rfl)) (se_loc rfl) rfl) se_int rfl) (ss_cons (s1_asg rfl rfl (se_bm rfl rfl rfl rfl (Nat.le_of_ble_eq_true rfl) (se_attr Y GO rfl (se_loc rfl)) (ses_cons rfl (se_loc rfl) ses_nil))) (ss_cons (s1_expr rfl (se_bm rfl rfl rfl rfl (Nat.le_of_ble_eq_true rfl) (se_attr Y GO rfl (se_loc rfl)) (ses_cons rfl (se_loc rfl) ses_nil))) (ss_cons (s1_asg rfl rfl (se_bin (se_loc rfl) se_int)) (ss_cons (s1_if (st_cmp Y (se_idx1 (se_loc rfl) se_int rfl) se_str rfl) (ss_cons (s1_asg rfl rfl (se_bin (se_loc rfl) (se_comp rfl rfl (se_idx1 (se_loc rfl) se_int rfl) (se_idx1 (se_loc rfl) se_int rfl) STall.nil))) ss_nil) ss_nil) ss_nil)))) ss_nil) ss_nil))))) (ss_cons (s1_ret (se_loc rfl)) ss_nil))))
theorem at_Pile_let_go {P:Pm} (Y:PmOk P) (B:BltOk P) (hK:P.K = KK P.w.params) (hl:P.lam = LAM):RowOk P (107,(["self", "box"],St.b_Pile_let_go)) :=
  row2 (fd:=fd_Pile_let_go) (body:=bodyOf (inA 4 8)) Y hK hl (by kernel_rfl) (by kernel_rfl) (by kernel_rfl) ⟨rfl,rfl,rfl⟩ (fun GO FN hm=>d_Pile_let_go Y B GO FN hm) (fun _ _=>rfl)
theorem d_Pile_kept {P:Pm} {G:Gx} {n:Nat} (Y:PmOk P) (B:BltOk P) (GO:GxOk P G) (FN:SndFn P G n) (hm:Bool):SS P G n hm (scOf (inA 4 9)) (bodyOf (inA 4 9)) St.b_Pile_kept:=(ss_cons (s1_ret (se_bf Y B rfl rfl rfl rfl (ses_cons rfl (se_attr Y GO rfl (se_loc rfl)) ses_nil))) ss_nil)
theorem at_Pile_kept {P:Pm} (Y:PmOk P) (B:BltOk P) (hK:P.K = KK P.w.params) (hl:P.lam = LAM):RowOk P (114,(["self"],St.b_Pile_kept)) :=
  row1 (fd:=fd_Pile_kept) (body:=bodyOf (inA 4 9)) Y hK hl (by kernel_rfl) (by kernel_rfl) (by kernel_rfl) ⟨rfl,rfl,rfl⟩ (fun GO FN hm=>d_Pile_kept Y B GO FN hm) (fun _=>rfl)
theorem d__law_whole {P:Pm} {G:Gx} {n:Nat} (Y:PmOk P) (B:BltOk P) (GO:GxOk P G) (FN:SndFn P G n) (hm:Bool):SS P G n hm (scOf (stA 6)) (bodyOf (stA 6)) b__law_whole:=(ss_cons (s1_ret (se_bop1 (sbs_cons (se_isi Y B GO rfl rfl rfl rfl rfl (se_loc rfl)) (sbs_one (se_not (se_isi Y B GO rfl rfl rfl rfl rfl (se_loc rfl))))))) ss_nil)
theorem at__law_whole {P:Pm} (Y:PmOk P) (B:BltOk P) (hK:P.K = KK P.w.params) (hl:P.lam = LAM):RowOk P (128,(["_law_seen"],b__law_whole)) :=
  row1 (fd:=fd__law_whole) (body:=bodyOf (stA 6)) Y hK hl (by kernel_rfl) (by kernel_rfl) (by kernel_rfl) ⟨rfl,rfl,rfl⟩ (fun GO FN hm=>d__law_whole Y B GO FN hm) (fun _=>rfl)
theorem d__law_count {P:Pm} {G:Gx} {n:Nat} (Y:PmOk P) (B:BltOk P) (GO:GxOk P G) (FN:SndFn P G n) (hm:Bool):SS P G n hm (scOf (stA 7)) (bodyOf (stA 7)) b__law_count:=(ss_cons (s1_ret (se_bop1 (sbs_cons (se_call Y GO FN rfl (se_glob Y GO rfl) (ses_cons rfl (se_loc rfl) ses_nil)) (sbs_one (se_cmp Y (se_loc rfl) (se_loc rfl) rfl))))) ss_nil)
theorem at__law_count {P:Pm} (Y:PmOk P) (B:BltOk P) (hK:P.K = KK P.w.params) (hl:P.lam = LAM):RowOk P (135,(["_law_seen", "_law_due"],b__law_count)) :=
  row2 (fd:=fd__law_count) (body:=bodyOf (stA 7)) Y hK hl (by kernel_rfl) (by kernel_rfl) (by kernel_rfl) ⟨rfl,rfl,rfl⟩ (fun GO FN hm=>d__law_count Y B GO FN hm) (fun _ _=>rfl)
theorem d__law_rows_by {P:Pm} {G:Gx} {n:Nat} (Y:PmOk P) (B:BltOk P) (GO:GxOk P G) (FN:SndFn P G n) (hm:Bool):SS P G n hm (scOf (stA 8)) (bodyOf (stA 8)) b__law_rows_by:=(ss_cons (s1_asg rfl rfl (se_bin (se_loc rfl) se_int)) (ss_cons (s1_if (st_cmp Y (se_bin (se_bin (se_loc rfl) se_int) se_int) se_int rfl) (ss_cons (s1_asg rfl rfl (se_bin (se_bin (se_loc rfl) se_int) se_int)) ss_nil) ss_nil) (ss_cons (s1_asgComp rfl rfl rfl (se_bf Y B rfl rfl rfl rfl (ses_cons rfl (se_loc rfl) ses_nil)) (se_bin (se_idx1 se_str (se_bin (se_bin (se_bin (se_loc rfl) se_int) (se_bin se_int (se_loc rfl))) se_int) rfl) (se_bin (se_idx1 se_str (se_bin (se_loc rfl) se_int) rfl) (se_bin (se_loc rfl) se_int))) STall.nil) (ss_cons (s1_asg rfl rfl (se_sset Y B rfl rfl rfl (se_loc rfl))) (ss_cons (s1_ret (se_comp rfl rfl (se_bf Y B rfl rfl rfl rfl (ses_cons rfl (se_bf Y B rfl rfl rfl rfl (ses_cons rfl (se_loc rfl) ses_nil)) ses_nil)) (se_tup (ses_cons rfl (se_idx1 (se_loc rfl) (se_loc rfl) rfl) (ses_cons rfl (se_idx1 (se_loc rfl) (se_bin (se_bin (se_bin (se_loc rfl) se_int) (se_bin se_int (se_loc rfl))) (se_bf Y B rfl rfl rfl rfl (ses_cons rfl (se_loc rfl) ses_nil))) rfl) ses_nil))) STall.nil)) ss_nil)))))
theorem at__law_rows_by {P:Pm} (Y:PmOk P) (B:BltOk P) (hK:P.K = KK P.w.params) (hl:P.lam = LAM):RowOk P (140,(["_law_cell", "_law_there"],b__law_rows_by)) :=
  row2 (fd:=fd__law_rows_by) (body:=bodyOf (stA 8)) Y hK hl (by kernel_rfl) (by kernel_rfl) (by kernel_rfl) ⟨rfl,rfl,rfl⟩ (fun GO FN hm=>d__law_rows_by Y B GO FN hm) (fun _ _=>rfl)
theorem d__law_alike {P:Pm} {G:Gx} {n:Nat} (Y:PmOk P) (B:BltOk P) (GO:GxOk P G) (FN:SndFn P G n) (hm:Bool):SS P G n hm (scOf (stA 9)) (bodyOf (stA 9)) b__law_alike:=(ss_cons (s1_if (st_bop (sts_more (st_not (st_of_se (se_isi Y B GO rfl rfl rfl rfl rfl (se_loc rfl)) rfl)) (sts_more (st_cmp Y (se_bf Y B rfl rfl rfl rfl (ses_cons rfl (se_loc rfl) ses_nil)) se_int rfl) (sts_more (st_not (st_of_se (se_isi Y B GO rfl rfl rfl rfl rfl (se_idx1 (se_loc rfl) se_int rfl)) rfl)) (sts_one (st_cmp Y (se_idx1 (se_loc rfl) se_int rfl) (se_idx1 (se_loc rfl) se_int rfl) rfl)))))) (ss_cons (s1_ret se_bool) ss_nil) ss_nil) (ss_cons (s1_if (st_cmp Y (se_idx1 (se_loc rfl) se_int rfl) se_str rfl) (ss_cons (s1_ret (se_call Y GO FN rfl (se_glob Y GO rfl) (ses_cons rfl (se_idx1 (se_loc rfl) se_int rfl) (ses_cons rfl (se_idx1 (se_loc rfl) se_int rfl) ses_nil)))) ss_nil) ss_nil) (ss_cons (s1_if (st_bop (sts_more (st_not (st_of_se (se_isi Y B GO rfl rfl rfl rfl rfl (se_idx1 (se_loc rfl) se_int rfl)) rfl)) (sts_one (st_cmp Y (se_bf Y B rfl rfl rfl rfl (ses_cons rfl (se_idx1 (se_loc rfl) se_int rfl) ses_nil)) (se_bf Y B rfl rfl rfl rfl (ses_cons rfl (se_idx1 (se_loc rfl) se_int rfl) ses_nil)) rfl)))) (ss_cons (s1_ret se_bool) ss_nil) ss_nil) (ss_cons (s1_for rfl rfl (se_bf Y B rfl rfl rfl rfl (ses_cons rfl (se_bf Y B rfl rfl rfl rfl (ses_cons rfl (se_idx1 (se_loc rfl) se_int rfl) ses_nil)) ses_nil)) (ss_cons (s1_asg rfl rfl (se_idx1 (se_idx1 (se_loc rfl) se_int rfl) (se_loc rfl) rfl)) (ss_cons (s1_if (st_bop (sts_more (st_not (st_of_se (se_isi Y B GO rfl rfl rfl rfl rfl (se_loc rfl)) rfl)) (sts_more (st_cmp Y (se_loc rfl) (se_idx1 (se_idx1 (se_loc rfl) se_int rfl) (se_loc rfl) rfl) rfl) (sts_one (st_not (st_of_se (se_call Y GO FN rfl (se_glob Y GO rfl) (ses_cons rfl (se_idx1 (se_loc rfl) se_int rfl) ses_nil)) rfl)))))) (ss_cons (s1_ret se_bool) ss_nil) ss_nil) ss_nil))) (ss_cons (s1_ret se_bool) ss_nil)))))
theorem at__law_alike {P:Pm} (Y:PmOk P) (B:BltOk P) (hK:P.K = KK P.w.params) (hl:P.lam = LAM):RowOk P (147,(["_law_seen", "_law_due"],b__law_alike)) :=
  row2 (fd:=fd__law_alike) (body:=bodyOf (stA 9)) Y hK hl (by kernel_rfl) (by kernel_rfl) (by kernel_rfl) ⟨rfl,rfl,rfl⟩ (fun GO FN hm=>d__law_alike Y B GO FN hm) (fun _ _=>rfl)
theorem d__law_gone {P:Pm} {G:Gx} {n:Nat} (Y:PmOk P) (B:BltOk P) (GO:GxOk P G) (FN:SndFn P G n) (hm:Bool):SS P G n hm (scOf (stA 10)) (bodyOf (stA 10)) b__law_gone:=(ss_cons (s1_asg rfl rfl (se_list (ses_cons rfl (se_loc rfl) ses_nil))) (ss_cons (s1_asg rfl rfl se_int) (ss_cons (s1_while (st_cmp Y (se_loc rfl) (se_list ses_nil) rfl) (ss_cons (s1_asg rfl rfl (se_bm rfl rfl rfl rfl (Nat.le_of_ble_eq_true rfl) (se_loc rfl) ses_nil)) (ss_cons (s1_if (st_cmp Y (se_loc rfl) (se_loc rfl) rfl) (ss_cons (s1_asgIdx Y (se_loc rfl) (se_loc rfl) (se_bf Y B rfl rfl rfl rfl (ses_cons rfl se_int (ses_cons rfl (se_bin (se_idx1 (se_loc rfl) (se_loc rfl) rfl) se_int) ses_nil)))) ss_nil) ss_nil) (ss_cons (s1_if (st_bop (sts_more (st_cmp Y (se_loc rfl) (se_loc rfl) rfl) (sts_one (st_cmp Y (se_idx1 (se_loc rfl) (se_loc rfl) rfl) se_int rfl)))) (ss_cons (s1_asg rfl rfl (se_bin (se_loc rfl) se_int)) (ss_cons (s1_expr rfl (se_bm rfl rfl rfl rfl (Nat.le_of_ble_eq_true rfl) (se_loc rfl) (ses_cons rfl (se_loc rfl) ses_nil))) (ss_cons (s1_asg rfl rfl (se_bm rfl rfl rfl rfl (Nat.le_of_ble_eq_true rfl) (se_loc rfl) (ses_cons rfl (se_loc rfl) ses_nil))) (ss_cons (s1_if (st_cmp Y (se_idx1 (se_loc rfl) se_int rfl) se_str rfl) (ss_cons (s1_asg rfl rfl (se_bin (se_loc rfl) (se_comp rfl rfl (se_idx1 (se_loc rfl) se_int rfl) (se_idx1 (se_loc rfl) se_int rfl) STall.nil))) ss_nil) ss_nil) ss_nil)))) ss_nil) ss_nil)))) (ss_cons (s1_ret (se_loc rfl)) ss_nil))))
theorem at__law_gone {P:Pm} (Y:PmOk P) (B:BltOk P) (hK:P.K = KK P.w.params) (hl:P.lam = LAM):RowOk P (152,(["_law_inside", "_law_counts", "_law_box"],b__law_gone)) :=
  row3 (fd:=fd__law_gone) (body:=bodyOf (stA 10)) Y hK hl (by kernel_rfl) (by kernel_rfl) (by kernel_rfl) ⟨rfl,rfl,rfl⟩ (fun GO FN hm=>d__law_gone Y B GO FN hm) (fun _ _ _=>rfl)
theorem d__law_refused {P:Pm} {G:Gx} {n:Nat} (Y:PmOk P) (B:BltOk P) (GO:GxOk P G) (FN:SndFn P G n) (hm:Bool):SS P G n hm (scOf (stA 11)) (bodyOf (stA 11)) b__law_refused:=(ss_cons (s1_try Y GO (ss_cons (s1_if (st_cmp Y (se_bin (se_loc rfl) se_int) se_int rfl) (ss_cons (s1_expr rfl (se_meth Y GO FN rfl rfl rfl (Nat.le_of_ble_eq_true rfl) (se_loc rfl) (ses_cons rfl (se_loc rfl) ses_nil))) ss_nil) (ss_cons (s1_if (st_cmp Y (se_bin (se_loc rfl) se_int) se_int rfl) (ss_cons (s1_expr rfl (se_meth Y GO FN rfl rfl rfl (Nat.le_of_ble_eq_true rfl) (se_loc rfl) (ses_cons rfl (se_loc rfl) ses_nil))) ss_nil) (ss_cons (s1_if (st_cmp Y (se_bin (se_loc rfl) se_int) se_int rfl) (ss_cons (s1_expr rfl (se_meth Y GO FN rfl rfl rfl (Nat.le_of_ble_eq_true rfl) (se_loc rfl) (ses_cons rfl (se_loc rfl) ses_nil))) ss_nil) (ss_cons (s1_if (st_cmp Y (se_bin (se_loc rfl) se_int) se_int rfl) (ss_cons (s1_expr rfl (se_meth Y GO FN rfl rfl rfl (Nat.le_of_ble_eq_true rfl) (se_loc rfl) (ses_cons rfl (se_loc rfl) ses_nil))) ss_nil) (ss_cons (s1_expr rfl (se_meth Y GO FN rfl rfl rfl (Nat.le_of_ble_eq_true rfl) (se_loc rfl) (ses_cons rfl (se_list (ses_cons rfl (se_tup (ses_cons rfl se_str (ses_cons rfl (se_loc rfl) ses_nil))) (ses_cons rfl (se_tup (ses_cons rfl se_str (ses_cons rfl (se_loc rfl) ses_nil))) (ses_cons rfl (se_tup (ses_cons rfl se_str (ses_cons rfl (se_loc rfl) ses_nil))) ses_nil)))) ses_nil))) ss_nil)) ss_nil)) ss_nil)) ss_nil)) ss_nil) (SH.plain rfl (ss_cons (s1_ret se_bool) ss_nil) SH.nil)) (ss_cons (s1_ret se_bool) ss_nil))
theorem at__law_refused {P:Pm} (Y:PmOk P) (B:BltOk P) (hK:P.K = KK P.w.params) (hl:P.lam = LAM):RowOk P (159,(["_law_pile", "_law_box", "_law_good", "_law_cell"],b__law_refused)) :=
  row4 (fd:=fd__law_refused) (body:=bodyOf (stA 11)) Y hK hl (by kernel_rfl) (by kernel_rfl) (by kernel_rfl) ⟨rfl,rfl,rfl⟩ (fun GO FN hm=>d__law_refused Y B GO FN hm) (fun _ _ _ _=>rfl)
theorem d__law_as_due {P:Pm} {G:Gx} {n:Nat} (Y:PmOk P) (B:BltOk P) (GO:GxOk P G) (FN:SndFn P G n) (hm:Bool):SS P G n hm (scOf (stA 12)) (bodyOf (stA 12)) b__law_as_due:=(ss_cons (s1_asg rfl rfl (se_meth Y GO FN rfl rfl rfl (Nat.le_of_ble_eq_true rfl) (se_loc rfl) ses_nil)) (ss_cons (s1_if (st_bop (sts_more (st_not (st_of_se (se_isi Y B GO rfl rfl rfl rfl rfl (se_loc rfl)) rfl)) (sts_more (st_cmp Y (se_loc rfl) (se_bf Y B rfl rfl rfl rfl (ses_cons rfl (se_loc rfl) ses_nil)) rfl) (sts_one (st_not (st_of_se (se_call Y GO FN rfl (se_glob Y GO rfl) (ses_cons rfl (se_attr Y GO rfl (se_loc rfl)) (ses_cons rfl (se_loc rfl) ses_nil))) rfl)))))) (ss_cons (s1_ret se_bool) ss_nil) ss_nil) (ss_cons (s1_ret (se_bf Y B rfl rfl rfl rfl (ses_cons rfl (se_comp rfl rfl (se_loc rfl) (se_bop1 (sbs_cons (se_call Y GO FN rfl (se_glob Y GO rfl) (ses_cons rfl (se_loc rfl) ses_nil)) (sbs_one (se_call Y GO FN rfl (se_glob Y GO rfl) (ses_cons rfl (se_meth Y GO FN rfl rfl rfl (Nat.le_of_ble_eq_true rfl) (se_loc rfl) (ses_cons rfl (se_loc rfl) ses_nil)) (ses_cons rfl (se_idx1 (se_loc rfl) (se_loc rfl) rfl) ses_nil)))))) STall.nil) ses_nil))) ss_nil)))
theorem at__law_as_due {P:Pm} (Y:PmOk P) (B:BltOk P) (hK:P.K = KK P.w.params) (hl:P.lam = LAM):RowOk P (164,(["_law_pile", "_law_inside", "_law_counts", "_law_made"],b__law_as_due)) :=
  row4 (fd:=fd__law_as_due) (body:=bodyOf (stA 12)) Y hK hl (by kernel_rfl) (by kernel_rfl) (by kernel_rfl) ⟨rfl,rfl,rfl⟩ (fun GO FN hm=>d__law_as_due Y B GO FN hm) (fun _ _ _ _=>rfl)
theorem d__law_step {P:Pm} {G:Gx} {n:Nat} (Y:PmOk P) (B:BltOk P) (GO:GxOk P G) (FN:SndFn P G n) (hm:Bool):SS P G n hm (scOf (stA 13)) (bodyOf (stA 13)) b__law_step:=(ss_cons (s1_asg rfl rfl (se_bf Y B rfl rfl rfl rfl (ses_cons rfl (se_loc rfl) ses_nil))) (ss_cons (s1_asg rfl rfl (se_bin (se_loc rfl) se_int)) (ss_cons (s1_asg rfl rfl (se_bin (se_loc rfl) se_int)) (ss_cons (s1_if (st_bop (sts_more (st_cmp Y (se_loc rfl) se_int rfl) (sts_one (st_cmp Y (se_loc rfl) (se_list ses_nil) rfl)))) (ss_cons (s1_asg rfl rfl (se_bin (se_bin (se_bin (se_loc rfl) (se_bin (se_bin se_int (se_bin se_int se_int)) se_int)) (se_bin se_int se_int)) se_int)) (ss_cons (s1_asgIdx Y (se_loc rfl) (se_bin (se_loc rfl) se_int) (se_tup (ses_cons rfl se_str (ses_cons rfl (se_loc rfl) ses_nil)))) (ss_cons (s1_asgIdx Y (se_loc rfl) (se_bin (se_loc rfl) se_int) se_int) (ss_cons (s1_ret (se_call Y GO FN rfl (se_glob Y GO rfl) (ses_cons rfl (se_meth Y GO FN rfl rfl rfl (Nat.le_of_ble_eq_true rfl) (se_loc rfl) (ses_cons rfl (se_loc rfl) ses_nil)) (ses_cons rfl (se_bin (se_loc rfl) se_int) ses_nil)))) ss_nil)))) ss_nil) (ss_cons (s1_if (st_cmp Y (se_loc rfl) se_int rfl) (ss_cons (s1_asg rfl rfl (se_call Y GO FN rfl (se_glob Y GO rfl) (ses_cons rfl (se_loc rfl) (ses_cons rfl (se_loc rfl) ses_nil)))) (ss_cons (s1_asg rfl rfl (se_bf Y B rfl rfl rfl rfl (ses_cons rfl (se_loc rfl) ses_nil))) (ss_cons (s1_asg rfl rfl (se_meth Y GO FN rfl rfl rfl (Nat.le_of_ble_eq_true rfl) (se_loc rfl) (ses_cons rfl (se_loc rfl) ses_nil))) (ss_cons (s1_if (st_cmp Y (se_loc rfl) (se_loc rfl) rfl) (ss_cons (s1_ret se_bool) ss_nil) ss_nil) (ss_cons (s1_expr rfl (se_bm rfl rfl rfl rfl (Nat.le_of_ble_eq_true rfl) (se_loc rfl) (ses_cons rfl (se_tup (ses_cons rfl se_str (ses_cons rfl (se_idx1 (se_loc rfl) se_int rfl) ses_nil))) ses_nil))) (ss_cons (s1_for rfl rfl (se_loc rfl) (ss_cons (s1_asgIdx Y (se_loc rfl) (se_idx1 (se_loc rfl) se_int rfl) (se_bin (se_idx1 (se_loc rfl) (se_idx1 (se_loc rfl) se_int rfl) rfl) se_int)) ss_nil)) (ss_cons (s1_asgIdx Y (se_loc rfl) (se_bin (se_loc rfl) se_int) (se_tup (ses_cons rfl se_str (ses_cons rfl (se_loc rfl) ses_nil)))) (ss_cons (s1_asgIdx Y (se_loc rfl) (se_bin (se_loc rfl) se_int) se_int) (ss_cons (s1_ret (se_call Y GO FN rfl (se_glob Y GO rfl) (ses_cons rfl (se_loc rfl) (ses_cons rfl (se_bin (se_loc rfl) se_int) ses_nil)))) ss_nil))))))))) ss_nil) (ss_cons (s1_asg rfl rfl (se_idx1 (se_loc rfl) (se_bin (se_loc rfl) (se_bf Y B rfl rfl rfl rfl (ses_cons rfl (se_loc rfl) ses_nil))) rfl)) (ss_cons (s1_if (st_cmp Y (se_loc rfl) se_int rfl) (ss_cons (s1_asgIdx Y (se_loc rfl) (se_loc rfl) (se_bin (se_idx1 (se_loc rfl) (se_loc rfl) rfl) se_int)) (ss_cons (s1_ret (se_bop1 (sbs_cons (se_cmp Y (se_meth Y GO FN rfl rfl rfl (Nat.le_of_ble_eq_true rfl) (se_loc rfl) (ses_cons rfl (se_loc rfl) ses_nil)) se_none rfl) (sbs_one (se_call Y GO FN rfl (se_glob Y GO rfl) (ses_cons rfl (se_meth Y GO FN rfl rfl rfl (Nat.le_of_ble_eq_true rfl) (se_loc rfl) (ses_cons rfl (se_loc rfl) ses_nil)) (ses_cons rfl (se_idx1 (se_loc rfl) (se_loc rfl) rfl) ses_nil))))))) ss_nil)) ss_nil) (ss_cons (s1_if (st_cmp Y (se_loc rfl) se_int rfl) (ss_cons (s1_ret (se_call Y GO FN rfl (se_glob Y GO rfl) (ses_cons rfl (se_meth Y GO FN rfl rfl rfl (Nat.le_of_ble_eq_true rfl) (se_loc rfl) (ses_cons rfl (se_loc rfl) ses_nil)) (ses_cons rfl (se_call Y GO FN rfl (se_glob Y GO rfl) (ses_cons rfl (se_loc rfl) (ses_cons rfl (se_loc rfl) (ses_cons rfl (se_loc rfl) ses_nil)))) ses_nil)))) ss_nil) ss_nil) (ss_cons (s1_asgComp rfl rfl rfl (se_bf Y B rfl rfl rfl rfl (ses_cons rfl se_int (ses_cons rfl (se_bin (se_loc rfl) se_int) ses_nil))) (se_loc rfl) (STall.cons (st_cmp Y (se_loc rfl) (se_loc rfl) rfl) STall.nil)) (ss_cons (s1_ret (se_call Y GO FN rfl (se_glob Y GO rfl) (ses_cons rfl (se_loc rfl) (ses_cons rfl (se_idx1 (se_loc rfl) (se_bin (se_loc rfl) (se_bf Y B rfl rfl rfl rfl (ses_cons rfl (se_loc rfl) ses_nil))) rfl) (ses_cons rfl (se_loc rfl) (ses_cons rfl (se_bin (se_loc rfl) se_int) ses_nil)))))) ss_nil))))))))))
theorem at__law_step {P:Pm} (Y:PmOk P) (B:BltOk P) (hK:P.K = KK P.w.params) (hl:P.lam = LAM):RowOk P (169,(["_law_pile", "_law_inside", "_law_counts", "_law_made", "_law_cell"],b__law_step)) :=
  row5 (fd:=fd__law_step) (body:=bodyOf (stA 13)) Y hK hl (by kernel_rfl) (by kernel_rfl) (by kernel_rfl) ⟨rfl,rfl,rfl⟩ (fun GO FN hm=>d__law_step Y B GO FN hm) (fun _ _ _ _ _=>rfl)
theorem d__law_chain {P:Pm} {G:Gx} {n:Nat} (Y:PmOk P) (B:BltOk P) (GO:GxOk P G) (FN:SndFn P G n) (hm:Bool):SS P G n hm (scOf (stA 14)) (bodyOf (stA 14)) b__law_chain:=(ss_cons (s1_asg rfl rfl (se_call Y GO FN rfl (se_glob Y GO rfl) ses_nil)) (ss_cons (s1_asg rfl rfl (se_meth Y GO FN rfl rfl rfl (Nat.le_of_ble_eq_true rfl) (se_loc rfl) (ses_cons rfl se_int ses_nil))) (ss_cons (s1_for rfl rfl (se_bf Y B rfl rfl rfl rfl (ses_cons rfl (se_loc rfl) ses_nil)) (ss_cons (s1_asg rfl rfl (se_meth Y GO FN rfl rfl rfl (Nat.le_of_ble_eq_true rfl) (se_loc rfl) (ses_cons rfl (se_comp rfl rfl (se_bf Y B rfl rfl rfl rfl (ses_cons rfl (se_loc rfl) ses_nil)) (se_tup (ses_cons rfl (se_idx1 se_str (se_loc rfl) rfl) (ses_cons rfl (se_loc rfl) ses_nil))) STall.nil) ses_nil))) ss_nil)) (ss_cons (s1_if (st_bop (sts_more (st_cmp Y (se_meth Y GO FN rfl rfl rfl (Nat.le_of_ble_eq_true rfl) (se_loc rfl) ses_nil) (se_comp rfl rfl (se_bf Y B rfl rfl rfl rfl (ses_cons rfl (se_bin (se_loc rfl) se_int) ses_nil)) (se_bin (se_loc rfl) se_int) STall.nil) rfl) (sts_one (st_not (st_of_se (se_call Y GO FN rfl (se_glob Y GO rfl) (ses_cons rfl (se_meth Y GO FN rfl rfl rfl (Nat.le_of_ble_eq_true rfl) (se_loc rfl) (ses_cons rfl se_int ses_nil)) (ses_cons rfl (se_bin (se_loc rfl) (se_bf Y B rfl rfl rfl rfl (ses_cons rfl (se_cmp Y (se_loc rfl) se_int rfl) ses_nil))) ses_nil))) rfl))))) (ss_cons (s1_ret se_bool) ss_nil) ss_nil) (ss_cons (s1_ret (se_bop1 (sbs_cons (se_call Y GO FN rfl (se_glob Y GO rfl) (ses_cons rfl (se_meth Y GO FN rfl rfl rfl (Nat.le_of_ble_eq_true rfl) (se_loc rfl) (ses_cons rfl (se_loc rfl) ses_nil)) (ses_cons rfl (se_bin (se_loc rfl) se_int) ses_nil))) (sbs_cons (se_cmp Y (se_meth Y GO FN rfl rfl rfl (Nat.le_of_ble_eq_true rfl) (se_loc rfl) ses_nil) (se_list ses_nil) rfl) (sbs_one (se_call Y GO FN rfl (se_glob Y GO rfl) (ses_cons rfl (se_attr Y GO rfl (se_loc rfl)) (ses_cons rfl (se_bin (se_loc rfl) se_int) ses_nil)))))))) ss_nil)))))
theorem at__law_chain {P:Pm} (Y:PmOk P) (B:BltOk P) (hK:P.K = KK P.w.params) (hl:P.lam = LAM):RowOk P (174,(["_law_many", "_law_named"],b__law_chain)) :=
  row2 (fd:=fd__law_chain) (body:=bodyOf (stA 14)) Y hK hl (by kernel_rfl) (by kernel_rfl) (by kernel_rfl) ⟨rfl,rfl,rfl⟩ (fun GO FN hm=>d__law_chain Y B GO FN hm) (fun _ _=>rfl)
theorem d_law {P:Pm} {G:Gx} {n:Nat} (Y:PmOk P) (B:BltOk P) (GO:GxOk P G) (FN:SndFn P G n) (hm:Bool):SS P G n hm (scOf (stA 15)) (bodyOf (stA 15)) b_law:=(ss_cons (s1_if (st_bop (sts_more (st_cmp Y (se_loc rfl) (se_list ses_nil) rfl) (sts_one (st_not (st_of_se (se_call Y GO FN rfl (se_glob Y GO rfl) (ses_cons rfl (se_bin (se_bin (se_idx1 (se_loc rfl) se_int rfl) se_int) se_int) (ses_cons rfl (se_bin se_int (se_bin (se_bin (se_idx1 (se_loc rfl) se_int rfl) se_int) se_int)) ses_nil))) rfl))))) (ss_cons (s1_ret se_bool) ss_nil) ss_nil) (ss_cons (s1_asg rfl rfl (se_call Y GO FN rfl (se_glob Y GO rfl) ses_nil)) (ss_cons (s1_asg rfl rfl se_dict0) (ss_cons (s1_asg rfl rfl se_dict0) (ss_cons (s1_asg rfl rfl se_int) (ss_cons (s1_for rfl rfl (se_slice (se_loc rfl) so_none (so_some se_int)) (ss_cons (s1_if (st_not (st_of_se (se_call Y GO FN rfl (se_glob Y GO rfl) (ses_cons rfl (se_loc rfl) (ses_cons rfl (se_loc rfl) (ses_cons rfl (se_loc rfl) (ses_cons rfl (se_loc rfl) (ses_cons rfl (se_loc rfl) ses_nil)))))) rfl)) (ss_cons (s1_ret se_bool) ss_nil) ss_nil) (ss_cons (s1_asg rfl rfl (se_bf Y B rfl rfl rfl rfl (ses_cons rfl (se_bin (se_list (ses_cons rfl (se_loc rfl) ses_nil)) (se_bf Y B rfl rfl rfl rfl (ses_cons rfl (se_loc rfl) ses_nil))) ses_nil))) (ss_cons (s1_if (st_not (st_of_se (se_call Y GO FN rfl (se_glob Y GO rfl) (ses_cons rfl (se_loc rfl) (ses_cons rfl (se_loc rfl) (ses_cons rfl (se_loc rfl) (ses_cons rfl (se_loc rfl) ses_nil))))) rfl)) (ss_cons (s1_ret se_bool) ss_nil) ss_nil) (ss_cons (s1_for rfl rfl (se_slice (se_bf Y B rfl rfl rfl rfl (ses_cons rfl (se_loc rfl) ses_nil)) (so_some (se_neg se_int)) so_none) (ss_cons (s1_asg rfl rfl (se_meth Y GO FN rfl rfl rfl (Nat.le_of_ble_eq_true rfl) (se_loc rfl) (ses_cons rfl (se_loc rfl) ses_nil))) (ss_cons (s1_if (st_not (st_of_se (se_call Y GO FN rfl (se_glob Y GO rfl) (ses_cons rfl (se_loc rfl) (ses_cons rfl (se_idx1 (se_loc rfl) (se_loc rfl) rfl) ses_nil))) rfl)) (ss_cons (s1_ret se_bool) ss_nil) ss_nil) (ss_cons (s1_if (st_cmp Y (se_idx1 (se_idx1 (se_loc rfl) (se_loc rfl) rfl) se_int rfl) se_str rfl) (ss_cons (s1_expr rfl (se_bm rfl rfl rfl rfl (Nat.le_of_ble_eq_true rfl) (se_idx1 (se_loc rfl) se_int rfl) (ses_cons rfl (se_tup (ses_cons rfl se_str (ses_cons rfl se_int ses_nil))) ses_nil))) ss_nil) ss_nil) ss_nil)))) ss_nil))))) (ss_cons (s1_ret (se_bf Y B rfl rfl rfl rfl (ses_cons rfl (se_comp rfl rfl (se_bf Y B rfl rfl rfl rfl (ses_cons rfl (se_loc rfl) ses_nil)) (se_call Y GO FN rfl (se_glob Y GO rfl) (ses_cons rfl (se_meth Y GO FN rfl rfl rfl (Nat.le_of_ble_eq_true rfl) (se_loc rfl) (ses_cons rfl (se_loc rfl) ses_nil)) (ses_cons rfl (se_idx1 (se_loc rfl) (se_loc rfl) rfl) ses_nil))) STall.nil) ses_nil))) ss_nil)))))))
theorem at_law {P:Pm} (Y:PmOk P) (B:BltOk P) (hK:P.K = KK P.w.params) (hl:P.lam = LAM):RowOk P (179,(["_law_script"],b_law)) :=
  row1 (fd:=fd_law) (body:=bodyOf (stA 15)) Y hK hl (by kernel_rfl) (by kernel_rfl) (by kernel_rfl) ⟨rfl,rfl,rfl⟩ (fun GO FN hm=>d_law Y B GO FN hm) (fun _=>rfl)
noncomputable def tabL:List (Addr×(List Str×List Sm)):=[((53:Addr),((["self"]:List Str),St.b_Pile___init__)),((60:Addr),((["self", "box"]:List Str),St.b_Pile_need)),((67:Addr),((["self", "what"]:List Str),St.b_Pile_fresh)),((74:Addr),((["self", "number"]:List Str),St.b_Pile_leaf)),((81:Addr),((["self", "rows"]:List Str),St.b_Pile_branch)),((88:Addr),((["self", "box"]:List Str),St.b_Pile_content)),((95:Addr),((["self", "box"]:List Str),St.b_Pile_hold)),((102:Addr),((["self", "box"]:List Str),St.b_Pile_holders)),((107:Addr),((["self", "box"]:List Str),St.b_Pile_let_go)),((114:Addr),((["self"]:List Str),St.b_Pile_kept)),((128:Addr),((["_law_seen"]:List Str),b__law_whole)),((135:Addr),((["_law_seen", "_law_due"]:List Str),b__law_count)),((140:Addr),((["_law_cell", "_law_there"]:List Str),b__law_rows_by)),((147:Addr),((["_law_seen", "_law_due"]:List Str),b__law_alike)),((152:Addr),((["_law_inside", "_law_counts", "_law_box"]:List Str),b__law_gone)),((159:Addr),((["_law_pile", "_law_box", "_law_good", "_law_cell"]:List Str),b__law_refused)),((164:Addr),((["_law_pile", "_law_inside", "_law_counts", "_law_made"]:List Str),b__law_as_due)),((169:Addr),((["_law_pile", "_law_inside", "_law_counts", "_law_made", "_law_cell"]:List Str),b__law_step)),((174:Addr),((["_law_many", "_law_named"]:List Str),b__law_chain)),((179:Addr),((["_law_script"]:List Str),b_law))]
noncomputable def tab:Tab:=fun f=>tabL.lookup f
theorem tab_ok {P:Pm} (Y:PmOk P) (B:BltOk P) (hK:P.K = KK P.w.params) (hl:P.lam = LAM):TabOk P tab:=tabOk_of (L:=tabL) (.cons (at_Pile___init__ Y B hK hl) (.cons (at_Pile_need Y B hK hl) (.cons (at_Pile_fresh Y B hK hl) (.cons (at_Pile_leaf Y B hK hl) (.cons (at_Pile_branch Y B hK hl) (.cons (at_Pile_content Y B hK hl) (.cons (at_Pile_hold Y B hK hl) (.cons (at_Pile_holders Y B hK hl) (.cons (at_Pile_let_go Y B hK hl) (.cons (at_Pile_kept Y B hK hl) (.cons (at__law_whole Y B hK hl) (.cons (at__law_count Y B hK hl) (.cons (at__law_rows_by Y B hK hl) (.cons (at__law_alike Y B hK hl) (.cons (at__law_gone Y B hK hl) (.cons (at__law_refused Y B hK hl) (.cons (at__law_as_due Y B hK hl) (.cons (at__law_step Y B hK hl) (.cons (at__law_chain Y B hK hl) (.cons (at_law Y B hK hl) RowsOk.nil))))))))))))))))))))
end Mine.L8
end

section
open PySem PySem.W PyProof.Rows PySem.Challenge
set_option maxHeartbeats 0
namespace Mine.L8
theorem holds_of {names:List Str} (h:LawTells KK names tab 179):rw_uf040010_08.Holds :=
  holds_law said fun said=>holds_open (q:=view) (d:=lawD) (kwd:=[]) left (Hook.of hook) (Hook.keeps hook) (fun s e=>xl_of s (Bool.and_eq_true_iff.mp e).1) XL.keeps (by kernel_rfl) (by kernel_rfl) (by kernel_rfl) (fun s e=>recFacts_of (Bool.and_eq_true_iff.mp e).2) (by rfl) said (by decide +kernel) ⟨rfl,rfl,rfl,rfl,rfl,by decide +kernel⟩ (by w_witness2) (by
  intro w s₀ s₁ mg mb G Y fa o pm cd doc dV kV ho hd hcd hD hmg hg args vals as hpre hlay hrd hwl hlo
  have KX:=kIn_of Y
  clear ho hd hcd hD
  refine Ground.open G ?_
  intro T B D TE TW
  wrow_args hpre hlay hrd hwl hlo
  rename_i hL ra w1 r0 hI hr hc hc'
  refine law_runs (K:=KK) (names:=names) (tab:=tab) KX (topRead_of T) hmg rfl (by kernel_rfl) tab_ok hL hI hc h fun s' h1 h2 h3=>GoodW.toG ⟨.inl ⟨.bool true, .bool true,[],rfl,fun _=>rfl, .bool true,by kernel_rfl,fun _=>⟨.nil,fun _ h=>(nomatch h)⟩⟩,h3,h2,h1.trans hg⟩)
end Mine.L8
end

section
open PySem PyProof.Rows
set_option maxHeartbeats 0
namespace Mine.L8
open Mine Mine.St
noncomputable def ae (c m:Str) (a:Addr):(Str×Str)×Addr:=((c,m),a)
noncomputable def adL:List ((Str×Str)×Addr):=[ae "SnapError" "" 24,ae "NoBox" "" 37,ae "Pile" "" 117,ae "Pile" "__init__" 53,ae "Pile" "need" 60,ae "Pile" "fresh" 67,ae "Pile" "leaf" 74,ae "Pile" "branch" 81,ae "Pile" "content" 88,ae "Pile" "hold" 95,ae "Pile" "holders" 102,ae "Pile" "let_go" 107,ae "Pile" "kept" 114,ae "_law_whole" "" 128,ae "_law_count" "" 135,ae "_law_rows_by" "" 140,ae "_law_alike" "" 147,ae "_law_gone" "" 152,ae "_law_refused" "" 159,ae "_law_as_due" "" 164,ae "_law_step" "" 169,ae "_law_chain" "" 174,ae "law" "" 179]
noncomputable def ad:Ad:=fun c m=>(adL.lookup (c,m)).getD 0
noncomputable def names:List Str:=["SnapError", "NoBox"]
noncomputable def Al (P:Str→Prop):List Str→Prop
  | []=>True
  | x :: r=>P x∧Al P r
theorem has_al {P:Str→Prop} {m:Str}:∀ {L:List Str},has m L = true→Al P L→P m
  | [],h,_=>by cases h
  | x :: r,h,⟨h1,h2⟩=>by
    have h:(decide (x = m) || has m r) = true:=h
    rw [Bool.or_eq_true] at h
    rcases h with h | h
    · rw [← of_decide_eq_true h];exact h1
    · exact has_al h h2
theorem el (p:Params):E8 (gOf (KK p) names) ad where
  p:=⟨by kernel_rfl,by kernel_rfl,fun h=>has_al (P:=fun m=>(gOf (KK p) names).meth (ad "Pile" "") m = some (ad "Pile" m)) h ⟨by kernel_rfl,by kernel_rfl,by kernel_rfl,by kernel_rfl,by kernel_rfl,by kernel_rfl,by kernel_rfl,by kernel_rfl,by kernel_rfl,trivial⟩,fun h=>has_al (P:=fun a=>(gOf (KK p) names).fld (ad "Pile" "") a = true) h ⟨by kernel_rfl,by kernel_rfl,by kernel_rfl,trivial⟩⟩
  l:=⟨fun h=>has_al (P:=fun x=>(gOf (KK p) names).glob x = some (.ref (ad x ""))∧(gOf (KK p) names).init (ad x "") = none) h ⟨⟨by kernel_rfl,by kernel_rfl⟩,⟨by kernel_rfl,by kernel_rfl⟩,⟨by kernel_rfl,by kernel_rfl⟩,⟨by kernel_rfl,by kernel_rfl⟩,⟨by kernel_rfl,by kernel_rfl⟩,⟨by kernel_rfl,by kernel_rfl⟩,⟨by kernel_rfl,by kernel_rfl⟩,⟨by kernel_rfl,by kernel_rfl⟩,⟨by kernel_rfl,by kernel_rfl⟩,trivial⟩,by kernel_rfl,by kernel_rfl,by kernel_rfl⟩
theorem tl:TabL tab ad where
  q:=⟨⟨by unfold HasF;kernel_rfl,by unfold HasF;kernel_rfl,by unfold HasF;kernel_rfl,by unfold HasF;kernel_rfl,by unfold HasF;kernel_rfl,by unfold HasF;kernel_rfl,by unfold HasF;kernel_rfl⟩,by unfold HasF;kernel_rfl,by unfold HasF;kernel_rfl,by unfold HasF;kernel_rfl⟩
  whole:=by unfold HasF;kernel_rfl
  count:=by unfold HasF;kernel_rfl
  rows_by:=by unfold HasF;kernel_rfl
  alike:=by unfold HasF;kernel_rfl
  gone:=by unfold HasF;kernel_rfl
  refused:=by unfold HasF;kernel_rfl
  as_due:=by unfold HasF;kernel_rfl
  step:=by unfold HasF;kernel_rfl
  chain:=by unfold HasF;kernel_rfl
  law:=by unfold HasF;kernel_rfl
end Mine.L8
end

theorem PySem.Challenge.cw_uf040010_08_holds : PySem.Challenge.rw_uf040010_08.Holds :=
  Mine.L8.holds_of fun p a ns hn=>Mine.L8.law_tells (Mine.L8.el p) Mine.L8.tl (H:=Mine.hOf a ns) hn (by unfold Mine.hOf;exact if_pos rfl)
