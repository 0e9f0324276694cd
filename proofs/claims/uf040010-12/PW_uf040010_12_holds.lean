import PyProof.Rows.All
import PySem.SetOps
import PyProof.AttrMissHeap
import PyProof.MeetsSeq3
import PyProof.SetScanFacts
import OpenK.KMake
import OpenK.KWalk
import KE.LcSums
import KE.KSlice
import KE.KLam
import KE.KDictList
import KE.KDictSum
import KE.KDictOf
import OpenK.KOwn
import KE.KSortKey
import KE.KNestM
import KE.KSortTup
import PySem.Challenge.RW_uf040010_12
set_option Elab.async false
set_option linter.unusedVariables false
set_option linter.unusedSimpArgs false
set_option linter.unusedSectionVars false
set_option maxRecDepth 100000
set_option compiler.extract_closed false
set_option hygiene false
set_option tactic.hygienic false
set_option genSizeOf false
set_option genSizeOfSpec false
set_option bootstrap.genMatcherCode false
set_option genInjectivity false
open Array renaming length_toList→aq,getElem?_toList→aW,getElem?_eq_getElem→bC,toList_append→bO,getElem?_eq_some_iff→dj,toList_push→dO,getElem_toList→fu,getElem_extract→fO,size_extract→fQ,getElem?_eq_none→iw,getD_eq_getD_getElem?→iy,toList_reverse→iU,size_setIfInBounds→jX,toList_extract→lN,toArray_toList→lO,size_push→nR,replicate→nU,getD→qm,forIn_toList→qp,toList_map→qX,getElem?_setIfInBounds→rG,toList_setIfInBounds→sG,size_map→sH,perm_iff_toList_perm→sI,toList_filterMap→um,foldl_toList→vq,toList_zip→wu,toList_inj→wB
open Array.Perm renaming refl→m9
open Bool renaming and_eq_true_iff→bf,false_ne_true→cZ,not_eq_true'→gV,or_eq_true_iff→mj,not_eq_false'→qu,false_eq_true→qw
open Classical renaming byContradiction→bA
open Decidable renaming byContradiction→q8
open Eq renaming trans→vK
open ForInStep renaming yield→jq
open Function renaming comp→wk
open Int renaming toNat_natCast→cG,natCast_nonneg→cR,ofNat_le→dD,eq_ofNat_of_zero_le→gY,not_lt→gZ,ofNat_lt→iC,le_trans→iD,le_of_lt→iG,lt_of_lt_of_le→jx,lt_of_le_of_lt→jy,le_refl→jL,add_assoc→j7,lt_add_one_of_le→lV,add_le_add_right→lW,add_le_add_left→mF,add_comm→mK,sub_add_cancel→mR,le_add_of_nonneg_right→mU,add_sub_cancel→mV,toNat_lt→nZ,add_zero→n7,le_antisymm→oW,sub_le_sub_right→pL,zero_add→qT,ne_of_gt→qU,lt_trans→qW,min_eq_right→rD,max_eq_right→rE,min_eq_left→su,zero_mul→uN,ediv_one→uO,sub_nonneg_of_le→vg,mul_one→vh,le_of_lt_add_one→vm,not_le→v9,emod_lt_of_pos→wg,add_right_comm→wj
open LawfulBEq renaming eq_of_beq→cP
open LawfulMonad renaming bind_assoc→uF
open List renaming length_map→aA,mem_singleton→aC,length_append→aG,not_mem_nil→aH,mem_cons→aM,mem_append_right→aN,mem_map→aO,append_assoc→aP,mem_append→aR,map_append→aX,append_nil→aY,mem_append_left→aZ,map_eq_cons_iff→bH,map_cons→bJ,pairwise_append→bN,map_map→bY,map_eq_nil_iff→bZ,mem_cons_of_mem→cu,getElem?_eq_getElem→cB,getElem?_map→cD,pairwise_cons→cX,mem_filter→cY,pairwise_map→dh,range→dw,length_cons→dF,length_singleton→dJ,length_eq_zero_iff→dN,drop_eq_getElem_cons→dY,mem_cons_self→d7,nodup_cons→eE,take_append_drop→eG,size_toArray→eH,length_range→eN,all_eq_true→fD,getElem?_eq_some_iff→fH,map_congr_left→fK,mem_iff_getElem?→fP,lookup_cons→fW,forall_mem_cons→fX,filter_cons→fY,map_nil→gq,reverse_append→gB,pairwise_iff_getElem→gF,cons_lt_cons_iff→gG,mem_range→gQ,perm_middle→iH,getElem?_append_right→iI,length_filterMap_le→iY,mem_reverse→ji,length_take→jj,find?_cons→jA,replicate→jF,not_lt→jG,getLast?_concat→jH,getElem_mem→jP,mem_of_find?_eq_some→jU,extract_eq_take_drop→jV,getElem_of_mem→jW,filterMap_cons_some→jZ,mem_filterMap→kj,find?_eq_none→kE,pairwise_filterMap→kI,take_of_length_le→kZ,drop_zero→lu,drop_eq_nil_of_le→lA,perm_append_comm→lE,pairwise_reverse→lF,mem_flatMap→lG,cons_ne_nil→lH,any_eq_true→lJ,reverse_reverse→lQ,dropLast_concat→lR,forIn_cons→lX,getLast?_eq_getElem?→mY,getElem?_append_left→mZ,length→m7,length_erase_of_mem→ni,filterMap_cons_none→nj,map→nC,le_antisymm→nF,drop_length→nG,length_pos_of_mem→nQ,singleton_append→oG,length_filter_le→oH,getElem?_eq_none→oM,eq_nil_or_concat→oN,count_cons_of_ne→oO,cons_prefix_cons→oR,concat_eq_append→oV,take_zero→o9,mem_of_mem_take→pq,mem_of_mem_drop→pA,mem_erase_of_ne→pB,map_id→pC,lt_irrefl→pD,find?_map→pF,count_cons_self→pG,length_pos_iff→pX,filterMap_cons→pY,any_cons→qg,zip_cons_cons→qt,take_succ_eq_append_getElem→qD,reverse_perm→qF,getLast?_map→qG,prefix_refl→qZ,nil_append→rN,find?_some→rO,filter_map→rP,length_eraseIdx_of_lt→sW,forIn_nil→sX,map_take→tY,lt_asymm→tZ,getElem?_toArray→uM,range_eq_range'→uR,range'→uT,mem_of_getElem?→uU,length_dropLast→uV,mem_map_of_mem→u9,getElem?_range→vd,flatMap_append→vf,map_inj_right→vD,getElem?_drop→vG,count_pos_iff→vH,count_eq_zero→vJ,take_add_one→vX,nodup_append→vY,map_dropLast→vZ,flatMap_cons→v7,ext_getElem?→v8
open List.Pairwise renaming nil→sY
open List.Perm renaming append_left→jt,refl→lU,trans→qC,swap→qQ,cons→qR,append_right→rZ
open List.Sublist renaming refl→tM
open List.cons renaming inj→oU
open Nat renaming le_trans→aj,le_of_ble_eq_true→ao,lt_of_lt_of_le→aB,le_refl→aD,le_add_right→aF,lt_of_le_of_lt→aK,add_le_add_left→aL,le_of_lt→aQ,succ_le_succ→aU,add_le_add_right→bw,le_of_eq→bI,zero_le→bL,ne_of_lt→bQ,le_of_lt_succ→bU,lt_succ_self→bV,add_right_comm→cA,add_sub_cancel'→cC,lt_of_succ_lt→cF,add_le_add→cI,le_antisymm→cM,add_lt_add_left→cN,one_pos→cO,lt_add_of_pos_right→cQ,sub_lt→cU,le_sub_one_of_lt→cV,lt_or_ge→cW,mul_le_mul_right→dg,min_eq_left→dG,add_comm→dH,le_succ_of_le→dR,le_of_succ_le→dU,add_assoc→dW,le_succ→dX,zero_add→d9,le_add_left→eF,succ_pos→eU,sub_pos_of_lt→eX,lt_trans→eY,lt_succ_of_lt→eZ,sub_le_sub_right→fB,mul_le_mul_left→fM,sub_le→fV,lt_irrefl→gj,lt_succ_of_le→gA,sub_add_cancel→gM,pos_of_ne_zero→gO,le_of_not_lt→gP,zero_lt_of_lt→gW,sub_le_sub_left→iu,lt_of_le_of_ne→iJ,le_of_sub_eq_zero→iK,not_lt_zero→iW,not_lt→iZ,le_max_right→jo,lt_or_eq_of_le→jw,min_eq_right→jR,lt_of_not_ge→jT,min_le_left→j9,sub_sub→kJ,add_sub_cancel_left→kO,ne_of_gt→lB,eq_zero_of_not_pos→lC,min_le_right→lM,succ_add_eq_add_succ→nA,le_mul_of_pos_right→nO,lt_of_succ_lt_succ→nY,sub_eq_zero_of_le→oZ,add_sub_add_right→o7,add_lt_of_lt_sub'→o8,mul_le_mul→pI,lt_sub_of_add_lt→pJ,le_sub_of_add_le→pK,mod_lt→qy,add_sub_cancel→qz,succ_le_of_lt→qI,sub_self→qJ,lt_trichotomy→qK,lt_of_succ_le→qM,add_zero→qO,add_sub_assoc→qP,lt_of_add_lt_add_left→tX,exists_eq_add_of_le→uo,le_total→uJ,le_of_succ_le_succ→uK,le_mul_of_pos_left→uL,sub_lt_sub_right→uZ,le_zero→u5,add_lt_of_lt_sub→u6,sub_right_comm→vU,le_min→vV,eq_zero_or_pos→vW
open Nat.succ renaming inj→sU
open Ne renaming symm→cH
open Option renaming map_eq_some_iff→bG,bind_eq_some_iff→je,map_eq_none_iff→jr,map→jY,isSome_iff_exists→mX,none→oE,map_map→oF,toList_none→pW,none_or→rK,filter_eq_some_iff→rY,bind_some→vC
open Option.some renaming inj→jh
open PyProof.Rows renaming listItems_at→jD,listUpdate_at→mC,get?_update_seq→pQ,keyKind'→rC,seqEpoch_at→tQ,entry_list_sort→uf,slot_list_sort→ux,pairsOf_toList→uy,ksk_tail→uD,pairsOf_size→vL
open PyProof.Rows.KeyOrd renaming kle_trans→dK,kle_of_klt→fJ,kle_refl→iQ,klt_of_kle_of_klt→sZ
open PyProof.Rows.SortSt renaming mk'→pR
open PyProof.Rows.recsOf renaming match_7→vR
open PySem renaming wpAny_bind→ak,wpAny_pure→au,strKind→bB,wpAny_mono→bT,wpAny_holding→bW,wpAny_standAt→fG,wpAny_call_entry→fL,without→f9,wpAny_newObj_type→gD,codeAny_builtin→gJ,wpAny_rule→gU,wpAny_Call_NameR→iM,plainId_quiet→jm,wpAny_setField→ju,wpAny_typeNameOfWhole_keyiter→jB,wpAny_truthy_bool→jM,codeAny_mono→j4,Fin→j8,wpAny_ite_split→kW,getMethod_builtin→lK,wpAny_isInstance→lY,strKind_is→lZ,wpAny_attempt→mq,wpAny_field→mH,wpAny_evalPart_none→mW,wpAny_newTuple→nq,isSubtype_type→nu,wpAny_storeSet_of→nP,wpAny_newList→nW,wpAny_callSpecial?_slot→oX,wpAny_typeOf→pH,wpAny_updateSeq→pN,wpAny_loadPart'→pO,wpAny_execs_nil→pP,builtinLookup_eq_fast→pZ,wpAny_of_eq→qx,wpAny_call→ru,wpAny_Constant_str→rz,wpAny_Constant_int→rA,wpAny_pyIter_slot→rQ,wpAny_pyIter_list→rR,wpAny_dictEntries→rT,wpAny_assign_Name→rU,wpAny_askSetting→tD,wpAny_Dict_empty→tE,slot_list_append→tG,entryFor_of_tree→tH,wpAny_dictEpoch→uc,typeLookup_type→ud,wpAny_seqItems→uq,wpAny_load→ur,wpAny_fieldsOf→uw,intKind_is→uE,call_meetsIn→vM
open PySem.Around renaming under_plainId→fj
open PySem.Builtin.Dict renaming showsAll→rF
open PySem.Builtin.Int renaming intBits→tC
open PySem.Builtin.List renaming listLengthHint→ql,listSameRef→qH,listItems→q9
open PySem.Builtin.Range renaming rangeSize→cJ,small→fU,rangeFitsLong→lD
open PySem.Builtin.Str renaming tooLong→tB
open PySem.Calls renaming spliced_cons→fZ,spliced_nil→jC
open PySem.Code renaming builtin→mG
open PySem.F renaming slot_dict_keyiterator_next→jE,slot_dict_get→kY,plainAttrs_dict→m5,plain_extend_loop→rJ,args_dict_keyiterator_next_1→sE,plain_list_iadd→sO,args_dict_get_3→sS,entry_dict_keyiterator_next→s7,entry_dict_get→tK,type_dict_get→tU,slot_list_pop→tV,slot_dict_pop→tW,slot_list_lt→ug
open PySem.Heap renaming get?_push_of_some→aJ,get?_push_size→aV,get?_update_other→bF,lt_size→bM,get?_update_self→dB,SameBut→iB,size_push→jJ,get?_none_of_le→jK
open PySem.Heap.SameBut renaming update→dZ,refl→tO
open PySem.IsRange renaming new→uh
open PySem.Keeper renaming machine→mD,frame→nH
open PySem.Manifest.Receiver renaming self→qd,none→qe
open PySem.MeetsSeq3 renaming plain_eq_loop→iT,entry_eq_loop→ou
open PySem.NameKind renaming free→jO,cell→rM
open PySem.Obj renaming mapSeq→cT,mapFields→j6,data_mapFields→mQ,isFreed_of_fields→oY,putSet→tL
open PySem.PyData renaming keyHash→oA
open PySem.SetTable renaming insertAt→c7,below→dI,runEnd→gb,grown→gK,advance→ig,turns→iz,bits→iR,toList_insertAt→mL,probeStart→oh,layClean→pU,Probe→qY,leap→rH,fill→rI,tooFull→uP,probe→vA,slot→vN,fits→vO
open PySem.SetTable.Met renaming empty→sJ
open PySem.SetTable.below renaming go→jf
open PySem.SetTable.instReprSlot.repr renaming match_1→tR
open PySem.SetTable.layClean renaming free→gH
open PySem.SetTable.probe renaming go→jN
open PySem.Str renaming ofString→eO
open PySem.Txt renaming slice→nM,contains→uG
open PySem.Value renaming str→bR,int→cL,ref→jz,none→j5,type→mJ,bool→nJ
open PySem.W renaming Looks→jQ,Frag→qb,keepIn→rB,topRead_of→uH,looks_keep→uI,emptyDict→uQ,kdl_dict→uW,kdl_call→uX,kas_kind→uY,ghostOf→vB,InstAt→vQ
open PySem.W.Looks renaming of_pure→mO
open PySem.Walks renaming list→rW
open PySem.attributeBase renaming match_7→vP
namespace HW.Internal
universe u
@[elab_as_elim] theorem Rw {α:Sort u}{a b:α}{motive:α->Prop}(h:a=b)(e:motive b):motive a:=by
 cases h
 exact e
theorem Dr {p:Prop}(h:∀ g:Prop,(p->g)->g):p:=h p λh=>h
local macro_rules
  | `(tactic| rewrite [$h:term])=>`(tactic| first | refine Rw $h ?_ | fail)
  | `(tactic| rewrite [<- $h:term])=>`(tactic| first | refine Rw (Eq.symm $h) ?_ | fail)
  | `(tactic| rewrite [$r,$rs,*])=>`(tactic| (rewrite [$r];rewrite [$rs,*]))
local macro_rules
  | `(tactic| obtain ⟨$a,$b,$c,$d,*⟩:=$e)=>`(tactic| (refine Dr λgg kk=>?_;rcases $e:term with ⟨$a,$b,$c,$d,*⟩;refine kk ?_;clear kk gg))
section
open PySem PySem.W PyProof.Rows
noncomputable def Od (tb:String->Option Builtin)(p:Program)(w:World)(n₀:Nat)(ann:Option Value):Nat->SharedT->Thread->Option SharedT
 | 0,_,_=>none
 | n+1,s,t=>bif through t then some s else bif stepOk n₀ ann t then(stepT (denote tb) p w s t).bind λr=>Od tb p w n₀ ann n r.1 r.2 else none
theorem afe {tb:String->Option Builtin}{p:Program}{w:World}{n₀:Nat}{ann:Option Value}{n:Nat}{s s':SharedT}{t:Thread}(h:Od tb p w n₀ ann n s t=some s'):topRun tb p w n₀ ann n s.abs t=some s'.abs:=by
 induction n generalizing s t with
 | zero=>cases h
 | succ n ih =>
  have h:(bif through t then some s else bif stepOk n₀ ann t then(stepT (denote tb) p w s t).bind λr=>Od tb p w n₀ ann n r.1 r.2 else none)=some s':=h
  unfold topRun
  cases he:through t with
  | true=>rw[he] at h;cases h;rfl
  | false =>
   rw[he] at h
   cases hk:stepOk n₀ ann t with
   | false=>rw[hk] at h;cases h
   | true =>
    rw[hk] at h
    cases hs:stepT (denote tb) p w s t with
    | none=>rw[hs] at h;cases h
    | some r=>rw[hs] at h;rw[stepT_spec hs];exact ih h
noncomputable def Oe:List Obj->BT->Nat->Option (BT×Nat)
 | [],t,n=>some (t,n)
 | o::r,t,n=>bif ((t.ins n o).get n).isSome then Oe r (t.ins n o) (n+1) else none
theorem afg {life:Life}(l:List Obj)(t:BT)(n:Nat){t':BT}{n':Nat}(h:Oe l t n=some (t',n')):(absHeap t' n' life).objs.toList=(absHeap t n life).objs.toList++l:=by
 induction l generalizing t n with
 | nil=>cases h;rw[aY]
 | cons o r ih =>
  have h:(bif ((t.ins n o).get n).isSome then Oe r (t.ins n o) (n+1) else none)=some (t',n'):=h
  cases g:((t.ins n o).get n).isSome with
  | false=>rw[g] at h;cases h
  | true =>
   rw[g] at h
   rw[ih _ _ h,absHeap_ins g]
   show((absHeap t n life).objs.push o).toList++r=_
   rw[dO,aP];rfl
noncomputable def toT (s:Shared):Option SharedT:=match Oe s.heap.objs.toList .nil 0 with
 | some (t,n)=>some ⟨t,n,s.heap.life,s.gens,s.drawn,s.toks,s.os⟩
 | none=>none
theorem afh {s:Shared}{x:SharedT}(h:toT s=some x):x.abs=s:=by
 unfold toT at h
 cases e:Oe s.heap.objs.toList .nil 0 with
 | none=>rw[e] at h;cases h
 | some r =>
  rw[e] at h
  cases h
  have:=afg (life:=s.heap.life) _ _ _ e
  obtain⟨⟨objs,life⟩,gens,drawn,toks,os⟩:=s
  show Shared.mk (absHeap r.1 r.2 life) gens drawn toks os=_
  congr 1
  show Heap.mk (absHeap r.1 r.2 life).objs life=_
  rw[(Array.toList_inj.mp (show(absHeap r.1 r.2 life).objs.toList=objs.toList from by simpa [absHeap,BT.list] using this):(absHeap r.1 r.2 life).objs=objs)]
noncomputable def QZ (tb:String->Option Builtin)(p:Program)(w:World)(N:Nat)(s₀:Shared):Option Shared :=
 match s₀.heap.isNs mainGlobals&&s₀.gens.size==0 with
 | true=>match toT s₀ with
  | some x=>(Od tb p w s₀.heap.objs.size (s₀.heap.nsMap mainGlobals "__annotations__") N x (topStub p)).bind λs₁=>match staticsOk (importedModules p.main.body) s₀.heap s₁.abs.heap&&namesBound p s₁.abs.heap&&gensDone s₁.abs&&laidKept s₀.heap s₁.abs.heap with
   | true=>some s₁.abs
   | false=>none
  | none=>none
 | false=>none
theorem afi {tb:String->Option Builtin}{p:Program}{w:World}{N:Nat}{s₀ r:Shared}(h:QZ tb p w N s₀=some r):topFrom tb p w N s₀=some r:=by
 unfold QZ at h
 unfold topFrom
 cases e:s₀.heap.isNs mainGlobals&&s₀.gens.size==0 with
 | false=>rw[e] at h;cases h
 | true =>
  rw[e] at h
  dsimp only at h ⊢
  cases ex:toT s₀ with
  | none=>rw[ex] at h;cases h
  | some x =>
   rw[ex] at h
   dsimp only at h
   cases er:Od tb p w s₀.heap.objs.size (s₀.heap.nsMap mainGlobals "__annotations__") N x (topStub p) with
   | none=>rw[er] at h;cases h
   | some s₁ =>
    rw[er] at h
    have:=afe er
    rw[afh ex] at this
    rw[this]
    exact h
theorem afj {p q:Program}{loose:List Str}{Xt:Shared->Bool}{α:Type}{Yf:Shared->α}{Ya:World->α}{N:Nat}
  (h:∀ w:World,jY (λs=>(openSeen q loose (importedModules p.main.body) Xt true s,Yf s)) ((fencedOpening treeTable p w N).bind (QZ treeTable p w N))=some (openGood q loose,Ya w)):LeftO p q loose Xt Yf Ya N:=by
 intro w
 have h:=h w
 unfold openEnds
 cases e:fencedOpening treeTable p w N with
 | none=>rw[e] at h;cases h
 | some s₀ =>
  rw[e] at h
  simp only[vC] at h ⊢
  cases e2:QZ treeTable p w N s₀ with
  | none=>rw[e2] at h;cases h
  | some r=>rw[e2] at h;rw[afi e2];exact h
end
section
open PySem PySem.W PyProof.Rows PySem.Challenge
set_option maxHeartbeats 0
set_option maxRecDepth 1000000
namespace Gl
section
noncomputable def yF (i:Nat):Stmt:=pw_uf040010_12.main.body.getD i (.Pass default)
noncomputable def yd (i j:Nat):Stmt:=PySem.tameStmt.match_1 (λuu=>Stmt) (yF i) (λuu uu uu b uu uu uu uu uu uu uu=>b.getD j (.Pass default)) λs=>s
noncomputable def dr (st:Stmt):DefRec:=vR (λuu=>DefRec) st (λn a b uu uu uu sc uu uu p=>⟨n,a,b,sc,p⟩) λuu=>⟨"",default,[],default,default⟩
noncomputable def fo (st:Stmt)(q:String)(m:Value)(c:Nat):FuncData:={ name:=(dr st).name,qualname:=q,params:=(dr st).params,body:=.stmts (dr st).body,scope:=(dr st).scope,globals:=3,closure:=[],defaults:=.none,kwdefaults:=.none,pyModule:=m,code:=.ref c }
noncomputable def en (P:Params)(x:String)(t:Nat)(v:Value):DictEntry:={ hash:=oA P x,key:=.str x t,val:=v }
noncomputable def co (n q:Str)(t:Nat)(l a:Int)(r:Nat)(b:Bool)(m:Nat):Obj:={ cls:=.type "code",data:=.fields #[.str n t,.str q (t+1),.str "/claim/cut.py" (t+2),.int l 0,.int a 0,.int 0 0,.int 0 0,.int 3 0,.ref r,.bool true,.int 181 0,.ref (r+1),.none,bif b then .ref (r+2) else .none,bif b then .ref (r+3) else .none,.ref (bif b then r+4 else r+2),.int m 0,.int l 0,.str "/claim/cut.py" (m+1)] }
noncomputable def fn (f:FuncData):Obj:={ cls:=.type "function",data:=.func f }
noncomputable def zU:Value:=.str "law_uf040010_12" 667
noncomputable def Q0:Value:=.str "snaptree.paths" 326
noncomputable def BJ:Value:=.str "snaptree.pile" 344
noncomputable def K7:Value:=.str "snaptree.rows" 447
noncomputable def yL:Value:=.str "snaptree.store" 470
noncomputable def KK (P:Params):Frag:=[
 (2,{ cls:=.none,data:=.dict #[] }),
 (3,{ cls:=.type "dict",data:=.dict #[en P "__name__" 165 (.str "law_uf040010_12" 667),en P "__doc__" 166 .none,en P "__package__" 167 .none,en P "__loader__" 168 (.builtin "__main__.__loader__#opaque"),en P "__spec__" 169 .none,en P "__annotations__" 170 (.ref 6),en P "__builtins__" 171 (.ref 4),en P "__file__" 173 (.str "/claim/cut.py" 172),en P "__cached__" 174 .none,en P "_wall" 193 (.ref 21),en P "SnapError" 213 (.ref 31),en P "BadPath" 229 (.ref 44),en P "BadNumber" 245 (.ref 56),en P "Nothing" 261 (.ref 68),en P "LeafThere" 277 (.ref 80),en P "BranchThere" 293 (.ref 92),en P "NoShot" 309 (.ref 104),en P "NoBox" 325 (.ref 116),en P "LETTERS" 329 (.str "abcdefghijklmnopqrstuvwxyz" 328),en P "MOST" 331 (.int 8 330),en P "is_name" 337 (.ref 123),en P "checked" 343 (.ref 128),en P "Pile" 446 (.ref 206),en P "box_of" 457 (.ref 217),en P "without" 463 (.ref 222),en P "placed" 469 (.ref 227),en P "BOUND" 475 (.int 1000000000000000000000000000000 474),en P "need_way" 483 (.ref 234),en P "need_number" 490 (.ref 241),en P "Store" 666 (.ref 366),en P "_law_whole" 675 (.ref 377),en P "_law_cell_at" 683 (.ref 384),en P "_law_name_by" 689 (.ref 389),en P "_law_path_by" 695 (.ref 394),en P "_law_number_by" 702 (.ref 401),en P "_law_count" 710 (.ref 408),en P "_law_asked" 723 (.ref 415),en P "_law_done" 732 (.ref 422),en P "_law_rows" 740 (.ref 429),en P "_law_leaves" 746 (.ref 434),en P "_law_looked" 761 (.ref 441),en P "_law_told" 773 (.ref 448),en P "law" 779 (.ref 453)] 43 }),
 (20,co "_wall" "_wall" 187 1 1 15 true 191),
 (21,fn (fo (yF 0) "_wall" (.str "__main__" 164) 20)),
 (30,{ cls:=.type "dict",data:=.dict #[en P "__module__" 203 (.str "snaptree.errors" 194),en P "__firstlineno__" 207 (.int 5 206),en P "__static_attributes__" 208 (.ref 29),en P "__weakref__" 210 (.ref 32),en P "__doc__" 211 .none] 3 }),
 (31,{ cls:=.type "type",data:=.cls { name := "SnapError",bases:=[.type "ValueError"],mro:=[.ref 31,.type "ValueError",.type "Exception",.type "BaseException",.type "object"],ns:=30,qualname := "SnapError",subclasses:=[.ref 44,.ref 56,.ref 68,.ref 80,.ref 92,.ref 104,.ref 116] },slots:=#[some (.ref 22),none,some (.str "SnapError" 196),some (.str "SnapError" 204),some (.builtin "ValueError.__new__"),some (.bool true)] }),
 (32,{ cls:=.type "getset_descriptor",data:=.fields #[.str "__weakref__" 209,.ref 31,.builtin "ExceptionGroup.__weakref__",.none] }),
 (43,{ cls:=.type "dict",data:=.dict #[en P "__module__" 221 (.str "snaptree.errors" 194),en P "__firstlineno__" 225 (.int 7 224),en P "__static_attributes__" 226 (.ref 42),en P "__doc__" 227 .none] 2 }),
 (44,{ cls:=.type "type",data:=.cls { name := "BadPath",bases:=[.ref 31],mro:=[.ref 44,.ref 31,.type "ValueError",.type "Exception",.type "BaseException",.type "object"],ns:=43,qualname := "BadPath" },slots:=#[some (.ref 35),none,some (.str "BadPath" 214),some (.str "BadPath" 222),some (.builtin "ValueError.__new__"),some (.bool true)] }),
 (55,{ cls:=.type "dict",data:=.dict #[en P "__module__" 237 (.str "snaptree.errors" 194),en P "__firstlineno__" 241 (.int 9 240),en P "__static_attributes__" 242 (.ref 54),en P "__doc__" 243 .none] 2 }),
 (56,{ cls:=.type "type",data:=.cls { name := "BadNumber",bases:=[.ref 31],mro:=[.ref 56,.ref 31,.type "ValueError",.type "Exception",.type "BaseException",.type "object"],ns:=55,qualname := "BadNumber" },slots:=#[some (.ref 47),none,some (.str "BadNumber" 230),some (.str "BadNumber" 238),some (.builtin "ValueError.__new__"),some (.bool true)] }),
 (67,{ cls:=.type "dict",data:=.dict #[en P "__module__" 253 (.str "snaptree.errors" 194),en P "__firstlineno__" 257 (.int 11 256),en P "__static_attributes__" 258 (.ref 66),en P "__doc__" 259 .none] 2 }),
 (68,{ cls:=.type "type",data:=.cls { name := "Nothing",bases:=[.ref 31],mro:=[.ref 68,.ref 31,.type "ValueError",.type "Exception",.type "BaseException",.type "object"],ns:=67,qualname := "Nothing" },slots:=#[some (.ref 59),none,some (.str "Nothing" 246),some (.str "Nothing" 254),some (.builtin "ValueError.__new__"),some (.bool true)] }),
 (79,{ cls:=.type "dict",data:=.dict #[en P "__module__" 269 (.str "snaptree.errors" 194),en P "__firstlineno__" 273 (.int 13 272),en P "__static_attributes__" 274 (.ref 78),en P "__doc__" 275 .none] 2 }),
 (80,{ cls:=.type "type",data:=.cls { name := "LeafThere",bases:=[.ref 31],mro:=[.ref 80,.ref 31,.type "ValueError",.type "Exception",.type "BaseException",.type "object"],ns:=79,qualname := "LeafThere" },slots:=#[some (.ref 71),none,some (.str "LeafThere" 262),some (.str "LeafThere" 270),some (.builtin "ValueError.__new__"),some (.bool true)] }),
 (91,{ cls:=.type "dict",data:=.dict #[en P "__module__" 285 (.str "snaptree.errors" 194),en P "__firstlineno__" 289 (.int 15 288),en P "__static_attributes__" 290 (.ref 90),en P "__doc__" 291 .none] 2 }),
 (92,{ cls:=.type "type",data:=.cls { name := "BranchThere",bases:=[.ref 31],mro:=[.ref 92,.ref 31,.type "ValueError",.type "Exception",.type "BaseException",.type "object"],ns:=91,qualname := "BranchThere" },slots:=#[some (.ref 83),none,some (.str "BranchThere" 278),some (.str "BranchThere" 286),some (.builtin "ValueError.__new__"),some (.bool true)] }),
 (103,{ cls:=.type "dict",data:=.dict #[en P "__module__" 301 (.str "snaptree.errors" 194),en P "__firstlineno__" 305 (.int 17 304),en P "__static_attributes__" 306 (.ref 102),en P "__doc__" 307 .none] 2 }),
 (104,{ cls:=.type "type",data:=.cls { name := "NoShot",bases:=[.ref 31],mro:=[.ref 104,.ref 31,.type "ValueError",.type "Exception",.type "BaseException",.type "object"],ns:=103,qualname := "NoShot" },slots:=#[some (.ref 95),none,some (.str "NoShot" 294),some (.str "NoShot" 302),some (.builtin "ValueError.__new__"),some (.bool true)] }),
 (115,{ cls:=.type "dict",data:=.dict #[en P "__module__" 317 (.str "snaptree.errors" 194),en P "__firstlineno__" 321 (.int 19 320),en P "__static_attributes__" 322 (.ref 114),en P "__doc__" 323 .none] 2 }),
 (116,{ cls:=.type "type",data:=.cls { name := "NoBox",bases:=[.ref 31],mro:=[.ref 116,.ref 31,.type "ValueError",.type "Exception",.type "BaseException",.type "object"],ns:=115,qualname := "NoBox" },slots:=#[some (.ref 107),none,some (.str "NoBox" 310),some (.str "NoBox" 318),some (.builtin "ValueError.__new__"),some (.bool true)] }),
 (122,co "is_name" "is_name" 332 24 1 119 false 335),
 (123,fn (fo (yF 13) "is_name" Q0 122)),
 (127,co "checked" "checked" 338 28 1 124 false 341),
 (128,fn (fo (yF 14) "checked" Q0 127)),
 (141,co "__init__" "Pile.__init__" 358 37 1 136 true 362),
 (142,fn (fo (yd 16 0) "Pile.__init__" BJ 141)),
 (148,co "need" "Pile.need" 365 42 2 143 true 370),
 (149,fn (fo (yd 16 1) "Pile.need" BJ 148)),
 (155,co "fresh" "Pile.fresh" 373 47 2 150 true 378),
 (156,fn (fo (yd 16 2) "Pile.fresh" BJ 155)),
 (162,co "leaf" "Pile.leaf" 381 53 2 157 true 386),
 (163,fn (fo (yd 16 3) "Pile.leaf" BJ 162)),
 (169,co "branch" "Pile.branch" 389 56 2 164 true 395),
 (170,fn (fo (yd 16 4) "Pile.branch" BJ 169)),
 (176,co "content" "Pile.content" 398 63 2 171 true 404),
 (177,fn (fo (yd 16 5) "Pile.content" BJ 176)),
 (183,co "hold" "Pile.hold" 407 69 2 178 true 412),
 (184,fn (fo (yd 16 6) "Pile.hold" BJ 183)),
 (190,co "holders" "Pile.holders" 415 73 2 185 true 420),
 (191,fn (fo (yd 16 7) "Pile.holders" BJ 190)),
 (195,co "let_go" "Pile.let_go" 423 76 2 192 false 426),
 (196,fn (fo (yd 16 8) "Pile.let_go" BJ 195)),
 (202,co "kept" "Pile.kept" 429 92 1 197 true 433),
 (203,fn (fo (yd 16 9) "Pile.kept" BJ 202)),
 (205,{ cls:=.type "dict",data:=.dict #[en P "__module__" 353 (.str "snaptree.pile" 344),en P "__firstlineno__" 357 (.int 35 356),en P "__init__" 364 (.ref 142),en P "need" 372 (.ref 149),en P "fresh" 380 (.ref 156),en P "leaf" 388 (.ref 163),en P "branch" 397 (.ref 170),en P "content" 406 (.ref 177),en P "hold" 414 (.ref 184),en P "holders" 422 (.ref 191),en P "let_go" 428 (.ref 196),en P "kept" 435 (.ref 203),en P "__static_attributes__" 439 (.ref 204),en P "__dict__" 441 (.ref 207),en P "__weakref__" 443 (.ref 208),en P "__doc__" 444 .none] 4 }),
 (206,{ cls:=.type "type",data:=.cls { name := "Pile",bases:=[.type "object"],mro:=[.ref 206,.type "object"],ns:=205,qualname := "Pile" },slots:=#[none,none,some (.str "Pile" 346),some (.str "Pile" 354),some (.builtin "object.__new__"),some (.bool true)] }),
 (207,{ cls:=.type "getset_descriptor",data:=.fields #[.str "__dict__" 440,.ref 206,.builtin "function.__dict__",.builtin "function.__dict__#set"] }),
 (208,{ cls:=.type "getset_descriptor",data:=.fields #[.str "__weakref__" 442,.ref 206,.builtin "ExceptionGroup.__weakref__",.none] }),
 (216,co "box_of" "box_of" 449 95 2 211 true 455),
 (217,fn (fo (yF 18) "box_of" K7 216)),
 (221,co "without" "without" 458 100 2 218 false 461),
 (222,fn (fo (yF 19) "without" K7 221)),
 (226,co "placed" "placed" 464 102 3 223 false 467),
 (227,fn (fo (yF 20) "placed" K7 226)),
 (233,co "need_way" "need_way" 476 108 1 228 true 481),
 (234,fn (fo (yF 23) "need_way" yL 233)),
 (240,co "need_number" "need_number" 484 113 1 235 true 488),
 (241,fn (fo (yF 24) "need_number" yL 240)),
 (254,co "__init__" "Store.__init__" 503 118 1 249 true 507),
 (255,fn (fo (yd 25 0) "Store.__init__" yL 254)),
 (261,co "top" "Store.top" 510 125 2 256 true 515),
 (262,fn (fo (yd 25 1) "Store.top" yL 261)),
 (268,co "found" "Store.found" 518 132 3 263 true 526),
 (269,fn (fo (yd 25 2) "Store.found" yL 268)),
 (275,co "ways" "Store.ways" 529 142 2 270 true 537),
 (276,fn (fo (yd 25 3) "Store.ways" yL 275)),
 (282,co "changed" "Store.changed" 540 152 2 277 true 546),
 (283,fn (fo (yd 25 4) "Store.changed" yL 282)),
 (289,co "put" "Store.put" 549 158 3 284 true 560),
 (290,fn (fo (yd 25 5) "Store.put" yL 289)),
 (296,co "cut" "Store.cut" 563 175 2 291 true 572),
 (297,fn (fo (yd 25 6) "Store.cut" yL 296)),
 (303,co "snap" "Store.snap" 575 185 1 298 true 579),
 (304,fn (fo (yd 25 7) "Store.snap" yL 303)),
 (310,co "shot" "Store.shot" 582 191 2 305 true 587),
 (311,fn (fo (yd 25 8) "Store.shot" yL 310)),
 (317,co "drop" "Store.drop" 590 196 2 312 true 596),
 (318,fn (fo (yd 25 9) "Store.drop" yL 317)),
 (324,co "back" "Store.back" 599 201 2 319 true 604),
 (325,fn (fo (yd 25 10) "Store.back" yL 324)),
 (331,co "shot_numbers" "Store.shot_numbers" 607 204 1 326 true 611),
 (332,fn (fo (yd 25 11) "Store.shot_numbers" yL 331)),
 (338,co "kind" "Store.kind" 614 207 3 333 true 621),
 (339,fn (fo (yd 25 12) "Store.kind" yL 338)),
 (345,co "value" "Store.value" 624 213 3 340 true 631),
 (346,fn (fo (yd 25 13) "Store.value" yL 345)),
 (350,co "names" "Store.names" 634 221 3 347 false 637),
 (351,fn (fo (yd 25 14) "Store.names" yL 350)),
 (357,co "both" "Store.both" 640 230 2 352 true 646),
 (358,fn (fo (yd 25 15) "Store.both" yL 357)),
 (362,co "changes" "Store.changes" 649 238 3 359 false 652),
 (363,fn (fo (yd 25 16) "Store.changes" yL 362)),
 (365,{ cls:=.type "dict",data:=.dict #[en P "__module__" 498 (.str "snaptree.store" 470),en P "__firstlineno__" 502 (.int 116 501),en P "__init__" 509 (.ref 255),en P "top" 517 (.ref 262),en P "found" 528 (.ref 269),en P "ways" 539 (.ref 276),en P "changed" 548 (.ref 283),en P "put" 562 (.ref 290),en P "cut" 574 (.ref 297),en P "snap" 581 (.ref 304),en P "shot" 589 (.ref 311),en P "drop" 598 (.ref 318),en P "back" 606 (.ref 325),en P "shot_numbers" 613 (.ref 332),en P "kind" 623 (.ref 339),en P "value" 633 (.ref 346),en P "names" 639 (.ref 351),en P "both" 648 (.ref 358),en P "changes" 654 (.ref 363),en P "__static_attributes__" 659 (.ref 364),en P "__dict__" 661 (.ref 367),en P "__weakref__" 663 (.ref 368),en P "__doc__" 664 .none] 4 }),
 (366,{ cls:=.type "type",data:=.cls { name := "Store",bases:=[.type "object"],mro:=[.ref 366,.type "object"],ns:=365,qualname := "Store" },slots:=#[none,none,some (.str "Store" 491),some (.str "Store" 499),some (.builtin "object.__new__"),some (.bool true)] }),
 (367,{ cls:=.type "getset_descriptor",data:=.fields #[.str "__dict__" 660,.ref 366,.builtin "function.__dict__",.builtin "function.__dict__#set"] }),
 (368,{ cls:=.type "getset_descriptor",data:=.fields #[.str "__weakref__" 662,.ref 366,.builtin "ExceptionGroup.__weakref__",.none] }),
 (376,co "_law_whole" "_law_whole" 669 255 1 371 true 673),
 (377,fn (fo (yF 27) "_law_whole" zU 376)),
 (383,co "_law_cell_at" "_law_cell_at" 676 257 2 378 true 681),
 (384,fn (fo (yF 28) "_law_cell_at" zU 383)),
 (388,co "_law_name_by" "_law_name_by" 684 261 1 385 false 687),
 (389,fn (fo (yF 29) "_law_name_by" zU 388)),
 (393,co "_law_path_by" "_law_path_by" 690 270 1 390 false 693),
 (394,fn (fo (yF 30) "_law_path_by" zU 393)),
 (400,co "_law_number_by" "_law_number_by" 696 273 1 395 true 700),
 (401,fn (fo (yF 31) "_law_number_by" zU 400)),
 (407,co "_law_count" "_law_count" 703 277 2 402 true 708),
 (408,fn (fo (yF 32) "_law_count" zU 407)),
 (414,co "_law_asked" "_law_asked" 711 279 3 409 true 721),
 (415,fn (fo (yF 33) "_law_asked" zU 414)),
 (421,co "_law_done" "_law_done" 724 296 3 416 true 730),
 (422,fn (fo (yF 34) "_law_done" zU 421)),
 (428,co "_law_rows" "_law_rows" 733 301 2 423 true 738),
 (429,fn (fo (yF 35) "_law_rows" zU 428)),
 (433,co "_law_leaves" "_law_leaves" 741 305 2 430 false 744),
 (434,fn (fo (yF 36) "_law_leaves" zU 433)),
 (440,co "_law_looked" "_law_looked" 747 316 3 435 true 759),
 (441,fn (fo (yF 37) "_law_looked" zU 440)),
 (447,co "_law_told" "_law_told" 762 328 3 442 true 771),
 (448,fn (fo (yF 38) "_law_told" zU 447)),
 (452,co "law" "law" 774 343 1 449 false 777),
 (453,fn (fo (yF 39) "law" zU 452))]
noncomputable def asK:List Nat:=[2,3,20,21,30,31,32,43,44,55,56,67,68,79,80,91,92,103,104,115,116,122,123,127,128,141,142,148,149,155,156,162,163,169,170,176,177,183,184,190,191,195,196,202,203,205,206,207,208,216,217,221,222,226,227,233,234,240,241,254,255,261,262,268,269,275,276,282,283,289,290,296,297,303,304,310,311,317,318,324,325,331,332,338,339,345,346,350,351,357,358,362,363,365,366,367,368,376,377,383,384,388,389,393,394,400,401,407,408,414,415,421,422,428,429,433,434,440,441,447,448,452,453]
noncomputable def view:Program:={ pw_uf040010_12 with main:={ pw_uf040010_12.main with body:=(pw_uf040010_12.main.body.zipIdx.filter λp=>!([1,10,15,17,21,26].contains p.2)).map (·.1) } }
noncomputable abbrev afk:DefRec:=dr (yF 39)
noncomputable abbrev LAM:Option (Nat×Nat×Str):=some (362,360,"Store.changes.<locals>.<lambda>")
noncomputable abbrev hook:Hook:=kmHook KK asK (λuu=>by kernel_rfl) [360]
theorem left:LeftO rw_uf040010_12.row.prog view ["BOUND"] (λs=>xlAt view [("BOUND",.int 1000000000000000000000000000000)] s&&recOk (RowW.records rw_uf040010_12.row.toRowW) s) hook.obs hook.val 7392:=afj (by
 intro w
 kernel_rfl)
theorem said:rw_uf040010_12.wellSaid=true:=by kernel_rfl
end
end Gl
end
section
open PySem PyProof.Rows
namespace wD
structure Cx where
 prog:Program
 w:World
 A:Around
 E:Value->Shared->Prop
 s:Shared
 kd:SortKind
 O:KeyOrd
 key:Keyed->O.α
 ok:Keyed->Prop
def W (τ:Cx){α:Type}(m:StateT SortSt Sem α)(Q:α->SortSt->Prop)(st:SortSt):Prop:=wpS (model τ.prog τ.w) τ.A τ.E τ.s m Q st
section
variable {τ:Cx}{α β:Type}{st:SortSt}
theorem wV {m:StateT SortSt Sem α}{f:α->StateT SortSt Sem β}{Q:β->SortSt->Prop}(h:W τ m (λa st'=>W τ (f a) Q st') st):W τ (m>>=f) Q st:=wpS_bind h
theorem xg {a:α}{Q:α->SortSt->Prop}(h:Q a st):W τ (pure a) Q st:=wpS_pure h
theorem En {Q:SortSt->SortSt->Prop}(h:Q st st):W τ get Q st:=wpS_get h
theorem HX {m:StateT SortSt Sem α}{Q Q':α->SortSt->Prop}(h:W τ m Q st)(q:∀ a st',Q a st'->Q' a st'):W τ m Q' st:=wpS_mono h q
theorem GQ {m:Sem α}{Q:α->SortSt->Prop}(h:wpAny (model τ.prog τ.w) τ.A m (λa s'=>s'=τ.s/\Q a st) τ.E τ.s):W τ (liftM m) Q st:=wpS_lift h
theorem JB {f:SortSt->SortSt}{Q:PUnit->SortSt->Prop}(h:Q PUnit.unit (f st)):W τ (modify f) Q st:=wpS_modify h
theorem Q5 {i j:Nat}{Q:Unit->SortSt->Prop}(h:Q () (setArr st (mirror (arrOf st) i j ((j-i)/2)))):W τ (reverseSlice' i j) Q st:=wpS_reverse h
theorem Cy {a b:Nat}{f:Nat->β->StateT SortSt Sem (ForInStep β)}(I:Nat->β->SortSt->Prop){Q:β->SortSt->Prop}(h:∀ (i:Nat) (c:β) (st:SortSt),a<=i->i<b->I i c st->W τ (f i c) (λr st'=>match r with
  | ForInStep.done c'=>Q c' st'
  | jq c'=>I (i+1) c' st') st) (q:∀ (c:β) (st:SortSt),I (max a b) c st->Q c st) {c:β} {st:SortSt} (z:I a c st):W τ (forIn [a:b] c f) Q st:=wpS_forRange I h q z
end
noncomputable def GR:Bool->Keyed->Array Keyed->Nat->Nat->Nat->StateT SortSt Sem (Option Nat):=sortPriv% PySem.Builtin.gallop
section
variable {τ:Cx}
def aag (τ:Cx)(m:StateT SortSt Sem (Option Bool))(st:SortSt)(b:Bool):Prop :=
 ∀ Q:Option Bool->SortSt->Prop,Q (some b) st->W τ m Q st
theorem afl {l r m n x:Nat}(h2:m<r)(q:r-l<=n-x):m-l<=n-(x+1):=aj (fB (cV h2) l) (by rw[vU,<-kJ];exact fB q 1)
theorem afm {l r m n x:Nat}(h1:l<=m)(q:r-l<=n-x):r-(m+1)<=n-(x+1):=aj (iu (aU h1) r) (show r-(l+1)<=_ by rw[<-kJ,<-kJ];exact fB q 1)
theorem afn {l r k x:Nat}(h:l<=r)(q:r-l<=k-max x k):l=r:=cM h (iK (u5.1 (by rw[oZ (jo x k)] at q;exact q)))
theorem half_lt {l r:Nat}(h:l<r):l+(r-l)/2<r:=o8 (Nat.div_lt_self (eX h) (bV 1))
theorem Q6 {o x:Nat}(h:x+1<=o):o<2*o+1/\x+1+1<=2*o+1 :=
 have q:=uL o (Nat.zero_lt_succ 1)
 ⟨gA q,aU (aj h q)⟩
theorem afo {o n hint:Nat}(h:¬o≥n-hint):hint+o<n:=o8 (jT h)
theorem afp {o n hint:Nat}(h:max 0 n+1<=o):n-hint<=o:=aj (fV _ _) (aj (jo 0 n) (dU h))
theorem afq {o n hint:Nat}(hh:hint<n)(h:max 0 n+1<=o):hint+1<=o:=aj hh (aj (jo 0 n) (dU h))
theorem aah {l o n hint:Nat}(h1:l<o)(h3:hint+l<n):hint+l+1<=hint+min o (n-hint)/\hint+min o (n-hint)<=n :=
 ⟨aL (vV.2 ⟨h1,pJ (dH hint l▸h3)⟩) hint,Nat.add_le_of_le_sub' (aj (aF hint l) (aQ h3)) (lM o _)⟩
theorem afr {l o hint:Nat}(h1:l<o):hint+1-min o (hint+1)<=hint-l:=by
 rcases uJ o (hint+1) with q | q
 ·rw[dG q,<-Nat.succ_sub_succ hint l];exact iu h1 _
 ·rw[jR q,qJ];exact bL _
theorem afs {o n hint i:Nat}(h6:hint+min o (n-hint)<=i)(h7:i<n):¬n-hint<=o:=λq=>by
 rw[jR q] at h6
 exact Nat.not_lt_of_le (aj (Nat.sub_le_iff_le_add'.1 (aD _)) h6) h7
theorem aft {o n hint i:Nat}(h6:hint+min o (n-hint)<=i)(q:hint+o<n):hint+o<=i:=by
 rw[dG (pK (dH hint o▸aQ q))] at h6;exact h6
theorem afu {o hint i:Nat}(h:i<hint+1-min o (hint+1)):¬hint+1<=o:=λq=>by
 rw[jR q,qJ] at h;exact iW _ h
theorem afv {o hint i:Nat}(h:i<hint+1-min o (hint+1))(q:o<=hint):i<=hint-o:=by
 rw[dG (dR q),Nat.succ_sub q] at h;exact bU h
structure Cut (b:Nat->Bool)(n k:Nat):Prop where
 le:k<=n
 yes:∀ i<k,b i=true
 no:∀ i,k<=i->i<n->b i=false
noncomputable abbrev Og:=Option (Option Nat)×Nat×Nat
theorem aai {n:Nat}{b:Nat->Bool}{st:SortSt}{f:Nat->Og->StateT SortSt Sem (ForInStep Og)}{R:Og->SortSt->Prop}
  (h0:∀ x lo hi,lo≥hi->∀ Q:ForInStep Og->SortSt->Prop,Q (.done (none,lo,hi)) st->W τ (f x (none,lo,hi)) Q st)
  (h1:∀ x lo hi,lo<hi->hi<=n->∀ Q:ForInStep Og->SortSt->Prop,Q (.yield (if b (lo+(hi-lo)/2)=true then(none,lo+(hi-lo)/2+1,hi) else(none,lo,lo+(hi-lo)/2))) st->W τ (f x (none,lo,hi)) Q st)
  (hm:∀ i j,i<=j->j<n->b j=true->b i=true) {lo hi:Nat} (hl:lo<=hi) (hi2:hi<=n) (y:∀ i<lo,b i=true) (z:∀ i,hi<=i->i<n->b i=false) (hR:∀ k,Cut b n k->R (none,k,k) st):W τ (forIn [:n] (none,lo,hi) f) R st:=by
 have hn:∀ i j,i<=j->j<n->b i=false->b j=false:=λi j hij hj e=>by
  cases ej:b j with
  | false=>rfl
  | true=>rw[hm i j hij hj ej] at e;cases e
 refine HX (Cy (I:=λx c st'=>st'=st/\∃ lo hi,c=(none,lo,hi)/\lo<=hi/\hi<=n/\hi-lo<=n-x/\(∀ i<lo,b i=true)/\∀ i,hi<=i->i<n->b i=false) (Q:=λc st'=>st'=st/\∃ k,c=(none,k,k)/\Cut b n k) ?_ ?_ ⟨rfl,lo,hi,rfl,hl,hi2,aj (fV _ _) hi2,y,z⟩) ?_
 ·rintro x c st' _ hx ⟨rfl,lo,hi,rfl,a1,a2,a3,a4,a5⟩
  rcases cW lo hi with q | q
  ·refine h1 x lo hi q a2 _ ?_
   have hmid:=half_lt q
   have hmn:=aB hmid a2
   cases e:b (lo+(hi-lo)/2) with
   | true=>exact⟨rfl,_,hi,rfl,hmid,a2,afm (aF _ _) a3,λi hi'=>hm i _ (bU hi') hmn e,a5⟩
   | false=>exact⟨rfl,lo,_,rfl,aF _ _,aQ hmn,afl hmid a3,a4,λi h1 h2=>hn _ i h1 h2 e⟩
  ·obtain rfl:lo=hi:=cM a1 q
   exact h0 x lo lo q _ ⟨rfl,lo,rfl,a2,a4,a5⟩
 ·rintro c st' ⟨rfl,lo,hi,rfl,a1,a2,a3,a4,a5⟩
  obtain rfl:lo=hi:=afn a1 a3
  exact⟨rfl,lo,rfl,a2,a4,a5⟩
 ·rintro c st' ⟨rfl,k,rfl,hk⟩
  exact hR k hk
theorem Q7 {left:Bool}{key:Keyed}{arr:Array Keyed}{base n hint:Nat}{st:SortSt}{b:Nat->Bool}(hh:hint<n)(hm:∀ i j,i<=j->j<n->b j=true->b i=true)
  (hb:∀ i<n,aag τ (do let x<-elem' arr (base+i);if left=true then lt' x key else do let r<-lt' key x;pure (jY (λx=>!x) r)) st (b i))
  {Q:Option Nat->SortSt->Prop} (h:∀ k,Cut b n k->Q (some k) st):W τ (GR left key arr base n hint) Q st:=by
 have hn:∀ i j,i<=j->j<n->b i=false->b j=false:=λi j hij hj e=>by
  cases ej:b j with
  | false=>rfl
  | true=>rw[hm i j hij hj ej] at e;cases e
 refine wV (hb hint hh _ ?_)
 cases e0:b hint with
 | true =>
  dsimp only
  refine wV (HX (Cy (I:=λx c st'=>st'=st/\∃ l o,c=(none,l,o)/\l<o/\x+1<=o/\hint+l<n/\b (hint+l)=true)
   (Q:=λc st'=>st'=st/\∃ l o,c=(none,l,o)/\l<o/\hint+l<n/\b (hint+l)=true/\(n-hint<=o\/(hint+o<n/\b (hint+o)=false))) ?_ ?_ ?_) ?_)
  ·rintro x c st' _ hx ⟨rfl,l,o,rfl,h1,h2,h3,h4⟩
   dsimp only
   by_cases ho:o≥n-hint
   ·rw[if_pos ho]
    exact xg ⟨rfl,l,o,rfl,h1,h3,h4,.inl ho⟩
   ·rw[if_neg ho]
    have ho2:=afo ho
    refine wV (hb (hint+o) ho2 _ ?_)
    cases e:b (hint+o) with
    | false=>exact xg ⟨rfl,l,o,rfl,h1,h3,h4,.inr ⟨ho2,e⟩⟩
    | true=>exact xg ⟨rfl,o,2*o+1,rfl,(Q6 h2).1,(Q6 h2).2,ho2,e⟩
  ·rintro c st' ⟨rfl,l,o,rfl,h1,h2,h3,h4⟩
   exact⟨rfl,l,o,rfl,h1,h3,h4,.inl (afp h2)⟩
  ·exact⟨rfl,0,1,rfl,cO,aD _,hh,e0⟩
  ·rintro c st' ⟨rfl,l,o,rfl,h1,h3,h4,h5⟩
   refine wV (aai (b:=b) (λx lo hi q Q hq=>?_) (λx lo hi q q2 Q hq=>?_) hm ?_ ?_ ?_ ?_ λk hk=>xg (h k hk))
   ·dsimp only
    rw[if_pos q]
    exact xg hq
   ·dsimp only
    rw[if_neg (Nat.not_le.2 q)]
    refine wV (hb _ (aB (half_lt q) q2) _ ?_)
    dsimp only
    cases e:b (lo+(hi-lo)/2) with
    | true=>rw[e] at hq;exact xg hq
    | false=>rw[e] at hq;exact xg hq
   ·exact(aah h1 h3).1
   ·exact(aah h1 h3).2
   ·exact λi hi=>hm i _ (bU hi) h3 h4
   ·intro i h6 h7
    rcases h5 with q | ⟨q,e⟩
    ·exact absurd q (afs h6 h7)
    ·exact hn _ i (aft h6 q) h7 e
 | false =>
  dsimp only
  refine wV (HX (Cy (I:=λx c st'=>st'=st/\∃ l o,c=(none,l,o)/\l<o/\x+1<=o/\l<=hint/\b (hint-l)=false)
   (Q:=λc st'=>st'=st/\∃ l o,c=(none,l,o)/\l<o/\l<=hint/\b (hint-l)=false/\(hint+1<=o\/(o<=hint/\b (hint-o)=true))) ?_ ?_ ?_) ?_)
  ·rintro x c st' _ hx ⟨rfl,l,o,rfl,h1,h2,h3,h4⟩
   dsimp only
   by_cases ho:o≥hint+1
   ·rw[if_pos ho]
    exact xg ⟨rfl,l,o,rfl,h1,h3,h4,.inl ho⟩
   ·rw[if_neg ho]
    refine wV (hb (hint-o) (aK (fV _ _) hh) _ ?_)
    cases e:b (hint-o) with
    | true=>exact xg ⟨rfl,l,o,rfl,h1,h3,h4,.inr ⟨bU (jT ho),e⟩⟩
    | false=>exact xg ⟨rfl,o,2*o+1,rfl,(Q6 h2).1,(Q6 h2).2,bU (jT ho),e⟩
  ·rintro c st' ⟨rfl,l,o,rfl,h1,h2,h3,h4⟩
   exact⟨rfl,l,o,rfl,h1,h3,h4,.inl (afq hh h2)⟩
  ·exact⟨rfl,0,1,rfl,cO,aD _,bL _,e0⟩
  ·rintro c st' ⟨rfl,l,o,rfl,h1,h3,h4,h5⟩
   refine wV (aai (b:=b) (λx lo hi q Q hq=>?_) (λx lo hi q q2 Q hq=>?_) hm ?_ ?_ ?_ ?_ λk hk=>xg (h k hk))
   ·dsimp only
    rw[if_pos q]
    exact xg hq
   ·dsimp only
    rw[if_neg (Nat.not_le.2 q)]
    refine wV (hb _ (aB (half_lt q) q2) _ ?_)
    dsimp only
    cases e:b (lo+(hi-lo)/2) with
    | true=>rw[e] at hq;exact xg hq
    | false=>rw[e] at hq;exact xg hq
   ·exact afr h1
   ·exact aj (fV _ _) (aQ hh)
   ·intro i hi
    rcases h5 with q | ⟨q,e⟩
    ·exact absurd q (afu hi)
    ·exact hm i _ (afv hi q) (aK (fV _ _) hh) e
   ·exact λi h6 h7=>hn _ i h6 h7 h4
end
section
variable {α:Type}{le:α->α->Prop}
structure Mg (le:α->α->Prop)(all O La Lb:List α):Prop where
 perm:(O++(La++Lb)).Perm all
 so:O.Pairwise le
 sa:La.Pairwise le
 sb:Lb.Pairwise le
 oa:∀ x∈O,∀ y∈La,le x y
 ob:∀ x∈O,∀ y∈Lb,le x y
variable {all O P La Lb:List α}
theorem Mg.a (h:Mg le all O (P++La) Lb)(hp:∀ x∈P,∀ y∈Lb,le x y):Mg le all (O++P) La Lb where
 perm:=by
  have:=h.perm
  rw[aP] at this ⊢
  exact this
 so:=bN.2 ⟨h.so,(bN.1 h.sa).1,λx hx y hy=>h.oa x hx y (aZ _ hy)⟩
 sa:=(bN.1 h.sa).2.1
 sb:=h.sb
 oa:=λx hx y hy=>(aR.1 hx).elim (λq=>h.oa x q y (aN _ hy)) λq=>(bN.1 h.sa).2.2 x q y hy
 ob:=λx hx y hy=>(aR.1 hx).elim (λq=>h.ob x q y hy) λq=>hp x q y hy
theorem Mg.b (h:Mg le all O La (P++Lb))(hp:∀ x∈P,∀ y∈La,le x y):Mg le all (O++P) La Lb where
 perm:=by
  refine qC ?_ h.perm
  rw[aP]
  refine jt O ?_
  rw[<-aP,<-aP]
  exact rZ Lb lE
 so:=bN.2 ⟨h.so,(bN.1 h.sb).1,λx hx y hy=>h.ob x hx y (aZ _ hy)⟩
 sa:=h.sa
 sb:=(bN.1 h.sb).2.1
 oa:=λx hx y hy=>(aR.1 hx).elim (λq=>h.oa x q y hy) λq=>hp x q y hy
 ob:=λx hx y hy=>(aR.1 hx).elim (λq=>h.ob x q y (aN _ hy)) λq=>(bN.1 h.sb).2.2 x q y hy
structure zP (le:α->α->Prop)(all R:List α):Prop where
 perm:R.Perm all
 BK:R.Pairwise le
theorem Mg.aaj (h:Mg le all O La []):zP le all (O++La) where
 perm:=by have:=h.perm;rw[aY] at this;exact this
 BK:=bN.2 ⟨h.so,h.sa,h.oa⟩
theorem Mg.Q8 (h:Mg le all O La Lb)(hp:∀ x∈Lb,∀ y∈La,le x y):zP le all (O++(Lb++La)) where
 perm:=qC (jt O lE) h.perm
 BK:=bN.2 ⟨h.so,bN.2 ⟨h.sb,h.sa,hp⟩,λx hx y hy=>(aR.1 hy).elim (h.ob x hx y) (h.oa x hx y)⟩
end
section
variable {τ:Cx}{a b out:Array Keyed}{ia ib:Nat}{all:List Keyed}
abbrev yg (τ:Cx)(x y:Keyed):Prop:=τ.O.kle (τ.key x) (τ.key y)
noncomputable abbrev xY (τ:Cx)(x y:Keyed):Bool:=τ.O.blt (τ.key x) (τ.key y)
abbrev za (τ:Cx)(all:List Keyed)(a b out:Array Keyed)(ia ib:Nat):Prop:=Mg (yg τ) all out.toList (a.toList.drop ia) (b.toList.drop ib)
theorem aak {i k s n:Nat}(h:i<min (s+k) n-s):i<k/\s+i<n :=
 have q:=dH i s▸u6 h
 ⟨tX (aB q (j9 _ _)),aB q (lM _ _)⟩
theorem Q9 {a n k:Nat}(h:a<=n)(hk:k<=n-a):a+k<=n:=aj (aL hk a) (bI (cC h))
theorem aal {a n k:Nat}(h:a+k<n):k<n-a:=pJ (by rw[dH];exact h)
theorem GX {n m:Nat}(h:n<=m)(q:¬(n==m)=true):n<m:=iJ h λz=>q (by rw[z];exact beq_self_eq_true _)
theorem aam {a b i:Nat}(h:i<a):a-(i+1)+b+1=a-i+b:=by rw[cA,<-kJ,gM (eX h)]
theorem afw {a b j:Nat}(h:j<b):a+(b-(j+1))+1=a+(b-j):=by rw[dW,<-kJ,gM (eX h)]
theorem aan {i j:Nat}(h:0<i):i-1+j+1=i+j:=by rw[cA,gM h]
theorem afx {i j:Nat}(h:1<j):i+(j-1)+1=i+j:=by rw[dW,gM (aQ h)]
theorem GZ (a:Array Keyed){i:Nat}(h:i<a.size):a.toList.drop i=a[i]::a.toList.drop (i+1):=by
 rw[dY (by rw[aq];exact h)];rfl
theorem Ra (a:Array Keyed){i k:Nat}:a.toList.drop i=(a.extract i (i+k)).toList++a.toList.drop (i+k):=by
 rw[lN,jV,kO,<-List.drop_drop,eG]
theorem K8 (a:Array Keyed)(i:Nat):(a.extract i).toList=a.toList.drop i:=by
 rw[lN,jV,kZ]
 rw[List.length_drop,aq];exact aD _
theorem Rb {x z:Keyed}{l:List Keyed}(h:(z::l).Pairwise (yg τ))(hz:yg τ x z):∀ y∈z::l,yg τ x y:=λy hy=>by
 rcases aM.1 hy with rfl | hy
 ·exact hz
 ·exact dK hz ((cX.1 h).1 y hy)
theorem za.K9 (h:za τ all a b out ia ib)(hi:ia<a.size)(hj:ib<b.size)(e:xY τ b[ib] a[ia]=true):za τ all a b (out.push b[ib]) ia (ib+1):=by
 unfold za at h ⊢
 rw[GZ b hj] at h
 rw[dO]
 refine Mg.b (P:=[b[ib]]) h λx hx y hy=>?_
 rw[aC.1 hx]
 have hs:=h.sa
 rw[GZ a hi] at hs hy
 exact Rb hs (fJ e) y hy
theorem za.Ld (h:za τ all a b out ia ib)(hi:ia<a.size)(hj:ib<b.size)(e:xY τ b[ib] a[ia]=false):za τ all a b (out.push a[ia]) (ia+1) ib:=by
 unfold za at h ⊢
 rw[GZ a hi] at h
 rw[dO]
 refine Mg.a (P:=[a[ia]]) h λx hx y hy=>?_
 rw[aC.1 hx]
 have hs:=h.sb
 rw[GZ b hj] at hs hy
 exact Rb hs e y hy
theorem za.VN {k:Nat}(h:za τ all a b out ia ib)(hj:ib<b.size)(hk:ia+k<=a.size)(e:∀ i<k,∀ (hi:ia+i<a.size),xY τ b[ib] a[ia+i]=false):za τ all a b (out++a.extract ia (ia+k)) (ia+k) ib:=by
 unfold za at h ⊢
 rw[Ra a (i:=ia) (k:=k)] at h
 rw[bO]
 refine Mg.a h λx hx y hy=>?_
 have hs:=h.sb
 rw[GZ b hj] at hs hy
 obtain⟨i,hi,rfl⟩:=jW hx
 rw[aq,fQ] at hi
 obtain⟨h1,h2⟩:=aak hi
 refine Rb hs ?_ y hy
 have:=e i h1 h2
 rw[fu,fO]
 exact this
theorem za.VP {k:Nat}(h:za τ all a b out ia ib)(hi:ia<a.size)(hk:ib+k<=b.size)(e:∀ i<k,∀ (hi':ib+i<b.size),xY τ b[ib+i] a[ia]=true):za τ all a b (out++b.extract ib (ib+k)) ia (ib+k):=by
 unfold za at h ⊢
 rw[Ra b (i:=ib) (k:=k)] at h
 rw[bO]
 refine Mg.b h λx hx y hy=>?_
 have hs:=h.sa
 rw[GZ a hi] at hs hy
 obtain⟨i,hi',rfl⟩:=jW hx
 rw[aq,fQ] at hi'
 obtain⟨h1,h2⟩:=aak hi'
 refine Rb hs ?_ y hy
 have:=e i h1 h2
 rw[fu,fO]
 exact fJ this
theorem za.done (h:za τ all a b out ia ib)(hj:b.size<=ib):zP (yg τ) all (out++a.extract ia++b.extract ib).toList:=by
 unfold za at h
 have e:b.toList.drop ib=[]:=lA (by rw[aq];exact hj)
 rw[e] at h
 rw[bO,bO,K8,K8,e,aY]
 exact h.aaj
theorem za.afy (h:za τ all a b out ia ib)(hj:a.size<=ia):zP (yg τ) all (out++a.extract ia++b.extract ib).toList:=by
 unfold za at h
 have e:a.toList.drop ia=[]:=lA (by rw[aq];exact hj)
 rw[e] at h
 rw[bO,bO,K8,K8,e,aY]
 have:=h.Q8 λuu uu y hy=>absurd hy aH
 rw[aY] at this;exact this
theorem za.last (h:za τ all a b out ia ib)(hi:ia+1=a.size)(hl:∀ y∈b.toList,∀ (h0:a.size-1<a.size),xY τ y a[a.size-1]=true):zP (yg τ) all (out++b.extract ib++a.extract ia).toList:=by
 unfold za at h
 rw[bO,bO,K8,K8,aP]
 refine h.Q8 λx hx y hy=>?_
 have h1:ia<a.size:=qM (bI hi)
 rw[GZ a h1,lA (by rw[aq,hi];exact aD _)] at hy
 rw[aC.1 hy]
 have h2:a.size-1<a.size:=cU (gW h1) cO
 have:=hl x (pA hx) h2
 rw[<-(show a[a.size-1]'h2=a[ia] from by congr 1;rw[<-hi,qz])]
 exact fJ this
end
noncomputable def FJ:Nat->StateT SortSt Sem Unit:=sortPriv% PySem.Builtin.setMinGallop
section
variable {τ:Cx}
noncomputable def atK (a:Array Keyed)(i:Nat):Keyed:=(a[i]?).getD (.none,.none)
theorem yN {a:Array Keyed}{i:Nat}(h:i<a.size):atK a i=a[i]:=by
 unfold atK;rw[getElem?_pos a i h];rfl
theorem VR {τ:Cx}{a:Array Keyed}(h:a.toList.Pairwise (yg τ)){i j:Nat}(hij:i<=j)(hj:j<a.size):yg τ (atK a i) (atK a j):=by
 rw[yN hj,yN (aK hij hj)]
 rcases jw hij with q | rfl
 ·have:=gF.1 h i j (by rw[aq];exact eY q hj) (by rw[aq];exact hj) q
  exact this
 ·exact iQ _
theorem afz {τ:Cx}{a:Array Keyed}(h:a.toList.Pairwise (yg τ))(x:Keyed)(base n:Nat)(hn:base+n<=a.size) :
  ∀ i j,i<=j->j<n->(!xY τ x (atK a (base+j)))=true->(!xY τ x (atK a (base+i)))=true:=λi j hij hj e=>by
 show(!τ.O.blt (τ.key x) (τ.key (atK a (base+i))))=true
 rw[show τ.O.blt (τ.key x) (τ.key (atK a (base+i)))=false from(dK (VR h (i:=base+i) (j:=base+j) (aL hij base) (aB (cN hj base) hn)) ((show xY τ x (atK a (base+j))=false from by simpa using e):τ.O.kle (τ.key (atK a (base+j))) (τ.key x)))];rfl
theorem afA {τ:Cx}{a:Array Keyed}(h:a.toList.Pairwise (yg τ))(x:Keyed)(base n:Nat)(hn:base+n<=a.size) :
  ∀ i j,i<=j->j<n->xY τ (atK a (base+j)) x=true->xY τ (atK a (base+i)) x=true:=λi j hij hj e =>
 sZ (VR h (i:=base+i) (j:=base+j) (aL hij base) (aB (cN hj base) hn)) e
theorem Ds {arr:Array Keyed}{i:Nat}(h:i<arr.size){st:SortSt}{Q:Keyed->SortSt->Prop}(q:Q arr[i] st):W τ (elem' arr i) Q st:=by
 rw[elem'_eq,getElem?_pos arr i h]
 exact xg q
structure Like (st st':SortSt):Prop where
 k:kindOf st'=kindOf st
 a:arrOf st'=arrOf st
 p:pendingOf st'=pendingOf st
 f:failedOf st'=failedOf st
theorem Like.refl (st:SortSt):Like st st:=⟨rfl,rfl,rfl,rfl⟩
theorem Like.trans {a b c:SortSt}(h:Like a b)(h2:Like b c):Like a c:=⟨h2.k.trans h.k,h2.a.trans h.a,h2.p.trans h.p,h2.f.trans h.f⟩
theorem Rc {g:Nat}{st:SortSt}{Q:Unit->SortSt->Prop}(q:∀ st',Like st st'->Q () st'):W τ (FJ g) Q st:=JB (q _ ⟨rfl,rfl,rfl,rfl⟩)
structure Ask (τ:Cx):Prop where
 run:∀ x y st,τ.ok x->τ.ok y->kindOf st=τ.kd->aag τ (lt' x y) st (xY τ x y)
section
variable {a:Array Keyed}{x:Keyed}{base n hint:Nat}{st:SortSt}{Q:Option Nat->SortSt->Prop}
theorem aao (C:Ask τ)(sa:a.toList.Pairwise (yg τ))(yW:∀ i (h:i<a.size),τ.ok a[i])(okx:τ.ok x)(hn:base+n<=a.size)(hh:hint<n)(hk:kindOf st=τ.kd)
  (h:∀ k,k<=n->(∀ i<k,xY τ x (atK a (base+i))=false)->(∀ i,k<=i->i<n->xY τ x (atK a (base+i))=true)->Q (some k) st):W τ (GR false x a base n hint) Q st:=by
 refine Q7 (b:=λi=>!xY τ x (atK a (base+i))) hh (afz sa x base n hn) (λi hi Q hq=>?_) λk c=>h k c.le (λi hi=>by simpa using c.yes i hi) λi h1 h2=>by simpa using c.no i h1 h2
 have hi':base+i<a.size:=aB (cN hi base) hn
 refine wV (Ds hi' ?_)
 refine wV (C.run _ _ _ okx (yW _ hi') hk _ (xg ?_))
 rw[yN hi'] at hq
 exact hq
theorem aap (C:Ask τ)(sa:a.toList.Pairwise (yg τ))(yW:∀ i (h:i<a.size),τ.ok a[i])(okx:τ.ok x)(hn:base+n<=a.size)(hh:hint<n)(hk:kindOf st=τ.kd)
  (h:∀ k,k<=n->(∀ i<k,xY τ (atK a (base+i)) x=true)->(∀ i,k<=i->i<n->xY τ (atK a (base+i)) x=false)->Q (some k) st):W τ (GR true x a base n hint) Q st:=by
 refine Q7 (b:=λi=>xY τ (atK a (base+i)) x) hh (afA sa x base n hn) (λi hi Q hq=>?_) λk c=>h k c.le c.yes c.no
 have hi':base+i<a.size:=aB (cN hi base) hn
 refine wV (Ds hi' ?_)
 rw[yN hi'] at hq
 exact C.run _ _ _ (yW _ hi') okx hk _ hq
end
end
section
variable {τ:Cx}{all:List Keyed}{a b:Array Keyed}
noncomputable abbrev DR:=Option (Array Keyed)×Array Keyed×Nat×Nat×Nat×Nat×Nat
noncomputable def Turn (τ:Cx)(all:List Keyed)(a b:Array Keyed)(r:Nat):ForInStep DR->Prop
 | .done c=>(∃ R rest,c=(some R,rest)/\zP (yg τ) all R.toList)\/∃ o i j g ac bc,c=(none,o,i,j,g,ac,bc)/\za τ all a b o i j/\i+1<a.size/\j<b.size/\(a.size-i)+(b.size-j)<=r
 | .yield c=>∃ o i j g ac bc,c=(none,o,i,j,g,ac,bc)/\za τ all a b o i j/\i+1<a.size/\j<b.size/\(a.size-i)+(b.size-j)+1<=r
theorem aaq {o:Array Keyed}{i j r:Nat}(mg:za τ all a b o i j)(hi:i+1<a.size)(hj:j<b.size)(e:xY τ (atK b j) (atK a i)=false)(hl:∀ y∈b.toList,∀ (h0:a.size-1<a.size),xY τ y a[a.size-1]=true)
  (hr:(a.size-i)+(b.size-j)<=r) {c:Bool} {rest:Keyed->Array Keyed×Nat×Nat×Nat×Nat×Nat} {u v:Keyed->Nat×Nat×Nat} {st:SortSt} {Q:ForInStep DR->SortSt->Prop} (h:∀ t,Turn τ all a b r t->Q t st) :
  W τ (elem' a i>>=λx=>if(i+1+1==a.size)=true then pure (.done (some (o.push x++b.extract j++a.extract (i+1)),rest x)) else if c=true then pure (.done (none,o.push x,i+1,j,u x)) else pure (.yield (none,o.push x,i+1,j,v x))) Q st:=by
 have hi0:i<a.size:=cF hi
 have el:=aam (b:=b.size-j) hi0
 rw[yN hj,yN hi0] at e
 have m:=mg.Ld hi0 hj e
 refine wV (Ds hi0 ?_)
 by_cases q:(i+1+1==a.size)=true
 ·rw[if_pos q]
  exact xg (h _ (.inl ⟨_,_,rfl,m.last (cP q) hl⟩))
 ·rw[if_neg q]
  have h2:i+1+1<a.size:=GX hi q
  cases c with
  | true=>exact xg (h _ (.inr ⟨_,_,_,_,_,_,rfl,m,h2,hj,aj (aQ (qM (bI el))) hr⟩))
  | false=>exact xg (h _ ⟨_,_,_,_,_,_,rfl,m,h2,hj,aj (bI el) hr⟩)
end
section
variable {τ:Cx}{all:List Keyed}{a b:Array Keyed}
noncomputable abbrev GM:=StateT SortSt Sem (ForInStep DR)
inductive HY (a b o:Array Keyed)(i j:Nat)(F:Keyed->GM):Prop where
 | mk {G:Keyed->Keyed->Option Nat->GM} {T T':Keyed->Keyed->Nat->Keyed->GM} {r1:Keyed->Array Keyed×Nat×Nat×Nat×Nat×Nat} {r2:Keyed->Keyed->Nat->Array Keyed×Nat×Nat×Nat×Nat×Nat} {r3 r4:Keyed->Keyed->Nat->Keyed->Array Keyed×Nat×Nat×Nat×Nat×Nat} {c:Nat->Bool} {u v u' v':Keyed->Keyed->Nat->Keyed->Nat×Nat×Nat}
  (hF:∀ y,F y=if(j+1==b.size)=true then pure (.done (some (o.push y++a.extract i++b.extract (j+1)),r1 y)) else elem' a i>>=λx=>GR true x b (j+1) (b.size-(j+1)) 0>>=G y x)
  (hG:∀ y x k,G y x (some k)=if k>0 then(if(j+1+k==b.size)=true then pure (.done (some (o.push y++b.extract (j+1) (j+1+k)++a.extract i++b.extract (j+1+k)),r2 y x k)) else elem' a i>>=T y x k) else elem' a i>>=T' y x k)
  (hT:∀ y x k z,T y x k z=if(i+1+1==a.size)=true then pure (.done (some ((o.push y++b.extract (j+1) (j+1+k)).push z++b.extract (j+1+k)++a.extract (i+1)),r3 y x k z)) else if c k=true then pure (.done (none,(o.push y++b.extract (j+1) (j+1+k)).push z,i+1,j+1+k,u y x k z)) else pure (.yield (none,(o.push y++b.extract (j+1) (j+1+k)).push z,i+1,j+1+k,v y x k z)))
  (hT':∀ y x k z,T' y x k z=if(i+1+1==a.size)=true then pure (.done (some ((o.push y).push z++b.extract (j+1)++a.extract (i+1)),r4 y x k z)) else if c k=true then pure (.done (none,(o.push y).push z,i+1,j+1,u' y x k z)) else pure (.yield (none,(o.push y).push z,i+1,j+1,v' y x k z))):HY a b o i j F
theorem aar (C:Ask τ)(yW:∀ i (h:i<a.size),τ.ok a[i])(okb:∀ i (h:i<b.size),τ.ok b[i])(sb:b.toList.Pairwise (yg τ))(hl:∀ y∈b.toList,∀ (h0:a.size-1<a.size),xY τ y a[a.size-1]=true)
  {o:Array Keyed} {i j r:Nat} (mg:za τ all a b o i j) (hi:i+1<a.size) (hj:j<b.size) (e:xY τ (atK b j) (atK a i)=true) (hr:(a.size-i)+(b.size-j)<=r) {st:SortSt} (hk:kindOf st=τ.kd) {Q:ForInStep DR->SortSt->Prop} (h:∀ t,Turn τ all a b r t->Q t st)
  {F:Keyed->GM} (M:HY a b o i j F) :
  W τ (elem' b j>>=F) Q st:=by
 obtain⟨hF,hG,hT,hT'⟩:=M
 have hi0:i<a.size:=cF hi
 rw[yN hj,yN hi0] at e
 have m:=mg.K9 hi0 hj e
 refine wV (Ds hj ?_)
 rw[hF]
 by_cases q:(j+1==b.size)=true
 ·rw[if_pos q]
  exact xg (h _ (.inl ⟨_,_,rfl,m.done (bI (cP q).symm)⟩))
 ·rw[if_neg q]
  have hj1:j+1<b.size:=GX hj q
  refine wV (Ds hi0 (wV (aap C sb okb (yW i hi0) (bI (cC hj)) (eX hj1) hk λk hk1 y1 y2=>?_)))
  rw[hG]
  rw[<-yN hi0] at y1 y2
  by_cases q1:k>0
  ·rw[if_pos q1]
   have m2:=m.VP (k:=k) hi0 (Q9 hj hk1) λi' hi' h'=>by rw[<-yN h',<-yN hi0];exact y1 i' hi'
   by_cases q2:(j+1+k==b.size)=true
   ·rw[if_pos q2]
    exact xg (h _ (.inl ⟨_,_,rfl,m2.done (bI (cP q2).symm)⟩))
   ·rw[if_neg q2]
    have hj2:j+1+k<b.size:=GX (Q9 hj hk1) q2
    rw[funext (hT _ _ _)]
    exact aaq m2 hi hj2 (y2 k (aD _) (aal hj2)) hl (aj (aL (iu (aj (dX j) (aF _ _)) _) _) hr) h
  ·rw[if_neg q1,funext (hT' _ _ _)]
   obtain rfl:k=0:=lC q1
   exact aaq m hi hj1 (y2 0 (aD _) (eX hj1)) hl (aj (aL (iu (dX j) _) _) hr) h
inductive JC (a b o:Array Keyed)(i j:Nat)(F0:Unit->GM):Prop where
 | mk {F1:Keyed->GM} {F2:Keyed->Option Nat->GM} {F3 F4:Keyed->Nat->Keyed->GM} {r1 r2:Keyed->Nat->Array Keyed×Nat×Nat×Nat×Nat×Nat}
  (h0:F0 ()=elem' b j>>=F1) (h1:∀ y,F1 y=GR false y a i (a.size-i) 0>>=F2 y)
  (h2:∀ y k,F2 y (some k)=if k>0 then(if(i+k+1==a.size)=true then pure (.done (some (o++a.extract i (i+k)++b.extract j++a.extract (i+k)),r1 y k)) else if(i+k==a.size)=true then pure (.done (some (o++a.extract i (i+k)++a.extract (i+k)++b.extract j),r2 y k)) else elem' b j>>=F3 y k) else elem' b j>>=F4 y k)
  (h3:∀ y k,HY a b (o++a.extract i (i+k)) (i+k) j (F3 y k)) (h4:∀ y k,HY a b o i j (F4 y k)):JC a b o i j F0
theorem afB (C:Ask τ)(yW:∀ i (h:i<a.size),τ.ok a[i])(okb:∀ i (h:i<b.size),τ.ok b[i])(sa:a.toList.Pairwise (yg τ))(sb:b.toList.Pairwise (yg τ))(hl:∀ y∈b.toList,∀ (h0:a.size-1<a.size),xY τ y a[a.size-1]=true)
  {o:Array Keyed} {i j:Nat} (mg:za τ all a b o i j) (hi:i+1<a.size) (hj:j<b.size) {st:SortSt} (hk:kindOf st=τ.kd) {Q:ForInStep DR->SortSt->Prop} (h:∀ t st',Like st st'->Turn τ all a b ((a.size-i)+(b.size-j)) t->Q t st')
  {g:Nat} {F0:Unit->GM} (M:JC a b o i j F0) :
  W τ (FJ g>>=F0) Q st:=by
 obtain⟨h0,h1,h2,h3,h4⟩:=M
 refine wV (Rc λCi Cj=>?_)
 have k5:kindOf Ci=τ.kd:=Cj.k.trans hk
 have fin:∀ t,Turn τ all a b ((a.size-i)+(b.size-j)) t->Q t Ci:=λt=>h t Ci Cj
 have hi0:i<a.size:=cF hi
 rw[h0]
 refine wV (Ds hj ?_)
 rw[h1]
 refine wV (aao C sa yW (okb _ hj) (bI (cC (aQ hi0))) (eX hi0) k5 λk hk1 y1 y2=>?_)
 rw[<-yN hj] at y1 y2
 have one:=mg.VN (k:=k) hj (Q9 (aQ hi0) hk1) λi' hi' h'=>by rw[<-yN h',<-yN hj];exact y1 i' hi'
 rw[h2]
 by_cases q1:k>0
 ·rw[if_pos q1]
  by_cases q2:(i+k+1==a.size)=true
  ·rw[if_pos q2]
   exact xg (fin _ (.inl ⟨_,_,rfl,one.last (cP q2) hl⟩))
  ·rw[if_neg q2]
   by_cases q3:(i+k==a.size)=true
   ·rw[if_pos q3]
    exact xg (fin _ (.inl ⟨_,_,rfl,one.afy (bI (cP q3).symm)⟩))
   ·rw[if_neg q3]
    have hk3:i+k<a.size:=GX (Q9 (aQ hi0) hk1) q3
    exact aar C yW okb sb hl one (GX hk3 q2) hj (y2 k (aD _) (aal hk3)) (bw (iu (aF i k) _) _) k5 fin (h3 _ _)
 ·rw[if_neg q1]
  obtain rfl:k=0:=lC q1
  exact aar C yW okb sb hl mg hi hj (y2 0 (aD _) (eX hi0)) (aD _) k5 fin (h4 _ _)
end
noncomputable def aas:Array Keyed->Array Keyed->StateT SortSt Sem (Array Keyed):=sortPriv% PySem.Builtin.mergeLo
noncomputable abbrev G3:=Option (Array Keyed)×Array Keyed×Nat×Nat×Nat×Nat
noncomputable abbrev IM:=StateT SortSt Sem (ForInStep G3)
noncomputable abbrev G4:=Option (Array Keyed)×Array Keyed×Nat×Nat×Nat
noncomputable abbrev OM:=StateT SortSt Sem (ForInStep G4)
section
variable {τ:Cx}{all:List Keyed}{a b:Array Keyed}
theorem G5 {α:Type}{c:Prop}{_:Decidable c}{m n:StateT SortSt Sem α}{Q:α->SortSt->Prop}{st:SortSt}(h:c)(q:W τ m Q st):W τ (if c then m else n) Q st:=by rw[if_pos h];exact q
theorem Gm {α:Type}{c:Prop}{_:Decidable c}{m n:StateT SortSt Sem α}{Q:α->SortSt->Prop}{st:SortSt}(h:¬c)(q:W τ n Q st):W τ (if c then m else n) Q st:=by rw[if_neg h];exact q
noncomputable abbrev left (a b:Array Keyed)(i j:Nat):Nat:=(a.size-i)+(b.size-j)
structure Ia (τ:Cx)(all:List Keyed)(a b o:Array Keyed)(i j:Nat):Prop where
 mg:za τ all a b o i j
 i:i+1<a.size
 j:j<b.size
structure Oh (τ:Cx)(a b:Array Keyed):Prop where
 C:Ask τ
 yW:∀ i (h:i<a.size),τ.ok a[i]
 okb:∀ i (h:i<b.size),τ.ok b[i]
 sa:a.toList.Pairwise (yg τ)
 sb:b.toList.Pairwise (yg τ)
 hl:∀ y∈b.toList,∀ (h0:a.size-1<a.size),xY τ y a[a.size-1]=true
inductive Rd (a b:Array Keyed)(F:Nat->DR->GM):Prop where
 | mk {g1:Array Keyed->Nat->Nat->Nat->Nat->Nat->Nat} {F0 Oi:Array Keyed->Nat->Nat->Nat->Nat->Nat->Unit->GM}
  (hF:∀ x o i j g ac bc,F x (none,o,i,j,g,ac,bc)=if g>1 then FJ (g1 o i j g ac bc)>>=F0 o i j g ac bc else FJ g>>=Oi o i j g ac bc)
  (h1:∀ o i j g ac bc,JC a b o i j (F0 o i j g ac bc)) (h2:∀ o i j g ac bc,JC a b o i j (Oi o i j g ac bc)):Rd a b F
structure GI (st:SortSt)(τ:Cx)(all:List Keyed)(a b:Array Keyed)(r:Nat)(c:DR)(st':SortSt)(o:Array Keyed)(i j g ac bc:Nat):Prop where
 e:c=(none,o,i,j,g,ac,bc)
 lk:Like st st'
 ok:Ia τ all a b o i j
 r:left a b i j<=r
theorem afC (I:Oh τ a b){F:Nat->DR->GM}(S:Rd a b F){o:Array Keyed}{i j g ac bc N r:Nat}{st:SortSt}(hk:kindOf st=τ.kd)(ho:Ia τ all a b o i j)(hr:left a b i j<=r){Q:DR->SortSt->Prop}
  (q1:∀ R rest st',Like st st'->zP (yg τ) all R.toList->Q (some R,rest) st') (q2:∀ o i j g ac bc st',Like st st'->Ia τ all a b o i j->left a b i j<=r->Q (none,o,i,j,g,ac,bc) st') :
  W τ (forIn [:N] ((none,o,i,j,g,ac,bc):DR) F) Q st:=by
 refine Cy (I:=λuu c st'=>∃ o i j g ac bc,GI st τ all a b r c st' o i j g ac bc) ?_ ?_ ⟨o,i,j,g,ac,bc,rfl,Like.refl _,ho,hr⟩
 ·rintro y c st3 _ _ ⟨o,i,j,g,ac,bc,rfl,lk,ho,hr⟩
  obtain⟨hF,h1,h2⟩:=S
  have pick:∃ g' F0,JC a b o i j F0/\F y (none,o,i,j,g,ac,bc)=FJ g'>>=F0:=by
   rw[hF]
   by_cases gg:g>1
   ·rw[if_pos gg];exact⟨_,_,h1 o i j g ac bc,rfl⟩
   ·rw[if_neg gg];exact⟨_,_,h2 o i j g ac bc,rfl⟩
  obtain⟨g',F0,M,e⟩:=pick
  rw[e]
  refine afB I.C I.yW I.okb I.sa I.sb I.hl ho.mg ho.i ho.j (lk.k.trans hk) (λt Ci Cj ht=>?_) M
  cases t with
  | done c =>
   refine Dr λgg kk=>?_
   rcases ht with⟨R,rest,rfl,hR⟩ | ⟨o,i',j',g,ac,bc,rfl,m,t1,t2,t3⟩ <;> (refine kk ?_;clear kk gg)
   ·exact q1 R rest Ci (lk.trans Cj) hR
   ·exact q2 o i' j' g ac bc Ci (lk.trans Cj) ⟨m,t1,t2⟩ (aj t3 hr)
  | yield c =>
   obtain⟨o,i',j',g,ac,bc,rfl,m,t1,t2,t3⟩:=ht
   exact⟨o,i',j',g,ac,bc,rfl,lk.trans Cj,⟨m,t1,t2⟩,aj (dU t3) hr⟩
 ·rintro c st3 ⟨o,i,j,g,ac,bc,rfl,lk,ho,hr⟩
  exact q2 o i j g ac bc st3 lk ho hr
inductive LoC (a b:Array Keyed)(F:Nat->G3->IM):Prop where
 | mk {G:Array Keyed->Nat->Nat->Nat->Nat->Option Bool->IM} {T1 T2:Array Keyed->Nat->Nat->Nat->Nat->Keyed->IM} {r1 r2:Array Keyed->Nat->Nat->Nat->Nat->Keyed->Array Keyed×Nat×Nat×Nat×Nat} {u1 v1 u2 v2:Array Keyed->Nat->Nat->Nat->Nat->Keyed->Nat×Nat} {p1 p2:Array Keyed->Nat->Nat->Nat->Nat->Keyed->Prop} {d1:∀ o i j ac bc y,Decidable (p1 o i j ac bc y)} {d2:∀ o i j ac bc y,Decidable (p2 o i j ac bc y)}
  (hF:∀ x o i j ac bc,F x (none,o,i,j,ac,bc)=elem' b j>>=λy=>elem' a i>>=λz=>lt' y z>>=G o i j ac bc)
  (h1:∀ o i j ac bc c,G o i j ac bc (some c)=if c=true then elem' b j>>=T1 o i j ac bc else elem' a i>>=T2 o i j ac bc)
  (h3:∀ o i j ac bc y,T1 o i j ac bc y=if(j+1==b.size)=true then pure (.done (some (o.push y++a.extract i++b.extract (j+1)),r1 o i j ac bc y)) else if p1 o i j ac bc y then pure (.done (none,o.push y,i,j+1,u1 o i j ac bc y)) else pure (.yield (none,o.push y,i,j+1,v1 o i j ac bc y)))
  (h4:∀ o i j ac bc y,T2 o i j ac bc y=if(i+1+1==a.size)=true then pure (.done (some (o.push y++b.extract j++a.extract (i+1)),r2 o i j ac bc y)) else if p2 o i j ac bc y then pure (.done (none,o.push y,i+1,j,u2 o i j ac bc y)) else pure (.yield (none,o.push y,i+1,j,v2 o i j ac bc y))):LoC a b F
structure CI (τ:Cx)(all:List Keyed)(a b:Array Keyed)(r y:Nat)(c:G3)(o:Array Keyed)(i j ac bc:Nat):Prop where
 e:c=(none,o,i,j,ac,bc)
 ok:Ia τ all a b o i j
 r:left a b i j+y<=r
theorem aat {i j:Nat}:left a b i j<=a.size+b.size:=cI (fV _ _) (fV _ _)
theorem aau {i j:Nat}(h:j<b.size):1<=left a b i j:=aj (eX h) (eF _ _)
theorem Rf {l l' y r:Nat}(e:l'+1=l)(h:l+y<=r):l'+(y+1)<=r:=by rw[<-e,dW,dH 1] at h;exact h
theorem Rg {l l' y r:Nat}(e:l'+1=l)(h:l+y<=r):l'+1<=r:=by rw[e];exact aj (aF _ _) h
theorem Rh {l n r:Nat}(h1:1<=l)(h2:l+max 0 n<=r)(h3:r<=n):False:=by
 rw[Nat.zero_max] at h2
 exact Nat.not_succ_le_self n (aj (aL h1 n) (aj (dH n l▸h2) h3))
theorem afD (I:Oh τ a b){F:Nat->G3->IM}(S:LoC a b F){o:Array Keyed}{i j ac bc:Nat}{st:SortSt}(hk:kindOf st=τ.kd)(ho:Ia τ all a b o i j){Q:G3->SortSt->Prop}
  (q1:∀ R rest,zP (yg τ) all R.toList->Q (some R,rest) st) (q2:∀ o' i' j' ac bc,Ia τ all a b o' i' j'->left a b i' j'+1<=left a b i j->Q (none,o',i',j',ac,bc) st) :
  W τ (forIn [:a.size+b.size] ((none,o,i,j,ac,bc):G3) F) Q st:=by
 refine Cy (I:=λy c st'=>st'=st/\∃ o' i' j' ac bc,CI τ all a b (left a b i j) y c o' i' j' ac bc) ?_ ?_ ⟨rfl,o,i,j,ac,bc,rfl,ho,aD _⟩
 ·rintro y c st2 _ _ ⟨rfl,o',i',j',ac,bc,rfl,ho',hr⟩
  obtain⟨hF,h1,h3,h4⟩:=S
  rw[hF]
  have hi0:i'<a.size:=cF ho'.i
  refine wV (Ds ho'.j (wV (Ds hi0 (wV (I.C.run _ _ _ (I.okb _ _) (I.yW _ _) hk _ ?_)))))
  cases e:xY τ (b[j']'ho'.j) (a[i']'hi0) with
  | true =>
   rw[h1,if_pos rfl]
   have mb:=ho'.mg.K9 hi0 ho'.j e
   have el:=afw (a:=a.size-i') ho'.j
   refine wV (Ds ho'.j ?_)
   rw[h3]
   by_cases q:(j'+1==b.size)=true
   ·rw[if_pos q]
    exact xg (q1 _ _ (mb.done (bI (cP q).symm)))
   ·rw[if_neg q]
    have hj2:j'+1<b.size:=GX ho'.j q
    split
    ·exact xg (q2 _ _ _ _ _ ⟨mb,ho'.i,hj2⟩ (Rg el hr))
    ·exact xg ⟨rfl,_,_,_,_,_,rfl,⟨mb,ho'.i,hj2⟩,Rf el hr⟩
  | false =>
   rw[h1,if_neg cZ]
   have mb:=ho'.mg.Ld hi0 ho'.j e
   have el:=aam (b:=b.size-j') hi0
   refine wV (Ds hi0 ?_)
   rw[h4]
   by_cases q:(i'+1+1==a.size)=true
   ·rw[if_pos q]
    exact xg (q1 _ _ (mb.last (cP q) I.hl))
   ·rw[if_neg q]
    have hi2:i'+1+1<a.size:=GX ho'.i q
    split
    ·exact xg (q2 _ _ _ _ _ ⟨mb,hi2,ho'.j⟩ (Rg el hr))
    ·exact xg ⟨rfl,_,_,_,_,_,rfl,⟨mb,hi2,ho'.j⟩,Rf el hr⟩
 ·rintro c st2 ⟨rfl,o',i',j',ac,bc,rfl,ho',hr⟩
  exact(Rh (aau ho'.j) hr aat).elim
inductive Ri (a b:Array Keyed)(F:Nat->G4->OM):Prop where
 | mk {F1:Array Keyed->Nat->Nat->Nat->Nat->G3->IM} {K:Array Keyed->Nat->Nat->Nat->G3->OM} {F2:Array Keyed->Nat->Nat->Nat->Nat->DR->GM} {K2:Array Keyed->Nat->Nat->Nat->DR->OM} {r1:Array Keyed->Nat->Nat->Nat->Array Keyed->Array Keyed×Nat×Nat×Nat×Nat->Array Keyed×Nat×Nat×Nat} {r2:Array Keyed->Nat->Nat->Nat->Array Keyed->Array Keyed×Nat×Nat×Nat×Nat×Nat->Array Keyed×Nat×Nat×Nat} {g1:Array Keyed->Nat->Nat->Nat->Array Keyed->Nat->Nat->Nat->Nat->Nat} {g2 g3:Array Keyed->Nat->Nat->Nat->Array Keyed->Nat->Nat->Nat->Nat->Nat->Nat}
  (hF:∀ x o i j g,F x (none,o,i,j,g)=forIn [:a.size+b.size] ((none,o,i,j,0,0):G3) (F1 o i j g)>>=K o i j g) (h1:∀ o i j g,LoC a b (F1 o i j g))
  (h2:∀ o i j g R rest,K o i j g (some R,rest)=pure (.done (some R,r1 o i j g R rest)))
  (h3:∀ o i j g o' i' j' ac bc,K o i j g (none,o',i',j',ac,bc)=(liftM (rule "list.sort.gallop"):StateT SortSt Sem Unit)>>=λuu=>forIn [:a.size+b.size] ((none,o',i',j',g1 o i j g o' i' j' ac bc,ac,bc):DR) (F2 o i j g)>>=K2 o i j g) (h4:∀ o i j g,Rd a b (F2 o i j g))
  (h5:∀ o i j g R rest,K2 o i j g (some R,rest)=pure (.done (some R,r2 o i j g R rest)))
  (h6:∀ o i j g o' i' j' g' ac bc,K2 o i j g (none,o',i',j',g',ac,bc)=FJ (g2 o i j g o' i' j' g' ac bc)>>=λuu=>pure (.yield (none,o',i',j',g3 o i j g o' i' j' g' ac bc))):Ri a b F
structure OI (st:SortSt)(τ:Cx)(all:List Keyed)(a b:Array Keyed)(x:Nat)(c:G4)(st':SortSt)(o:Array Keyed)(i j g:Nat):Prop where
 e:c=(none,o,i,j,g)
 lk:Like st st'
 ok:Ia τ all a b o i j
 r:left a b i j+x<=a.size+b.size
theorem aav {l l1 l2 x r:Nat}(h1:l1+1<=l)(h2:l2<=l1)(h:l+x<=r):l2+(x+1)<=r:=by rw[dH x,<-dW];exact aj (bw (aj (aU h2) h1) x) h
theorem afE (I:Oh τ a b){F:Nat->G4->OM}(S:Ri a b F){o:Array Keyed}{i j g:Nat}{st:SortSt}(hk:kindOf st=τ.kd)(ho:Ia τ all a b o i j){Q:G4->SortSt->Prop}(q:∀ R rest st',Like st st'->zP (yg τ) all R.toList->Q (some R,rest) st') :
  W τ (forIn [:a.size+b.size] ((none,o,i,j,g):G4) F) Q st:=by
 refine Cy (I:=λx c st'=>∃ o i j g,OI st τ all a b x c st' o i j g) ?_ ?_ ⟨o,i,j,g,rfl,Like.refl _,ho,aat⟩
 ·rintro x c st1 _ _ ⟨o,i,j,g,rfl,lk,ho,hr⟩
  obtain⟨hF,h1,h2,h3,h4,h5,h6⟩:=S
  rw[hF]
  have k1:kindOf st1=τ.kd:=lk.k.trans hk
  refine wV (afD I (h1 ..) k1 ho (λR rest hR=>?_) λo' i' j' ac bc ho' hr'=>?_)
  ·rw[h2];exact xg (q R _ st1 lk hR)
  ·rw[h3]
   refine wV (GQ (gU ⟨rfl,wV (afC I (h4 ..) k1 ho' (aD _) (λR rest st3 JD hR=>?_) λo3 i3 j3 g3 ac3 bc3 st3 JD V0 V1=>?_)⟩))
   ·rw[h5];exact xg (q R _ st3 (lk.trans JD) hR)
   ·rw[h6]
    exact wV (Rc λCi Cj=>xg ⟨o3,i3,j3,_,rfl,(lk.trans JD).trans Cj,V0,aav hr' V1 hr⟩)
 ·rintro c st1 ⟨o,i,j,g,rfl,lk,ho,hr⟩
  exact(Rh (aau ho.j) hr (aD _)).elim
inductive V5 (a b:Array Keyed)(M:StateT SortSt Sem (Array Keyed)):Prop where
 | mk {F:Keyed->StateT SortSt Sem (Array Keyed)} {g:Keyed->SortSt->Nat} {F1:Keyed->SortSt->Nat->G4->OM} {K:Keyed->SortSt->G4->StateT SortSt Sem (Array Keyed)}
  (hM:M=(liftM (rule "list.sort.merge-lo"):StateT SortSt Sem Unit)>>=λuu=>elem' b 0>>=F)
  (hF:∀ y,F y=if(1==b.size)=true then pure (#[y]++a.extract 0++b.extract 1) else if(0+1==a.size)=true then pure (#[y]++b.extract 1++a.extract 0) else(get:StateT SortSt Sem SortSt)>>=λs=>forIn [:a.size+b.size] ((none,#[y],0,1,g y s):G4) (F1 y s)>>=K y s)
  (h1:∀ y s,Ri a b (F1 y s)) (h2:∀ y s R rest,K y s (some R,rest)=pure R):V5 a b M
theorem afF (I:Oh τ a b){M:StateT SortSt Sem (Array Keyed)}(S:V5 a b M)(ha:0<a.size)(hb:0<b.size)(h0:xY τ b[0] a[0]=true){st:SortSt}(hk:kindOf st=τ.kd){Q:Array Keyed->SortSt->Prop}
  (h:∀ R st',Like st st'->zP (yg τ) (a.toList++b.toList) R.toList->Q R st'):W τ M Q st:=by
 obtain⟨hM,hF,h1,h2⟩:=S
 have m0:za τ (a.toList++b.toList) a b #[] 0 0:=⟨by rw[lu,lu];exact lU _,sY,by rw[lu];exact I.sa,by rw[lu];exact I.sb,λuu h=>absurd h aH,λuu h=>absurd h aH⟩
 have m1:=m0.K9 ha hb h0
 rw[hM]
 refine wV (GQ (gU ⟨rfl,wV (Ds hb ?_)⟩))
 rw[hF]
 by_cases e1:(1==b.size)=true
 ·rw[if_pos e1]
  exact xg (h _ st (Like.refl _) (m1.done (bI (cP e1).symm)))
 rw[if_neg e1]
 by_cases e2:(0+1==a.size)=true
 ·rw[if_pos e2]
  exact xg (h _ st (Like.refl _) (m1.last (cP e2) I.hl))
 rw[if_neg e2]
 refine wV (En (wV (afE I (h1 ..) hk ⟨m1,GX ha e2,GX hb e1⟩ λR rest st' lk hR=>?_)))
 rw[h2]
 exact xg (h R st' lk hR)
theorem afG (I:Oh τ a b)(ha:0<a.size)(hb:0<b.size)(h0:xY τ b[0] a[0]=true){st:SortSt}(hk:kindOf st=τ.kd){Q:Array Keyed->SortSt->Prop}
  (h:∀ R st',Like st st'->zP (yg τ) (a.toList++b.toList) R.toList->Q R st'):W τ (aas a b) Q st:=by
 refine afF I ?_ ha hb h0 hk h
 apply V5.mk
 ·rfl
 ·exact λuu=>rfl
 ·intro _ _
  apply Ri.mk
  ·exact λuu uu uu uu uu=>rfl
  ·intro _ _ _ _
   apply LoC.mk
   ·exact λuu uu uu uu uu uu=>rfl
   ·exact λuu uu uu uu uu uu=>rfl
   ·exact λuu uu uu uu uu uu=>rfl
   ·exact λuu uu uu uu uu uu=>rfl
  ·exact λuu uu uu uu uu uu=>rfl
  ·exact λuu uu uu uu uu uu uu uu uu=>rfl
  ·intro _ _ _ _
   apply Rd.mk
   ·exact λuu uu uu uu uu uu uu=>rfl
   ·intro _ _ _ _ _ _
    apply JC.mk
    ·rfl
    ·exact λuu=>rfl
    ·exact λuu uu=>rfl
    ·intro _ _
     apply HY.mk
     ·exact λuu=>rfl
     ·exact λuu uu uu=>rfl
     ·exact λuu uu uu uu=>rfl
     ·exact λuu uu uu uu=>rfl
    ·intro _ _
     apply HY.mk
     ·exact λuu=>rfl
     ·exact λuu uu uu=>rfl
     ·exact λuu uu uu uu=>rfl
     ·exact λuu uu uu uu=>rfl
   ·intro _ _ _ _ _ _
    apply JC.mk
    ·rfl
    ·exact λuu=>rfl
    ·exact λuu uu=>rfl
    ·intro _ _
     apply HY.mk
     ·exact λuu=>rfl
     ·exact λuu uu uu=>rfl
     ·exact λuu uu uu uu=>rfl
     ·exact λuu uu uu uu=>rfl
    ·intro _ _
     apply HY.mk
     ·exact λuu=>rfl
     ·exact λuu uu uu=>rfl
     ·exact λuu uu uu uu=>rfl
     ·exact λuu uu uu uu=>rfl
  ·exact λuu uu uu uu uu uu=>rfl
  ·exact λuu uu uu uu uu uu uu uu uu uu=>rfl
 ·exact λuu uu uu uu=>rfl
end
section
variable {τ:Cx}{a b out:Array Keyed}{na nb:Nat}{all:List Keyed}
abbrev Rj (τ:Cx)(x y:Keyed):Prop:=yg τ y x
abbrev zQ (τ:Cx)(all:List Keyed)(a b out:Array Keyed)(na nb:Nat):Prop:=Mg (Rj τ) all out.toList (a.toList.take na).reverse (b.toList.take nb).reverse
theorem JF (a:Array Keyed){n:Nat}(h0:0<n)(h:n<=a.size):(a.toList.take n).reverse=atK a (n-1)::(a.toList.take (n-1)).reverse:=by
 obtain⟨m,rfl⟩:∃ m,n=m+1:=⟨n-1,(gM h0).symm⟩
 have hm:m<a.size:=h
 rw[qz,qD (by rw[aq];exact hm),gB,yN hm];rfl
theorem aaw (a:Array Keyed){k n:Nat}(h:k<=n):(a.toList.take n).reverse=(a.extract k n).reverse.toList++(a.toList.take k).reverse:=by
 rw[iU,<-gB,lN,jV]
 congr 1
 have:=eG k (a.toList.take n)
 rw[List.take_take,dG h,List.drop_take] at this
 exact this.symm
theorem Rk {x z:Keyed}{l:List Keyed}(h:(z::l).Pairwise (Rj τ))(hz:yg τ z x):∀ y∈z::l,yg τ y x:=λy hy=>by
 rcases aM.1 hy with rfl | hy
 ·exact hz
 ·exact dK ((cX.1 h).1 y hy) hz
theorem zQ.Ld (h:zQ τ all a b out na nb)(ha:0<na)(ha':na<=a.size)(hb:0<nb)(hb':nb<=b.size)(e:xY τ (atK b (nb-1)) (atK a (na-1))=true):zQ τ all a b (out.push (atK a (na-1))) (na-1) nb:=by
 unfold zQ at h ⊢
 rw[JF a ha ha'] at h
 rw[dO]
 refine Mg.a (P:=[atK a (na-1)]) h λx hx y hy=>?_
 rw[aC.1 hx]
 have hs:=h.sb
 rw[JF b hb hb'] at hs hy
 exact Rk hs (fJ e) y hy
theorem zQ.K9 (h:zQ τ all a b out na nb)(ha:0<na)(ha':na<=a.size)(hb:0<nb)(hb':nb<=b.size)(e:xY τ (atK b (nb-1)) (atK a (na-1))=false):zQ τ all a b (out.push (atK b (nb-1))) na (nb-1):=by
 unfold zQ at h ⊢
 rw[JF b hb hb'] at h
 rw[dO]
 refine Mg.b (P:=[atK b (nb-1)]) h λx hx y hy=>?_
 rw[aC.1 hx]
 have hs:=h.sa
 rw[JF a ha ha'] at hs hy
 exact Rk hs e y hy
theorem V7 {i k n s:Nat}(h:i<min n s-k):k+i<n/\k+i<s :=
 have q:=dH i k▸u6 h
 ⟨aB q (j9 _ _),aB q (lM _ _)⟩
theorem V8 {a:Array Keyed}{k n:Nat}{x:Keyed}(h:x∈(a.extract k n).reverse.toList):∃ i,k<=i/\i<n/\i<a.size/\x=atK a i:=by
 rw[iU,ji] at h
 obtain⟨i,hi,rfl⟩:=jW h
 rw[aq,fQ] at hi
 refine⟨k+i,aF ..,(V7 hi).1,(V7 hi).2,?_⟩
 rw[fu,fO,yN]
theorem zQ.VN {k:Nat}(h:zQ τ all a b out na nb)(hk:k<=na)(hb:0<nb)(hb':nb<=b.size)(e:∀ i,k<=i->i<na->xY τ (atK b (nb-1)) (atK a i)=true):zQ τ all a b (out++(a.extract k na).reverse) k nb:=by
 unfold zQ at h ⊢
 rw[aaw a hk] at h
 rw[bO]
 refine Mg.a h λx hx y hy=>?_
 have hs:=h.sb
 rw[JF b hb hb'] at hs hy
 obtain⟨i,h1,h2,_,rfl⟩:=V8 hx
 exact Rk hs (fJ (e i h1 h2)) y hy
theorem zQ.VP {k:Nat}(h:zQ τ all a b out na nb)(hk:k<=nb)(ha:0<na)(ha':na<=a.size)(e:∀ i,k<=i->i<nb->xY τ (atK b i) (atK a (na-1))=false):zQ τ all a b (out++(b.extract k nb).reverse) na k:=by
 unfold zQ at h ⊢
 rw[aaw b hk] at h
 rw[bO]
 refine Mg.b h λx hx y hy=>?_
 have hs:=h.sa
 rw[JF a ha ha'] at hs hy
 obtain⟨i,h1,h2,_,rfl⟩:=V8 hx
 exact Rk hs (e i h1 h2) y hy
theorem zP.rev {l:List Keyed}(h:zP (Rj τ) all l):zP (yg τ) all l.reverse:=⟨(qF l).trans h.perm,lF.2 h.BK⟩
theorem Le (a:Array Keyed)(n:Nat):(a.extract 0 n).toList=a.toList.take n:=by
 rw[lN,jV,lu,Nat.sub_zero]
theorem zQ.done (h:zQ τ all a b out 0 nb):zP (yg τ) all (a.extract 0 0++b.extract 0 nb++out.reverse).toList:=by
 unfold zQ at h
 rw[o9] at h
 rw[bO,bO,Le,Le,iU,o9,rN]
 have:=(h.Q8 λuu uu y hy=>absurd hy aH).rev
 rw[List.reverse_nil,aY,gB,lQ] at this
 exact this
theorem zQ.afH (h:zQ τ all a b out na 0):zP (yg τ) all (a.extract 0 na++b.extract 0 0++out.reverse).toList:=by
 unfold zQ at h
 rw[o9] at h
 rw[bO,bO,Le,Le,iU,o9,aY]
 have:=h.aaj.rev
 rw[gB,lQ] at this
 exact this
theorem zQ.last (h:zQ τ all a b out na 1)(hb:0<b.size)(hl:∀ x∈a.toList,xY τ (atK b 0) x=true):zP (yg τ) all (b.extract 0 1++a.extract 0 na++out.reverse).toList:=by
 unfold zQ at h
 rw[bO,bO,Le,Le,iU]
 have:=((⟨(jt _ lE).trans h.perm,h.so,h.sb,h.sa,h.ob,h.oa⟩:Mg (Rj τ) all out.toList (b.toList.take 1).reverse (a.toList.take na).reverse).Q8 λx hx y hy=>?_).rev
 ·rw[gB,gB,lQ,lQ] at this
  exact this
 ·rw[JF b cO hb] at hy
  rw[aC.1 hy]
  exact fJ (hl x (pq (ji.1 hx)))
end
section
variable {τ:Cx}{all:List Keyed}{a b:Array Keyed}
theorem DW {arr:Array Keyed}{i:Nat}(h:i<arr.size){st:SortSt}{Q:Keyed->SortSt->Prop}(q:Q (atK arr i) st):W τ (elem' arr i) Q st:=by
 rw[yN h] at q;exact Ds h q
structure z7 (τ:Cx)(all:List Keyed)(a b o:Array Keyed)(na nb:Nat):Prop where
 mg:zQ τ all a b o na nb
 a0:0<na
 al:na<=a.size
 b0:1<nb
 bl:nb<=b.size
noncomputable abbrev DX:=Option (Array Keyed)×Nat×Nat×Array Keyed×Nat×Nat×Nat
noncomputable abbrev HM:=StateT SortSt Sem (ForInStep DX)
noncomputable def Rm (τ:Cx)(all:List Keyed)(a b:Array Keyed)(r:Nat):ForInStep DX->Prop
 | .done c=>(∃ R rest,c=(some R,rest)/\zP (yg τ) all R.toList)\/∃ na nb o g ac bc,c=(none,na,nb,o,g,ac,bc)/\z7 τ all a b o na nb/\na+nb<=r
 | .yield c=>∃ na nb o g ac bc,c=(none,na,nb,o,g,ac,bc)/\z7 τ all a b o na nb/\na+nb+1<=r
theorem Eo {n:Nat}{m:Nat}:(n==m)=true/\n=m\/¬(n==m)=true/\n≠m:=by
 rcases Nat.decEq n m with q | q
 ·exact .inr ⟨λz=>q (cP z),q⟩
 ·exact .inl ⟨by rw[q];exact beq_self_eq_true _,q⟩
theorem aax {o:Array Keyed}{na nb r:Nat}(mg:z7 τ all a b o na nb)(e:xY τ (atK b (nb-1)) (atK a (na-1))=true)(hr:na+nb<=r)
  {c:Bool} {rest:Keyed->Nat×Nat×Array Keyed×Nat×Nat×Nat} {u v:Keyed->Nat×Nat×Nat} {st:SortSt} {Q:ForInStep DX->SortSt->Prop} (h:∀ t,Rm τ all a b r t->Q t st) :
  W τ (elem' a (na-1)>>=λx=>if(na-1==0)=true then pure (.done (some (a.extract 0 (na-1)++b.extract 0 nb++(o.push x).reverse),rest x)) else if c=true then pure (.done (none,na-1,nb,o.push x,u x)) else pure (.yield (none,na-1,nb,o.push x,v x))) Q st:=by
 obtain⟨mg,a0,al,b0,bl⟩:=mg
 have m:=mg.Ld a0 al (cF b0) bl e
 have ha1:=aB (cU a0 cO) al
 have el:=aan (j:=nb) a0
 refine wV (DW ha1 ?_)
 rcases Eo (n:=na-1) (m:=0) with⟨q,q'⟩ | ⟨q,q'⟩
 ·rw[if_pos q]
  rw[q'] at m ⊢
  exact xg (h _ (.inl ⟨_,_,rfl,m.done⟩))
 ·rw[if_neg q]
  have m2:z7 τ all a b (o.push (atK a (na-1))) (na-1) nb:=⟨m,gO q',aQ ha1,b0,bl⟩
  cases c with
  | true=>exact xg (h _ (.inr ⟨_,_,_,_,_,_,rfl,m2,aj (aQ (qM (bI el))) hr⟩))
  | false=>exact xg (h _ ⟨_,_,_,_,_,_,rfl,m2,aj (bI el) hr⟩)
inductive Ib (a b o:Array Keyed)(na nb:Nat)(F:Keyed->HM):Prop where
 | mk {G:Keyed->Keyed->Option Nat->HM} {T T':Keyed->Keyed->Nat->Keyed->HM} {r1:Keyed->Nat×Nat×Array Keyed×Nat×Nat×Nat} {r2 r5:Keyed->Keyed->Nat->Nat×Nat×Array Keyed×Nat×Nat×Nat} {r3 r4:Keyed->Keyed->Nat->Keyed->Nat×Nat×Array Keyed×Nat×Nat×Nat} {c:Nat->Bool} {u v u' v':Keyed->Keyed->Nat->Keyed->Nat×Nat×Nat}
  (hF:∀ y,F y=if(nb-1==1)=true then pure (.done (some (b.extract 0 (nb-1)++a.extract 0 na++(o.push y).reverse),r1 y)) else elem' a (na-1)>>=λx=>GR true x b 0 (nb-1) (nb-1-1)>>=G y x)
  (hG:∀ y x k,G y x (some k)=if nb-1-k>0 then(if(k==1)=true then pure (.done (some (b.extract 0 k++a.extract 0 na++(o.push y++(b.extract k (nb-1)).reverse).reverse),r2 y x k)) else if(k==0)=true then pure (.done (some (a.extract 0 na++b.extract 0 k++(o.push y++(b.extract k (nb-1)).reverse).reverse),r5 y x k)) else elem' a (na-1)>>=T y x k) else elem' a (na-1)>>=T' y x k)
  (hT:∀ y x k z,T y x k z=if(na-1==0)=true then pure (.done (some (a.extract 0 (na-1)++b.extract 0 k++((o.push y++(b.extract k (nb-1)).reverse).push z).reverse),r3 y x k z)) else if c k=true then pure (.done (none,na-1,k,(o.push y++(b.extract k (nb-1)).reverse).push z,u y x k z)) else pure (.yield (none,na-1,k,(o.push y++(b.extract k (nb-1)).reverse).push z,v y x k z)))
  (hT':∀ y x k z,T' y x k z=if(na-1==0)=true then pure (.done (some (a.extract 0 (na-1)++b.extract 0 (nb-1)++((o.push y).push z).reverse),r4 y x k z)) else if c k=true then pure (.done (none,na-1,nb-1,(o.push y).push z,u' y x k z)) else pure (.yield (none,na-1,nb-1,(o.push y).push z,v' y x k z))):Ib a b o na nb F
theorem aay (C:Ask τ)(yW:∀ i (h:i<a.size),τ.ok a[i])(okb:∀ i (h:i<b.size),τ.ok b[i])(sb:b.toList.Pairwise (yg τ))(hl:∀ x∈a.toList,xY τ (atK b 0) x=true)
  {o:Array Keyed} {na nb r:Nat} (mg:z7 τ all a b o na nb) (e:xY τ (atK b (nb-1)) (atK a (na-1))=false) (hr:na+nb<=r) {st:SortSt} (hk:kindOf st=τ.kd) {Q:ForInStep DX->SortSt->Prop} (h:∀ t,Rm τ all a b r t->Q t st)
  {F:Keyed->HM} (M:Ib a b o na nb F) :
  W τ (elem' b (nb-1)>>=F) Q st:=by
 obtain⟨hF,hG,hT,hT'⟩:=M
 obtain⟨mg,a0,al,b0,bl⟩:=mg
 have b1:=cF b0
 have m:=mg.K9 a0 al b1 bl e
 have hb0:0<b.size:=aB b1 bl
 have hb1:nb-1<b.size:=aB (cU b1 cO) bl
 have le1:na+(nb-1)<=r:=aj (aL (fV _ _) _) hr
 refine wV (DW hb1 ?_)
 rw[hF]
 refine Dr λgg kk=>?_
 rcases Eo (n:=nb-1) (m:=1) with⟨q,q'⟩ | ⟨q,q'⟩ <;> (refine kk ?_;clear kk gg)
 ·rw[if_pos q]
  rw[q'] at m ⊢
  exact xg (h _ (.inl ⟨_,_,rfl,m.last hb0 hl⟩))
 ·rw[if_neg q]
  have ha1:na-1<a.size:=aB (cU a0 cO) al
  have n1:1<nb-1:=iJ (cV b0) (cH q')
  refine wV (DW ha1 (wV (aap C sb okb (by rw[yN ha1];exact yW _ ha1) (by rw[d9];exact aQ hb1) (cU (cF n1) cO) hk λk hk1 y1 y2=>?_)))
  rw[hG]
  simp only[d9] at y1 y2
  by_cases q1:nb-1-k>0
  ·rw[if_pos q1]
   have m2:=m.VP (k:=k) hk1 a0 al y2
   rcases Eo (n:=k) (m:=1) with⟨q,q'⟩ | ⟨q,q'⟩
   ·rw[if_pos q]
    subst q'
    exact xg (h _ (.inl ⟨_,_,rfl,m2.last hb0 hl⟩))
   ·rw[if_neg q]
    rcases Eo (n:=k) (m:=0) with⟨p,p'⟩ | ⟨p,p'⟩
    ·rw[if_pos p]
     subst p'
     exact xg (h _ (.inl ⟨_,_,rfl,m2.afH⟩))
    ·rw[if_neg p,funext (hT _ _ _)]
     have k1:1<k:=iJ (gO p') (cH q')
     exact aax ⟨m2,a0,al,k1,aj hk1 (aQ hb1)⟩ (y1 _ (cU (cF k1) cO)) (aj (aL hk1 na) le1) h
  ·rw[if_neg q1,funext (hT' _ _ _)]
   exact aax ⟨m,a0,al,n1,aQ hb1⟩ (y1 _ (by rw[(cM hk1 (iK (lC q1)):k=nb-1)];exact cU (cF n1) cO)) le1 h
inductive JG (a b o:Array Keyed)(na nb:Nat)(F0:Unit->HM):Prop where
 | mk {F1:Keyed->HM} {F2:Keyed->Option Nat->HM} {F3 F4:Keyed->Nat->Keyed->HM} {r1:Keyed->Nat->Nat×Nat×Array Keyed×Nat×Nat×Nat}
  (h0:F0 ()=elem' b (nb-1)>>=F1) (h1:∀ y,F1 y=GR false y a 0 na (na-1)>>=F2 y)
  (h2:∀ y k,F2 y (some k)=if na-k>0 then(if(k==0)=true then pure (.done (some (a.extract 0 k++b.extract 0 nb++(o++(a.extract k na).reverse).reverse),r1 y k)) else elem' b (nb-1)>>=F3 y k) else elem' b (nb-1)>>=F4 y k)
  (h3:∀ y k,Ib a b (o++(a.extract k na).reverse) k nb (F3 y k)) (h4:∀ y k,Ib a b o na nb (F4 y k)):JG a b o na nb F0
theorem afI (C:Ask τ)(yW:∀ i (h:i<a.size),τ.ok a[i])(okb:∀ i (h:i<b.size),τ.ok b[i])(sa:a.toList.Pairwise (yg τ))(sb:b.toList.Pairwise (yg τ))(hl:∀ x∈a.toList,xY τ (atK b 0) x=true)
  {o:Array Keyed} {na nb:Nat} (mg:z7 τ all a b o na nb) {st:SortSt} (hk:kindOf st=τ.kd) {Q:ForInStep DX->SortSt->Prop} (h:∀ t st',Like st st'->Rm τ all a b (na+nb) t->Q t st')
  {g:Nat} {F0:Unit->HM} (M:JG a b o na nb F0):W τ (FJ g>>=F0) Q st:=by
 obtain⟨h0,h1,h2,h3,h4⟩:=M
 refine wV (Rc λCi Cj=>?_)
 have k5:kindOf Ci=τ.kd:=Cj.k.trans hk
 have fin:∀ t,Rm τ all a b (na+nb) t->Q t Ci:=λt=>h t Ci Cj
 obtain⟨mg,a0,al,b0,bl⟩:=mg
 have hb1:nb-1<b.size:=aB (cU (cF b0) cO) bl
 rw[h0]
 refine wV (DW hb1 ?_)
 rw[h1]
 refine wV (aao C sa yW (by rw[yN hb1];exact okb _ hb1) (by rw[d9];exact al) (cU a0 cO) k5 λk hk1 y1 y2=>?_)
 simp only[d9] at y1 y2
 rw[h2]
 by_cases q1:na-k>0
 ·rw[if_pos q1]
  have one:=mg.VN (k:=k) hk1 (cF b0) bl y2
  rcases Eo (n:=k) (m:=0) with⟨q,q'⟩ | ⟨q,q'⟩
  ·rw[if_pos q]
   subst q'
   exact xg (fin _ (.inl ⟨_,_,rfl,one.done⟩))
  ·rw[if_neg q]
   have k0:0<k:=gO q'
   exact aay C yW okb sb hl ⟨one,k0,aj hk1 al,b0,bl⟩ (y1 _ (cU k0 cO)) (bw hk1 nb) k5 fin (h3 _ _)
 ·rw[if_neg q1]
  exact aay C yW okb sb hl ⟨mg,a0,al,b0,bl⟩ (y1 _ (by rw[(cM hk1 (iK (lC q1)):k=na)];exact cU a0 cO)) (aD _) k5 fin (h4 _ _)
end
noncomputable def aaz:Array Keyed->Array Keyed->StateT SortSt Sem (Array Keyed):=sortPriv% PySem.Builtin.mergeHi
noncomputable abbrev G6:=Option (Array Keyed)×Nat×Nat×Array Keyed×Nat×Nat
noncomputable abbrev Oj:=StateT SortSt Sem (ForInStep G6)
noncomputable abbrev G7:=Option (Array Keyed)×Nat×Nat×Array Keyed×Nat
noncomputable abbrev HOM:=StateT SortSt Sem (ForInStep G7)
section
variable {τ:Cx}{all:List Keyed}{a b:Array Keyed}
structure Ol (τ:Cx)(a b:Array Keyed):Prop where
 C:Ask τ
 yW:∀ i (h:i<a.size),τ.ok a[i]
 okb:∀ i (h:i<b.size),τ.ok b[i]
 sa:a.toList.Pairwise (yg τ)
 sb:b.toList.Pairwise (yg τ)
 hl:∀ x∈a.toList,xY τ (atK b 0) x=true
inductive Rn (a b:Array Keyed)(F:Nat->DX->HM):Prop where
 | mk {g1:Nat->Nat->Array Keyed->Nat->Nat->Nat->Nat} {F0 Oi:Nat->Nat->Array Keyed->Nat->Nat->Nat->Unit->HM}
  (hF:∀ x i j o g ac bc,F x (none,i,j,o,g,ac,bc)=if g>1 then FJ (g1 i j o g ac bc)>>=F0 i j o g ac bc else FJ g>>=Oi i j o g ac bc)
  (h1:∀ i j o g ac bc,JG a b o i j (F0 i j o g ac bc)) (h2:∀ i j o g ac bc,JG a b o i j (Oi i j o g ac bc)):Rn a b F
structure HGI (st:SortSt)(τ:Cx)(all:List Keyed)(a b:Array Keyed)(r:Nat)(c:DX)(st':SortSt)(i j:Nat)(o:Array Keyed)(g ac bc:Nat):Prop where
 e:c=(none,i,j,o,g,ac,bc)
 lk:Like st st'
 ok:z7 τ all a b o i j
 r:i+j<=r
theorem afJ (I:Ol τ a b){F:Nat->DX->HM}(S:Rn a b F){o:Array Keyed}{i j g ac bc N r:Nat}{st:SortSt}(hk:kindOf st=τ.kd)(ho:z7 τ all a b o i j)(hr:i+j<=r){Q:DX->SortSt->Prop}
  (q1:∀ R rest st',Like st st'->zP (yg τ) all R.toList->Q (some R,rest) st') (q2:∀ i j o g ac bc st',Like st st'->z7 τ all a b o i j->i+j<=r->Q (none,i,j,o,g,ac,bc) st') :
  W τ (forIn [:N] ((none,i,j,o,g,ac,bc):DX) F) Q st:=by
 refine Cy (I:=λuu c st'=>∃ i j o g ac bc,HGI st τ all a b r c st' i j o g ac bc) ?_ ?_ ⟨i,j,o,g,ac,bc,rfl,Like.refl _,ho,hr⟩
 ·rintro y c st3 _ _ ⟨i,j,o,g,ac,bc,rfl,lk,ho,hr⟩
  obtain⟨hF,h1,h2⟩:=S
  have pick:∃ g' F0,JG a b o i j F0/\F y (none,i,j,o,g,ac,bc)=FJ g'>>=F0:=by
   rw[hF]
   by_cases gg:g>1
   ·rw[if_pos gg];exact⟨_,_,h1 i j o g ac bc,rfl⟩
   ·rw[if_neg gg];exact⟨_,_,h2 i j o g ac bc,rfl⟩
  obtain⟨g',F0,M,e⟩:=pick
  rw[e]
  refine afI I.C I.yW I.okb I.sa I.sb I.hl ho (lk.k.trans hk) (λt Ci Cj ht=>?_) M
  cases t with
  | done c =>
   refine Dr λgg kk=>?_
   rcases ht with⟨R,rest,rfl,hR⟩ | ⟨i',j',o,g,ac,bc,rfl,m,t3⟩ <;> (refine kk ?_;clear kk gg)
   ·exact q1 R rest Ci (lk.trans Cj) hR
   ·exact q2 i' j' o g ac bc Ci (lk.trans Cj) m (aj t3 hr)
  | yield c =>
   obtain⟨i',j',o,g,ac,bc,rfl,m,t3⟩:=ht
   exact⟨i',j',o,g,ac,bc,rfl,lk.trans Cj,m,aj (dU t3) hr⟩
 ·rintro c st3 ⟨i,j,o,g,ac,bc,rfl,lk,ho,hr⟩
  exact q2 i j o g ac bc st3 lk ho hr
inductive Ro (a b:Array Keyed)(F:Nat->G6->Oj):Prop where
 | mk {G:Nat->Nat->Array Keyed->Nat->Nat->Option Bool->Oj} {T1 T2:Nat->Nat->Array Keyed->Nat->Nat->Keyed->Oj} {r1 r2:Nat->Nat->Array Keyed->Nat->Nat->Keyed->Nat×Nat×Array Keyed×Nat×Nat} {u1 v1 u2 v2:Nat->Nat->Array Keyed->Nat->Nat->Keyed->Nat×Nat} {p1 p2:Nat->Nat->Array Keyed->Nat->Nat->Keyed->Prop} {d1:∀ i j o ac bc y,Decidable (p1 i j o ac bc y)} {d2:∀ i j o ac bc y,Decidable (p2 i j o ac bc y)}
  (hF:∀ x i j o ac bc,F x (none,i,j,o,ac,bc)=elem' b (j-1)>>=λy=>elem' a (i-1)>>=λz=>lt' y z>>=G i j o ac bc)
  (h1:∀ i j o ac bc c,G i j o ac bc (some c)=if c=true then elem' a (i-1)>>=T1 i j o ac bc else elem' b (j-1)>>=T2 i j o ac bc)
  (h3:∀ i j o ac bc y,T1 i j o ac bc y=if(i-1==0)=true then pure (.done (some (a.extract 0 (i-1)++b.extract 0 j++(o.push y).reverse),r1 i j o ac bc y)) else if p1 i j o ac bc y then pure (.done (none,i-1,j,o.push y,u1 i j o ac bc y)) else pure (.yield (none,i-1,j,o.push y,v1 i j o ac bc y)))
  (h4:∀ i j o ac bc y,T2 i j o ac bc y=if(j-1==1)=true then pure (.done (some (b.extract 0 (j-1)++a.extract 0 i++(o.push y).reverse),r2 i j o ac bc y)) else if p2 i j o ac bc y then pure (.done (none,i,j-1,o.push y,u2 i j o ac bc y)) else pure (.yield (none,i,j-1,o.push y,v2 i j o ac bc y))):Ro a b F
structure HCI (τ:Cx)(all:List Keyed)(a b:Array Keyed)(r y:Nat)(c:G6)(i j:Nat)(o:Array Keyed)(ac bc:Nat):Prop where
 e:c=(none,i,j,o,ac,bc)
 ok:z7 τ all a b o i j
 r:i+j+y<=r
theorem z7.left {o:Array Keyed}{i j:Nat}(h:z7 τ all a b o i j):i+j<=a.size+b.size:=cI h.al h.bl
theorem z7.pos {o:Array Keyed}{i j:Nat}(h:z7 τ all a b o i j):1<=i+j:=aj h.a0 (aF _ _)
theorem z7.ia {o:Array Keyed}{i j:Nat}(h:z7 τ all a b o i j):i-1<a.size:=aB (cU h.a0 cO) h.al
theorem z7.jb {o:Array Keyed}{i j:Nat}(h:z7 τ all a b o i j):j-1<b.size:=aB (cU (cF h.b0) cO) h.bl
theorem afK (I:Ol τ a b)(hb:0<b.size){F:Nat->G6->Oj}(S:Ro a b F){o:Array Keyed}{i j ac bc:Nat}{st:SortSt}(hk:kindOf st=τ.kd)(ho:z7 τ all a b o i j){Q:G6->SortSt->Prop}
  (q1:∀ R rest,zP (yg τ) all R.toList->Q (some R,rest) st) (q2:∀ i' j' o' ac bc,z7 τ all a b o' i' j'->i'+j'+1<=i+j->Q (none,i',j',o',ac,bc) st) :
  W τ (forIn [:a.size+b.size] ((none,i,j,o,ac,bc):G6) F) Q st:=by
 refine Cy (I:=λy c st'=>st'=st/\∃ i' j' o' ac bc,HCI τ all a b (i+j) y c i' j' o' ac bc) ?_ ?_ ⟨rfl,i,j,o,ac,bc,rfl,ho,aD _⟩
 ·rintro y c st2 _ _ ⟨rfl,i',j',o',ac,bc,rfl,ho',hr⟩
  obtain⟨hF,h1,h3,h4⟩:=S
  rw[hF]
  have hi0:=ho'.ia
  have hj0:=ho'.jb
  refine wV (DW hj0 (wV (DW hi0 (wV (I.C.run _ _ _ (by rw[yN hj0];exact I.okb _ _) (by rw[yN hi0];exact I.yW _ _) hk _ ?_)))))
  cases e:xY τ (atK b (j'-1)) (atK a (i'-1)) with
  | true =>
   rw[h1,if_pos rfl]
   have mb:=ho'.mg.Ld ho'.a0 ho'.al (cF ho'.b0) ho'.bl e
   have el:=aan (j:=j') ho'.a0
   refine wV (DW hi0 ?_)
   rw[h3]
   rcases Eo (n:=i'-1) (m:=0) with⟨q,q'⟩ | ⟨q,q'⟩
   ·rw[if_pos q]
    rw[q'] at mb ⊢
    exact xg (q1 _ _ mb.done)
   ·rw[if_neg q]
    have ho2:z7 τ all a b (o'.push (atK a (i'-1))) (i'-1) j':=⟨mb,gO q',aQ hi0,ho'.b0,ho'.bl⟩
    split
    ·exact xg (q2 _ _ _ _ _ ho2 (Rg el hr))
    ·exact xg ⟨rfl,_,_,_,_,_,rfl,ho2,Rf el hr⟩
  | false =>
   rw[h1,if_neg cZ]
   have mb:=ho'.mg.K9 ho'.a0 ho'.al (cF ho'.b0) ho'.bl e
   have el:=afx (i:=i') ho'.b0
   refine wV (DW hj0 ?_)
   rw[h4]
   rcases Eo (n:=j'-1) (m:=1) with⟨q,q'⟩ | ⟨q,q'⟩
   ·rw[if_pos q]
    rw[q'] at mb ⊢
    exact xg (q1 _ _ (mb.last hb I.hl))
   ·rw[if_neg q]
    have ho2:z7 τ all a b (o'.push (atK b (j'-1))) i' (j'-1):=⟨mb,ho'.a0,ho'.al,iJ (cV ho'.b0) (cH q'),aQ hj0⟩
    split
    ·exact xg (q2 _ _ _ _ _ ho2 (Rg el hr))
    ·exact xg ⟨rfl,_,_,_,_,_,rfl,ho2,Rf el hr⟩
 ·rintro c st2 ⟨rfl,i',j',o',ac,bc,rfl,ho',hr⟩
  exact(Rh ho'.pos hr ho.left).elim
inductive Rp (a b:Array Keyed)(F:Nat->G7->HOM):Prop where
 | mk {F1:Nat->Nat->Array Keyed->Nat->Nat->G6->Oj} {K:Nat->Nat->Array Keyed->Nat->G6->HOM} {F2:Nat->Nat->Array Keyed->Nat->Nat->DX->HM} {K2:Nat->Nat->Array Keyed->Nat->DX->HOM} {r1:Nat->Nat->Array Keyed->Nat->Array Keyed->Nat×Nat×Array Keyed×Nat×Nat->Nat×Nat×Array Keyed×Nat} {r2:Nat->Nat->Array Keyed->Nat->Array Keyed->Nat×Nat×Array Keyed×Nat×Nat×Nat->Nat×Nat×Array Keyed×Nat} {g1:Nat->Nat->Array Keyed->Nat->Nat->Nat->Array Keyed->Nat->Nat->Nat} {g2 g3:Nat->Nat->Array Keyed->Nat->Nat->Nat->Array Keyed->Nat->Nat->Nat->Nat}
  (hF:∀ x i j o g,F x (none,i,j,o,g)=forIn [:a.size+b.size] ((none,i,j,o,0,0):G6) (F1 i j o g)>>=K i j o g) (h1:∀ i j o g,Ro a b (F1 i j o g))
  (h2:∀ i j o g R rest,K i j o g (some R,rest)=pure (.done (some R,r1 i j o g R rest)))
  (h3:∀ i j o g i' j' o' ac bc,K i j o g (none,i',j',o',ac,bc)=(liftM (rule "list.sort.gallop"):StateT SortSt Sem Unit)>>=λuu=>forIn [:a.size+b.size] ((none,i',j',o',g1 i j o g i' j' o' ac bc,ac,bc):DX) (F2 i j o g)>>=K2 i j o g) (h4:∀ i j o g,Rn a b (F2 i j o g))
  (h5:∀ i j o g R rest,K2 i j o g (some R,rest)=pure (.done (some R,r2 i j o g R rest)))
  (h6:∀ i j o g i' j' o' g' ac bc,K2 i j o g (none,i',j',o',g',ac,bc)=FJ (g2 i j o g i' j' o' g' ac bc)>>=λuu=>pure (.yield (none,i',j',o',g3 i j o g i' j' o' g' ac bc))):Rp a b F
structure HOI (st:SortSt)(τ:Cx)(all:List Keyed)(a b:Array Keyed)(x:Nat)(c:G7)(st':SortSt)(i j:Nat)(o:Array Keyed)(g:Nat):Prop where
 e:c=(none,i,j,o,g)
 lk:Like st st'
 ok:z7 τ all a b o i j
 r:i+j+x<=a.size+b.size
theorem afL (I:Ol τ a b)(hb:0<b.size){F:Nat->G7->HOM}(S:Rp a b F){o:Array Keyed}{i j g:Nat}{st:SortSt}(hk:kindOf st=τ.kd)(ho:z7 τ all a b o i j){Q:G7->SortSt->Prop}(q:∀ R rest st',Like st st'->zP (yg τ) all R.toList->Q (some R,rest) st') :
  W τ (forIn [:a.size+b.size] ((none,i,j,o,g):G7) F) Q st:=by
 refine Cy (I:=λx c st'=>∃ i j o g,HOI st τ all a b x c st' i j o g) ?_ ?_ ⟨i,j,o,g,rfl,Like.refl _,ho,ho.left⟩
 ·rintro x c st1 _ _ ⟨i,j,o,g,rfl,lk,ho,hr⟩
  obtain⟨hF,h1,h2,h3,h4,h5,h6⟩:=S
  rw[hF]
  have k1:kindOf st1=τ.kd:=lk.k.trans hk
  refine wV (afK I hb (h1 ..) k1 ho (λR rest hR=>?_) λi' j' o' ac bc ho' hr'=>?_)
  ·rw[h2];exact xg (q R _ st1 lk hR)
  ·rw[h3]
   refine wV (GQ (gU ⟨rfl,wV (afJ I (h4 ..) k1 ho' (aD _) (λR rest st3 JD hR=>?_) λi3 j3 o3 g3 ac3 bc3 st3 JD V0 V1=>?_)⟩))
   ·rw[h5];exact xg (q R _ st3 (lk.trans JD) hR)
   ·rw[h6]
    exact wV (Rc λCi Cj=>xg ⟨i3,j3,o3,_,rfl,(lk.trans JD).trans Cj,V0,aav hr' V1 hr⟩)
 ·rintro c st1 ⟨i,j,o,g,rfl,lk,ho,hr⟩
  exact(Rh ho.pos hr (aD _)).elim
inductive V9 (a b:Array Keyed)(M:StateT SortSt Sem (Array Keyed)):Prop where
 | mk {F:Keyed->StateT SortSt Sem (Array Keyed)} {g:Keyed->SortSt->Nat} {F1:Keyed->SortSt->Nat->G7->HOM} {K:Keyed->SortSt->G7->StateT SortSt Sem (Array Keyed)}
  (hM:M=(liftM (rule "list.sort.merge-hi"):StateT SortSt Sem Unit)>>=λuu=>elem' a (a.size-1)>>=F)
  (hF:∀ y,F y=if(a.size-1==0)=true then pure (a.extract 0 (a.size-1)++b.extract 0 b.size++#[y].reverse) else if(b.size==1)=true then pure (b.extract 0 b.size++a.extract 0 (a.size-1)++#[y].reverse) else(get:StateT SortSt Sem SortSt)>>=λs=>forIn [:a.size+b.size] ((none,a.size-1,b.size,#[y],g y s):G7) (F1 y s)>>=K y s)
  (h1:∀ y s,Rp a b (F1 y s)) (h2:∀ y s R rest,K y s (some R,rest)=pure R):V9 a b M
theorem afM (I:Ol τ a b){M:StateT SortSt Sem (Array Keyed)}(S:V9 a b M)(ha:0<a.size)(hb:0<b.size)(h0:xY τ (atK b (b.size-1)) (atK a (a.size-1))=true){st:SortSt}(hk:kindOf st=τ.kd){Q:Array Keyed->SortSt->Prop}
  (h:∀ R st',Like st st'->zP (yg τ) (a.toList++b.toList) R.toList->Q R st'):W τ M Q st:=by
 obtain⟨hM,hF,h1,h2⟩:=S
 have m0:zQ τ (a.toList++b.toList) a b #[] a.size b.size:=by
  have ea:a.toList.take a.size=a.toList:=kZ (by rw[aq];exact aD _)
  have eb:b.toList.take b.size=b.toList:=kZ (by rw[aq];exact aD _)
  refine⟨?_,sY,?_,?_,λuu h=>absurd h aH,λuu h=>absurd h aH⟩
  ·rw[ea,eb];exact List.Perm.append (l₁:=a.toList.reverse) (qF _) (qF _)
  ·rw[ea];exact lF.2 I.sa
  ·rw[eb];exact lF.2 I.sb
 have m1:=m0.Ld ha (aD _) hb (aD _) h0
 rw[hM]
 refine wV (GQ (gU ⟨rfl,wV (DW (cU ha cO) ?_)⟩))
 rw[hF]
 refine Dr λgg kk=>?_
 rcases Eo (n:=a.size-1) (m:=0) with⟨q,q'⟩ | ⟨q,q'⟩ <;> (refine kk ?_;clear kk gg)
 ·rw[if_pos q]
  rw[q'] at m1 ⊢
  exact xg (h _ st (Like.refl _) m1.done)
 rw[if_neg q]
 refine Dr λgg kk=>?_
 rcases Eo (n:=b.size) (m:=1) with⟨p,p'⟩ | ⟨p,p'⟩ <;> (refine kk ?_;clear kk gg)
 ·rw[if_pos p]
  rw[p'] at m1 ⊢
  exact xg (h _ st (Like.refl _) (m1.last hb I.hl))
 rw[if_neg p]
 refine wV (En (wV (afL I hb (h1 ..) hk ⟨m1,gO q',fV _ _,iJ hb (cH p'),aD _⟩ λR rest st' lk hR=>?_)))
 rw[h2]
 exact xg (h R st' lk hR)
theorem afN (I:Ol τ a b)(ha:0<a.size)(hb:0<b.size)(h0:xY τ (atK b (b.size-1)) (atK a (a.size-1))=true){st:SortSt}(hk:kindOf st=τ.kd){Q:Array Keyed->SortSt->Prop}
  (h:∀ R st',Like st st'->zP (yg τ) (a.toList++b.toList) R.toList->Q R st'):W τ (aaz a b) Q st:=by
 refine afM I ?_ ha hb h0 hk h
 apply V9.mk
 ·rfl
 ·exact λuu=>rfl
 ·intro _ _
  apply Rp.mk
  ·exact λuu uu uu uu uu=>rfl
  ·intro _ _ _ _
   apply Ro.mk
   ·exact λuu uu uu uu uu uu=>rfl
   ·exact λuu uu uu uu uu uu=>rfl
   ·exact λuu uu uu uu uu uu=>rfl
   ·exact λuu uu uu uu uu uu=>rfl
  ·exact λuu uu uu uu uu uu=>rfl
  ·exact λuu uu uu uu uu uu uu uu uu=>rfl
  ·intro _ _ _ _
   apply Rn.mk
   ·exact λuu uu uu uu uu uu uu=>rfl
   ·intro _ _ _ _ _ _
    apply JG.mk
    ·rfl
    ·exact λuu=>rfl
    ·exact λuu uu=>rfl
    ·intro _ _
     apply Ib.mk
     ·exact λuu=>rfl
     ·exact λuu uu uu=>rfl
     ·exact λuu uu uu uu=>rfl
     ·exact λuu uu uu uu=>rfl
    ·intro _ _
     apply Ib.mk
     ·exact λuu=>rfl
     ·exact λuu uu uu=>rfl
     ·exact λuu uu uu uu=>rfl
     ·exact λuu uu uu uu=>rfl
   ·intro _ _ _ _ _ _
    apply JG.mk
    ·rfl
    ·exact λuu=>rfl
    ·exact λuu uu=>rfl
    ·intro _ _
     apply Ib.mk
     ·exact λuu=>rfl
     ·exact λuu uu uu=>rfl
     ·exact λuu uu uu uu=>rfl
     ·exact λuu uu uu uu=>rfl
    ·intro _ _
     apply Ib.mk
     ·exact λuu=>rfl
     ·exact λuu uu uu=>rfl
     ·exact λuu uu uu uu=>rfl
     ·exact λuu uu uu uu=>rfl
  ·exact λuu uu uu uu uu uu=>rfl
  ·exact λuu uu uu uu uu uu uu uu uu uu=>rfl
 ·exact λuu uu uu uu=>rfl
end
noncomputable def kk (τ:Cx)(xs:Array Keyed)(i:Nat):τ.O.α:=τ.key (atK xs i)
section
variable {τ:Cx}
theorem BL {xs ys:Array Keyed}{i j:Nat}(h:xs[i]?=ys[j]?):kk τ xs i=kk τ ys j:=by unfold kk atK;rw[h]
theorem afO {xs:Array Keyed}{src d:Nat}(hs:src<xs.size)(hd:d<=src)(k:Nat) :
  kk τ (bubble xs src d) k=if k=src-d then kk τ xs src else if src-d<k/\k<=src then kk τ xs (k-1) else kk τ xs k:=by
 have e:=getElem?_bubble hs d hd k
 by_cases h1:k=src-d
 ·rw[if_pos h1] at e ⊢;exact BL e
 ·rw[if_neg h1] at e ⊢
  by_cases h2:src-d<k/\k<=src
  ·rw[if_pos h2] at e ⊢;exact BL e
  ·rw[if_neg h2] at e ⊢;exact BL e
theorem Wa {xs:Array Keyed}{i j:Nat}(hj:j<=xs.size)(k:Nat) :
  kk τ (mirror xs i j ((j-i)/2)) k=if i<=k/\k<j then kk τ xs (i+j-1-k) else kk τ xs k:=by
 have e:=getElem?_mirror_all (i:=i) hj k
 by_cases h1:i<=k/\k<j
 ·rw[if_pos h1] at e ⊢;exact BL e
 ·rw[if_neg h1] at e ⊢;exact BL e
theorem Rq {i j k:Nat}(q:i<=k/\k<j):i<=i+j-1-k/\i+j-1-k<j:=by
 obtain⟨m,rfl⟩:=Nat.exists_eq_add_of_lt q.2
 rw[((congrArg (·-k) (Nat.add_left_comm i k m)).trans (kO ..):i+(k+m+1)-1-k=i+m)];exact⟨aF ..,gA (bw q.1 m)⟩
theorem aaA {xs:Array Keyed}{i j:Nat}(hj:j<=xs.size)(heq:∀ k,i<=k->k<j->kk τ xs k=kk τ xs (j-1))(k:Nat) :
  kk τ (mirror xs i j ((j-i)/2)) k=kk τ xs k:=by
 rw[Wa hj]
 by_cases q:i<=k/\k<j
 ·rw[if_pos q,heq _ (Rq q).1 (Rq q).2,heq k q.1 q.2]
 ·rw[if_neg q]
def yU (τ:Cx)(xs:Array Keyed)(lo hi:Nat):Prop:=∀ i j,lo<=i->i<=j->j<hi->τ.O.kle (kk τ xs i) (kk τ xs j)
def Ck (τ:Cx)(xs:Array Keyed)(lo hi:Nat):Prop:=∀ i j,lo<=i->i<=j->j<hi->τ.O.kle (kk τ xs j) (kk τ xs i)
theorem yU.more {xs:Array Keyed}{lo hi:Nat}(h:yU τ xs lo hi)(hl:lo<hi)(e:τ.O.kle (kk τ xs (hi-1)) (kk τ xs hi)):yU τ xs lo (hi+1):=λi j h1 h2 h3=>by
 rcases cW j hi with q | q
 ·exact h i j h1 h2 q
 ·obtain rfl:j=hi:=cM (bU h3) q
  rcases cW i j with p | p
  ·exact dK (h i (j-1) h1 (cV p) (cU (gW p) cO)) e
  ·obtain rfl:i=j:=cM h2 p
   exact iQ _
theorem Ck.more {xs:Array Keyed}{lo hi:Nat}(h:Ck τ xs lo hi)(hl:lo<hi)(e:τ.O.kle (kk τ xs hi) (kk τ xs (hi-1))):Ck τ xs lo (hi+1):=λi j h1 h2 h3=>by
 rcases cW j hi with q | q
 ·exact h i j h1 h2 q
 ·obtain rfl:j=hi:=cM (bU h3) q
  rcases cW i j with p | p
  ·exact dK e (h i (j-1) h1 (cV p) (cU (gW p) cO))
  ·obtain rfl:i=j:=cM h2 p
   exact iQ _
theorem Wb {xs:Array Keyed}{src dst:Nat}(hs:src<xs.size)(hd:dst<=src)(i:Nat):kk τ (bubble xs src (src-dst)) i=if i=dst then kk τ xs src else if dst<i/\i<=src then kk τ xs (i-1) else kk τ xs i:=by
 have:=afO (τ:=τ) hs (fV src dst) i
 rw[Nat.sub_sub_self hd] at this;exact this
theorem pred_lt {d j s:Nat}(h:d<j)(h2:j<s+1):j-1<s:=aB (cU (gW h) cO) (bU h2)
theorem Wc {xs:Array Keyed}{lo src dst:Nat}(hs:src<xs.size)(hl:lo<=dst)(hd:dst<=src)(Wd:yU τ xs lo src)(h1:∀ i,lo<=i->i<dst->τ.O.kle (kk τ xs i) (kk τ xs src))(h2:∀ i,dst<=i->i<src->τ.O.klt (kk τ xs src) (kk τ xs i)):yU τ (bubble xs src (src-dst)) lo (src+1):=by
 intro i j hi hij hj
 have a1:∀ {m},m<dst->kk τ (bubble xs src (src-dst)) m=kk τ xs m:=λh=>by rw[Wb hs hd,if_neg (bQ h),if_neg λq=>Nat.lt_asymm h q.1]
 have a2:kk τ (bubble xs src (src-dst)) dst=kk τ xs src:=by rw[Wb hs hd,if_pos rfl]
 have a3:∀ {m},dst<m->m<src+1->kk τ (bubble xs src (src-dst)) m=kk τ xs (m-1):=λh h'=>by rw[Wb hs hd,if_neg (lB h),if_pos ⟨h,bU h'⟩]
 rcases qK i dst with p | p | p
 ·rw[a1 p]
  rcases qK j dst with r | r | r
  ·rw[a1 r];exact Wd i j hi hij (aB r hd)
  ·rw[r,a2];exact h1 i hi p
  ·rw[a3 r hj];exact Wd i (j-1) hi (cV (eY p r)) (pred_lt r hj)
 ·rw[p,a2]
  rcases Nat.eq_or_lt_of_le hij with r | r
  ·rw[<-r,p,a2];exact iQ _
  ·rw[p] at r
   rw[a3 r hj];exact fJ (h2 (j-1) (cV r) (pred_lt r hj))
 ·have r:=aB p hij
  rw[a3 p (aK hij hj),a3 r hj]
  exact Wd (i-1) (j-1) (aj hl (cV p)) (fB hij 1) (pred_lt r hj)
theorem Wf {l r:Nat}(h:l<r):l<=(l+r)/2/\(l+r)/2<r :=
 ⟨(Nat.le_div_iff_mul_le (Nat.zero_lt_succ 1)).2 (Nat.mul_two l▸aL (aQ h) l),Nat.div_lt_of_lt_mul (Nat.two_mul r▸Nat.add_lt_add_right h r)⟩
theorem afP {l r k x:Nat}(h:l<r)(q:r-l<=k-x):(l+r)/2-l<=k-(x+1):=aj (fB (cV (Wf h).2) l) (by rw[vU,<-kJ];exact fB q 1)
theorem afQ {l r k x:Nat}(h:l<r)(q:r-l<=k-x):r-((l+r)/2+1)<=k-(x+1):=aj (iu (aU (Wf h).1) r) (show r-(l+1)<=_ by rw[<-kJ,<-kJ];exact fB q 1)
theorem afR {l r k x:Nat}(h:l<=r)(q:r-l<=k-max x k):l=r:=cM h (iK (u5.1 (by rw[oZ (jo x k)] at q;exact q)))
theorem afS {k n:Nat}(h:k<n):min k n=k/\min (k+1) n=k+1:=⟨dG (aQ h),dG h⟩
theorem afT (m n:Nat):min (max (max m 1) n) n=n:=jR (jo _ _)
theorem aaB {lo i j:Nat}(h1:lo<=i)(h2:i<=j)(h3:j<lo+1):i=j:=cM h2 (aj (bU h3) h1)
theorem yU.one (xs:Array Keyed)(lo:Nat):yU τ xs lo (lo+1):=λi j h1 h2 h3=>by
 rw[aaB h1 h2 h3];exact iQ _
theorem Ck.one (xs:Array Keyed)(lo:Nat):Ck τ xs lo (lo+1):=λi j h1 h2 h3=>by
 rw[aaB h1 h2 h3];exact iQ _
end
structure Keep (lo:Nat)(st st':SortSt):Prop where
 k:kindOf st'=kindOf st
 p:pendingOf st'=pendingOf st
 f:failedOf st'=failedOf st
 perm:(arrOf st').Perm (arrOf st)
 low:∀ i<lo,(arrOf st')[i]?=(arrOf st)[i]?
theorem Keep.refl (lo:Nat)(st:SortSt):Keep lo st st:=⟨rfl,rfl,rfl,m9 _,λuu uu=>rfl⟩
theorem Keep.trans {lo:Nat}{a b c:SortSt}(h:Keep lo a b)(h2:Keep lo b c):Keep lo a c:=⟨h2.k.trans h.k,h2.p.trans h.p,h2.f.trans h.f,h2.perm.trans h.perm,λi hi=>(h2.low i hi).trans (h.low i hi)⟩
theorem Keep.size {lo:Nat}{a b:SortSt}(h:Keep lo a b):(arrOf b).size=(arrOf a).size:=h.perm.size_eq
theorem Keep.bub {lo src d:Nat}(st:SortSt)(hs:src<(arrOf st).size)(hd:lo+d<=src):Keep lo st (setArr st (bubble (arrOf st) src d)) :=
 ⟨rfl,rfl,rfl,bubble_perm _ _ _,λi hi=>by
  have q:i<src-d:=aB hi (pK hd)
  show(bubble (arrOf st) src d)[i]?=_
  rw[getElem?_bubble hs d (aj (eF d lo) hd),if_neg (bQ q),if_neg λz=>Nat.lt_asymm q z.1]⟩
theorem Keep.Ie {lo i j:Nat}(st:SortSt)(hj:j<=(arrOf st).size)(hi:lo<=i):Keep lo st (setArr st (mirror (arrOf st) i j ((j-i)/2))) :=
 ⟨rfl,rfl,rfl,mirror_perm _ _ _ _,λk hk=>by
  rw[getElem?_mirror_all hj,if_neg λz=>Nat.not_lt_of_le z.1 (aB hk hi)]⟩
section
variable {τ:Cx}
structure z8 (τ:Cx)(st:SortSt):Prop where
 k:kindOf st=τ.kd
 ok:∀ x∈(arrOf st).toList,τ.ok x
theorem z8.keep {lo:Nat}{st st':SortSt}(h:z8 τ st)(q:Keep lo st st'):z8 τ st':=⟨q.k.trans h.k,λx hx=>h.ok x ((Array.perm_iff_toList_perm.mp q.perm).mem_iff.mp hx)⟩
theorem z8.at {st:SortSt}(h:z8 τ st){i:Nat}(hi:i<(arrOf st).size):τ.ok (atK (arrOf st) i):=by
 rw[yN hi];exact h.ok _ (by simp)
theorem Om (C:Ask τ){st:SortSt}(F:z8 τ st){i j:Nat}(hi:i<(arrOf st).size)(hj:j<(arrOf st).size){Q:Option Bool->SortSt->Prop}
  (h:Q (some (τ.O.blt (kk τ (arrOf st) i) (kk τ (arrOf st) j))) st):W τ (ltAt' i j) Q st:=by
 rw[ltAt'_eq]
 refine wV (En ?_)
 exact wV (DW hi (wV (DW hj (C.run _ _ _ (F.at hi) (F.at hj) F.k _ h))))
structure BIn (τ:Cx)(xs:Array Keyed)(lo k x:Nat)(c:Option Bool×Nat×Nat)(l r:Nat):Prop where
 e:c=(none,l,r)
 lr:l<=r
 rk:r<=k
 m:r-l<=k-x
 bl:∀ i,lo<=i->i<lo+l->τ.O.kle (kk τ xs i) (kk τ xs (lo+k))
 bh:∀ i,lo+r<=i->i<lo+k->τ.O.klt (kk τ xs (lo+k)) (kk τ xs i)
set_option tactic.hygienic true in
theorem afU (C:Ask τ){st:SortSt}(F:z8 τ st){lo n m:Nat}(hn:lo+n<=(arrOf st).size)(hm:m<=n)(hs:yU τ (arrOf st) lo (lo+m)){Q:Bool->SortSt->Prop}
  (h:∀ st',Keep lo st st'->yU τ (arrOf st') lo (lo+n)->Q true st'):W τ (binarySort' lo n m) Q st:=by
 rw[binarySort'_eq]
 refine wV (HX (Cy (I:=λk c st'=>c=(none,())/\Keep lo st st'/\yU τ (arrOf st') lo (lo+min k n))
  (Q:=λc st'=>c=(none,())/\Keep lo st st'/\yU τ (arrOf st') lo (lo+n)) ?step ?fin ?init) ?post)
 case post =>
  rintro c st' ⟨rfl,hB',hs'⟩
  exact xg (h st' hB' hs')
 case init =>
  refine⟨rfl,Keep.refl _ _,?_⟩
  rcases vW m with q | q
  ·subst q
   exact λi j h1 h2 h3=>yU.one _ lo i j h1 h2 (aB h3 (aL (j9 _ _) lo))
  ·exact λi j h1 h2 h3=>hs i j h1 h2 (aB h3 (aL (by rw[Nat.max_eq_left q];exact j9 _ _) lo))
 case fin =>
  rintro c st' ⟨hc,hB',hs'⟩
  exact⟨hc,hB',by rwa [afT m n] at hs'⟩
 case step =>
  rintro k c st' hak hkn ⟨rfl,hB',hs'⟩
  obtain⟨e1,e2⟩:=afS hkn
  rw[e1] at hs'
  have hk:lo+k<(arrOf st').size:=by rw[hB'.size];exact aB (cN hkn lo) hn
  refine wV (HX (Cy (I:=λx c st''=>st''=st'/\∃ l r,BIn τ (arrOf st') lo k x c l r)
   (Q:=λc st''=>st''=st'/\∃ l r x,BIn τ (arrOf st') lo k x c l r/\l=r) ?istep ?ifin ?iinit) ?ipost)
  case iinit=>exact⟨rfl,0,k,rfl,bL _,aD _,aD _,λi h1 h2=>absurd h2 (iZ.2 h1),λi h1 h2=>absurd h2 (iZ.2 h1)⟩
  case ifin =>
   rintro c st'' ⟨rfl,l,r,b⟩
   exact⟨rfl,l,r,_,b,afR b.lr b.m⟩
  case istep =>
   rintro x c st'' _ hxk ⟨rfl,l,r,rfl,hlr,hrk,hm,hlo,hhi⟩
   dsimp only
   by_cases hge:l≥r
   ·rw[if_pos hge]
    exact xg ⟨rfl,l,r,x,⟨rfl,hlr,hrk,hm,hlo,hhi⟩,cM hlr hge⟩
   ·rw[if_neg hge]
    have hl:=jT hge
    obtain⟨m1,m2⟩:=Wf hl
    have m3:=aB m2 hrk
    refine wV (Om C (F.keep hB') hk (eY (cN m3 lo) hk) ?_)
    cases hless:τ.O.blt (kk τ (arrOf st'') (lo+k)) (kk τ (arrOf st'') (lo+(l+r)/2)) with
    | true =>
     exact xg ⟨rfl,l,(l+r)/2,rfl,m1,aQ m3,afP hl hm,hlo,λi h1 h2=>KeyOrd.klt_of_klt_of_kle hless (hs' _ _ (aF _ _) h1 h2)⟩
    | false =>
     exact xg ⟨rfl,(l+r)/2+1,r,rfl,m2,hrk,afQ hl hm,λi h0 h1=>dK (hs' i (lo+(l+r)/2) h0 (bU h1) (cN m3 lo)) hless,hhi⟩
  case ipost =>
   rintro c st'' ⟨rfl,l,r,x,⟨rfl,hlr,hrk,_,hlo,hhi⟩,rfl⟩
   show W _ (do moveDown' (lo+k) (lo+l);pure (jq (none,()))) _ _
   rw[moveDown'_eq]
   have hd:=aL hrk lo
   refine wV (JB (xg ⟨rfl,hB'.trans (Keep.bub _ hk (aj (bw (aF lo l) _) (bI (cC hd)))),?_⟩))
   rw[e2]
   exact Wc hk (aF _ _) hd hs' hlo hhi
end
section
variable {τ:Cx}
set_option tactic.hygienic true in
theorem aaC (C:Ask τ){st:SortSt}(F:z8 τ st){lo a nrem:Nat}(hn:lo+nrem<=(arrOf st).size)(ha:1<=a)(han:a<=nrem)(hs:yU τ (arrOf st) lo (lo+a))
  {f:Nat->AscSt->StateT SortSt Sem (ForInStep AscSt)} {g:Nat->Nat->Option Bool->StateT SortSt Sem (ForInStep AscSt)} (hf:∀ x n,f x (none,n)=ltAt' (lo+n) (lo+n-1)>>=g x n) (g1:∀ x n,g x n (some true)=pure (.done (none,n))) (g2:∀ x n,g x n (some false)=pure (.yield (none,n+1)))
  {Q:AscSt->SortSt->Prop} (h:∀ n,a<=n->n<=nrem->yU τ (arrOf st) lo (lo+n)->(n=nrem\/τ.O.klt (kk τ (arrOf st) (lo+n)) (kk τ (arrOf st) (lo+n-1)))->Q (none,n) st) :
  W τ (forIn [a:nrem] ((none,a):AscSt) f) Q st:=by
 refine Cy (I:=λx c st'=>st'=st/\c=(none,x)/\yU τ (arrOf st) lo (lo+x)) ?step ?fin ⟨rfl,rfl,hs⟩
 case fin =>
  rintro c st' ⟨rfl,rfl,hs'⟩
  rw[Nat.max_eq_right han] at hs' ⊢
  exact h nrem han (aD _) hs' (.inl rfl)
 case step =>
  rintro x c st' hax hxn ⟨rfl,rfl,hs'⟩
  rw[hf]
  have hx:=aB (cN hxn lo) hn
  refine wV (Om C F hx (aK (fV _ _) hx) ?_)
  cases hless:τ.O.blt (kk τ (arrOf st') (lo+x)) (kk τ (arrOf st') (lo+x-1)) with
  | true=>rw[g1];exact xg (h x hax (aQ hxn) hs' (.inr hless))
  | false=>rw[g2];exact xg ⟨rfl,rfl,hs'.more (cQ (aB ha hax)) hless⟩
theorem Rr (C:Ask τ){st:SortSt}(F:z8 τ st){lo n nrem:Nat}(hn:lo+nrem<=(arrOf st).size)(h1:1<=n)(hnn:n<=nrem)(hs:Ck τ (arrOf st) lo (lo+n))
  {f:Nat->AscSt->StateT SortSt Sem (ForInStep AscSt)} {g:Nat->Nat->Option Bool->StateT SortSt Sem (ForInStep AscSt)} {T:Unit->StateT SortSt Sem (Option Nat)} {k:AscSt->StateT SortSt Sem (Option Nat)}
  (hT:T ()=forIn [n:nrem] ((none,n):AscSt) f>>=k) (hf:∀ x n,f x (none,n)=ltAt' (lo+n) (lo+n-1)>>=g x n) (g1:∀ x n,g x n (some true)=pure (.done (none,n))) (g2:∀ x n,g x n (some false)=pure (.yield (none,n+1)))
  (hk:∀ m,k (none,m)=pure (some m)) {Q:Option Nat->SortSt->Prop} (h:∀ m st',Keep lo st st'->1<=m->m<=nrem->yU τ (arrOf st') lo (lo+m)->Q (some m) st') :
  W τ (reverseSlice' lo (lo+n)>>=T) Q st:=by
 have hsz:lo+n<=(arrOf st).size:=aj (aL hnn lo) hn
 refine wV (Q5 ?_)
 have K:=Keep.Ie (lo:=lo) (i:=lo) st hsz (aD _)
 rw[hT]
 refine wV (aaC C (F.keep K) (by rw[K.size];exact hn) h1 hnn ?_ hf g1 g2 λm hm1 hm2 hsm uu=>?_)
 ·intro i j h0 hij hj
  show τ.O.kle (kk τ (mirror (arrOf st) lo (lo+n) ((lo+n-lo)/2)) i) (kk τ (mirror (arrOf st) lo (lo+n) ((lo+n-lo)/2)) j)
  have p1:lo<=i/\i<lo+n:=⟨h0,aK hij hj⟩
  have p2:lo<=j/\j<lo+n:=⟨aj h0 hij,hj⟩
  rw[Wa hsz,Wa hsz,if_pos p1,if_pos p2]
  exact hs _ _ (Rq p2).1 (iu hij _) (Rq p1).2
 ·rw[hk];exact xg (h m _ K (aj h1 hm1) hm2 hsm)
def Flat (τ:Cx)(xs:Array Keyed)(m q:Nat):Prop:=∀ i,m-(q+1)<=i->i<m->kk τ xs i=kk τ xs (m-1)
theorem Ck.Ie {xs:Array Keyed}{lo m i j:Nat}(hj:j<=xs.size)(hs:Ck τ xs lo m)(he:∀ k,i<=k->k<j->kk τ xs k=kk τ xs (j-1)):Ck τ (mirror xs i j ((j-i)/2)) lo m:=λx y h1 h2 h3=>by
 rw[aaA hj he,aaA hj he];exact hs x y h1 h2 h3
theorem Wg {xs:Array Keyed}(m:Nat):Flat τ xs m 0:=λi h1 h2=>by rw[cM (cV h2) h1]
theorem aaD {lo m q:Nat}(h:q+1<=m):lo<=lo+m-(q+1):=pK (aL h lo)
theorem afV {m q i:Nat}(h:m+1-(q+1+1)<=i):m-(q+1)<=i:=by rw[o7] at h;exact h
set_option tactic.hygienic true in
theorem aaE (C:Ask τ){st:SortSt}(F:z8 τ st){lo n nrem:Nat}(hn:lo+nrem<=(arrOf st).size)(h1:1<=n)(hnn:n<=nrem)(hs:Ck τ (arrOf st) lo (lo+n))
  {f:Nat->DescSt->StateT SortSt Sem (ForInStep DescSt)} {g g':Nat->Nat->Nat->Option Bool->StateT SortSt Sem (ForInStep DescSt)} (hf:∀ x n q,f x (none,n,q)=ltAt' (lo+n) (lo+n-1)>>=g x n q)
  (g1:∀ x n q,g x n q (some true)=if q>0 then(reverseSlice' (lo+n-(q+1)) (lo+n)>>=λuu=>pure (.yield (none,n+1,0))) else pure (.yield (none,n+1,0))) (g2:∀ x n q,g x n q (some false)=ltAt' (lo+n-1) (lo+n)>>=g' x n q)
  (g3:∀ x n q,g' x n q (some true)=pure (.done (none,n,q))) (g4:∀ x n q,g' x n q (some false)=pure (.yield (none,n+1,q+1)))
  {k:DescSt->StateT SortSt Sem (Option Nat)} {T:Nat->Nat->Unit->StateT SortSt Sem (Option Nat)} {T':Nat->Nat->StateT SortSt Sem (Option Nat)} (hk:∀ m q,k (none,m,q)=if q>0 then reverseSlice' (lo+m-(q+1)) (lo+m)>>=T m q else T' m q)
  {Q:Option Nat->SortSt->Prop} (h:∀ m q st',Keep lo st st'->1<=m->m<=nrem->Ck τ (arrOf st') lo (lo+m)->W τ (T m q ()) Q st'/\W τ (T' m q) Q st') :
  W τ (forIn [n:nrem] ((none,n,0):DescSt) f>>=k) Q st:=by
 refine wV (HX (Cy (I:=λx c st'=>∃ q,c=(none,x,q)/\Keep lo st st'/\Ck τ (arrOf st') lo (lo+x)/\q+1<=x/\Flat τ (arrOf st') (lo+x) q)
  (Q:=λc st'=>∃ m q,c=(none,m,q)/\Keep lo st st'/\Ck τ (arrOf st') lo (lo+m)/\q+1<=m/\m<=nrem/\Flat τ (arrOf st') (lo+m) q) ?step ?fin ⟨0,rfl,Keep.refl _ _,hs,h1,Wg _⟩) ?post)
 case fin =>
  rintro c st' ⟨q,rfl,K,hs',hq,he⟩
  rw[Nat.max_eq_right hnn] at hs' he hq ⊢
  exact⟨nrem,q,rfl,K,hs',hq,aD _,he⟩
 case post =>
  rintro c st' ⟨m,q,rfl,K,hs',hq,hm,he⟩
  rw[hk]
  have hsz:lo+m<=(arrOf st').size:=by rw[K.size];exact aj (aL hm lo) hn
  have m1:1<=m:=aj (eF 1 q) hq
  by_cases q0:q>0
  ·rw[if_pos q0]
   exact wV (Q5 (h m q _ (K.trans (Keep.Ie _ hsz (aaD hq))) m1 hm (hs'.Ie hsz he)).1)
  ·rw[if_neg q0]
   exact(h m q _ K m1 hm hs').2
 case step =>
  rintro x c st' hax hxn ⟨q,rfl,K,hs',hq,he⟩
  rw[hf]
  have hsz:lo+x<(arrOf st').size:=by rw[K.size];exact aB (cN hxn lo) hn
  have hsz1:=aK (fV (lo+x) 1) hsz
  have hlx:lo<lo+x:=cQ (aB h1 hax)
  have F':=F.keep K
  refine wV (Om C F' hsz hsz1 ?_)
  cases hless:τ.O.blt (kk τ (arrOf st') (lo+x)) (kk τ (arrOf st') (lo+x-1)) with
  | true =>
   rw[g1]
   have hs2:Ck τ (arrOf st') lo (lo+x+1):=hs'.more hlx (fJ hless)
   by_cases q0:q>0
   ·rw[if_pos q0]
    refine wV (Q5 (xg ⟨0,rfl,K.trans (Keep.Ie _ (aQ hsz) (aaD hq)),?_,eF _ _,Wg _⟩))
    exact hs2.Ie (aQ hsz) he
   ·rw[if_neg q0]
    exact xg ⟨0,rfl,K,hs2,eF _ _,Wg _⟩
  | false =>
   rw[g2]
   refine wV (Om C F' hsz1 hsz ?_)
   cases hl2:τ.O.blt (kk τ (arrOf st') (lo+x-1)) (kk τ (arrOf st') (lo+x)) with
   | true=>rw[g3];exact xg ⟨x,q,rfl,K,hs',hq,aQ hxn,he⟩
   | false =>
    rw[g4]
    have e:kk τ (arrOf st') (lo+x)=kk τ (arrOf st') (lo+x-1):=τ.O.total _ _ hless hl2
    refine xg ⟨q+1,rfl,K,hs'.more hlx (by rw[e];exact iQ _),aU hq,λi h1 h2=>?_⟩
    show _=kk τ (arrOf st') (lo+x+1-1)
    rw[qz]
    rcases cW i (lo+x) with p | p
    ·rw[he i (afV h1) p,e]
    ·rw[show i=lo+x from cM (bU h2) p]
theorem afW (C:Ask τ){st:SortSt}(F:z8 τ st){lo nrem:Nat}(hn:lo+nrem<=(arrOf st).size)(h1:1<=nrem){Q:Option Nat->SortSt->Prop}
  (h:∀ m st',Keep lo st st'->1<=m->m<=nrem->yU τ (arrOf st') lo (lo+m)->Q (some m) st'):W τ (countRun' lo nrem) Q st:=by
 refine wV (aaC C F hn (aD 1) h1 (yU.one _ _) (λuu uu=>rfl) (λuu uu=>rfl) (λuu uu=>rfl) λn hn1 hn2 hsn hor=>?_)
 rcases Eo (n:=n) (m:=nrem) with⟨q,q'⟩ | ⟨q,q'⟩
 ·exact G5 q (xg (h n st (Keep.refl _ _) hn1 hn2 hsn))
 ·refine Gm q ?_
  have hlt:=hor.resolve_left q'
  by_cases hgt:n>1
  ·skip
   have hsz:lo+n<=(arrOf st).size:=aj (aL hn2 lo) hn
   have hll:lo<lo+n:=cQ hn1
   have hpl:lo+n-1<lo+n:=cU (aK (bL _) hll) cO
   refine G5 hgt (wV (Om C F (aB hll hsz) (aB hpl hsz) ?_))
   cases hrose:τ.O.blt (kk τ (arrOf st) lo) (kk τ (arrOf st) (lo+n-1)) with
   | true=>exact G5 rfl (xg (h n st (Keep.refl _ _) hn1 hn2 hsn))
   | false =>
    refine Gm cZ ?_
    have hall:∀ k,lo<=k->k<lo+n->kk τ (arrOf st) k=kk τ (arrOf st) (lo+n-1):=λk h1 h2 =>
     KeyOrd.kle_antisymm (hsn k (lo+n-1) h1 (cV h2) hpl) (dK hrose (hsn lo k (aD _) h1 h2))
    have afX:Ck τ (arrOf st) lo (lo+n+1):=by
     refine Ck.more (λi j h1 h2 h3=>?_) hll (fJ hlt)
     rw[hall i h1 (aK h2 h3),hall j (aj h1 h2) h3];exact iQ _
    have K:=Keep.Ie (lo:=lo) (i:=lo) st hsz (aD _)
    refine wV (Q5 (wV (GQ (gU ⟨rfl,?_⟩))))
    refine aaE C (F.keep K) (n:=n+1) (by rw[K.size];exact hn) (eF _ _) (iJ hn2 q':n<nrem) (afX.Ie hsz hall) (λuu uu uu=>rfl) (λuu uu uu=>rfl) (λuu uu uu=>rfl) (λuu uu uu=>rfl) (λuu uu uu=>rfl) (λuu uu=>rfl) λm q st' K' hm1 hm2 hf=>⟨?_,?_⟩
    ·exact Rr C ((F.keep K).keep K') (by rw[K'.size,K.size];exact hn) hm1 hm2 hf rfl (λuu uu=>rfl) (λuu uu=>rfl) (λuu uu=>rfl) (λuu=>rfl) λm' st3 K3=>h m' st3 ((K.trans K').trans K3)
    ·exact Rr C ((F.keep K).keep K') (by rw[K'.size,K.size];exact hn) hm1 hm2 hf rfl (λuu uu=>rfl) (λuu uu=>rfl) (λuu uu=>rfl) (λuu=>rfl) λm' st3 K3=>h m' st3 ((K.trans K').trans K3)
  ·refine Gm hgt ?_
   obtain rfl:n=1:=cM (gP hgt) hn1
   refine wV (GQ (gU ⟨rfl,?_⟩))
   refine aaE C F (n:=1+1) hn (eF _ _) (iJ hn2 q') ((Ck.one _ lo).more (bV _) (fJ hlt)) (λuu uu uu=>rfl) (λuu uu uu=>rfl) (λuu uu uu=>rfl) (λuu uu uu=>rfl) (λuu uu uu=>rfl) (λuu uu=>rfl) λm q st' K' hm1 hm2 hf=>⟨?_,?_⟩
   ·exact Rr C (F.keep K') (by rw[K'.size];exact hn) hm1 hm2 hf rfl (λuu uu=>rfl) (λuu uu=>rfl) (λuu uu=>rfl) (λuu=>rfl) λm' st3 K3=>h m' st3 (K'.trans K3)
   ·exact Rr C (F.keep K') (by rw[K'.size];exact hn) hm1 hm2 hf rfl (λuu uu=>rfl) (λuu uu=>rfl) (λuu uu=>rfl) (λuu=>rfl) λm' st3 K3=>h m' st3 (K'.trans K3)
end
section
variable {τ:Cx}
theorem afY (p:Nat)(l:List Keyed):∀ (n:Nat) (xs:Array Keyed),p+n+l.length<=xs.size->((l.zipIdx n).foldl (λa x=>a.setIfInBounds (p+x.2) x.1) xs).toList=xs.toList.take (p+n)++l++xs.toList.drop (p+n+l.length):=by
 induction l with
 | nil=>intro n xs h;rw[List.zipIdx_nil,List.foldl_nil,aY,List.length_nil,qO,eG]
 | cons x l ih =>
  intro n xs h
  rw[dF] at h
  rw[List.zipIdx_cons,List.foldl_cons,ih (n+1) _ (by rw[jX];exact aj (bI (nA (p+n) l.length)) h),sG,List.drop_set_of_lt (by exact aB (bV (p+n)) (aF ..)),<-dW,qD (by rw[List.length_set];exact(show p+n<xs.toList.length from by rw[aq];exact aB (cQ (eU _)) h)),List.getElem_set_self,List.take_set_of_le (aD _),dF]
  rw[aP,aP,aP,show p+n+1+l.length=p+n+(l.length+1) from nA ..]
  rfl
theorem aaF {a:Array Keyed}{k n:Nat}{x:Keyed}(h:x∈(a.extract k n).toList):∃ i,k<=i/\i<n/\i<a.size/\x=atK a i:=V8 (by rw[iU,ji];exact h)
theorem aaG {a:Array Keyed}{lo hi:Nat}(h:yU τ a lo hi):(a.extract lo hi).toList.Pairwise (yg τ):=by
 refine gF.2 λi j hi' hj' hij=>?_
 rw[aq,fQ] at hi' hj'
 rw[fu,fu,fO,fO,<-yN,<-yN]
 exact h _ _ (aF ..) (aL (aQ hij) lo) (V7 hj').1
theorem Wh {a:Array Keyed}{lo hi i:Nat}(h:lo+i<hi)(hs:hi<=a.size):atK (a.extract lo hi) i=atK a (lo+i):=by
 have q:=aB h hs
 rw[yN (by rw[fQ];exact pJ (dH lo i▸Nat.lt_min.2 ⟨h,q⟩)),yN q,fO]
structure Mid (τ:Cx)(a a':Array Keyed)(lo hi:Nat):Prop where
 perm:a'.Perm a
 off:∀ i,i<lo\/hi<=i->a'[i]?=a[i]?
 BK:yU τ a' lo hi
theorem aaH {a:Array Keyed}{sa sb e:Nat}(s1:yU τ a sa sb)(s2:yU τ a sb e)(q:τ.O.kle (kk τ a (sb-1)) (kk τ a sb)):Mid τ a a sa e where
 perm:=m9 _
 off:=λuu uu=>rfl
 BK:=λi j h1 h2 h3=>by
  rcases cW j sb with p | p
  ·exact s1 i j h1 h2 p
  ·rcases cW i sb with p' | p'
   ·exact dK (s1 i (sb-1) h1 (cV p') (cU (gW p') cO)) (dK q (s2 sb j (aD _) p h3))
   ·exact s2 i j p' h2 h3
theorem afZ {a a' m:Array Keyed}{sa p sb e1 e:Nat}(s1:yU τ a sa sb)(s2:yU τ a sb e)(h0:sa<=p)(h1:p<sb)(h2:sb<=e1)(h2':e1<=e)(h3:e<=a.size)(c1:∀ i,sa<=i->i<p->τ.O.kle (kk τ a i) (kk τ a sb))(c2:∀ i,e1<=i->i<e->τ.O.kle (kk τ a (sb-1)) (kk τ a i))
  (hm:zP (yg τ) ((a.extract p sb).toList++(a.extract sb e1).toList) m.toList) (e':a'.toList=a.toList.take p++m.toList++a.toList.drop e1):Mid τ a a' sa e:=by
 have Oo:=aj h2' h3
 have hp1:=aj (aQ h1) h2
 have hlen:m.toList.length=e1-p:=by
  rw[hm.perm.length_eq,aG,aq,aq,fQ,fQ,dG (aj h2 Oo),dG Oo,dH,Nat.sub_add_sub_cancel h2 (aQ h1)]
 have lt:(a.toList.take p).length=p:=by rw[jj,aq,dG (aj hp1 Oo)]
 have lm:(a.toList.take p++m.toList).length=e1:=by rw[aG,lt,hlen,cC hp1]
 have low:∀ i,i<p->a'[i]?=a[i]?:=λi hi=>by
  rw[<-aW,e',aP,mZ (by rw[lt];exact hi),List.getElem?_take_of_lt hi,aW]
 have high:∀ i,e1<=i->a'[i]?=a[i]?:=λi hi=>by
  rw[<-aW,e',iI (by rw[lm];exact hi),lm,vG,cC hi,aW]
 have mid:∀ i,p<=i->i<e1->a'[i]?=m[i-p]?:=λi h1 h2=>by
  rw[<-aW,e',aP,iI (by rw[lt];exact h1),lt,mZ (by rw[hlen];exact uZ h1 h2),aW]
 have hin:∀ {i},p<=i->i<e1->i-p<m.size:=λh1 h2=>by rw[<-aq,hlen];exact uZ h1 h2
 have src:∀ i,p<=i->i<e1->∃ q,p<=q/\q<e1/\kk τ a' i=kk τ a q:=λi g1 g2=>by
  have hi:=hin g1 g2
  rw[BL (mid i g1 g2)]
  rcases aR.1 (hm.perm.mem_iff.1 (show atK m (i-p)∈m.toList from by rw[yN hi];simp)) with z | z
  ·obtain⟨q,q1,q2,_,e⟩:=aaF z
   exact⟨q,q1,aB q2 h2,by unfold kk;rw[e]⟩
  ·obtain⟨q,q1,q2,_,e⟩:=aaF z
   exact⟨q,aj (aQ h1) q1,q2,by unfold kk;rw[e]⟩
 refine⟨?_,λi hi=>hi.elim (λq=>low i (aB q h0)) λq=>high i (aj h2' q),λi j g1 g2 g3=>?_⟩
 ·rw[sI,e']
  have ea:a.toList=a.toList.take p++((a.extract p sb).toList++(a.extract sb e1).toList)++a.toList.drop e1:=by
   have d1:=Ra a (i:=p) (k:=sb-p)
   have d2:=Ra a (i:=sb) (k:=e1-sb)
   rw[cC h2] at d2
   rw[cC (aQ h1),d2] at d1
   rw[aP,aP,<-d1,eG]
  refine qC (rZ _ (jt _ hm.perm)) ?_
  rw[<-ea]
 ·rcases cW i p with q | q
  ·rw[BL (low i q)]
   have c:=c1 i g1 q
   rcases cW j p with r | r
   ·rw[BL (low j r)];exact s1 i j g1 g2 (eY r h1)
   ·rcases cW j e1 with t | t
    ·obtain⟨z,z1,z2,z3⟩:=src j r t
     rw[z3]
     rcases cW z sb with u | u
     ·exact s1 i z g1 (aQ (aB q z1)) u
     ·exact dK c (s2 sb z (aD _) u (aB z2 h2'))
    ·rw[BL (high j t)];exact dK c (s2 sb j (aD _) (aj h2 t) g3)
  ·rcases cW i e1 with r | r
   ·rcases cW j e1 with t | t
    ·rw[BL (mid i q r),BL (mid j (aj q g2) t)]
     exact VR hm.BK (fB g2 p) (hin (aj q g2) t)
    ·obtain⟨z,z1,z2,z3⟩:=src i q r
     rw[z3,BL (high j t)]
     rcases cW z sb with u | u
     ·exact dK (s1 z (sb-1) (aj h0 z1) (cV u) (cU (gW u) cO)) (c2 j t g3)
     ·exact s2 z j u (aQ (aB z2 t)) g3
   ·rw[BL (high i r),BL (high j (aj r g2))]
    exact s2 i j (aj h2 r) g2 g3
end
section
variable {τ:Cx}
section
variable {a:Array Keyed}{x:Keyed}{base n hint:Nat}{st:SortSt}{Q:Option Nat->SortSt->Prop}
theorem af0 (C:Ask τ)(sa:yU τ a base (base+n))(yW:∀ i (h:i<a.size),τ.ok a[i])(okx:τ.ok x)(hn:base+n<=a.size)(hh:hint<n)(hk:kindOf st=τ.kd)
  (h:∀ k,k<=n->(∀ i<k,xY τ x (atK a (base+i))=false)->(∀ i,k<=i->i<n->xY τ x (atK a (base+i))=true)->Q (some k) st):W τ (GR false x a base n hint) Q st:=by
 refine Q7 (b:=λi=>!xY τ x (atK a (base+i))) hh (λi j hij hj e=>?_) (λi hi Q hq=>?_) λk c=>h k c.le (λi hi=>by simpa using c.yes i hi) λi h1 h2=>by simpa using c.no i h1 h2
 ·skip
  show(!τ.O.blt (τ.key x) (τ.key (atK a (base+i))))=true
  rw[show τ.O.blt (τ.key x) (τ.key (atK a (base+i)))=false from(dK (sa (base+i) (base+j) (aF _ _) (aL hij base) (cN hj base)) (show τ.O.kle (kk τ a (base+j)) (τ.key x) from(show xY τ x (atK a (base+j))=false from by simpa using e)))];rfl
 have hi':base+i<a.size:=aB (cN hi base) hn
 refine wV (Ds hi' ?_)
 refine wV (C.run _ _ _ okx (yW _ hi') hk _ (xg ?_))
 rw[yN hi'] at hq
 exact hq
theorem af2 (C:Ask τ)(sa:yU τ a base (base+n))(yW:∀ i (h:i<a.size),τ.ok a[i])(okx:τ.ok x)(hn:base+n<=a.size)(hh:hint<n)(hk:kindOf st=τ.kd)
  (h:∀ k,k<=n->(∀ i<k,xY τ (atK a (base+i)) x=true)->(∀ i,k<=i->i<n->xY τ (atK a (base+i)) x=false)->Q (some k) st):W τ (GR true x a base n hint) Q st:=by
 refine Q7 (b:=λi=>xY τ (atK a (base+i)) x) hh (λi j hij hj e=>sZ (sa (base+i) (base+j) (aF _ _) (aL hij base) (cN hj base)) e) (λi hi Q hq=>?_) λk c=>h k c.le c.yes c.no
 have hi':base+i<a.size:=aB (cN hi base) hn
 refine wV (Ds hi' ?_)
 rw[yN hi'] at hq
 exact C.run _ _ _ (yW _ hi') okx hk _ hq
end
theorem af3 {σ:Type}{M:Model}{v:σ}{Q:PUnit->σ->Prop}{st:σ}(h:Q ⟨⟩ v):wpS M A E s (set v:StateT σ Sem PUnit) Q st:=by
 unfold wpS;rw[StateT.run_set];exact au ⟨rfl,h⟩
theorem af4 (C:Ask τ){a b:Array Keyed}(ha:0<a.size)(hb:0<b.size)(yW:∀ i (h:i<a.size),τ.ok a[i])(okb:∀ i (h:i<b.size),τ.ok b[i])
  (sa:a.toList.Pairwise (yg τ)) (sb:b.toList.Pairwise (yg τ)) (h0:∀ i<a.size,xY τ (atK b 0) (atK a i)=true) (hl:∀ i<b.size,xY τ (atK b i) (atK a (a.size-1))=true) {st:SortSt} (hk:kindOf st=τ.kd) {Q:Array Keyed->SortSt->Prop}
  (h:∀ R st',Like st st'->zP (yg τ) (a.toList++b.toList) R.toList->Q R st'):W τ (aas a b) Q st/\W τ (aaz a b) Q st:=by
 constructor
 ·refine afG ⟨C,yW,okb,sa,sb,λy hy hq=>?_⟩ ha hb (by rw[<-yN ha,<-yN hb];exact h0 0 ha) hk h
  ·obtain⟨i,hi,rfl⟩:=jW hy
   rw[aq] at hi
   rw[fu,<-yN hi,<-yN hq];exact hl i hi
 ·refine afN ⟨C,yW,okb,sa,sb,λx hx=>?_⟩ ha hb (hl _ (cU hb cO)) hk h
  obtain⟨i,hi,rfl⟩:=jW hx
  rw[aq] at hi
  rw[fu,<-yN hi];exact h0 i hi
structure af5 (τ:Cx)(a x y:Array Keyed)(sa p e:Nat):Prop where
 x0:0<x.size
 y0:0<y.size
 sx:x.toList.Pairwise (yg τ)
 sy:y.toList.Pairwise (yg τ)
 h0:∀ i<x.size,xY τ (atK y 0) (atK x i)=true
 hl:∀ i<y.size,xY τ (atK y i) (atK x (x.size-1))=true
 fin:∀ {R a':Array Keyed},zP (yg τ) (x.toList++y.toList) R.toList->a'=a->Mid τ a (R.toList.zipIdx.foldl (λa x=>a.setIfInBounds (p+x.2) x.1) a') sa e
theorem aaI {a i k:Nat}(h:a<=i)(h2:i<a+k):i-a<k:=(Nat.sub_lt_iff_lt_add h).2 (by rw[dH];exact h2)
theorem af6 {τ:Cx}{a:Array Keyed}{sa na sb nb k n:Nat}(s1:yU τ a sa sb)(s2:yU τ a sb (sb+nb))(hsb:sa+na=sb)(hp:sa+k<sb)(hn:n<=nb)(hn0:0<n)(hsz:sb+nb<=a.size)
  (y1:∀ i<k,xY τ (atK a sb) (atK a (sa+i))=false) (y2:∀ i,k<=i->i<na->xY τ (atK a sb) (atK a (sa+i))=true) (z1:∀ i<n,xY τ (atK a (sb+i)) (atK a (sb-1))=true) (z2:∀ i,n<=i->i<nb->xY τ (atK a (sb+i)) (atK a (sb-1))=false) :
  af5 τ a (a.extract (sa+k) sb) (a.extract sb (sb+n)) sa (sa+k) (sb+nb):=by
 have he:sb+n<=sb+nb:=aL hn sb
 have hz:=aj he hsz
 have Oq:sb<=a.size:=aj (aF _ _) hz
 have hx:(a.extract (sa+k) sb).size=sb-(sa+k):=by rw[fQ,dG Oq]
 have hy:(a.extract sb (sb+n)).size=n:=by rw[fQ,dG hz,kO]
 have xpos:0<sb-(sa+k):=eX hp
 have aty:∀ {i},i<n->atK (a.extract sb (sb+n)) i=atK a (sb+i):=λh=>Wh (cN h sb) hz
 have Wi:∀ {i},i<sb-(sa+k)->sa+k+i<sb:=λh=>o8 h
 have c1:∀ i,sa<=i->i<sa+k->τ.O.kle (kk τ a i) (kk τ a sb):=λi g1 g2=>by
  have:=y1 (i-sa) (aaI g1 g2)
  rw[cC g1] at this;exact this
 have c2:∀ i,sb+n<=i->i<sb+nb->τ.O.kle (kk τ a (sb-1)) (kk τ a i):=λi g1 g2=>by
  have g3:=aj (aF sb n) g1
  have:=z2 (i-sb) (Nat.le_sub_of_add_le' g1) (aaI g3 g2)
  rw[cC g3] at this;exact this
 refine⟨by rw[hx];exact xpos,by rw[hy];exact hn0,aaG λi j g1 g2 g3=>s1 i j (aj (aF _ _) g1) g2 g3,aaG λi j g1 g2 g3=>s2 i j g1 g2 (aB g3 he),λi hi=>?_,λi hi=>?_,λ{R a'} hR ea=>?_⟩
 ·rw[hx] at hi
  rw[aty hn0,Wh (Wi hi) Oq,dW]
  exact y2 (k+i) (aF _ _) (tX (by rw[hsb,<-dW];exact Wi hi))
 ·rw[hy] at hi
  rw[hx,aty hi,Wh (Wi (cU xpos cO)) Oq,<-qP xpos,cC (aQ hp)]
  exact z1 i hi
 ·have hlen:R.toList.length=sb+n-(sa+k):=by
   rw[hR.perm.length_eq,aG,aq,aq,hx,hy,dH,<-qP (aQ hp),dH n]
  have hle:sa+k+0+R.toList.length=sb+n:=by rw[hlen,qO,cC (aj (aQ hp) (aF sb n))]
  refine afZ s1 s2 (aF _ _) hp (aF _ _) he hsz c1 c2 hR ?_
  rw[afY (sa+k) R.toList 0 a' (by rw[ea,hle];exact hz),ea,hle,qO]
theorem af7 (C:Ask τ){st:SortSt}(F:z8 τ st){i sa na pw sb nb Wj:Nat}(e1:(pendingOf st)[i]?=some (sa,na,pw))(e2:(pendingOf st)[i+1]?=some (sb,nb,Wj))(hsb:sa+na=sb)(ha:0<na)(hb:0<nb)(hsz:sb+nb<=(arrOf st).size)
  (s1:yU τ (arrOf st) sa sb) (s2:yU τ (arrOf st) sb (sb+nb)) (hf:failedOf st=none) {Q:Bool->SortSt->Prop}
  (h:∀ st',kindOf st'=kindOf st->failedOf st'=none->Mid τ (arrOf st) (arrOf st') sa (sb+nb)->pendingOf st'=((pendingOf st).setIfInBounds i (sa,na+nb,pw)).eraseIdxIfInBounds (i+1)->Q true st') :
  W τ (mergeAt' i) Q st:=by
 have yW:∀ i (h:i<(arrOf st).size),τ.ok (arrOf st)[i]:=λi h=>F.ok _ (by simp)
 refine wV (En ?_)
 rw[e1,e2]
 have hb0:sb<(arrOf st).size:=aB (cQ hb) hsz
 have hb1:sb-1<(arrOf st).size:=aK (fV _ _) hb0
 have hs0:0<sb:=by rw[<-hsb];exact aB ha (eF _ _)
 refine wV (af3 (wV (DW hb0 ?_)))
 refine wV (af0 C (by rw[hsb];exact s1) yW (F.at hb0) (by rw[hsb];exact aQ hb0) ha F.k λk hk1 y1 y2=>?_)
 refine Dr λgg kk=>?_
 rcases Eo (n:=na-k) (m:=0) with⟨q,q'⟩ | ⟨q,q'⟩ <;> (refine kk ?_;clear kk gg)
 ·refine G5 q (xg (h _ rfl hf (aaH s1 s2 ?_) rfl))
  have:=y1 (na-1) (aB (cU ha cO) (iK q'))
  rw[<-qP ha,hsb] at this
  exact this
 refine Gm q ?_
 rw[show sa+k+(na-k)-1=sb-1 by rw[dW,cC hk1,hsb]]
 refine wV (DW hb1 (wV (af2 C s2 yW (F.at hb1) hsz (cU hb cO) F.k λn hn1 z1 z2=>?_)))
 rcases Eo (n:=n) (m:=0) with⟨p,p'⟩ | ⟨p,p'⟩
 ·exact G5 p (xg (h _ rfl hf (aaH s1 s2 (z2 0 (bI p') hb)) rfl))
 refine Gm p ?_
 have D:=af6 s1 s2 hsb (show sa+k<sb from by rw[<-hsb];exact cN (Nat.lt_of_sub_pos (gO q'):k<na) sa) hn1 (gO p') hsz y1 y2 z1 z2
 have fin:∀ (R:Array Keyed) st',Like (pR (kindOf st) (arrOf st) (((pendingOf st).setIfInBounds i (sa,na+nb,pw)).eraseIdxIfInBounds (i+1)) (gallopOf st) (failedOf st)) st'->zP (yg τ) (((arrOf st).extract (sa+k) sb).toList++((arrOf st).extract sb (sb+n)).toList) R.toList ->
   Q true (setArr st' (R.toList.zipIdx.foldl (λa x=>a.setIfInBounds (sa+k+x.2) x.1) (arrOf st'))):=λR st' lk hR =>
  h _ lk.k (lk.f.trans hf) (D.fin hR lk.a) lk.p
 have both:=λ(Q':Array Keyed->SortSt->Prop)=>af4 (Q:=Q') C (a:=(arrOf st).extract (sa+k) sb) (b:=(arrOf st).extract sb (sb+n)) D.x0 D.y0 (λi h=>by rw[fO];exact yW _ _) (λi h=>by rw[fO];exact yW _ _) D.sx D.sy D.h0 D.hl
  (st:=pR (kindOf st) (arrOf st) (((pendingOf st).setIfInBounds i (sa,na+nb,pw)).eraseIdxIfInBounds (i+1)) (gallopOf st) (failedOf st)) F.k
 by_cases g:na-k<=n
 ·refine G5 g (wV (both _ λR st' lk hR=>wV (JB ?_)).1)
  refine wV (En (xg ?_))
  show Q (failedOf st').isNone _
  rw[show failedOf st'=none from lk.f.trans hf]
  exact fin R st' lk hR
 ·refine Gm g (wV (both _ λR st' lk hR=>wV (JB ?_)).2)
  refine wV (En (xg ?_))
  show Q (failedOf st').isNone _
  rw[show failedOf st'=none from lk.f.trans hf]
  exact fin R st' lk hR
end
section
variable {τ:Cx}
noncomputable abbrev Ep:=Nat×Nat×Nat
noncomputable def Ag (τ:Cx)(arr:Array Keyed):List Ep->Nat->Nat->Prop
 | [],a,b=>a=b
 | x::l,a,b=>x.1=a/\0<x.2.1/\yU τ arr a (a+x.2.1)/\Ag τ arr l (a+x.2.1) b
theorem Ag.le {arr:Array Keyed}{l:List Ep}:∀ {a b:Nat},Ag τ arr l a b->a+l.length<=b:=by
 induction l with
 | nil=>intro a b h;exact bI h
 | cons x l ih=>intro a b h;exact aj (by rw[dF,dH l.length,<-dW];exact bw (aL h.2.1 a) _) (ih h.2.2.2)
theorem Ag.congr {arr arr':Array Keyed}{l:List Ep}:∀ {a b:Nat},Ag τ arr l a b->(∀ i,a<=i->i<b->arr'[i]?=arr[i]?)->Ag τ arr' l a b:=by
 induction l with
 | nil=>intro a b h _;exact h
 | cons x l ih =>
  intro a b h q
  have hl:=aj (aF _ _) (Ag.le h.2.2.2)
  refine⟨h.1,h.2.1,λi j h1 h2 h3=>?_,ih h.2.2.2 λi h1 h2=>q i (aj (aF _ _) h1) h2⟩
  rw[BL (q i h1 (aB (aK h2 h3) hl)),BL (q j (aj h1 h2) (aB h3 hl))]
  exact h.2.2.1 i j h1 h2 h3
theorem Ag.split {arr:Array Keyed}{l l':List Ep}:∀ {a b:Nat},Ag τ arr (l++l') a b->∃ m,Ag τ arr l a m/\Ag τ arr l' m b:=by
 induction l with
 | nil=>intro a b h;exact⟨a,rfl,h⟩
 | cons x l ih =>
  intro a b h
  obtain⟨m,h1,h2⟩:=ih h.2.2.2
  exact⟨m,⟨h.1,h.2.1,h.2.2.1,h1⟩,h2⟩
theorem Ag.join {arr:Array Keyed}{l l':List Ep}:∀ {a m b:Nat},Ag τ arr l a m->Ag τ arr l' m b->Ag τ arr (l++l') a b:=by
 induction l with
 | nil=>intro a m b h h';cases h;exact h'
 | cons x l ih=>intro a m b h h';exact⟨h.1,h.2.1,h.2.2.1,ih h.2.2.2 h'⟩
theorem Ag.modify {arr:Array Keyed}{f:Ep->Ep}(hf:∀ x,(f x).1=x.1/\(f x).2.1=x.2.1){l:List Ep}:∀ {i a b:Nat},Ag τ arr l a b->Ag τ arr (l.modify i f) a b:=by
 induction l with
 | nil=>intro i a b h;rw[List.modify_nil];exact h
 | cons x l ih =>
  intro i a b h
  cases i with
  | zero =>
   rw[List.modify_zero_cons]
   refine⟨(hf x).1.trans h.1,by rw[(hf x).2];exact h.2.1,by rw[(hf x).2];exact h.2.2.1,by rw[(hf x).2];exact h.2.2.2⟩
  | succ i=>rw[List.modify_succ_cons];exact⟨h.1,h.2.1,h.2.2.1,ih h.2.2.2⟩
theorem af8 {l:List Ep}{i:Nat}(h:i+1<l.length):∃ P x y R,l=P++x::y::R/\P.length=i:=by
 refine⟨l.take i,l[i],l[i+1],l.drop (i+2),?_,by rw[jj,dG (aQ (cF h))]⟩
 rw[<-dY h,<-dY (cF h),eG]
theorem af9 {P R:List Ep}{x y z:Ep}:((P++x::y::R).set P.length z).eraseIdx (P.length+1)=P++z::R:=by
 induction P with
 | nil=>rfl
 | cons p P ih=>show p::_=_;exact congrArg (p::·) ih
theorem aga (p:Array Ep)(i:Nat):(p.eraseIdxIfInBounds i).toList=p.toList.eraseIdx i:=by
 unfold Array.eraseIdxIfInBounds
 split
 ·rw[Array.toList_eraseIdx]
 ·rw[List.eraseIdx_of_length_le (by rw[aq];exact gP ‹_›)]
end
section
variable {τ:Cx}
structure Du (τ:Cx)(a0:Array Keyed)(st:SortSt)(lo:Nat):Prop where
 perm:(arrOf st).Perm a0
 fit:z8 τ st
 f:failedOf st=none
 le:lo<=a0.size
 cov:Ag τ (arrOf st) (pendingOf st).toList 0 lo
theorem aaJ (C:Ask τ){a0:Array Keyed}{st:SortSt}{lo i:Nat}(h:Du τ a0 st lo)(hi:i+1<(pendingOf st).size){Q:Bool->SortSt->Prop}
  (q:∀ st',Du τ a0 st' lo->(pendingOf st').size+1=(pendingOf st).size->(∀ j,lo<=j->(arrOf st')[j]?=(arrOf st)[j]?)->Q true st'):W τ (mergeAt' i) Q st:=by
 obtain⟨P,⟨sa,na,pw⟩,⟨sb,nb,Wj⟩,R,e,hP⟩:=af8 (l:=(pendingOf st).toList) (i:=i) (by rw[aq];exact hi)
 have hc:=h.cov
 rw[e] at hc
 obtain⟨m,c1,c2⟩:=hc.split
 obtain⟨rfl,ha,s1,c3⟩:=c2
 obtain⟨rfl,hb,s2,c4⟩:=c3
 have l1:=c1.le
 have l4:=aj (aF _ _) c4.le
 dsimp only at ha hb s1 s2 c1 c4 l1 l4
 have e1:(pendingOf st)[i]?=some (sa,na,pw):=by
  rw[<-aW,e,iI (bI hP),hP,qJ];rfl
 have e2:(pendingOf st)[i+1]?=some (sa+na,nb,Wj):=by
  rw[<-aW,e,iI (by rw[hP];exact dX i),hP,kO];rfl
 refine af7 C h.fit e1 e2 rfl ha hb (by rw[(h.perm.size_eq)];exact aj l4 (h.le)) s1 s2 h.f λst' k f M p=>?_
 have pe:(pendingOf st').toList=P++(sa,na+nb,pw)::R:=by
  rw[p,aga,sG,e,<-hP,af9]
 refine q st' ⟨M.perm.trans h.perm,⟨k.trans h.fit.k,λx hx=>h.fit.ok x ((Array.perm_iff_toList_perm.mp M.perm).mem_iff.mp hx)⟩,f,h.le,?_⟩ ?_ λj hj=>M.off j (.inr (aj l4 hj))
 ·rw[pe]
  refine Ag.join (c1.congr λi uu h2=>M.off i (.inl h2)) ⟨rfl,aB ha (aF na nb),?_,?_⟩
  ·skip;rw[<-dW];exact M.BK
  ·skip
   rw[<-dW]
   exact c4.congr λi h1 uu=>M.off i (.inr h1)
 ·rw[<-aq,<-aq,pe,e,aG,aG];rfl
end
section
variable {τ:Cx}
structure Next (τ:Cx)(a0:Array Keyed)(st:SortSt)(lo n:Nat):Prop where
 runs:Du τ a0 st lo
 BK:yU τ (arrOf st) lo (lo+n)
 n0:1<=n
 le:lo+n<=a0.size
theorem Next.push {a0:Array Keyed}{st:SortSt}{lo n:Nat}(h:Next τ a0 st lo n):Du τ a0 (setPending st ((pendingOf st).push (lo,n,0))) (lo+n) :=
 ⟨h.runs.perm,⟨h.runs.fit.k,h.runs.fit.ok⟩,h.runs.f,h.le,by
  show Ag τ (arrOf st) ((pendingOf st).push (lo,n,0)).toList 0 (lo+n)
  rw[dO]
  exact h.runs.cov.join ⟨rfl,h.n0,h.BK,rfl⟩⟩
theorem Next.pow {a0:Array Keyed}{st:SortSt}{lo n i:Nat}(p:Nat)(h:Next τ a0 st lo n):Next τ a0 (setPending st ((pendingOf st).modify i λx=>(x.1,x.2.1,p))) lo n :=
 ⟨⟨h.runs.perm,⟨h.runs.fit.k,h.runs.fit.ok⟩,h.runs.f,h.runs.le,by
  show Ag τ (arrOf st) ((pendingOf st).modify i λx=>(x.1,x.2.1,p)).toList 0 lo
  rw[Array.toList_modify]
  exact h.runs.cov.modify (f:=λx=>(x.1,x.2.1,p)) λuu=>⟨rfl,rfl⟩⟩,h.BK,h.n0,h.le⟩
theorem Du.keep {a0:Array Keyed}{st st':SortSt}{lo:Nat}(h:Du τ a0 st lo)(K:Keep lo st st'):Du τ a0 st' lo :=
 ⟨K.perm.trans h.perm,h.fit.keep K,K.f.trans h.f,h.le,by rw[K.p];exact h.cov.congr λi uu h2=>K.low i h2⟩
theorem Next.merged {a0:Array Keyed}{st st':SortSt}{lo n:Nat}(h:Next τ a0 st lo n)(r:Du τ a0 st' lo)(q:∀ j,lo<=j->(arrOf st')[j]?=(arrOf st)[j]?):Next τ a0 st' lo n :=
 ⟨r,λi j h1 h2 h3=>by rw[BL (q i h1),BL (q j (aj h1 h2))];exact h.BK i j h1 h2 h3,h.n0,h.le⟩
theorem aaK {c:Prop}{_:Decidable c}{n:Nat}(h:1<n):(if c then n-2-1 else n-2)+1<n:=by
 have h1:n-2+1<n:=by rw[<-Nat.sub_add_comm h];exact cU (aB Nat.zero_lt_one (eF 1 n)) Nat.two_pos |> λq=>aB (by show n+1-2<n;rw[o7 n 1 1];exact cU (gW h) cO) (aD _)
 split
 ·exact aK (bw (fV _ _) 1) h1
 ·exact h1
noncomputable abbrev Er:=Option Unit×Unit
noncomputable abbrev Ot:=Option Unit×Nat
inductive Co (f:Nat->Er->StateT SortSt Sem (ForInStep Er)):Prop where
 | mk {g:SortSt->StateT SortSt Sem (ForInStep Er)} {k:SortSt->Bool->StateT SortSt Sem (ForInStep Er)} {P:SortSt->Nat->Nat->Nat->Prop} {d:∀ st a b c,Decidable (P st a b c)}
  (h0:∀ x,f x (none,())=(get:StateT SortSt Sem SortSt)>>=g)
  (h2:∀ st a b c,(pendingOf st).size>1->(pendingOf st)[(pendingOf st).size-2]?=some (a,b,c)->g st=if P st a b c then pure (.done (none,())) else mergeAt' ((pendingOf st).size-2)>>=k st) (h3:∀ st,¬(pendingOf st).size>1->g st=pure (.done (none,()))) (h4:∀ st,k st true=pure (.yield (none,()))):Co f
theorem agb (C:Ask τ){a0:Array Keyed}{st:SortSt}{lo n N:Nat}(I:Next τ a0 st lo n){f:Nat->Er->StateT SortSt Sem (ForInStep Er)}(S:Co f){Q:Er->SortSt->Prop}(q:∀ st',Next τ a0 st' lo n->Q (none,()) st'):W τ (forIn [:N] ((none,()):Er) f) Q st:=by
 refine Cy (I:=λuu c st'=>c=(none,())/\Next τ a0 st' lo n) ?_ (λc st' h=>by rw[h.1];exact q st' h.2) ⟨rfl,I⟩
 rintro y c Bf _ _ ⟨rfl,N5⟩
 obtain⟨h0,h2,h3,h4⟩:=S
 rw[h0]
 refine wV (En ?_)
 by_cases g1:(pendingOf Bf).size>1
 ·skip
  rw[h2 Bf _ _ _ g1 (getElem?_pos (pendingOf Bf) ((pendingOf Bf).size-2) (cU (gW g1) Nat.two_pos:(pendingOf Bf).size-2<(pendingOf Bf).size))]
  split
  ·exact xg (q Bf N5)
  ·refine wV (aaJ C N5.runs (aaK (c:=False) g1) λst6 r6 uu o6=>?_)
   rw[h4];exact xg ⟨rfl,N5.merged r6 o6⟩
 ·rw[h3 Bf g1]
  exact xg (q Bf N5)
inductive Nx (lo n:Nat)(M:StateT SortSt Sem (ForInStep Ot)):Prop where
 | mk {g:SortSt->StateT SortSt Sem (ForInStep Ot)} {N:Nat} {f:SortSt->Nat->Nat->Nat->Nat->Er->StateT SortSt Sem (ForInStep Er)} {K:SortSt->Nat->Nat->Nat->Er->StateT SortSt Sem (ForInStep Ot)} {p:SortSt->Nat->Nat->Nat->Nat}
  (h0:M=(get:StateT SortSt Sem SortSt)>>=g)
  (h2:∀ st,(pendingOf st).back?=none->g st=(modify λs=>setPending s ((pendingOf s).push (lo,n,0)):StateT SortSt Sem PUnit)>>=λuu=>pure (.yield (none,lo+n)))
  (h3:∀ st a b c,(pendingOf st).back?=some (a,b,c)->g st=forIn [:N] ((none,()):Er) (f st a b c)>>=K st a b c) (h4:∀ st a b c,Co (f st a b c))
  (h5:∀ st a b c,K st a b c (none,())=(modify λs=>setPending s ((pendingOf s).modify ((pendingOf s).size-1) λx=>(x.1,x.2.1,p st a b c)):StateT SortSt Sem PUnit)>>=λuu=>(modify λs=>setPending s ((pendingOf s).push (lo,n,0)):StateT SortSt Sem PUnit)>>=λuu=>pure (.yield (none,lo+n))):Nx lo n M
theorem aaL (C:Ask τ){a0:Array Keyed}{st:SortSt}{lo n:Nat}(I:Next τ a0 st lo n){M:StateT SortSt Sem (ForInStep Ot)}(S:Nx lo n M){Q:ForInStep Ot->SortSt->Prop}(q:∀ st',Du τ a0 st' (lo+n)->Q (.yield (none,lo+n)) st'):W τ M Q st:=by
 obtain⟨h0,h2,h3,h4,h5⟩:=S
 rw[h0]
 refine wV (En ?_)
 cases e:(pendingOf st).back? with
 | none=>rw[h2 st e];exact wV (JB (xg (q _ I.push)))
 | some x3 =>
  obtain⟨s1,n1,p1⟩:=x3
  rw[h3 st _ _ _ e]
  refine wV (agb C I (h4 ..) λBf N5=>?_)
  rw[h5]
  exact wV (JB (wV (JB (xg (q _ (N5.pow _).push)))))
set_option tactic.hygienic true in
theorem agc (C:Ask τ){a0:Array Keyed}{st:SortSt}(h:Du τ a0 st 0){Q:Unit->SortSt->Prop}
  (q:∀ st',(arrOf st').Perm a0->failedOf st'=none->yU τ (arrOf st') 0 a0.size->Q () st'):W τ sortRuns' Q st:=by
 rw[sortRuns'_eq]
 refine wV (En ?_)
 dsimp only
 rw[show(arrOf st).size=a0.size from h.perm.size_eq]
 generalize hmr:minRun' a0.size a0.size 0=mr
 refine wV (HX (Cy
  (I:=λx c st'=>∃ lo,c=(none,lo)/\x<=lo/\Du τ a0 st' lo)
  (Q:=λc st'=>c=(none,a0.size)/\Du τ a0 st' a0.size) ?step ?fin ⟨0,rfl,aD _,h⟩) ?post)
 case fin =>
  rintro c st' ⟨lo,rfl,hx,hr⟩
  obtain rfl:lo=a0.size:=cM hr.le (aj (jo _ _) hx)
  exact⟨rfl,hr⟩
 case step =>
  rintro x c st' _ hx ⟨lo,rfl,hxl,hr⟩
  by_cases hge:lo≥a0.size
  ·refine G5 hge ?_
   obtain rfl:lo=a0.size:=cM hr.le hge
   exact xg ⟨rfl,hr⟩
  refine Gm hge ?_
  have hge:=jT hge
  have hsz:(arrOf st').size=a0.size:=hr.perm.size_eq
  have hrest:=cC (aQ hge)
  refine wV (afW C hr.fit (lo:=lo) (nrem:=a0.size-lo) (by rw[hsz,hrest];exact aD _) (eX hge) λm st2 K2 hm1 hm2 hs2=>?_)
  by_cases hlt:m<mr
  ·refine G5 hlt (wV (GQ (gU ⟨rfl,?_⟩)))
   have hfl:lo+min (a0.size-lo) mr<=a0.size:=aj (aL (j9 _ _:min (a0.size-lo) mr<=a0.size-lo) lo) (bI hrest)
   refine wV (afU C (hr.fit.keep K2) (by rw[K2.size,hsz];exact hfl) (vV.2 ⟨hm2,aQ hlt⟩) hs2 λst3 K3 hs3=>?_)
   have hn1:1<=min (a0.size-lo) mr:=aj hm1 (vV.2 ⟨hm2,aQ hlt⟩)
   refine Gm cZ (aaL C (n:=min (a0.size-lo) mr) (st:=st3) (a0:=a0) (lo:=lo) ⟨(hr.keep K2).keep K3,hs3,hn1,hfl⟩ ?_ λCi r4=>⟨_,rfl,cI hxl hn1,r4⟩)
   apply Nx.mk
   ·rfl
   ·intro _ e;skip;rw[e]
   ·intro _ _ _ _ e;skip;rw[e]
   ·intro _ _ _ _
    apply Co.mk
    ·exact λuu=>rfl
    ·intro _ _ _ _ g1 e;rw[if_pos g1,e]
    ·intro _ g1;rw[if_neg g1]
    ·exact λuu=>rfl
   ·exact λuu uu uu uu=>rfl
  ·refine Gm hlt (aaL C (n:=m) (st:=st2) (a0:=a0) (lo:=lo) ⟨hr.keep K2,hs2,hm1,aj (aL hm2 lo) (bI hrest)⟩ ?_ λCi r4=>⟨_,rfl,cI hxl hm1,r4⟩)
   apply Nx.mk
   ·rfl
   ·intro _ e;skip;rw[e]
   ·intro _ _ _ _ e;skip;rw[e]
   ·intro _ _ _ _
    apply Co.mk
    ·exact λuu=>rfl
    ·intro _ _ _ _ g1 e;rw[if_pos g1,e]
    ·intro _ g1;rw[if_neg g1]
    ·exact λuu=>rfl
   ·exact λuu uu uu uu=>rfl
 case post =>
  rintro c st' ⟨rfl,hr⟩
  refine wV (HX (Cy (I:=λy c st''=>c=(none,())/\Du τ a0 st'' a0.size/\(pendingOf st'').size+y<=a0.size)
   (Q:=λc st''=>c=(none,())/\Du τ a0 st'' a0.size/\(pendingOf st'').size<=1) ?_ ?_ ⟨rfl,hr,by have:=hr.cov.le;rw[aq,d9] at this;exact this⟩) ?_)
  ·rintro y c Bf _ _ ⟨rfl,r5,l5⟩
   refine wV (En ?_)
   by_cases g1:(pendingOf Bf).size<=1
   ·exact G5 g1 (xg ⟨rfl,r5,g1⟩)
   ·refine Gm g1 (wV (aaJ C r5 (aaK (jT g1)) λst6 r6 p6 uu=>xg ⟨rfl,r6,?_⟩))
    rw[<-p6,dW,dH 1] at l5;exact l5
  ·rintro c Bf ⟨rfl,r5,l5⟩
   exact⟨rfl,r5,aj (Nat.le_of_add_le_add_right (b:=max 0 a0.size) (by rw[d9];exact aj l5 (jo _ _))) (bL 1)⟩
  ·rintro c Bf ⟨rfl,r5,l5⟩
   refine xg (q Bf r5.perm r5.f ?_)
   have hc:=r5.cov
   rw[<-aq] at l5
   cases hl:(pendingOf Bf).toList with
   | nil =>
    rw[hl] at hc
    have hc:0=a0.size:=hc
    exact λi j uu uu h3=>absurd h3 (by rw[<-hc];exact iW _)
   | cons z l =>
    rw[hl] at hc l5
    obtain rfl:l=[]:=List.eq_nil_of_length_eq_zero (u5.1 (uK l5))
    obtain⟨_,_,s5,e5⟩:=hc
    rw[(e5:0+z.2.1=a0.size)] at s5
    exact s5
end
end wD
end
section
open PySem PyProof.Rows PySem.Calls
open PySem.W
namespace wD
section
variable {prog:Program}{w:World}{A:Around}{E:Value->Shared->Prop}{s:Shared}{kd:SortKind}{O:KeyOrd}{key:Keyed->O.α}{ok:Keyed->Prop}
def Es (O:KeyOrd)(key:Keyed->O.α)(xs:Array Keyed):Prop:=xs.toList.Pairwise λx y=>O.kle (key x) (key y)
theorem Lf {τ:Cx}{xs:Array Keyed}(h:yU τ xs 0 xs.size):Es τ.O τ.key xs:=by
 refine gF.2 λi j hi hj hij=>?_
 rw[aq] at hi hj
 have:=h i j (bL _) (aQ hij) hj
 unfold kk at this
 rw[yN hi,yN hj] at this
 exact this
theorem agd {xs:Array Keyed}(h:xs.size<2):Es O key xs:=by
 refine gF.2 λi j hi hj hij=>absurd (aK (aU (qI (aK (bL i) hij))) (aK (show j+1<=xs.size from hj) h)) (gj 2)
noncomputable abbrev runs (n:Nat)(kind:SortKind)(arr:Array Keyed):Sem (Unit×SortSt):=(if n<2 then pure () else sortRuns').run (pR kind arr #[] 7 none)
theorem Wk {arr:Array Keyed}{n:Nat}{kind:SortKind}(hn:arr.size=n)(hk:2<=n->kind=kd)(C:Ask ⟨prog,w,A,E,s,kd,O,key,ok⟩)(hok:∀ x∈arr.toList,ok x){R:Unit×SortSt->Shared->Prop}
  (q:∀ st,(arrOf st).Perm arr->failedOf st=none->Es O key (arrOf st)->R ((),st) s):wpAny (model prog w) A (runs n kind arr) R E s:=by
 by_cases h2:n<2
 ·show wpAny _ _ ((if n<2 then pure () else sortRuns').run _) _ _ _
  rw[if_pos h2]
  exact au (q (pR kind arr #[] 7 none) (m9 _) rfl (agd (hn▸h2)))
 ·show wpAny _ _ ((if n<2 then pure () else sortRuns').run _) _ _ _
  rw[if_neg h2,hk (gP h2)]
  refine bT (agc C (a0:=arr) (st:=pR kd arr #[] 7 none) ⟨m9 _,⟨rfl,hok⟩,rfl,bL _,rfl⟩ (Q:=λuu st=>(arrOf st).Perm arr/\failedOf st=none/\Es O key (arrOf st)) λst p f q=>⟨p,f,Lf (p.size_eq▸q)⟩) (λr s' z=>?_) λuu uu e=>e
  obtain⟨⟨⟩,st⟩:=r
  obtain⟨rfl,h1,h3,h4⟩:=z
  exact q st h1 h3 h4
theorem agf {vs:List Value}(h:∀ v∈vs,ok (v,v)):∀ x∈(pairsOf vs).toList,ok x:=by
 rw[uy]
 induction vs with
 | nil=>exact λx hx=>absurd hx aH
 | cons v r ih=>exact λx hx=>(aM.1 hx).elim (λe=>e▸h v (.head _)) λhx=>ih (λv hv=>h v (.tail _ hv)) x hx
theorem Wm {M:Model}{c:Prop}[Decidable c]{m:Sem SortKind}{g:SortKind}{jp:SortKind->Sem j8}{P:j8->Shared->Prop}(h1:c->wpAny M A (jp g) P E s)(h2:¬c->wpAny M A (m>>=jp) P E s):wpAny M A (if c then(do let k<-pure g;jp k) else(do let k<-m;jp k)) P E s:=by
 by_cases h:c
 ·rw[if_pos h];exact ak (au (h1 h))
 ·rw[if_neg h];exact h2 h
theorem Wn {a:Addr}{vs:List Value}{n:Nat}{P:j8->Shared->Prop}(ho:s.heap.get? a=some (seqObj "list" vs.toArray n))(hz:vs.length<=sizeLine)
  (hk:∀ h',(∀ b o,b≠a->s.heap.get? b=some o->h'.get? b=some o)->(2<=vs.length->∀ Q:SortKind->Shared->Prop,Q kd { s with heap:=h' }->wpAny (model prog w) A (rC vs.toArray) Q E { s with heap:=h' })/\Ask ⟨prog,w,A,E,{ s with heap:=h' },kd,O,key,ok⟩/\∀ v∈vs,ok (v,v))
  (h:∀ arr:Array Keyed,arr.Perm (pairsOf vs)->Es O key arr->P (.done (.ret .none)) { s with heap:=sortedHeap s.heap a vs (arr.map (·.2)) }):wpAny (model prog w) A (Builtin.«list.sort» ⟨[.ref a],[]⟩) P E s:=by
 have ha:a<s.heap.objs.size:=bM ho
 rw[list_sort_plain]
 refine ak (jD ho rfl (ak (mC ho rfl ?_)))
 obtain⟨e1,ho1⟩:∃ e1,(s.heap.update a (cT λuu=>#[])).get? a=some (seqObj "list" #[] e1):=⟨_,pQ ho (λuu=>#[])⟩
 refine ak (tQ ho1 rfl (ak (nq (ak (nW (bW ?_))))))
 have ho6:(((s.heap.update a (cT λuu=>#[])).push (seqObj "tuple" vs.toArray 0)).push (seqObj "list" #[] 0)).get? a=some (seqObj "list" #[] e1):=aJ _ (aJ _ ho1)
 have k6:∀ b o,b≠a->s.heap.get? b=some o->(((s.heap.update a (cT λuu=>#[])).push (seqObj "tuple" vs.toArray 0)).push (seqObj "list" #[] 0)).get? b=some o:=λb o hb e=>aJ _ (aJ _ ((bF _ _ (cH hb)).trans e))
 have h:∀ arr:Array Keyed,arr.Perm (pairsOf vs)->Es O key arr->P (.done (.ret .none)) { s with heap:=(((s.heap.update a (cT λuu=>#[])).push (seqObj "tuple" vs.toArray 0)).push (seqObj "list" #[] 0)).update a (cT λuu=>arr.map (·.2)) }:=h
 show wpAny (model prog w) A _ P E { s with heap:=((s.heap.update a (cT λuu=>#[])).push (seqObj "tuple" vs.toArray 0)).push (seqObj "list" #[] 0) }
 generalize ((s.heap.update a (cT λuu=>#[])).push (seqObj "tuple" vs.toArray 0)).push (seqObj "list" #[] 0)=h6 at ho6 k6 h ⊢
 obtain⟨k1,C,hok⟩:=hk h6 k6
 have rest:∀ kind,(2<=vs.length->kind=kd)->∀ {f:Unit×SortSt->Sem j8},(∀ st,(arrOf st).Perm (pairsOf vs)->failedOf st=none->Es O key (arrOf st)->wpAny (model prog w) A (f ((),st)) P E { s with heap:=h6 })->wpAny (model prog w) A (runs vs.toArray.size kind (vs.toArray.zip vs.toArray)>>=f) P E { s with heap:=h6 }:=λkind hk f hf =>
  ak (Wk (by rw[eH];exact vL vs) (by rw[eH];exact hk) C (agf hok) hf)
 refine Wm (λh2=>rest _ (λh3=>absurd (by rw[<-eH];exact h2) (iZ.2 h3)) ?_) λh2=>ak (k1 (by rw[<-eH];exact gP h2) _ (rest _ (λuu=>rfl) ?_)) <;>
 ·intro st hp hf hs
  refine ak (tQ ho6 rfl (ak (mC ho6 rfl ?_ (hsz2:=aj (bI ((sH ..).trans (hp.size_eq.trans (vL _)))) (dR hz)))))
  rw[hf]
  rw[if_neg (by rw[bne_self_eq_false];decide)]
  exact au (h _ hp hs)
end
end wD
end
section
open PySem PyProof.Rows
@[reducible] noncomputable def aaM:KeyOrd where
 α:=Int
 blt a b:=decide (a<b)
 irrefl a:=decide_eq_false (Int.lt_irrefl a)
 trans a b c h1 h2:=decide_eq_true (qW (of_decide_eq_true h1) (of_decide_eq_true h2))
 negTrans a b c h:=(Int.lt_or_le a b).elim (λq=>.inl (decide_eq_true q)) λq=>.inr (decide_eq_true (jy q (of_decide_eq_true h)))
 total a b h1 h2:=oW (gZ.1 (of_decide_eq_false h2)) (gZ.1 (of_decide_eq_false h1))
noncomputable def Ig (x:Keyed):Int:=match x.1 with
 | .int n _=>n
 | _=>0
def Ru (x:Keyed):Prop:=∃ t,x.1=.int (Ig x) t/\x.2=x.1
section
variable {prog:Program}{w:World}{A:Around}{E:Value->Shared->Prop}{s:Shared}
theorem agg:wD.Ask ⟨prog,w,A,E,s,oneType',aaM,Ig,Ru⟩ where
 run x y st hx hy hk Q q:=by
  obtain⟨t,ha,_⟩:=hx
  obtain⟨u,hb,_⟩:=hy
  rw[lt'_eq]
  refine wD.wV (wD.En ?_)
  rw[hk,keyLt'_oneType,ha,hb]
  exact wD.wV (wD.GQ (mq (oneLt_int ⟨rfl,wD.xg q⟩)))
theorem agh {vs:List Value}{ns:List Int}(h:IntsAre vs ns):(∀ x∈(pairsOf vs).toList,Ru x)/\(pairsOf vs).toList.map Ig=ns:=by
 rw[uy]
 induction h with
 | nil=>exact⟨λx hx=>absurd hx aH,rfl⟩
 | cons i t r ih=>exact⟨λx hx=>(aM.1 hx).elim (λe=>e▸⟨t,rfl,rfl⟩) (ih.1 x),congrArg (i::·) ih.2⟩
theorem ints_of {l:List Keyed}(h:∀ x∈l,Ru x):IntsAre (l.map (·.2)) (l.map Ig):=by
 induction l with
 | nil=>exact .nil
 | cons x r ih =>
  obtain⟨t,e1,e2⟩:=h x (.head _)
  have:=IntsAre.cons (Ig x) t (ih λy hy=>h y (.tail _ hy))
  rw[<-e1,<-e2] at this
  exact this
theorem agi {a:Addr}{vs:List Value}{ns:List Int}{n:Nat}{P:Fin->Shared->Prop}(ho:s.heap.get? a=some (seqObj "list" vs.toArray n))(hI:IntsAre vs ns)(hz:vs.length<=sizeLine)
  (h:∀ (out:Array Value) (ns':List Int),IntsAre out.toList ns'->ns'.Perm ns->ns'.Pairwise (·<=·)->P (.done (.ret .none)) { s with heap:=sortedHeap s.heap a vs out }) :
  wpAny (model prog w) A (Builtin.«list.sort» ⟨[.ref a],[]⟩) P E s:=by
 have hP:=agh hI
 refine wD.Wn (kd:=oneType') (O:=aaM) (key:=Ig) (ok:=Ru) ho hz (λh' uu=>⟨λh2 Q q=>?_,agg,λv hv=>hP.1 (v,v) ?_⟩) λarr hp hs=>?_
 ·cases hI with
  | nil=>cases h2
  | cons i t r=>cases r with
   | nil=>cases h2 with | step h2=>cases h2
   | cons j u r=>rw[keyKind_ints (.cons i t (.cons j u r))];exact au q
 ·rw[uy]
  clear hP h hz ho hI
  induction vs with
  | nil=>cases hv
  | cons u r ih=>exact(aM.1 hv).elim (λe=>e▸.head _) λhv=>.tail _ (ih hv)
 ·have pl:=sI.1 hp
  refine h _ (arr.toList.map Ig) (by rw[qX];exact ints_of λx hx=>hP.1 x (pl.mem_iff.1 hx)) (hP.2▸pl.map Ig) (dh.2 (hs.imp λ{x y} e=>?_))
  exact gZ.1 (of_decide_eq_false e)
end
end
section
open PySem
namespace wG
set_option tactic.hygienic true in
theorem agj {xs:Array Nat}{j:Nat}(up:xs.toList.Pairwise (·<·)):∀ (f lo hi:Nat),hi<=xs.size->hi<=lo+f->(∀ i x,i<lo->xs[i]?=some x->x<j)->(∀ i x,hi<=i->xs[i]?=some x->j<=x)->∀ i x,xs[i]?=some x->(x<j↔i<jf xs j f lo hi):=by
 intro f
 induction f with
 | zero =>
  intro lo hi _ h a b i x e
  exact⟨λz=>Nat.lt_of_not_le λy=>gj _ (aB z (b i x (aj h y) e)),λz=>a i x z e⟩
 | succ f ih =>
  intro lo hi hs h a b i x e
  show x<j↔i<if lo<hi then(if xs.getD ((lo+hi)/2) j<j then jf xs j f ((lo+hi)/2+1) hi else jf xs j f lo ((lo+hi)/2)) else lo
  split
  ·rename_i hl
   have m1:(lo+hi)/2<hi:=by omega
   have m0:lo<=(lo+hi)/2:=by omega
   have me:xs[(lo+hi)/2]?=some xs[(lo+hi)/2]:=bC (aB m1 hs)
   rw[(show xs.getD ((lo+hi)/2) j=xs[(lo+hi)/2] from by rw[iy,me];rfl)]
   have mono:∀ i k x y,i<=k->xs[i]?=some x->xs[k]?=some y->x<=y:=λi k x y hik e1 e2=>by
    rcases jw hik with z | rfl
    ·rw[<-aW] at e1 e2
     obtain⟨l1,rfl⟩:=fH.1 e1
     obtain⟨l2,rfl⟩:=fH.1 e2
     exact aQ (gF.1 up i k l1 l2 z)
    ·rw[e1] at e2;cases e2;exact aD _
   split
   ·rename_i hm
    exact ih _ _ hs (by omega) (λi x hi' e=>aK (mono i _ x _ (bU hi') e me) hm) b i x e
   ·rename_i hm
    exact ih _ _ (aj (aQ m1) hs) (by omega) a (λi x hi' e=>aj (iZ.1 hm) (mono _ i _ x hi' me e)) i x e
  ·rename_i hl
   exact⟨λz=>Nat.lt_of_not_le λy=>gj _ (aB z (b i x (aj (iZ.1 hl) y) e)),λz=>a i x z e⟩
theorem Wo {xs:Array Nat}{j:Nat}(up:xs.toList.Pairwise (·<·)){i x:Nat}(e:xs[i]?=some x):x<j↔i<dI xs j :=
 agj up xs.size 0 xs.size (aD _) (by omega) (λi x h=>absurd h (iW _)) (λi x h e=>by rw[iw h] at e;cases e) i x e
noncomputable def Tz (t:SetTable)(es:Array (Int×Value)):List (Nat×Int×Value):=t.place.toList.zip es.toList
theorem agk {t:SetTable}{es:Array (Int×Value)}{j:Nat}{e:Int×Value}:(j,e)∈Tz t es↔∃ i:Nat,t.place[i]?=some j/\es[i]?=some e:=by
 unfold Tz
 rw[fP]
 refine exists_congr λi=>?_
 rw[List.getElem?_zip_eq_some,aW,aW]
theorem Lg {t:SetTable}(up:t.place.toList.Pairwise (·<·)){i j:Nat}(e:t.place[i]?=some j):t.slot j=.live i:=by
 have h:dI t.place j=i:=by
  rcases cW (dI t.place j) i with z | z
  ·have lt:dI t.place j<t.place.size:=eY z (dj.1 e).1
   have:=gF.1 up _ i (by simpa using lt) (by simpa using (dj.1 e).1) z
   rw[fu,fu,(dj.1 e).2] at this
   exact absurd this (λy=>gj _ ((Wo up (bC lt)).1 y):¬t.place[dI t.place j]<j)
  ·exact cM (gP (λz=>gj _ ((Wo up e).2 z):¬i<dI t.place j)) z
 unfold vN
 rw[h]
 dsimp only
 rw[e]
 simp
theorem agl {t:SetTable}(hd:t.dummies=#[]){j:Nat}(e:j∉t.place.toList):t.slot j=.empty:=by
 unfold vN
 have:(t.place[dI t.place j]?==some j)=false:=by
  rw[beq_eq_false_iff_ne]
  intro z
  exact e (fP.2 ⟨_,by rw[aW];exact z⟩)
 dsimp only
 rw[this,hd]
 rfl
noncomputable def pr (t:SetTable)(h:Int):Nat->qY
 | 0=>t.probeStart h
 | n+1=>t.advance (pr t h n)
noncomputable abbrev sq (t:SetTable)(h:Int)(n:Nat):Nat:=(pr t h n).j
theorem agm {t t':SetTable}(e:t'.mask=t.mask)(h:Int)(n:Nat):pr t' h n=pr t h n:=by
 induction n with
 | zero=>show oh t' h=oh t h;unfold oh;rw[e]
 | succ n ih=>show ig t' (pr t' h n)=ig t (pr t h n);unfold ig;rw[ih,e]
theorem JH {t t':SetTable}(e:t'.mask=t.mask)(h:Int)(n:Nat):sq t' h n=sq t h n:=congrArg SetTable.Probe.j (agm e h n)
theorem agn (t:SetTable)(h:Int)(n:Nat):(pr t h n).dummy=none:=by
 induction n with
 | zero=>rfl
 | succ n ih =>
  show(ig t (pr t h n)).dummy=none
  unfold ig
  by_cases q:(pr t h n).more>0
  ·rw[if_pos q];exact ih
  ·rw[if_neg q];exact ih
structure Tb (t:SetTable)(es:Array (Int×Value)):Prop where
 up:t.place.toList.Pairwise (·<·)
 len:t.place.size=es.size
 JK:t.dummies=#[]
 JL:t.mask=7\/t.mask=31\/t.mask=127
 way:∀ j e,(j,e)∈Tz t es->∃ n,sq t e.1 n=j/\∀ m,m<n->sq t e.1 m∈t.place.toList
section
variable {t:SetTable}{es:Array (Int×Value)}{h:Int}
theorem aaN {p:qY}{x:SetTable.Slot}(e:t.slot p.j=x)(hashAt:Nat->Int)(f:Nat):jN t hashAt h (f+1) p=tR (λuu=>Option SetTable.Met) x (λuu=>some (sJ p.j p.dummy)) (λuu=>jN t hashAt h f (t.advance { p with dummy:=some p.j })) (λi=>if hashAt i==h then some (SetTable.Met.candidate p.j i (t.advance p)) else jN t hashAt h f (t.advance p)):=by
 subst e
 rfl
theorem ago (T:Tb t es){N:Nat}(hN:sq t h N∉t.place.toList)(hb:∀ m,m<N->sq t h m∈t.place.toList)(hashAt:Nat->Int):∀ (k f n:Nat),n+k=N->k<f ->
  (jN t hashAt h f (pr t h n)=some (.empty (sq t h N) none)/\∀ m i,n<=m->m<N->t.place[i]?=some (sq t h m)->hashAt i≠h) \/
  ∃ m i,n<=m/\m<N/\t.place[i]?=some (sq t h m)/\hashAt i=h/\jN t hashAt h f (pr t h n)=some (.candidate (sq t h m) i (pr t h (m+1))) /\
   ∀ m' i',n<=m'->m'<m->t.place[i']?=some (sq t h m')->hashAt i'≠h:=by
 intro k
 induction k with
 | zero =>
  intro f n e hf
  subst e
  cases f with
  | zero=>cases hf
  | succ f =>
   refine .inl ⟨?_,λm i h1 h2=>absurd (aB h2 h1) (gj _)⟩
   rw[aaN (p:=pr t h n) (agl T.JK hN)]
   show some (sJ _ (pr t h n).dummy)=_
   rw[agn]
   rfl
 | succ k ih =>
  intro f n e hf
  cases f with
  | zero=>cases hf
  | succ f =>
   have hn:n<N:=by omega
   obtain⟨i,hi⟩:=fP.1 (hb n hn)
   rw[aW] at hi
   rw[aaN (Lg T.up hi)]
   dsimp only
   have uniq:∀ i',t.place[i']?=some (sq t h n)->i'=i:=λi' e'=>by
    have:=Lg T.up e'
    rw[Lg T.up hi] at this
    cases this;rfl
   cases hq:hashAt i==h with
   | true =>
    exact .inr ⟨n,i,aD _,hn,hi,cP hq,rfl,λm' i' h1 h2=>absurd (aB h2 h1) (gj _)⟩
   | false =>
    have step:∀ m i',n<=m->t.place[i']?=some (sq t h m)->m=n->hashAt i'≠h:=λm i' uu e' z=>by subst z;rw[uniq i' e'];exact(ne_of_beq_false hq:hashAt i≠h)
    refine Dr λgg kk=>?_
    rcases ih f (n+1) (by omega) (by omega) with⟨a,b⟩ | ⟨m,i2,a1,a2,a3,a4,a5,a6⟩ <;> (refine kk ?_;clear kk gg)
    ·refine .inl ⟨a,λm i' h1 h2 h3=>?_⟩
     rcases jw h1 with z | z
     ·exact b m i' z h2 h3
     ·exact step m i' h1 h3 z.symm
    ·refine .inr ⟨m,i2,dU a1,a2,a3,a4,a5,λm' i' h1 h2 h3=>?_⟩
     rcases jw h1 with z | z
     ·exact a6 m' i' z h2 h3
     ·exact step m' i' h1 h3 z.symm
end
theorem php:∀ (n:Nat) (l:List Nat),(∀ s,s<n->s∈l)->n<=l.length:=by
 intro n
 induction n with
 | zero=>exact λl uu=>bL _
 | succ n ih =>
  intro l h
  have hn:=h n (bV n)
  have:=ih (l.erase n) λs hs=>(pB (bQ hs)).2 (h s (eZ hs))
  rw[ni hn] at this
  have:=nQ hn
  omega
theorem least {p:Nat->Prop}(n:Nat)(h:p n):∃ N,N<=n/\p N/\∀ m,m<N->¬p m:=by
 induction n using Nat.strongRecOn with
 | ind n ih =>
  by_cases hm:∃ m,m<n/\p m
  ·obtain⟨m,h1,h2⟩:=hm
   obtain⟨N,h3,h4⟩:=ih m h1 h2
   exact⟨N,aj h3 (aQ h1),h4⟩
  ·exact⟨n,aD _,h,λm h1 h2=>hm ⟨m,h1,h2⟩⟩
noncomputable def cy (M a:Nat):Nat->Nat
 | 0=>a
 | m+1=>(cy M a m*5+1)%M
theorem Wq (M a m:Nat):∀ n,cy M a (m+n)=cy M (cy M a m) n:=by
 intro n
 induction n with
 | zero=>rfl
 | succ n ih=>exact congrArg (λz=>(z*5+1)%M) ih
def G8 (M:Nat):Prop:=(∀ s,s<M->∃ m,m<M/\cy M 0 m=s)/\cy M 0 M=0
theorem agp:G8 8:=by unfold G8;decide +kernel
theorem agq:G8 32:=by unfold G8;decide +kernel
theorem agr:G8 128:=by unfold G8;decide +kernel
theorem G8.hit {M:Nat}(h:G8 M){a s:Nat}(ha:a<M)(hs:s<M):∃ m,m<M/\cy M a m=s:=by
 obtain⟨u,hu,rfl⟩:=h.1 a ha
 obtain⟨v,hv,rfl⟩:=h.1 s hs
 rcases cW v u with z | z
 ·refine⟨M-u+v,by omega,?_⟩
  rw[<-Wq,show u+(M-u+v)=M+v by omega,Wq,h.2]
 ·refine⟨v-u,by omega,?_⟩
  rw[<-Wq,cC z]
section
variable (t:SetTable)(h:Int)
noncomputable def lp:Nat->Nat×Nat
 | 0=>(iR h%(t.mask+1),iR h)
 | n+1=>rH t.mask (lp n).1 (lp n).2
noncomputable def rn (n:Nat):Nat:=gb t.mask (lp t h n).1-(lp t h n).1
noncomputable def nl:Nat->Nat
 | 0=>0
 | n+1=>nl n+rn t h n+1
theorem ags (n:Nat):rn t h n<=9:=by unfold rn gb;split <;> omega
theorem agt (n:Nat):nl t h n<=10*n:=by
 induction n with
 | zero=>exact aD _
 | succ n ih=>have:=ags t h n;have e:nl t h (n+1)=nl t h n+rn t h n+1:=rfl;omega
theorem agu (n:Nat):(lp t h n).1<t.mask+1:=by cases n <;> exact qy _ (eU _)
theorem agv (n:Nat):(lp t h n).2*32^n<=iR h:=by
 induction n with
 | zero=>exact bI (Nat.mul_one _)
 | succ n ih =>
  refine aj ?_ ih
  rw[Nat.pow_succ,Nat.mul_comm (32^n),<-Nat.mul_assoc]
  exact dg _ (Nat.div_mul_le_self _ _)
theorem agw {n:Nat}(hn:13<=n):(lp t h n).2=0:=by
 have h1:=agv t h n
 have h2:iR h<2^64:=by
  unfold iR
  have:=wg h (show(0:Int)<2^64 by decide)
  omega
 rcases vW (lp t h n).2 with z | z
 ·exact z
 ·have:=pI z (Nat.pow_le_pow_right (by decide) hn:32^13<=32^n)
  have h4:2^64<=1*32^13:=by decide
  omega
theorem agx (m:Nat):(lp t h (13+m)).1=cy (t.mask+1) (lp t h 13).1 m:=by
 induction m with
 | zero=>rfl
 | succ m ih =>
  show((lp t h (13+m)).1*5+1+(lp t h (13+m)).2/32)%(t.mask+1)=_
  rw[agw t h (aF 13 m),ih]
  rfl
theorem aaO (n:Nat)(h0:pr t h (nl t h n)={ j:=(lp t h n).1,more:=rn t h n,i:=(lp t h n).1,perturb:=(lp t h n).2,dummy:=none }):∀ k,k<=rn t h n->pr t h (nl t h n+k)={ j:=(lp t h n).1+k,more:=rn t h n-k,i:=(lp t h n).1,perturb:=(lp t h n).2,dummy:=none }:=by
 intro k
 induction k with
 | zero=>exact λuu=>h0
 | succ k ih =>
  intro hk
  show t.advance (pr t h (nl t h n+k))=_
  rw[ih (dU hk)]
  unfold ig
  rw[if_pos (eX hk)]
  rfl
theorem agy (n:Nat):pr t h (nl t h n)={ j:=(lp t h n).1,more:=rn t h n,i:=(lp t h n).1,perturb:=(lp t h n).2,dummy:=none }:=by
 induction n with
 | zero=>rfl
 | succ n ih =>
  show t.advance (pr t h (nl t h n+rn t h n))=_
  rw[aaO t h n ih _ (aD _)]
  unfold ig
  rw[if_neg (by dsimp only;omega)]
  rfl
theorem Ou (n k:Nat)(hk:k<=rn t h n):sq t h (nl t h n+k)=(lp t h n).1+k:=by
 unfold sq
 rw[aaO t h n (agy t h n) k hk]
end
section
variable {t:SetTable}{h:Int}
theorem agz (hm:t.mask=7\/t.mask=31\/t.mask=127):G8 (t.mask+1):=by
 rcases hm with e | e | e <;> rw[e]
 ·exact agp
 ·exact agq
 ·exact agr
theorem aaP (hm:t.mask=7\/t.mask=31\/t.mask=127){s:Nat}(hs:s<=t.mask):∃ n,n<t.mask+14/\(lp t h n).1=s:=by
 obtain⟨m,h1,h2⟩:=(agz hm).hit (agu t h 13) (gA hs)
 exact⟨13+m,by omega,(agx t h m).trans h2⟩
theorem agA (hm:t.mask=7\/t.mask=31\/t.mask=127)(hr:t.place.size<=t.mask):∃ N,N<10*iz t.mask/\sq t h N∉t.place.toList/\∀ m,m<N->sq t h m∈t.place.toList:=by
 have:∃ s,s<=t.mask/\s∉t.place.toList:=by
  apply bA
  intro z
  have:=php (t.mask+1) t.place.toList λs hs=>bA λy=>z ⟨s,bU hs,y⟩
  rw[aq] at this
  omega
 obtain⟨s,h1,h2⟩:=this
 obtain⟨n,h3,h4⟩:=aaP (h:=h) hm h1
 have h5:=agt t h n
 obtain⟨N,g1,g2,g3⟩:=least (p:=λk=>sq t h k∉t.place.toList) (nl t h n) (by show sq t h (nl t h n+0)∉_;rw[Ou t h n 0 (bL _),h4];exact h2)
 exact⟨N,by unfold iz;omega,g2,λm hm=>bA (g3 m hm)⟩
end
section
variable {t:SetTable}{es:Array (Int×Value)}{h:Int}
set_option tactic.hygienic true in
theorem agB (T:Tb t es){x:Value}{N:Nat}(hN:sq t h N∉t.place.toList)(hb:∀ m,m<N->sq t h m∈t.place.toList) :
  Tb (t.put (sq t h N)).1 (c7 es (t.put (sq t h N)).2 (h,x)):=by
 have hd:(t.put (sq t h N)).1={ t with place:=c7 t.place (dI t.place (sq t h N)) (sq t h N) }:=by
  unfold SetTable.put
  rw[T.JK]
  rfl
 generalize hp:(t.put (sq t h N)).2=p
 have hp':dI t.place (sq t h N)=p:=hp
 rw[hd,hp']
 generalize hj:sq t h N=j at hN hd hp hp' ⊢
 have el:=mL t.place p j
 have mem:∀ k,k∈(c7 t.place p j).toList↔k=j\/k∈t.place.toList:=λk=>by
  rw[el,aR,aM,<-eG p t.place.toList,aR,eG]
  exact or_left_comm
 have sub:∀ {h':Int} {n:Nat},(∀ m,m<n->sq t h' m∈t.place.toList)->∀ m,m<n->sq { t with place:=c7 t.place p j } h' m∈(c7 t.place p j).toList:=λ{h' n} z m hm=>by
  rw[JH (t:=t) (t':={ t with place:=c7 t.place p j }) rfl]
  exact(mem _).2 (.inr (z m hm))
 have lt:∀ i x,t.place[i]?=some x->(x<j↔i<p):=λi x e=>hp'▸Wo T.up e
 refine⟨?_,?_,T.JK,T.JL,?_⟩
 ·skip
  have up:=T.up
  rw[<-eG p t.place.toList,bN] at up
  rw[el,bN,cX]
  have low:∀ a∈t.place.toList.take p,a<j:=λa ha=>by
   obtain⟨i,hi⟩:=fP.1 ha
   rw[List.getElem?_take] at hi
   split at hi
   ·rename_i hl
    rw[aW] at hi
    exact(lt i a hi).2 hl
   ·cases hi
  refine⟨up.1,⟨λa ha=>?_,up.2.1⟩,λa ha b hb'=>?_⟩
  ·obtain⟨i,hi⟩:=fP.1 ha
   rw[vG,aW] at hi
   have:¬a<j:=λz=>by have:=(lt _ a hi).1 z;omega
   have:a≠j:=λz=>hN (z▸pA ha)
   omega
  ·rcases aM.1 hb' with rfl | hb'
   ·exact low a ha
   ·exact up.2.2 a ha b hb'
 ·skip
  rw[<-aq,el,<-aq (xs:=c7 es p (h,x)),mL]
  have:=T.len
  simp only[aG,dF,jj,List.length_drop,aq,this]
 ·intro k e hk
  have hz:(k,e)=(j,(h,x))\/(k,e)∈Tz t es:=by
   have:Tz { t with place:=c7 t.place p j } (c7 es p (h,x))=(Tz t es).take p++(j,(h,x))::(Tz t es).drop p:=by
    show(c7 t.place p j).toList.zip _=_
    rw[el,mL,List.zip_append (show(t.place.toList.take p).length=(es.toList.take p).length from by rw[jj,jj,aq,aq,T.len])]
    unfold List.zip
    rw[List.take_zipWith,List.drop_zipWith,List.zipWith_cons_cons]
   rw[this,aR,aM] at hk
   rcases hk with z | z | z
   ·exact .inr (pq z)
   ·exact .inl z
   ·exact .inr (pA z)
  rcases hz with z | z
  ·cases z
   refine⟨N,?_,sub hb⟩
   exact vK (JH (t:=t) (t':={ t with place:=c7 t.place p j }) rfl h N) hj
  ·obtain⟨n,h1,h2⟩:=T.way k e z
   exact⟨n,vK (JH (t:=t) (t':={ t with place:=c7 t.place p j }) rfl e.1 n) h1,sub h2⟩
end
noncomputable abbrev Ow:=Array (Option Nat)
def CZ (ow:Ow)(s:Nat):Prop:=(ow.getD s (some 0)).isNone=false
section
variable {t:SetTable}{h:Int}{ow:Ow}
theorem aaQ {f i p:Nat}{x:Option Nat}(e:((dw (gb t.mask i+1-i)).find? λk=>(ow.getD (i+k) (some 0)).isNone)=x):gH t.mask ow (f+1) i p=x.elim (gH t.mask ow f (rH t.mask i p).1 (rH t.mask i p).2) λk=>some (i+k):=by
 subst e
 show SetTable.drop.match_1 (λuu=>Option Nat) _ _ _=_
 cases (dw (gb t.mask i+1-i)).find? λk=>(ow.getD (i+k) (some 0)).isNone <;> rfl
theorem agC:∀ (f l:Nat),(∀ m,m<nl t h l->CZ ow (sq t h m))->(∃ l',l<=l'/\l'<l+f/\¬CZ ow (lp t h l').1) ->
  ∃ n,gH t.mask ow f (lp t h l).1 (lp t h l).2=some (sq t h n)/\¬CZ ow (sq t h n)/\∀ m,m<n->CZ ow (sq t h m):=by
 intro f
 induction f with
 | zero=>intro l uu q;obtain⟨l',h1,h2,_⟩:=q;exact absurd (aK h1 h2) (gj _)
 | succ f ih =>
  intro l hb q
  obtain⟨l',h1,h2,h3⟩:=q
  have hr:∀ k,k<gb t.mask (lp t h l).1+1-(lp t h l).1↔k<=rn t h l:=λk=>by
   have:(lp t h l).1<=gb t.mask (lp t h l).1:=by unfold gb;split <;> omega
   unfold rn;omega
  cases hf:(dw (gb t.mask (lp t h l).1+1-(lp t h l).1)).find? λk=>(ow.getD ((lp t h l).1+k) (some 0)).isNone with
  | some k =>
   obtain⟨g1,g2,g3⟩:=List.find?_range_eq_some.1 hf
   have hk:k<=rn t h l:=(hr k).1 (gQ.1 g2)
   refine⟨nl t h l+k,by rw[aaQ hf,Ou t h l k hk];rfl,by rw[Ou t h l k hk];unfold CZ;rw[g1];exact Bool.noConfusion,λm hm=>?_⟩
   rcases cW m (nl t h l) with z | z
   ·exact hb m z
   ·obtain⟨q,rfl⟩:=uo z
    have hq:q<k:=by omega
    rw[Ou t h l q (by omega)]
    exact(gV _).mp (g3 q hq)
  | none =>
   have no:∀ k,k<=rn t h l->CZ ow ((lp t h l).1+k):=λk hk=>by
    exact Bool.eq_false_iff.2 (kE.1 hf k (gQ.2 ((hr k).2 hk)))
   rw[aaQ hf]
   refine ih (l+1) (λm hm=>?_) ⟨l',?_,by omega,h3⟩
   ·rcases cW m (nl t h l) with z | z
    ·exact hb m z
    ·obtain⟨q,rfl⟩:=uo z
     have hq:q<=rn t h l:=by have hm:nl t h l+q<nl t h l+rn t h l+1:=hm;omega
     rw[Ou t h l q hq]
     exact no q hq
   ·rcases jw h1 with z | z
    ·exact z
    ·exact absurd (no 0 (bL _)) (by rw[z];exact h3)
noncomputable def lives (M:Nat)(ow:Ow):List (Nat×Nat):=(dw M).filterMap λj=>(ow.getD j none).map (j,·)
theorem Ov {M j i:Nat}:(j,i)∈lives M ow↔j<M/\ow.getD j none=some i:=by
 unfold lives
 rw[kj]
 constructor
 ·rintro⟨a,h1,h2⟩
  obtain⟨b,h3,h4⟩:=bG.1 h2
  cases h4
  exact⟨gQ.1 h1,h3⟩
 ·exact λq=>⟨j,gQ.2 q.1,by rw[q.2];rfl⟩
theorem Rv {α β:Type}{f g:α->Option β}{l:List α}:(∀ x∈l,g x=f x)->l.filterMap g=l.filterMap f:=by
 induction l with
 | nil=>exact λuu=>rfl
 | cons a l ih=>exact λh=>by rw[pY,pY,h a (.head _),ih λx hx=>h x (.tail _ hx)]
theorem agD {α β:Type}[DecidableEq α](f g:α->Option β)(j:α)(v:β)(h0:f j=none)(h1:g j=some v)(h2:∀ a,a≠j->g a=f a)(l:List α):j∈l->l.Nodup->(l.filterMap g).Perm (v::l.filterMap f):=by
 induction l with
 | nil=>exact λz uu=>absurd z aH
 | cons a l ih =>
  intro hj hn
  rw[eE] at hn
  by_cases e:a=j
  ·subst e
   rw[jZ h1,nj h0]
   refine .cons _ (.of_eq (Rv λx hx=>h2 x λz=>hn.1 (z▸hx)))
  ·have hl:j∈l:=(aM.1 hj).resolve_left λz=>e z.symm
   have:=ih hl hn.2
   cases hf:f a with
   | none=>rw[nj ((h2 a e).trans hf),nj hf];exact this
   | some b=>rw[jZ ((h2 a e).trans hf),jZ hf];exact(this.cons b).trans (.swap ..)
structure Ly (t:SetTable)(ow:Ow)(hs:List Int):Prop where
 size:ow.size=t.mask+1
 all:((lives (t.mask+1) ow).map (·.2)).Perm (dw hs.length)
 way:∀ j i hh,ow.getD j none=some i->hs[i]?=some hh->∃ n,sq t hh n=j/\∀ m,m<n->CZ ow (sq t hh m)
theorem Wr (hz:j<ow.size):CZ ow j↔∃ i,ow.getD j none=some i:=by
 unfold CZ
 simp [qm,hz,mX]
set_option tactic.hygienic true in
theorem Ly.step (L:Ly t ow hs)(hm:t.mask=7\/t.mask=31\/t.mask=127)(hn:hs.length<=t.mask) :
  ∃ j,gH t.mask ow (iz t.mask) (iR h%(t.mask+1)) (iR h)=some j/\Ly t (ow.setIfInBounds j (some hs.length)) (hs++[h]):=by
 have:∃ s,s<=t.mask/\¬CZ ow s:=by
  apply bA
  intro z
  have hall:∀ s,s<t.mask+1->∃ i,ow.getD s none=some i:=λs hs=>(Wr (L.size▸hs)).1 (bA λy=>z ⟨s,bU hs,y⟩)
  have hl:=L.all.length_eq
  rw[aA,eN] at hl
  have:=php (t.mask+1) ((lives (t.mask+1) ow).map (·.1)) λs hs=>by
   obtain⟨i,hi⟩:=hall s hs
   exact aO.2 ⟨(s,i),Ov.2 ⟨hs,hi⟩,rfl⟩
  rw[aA] at this
  omega
 obtain⟨s,h1,h2⟩:=this
 obtain⟨l,h3,h4⟩:=aaP (h:=h) hm h1
 obtain⟨n,g1,g2,g3⟩:=agC (t:=t) (h:=h) (ow:=ow) (iz t.mask) 0 (λm hm=>absurd hm (iW _)) ⟨l,bL _,by unfold iz;omega,h4▸h2⟩
 refine⟨_,g1,?_⟩
 generalize hj:sq t h n=j at g1 g2
 have jl:j<ow.size:=bA λz=>g2 (by unfold CZ;rw[qm,dif_neg z];rfl)
 have j0:ow.getD j none=none:=by
  cases e:ow.getD j none with
  | none=>rfl
  | some i=>exact absurd ((Wr jl).2 ⟨i,e⟩) g2
 have new:∀ a,(ow.setIfInBounds j (some hs.length)).getD a none=if a=j then some hs.length else ow.getD a none:=λa=>by
  simp only[iy,rG]
  by_cases e:j=a
  ·subst e;simp [jl]
  ·rw[if_neg e,if_neg (cH e)]
 have occ:∀ a,CZ ow a->CZ (ow.setIfInBounds j (some hs.length)) a:=λa z=>by
  unfold CZ at *
  simp only[iy,rG] at *
  by_cases e:j=a
  ·subst e;simp [jl]
  ·rw[if_neg e];exact z
 refine⟨by rw[jX];exact L.size,?_,λa i hh e1 e2=>?_⟩
 ·have:=agD (λj=>(ow.getD j none).map (j,·)) (λa=>((ow.setIfInBounds j (some hs.length)).getD a none).map (a,·)) j (j,hs.length) (by rw[j0];rfl) (by rw[new,if_pos rfl];rfl) (λa ha=>by rw[new,if_neg ha]) (dw (t.mask+1)) (gQ.2 (L.size▸jl)) List.nodup_range
  refine(this.map (·.2)).trans ?_
  rw[aG,dJ,List.range_succ (n:=hs.length)]
  exact(L.all.cons _).trans (List.perm_append_singleton _ _).symm
 ·rw[new] at e1
  split at e1
  ·rename_i ea
   cases e1
   rw[iI (aD _),qJ] at e2
   cases e2
   exact⟨n,hj.trans ea.symm,λm hm=>occ _ (g3 m hm)⟩
  ·have hi:i<hs.length:=by
    have hl:a<t.mask+1:=bA λz=>by
     rw[qm,dif_neg (by rw[L.size];exact z)] at e1;cases e1
    have:=L.all.mem_iff.1 (aO.2 ⟨(a,i),Ov.2 ⟨hl,e1⟩,rfl⟩)
    exact gQ.1 this
   rw[mZ hi] at e2
   obtain⟨n',q1,q2⟩:=L.way a i hh e1 e2
   exact⟨n',q1,λm hm=>occ _ (q2 m hm)⟩
theorem agE (hm:t.mask=7\/t.mask=31\/t.mask=127):∀ (hs done:List Int) (ow:Ow),Ly t ow done->done.length+hs.length<=t.mask->∃ Rx,Ly t Rx (done++hs) /\
  hs.foldl (λacc h=>do
   let (owner,k)<-acc
   let j<-gH t.mask owner (iz t.mask) (iR h%(t.mask+1)) (iR h)
   pure (owner.setIfInBounds j (some k),k+1)) (some (ow,done.length))=some (Rx,(done++hs).length):=by
 intro hs
 induction hs with
 | nil=>intro done ow L _;exact⟨ow,by rw[aY];exact L,by rw[aY];rfl⟩
 | cons h hs ih =>
  intro done ow L hl
  rw[dF] at hl
  obtain⟨j,h1,h2⟩:=L.step (h:=h) hm (by omega)
  obtain⟨Rx,h3,h4⟩:=ih (done++[h]) _ h2 (by rw[aG,dJ];omega)
  rw[aP,oG] at h3 h4
  refine⟨Rx,h3,?_⟩
  rw[<-h4,List.foldl_cons]
  congr 1
  show(some (ow,done.length)>>=_)=_
  show(gH _ _ _ _ _>>=_)=_
  rw[h1,aG,dJ]
  rfl
end
section
variable {t:SetTable}{es:Array (Int×Value)}
theorem agF {α β:Type}(g:Nat->Option β):∀ (l:List (α×Nat)),(∀ p∈l,∃ b,g p.2=some b)->(l.map (·.1)).length=((l.map (·.2)).filterMap g).length/\∀ j e,(j,e)∈(l.map (·.1)).zip ((l.map (·.2)).filterMap g)->∃ i,(j,i)∈l/\g i=some e:=by
 intro l
 induction l with
 | nil=>exact λuu=>⟨rfl,λj e z=>absurd z aH⟩
 | cons p l ih =>
  intro h
  obtain⟨b,hb⟩:=h p (.head _)
  obtain⟨h1,h2⟩:=ih λq hq=>h q (.tail _ hq)
  rw[bJ,bJ,jZ hb]
  refine⟨congrArg (·+1) h1,λj e z=>?_⟩
  rw[qt] at z
  rcases aM.1 z with z | z
  ·cases z;exact⟨p.2,.head _,hb⟩
  ·obtain⟨i,h3,h4⟩:=h2 j e z
   exact⟨i,.tail _ h3,h4⟩
theorem aaR {mask i:Nat}(h:i<=mask):i+(gb mask i-i)<=mask:=by unfold gb;split <;> omega
theorem agG (t:SetTable)(h:Int)(n:Nat):sq t h n<=t.mask:=by
 have:(pr t h n).j+(pr t h n).more<=t.mask:=by
  induction n with
  | zero=>exact aaR (bU (qy _ (eU _)))
  | succ n ih =>
   unfold pr ig
   split
   ·dsimp only;omega
   ·exact aaR (bU (qy _ (eU _)))
 exact aj (aF _ _) this
theorem agH (hm:t.mask=7\/t.mask=31\/t.mask=127)(hn:es.size<=t.mask)(fg mv:Nat)(ld pl:Bool):∃ t' order,SetTable.laid t.mask fg mv ld pl (es.map (·.1))=some (t',order)/\Tb t' (order.filterMap (es[·]?)) /\
  (order.filterMap (es[·]?)).toList.Perm es.toList/\t'.mask=t.mask/\t'.led=ld/\t'.plain=pl:=by
 have L0:Ly t (nU (t.mask+1) none) []:=by
  have no:∀ j,(nU (t.mask+1) (none:Option Nat)).getD j none=none:=λj=>by
   rw[iy]
   cases e:(nU (t.mask+1) (none:Option Nat))[j]? with
   | none=>rfl
   | some x=>rw[Array.getElem?_replicate] at e;split at e <;> cases e;rfl
  refine⟨Array.size_replicate,?_,λj i hh e=>by rw[no j] at e;cases e⟩
  have:lives (t.mask+1) (nU (t.mask+1) none)=[]:=by
   apply List.eq_nil_iff_forall_not_mem.2
   rintro⟨j,i⟩ z
   have:=(Ov.1 z).2
   rw[no j] at this;cases this
  rw[this]
  exact .refl _
 obtain⟨ow,L,hf⟩:=agE hm ((es.map (·.1)).toList) [] _ L0 (by simpa using hn)
 rw[rN] at L hf
 have hc:pU t.mask (es.map (·.1))=some ow:=by
  unfold pU
  rw[<-vq]
  exact(congrArg (jY (·.1)) hf)
 have hlen:(es.map (·.1)).toList.length=es.size:=by simp
 refine⟨{ mask:=t.mask,place:=((lives (t.mask+1) ow).map (·.1)).toArray,dummies:=#[],finger:=fg,led:=ld,moves:=mv,plain:=pl },((lives (t.mask+1) ow).map (·.2)).toArray,show(pU t.mask (es.map (·.1))>>=_)=_ from ?_,?_,?_,rfl,rfl,rfl⟩
 ·rw[hc];rfl
 ·have hall:∀ p∈lives (t.mask+1) ow,∃ b,es[p.2]?=some b:=λp hp=>by
   have:=gQ.1 (L.all.mem_iff.1 (aO.2 ⟨p,hp,rfl⟩))
   rw[hlen] at this
   exact⟨_,bC this⟩
  obtain⟨h1,h2⟩:=agF (λi=>es[i]?) _ hall
  have et:(((lives (t.mask+1) ow).map (·.2)).toArray.filterMap (es[·]?)).toList=((lives (t.mask+1) ow).map (·.2)).filterMap (es[·]?):=by rw[um]
  have hp:∀ j,j<t.mask+1->CZ ow j->j∈(lives (t.mask+1) ow).map (·.1):=λj hj z=>by
   obtain⟨i,hi⟩:=(Wr (L.size▸hj)).1 z
   exact aO.2 ⟨(j,i),Ov.2 ⟨hj,hi⟩,rfl⟩
  refine⟨?_,?_,rfl,hm,λj e z=>?_⟩
  ·show((lives (t.mask+1) ow).map (·.1)).Pairwise _
   rw[dh]
   unfold lives
   rw[kI]
   refine List.pairwise_lt_range.imp λ{a b} hab p hp q hq=>?_
   obtain⟨_,_,rfl⟩:=bG.1 hp
   obtain⟨_,_,rfl⟩:=bG.1 hq
   exact hab
  ·rw[<-aq (xs:=Array.filterMap _ _),et,<-h1]
   exact Array.length_toList.symm
  ·unfold Tz at z
   rw[et] at z
   obtain⟨i,g1,g2⟩:=h2 j e z
   obtain⟨g3,g4⟩:=Ov.1 g1
   obtain⟨n,g6,g7⟩:=L.way j i e.1 g4 (show(es.map (·.1)).toList[i]?=some e.1 from by rw[aW,Array.getElem?_map,g2];rfl)
   refine⟨n,vK (JH (t:=t) (t':={ mask:=t.mask,place:=((lives (t.mask+1) ow).map (·.1)).toArray,dummies:=#[],finger:=fg,led:=ld,moves:=mv,plain:=pl }) rfl e.1 n) g6,λm hm'=>?_⟩
   rw[JH (t:=t) (t':={ mask:=t.mask,place:=((lives (t.mask+1) ow).map (·.1)).toArray,dummies:=#[],finger:=fg,led:=ld,moves:=mv,plain:=pl }) rfl]
   exact hp _ (gA (agG t e.1 m)) (g7 m hm')
 ·rw[um]
  refine(L.all.filterMap _).trans ?_
  rw[hlen,filterMap_getElem?_range]
end
end wG
end
section
open PySem PyProof.Rows PySem.Calls
namespace wF
theorem Ry:Slot "set_iterator" "__next__" "set_iterator.__next__" :=
 .of (owner := "set_iterator") (n := "__next__") (by rw[ud,pZ];kernel_rfl) (by decide +kernel) (by decide +kernel) (by decide +kernel)
  (by first | exact .inl (by decide +kernel) | exact .inr (by decide +kernel)) (by rw[nu];kernel_rfl)
theorem agI:entryFor table "set_iterator.__next__" = some Builtin.«set_iterator.__next__»:=tH (by kernel_rfl)
theorem aaS:Manifest.owners.lookup (String.ofList ['r','o','t','a','r','e','t','i','_','t','e','s'].reverse)=some Manifest.sig_set_iterator:=by kernel_rfl
theorem agJ (a:Value):argsOk "set_iterator.__next__" ⟨[a],[]⟩:=by
 skip;rw[signature?_of (id := "set_iterator.__next__") (n:=['_','_','t','x','e','n','_','_']) (o:=['r','o','t','a','r','e','t','i','_','t','e','s']) (by kernel_rfl) aaS];kernel_rfl
theorem agK:entryFor table "set.__iter__" = some Builtin.«frozenset.__iter__» :=
 entryFor_alias (id' := "frozenset.__iter__") (by kernel_rfl) rfl (by decide +kernel) (by kernel_rfl)
structure yH (h:Heap)(a:Addr)(es:Array (Int×Value))(ep:Nat)(t:SetTable):Prop where
 at_:h.get? a=some { cls:=.type "set",dict:=none,data:=.set es ep t,slots:=#[] }
 fits:t.fits es.size=true
section
variable {prog:Program}{w:World}{A:Around}{E:Value->Shared->Prop}{s:Shared}{a:Addr}{es:Array (Int×Value)}{ep:Nat}{t:SetTable}
theorem yH.type (x:yH s.heap a es ep t):s.TypeIs (.ref a) "set" := ⟨_,x.at_,rfl⟩
theorem byText {Q:Bool->Shared->Prop}(h:Q (w.params.followText "set-order") s):wpAny (model prog w) A setsByText Q E s:=by
 exact ak (tD (au h))
theorem agL {src:Source}{n:Nat}{Q:Nat->Shared->Prop}(hn:n≠0)(h:∀ i d,i<n->Q i { s with drawn:=d }):wpAny (model prog w) A (choose src n) Q E s:=λuu uu uu=>⟨hn,h _ _ (qy _ (gO hn))⟩
theorem aaT {α:Type}{l:List α}{i:Nat}(hi:i<l.length):(l[i]::l.eraseIdx i).Perm l:=by
 rw[List.eraseIdx_eq_take_drop_succ]
 refine List.perm_middle.symm.trans ?_
 rw[<-(show l=l.take i++l[i]::l.drop (i+1) from by rw[List.getElem_cons_drop,eG])]
theorem agM {α:Type}:∀ (n:Nat) (xs:List α),xs.length=n->∀ {s:Shared} {Q:List α->Shared->Prop},(∀ ys d,ys.Perm xs->Q ys { s with drawn:=d })->wpAny (model prog w) A (drawOrder n xs) Q E s:=by
 intro n
 induction n with
 | zero=>intro xs hx s Q h;exact au (h [] s.drawn (by rw[dN.1 hx]))
 | succ n ih =>
  intro xs hx s Q h
  cases xs with
  | nil=>cases hx
  | cons x r =>
  refine ak (agL (by simp) λi d hi=>?_)
  rw[(cB hi:(x::r)[i]?=some (x::r)[i])]
  refine ak (ih ((x::r).eraseIdx i) (by rw[sW hi];exact Nat.succ_sub_one n▸congrArg (·-1) hx) λys d' hp=>au (h _ d' ?_))
  exact(qR _ hp).trans (aaT hi)
theorem agN {α:Type}(next:Nat->Nat):∀ (n k:Nat) (left:List α) (out:Array α),left.length=n->(pickOrder.go next n k left out).toList.Perm (out.toList++left):=by
 intro n
 induction n with
 | zero=>intro k left out hl;rw[dN.1 hl,aY];exact lU _
 | succ n ih =>
  intro k left out hl
  have hi:next k%left.length<left.length:=qy _ (by rw[hl];exact eU n)
  have e:pickOrder.go next (n+1) k left out=pickOrder.go.match_1 (λuu=>Array α) left[next k%left.length]? (λx=>pickOrder.go next n (k+1) (left.eraseIdx (next k%left.length)) (out.push x)) λuu=>out:=rfl
  rw[e,cB hi]
  refine(ih (k+1) _ _ (by rw[sW hi,hl];rfl)).trans ?_
  rw[dO,aP]
  exact jt _ (aaT hi)
theorem aaU {α:Type}(next:Nat->Nat)(xs:Array α):(pickOrder next xs).toList.Perm xs.toList:=agN next xs.size 0 xs.toList #[] (aq ..)
end
section
variable {prog:Program}{w:World}{A:Around}{E:Value->Shared->Prop}{s:Shared}{a I tp:Addr}{es:Array (Int×Value)}{ep:Nat}{t:SetTable}{ord:List Value}
structure Rz (w:World)(es:Array (Int×Value))(t:SetTable):Prop where
 led:w.params.followText "set-order" = false->t.led=true
 plain:w.params.followText "set-order" = false->t.plain=false\/es.size<=1
 size:es.size<=sizeLine
noncomputable def DY (first:Value)(a:Addr)(i n ep:Nat):Obj:={ cls:=.type "set_iterator",data:=.fields #[first,.int i 0,.ref a,.int n 0,.int ep 0] }
inductive Bq (w:World)(h:Heap)(I a tp:Addr)(es:Array (Int×Value))(ep:Nat)(t:SetTable)(i:Nat):List Value->Prop where
 | text:w.params.followText "set-order" = true->h.get? I=some (DY (.int 0 0) a i es.size ep)->Bq w h I a tp es ep t i ((pickOrder (w.params.setOrder a ep) es).toList.map (·.2))
 | drawn (ps:List Nat):w.params.followText "set-order" = false->ps.Perm (dw es.size)->h.get? tp=some { cls:=.type "tuple",data:=.seq (ps.map λ(j:Nat)=>cL j 0).toArray } ->
   h.get? I=some (DY (.ref tp) a i es.size ep)->Bq w h I a tp es ep t i (ps.map λj=>(es.getD j (0,.none)).2)
 | one (slot:Nat):w.params.followText "set-order" = false->t.led=true->es.size<=1->dI t.place slot=i->h.get? I=some (DY (.int slot 0) a i es.size ep)->Bq w h I a tp es ep t i (es.toList.map (·.2))
theorem Bq.perm {i:Nat}{h:Heap}(x:Bq w h I a tp es ep t i ord):ord.Perm (es.toList.map (·.2)):=by
 cases x with
 | text=>exact(aaU _ es).map _
 | drawn ps _ hp =>
  refine(hp.map _).trans (List.Perm.of_eq ?_)
  apply List.ext_getElem
  ·simp
  ·intro j h1 h2
   have:j<es.size:=by simpa using h1
   simp [qm,this]
 | one=>exact lU _
theorem Ea {Q:(Array (Int×Value)×Nat×SetTable)->Shared->Prop}(x:yH s.heap a es ep t)(h:Q (es,ep,t) s):wpAny (model prog w) A (setState a) Q E s:=wpAny_setState_of x.at_ rfl x.fits h
theorem aaV {Q:Array (Int×Value)->Shared->Prop}(x:yH s.heap a es ep t)(h:Q es s):wpAny (model prog w) A (setEntries a) Q E s:=by
 exact ak (Ea x (au h))
theorem agO {Q:Bool->Shared->Prop}(x:yH s.heap a es ep t)(h:Q (!(w.params.followText "set-order")&&(!t.plain&&decide (es.size>1))) s):wpAny (model prog w) A (setDrawn a) Q E s:=by
 exact ak (Ea x (ak (byText (au h))))
theorem yH.push {h:Heap}(x:yH h a es ep t)(o:Obj):yH (h.push o) a es ep t:=⟨aJ _ x.at_,x.fits⟩
theorem agP (xs:Array Nat):dI xs 0=0:=by
 have go:∀ f hi,jf xs 0 f 0 hi=0:=by
  intro f
  induction f with
  | zero=>intro hi;rfl
  | succ f ih =>
   intro hi
   unfold jf
   split
   ·skip;exact ih _
   ·rfl
 exact go _ _
theorem agQ {xs:Array Nat}(h:xs.size=1){j:Nat}(hj:xs[0]?=some j):dI xs (j+1)=1:=by
 unfold dI
 rw[h]
 unfold jf
 dsimp only
 have:xs.getD ((0+1)/2) (j+1)=j:=by
  rw[iy,hj];rfl
 rw[this,if_pos (bV j)]
 rfl
theorem agR {Q:Value->Shared->Prop}(x:yH s.heap a es ep t)(ok:Rz w es t)
  (h:∀ (I tp:Addr) (h':Heap) (d:Drawn) (ord:List Value),(∀ b o,s.heap.get? b=some o->h'.get? b=some o)->s.heap.objs.size<=I->(s.heap.objs.size<=tp\/tp=a)->tp≠I->Bq w h' I a tp es ep t 0 ord->Q (.ref I) { s with heap:=h',drawn:=d }) :
  wpAny (model prog w) A (pyIter (.ref a)) Q E s:=by
 have hT:=x.type
 have lt:a<s.heap.objs.size:=bM x.at_
 refine rQ hT F.slot_set_iter (fL F.slot_set_iter hT agK ?_ (F.args_set_iter_1 _))
 unfold Builtin.«frozenset.__iter__» Builtin.Frozenset.slot0 slotArgs
 simp only[List.isEmpty_nil,Bool.not_true,qw,↓reduceIte,uF,List.length_nil,bne_self_eq_false]
 refine ak (au (ak (au ?_)))
 refine ak (ak (aaV x (au ?_)))
 refine ak (agO x ?_)
 have fin:∀ (first:Value) (s':Shared),yH s'.heap a es ep t->(Q (.ref s'.heap.objs.size) { s' with heap:=s'.heap.push (DY first a 0 es.size ep) }) ->
   wpAny (model prog w) A.in1 (do let ep<-setEpoch a;let r<-newFields "set_iterator" [first,rawInt 0,.ref a,rawInt es.size,rawInt ep];ret r) (λfin s'=>∃ v,fin=.done (.ret v)/\∃ T' r,s'.TypeIs v T'/\typeLookup (.type T') "__next__" = pure (some r)/\Q v s') E s':=λfirst s' x' q=>by
  refine ak ?_
  refine ak (Ea x' (au ?_))
  refine ak (gD (au ⟨_,rfl,"set_iterator",_,⟨_,aV _ rfl,rfl⟩,Ry.lookup,q⟩))
 cases hb:w.params.followText "set-order" with
 | true =>
  refine ak (au (fin _ s x ?_))
  exact h _ a _ s.drawn _ (λb o e=>aJ _ e) (aD _) (.inr rfl) (bQ lt) (.text hb (aV _ rfl))
 | false =>
  cases hd:(!t.plain&&decide (es.size>1)) with
  | true =>
   refine ak (agM es.size (dw es.size) (eN ..) λps d hp=>?_)
   refine ak (nq ?_ (show(ps.map λ(i:Nat)=>rawInt i).length<=sizeLine from by rw[aA,hp.length_eq,eN];exact ok.size))
   have x':yH (s.heap.push { cls:=.type "tuple",data:=.seq (ps.map λ(j:Nat)=>cL j 0).toArray }) a es ep t:=x.push _
   refine fin _ { s with heap:=s.heap.push { cls:=.type "tuple",data:=.seq (ps.map λ(j:Nat)=>cL j 0).toArray },drawn:=d } x' ?_
   refine h _ s.heap.objs.size _ d _ (λb o e=>aJ _ (aJ _ e)) (by rw[jJ];exact dX _) (.inl (aD _)) (by rw[jJ];exact bQ (bV _)) (.drawn ps hb hp (aJ _ (aV _ rfl)) (aV _ rfl))
  | false =>
   refine ak (au (fin _ s x ?_))
   have h1:es.size<=1:=by
    rcases ok.plain hb with z | z
    ·rw[z] at hd
     simpa using hd
    ·exact z
   refine h _ a _ s.drawn _ (λb o e=>aJ _ e) (aD _) (.inr rfl) (bQ lt) (.one 0 hb (ok.led hb) h1 (agP _) (aV _ rfl))
theorem aaW {i:Nat}{Q:Option (Value×Nat)->Shared->Prop}{slot:Nat}(x:yH s.heap a es ep t)(hb:w.params.followText "set-order" = true)(h:Q ((((pickOrder (w.params.setOrder a ep) es))[i]?).map λe=>(e.2,slot)) s):wpAny (model prog w) A (setNext a slot i ep) Q E s:=by
 refine ak (Ea x (ak (byText ?_)))
 rw[hb]
 rw[if_pos rfl,if_neg (by simp)]
 refine ak ?_
 refine ak (Ea x (ak (byText ?_)))
 rw[hb]
 exact ak (tD (au (au h)))
theorem aaX {Q:Option (Value×Nat)->Shared->Prop}{slot g:Nat}(x:yH s.heap a es ep t)(hb:w.params.followText "set-order" = false)(hl:t.led=true)(h1:es.size<=1)
  (h:Q (match es[dI t.place slot]?,t.place[dI t.place slot]? with | some (_,x),some j=>some (x,j+1) | _,_=>none) s):wpAny (model prog w) A (setNext a slot g ep) Q E s:=by
 unfold setNext
 refine ak (Ea x (ak (byText ?_)))
 rw[hb]
 have hd:(!t.plain&&decide (es.size>1))=false:=by rw[decide_eq_false (iZ.2 h1),Bool.and_false]
 show wpAny (model prog w) A (if(!t.plain&&decide (es.size>1))=true then _ else _) Q E s
 rw[hd]
 show wpAny (model prog w) A ((if(!t.led&&!es.isEmpty)=true then _ else _)>>=_) Q E s
 rw[hl]
 exact ak (au (au h))
theorem agS {Q:Value->Shared->Prop}{p:Nat}{e:Int×Value}(x:yH s.heap a es ep t)(he:es[p]?=some e)(h:Q e.2 s):wpAny (model prog w) A (setNextDrawn a p ep) Q E s:=by
 unfold setNextDrawn
 refine ak (Ea x ?_)
 dsimp only
 rw[if_neg (by simp),he]
 exact au h
end
section
variable {prog:Program}{w:World}{A:Around}{E:Value->Shared->Prop}{s:Shared}{a I tp:Addr}{es:Array (Int×Value)}{ep:Nat}{t:SetTable}{ord:List Value}
theorem aaY {first:Value}{i n:Nat}(hi:s.heap.get? I=some (DY first a i n ep)):s.TypeIs (.ref I) "set_iterator" := ⟨_,hi,rfl⟩
theorem Lh {first:Value}{i n:Nat}{Q:Option Value->Shared->Prop}(hi:s.heap.get? I=some (DY first a i n ep))(x:yH s.heap a es ep t)(hn:n=es.size)
  (h:wpAny (model prog w) A.in1 (if let .int slot _:=first then
   (do match<-setNext a slot.toNat (i:Int).toNat (ep:Int).toNat with
    | some (x,next)=>do setField (.ref I) 0 (rawInt next);setField (.ref I) 1 (rawInt ((i:Int)+1));ret x
    | none=>do setField (.ref I) 2 .none;raiseNew (<-newExc (.type "StopIteration") []))
   else
    (do
      let some places<-seqItems? first | unsupported "internal:set_iterator"
      match places[(i:Int).toNat]? with
      | some (.int place _)=>do
       let x<-setNextDrawn a place.toNat (ep:Int).toNat
       setField (.ref I) 1 (rawInt ((i:Int)+1))
       ret x
      | some _=>unsupported "internal:set_iterator"
      | none=>do setField (.ref I) 0 (rawInt 0);setField (.ref I) 2 .none;raiseNew (<-newExc (.type "StopIteration") [])))
   (λfin s'=>∃ v,fin=.done (.ret v)/\Q (some v) s') (λe s'=>wpAny (model prog w) A (do if<-isInstance e (.type "StopIteration") then pure none else throw e) Q E s') s):wpAny (model prog w) A (pyNext (.ref I)) Q E s:=by
 subst hn
 refine ak (mq (oX (name:=eO "__next__") (aaY hi) Ry
  (fL Ry (aaY hi) agI ?_ (agJ _))))
 refine bT (Q:=λfin s'=>∃ v,fin=.done (.ret v)/\Q (some v) s') (E:=λe s'=>wpAny (model prog w) A (do if<-isInstance e (.type "StopIteration") then pure none else throw e) Q E s') ?_ (λfin s' z=>?_) λe s' z=>z
 ·refine ak (qx (a:=(.ref I,[])) rfl ?_)
  refine ak (uw hi rfl ?_)
  refine ak (aaV x ?_)
  refine cast (congrArg (λm=>wpAny (model prog w) A.in1 m _ _ s) (if_neg (by rw[bne_iff_ne];exact λz=>z rfl))).symm h
 ·obtain⟨v,rfl,q⟩:=z
  exact⟨v,rfl,au q⟩
theorem aaZ {first f':Value}{i n:Nat}{Q:Unit->Shared->Prop}(hi:s.heap.get? I=some (DY first a i n ep))(h:∀ h',h'.get? I=some (DY f' a (i+1) n ep)->iB I s.heap h'->Q () { s with heap:=h' }) :
  wpAny (model prog w) A (do setField (.ref I) 0 f';setField (.ref I) 1 (rawInt ((i:Int)+1))) Q E s:=by
 refine ak (ju hi rfl (by simp [DY]) ?_)
 have h1:=dB (j6 (·.setIfInBounds 0 f')) hi rfl
 refine ju h1 rfl (by simp [DY]) ?_
 exact h _ (dB (j6 (·.setIfInBounds 1 (rawInt ((i:Int)+1)))) h1 rfl) ((dZ ..).trans (dZ ..))
theorem agT {first:Value}{i n:Nat}{Q:Unit->Shared->Prop}(hi:s.heap.get? I=some (DY first a i n ep))(h:∀ h',h'.get? I=some (DY first a (i+1) n ep)->iB I s.heap h'->Q () { s with heap:=h' }) :
  wpAny (model prog w) A (setField (.ref I) 1 (rawInt ((i:Int)+1))) Q E s:=by
 refine ju hi rfl (by simp [DY]) ?_
 exact h _ (dB (j6 (·.setIfInBounds 1 (rawInt ((i:Int)+1)))) hi rfl) (dZ ..)
theorem Ws {Q:Option Value->Shared->Prop}(hh:A.handled=none)(h:∀ h',(∀ b o,s.heap.get? b=some o->h'.get? b=some o)->Q none { s with heap:=h' }){P:j8->Shared->Prop} :
  wpAny (model prog w) A.in1 (do raiseNew (<-newExc (.type "StopIteration") [])) P (λe s'=>wpAny (model prog w) A (do if<-isInstance e (.type "StopIteration") then pure none else throw e) Q E s') s:=by
 refine ak ?_
 refine ak (gD ?_ (by size_fits))
 refine ak (m:=firstArgMember _ _) (qx (a:=j5) (by first | rfl | (simp only[firstArgMember];rfl)) ?_)
 refine gD ?_ (by size_fits)
 refine ak (wpAny_handled ?_)
 rw[show A.in1.handled=none from hh]
 refine ak (au (wpAny_throw ?_))
 refine ak (lY (T := "StopIteration") (b:=true) ⟨_,aV _ rfl,rfl⟩ isSubtype_stop ?_)
 exact au (h _ λb o e=>aJ _ (aJ _ e))
theorem Bq.lt {i:Nat}{h:Heap}(x:Bq w h I a tp es ep t i ord):ord.length=es.size:=by rw[x.perm.length_eq,aA,aq]
theorem yH.same {h h':Heap}(x:yH h a es ep t)(sb:iB I h h')(hne:a≠I):yH h' a es ep t:=⟨(sb.2 a hne).trans x.at_,x.fits⟩
theorem next_item {i:Nat}{Q:Option Value->Shared->Prop}(x:yH s.heap a es ep t)(it:Bq w s.heap I a tp es ep t i ord)(ha:a≠I)(ht:tp≠I)(hi:i<ord.length)
  (h:∀ v h',ord[i]?=some v->Bq w h' I a tp es ep t (i+1) ord->iB I s.heap h'->Q (some v) { s with heap:=h' }):wpAny (model prog w) A (pyNext (.ref I)) Q E s:=by
 have hi2:i<es.size:=(it.lt)▸hi
 cases it with
 | text hb e =>
  refine Lh e x rfl ?_
  dsimp only
  rw[cG,cG]
  refine ak (aaW x hb ?_)
  have hz:i<(pickOrder (w.params.setOrder a ep) es).size:=by rw[aA,aq] at hi;exact hi
  rw[bC hz]
  dsimp only[jY]
  rw[<-uF]
  refine ak (aaZ (f':=.int 0 0) e λh' e' sb=>au ⟨_,rfl,?_⟩)
  refine h _ h' ?_ (.text hb e') sb
  rw[cD,aW,bC hz];rfl
 | drawn ps hb hp et e =>
  have hl:i<ps.length:=by rw[aA] at hi;exact hi
  have hm:ps[i]<es.size:=by
   have:=hp.mem_iff.1 (jP hl)
   exact gQ.1 this
  refine Lh e x rfl ?_
  refine ak (ak (ur et (au ?_)))
  dsimp only
  rw[cG,cG,uM,cD,cB hl]
  dsimp only[jY]
  rw[cG]
  refine ak (agS x (bC hm) ?_)
  refine ak (agT e λh' e' sb=>au ⟨_,rfl,?_⟩)
  refine h _ h' ?_ (.drawn ps hb hp ((sb.2 tp ht).trans et) e') sb
  rw[cD,cB hl]
  simp [qm,hm]
 | one slot hb hl h1 Li e =>
  have hs:es.size=1:=cM h1 (aK (bL _) hi2)
  have h0:i=0:=Nat.lt_one_iff.1 (hs▸hi2)
  subst h0
  have hp:t.place.size=1:=by
   have:=x.fits
   simp only[vO,Bool.and_eq_true,beq_iff_eq] at this
   rw[this.1,hs]
  refine Lh e x rfl ?_
  refine ak (aaX (slot:=slot) x hb hl h1 ?_)
  have p0:t.place[0]?=some t.place[0]:=bC _
  rw[Li,bC (by rw[hs];decide:0<es.size),p0]
  dsimp only
  rw[<-uF]
  refine ak (aaZ (f':=rawInt ((t.place[0]+1:Nat):Int)) e λh' e' sb=>au ⟨_,rfl,?_⟩)
  refine h _ h' ?_ (.one (t.place[0]+1) hb hl h1 (agQ hp p0) e') sb
  rw[cD,aW,bC (by rw[hs];decide:0<es.size)];rfl
end
end wF
end
section
open PySem PyProof.Rows PySem.Calls PySem.W
namespace wF
section
variable {prog:Program}{w:World}{A:Around}{E:Value->Shared->Prop}{s:Shared}{a I tp:Addr}{es:Array (Int×Value)}{ep:Nat}{t:SetTable}{ord:List Value}
theorem RB {k:Nat}{v:Value}{vs:Array Value}{Q:Unit->Shared->Prop}(e:s.heap.get? I=some { cls:=.type "set_iterator",data:=.fields vs })(hv:vs.size=5)(hk:k<5)(q:∀ h' vs',h'.get? I=some { cls:=.type "set_iterator",data:=.fields vs' }->vs'.size=5->iB I s.heap h'->Q () { s with heap:=h' }) :
  wpAny (model prog w) A (setField (.ref I) k v) Q E s :=
 ju e rfl (by rw[hv];exact hk) (q _ _ (dB (j6 (·.setIfInBounds k v)) e rfl) (by rw[jX];exact hv) (dZ ..))
theorem next_end {Q:Option Value->Shared->Prop}(hh:A.handled=none)(x:yH s.heap a es ep t)(it:Bq w s.heap I a tp es ep t ord.length ord)(h:∀ h',Heap.ExtBut I s.heap h'->Q none { s with heap:=h' }):wpAny (model prog w) A (pyNext (.ref I)) Q E s:=by
 have hlt:=it.lt
 generalize hn:ord.length=n at it hlt
 subst hlt
 cases it with
 | text hb e =>
  refine Lh e x rfl ?_
  dsimp only
  rw[cG,cG]
  refine ak (aaW x hb ?_)
  rw[iw (show(pickOrder (w.params.setOrder a ep) es).size<=es.size from by rw[<-aq,(aaU _ es).length_eq,aq];exact aD _)]
  refine ak (RB e rfl (by decide) λh1 uu uu uu sb=>Ws (s:={ s with heap:=h1 }) hh λh' k=>h h' λb o hb e=>k b o ((sb.2 b hb).trans e))
 | drawn ps hb hp et e =>
  refine Lh e x rfl ?_
  refine ak (ak (ur et (au ?_)))
  dsimp only
  have hl:ps.length=es.size:=by rw[hp.length_eq,eN]
  rw[cG,uM,cD,oM (by rw[hl];exact aD _)]
  refine ak (RB e rfl (by decide) λh1 uu e1 hv sb=>ak (RB e1 hv (by decide) λh2 uu uu uu sb2=>Ws (s:={ s with heap:=h2 }) hh λh' k=>h h' λb o hb e=>k b o ((sb2.2 b hb).trans ((sb.2 b hb).trans e))))
 | one slot hb hl h1 Li e =>
  refine Lh e x rfl ?_
  refine ak (aaX (slot:=slot) x hb hl h1 ?_)
  rw[Li,(iw (aD _):es[es.size]?=none)]
  refine ak (RB e rfl (by decide) λh1 uu uu uu sb=>Ws (s:={ s with heap:=h1 }) hh λh' k=>h h' λb o hb e=>k b o ((sb.2 b hb).trans e))
theorem Bq.at_ {h h':Heap}{i:Nat}(it:Bq w h I a tp es ep t i ord)(k1:∀ o,h.get? I=some o->h'.get? I=some o)(k2:∀ o,h.get? tp=some o->h'.get? tp=some o):Bq w h' I a tp es ep t i ord:=by
 cases it with
 | text hb e=>exact .text hb (k1 _ e)
 | drawn ps hb hp et e=>exact .drawn ps hb hp (k2 _ et) (k1 _ e)
 | one slot hb hl h1 Li e=>exact .one slot hb hl h1 Li (k1 _ e)
theorem aa0:Slot "set_iterator" "__iter__" "set_iterator.__iter__" :=
 .of (owner := "set_iterator") (n := "__iter__") (by rw[ud,pZ];kernel_rfl) (by decide +kernel) (by decide +kernel) (by decide +kernel)
  (by first | exact .inl (by decide +kernel) | exact .inr (by decide +kernel)) (by rw[nu];kernel_rfl)
theorem agU:entryFor table "set_iterator.__iter__" = some Builtin.«dict_keyiterator.__iter__» :=
 entryFor_alias (id' := "dict_keyiterator.__iter__") (by kernel_rfl) rfl (by decide +kernel) (by kernel_rfl)
theorem agV (a:Value):argsOk "set_iterator.__iter__" ⟨[a],[]⟩:=by
 skip;rw[signature?_of (id := "set_iterator.__iter__") (n:=['_','_','r','e','t','i','_','_']) (o:=['r','o','t','a','r','e','t','i','_','t','e','s']) (by kernel_rfl) aaS];kernel_rfl
theorem Bq.type {i:Nat}(it:Bq w s.heap I a tp es ep t i ord):s.TypeIs (.ref I) "set_iterator" := by
 cases it with
 | text hb e=>exact⟨_,e,rfl⟩
 | drawn ps hb hp et e=>exact⟨_,e,rfl⟩
 | one slot hb hl h1 Li e=>exact⟨_,e,rfl⟩
theorem agW (hh:A.handled=none)(ha:a≠I)(ht:tp≠I):Walks prog w A I [I,a,tp] [I] ord.length (λi v=>ord[i]?=some v) (λi h=>yH h a es ep t/\Bq w h I a tp es ep t i ord) where
 sub:=λb hb=>by rw[aC.1 hb];exact .head _
 frame:=λuu uu uu st hk=>⟨⟨hk a (.tail _ (.head _)) _ st.1.at_,st.1.fits⟩,st.2.at_ (λo e=>hk I (.head _) o e) λo e=>hk tp (.tail _ (.tail _ (.head _))) o e⟩
 item:=λi s Q E hi st hQ=>next_item st.1 st.2 ha ht hi λv h' hv it' sb=>hQ v h' s.toks hv ⟨st.1.same sb ha,it'⟩ λb o hb e=>(sb.2 b λz=>hb (by rw[z];exact .head _)).trans e
 done:=λs Q E st hQ=>next_end hh st.1 st.2 λh' x=>hQ h' s.toks λb o hb e=>x b o (λz=>hb (by rw[z];exact .head _)) e
 self:=λuu s uu uu st hQ=>by
  refine rQ st.2.type aa0 (fL aa0 st.2.type agU ?_ (agV _))
  exact au ⟨_,rfl,"set_iterator",_,st.2.type,Ry.lookup,hQ⟩
theorem agX {Q:Bool->Shared->Prop}{r:Addr}(hT:s.TypeIs (.ref r) "set")(h:Q false s):wpAny (model prog w) A (ql (.ref r)) Q E s:=by
 unfold ql
 refine ak (wpAny_specialOf hT PySem.F.slot_set_len.lookup ?_)
 generalize hid:("set.__len__" : String)=id0
 wp_delta
 rw[show splitId id0=some ("set","__len__") from by subst hid;decide +kernel]
 subst hid
 refine ak (lY (T := "set") (b:=true) hT (by rw[nu];kernel_rfl) ?_)
 refine kW (λhab=>absurd hab (by decide)) (λuu=>?_)
 refine kW (λuu=>?_) (λhab=>absurd (by decide +kernel) hab)
 refine ak (pH hT ?_)
 exact au h
end
section
variable {prog:Program}{w:World}{A:Around}{E:Value->Shared->Prop}{s:Shared}{a I tp:Addr}{es:Array (Int×Value)}{ep:Nat}{t:SetTable}{ord:List Value}
theorem Wt {acc:Array Value}(h:ItemsOf (λi v=>ord[i]?=some v) acc ord.length):acc.toList=ord:=by
 apply v8
 intro i
 rw[aW]
 rcases cW i acc.size with z | z
 ·rw[h.2 i _ (bC z),bC z]
 ·rw[iw z,oM (by rw[<-h.1];exact z)]
theorem agY {R:Result->Shared->Prop}(hh:A.handled=none)(x:yH s.heap a es ep t)(ok:Rz w es t)(S:Addr)(Wu:S≠a)(res:Value)(c₀:Nat)(hS:s.heap.get? S=some { cls:=.type "list",data:=.seq #[] c₀ })
  (hR:∀ h' tk d acc' c',(∀ b o,b≠S->s.heap.get? b=some o->h'.get? b=some o)->h'.get? S=some { cls:=.type "list",dict:=none,data:=.seq acc' c',slots:=#[] }->acc'.toList.Perm (es.toList.map (·.2))->R (.ok (.ret res)) { s with heap:=h',toks:=tk,drawn:=d }) :
  wpAny (model prog w) A.in1 (Builtin.List.listExtendWith (.ref S) (.ref a) res)
   (λfin s'=>match fin with | .done f=>R (.ok f) s' | .again c'=>c'.quiet=true/\codeAny (model prog w) A c' R s') (λe s'=>R (.error e) s') s:=by
 have hlS:=bM hS
 refine ak (pH (T := "set") x.type ?_)
 have h1:qH (.ref S) (.ref a)=false:=by simp [qH,Wu]
 simp only[h1,show(mJ "set" == mJ "list")=false by decide,show(mJ "set" == mJ "tuple")=false by decide,Bool.or_false,qw,if_false]
 refine ak (agR x ok λI tp h1 d ord k1 hI htp hne it=>?_)
 have hSt:S≠tp:=by
  rcases htp with z | z
  ·exact bQ (aB hlS z)
  ·rw[z];exact Wu
 have x1:yH h1 a es ep t:=⟨k1 _ _ x.at_,x.fits⟩
 have hSf:S∉[I,a,tp]:=λz=>by
  rcases aM.1 z with z | z
  ·exact(bQ (aB hlS hI):S≠I) z
  rcases aM.1 z with z | z
  ·exact Wu z
  ·exact hSt (aC.1 z)
 have W:Walks prog w A.in1 I [I,a,tp] [I] ord.length (λi v=>ord[i]?=some v) (λi h=>yH h a es ep t/\Bq w h I a tp es ep t i ord):=agW hh (bQ (aB (bM x.at_) hI):a≠I) hne
 have key:∀ (h:Heap) (c₁:Nat),(yH h a es ep t/\Bq w h I a tp es ep t 0 ord)->(∀ b o,b≠S->s.heap.get? b=some o->h.get? b=some o) ->
   h.get? S=some { cls:=.type "list",data:=.seq #[] c₁ }->codeAny (model prog w) A (.builtin "list.extend.loop" ⟨[.ref S,.ref I,res],[]⟩) R { s with heap:=h,drawn:=d }:=by
  intro h c₁ hst hk hS₁
  refine codeAny_extend_loopS W.toS (show ord.length<=sizeLine from by rw[it.lt];exact ok.size) S hSf res ord.length 0 _ #[] c₁ rfl (bL _) hst hS₁ (ItemsOf.nil _) λs' acc' c' hm hS' hacc=>?_
  rw[Moved.eq_with hm]
  refine hR s'.heap s'.toks d acc' c' (λb o hb e=>hm.heap b o (λhmem=>?_) (hk b o hb e)) hS' ((Wt hacc).symm▸it.perm)
  rcases List.mem_cons.mp hmem with e' | hmem
  ·exact hb e'
  ·exact absurd (bM e) (by rw[List.mem_singleton.mp hmem];exact iZ.2 hI)
 have hS₁:=k1 _ _ hS
 refine ak (bW (agX ⟨_,x1.at_,rfl⟩ ?_))
 refine kW (λuu=>?_) (λuu=>au ⟨jm rJ _,key _ c₀ ⟨x1,it⟩ (λb o uu e=>k1 b o e) hS₁⟩)
 refine ak (gU ?_)
 refine ak ?_
 refine ak (pN hS₁ rfl ?_)
 have hS₂:=dB (cT (·.push j5)) hS₁ rfl
 refine pN (hz:=by seq_fits) hS₂ rfl ?_
 refine au ⟨jm rJ _,key _ _ ?_ (λb o hb e=>?_) (dB (cT (·.pop)) hS₂ rfl)⟩
 ·refine W.frame 0 _ _ ⟨x1,it⟩ λb hb o e=>?_
  have hbS:b≠S:=λh=>hSf (h▸hb)
  exact(bF _ _ (cH hbS)).trans ((bF _ _ (cH hbS)).trans e)
 ·exact(bF _ _ (cH hb)).trans ((bF _ _ (cH hb)).trans (k1 b o e))
theorem agZ {R:List Value->Shared->Prop}(hh:A.handled=none)(x:yH s.heap a es ep t)(ok:Rz w es t)
  (h:∀ (h':Heap) (tk:Nat) (d:Drawn) (vs:List Value),(∀ b o,s.heap.get? b=some o->h'.get? b=some o)->vs.Perm (es.toList.map (·.2))->R vs { s with heap:=h',toks:=tk,drawn:=d }) :
  wpAny (model prog w) A (collect (.ref a)) R E s:=by
 refine ak (wpAny_runValue (gJ entry_proto_collect' ?_))
 rw[fj PySem.F.plain_proto_collect _]
 refine ak (gD ?_)
 refine au ⟨jm sO _,gJ entry_list_iadd' ?_⟩
 rw[fj sO _]
 have hS₁:(s.heap.push { cls:=.type "list",data:=.seq ([]:List Value).toArray }).get? s.heap.objs.size=some { cls:=.type "list",data:=.seq #[] }:=aV _ rfl
 have key:=agY (prog:=prog) (A:=A) (s:={ s with heap:=s.heap.push { cls:=.type "list",data:=.seq ([]:List Value).toArray } })
  (R:=λ(q:Result) (s':Shared)=>∃ (h':Heap) (tk:Nat) (d:Drawn) (acc':Array Value) (c':Nat),q=.ok (.ret (.ref s.heap.objs.size))/\s'={ s with heap:=h',toks:=tk,drawn:=d } /\
   (∀ b o,s.heap.get? b=some o->h'.get? b=some o)/\h'.get? s.heap.objs.size=some { cls:=.type "list",dict:=none,data:=.seq acc' c',slots:=#[] }/\acc'.toList.Perm (es.toList.map (·.2)))
  hh (x.push _) ok s.heap.objs.size (lB (bM x.at_)) (.ref s.heap.objs.size) 0 hS₁
  (λh' tk d acc' c' hk hS' hacc=>⟨h',tk,d,acc',c',rfl,rfl,λb o e=>hk b o (bQ (bM e)) (aJ _ e),hS',hacc⟩)
 refine bT key (λfin s' x=>?_) λe s' x=>?_
 ·cases fin with
  | done f =>
   obtain⟨h',tk,d,acc',c',e,rfl,hk,hS',hacc⟩:=x
   cases e
   refine ak (ur hS' ?_)
   exact au (h h' tk d _ hk hacc)
  | again c₁ =>
   refine⟨x.1,j4 x.2 λq s₂ y=>?_⟩
   obtain⟨h',tk,d,acc',c',rfl,rfl,hk,hS',hacc⟩:=y
   refine ak (ur hS' ?_)
   exact au (h h' tk d _ hk hacc)
 ·obtain⟨_,_,_,_,_,e',_⟩:=x
  cases e'
theorem ag0 {Q:Value->Shared->Prop}(hh:A.handled=none)(x:yH s.heap a es ep t)(ok:Rz w es t)
  (h:∀ (D:Addr) (h':Heap) (tk:Nat) (d:Drawn) (vs:List Value),(∀ b o,s.heap.get? b=some o->h'.get? b=some o)->s.heap.get? D=none->h'.get? D=some (seqObj "list" vs.toArray 0)->vs.Perm (es.toList.map (·.2)) ->
   wpAny (model prog w) A.in1 (call (.builtin "list.sort") [.ref D]) (λuu s'=>Q (.ref D) s') E { s with heap:=h',toks:=tk,drawn:=d }) :
  wpAny (model prog w) A (call (.builtin "sorted") [.ref a]) Q E s:=by
 refine call_function_entry kind_sorted plain_sorted entry_sorted (args_sorted1 _) ?_
 refine ak (m:=checkCount "sorted" 1 1 _) (au ?_)
 refine ak (agZ (A:=A.in1) hh x ok λh' tk d vs hk hp=>?_)
 refine ak (nW ?_ (show vs.length<=sizeLine from by rw[hp.length_eq,aA,aq];exact ok.size))
 have hg:=h h'.objs.size (h'.push { cls:=.type "list",data:=.seq vs.toArray }) tk d vs (λb o e=>aJ _ (hk b o e)) ?_ (aV _ rfl) hp
 ·refine ak (bW (bT hg (λuu s' x=>?_) λuu uu e=>e))
  exact au ⟨_,rfl,x⟩
 ·cases e:s.heap.get? h'.objs.size with
  | none=>rfl
  | some o=>exact absurd (bM (hk _ _ e)) (gj _)
end
theorem ag1 (t:SetTable)(n:Nat):(t.orStandIn n).led=t.led:=by unfold SetTable.orStandIn;split <;> rfl
theorem ag2 (t:SetTable)(es:Array (Int×Value))(h:Int)(x:Value):(layNew t es h x).2.1.led=t.led:=by
 unfold layNew
 split
 ·exact ag1 _ _
 ·rfl
set_option tactic.hygienic true in
theorem ag3 (t:SetTable)(es:Array (Int×Value))(n:Nat):(relayAll t es n).2.1.led=t.led/\(t.plain=false->(relayAll t es n).2.1.plain=false):=by
 unfold relayAll
 split
 ·rename_i t' order e
  have:t'.led=t.led/\t'.plain=t.plain:=by
   obtain⟨o,_,e⟩:=je.1 e
   cases e
   exact⟨rfl,rfl⟩
  dsimp only
  split
  ·exact⟨this.1,λz=>this.2.trans z⟩
  ·exact⟨rfl,λuu=>rfl⟩
 ·exact⟨rfl,λuu=>rfl⟩
section
variable {prog:Program}{w:World}{A:Around}{E:Value->Shared->Prop}{s:Shared}{a:Addr}{es:Array (Int×Value)}{ep:Nat}{t:SetTable}
theorem RD {h:Heap}(x:yH h a es ep t)(es':Array (Int×Value))(t':SetTable)(hf:t'.fits es'.size=true):yH (h.update a (tL es' t')) a es' (ep+1) t' :=
 ⟨dB (tL es' t') x.at_ rfl,hf⟩
theorem aa1 {g:Bool->Sem Unit}(hg:∀ (b:Bool) (s₁:Shared) (Q':Unit->Shared->Prop),Q' () s₁->wpAny (model prog w) A (g b) Q' E s₁)(x:yH s.heap a es ep t){es1:Array (Int×Value)}{t2:SetTable}(hb1:es1.size<scanBound)(hf2:t2.fits es1.size=true)(hp2:t2.plain=false){wasDummy:Bool}{R:Option Bool->Shared->Prop}
  (h:∀ h' es' ep' t',iB a s.heap h'->yH h' a es' ep' t'->es'.toList.Perm es1.toList->t'.led=t2.led->t'.plain=false->R (some true) { s with heap:=h' }) :
  wpAny (model prog w) A (do
    storeSet a es1 t2
    if(!wasDummy&&t2.tooFull)=true then do
      g (relayAll t2 es1 (gK es1.size)).2.2
      storeSet a (relayAll t2 es1 (gK es1.size)).1 (relayAll t2 es1 (gK es1.size)).2.1
      pure (some true)
     else pure (some true)) R E s:=by
 refine ak (nP x.at_ rfl ?_ (fits_of_scanBound hb1))
 have x1:=RD x es1 t2 hf2
 have sb1:=dZ s.heap a (tL es1 t2)
 split
 ·have hp:=relayAll_perm t2 es1 (gK es1.size)
  have hfr:=relayAll_fits t2 es1 (gK es1.size)
  obtain⟨k1,k2⟩:=ag3 t2 es1 (gK es1.size)
  generalize relayAll t2 es1 (gK es1.size)=Rl at hp hfr k1 k2 ⊢
  obtain⟨es2,t3,gave2⟩:=Rl
  refine ak (hg _ _ _ ?_)
  refine ak (nP x1.at_ rfl ?_ (fits_of_scanBound (show es2.size<scanBound from by rw[<-aq,hp.length_eq,aq];exact hb1)))
  exact au (h _ _ _ _ (sb1.trans (dZ _ a _)) (RD x1 es2 t3 hfr) hp k1 (k2 hp2))
 ·exact au (h _ _ _ _ sb1 x1 (lU _) rfl hp2)
set_option tactic.hygienic true in
theorem Wv {k:Str}{tk:Tok}{Q:Bool->Shared->Prop}(x:yH s.heap a es ep t)(hel:ElemsOf (bB prog w) es.toList)(hb:es.size+1<scanBound)
  (h1:(∃ e∈es.toList,(bB prog w).is k e.2=true)->Q false s)
  (h2:(∀ e∈es.toList,(bB prog w).is k e.2=false)->∀ h' es' ep' t',iB a s.heap h'->yH h' a es' ep' t'->es'.toList.Perm (es.toList++[((bB prog w).hash k,.str k tk)])->t'.led=t.led->t'.plain=false->Q true { s with heap:=h' }) :
  wpAny (model prog w) A (setAddHashed a (.str k tk) ((bB prog w).hash k)) Q E s:=by
 refine bW (ak (Ea x ?_))
 dsimp only
 rw[byScan_of (knd:=bB prog w) rfl (cF hb) hel]
 refine ak ?_
 refine ak (gU ?_)
 refine ak (wpAny_setScan_of (lZ _ _ _ _:(bB prog w).is k (.str k tk)=true) x.at_ rfl x.fits hel ?_)
 cases hr:List.findIdx? (λe=>(bB prog w).is k e.2) es.toList with
 | some j =>
  dsimp only
  obtain⟨hj,hpj,_⟩:=List.findIdx?_eq_some_iff_getElem.mp hr
  exact au (au (h1 ⟨es.toList[j],jP hj,hpj⟩))
 | none =>
  have hgw:∀ (b:Bool) {s₁:Shared} {Q':Unit->Shared->Prop},Q' () s₁->wpAny (model prog w) A (match b with | true=>rule "set.scan.the-table-gave-way" | false=>pure ()) Q' E s₁ :=
   λb s₁ Q' hq=>by cases b <;> first | exact au hq | exact gU hq
  have hperm:=layNew_perm t es ((bB prog w).hash k) (.str k tk)
  have hfits:=layNew_fits t es ((bB prog w).hash k) (.str k tk)
  have Ox:=ag2 t es ((bB prog w).hash k) (.str k tk)
  generalize layNew t es ((bB prog w).hash k) (.str k tk)=L at hperm hfits Ox ⊢
  obtain⟨es1,t1,wasDummy,gave⟩:=L
  rw[dO] at hperm
  have hb1':es1.size<scanBound:=by rw[<-aq,hperm.length_eq,aG,aq];exact hb
  refine ak (hgw _ ?_)
  have hend:∀ {t2:SetTable},t2.led=t.led->∀ h' es' ep' t',iB a s.heap h'->yH h' a es' ep' t'->es'.toList.Perm es1.toList->t'.led=t2.led->t'.plain=false->Q true { s with heap:=h' }:=λe h' es' ep' t' sb x' hp hl hpl=>h2 (λe he=>List.findIdx?_eq_none_iff.mp hr e he:∀ e∈es.toList,(bB prog w).is k e.2=false) h' es' ep' t' sb x' (hp.trans hperm) (hl.trans e) hpl
  split
  ·refine ak ?_
   rw[hashByValue_scannable 8 (x:=.str k tk) rfl]
   refine au ?_
   refine aa1 (t2:={ t1 with plain:=false }) ?_ x hb1' (SetTable.fits_plain_off hfits) rfl λh' es' ep' t' sb x' hp hl hpl=>?_
   ·intro b s₁ Q' hq;cases b <;> first | exact au hq | exact gU hq
   ·exact au (hend (t2:={ t1 with plain:=false }) Ox h' es' ep' t' sb x' hp hl hpl)
  ·rename_i hpl
   refine ak (au ?_)
   refine aa1 ?_ x hb1' hfits (by simpa using hpl) λh' es' ep' t' sb x' hp hl hpl=>?_
   ·intro b s₁ Q' hq;cases b <;> first | exact au hq | exact gU hq
   ·exact au (hend Ox h' es' ep' t' sb x' hp hl hpl)
end
theorem aa2 {α β:Type}{l m:List α}(h:l.Perm m):∀ {ps:List (α×β)},m=ps.map (·.1)->∃ qs:List (α×β),l=qs.map (·.1)/\qs.Perm ps:=by
 induction h with
 | nil=>exact λe=>⟨[],rfl,by cases bZ.1 e.symm;exact .nil⟩
 | cons x _ ih =>
  intro ps e
  cases ps with
  | nil=>cases e
  | cons p ps =>
   obtain⟨rfl,e2⟩:=oU e
   obtain⟨qs,h1,h2⟩:=ih e2
   exact⟨p::qs,by rw[h1];rfl,h2.cons p⟩
 | swap x y l =>
  intro ps e
  cases ps with
  | nil=>cases e
  | cons p ps =>
   obtain⟨rfl,e2⟩:=oU e
   cases ps with
   | nil=>cases e2
   | cons q ps =>
    obtain⟨rfl,rfl⟩:=oU e2
    exact⟨q::p::ps,rfl,.swap ..⟩
 | trans _ _ ih1 ih2 =>
  intro ps e
  obtain⟨qs,h1,h2⟩:=ih2 e
  obtain⟨rs,h3,h4⟩:=ih1 h1
  exact⟨rs,h3,h4.trans h2⟩
section
variable {prog:Program}{w:World}{A:Around}{E:Value->Shared->Prop}{s:Shared}{a:Addr}
variable {β:Type}[DecidableEq β]
noncomputable def Dv (S:List β)(k:β):List β:=if k∈S then S else S++[k]
structure z8 (U S:List β):Prop where
 nd:S.Nodup
 sub:∀ k∈S,k∈U
theorem z8.nil {U:List β}:z8 U []:=⟨.nil,λk h=>absurd h aH⟩
theorem z8.le {U S:List β}(h:z8 U S):S.length<=U.length:=by
 obtain⟨nd,sub⟩:=h
 induction S generalizing U with
 | nil=>exact bL _
 | cons x S ih =>
  have nd:=eE.1 nd
  have:=ih (U:=U.erase x) nd.2 λy hy=>(pB λz:y=x=>nd.1 (z▸hy)).2 (sub y (.tail _ hy))
  rw[ni (sub x (.head _))] at this
  exact aj (aU this) (bI (gM (nQ (sub x (.head _)))))
theorem z8.add {U S:List β}(h:z8 U S){k:β}(hk:k∈U):z8 U (Dv S k):=by
 unfold Dv
 by_cases q:k∈S
 ·rw[if_pos q];exact h
 ·rw[if_neg q]
  refine⟨vY.2 ⟨h.nd,eE.2 ⟨aH,.nil⟩,λa ha b hb z=>q (aC.1 hb▸z▸ha)⟩,λx hx=>?_⟩
  exact(aR.1 hx).elim (h.sub x) λhx=>aC.1 hx▸hk
theorem ag4 {S:List β}{k x:β}:x∈Dv S k↔x=k\/x∈S:=by
 unfold Dv
 by_cases q:k∈S
 ·rw[if_pos q];exact⟨.inr,λh=>h.elim (λe=>e▸q) id⟩
 ·rw[if_neg q,aR,aC];exact or_comm
theorem ag5 {U:List β}{ks:List β}:∀ {S:List β},z8 U S->(∀ k∈ks,k∈U)->z8 U (ks.foldl Dv S)/\∀ x,x∈ks.foldl Dv S↔x∈S\/x∈ks:=by
 induction ks with
 | nil=>exact λ{S} h _=>⟨h,λx=>⟨.inl,λz=>z.elim id λz=>absurd z aH⟩⟩
 | cons k ks ih =>
  intro S h hk
  obtain⟨h1,h2⟩:=ih (h.add (hk k (.head _))) λx hx=>hk x (.tail _ hx)
  refine⟨h1,λx=>(h2 x).trans ?_⟩
  rw[ag4,aM,or_assoc,or_left_comm]
def aa3 (h h':Heap):Prop:=∀ b o,h.get? b=some o->o.cls=.type "tuple"\/o.cls=.type "set"->h'.get? b=some o
structure Kd (prog:Program)(w:World)(β:Type)[DecidableEq β] where
 T:Heap->Addr->List β->Prop
 El:Heap->Value->β->Prop
 cap:Nat
 nil:∀ {h a},h.get? a=some { cls:=.type "set",dict:=none,data:=.set #[] 0 (.fresh 0 0 (!(w.params.followText "set-order"))) }->T h a []
 Oz:∀ {h h' a S},aa3 h h'->T h a S->T h' a S
 OD:∀ {h h' v k},(∀ b o,h.get? b=some o->o.cls=.type "tuple"->h'.get? b=some o)->El h v k->El h' v k
 isSet:∀ {h a S},T h a S->∃ o,h.get? a=some o/\o.cls=.type "set"
 add:∀ {A:Around} {E:Value->Shared->Prop} {s:Shared} {a S v k Q},A.units<cLine->T s.heap a S->El s.heap v k->S.length+1<=cap->(∀ b h' tk,iB a s.heap h'->T h' a (Dv S k)->Q b { s with heap:=h',toks:=tk }) ->
  wpAny (model prog w) A (setAdd a v) Q E s
theorem aa4:entryFor table "set.update.loop" = some Builtin.«set.update.loop»:=tH (by kernel_rfl)
theorem Ww:plainId "set.update.loop" = true:=by decide +kernel
theorem aa5 {h h':Heap}{J:Addr}{oj:Obj}(hj:h.get? J=some oj)(h1:oj.cls≠.type "tuple")(h2:oj.cls≠.type "set")(k:∀ b o,b≠J->h.get? b=some o->h'.get? b=some o):aa3 h h':=λb o e z=>k b o (λeb=>by
 subst eb
 rw[hj] at e;cases e
 exact z.elim h1 h2) e
theorem ag6 {kd:Kd prog w β}{R:Result->Shared->Prop}{l J:Addr}{ps:List (Value×β)}{U:List β}(hU:U.length+1<=kd.cap)(Lj:∀ p∈ps,p.2∈U)(hr:A.in1.units<cLine)(hh:A.handled=none)(Wx:l≠J)(Lk:a≠J)(hal:a≠l) :
  ∀ (n i:Nat) (s:Shared) (S:List β),z8 U S->ps.length-i=n->i<=ps.length->s.heap.IsListIter J l i->s.heap.IsList l (ps.map (·.1)).toArray->(∀ p∈ps,kd.El s.heap p.1 p.2)->kd.T s.heap a S ->
   (∀ h' tk,(∀ b o,b≠a->b≠J->s.heap.get? b=some o->h'.get? b=some o)->kd.T h' a (((ps.drop i).map (·.2)).foldl Dv S)->R (.ok (.ret .none)) { s with heap:=h',toks:=tk }) ->
   codeAny (model prog w) A (.builtin "set.update.loop" ⟨[.ref a,.ref J],[]⟩) R s:=by
 intro n
 have W:=rW (prog:=prog) (w:=w) (A:=A.in1) hh J l Wx (ps.map (·.1)).toArray
 have hsz:(ps.map (·.1)).toArray.size=ps.length:=by rw[eH,aA]
 rw[hsz] at W
 induction n with
 | zero =>
  intro i s S hS hn hi hJ hl hp x hR
  have hin:i=ps.length:=cM hi (iK hn)
  subst hin
  refine gJ aa4 ?_
  rw[fj Ww _]
  obtain⟨oj,hj,cj,_⟩:=hJ
  refine ak (W.done s _ _ ⟨⟨oj,hj,cj,‹_›⟩,hl⟩ λh' tk k=>?_)
  have k':∀ b o,b≠J->s.heap.get? b=some o->h'.get? b=some o:=λb o hb e=>k b o (λz=>hb (aC.1 z)) e
  refine au (hR h' tk (λb o uu hb e=>k' b o hb e) ?_)
  rw[nG]
  exact kd.Oz (aa5 hj (by rw[cj];decide) (by rw[cj];decide) k') x
 | succ n ih =>
  intro i s S hS hn hi hJ hl hp x hR
  have hlt:i<ps.length:=Nat.lt_of_sub_eq_succ hn
  refine gJ aa4 ?_
  rw[fj Ww _]
  obtain⟨oj,hj,cj,qj⟩:=hJ
  refine ak (W.item i s _ _ hlt ⟨⟨oj,hj,cj,qj⟩,hl⟩ λv h' tk hv st k=>?_)
  have k':∀ b o,b≠J->s.heap.get? b=some o->h'.get? b=some o:=λb o hb e=>k b o (λz=>hb (aC.1 z)) e
  have sy:=aa5 hj (by rw[cj];decide) (by rw[cj];decide) k'
  have hv:(ps.map (·.1))[i]?=some v:=by rw[<-hv];exact List.getElem?_toArray.symm
  rw[cD,cB hlt] at hv
  cases hv
  have hE:∀ p∈ps,kd.El h' p.1 p.2:=λp hpm=>kd.OD (λb o e z=>sy b o e (.inl z)) (hp p hpm)
  refine ak (bW (kd.add (s:={ s with heap:=h',toks:=tk }) hr (kd.Oz sy x) (hE _ (jP hlt)) (aj (aU hS.le) hU) λb h2 tk2 sb x2=>?_))
  obtain⟨oa,ha,ca⟩:=kd.isSet (kd.Oz sy x)
  refine au ⟨jm Ww _,ih (i+1) _ (Dv S ps[i].2) (hS.add (Lj _ (jP hlt))) (by rw[Nat.sub_succ,hn];rfl) hlt (st.1.at λo e=>(sb.2 J Lk.symm).trans e) (st.2.at λo e=>(sb.2 l hal.symm).trans e) (λp hpm=>kd.OD (λb o e z=>?_) (hE p hpm)) x2 λh3 tk3 k3 x3=>?_⟩
  ·refine(sb.2 b λeb=>?_).trans e
   subst eb
   rw[ha] at e;cases e
   rw[ca] at z;exact absurd z (by decide)
  ·refine hR h3 tk3 (λb o hb1 hb2 e=>k3 b o hb1 hb2 ((sb.2 b hb1).trans (k' b o hb2 e))) ?_
   rw[dY hlt]
   exact x3
end
section
variable {prog:Program}{w:World}{A:Around}{E:Value->Shared->Prop}{s:Shared}{a:Addr}{β:Type}[DecidableEq β]
theorem typeCall_set_1 (v:Value):checkTypeCall "set" ⟨[v],[]⟩=pure ():=by kernel_rfl
theorem newCall_set_1 (v:Value):checkBuiltinCall "set.__new__" ⟨[.type "set",v],[]⟩=pure ():=by kernel_rfl
theorem ag7 {v:Value}{Q₁:Value->Shared->Prop}(h:Q₁ (.ref s.heap.objs.size) { s with heap:=s.heap.push { cls:=.type "set",dict:=none,data:=.set #[] 0 (.fresh 0 0 (!(w.params.followText "set-order"))) } }) :
  codeAny (model prog w) A (.call (.builtin "set.__new__") ⟨[.type "set",v],[]⟩) (wants Q₁ E) s:=by
 refine codeAny_of_tree ?_
 refine ak (qx (newCall_set_1 v) (au ⟨jm F.plain_set_new _,gJ F.entry_set_new ?_⟩))
 rw[fj F.plain_set_new _]
 have hsub:=sub_set_self
 obtain⟨hp,g,d,tk,os⟩:=s
 wp_walk
 refine tD (au ?_)
 refine ak (wpAny_alloc (au ?_))
 exact au h
theorem ag8 {self v:Value}{Q:Unit->Shared->Prop}(hT:s.TypeIs self "set")(hQ:Q () s):wpAny (model prog w) A (checkBuiltinCall "set.__init__" ⟨[self,v],[]⟩) Q E s:=by
 refine ak (lY hT sub_set_self ?_)
 refine ak (m:=Bind.printed "set" true _ _) (PyProof.Rows.printed_name (by decide) ?_)
 refine ak (m:=Bind.printed "*" false _ _) (PyProof.Rows.printed_star (self:=self) rfl hT λshort=>?_)
 rw[(show(if(qd==qe)=true then[self,v].length else[self,v].length-1)=1 from by simp [(show(qd==qe)=false from by decide)])]
 have hc:Bind.check ⟨.positional,"set","*",.self,[⟨"iterable",.posOnly,false⟩]⟩ "set" short 1 []=pure ():=by
  simp [Bind.check,Bind.checkCount,Bind.isPositional]
  exact λz=>absurd z (by decide)
 rw[hc]
 exact au hQ
set_option maxHeartbeats 1000000 in
theorem ag9 {kd:Kd prog w β}{l:Addr}{ps:List (Value×β)}{U:List β}(hU:U.length+1<=kd.cap)(Lj:∀ p∈ps,p.2∈U){Q:Value->Shared->Prop}(hu:A.units+10<cLine)(hh:A.handled=none)(hl:s.heap.IsList l (ps.map (·.1)).toArray)(hs:∀ p∈ps,kd.El s.heap p.1 p.2)
  (h:∀ h' tk,(∀ b o,s.heap.get? b=some o->h'.get? b=some o)->kd.T h' s.heap.objs.size ((ps.map (·.2)).foldl Dv [])->Q (.ref s.heap.objs.size) { s with heap:=h',toks:=tk }) :
  wpAny (model prog w) A (call (.type "set") [.ref l]) Q E s:=by
 obtain⟨c,tl,hmro⟩:=F.called_set.mro
 have hmade:=F.called_set.made
 have hsub:=F.called_set.sub
 have hll:l<s.heap.objs.size:=hl.elim λuu z=>bM z.1
 refine ru (codeAny_of_tree ?_)
 refine au ⟨Code.quiet_builtin _ (by decide +kernel),gJ F.entry_type_call ?_⟩
 rw[Around.under_plain (weight_type_call_type "set" [.ref l] []) rfl]
 have h1:=F.called_set.notType
 have h2:=F.called_set.canCreate
 have hct:=typeCall_set_1 (.ref l)
 repeat (any_goals (first | assumption | wp_step))
 refine j4 (ag7 (E:=E) (Q₁:=λobj s₁=>obj=.ref s.heap.objs.size/\s₁={ s with heap:=s.heap.push { cls:=.type "set",dict:=none,data:=.set #[] 0 (.fresh 0 0 (!(w.params.followText "set-order"))) } }) ⟨rfl,rfl⟩) λr s₁ hr=>?_
 cases r with
 | error e=>exact hr
 | ok fl =>
  cases fl with
  | ret obj =>
   obtain⟨rfl,rfl⟩:=hr
   have hS:(s.heap.push { cls:=.type "set",dict:=none,data:=.set #[] 0 (.fresh 0 0 (!(w.params.followText "set-order"))) }).get? s.heap.objs.size=some { cls:=.type "set",dict:=none,data:=.set #[] 0 (.fresh 0 0 (!(w.params.followText "set-order"))) }:=aV _ rfl
   have hT:Shared.TypeIs { s with heap:=s.heap.push { cls:=.type "set",dict:=none,data:=.set #[] 0 (.fresh 0 0 (!(w.params.followText "set-order"))) } } (.ref s.heap.objs.size) "set" := ⟨_,hS,rfl⟩
   have hli:=F.called_set.init.lookup
   have hbi:=F.called_set.init.bind (.ref s.heap.objs.size)
   repeat (any_goals (first | assumption | wp_step))
   refine j4 (codeAny_call_builtin (R:=wants (λr s₂=>r=.none/\Q (.ref s.heap.objs.size) s₂) E) F.called_set.init.plain F.entry_set_init (ag8 hT ?_)) λr₂ s₂ hr₂=>?_
   ·obtain⟨ol,hol,hcl,nl,hdl⟩:=hl
    obtain⟨ocls,odict,odata,oslots⟩:=ol
    simp only at hcl hdl
    subst hcl;subst hdl
    have hol':(s.heap.push { cls:=.type "set",dict:=none,data:=.set #[] 0 (.fresh 0 0 (!(w.params.followText "set-order"))) }).get? l=some { cls:=.type "list",dict:=odict,data:=.seq (ps.map (·.1)).toArray nl,slots:=oslots }:=aJ _ hol
    have hsls:=F.sub_list_set
    have hslf:=F.sub_list_frozenset
    have hne:(mJ "list" == mJ "dict")=false:=by decide
    have hl1:(s.heap.push { cls:=.type "set",dict:=none,data:=.set #[] 0 (.fresh 0 0 (!(w.params.followText "set-order"))) }).IsList l (ps.map (·.1)).toArray:=⟨_,hol',rfl,nl,rfl⟩
    unfold Builtin.«set.__init__» noKeywords Builtin.Frozenset.updateFrom
    generalize hPI:pyIter=PI
    wp_walk
    subst hPI
    refine rR hl1 ?_
    refine ak (wpAny_runValue ?_)
    refine ag6 (kd:=kd) (ps:=ps) hU Lj (aK (show A.units+3<=A.units+10 from aL (by decide) _) hu) (by simp [hh]) (l:=l) (by rw[jJ];exact bQ (eZ hll)) (by rw[jJ];exact bQ (bV _)) (lB hll) ps.length 0 _ [] .nil rfl (bL _)
     ⟨_,aV _ rfl,rfl,rfl⟩ (hl1.push _) (λp hp=>kd.OD (λb o e uu=>aJ _ (aJ _ e)) (hs p hp)) (kd.nil (aJ (h:=s.heap.push { cls:=.type "set",dict:=none,data:=.set #[] 0 (.fresh 0 0 (!(w.params.followText "set-order"))) }) { cls:=.type "list_iterator",data:=.fields #[.ref l,.int 0 0] } hS)) ?_
    ·intro h' tk k x
     refine au (au ⟨rfl,h h' tk (λb o e=>?_) x⟩)
     have hb:=bM e
     exact k b o (bQ hb) (by rw[jJ];exact bQ (eZ hb)) (aJ _ (aJ _ e))
   ·cases r₂ with
    | error e=>exact hr₂
    | ok fl₂ =>
     cases fl₂ with
     | ret r =>
      obtain⟨rfl,hq⟩:=hr₂
      repeat (any_goals (first | assumption | wp_step))
     | _=>exact hr₂.elim
  | _=>exact hr.elim
end
end wF
end
section
open PySem PyProof.Rows
namespace wG
open wF
section
variable {prog:Program}{w:World}{A:Around}{E:Value->Shared->Prop}{s:Shared}{a:Addr}{es:Array (Int×Value)}{ep:Nat}{t:SetTable}
variable {K:Type}[DecidableEq K]{knd:KeyKind prog w K}
def Et (knd:KeyKind prog w K)(h:Heap)(e:Int×Value)(k:List K):Prop:=∃ b,e=(tupleKeyHash knd k,.ref b)/\IsTupleKey knd h k b
theorem aha {v:Value}(h:carriedByValue v=true)(n:Nat):ofAClassStatement n v=pure false:=by
 cases n <;> cases v <;> first | rfl | exact absurd h cZ
set_option smartUnfolding false in
theorem aa6 {k:List K}{b:Addr}{Q:Bool->Shared->Prop}(hk:IsTupleKey knd s.heap k b)(h:Q false s)(d:Nat):wpAny (model prog w) A (ofAClassStatement (d+1) (.ref b)) Q E s:=by
 have hT:=hk.typeIs
 obtain⟨o,items,n,ho,_,hd,hi⟩:=hk
 refine ak (pH hT ?_)
 refine ak (au ?_)
 refine ak (uq ho hd ?_)
 refine ak ?_
 rw[<-qp]
 refine wpAny_forIn_list _ (λrest r s'=>r.1=none/\s'=s/\∀ v∈rest,carriedByValue v=true) _ ?_ ?_ _ _ ⟨rfl,rfl,hi.byValue⟩
 ·rintro v rest r s' ⟨hr,rfl,hall⟩
  refine ak (show wpAny (model prog w) A (ofAClassStatement d v) _ _ _ from ?_)
  rw[aha (hall v d7)]
  exact au (au ⟨rfl,rfl,λu hu'=>hall u (cu _ hu')⟩)
 ·rintro⟨r1,r2⟩ s' ⟨hr,rfl,_⟩
  simp only at hr
  subst hr
  exact au h
theorem ahb {k:List K}{b:Addr}{l:List Value}{Q:Bool->Shared->Prop}(hk:IsTupleKey knd s.heap k b)(hl:∀ v∈l,∃ k' b',v=.ref b'/\IsTupleKey knd s.heap k' b')(h:Q false s):wpAny (model prog w) A (searchCouldBeSeen (.ref b) l) Q E s:=by
 refine ak ?_
 refine wpAny_forIn_list _ (λrest r s'=>r.1=none/\s'=s/\∀ v∈rest,∃ k' b',v=.ref b'/\IsTupleKey knd s.heap k' b') _ ?_ ?_ _ _ ⟨rfl,rfl,hl⟩
 ·rintro v rest r s' ⟨hr,rfl,hall⟩
  obtain⟨k',b',rfl,hk'⟩:=hall v d7
  have nx:∀ u∈rest,∃ k' b',u=.ref b'/\IsTupleKey knd s'.heap k' b':=λu hu=>hall u (cu _ hu)
  refine kW (λuu=>au ⟨rfl,rfl,nx⟩) λuu=>?_
  refine ak (wpAny_eqIsQuiet_tuple hk ?_)
  refine ak (wpAny_eqIsQuiet_tuple hk' ?_)
  refine ak (aa6 hk ?_ 7)
  refine ak (aa6 hk' ?_ 7)
  exact au ⟨rfl,rfl,nx⟩
 ·rintro⟨r1,r2⟩ s' ⟨hr,rfl,_⟩
  simp only at hr
  subst hr
  exact au h
def NoE (knd:KeyKind prog w K)(h:Heap)(es:Array (Int×Value))(k:List K):Prop:=∀ e∈es.toList,¬Et knd h e k
theorem ahc {k:List K}{b:Addr}{Q:SetFound->Shared->Prop}(hu:A.units<cLine)(x:yH s.heap a es ep t)(T:Tb t es)(hel:∀ e∈es.toList,∃ k,Et knd s.heap e k)(hk:IsTupleKey knd s.heap k b){N:Nat}
  (hz:N<10*iz t.mask) (hN:sq t (tupleKeyHash knd k) N∉t.place.toList) (hb:∀ m,m<N->sq t (tupleKeyHash knd k) m∈t.place.toList) (hodd:t.gaveWay=false)
  (h1:(∃ e∈es.toList,Et knd s.heap e k)->Q (.there none) s) (h2:NoE knd s.heap es k->Q (.free (sq t (tupleKeyHash knd k) N) false) s) :
  ∀ (f n:Nat) (st:Option qY),n<=N->N<n+f->st.getD (t.probeStart (tupleKeyHash knd k))=pr t (tupleKeyHash knd k) n ->
   (∀ (m i:Nat) e,m<n->t.place[i]?=some (sq t (tupleKeyHash knd k) m)->es[i]?=some e->¬Et knd s.heap e k)->wpAny (model prog w) A (setSearchFrom a (.ref b) (tupleKeyHash knd k) true f st) Q E s:=by
 generalize hh:tupleKeyHash knd k=h at *
 intro f
 induction f with
 | zero=>intro n st h3 h4;omega
 | succ f ih =>
  intro n st h3 h4 hst hno
  refine ak (Ea x ?_)
  dsimp only
  rw[hodd,if_neg (by decide),hst]
  have hev:∀ (i:Nat) (e:Int×Value),es[i]?=some e->(es[i]?.map (·.1)).getD 0=e.1:=λi e q=>by rw[q];rfl
  rcases ago T hN hb (λi=>(es[i]?.map (·.1)).getD 0) (N-n) (10*iz t.mask) n (by omega) (by omega) with⟨g,no⟩ | ⟨m,i,g1,g2,g3,g4,g5,g6⟩
  ·erw [show vA t (λi=>(es[i]?.map (·.1)).getD 0) h (pr t h n)=_ from g]
   dsimp only
   refine au (h2 λe he hE=>?_)
   obtain⟨i,hi⟩:=fP.1 he
   rw[aW] at hi
   have hl:i<t.place.size:=T.len▸(dj.1 hi).1
   have hp:=bC hl
   obtain⟨b',rfl,hE'⟩:=hE
   rw[hh] at hi
   obtain⟨n0,q1,q2⟩:=T.way _ _ (agk.2 ⟨i,hp,hi⟩)
   dsimp only at q1 q2
   have hn0:n0<N:=by
    rcases qK n0 N with z | z | z
    ·exact z
    ·subst z
     exact absurd (q1▸fP.2 ⟨i,by rw[aW];exact hp⟩) hN
    ·exact absurd (q2 N z) hN
   rw[<-q1] at hp
   rcases cW n0 n with z | z
   ·exact hno n0 i _ z hp hi ⟨b',by rw[hh],hE'⟩
   ·exact no n0 i z hn0 hp (hev i _ hi)
  ·erw [show vA t (λi=>(es[i]?.map (·.1)).getD 0) h (pr t h n)=_ from g5]
   dsimp only
   have hl:i<es.size:=T.len▸(dj.1 g3).1
   have hi:=bC hl
   have hm:es[i]∈es.toList:=fP.2 ⟨i,by rw[aW];exact hi⟩
   obtain⟨k',b',e1,hk'⟩:=hel _ hm
   have go:wpAny (model prog w) A (do
     let some (_,y):=es[i]? | unsupported "internal:set-entry"
     let equal<-holding [y] (eqBool y (.ref b))
     let (es',_,t')<-setState a
     if true&&equal then return .there none
     let some same:=t'.sameMemory t.moves t.mask | unsupported "set.changed-during-lookup:is-the-new-block-at-the-old-address"
     let still<-match (if same then t'.slot (sq t h m) else .empty) with
      | .live i'=>match es'[i']? with
       | some (_,y')=>do pure (if<-isSame y' y then some i' else none)
       | none=>pure none
      | _=>pure none
     match still with
     | none=>rule "set.search.anew";setSearchFrom a (.ref b) h true f none
     | some i'=>if equal then return .there (some i') else setSearchFrom a (.ref b) h true f (some (pr t h (m+1)))) Q E s:=by
    rw[hi,e1]
    refine ak (bW (wpAny_eqBool_tuple hu hk' hk ?_))
    refine ak (Ea x ?_)
    dsimp only
    cases hd:decide (k'=k) with
    | true =>
     have:=of_decide_eq_true hd
     subst this
     exact au (h1 ⟨_,hm,b',e1,hk'⟩)
    | false =>
     have hsm:t.sameMemory t.moves t.mask=some true:=by unfold SetTable.sameMemory;rw[if_pos (beq_self_eq_true _)]
     rw[hsm]
     dsimp only
     rw[if_pos rfl,Lg T.up g3]
     dsimp only
     rw[hi,e1]
     refine ak (PySem.wpAny_isSame_ref_self (ak (au ?_)))
     refine ih (m+1) _ g2 (by omega) rfl λm' i' e hm' hp he hE=>?_
     obtain⟨b2,rfl,hE'⟩:=hE
     rcases cW m' n with z | z
     ·exact hno m' i' _ z hp he ⟨b2,rfl,hE'⟩
     rcases jw (bU hm') with y | y
     ·exact g6 m' i' z y hp ((hev i' _ he).trans hh)
     ·subst y
      have:=Lg T.up hp
      rw[Lg T.up g3] at this
      cases this
      rw[hi,e1] at he
      injection he with he
      injection he with _ he
      injection he with he
      subst he
      exact of_decide_eq_false hd (hk'.inj hE')
   refine kW (λuu=>?_) λuu=>go
   refine ak (ahb hk (λv hv=>?_) ?_)
   ·obtain⟨e,he,rfl⟩:=aO.1 hv
    rw[Array.toList_filter] at he
    obtain⟨k2,b2,e2,hk2⟩:=hel e (cY.1 he).1
    exact⟨k2,b2,by rw[e2],hk2⟩
   ·rw[if_neg cZ]
    exact go
end
end wG
end
section
open PySem
namespace wG
open wF
section
variable {prog:Program}{w:World}{A:Around}{E:Value->Shared->Prop}{s:Shared}{a:Addr}{es:Array (Int×Value)}{ep:Nat}{t:SetTable}
variable {K:Type}[DecidableEq K]{knd:KeyKind prog w K}
theorem Tb.off (T:Tb t es):Tb { t with plain:=false } es:=⟨T.up,T.len,T.JK,T.JL,λj e z=>by
 obtain⟨n,h1,h2⟩:=T.way j e z
 exact⟨n,vK (JH (t:=t) (t':={ t with plain:=false }) rfl e.1 n) h1,λm hm=>by rw[JH (t:=t) (t':={ t with plain:=false }) rfl];exact h2 m hm⟩⟩
theorem Tb.fits (T:Tb t es)(h:es.size<=t.mask):t.fits es.size=true:=by
 unfold vO rI
 rw[T.JK,T.len]
 simpa using h
theorem sized (T:Tb t es)(hr:es.size*5<t.mask*3):es.size+1<=t.mask:=by rcases T.JL with e | e | e <;> rw[e] at hr ⊢ <;> omega
theorem grows {n m:Nat}(hm:m=7\/m=31\/m=127)(h1:n*5<m*3)(h2:m*3<=(n+1)*5)(h3:n+1<=76):∃ m',(m'=7\/m'=31\/m'=127)/\SetTable.sizeAbove (gK (n+1))=m'+1/\n+1<=m'/\(n+1)*5<m'*3/\m'<128:=by
 rcases hm with e | e | e <;> subst e
 ·have:n=4:=by omega
  subst this
  exact⟨31,.inr (.inl rfl),by decide +kernel,by decide,by decide,by decide⟩
 ·have:n=18:=by omega
  subst this
  exact⟨127,.inr (.inr rfl),by decide +kernel,by decide,by decide,by decide⟩
 ·omega
theorem ahd {k:List K}{b:Addr}{Q:Bool->Shared->Prop}(hk:IsTupleKey knd s.heap k b)(hs:∀ x v,knd.is x v=true->hashByValue 7 v=pure false)(hne:k≠[])(h:Q false s):wpAny (model prog w) A (hashByValue 8 (.ref b)) Q E s:=by
 have hT:=hk.typeIs
 obtain⟨o,items,n,ho,_,hd,hi⟩:=hk
 refine ak (wpAny_specialOf hT F.slot_tuple_hash.lookup ?_)
 refine ak (uq ho hd ?_)
 refine ak ?_
 show wpAny _ _ (forIn items _ _) _ _ s
 rw[<-qp]
 generalize items.toList=vs at hi
 cases hi with
 | nil=>exact absurd rfl hne
 | cons hv _ =>
  rw[lX]
  refine ak ?_
  rw[hs _ _ hv]
  exact ak (au (au (au (au h))))
theorem Wv {k:List K}{b:Addr}{Q:Bool->Shared->Prop}(hu:A.units<cLine)(x:yH s.heap a es ep t)(T:Tb t es)(hr:es.size*5<t.mask*3)(hz:es.size+1<=76)(hel:∀ e∈es.toList,∃ k,Et knd s.heap e k)
  (hk:IsTupleKey knd s.heap k b) (hne:k≠[]) (hs:∀ x v,knd.is x v=true->hashByValue 7 v=pure false)
  (h1:(∃ e∈es.toList,Et knd s.heap e k)->Q false s)
  (h2:NoE knd s.heap es k->∀ h' es' ep' t',iB a s.heap h'->yH h' a es' ep' t'->Tb t' es'->es'.size*5<t'.mask*3->es'.toList.Perm (es.toList++[(tupleKeyHash knd k,.ref b)])->t'.led=t.led->t'.plain=false->Q true { s with heap:=h' }) :
  wpAny (model prog w) A (setAddHashed a (.ref b) (tupleKeyHash knd k)) Q E s:=by
 refine bW (ak (Ea x ?_))
 dsimp only
 rw[if_neg (show ¬byScan (.ref b) es=true from cZ)]
 obtain⟨N,n1,n2,n3⟩:=agA (t:=t) (h:=tupleKeyHash knd k) T.JL (by rw[T.len];exact dU (sized T hr))
 have hN:N<0+100000:=by
  have:t.mask<=127:=by rcases T.JL with e | e | e <;> rw[e] <;> decide
  unfold iz at n1;omega
 refine ak (ahc hu x T hel hk n1 n2 n3 (show t.gaveWay=false from by unfold SetTable.gaveWay;rcases T.JL with e | e | e <;> rw[e] <;> rfl) (λz=>au (h1 z)) (λno=>?_) 100000 0 none (bL _) hN rfl λm i e hm=>absurd hm (iW _))
 refine ak (Ea x ?_)
 have T1:=agB T (x:=.ref b) n2 n3
 have hl:(t.put (sq t (tupleKeyHash knd k) N)).1.led=t.led/\(t.put (sq t (tupleKeyHash knd k) N)).1.mask=t.mask:=⟨rfl,rfl⟩
 have hp1:(c7 es (t.put (sq t (tupleKeyHash knd k) N)).2 (tupleKeyHash knd k,.ref b)).toList.Perm (es.toList++[(tupleKeyHash knd k,.ref b)]):=by
  have:=SetTable.insertAt_perm es (t.put (sq t (tupleKeyHash knd k) N)).2 (tupleKeyHash knd k,jz b)
  rwa [dO] at this
 generalize t.put (sq t (tupleKeyHash knd k) N)=P at T1 hl hp1 ⊢
 obtain⟨t1,p⟩:=P
 generalize c7 es p (tupleKeyHash knd k,.ref b)=es1 at T1 hp1 ⊢
 have hes:es1.size=es.size+1:=by rw[<-aq,hp1.length_eq,aG,aq];rfl
 have fin:∀ t2:SetTable,Tb t2 es1->t2.led=t.led->t2.mask=t.mask->t2.plain=false->wpAny (model prog w) A (do
   storeSet a es1 t2
   if !false&&t2.tooFull then setRelay a (gK (es.size+1))
   return true) Q E s:=λt2 T2 l2 m2 p2=>by
  refine ak (nP x.at_ rfl ?_ (aj (bI hes) (aj hz (by decide))))
  have x1:=RD x es1 t2 (T2.fits (by rw[hes,m2];exact sized T hr):t2.fits es1.size=true)
  have sb:=dZ s.heap a (tL es1 t2)
  cases hf:t2.tooFull with
  | false =>
   refine au (h2 no _ _ _ _ sb x1 T2 ?_ hp1 l2 p2)
   unfold uP rI at hf
   rw[T2.JK,T2.len] at hf
   simpa using hf
  | true =>
   have hf':t.mask*3<=(es.size+1)*5:=by
    unfold uP rI at hf
    rw[T2.JK,T2.len,hes,m2] at hf
    simpa using hf
   obtain⟨m',g1,g2,g3,g4,g5⟩:=grows T.JL hr hf' hz
   unfold setRelay
   rw[g2]
   refine ak (ak (Ea x1 ?_))
   dsimp only
   rw[if_neg (by have:m'+1<=sizeLine:=aj (qI g5) (by decide);omega)]
   obtain⟨t3,order,q1,q2,q3,q4,q5,q6⟩:=agH (t:={ t2 with mask:=m' }) (es:=es1) g1 (by rw[hes];exact g3) t2.finger (t2.movedTo m') t2.led t2.plain
   have q0:t2.relaid (es1.map (·.1)) (gK (es.size+1))=some (t3,order):=by
    unfold SetTable.relaid
    rw[g2]
    exact q1
   have JM:(order.filterMap (es1[·]?)).size=es.size+1:=by rw[<-aq,q3.length_eq,aq,hes]
   rw[q0]
   refine ak ?_
   show wpAny _ _ (if((order.filterMap (es1[·]?)).size != es1.size)=true then _ else _) _ _ _
   rw[if_neg (by rw[JM,hes];simp)]
   refine au (nP x1.at_ rfl (au ?_) (aj (bI JM) (aj hz (by decide))))
   have f3:t3.fits (order.filterMap (es1[·]?)).size=true:=q2.fits (by rw[JM,q4];exact g3)
   exact h2 no _ _ _ _ (sb.trans (dZ _ a _)) (RD x1 _ _ f3) q2 (by rw[JM,q4];exact g4) (q3.trans hp1) (q5.trans l2) (q6.trans p2)
 cases hpl:t1.plain with
 | true =>
  refine ak (ahd hk hs hne ?_)
  exact fin { t1 with plain:=false } T1.off hl.1 hl.2 rfl
 | false =>
  refine ak (au ?_)
  exact fin t1 T1 hl.1 hl.2 hpl
end
end wG
end
section
open PySem PyProof.Rows PySem.Calls PySem.W
namespace wF
section
variable {prog:Program}{w:World}
def aa7 (prog:Program)(w:World)(h:Heap)(a:Addr)(S:List Str):Prop:=∃ es ep t,∃ ps:List ((Int×Value)×Str),yH h a es ep t/\ElemsOf (bB prog w) es.toList/\es.toList=ps.map (·.1)/\(∀ p∈ps,∃ tk,p.1.2=.str p.2 tk)/\(ps.map (·.2)).Perm S/\t.led=!(w.params.followText "set-order")/\(t.plain=false\/es.size=0)
noncomputable def ahe (prog:Program)(w:World):Kd prog w Str where
 T:=aa7 prog w
 El:=λuu v k=>∃ tk,v=.str k tk
 cap:=4094
 Oz:=λst x=>by
  obtain⟨es,ep,t,ps,x,r⟩:=x
  exact⟨es,ep,t,ps,⟨st _ _ x.at_ (.inr rfl),x.fits⟩,r⟩
 OD:=λuu e=>e
 isSet:=λx=>by
  obtain⟨_,_,_,_,x,_⟩:=x
  exact⟨_,x.at_,rfl⟩
 nil:=λe=>⟨#[],0,_,[],⟨e,rfl⟩,λe he=>absurd he aH,rfl,λp hp=>absurd hp aH,.nil,rfl,.inr rfl⟩
 add:=by
  intro A E s a S v k Q _ x ev hb h
  obtain⟨tk,rfl⟩:=ev
  obtain⟨es,ep,t,ps,x,hel,he,hs,hp,hl,hpl⟩:=x
  have hz:es.size=S.length:=by rw[<-hp.length_eq,aA,<-aq,he,aA]
  have hmem:(∃ e∈es.toList,(bB prog w).is k e.2=true)↔k∈S:=by
   rw[<-hp.mem_iff,he,aO]
   constructor
   ·rintro⟨e,h1,h2⟩
    obtain⟨p,h3,rfl⟩:=aO.1 h1
    obtain⟨t',h4⟩:=hs p h3
    rw[h4] at h2
    exact⟨p,h3,((bB prog w).inj _ _ _ h2 (lZ _ _ _ _)).symm⟩
   ·rintro⟨p,h1,rfl⟩
    obtain⟨t',h4⟩:=hs p h1
    exact⟨p.1,aO.2 ⟨p,h1,rfl⟩,by rw[h4];exact lZ _ _ _ _⟩
  unfold setAdd
  refine bW (ak ((bB prog w).pyHash (lZ _ _ _ _) ?_))
  refine Wv (s:={ s with toks:=s.toks+1 }) x hel (by rw[hz];exact aK hb (by decide)) (λhin=>?_) λhno h' es' ep' t' sb x' hp' hl' hpl'=>?_
  ·have:=h false s.heap (s.toks+1) (tO a s.heap) ⟨es,ep,t,ps,x,hel,he,hs,by unfold Dv;rw[if_pos (hmem.1 hin)];exact hp,hl,hpl⟩
   exact this
  ·have hk:k∉S:=λz=>by
    obtain⟨e,h1,q⟩:=hmem.2 z
    rw[hno e h1] at q;cases q
   obtain⟨qs,h1,h2⟩:=aa2 hp' (ps:=ps++[(((bB prog w).hash k,.str k tk),k)]) (by rw[aX,he];rfl)
   refine h true h' (s.toks+1) sb ⟨es',ep',t',qs,x',(hel.push (lZ _ _ _ _) rfl).perm hp',h1,λp hpm=>?_,?_,hl'.trans hl,.inl hpl'⟩
   ·rcases aR.1 (h2.mem_iff.1 hpm) with z | z
    ·exact hs p z
    ·rw[aC.1 z];exact⟨tk,rfl⟩
   ·unfold Dv
    rw[if_neg hk]
    refine(h2.map _).trans ?_
    rw[aX]
    exact hp.append_right _
def aa8 (prog:Program)(w:World)(B:Addr->List Str->Prop)(h:Heap)(a:Addr)(S:List (List Str)):Prop:=∃ es ep t,∃ ps:List ((Int×Value)×List Str),yH h a es ep t/\wG.Tb t es/\es.size*5<t.mask*3/\es.toList=ps.map (·.1)/\(∀ p∈ps,wG.Et (bB prog w) h p.1 p.2/\∃ b,p.1.2=.ref b/\B b p.2)/\(ps.map (·.2)).Perm S/\t.led=!(w.params.followText "set-order")/\(t.plain=false\/es.size=0)
theorem aa9 {h h':Heap}{k:List Str}{b:Addr}(st:∀ b o,h.get? b=some o->o.cls=.type "tuple"->h'.get? b=some o)(x:IsTupleKey (bB prog w) h k b):IsTupleKey (bB prog w) h' k b :=
 x.imp λo x=>x.imp λit x=>x.imp λn x=>⟨st b o x.1 x.2.1,x.2⟩
theorem abb {h h':Heap}{k:List Str}{e:Int×Value}(st:∀ b o,h.get? b=some o->o.cls=.type "tuple"->h'.get? b=some o)(x:wG.Et (bB prog w) h e k):wG.Et (bB prog w) h' e k :=
 x.imp λb h=>h.imp id (aa9 st)
theorem ahf {h:Heap}{k k':List Str}{e:Int×Value}(x:wG.Et (bB prog w) h e k)(y:wG.Et (bB prog w) h e k'):k=k':=by
 obtain⟨b,rfl,h1⟩:=x
 obtain⟨c,h2,h3⟩:=y
 injection h2 with _ h2
 injection h2 with h2
 subst h2
 exact h1.inj h3
noncomputable def tupK (prog:Program)(w:World)(B:Addr->List Str->Prop):Kd prog w (List Str) where
 T:=aa8 prog w B
 El:=λh v k=>∃ b,v=.ref b/\IsTupleKey (bB prog w) h k b/\k≠[]/\B b k
 cap:=76
 Oz:=λst x=>by
  obtain⟨es,ep,t,ps,x,h1,h2,h3,h4,r⟩:=x
  exact⟨es,ep,t,ps,⟨st _ _ x.at_ (.inr rfl),x.fits⟩,h1,h2,h3,λp hp=>⟨abb (λb o e z=>st b o e (.inl z)) (h4 p hp).1,(h4 p hp).2⟩,r⟩
 OD:=λst x=>x.imp λb h=>⟨h.1,aa9 st h.2.1,h.2.2⟩
 isSet:=λx=>by
  obtain⟨_,_,_,_,x,_⟩:=x
  exact⟨_,x.at_,rfl⟩
 nil:=λe=>⟨#[],0,_,[],⟨e,rfl⟩,⟨.nil,rfl,rfl,.inl rfl,λj e z=>absurd z aH⟩,show 0*5<7*3 by decide,rfl,λp hp=>absurd hp aH,.nil,rfl,.inr rfl⟩
 add:=by
  intro A E s a S v k Q hu x ev hb h
  obtain⟨b,rfl,hk,hne,hB⟩:=ev
  obtain⟨es,ep,t,ps,x,T,hr,he,hs,hp,hl,hpl⟩:=x
  have hz:es.size=S.length:=by rw[<-hp.length_eq,aA,<-aq,he,aA]
  have hmem:(∃ e∈es.toList,wG.Et (bB prog w) s.heap e k)↔k∈S:=by
   rw[<-hp.mem_iff,he,aO]
   constructor
   ·rintro⟨e,h1,h2⟩
    obtain⟨p,h3,rfl⟩:=aO.1 h1
    exact⟨p,h3,ahf (hs p h3).1 h2⟩
   ·rintro⟨p,h1,rfl⟩
    exact⟨p.1,aO.2 ⟨p,h1,rfl⟩,(hs p h1).1⟩
  unfold setAdd
  refine bW (ak (wpAny_pyHash_tuple hu hk ?_))
  refine wG.Wv (s:={ s with toks:=s.toks+(k.length+1) }) hu x T hr (by rw[hz];exact hb) (λe he'=>?_) hk hne (λy u hy=>?_) (λhin=>?_) λhno h' es' ep' t' sb x' T' hr' hp' hl' hpl'=>?_
  ·rw[he] at he'
   obtain⟨p,h3,rfl⟩:=aO.1 he'
   exact⟨_,(hs p h3).1⟩
  ·cases u <;> first | cases hy | rfl
  ·exact h false s.heap _ (tO a s.heap) ⟨es,ep,t,ps,x,T,hr,he,hs,by unfold Dv;rw[if_pos (hmem.1 hin)];exact hp,hl,hpl⟩
  ·have hk':k∉S:=λz=>by
    obtain⟨e,h1,q⟩:=hmem.2 z
    exact hno e h1 q
   obtain⟨qs,h1,h2⟩:=aa2 hp' (ps:=ps++[((tupleKeyHash (bB prog w) k,.ref b),k)]) (by rw[aX,he];rfl)
   have st:∀ c o,s.heap.get? c=some o->o.cls=.type "tuple"->h'.get? c=some o:=λc o e z=>(sb.2 c λec=>by
    subst ec
    rw[x.at_] at e;cases e
    exact absurd (show mJ "set" = .type "tuple" from z) (by decide)).trans e
   refine h true h' _ sb ⟨es',ep',t',qs,x',T',hr',h1,λp hpm=>(λz:_/\_=>⟨abb st z.1,z.2⟩) ?_,?_,hl'.trans hl,.inl hpl'⟩
   ·rcases aR.1 (h2.mem_iff.1 hpm) with z | z
    ·exact hs p z
    ·rw[aC.1 z];exact⟨⟨b,rfl,hk⟩,b,rfl,hB⟩
   ·unfold Dv
    rw[if_neg hk']
    refine(h2.map _).trans ?_
    rw[aX]
    exact hp.append_right _
end
end wF
end
section
open PySem PyProof.Rows PySem.Calls
noncomputable def er:Value->Value
 | .int i _=>.int i 0
 | .float b _=>.float b 0
 | .str x _=>.str x 0
 | .bytes b _=>.bytes b 0
 | v=>v
noncomputable def re:Value->Tok->Value
 | .int i _,t=>.int i t
 | .float b _,t=>.float b t
 | .str x _,t=>.str x t
 | .bytes b _,t=>.bytes b t
 | v,_=>v
noncomputable def ut:Value->Tok
 | .int _ t | .float _ t | .str _ t | .bytes _ t=>t
 | _=>0
theorem ahg (V:Value):re (er V) (ut V)=V:=by cases V <;> rfl
theorem Cm {V v:Value}(h:er V=v):V=re v (ut V):=(ahg V).symm.trans (congrArg (re · (ut V)) h)
theorem Ln {V:Value}{x:Str}{t:Tok}(h:er V=.str x t):∃ u,V=.str x u:=⟨_,Cm h⟩
theorem RG {V:Value}{b:Bool}(h:er V=.bool b):V=.bool b:=Cm h
theorem Wy {V:Value}(h:er V=.none):V=.none:=Cm h
theorem Ih {V:Value}{a:Addr}(h:er V=.ref a):V=.ref a:=Cm h
inductive xH where
 | list (xs:List Value)
 | rlist (xs:List Value)
 | tup (xs:List Value)
 | xV (kvs:List (Int×Value))
 | Ah (kvs:List (Str×Value))
 | Ai (kvs:List (List Str×Addr×Value))
 | inst (C d:Addr)
 | ns (kvs:List (Str×Value))
 | range (lo hi st:Int)
 | tab (ks:List Addr)
 | code
noncomputable abbrev Hp:=Addr->Option xH
noncomputable abbrev Loc:=Str->Option Value
noncomputable abbrev QV:=Value->Hp->Prop
noncomputable abbrev XV:=Addr->Hp->Prop
noncomputable def Hp.upd (H:Hp)(a:Addr)(o:xH):Hp:=λb=>if b=a then some o else H b
noncomputable def Loc.upd (l:Loc)(x:Str)(v:Value):Loc:=λy=>if y=x then some v else l y
noncomputable def Loc.del (l:Loc)(x:Str):Loc:=λy=>if y=x then none else l y
theorem Hp.wQ (H:Hp)(a:Addr)(o:xH):H.upd a o a=some o:=if_pos rfl
theorem Hp.xJ (H:Hp){a b:Addr}(o:xH)(h:b≠a):H.upd a o b=H b:=if_neg h
theorem Hp.Wz {H:Hp}{a:Addr}{o':xH}{R:Addr->xH->Prop}(h:∀ b o,b≠a->H b=some o->R b o)(ha:R a o')(b:Addr)(o:xH)(e:H.upd a o' b=some o):R b o:=by
 by_cases q:b=a
 ·rw[q,Hp.wQ] at e;cases e;exact q▸ha
 ·exact h b o q ((Hp.xJ H o' q).symm.trans e)
structure Pm where
 prog:Program
 w:World
 s₀:Shared
 mg:Str->Option Value
 mb:Str->Option Value
 K:qb
 lam:Option (Addr×Addr×Str)
noncomputable abbrev Pm.base (P:Pm):Heap:=P.s₀.heap
noncomputable abbrev Pm.M (P:Pm):Model:=model P.prog P.w
structure zY (P:Pm):Prop where
 g:P.base.Ns mainGlobals P.mg
 b:P.base.Ns builtinsNs P.mb
 lim:P.base.NoLimit
 Br:P.K.In P.base
 lam:∀ c T q,P.lam=some (c,T,q)->PySem.W.CodeHd P.base c T/\P.base.BuiltinsAt P.mg T
inductive wK {α β:Type}(R:α->β->Prop):List α->List β->Prop where
 | nil:wK R [] []
 | cons {a b as bs}:R a b->wK R as bs->wK R (a::as) (b::bs)
def FP (w:World)(es:List DictEntry)(kvs:List (Str×Value)):Prop :=
 wK (λe p=>(∃ t,e.key=.str p.1 t)/\er e.val=p.2/\e.hash=oA w.params p.1) es kvs
noncomputable abbrev Bs (vs:Array Value)(n:Nat):Obj:={ cls:=.type "list",dict:=none,data:=.seq vs n,slots:=#[] }
noncomputable def Ii (P:Pm)(h:Heap)(a:Addr):xH->Prop
 | .list xs=>∃ vs n,h.get? a=some (Bs vs n)/\vs.toList.map er=xs/\xs.length<=2^25
 | .rlist xs=>∃ vs,h.IsList a vs/\vs.toList.map er=xs/\xs.length<=2^25
 | .tup xs=>∃ vs,h.IsTuple a vs/\vs.toList.map er=xs/\xs.length<=2^25
 | .xV kvs=>∃ ks,h.DictOf (intKind P.prog P.w) a ks/\ks.map (λp=>(p.1,er p.2))=kvs
 | .Ah kvs=>∃ ks,h.DictOf (bB P.prog P.w) a ks/\ks.map (λp=>(p.1,er p.2))=kvs
 | .Ai kvs=>∃ o es ep,∃ ks:List (List Str×Addr×Value),h.get? a=some o/\o.ExactDict/\o.data=.dict es ep/\es.toList=ks.map (entryOfKey (tupleKind (bB P.prog P.w)))/\(ks.map (·.1)).Nodup/\ks.map (λp=>(p.1,p.2.1,er p.2.2))=kvs
 | .inst C d=>h.get? a=some { cls:=.ref C,dict:=some d,data:=.plain }
 | .ns kvs=>∃ es n,h.get? a=some { cls:=.type "dict",data:=.dict es n }/\FP P.w es.toList kvs/\(kvs.map (·.1)).Nodup
 | .range lo hi st=>∃ t u v,IsRange h a lo hi st t u v
 | .tab ks=>∃ c q ps,P.lam=some (c,a,q)/\h.get? a=some (PySem.W.tabObj ps)/\TriplesOk ps.toList/\∀ p v,codeAmong p ps.toList=some v->∃ k∈ks,v=.ref k
 | .code=>∃ c T q o vs t,P.lam=some (c,T,q)/\h.get? a=some o/\o.data=.fields vs/\vs[1]?=some (.str q t)
def Mt (P:Pm)(h:Heap)(a:Addr)(o:xH):Prop:=∃ O,h.get? a=some O/\∀ h':Heap,h'.get? a=some O->Ii P h' a o
section
variable {P:Pm}{h h':Heap}{a:Addr}{o:xH}
theorem Mt.here (m:Mt P h a o):Ii P h a o:=m.elim λuu x=>x.2 h x.1
theorem Mt.congr (e:h'.get? a=h.get? a)(m:Mt P h a o):Mt P h' a o:=m.elim λO x=>⟨O,e.trans x.1,x.2⟩
theorem Mt.some (m:Mt P h a o):∃ O,h.get? a=some O:=m.elim λO x=>⟨O,x.1⟩
theorem Dc {vs:Array Value}{n:Nat}(e:h.get? a=.some (Bs vs n))(hz:vs.size<=2^25):Mt P h a (.list (vs.toList.map er)):=⟨_,e,λuu e'=>⟨vs,n,e',rfl,by rw[aA,aq];exact hz⟩⟩
theorem WD {vs:Array Value}(x:h.IsTuple a vs)(hz:vs.size<=2^25):Mt P h a (.tup (vs.toList.map er)):=by
 obtain⟨O,e,r⟩:=x;exact⟨O,e,λuu e'=>⟨vs,⟨O,e',r⟩,rfl,by rw[aA,aq];exact hz⟩⟩
theorem abd {ks:List (Int×Value)}(x:h.DictOf (intKind P.prog P.w) a ks):Mt P h a (.xV (ks.map λp=>(p.1,er p.2))):=by
 obtain⟨O,es,ep,e,r⟩:=x;exact⟨O,e,λuu e'=>⟨ks,⟨O,es,ep,e',r⟩,rfl⟩⟩
theorem ahh {ks:List (Str×Value)}(x:h.DictOf (bB P.prog P.w) a ks):Mt P h a (.Ah (ks.map λp=>(p.1,er p.2))):=by
 obtain⟨O,es,ep,e,r⟩:=x;exact⟨O,e,λuu e'=>⟨ks,⟨O,es,ep,e',r⟩,rfl⟩⟩
theorem G9 {O:Obj}(e:h.get? a=.some O)(m:∀ h':Heap,h'.get? a=.some O->Ii P h' a o):Mt P h a o:=⟨O,e,m⟩
end
structure Fm where
 env:Env
 A:Around
 g:Addr->Option Obj
 fr:Addr->Option Data
 ro:Bool
noncomputable def Hf:Str := "looked"
structure xG (P:Pm)(F:Fm):Prop where
 kind:F.env.scope.kind=.function
 glob:F.env.globals=mainGlobals
 blt:F.env.builtins=builtinsNs
 base:∀ b o,P.base.get? b=some o->F.g b=some o
 above:P.base.objs.size<=F.env.locals
 lg:F.g F.env.locals=none
 lf:F.fr F.env.locals=none
 cl:∀ x c,(x,c)∈F.env.cells->c≠F.env.locals
 cg:F.ro=false->∀ x c,(x,c)∈F.env.cells->F.g c=none/\F.fr c=none
 apart:F.env.cells.Pairwise (λx y=>x.2≠y.2)
 cn:∀ x c,(x,c)∈F.env.cells->F.env.cells.lookup x=some c
 cf:∀ x c,(x,c)∈F.env.cells->F.fr c=none
 fg:∀ b d,F.fr b=some d->F.g b=none/\∀ vs,d≠.fields vs
 frames:∃ fenv outer,F.A.frames=some (fenv::outer)/\(F.ro=false->fenv=F.env/\F.env.frame=some F.env.locals) /\
  ∀ e∈fenv::outer,e.scope.kind≠.module/\∃ b,e.frame=some b/\(b=F.env.locals\/(F.fr b).isSome=true)
 hh:F.A.handled=none
 code:∀ c T q,P.lam=some (c,T,q)->F.env.kindOf Hf=some .local->F.env.code=.ref c/\F.env.qual++"<lambda>" = q
noncomputable def xH.BP:xH->Bool
 | .rlist _=>true
 | _=>false
noncomputable def xH.isD:xH->Bool
 | .xV _ | .Ah _ | .Ai _=>true
 | _=>false
structure Free (F:Fm)(a:Addr):Prop where
 g:F.g a=none
 fr:F.fr a=none
 l:a≠F.env.locals
 c:∀ x c,(x,c)∈F.env.cells->a≠c
structure Ob (P:Pm)(F:Fm)(h:Heap)(a:Addr)(o:xH):Prop where
 mt:Mt P h a o
 old:o.BP=true->∃ O,P.base.get? a=some O
 free:o.BP=false->Free F a
 big:o.isD=true->P.base.objs.size<=a
structure Inv (P:Pm)(F:Fm)(l:Loc)(H:Hp)(s:Shared):Prop where
 gens:s.gens=P.s₀.gens
 os:s.os=P.s₀.os
 keep:∀ b o,F.g b=some o->s.heap.get? b=some o
 yX:∀ b d,F.fr b=some d->∃ o,s.heap.get? b=some o/\o.data=d
 loc:∃ m,s.heap.Ns F.env.locals m/\∀ x v,l x=some v->F.env.kindOf x=some .local->∃ V,m x=some V/\er V=v
 z9:∀ x c,F.env.cells.lookup x=some c->∃ vo,s.heap.IsCell c vo /\
  ∀ v,l x=some v->(F.env.kindOf x=some .cell\/F.env.kindOf x=some .free)->∃ V,vo=some V/\er V=v
 ob:∀ a o,H a=some o->Ob P F s.heap a o
structure Off (F:Fm)(H:Hp)(a:Addr):Prop where
 h:H a=none
 f:Free F a
section
variable {P:Pm}{F:Fm}{l:Loc}{H:Hp}{s:Shared}
theorem Inv.toks (I:Inv P F l H s)(t:Nat):Inv P F l H { s with toks:=t }:=⟨I.gens,I.os,I.keep,I.yX,I.loc,I.z9,I.ob⟩
theorem Inv.objs (I:Inv P F l H s){a:Addr}{o:xH}(h:H a=some o):Ii P s.heap a o:=(I.ob a o h).mt.here
theorem Inv.ahi (I:Inv P F l H s){a:Addr}{o:xH}(h:H a=some o):a<s.heap.objs.size:=(I.ob a o h).mt.elim λuu x=>bM x.1
theorem none_of {α:Type}{o:Option α}(h:∀ a,o=some a->False):o=none:=by
 cases o with
 | none=>rfl
 | some a=>exact(h a rfl).elim
theorem xr {α:Type}{o:Option α}{a:α}(h:o=some a)(h2:o=none):False:=by rw[h] at h2;cases h2
theorem Inv.fresh (I:Inv P F l H s):H s.heap.objs.size=none:=none_of λuu e=>gj _ (I.ahi e)
theorem Inv.off (K:xG P F)(I:Inv P F l H s){a:Addr}(n:s.heap.get? a=none):Off F H a where
 h:=none_of λo e=>(I.ob a o e).mt.elim λuu x=>xr x.1 n
 f :=
  {
   g:=none_of λo e=>xr (I.keep a o e) n
   fr:=none_of λo e=>(I.yX a o e).elim λuu x=>xr x.1 n
   l:=λq=>by obtain⟨_,⟨_,_,_,ho,_⟩,_⟩:=I.loc;exact xr ho (q▸n)
   c:=λx c hm q=>by obtain⟨_,⟨_,ho,_⟩,_⟩:=I.z9 x c (K.cn x c hm);exact xr ho (q▸n) }
theorem Inv.ofSize (K:xG P F)(I:Inv P F l H s):Off F H s.heap.objs.size:=I.off K (jK (aD _))
theorem Inv.Dd (K:xG P F)(I:Inv P F l H s):P.base.objs.size<=s.heap.objs.size:=I.loc.elim λuu x=>aQ (aK K.above x.1.lt)
theorem OJ {h h':Heap}{a:Addr}{m:Str->Option Value}(x:h.Ns a m)(k:∀ o,h.get? a=some o->h'.get? a=some o):h'.Ns a m:=by
 obtain⟨o,es,ep,ho,r⟩:=x;exact⟨o,es,ep,k o ho,r⟩
theorem Inv.RJ (K:xG P F)(I:Inv P F l H s){h':Heap}{t:Nat}(k:∀ b o,s.heap.get? b=some o->b≠F.env.locals->¬Off F H b->h'.get? b=some o)
  {m:Str->Option Value} (hn:h'.Ns F.env.locals m) {l':Loc}
  (hm:∀ x v,l' x=some v->F.env.kindOf x=some .local->∃ V,m x=some V/\er V=v)
  (hc:∀ x v,l' x=some v->(F.env.kindOf x=some .cell\/F.env.kindOf x=some .free)->l x=some v):Inv P F l' H { s with heap:=h',toks:=t } where
 gens:=I.gens
 os:=I.os
 keep:=λb o e=>k b o (I.keep b o e) (λq=>xr e (q▸K.lg)) λq=>xr e q.f.g
 yX:=λb d e=>(I.yX b d e).elim λo x=>⟨o,k b o x.1 (λq=>xr e (q▸K.lf)) λq=>xr e q.f.fr,x.2⟩
 loc:=⟨m,hn,hm⟩
 z9:=λx c e=>(I.z9 x c e).elim λvo z=>⟨vo,z.1.elim λo y=>⟨o,k _ _ y.1 (K.cl x c (mem_of_lookup e)) λq=>q.f.c x c (mem_of_lookup e) rfl,y.2⟩,λv hv hk=>z.2 v (hc x v hv hk) hk⟩
 ob:=λa o e=>by
  have b:=I.ob a o e
  obtain⟨O,ho⟩:=b.mt.some
  refine⟨b.mt.congr ((k _ _ ho (λq=>?_) λq=>xr e q.h).trans ho.symm),b.old,b.free,b.big⟩
  cases hr:o.BP with
  | false=>exact(b.free hr).l q
  | true=>obtain⟨O,e'⟩:=b.old hr;exact xr (K.base _ _ e') (q▸K.lg)
theorem Inv.step (K:xG P F)(I:Inv P F l H s){h':Heap}{t:Nat}(k:∀ b o,s.heap.get? b=some o->¬Off F H b->h'.get? b=some o):Inv P F l H { s with heap:=h',toks:=t } :=
 I.loc.elim λuu x=>I.RJ K (λb o e uu hn=>k b o e hn) (OJ x.1 λo e=>k _ o e λq=>q.f.l rfl) x.2 λuu uu h uu=>h
theorem Inv.kept (K:xG P F)(I:Inv P F l H s){h':Heap}{t:Nat}(k:∀ b o,s.heap.get? b=some o->h'.get? b=some o):Inv P F l H { s with heap:=h',toks:=t }:=I.step K λb o e uu=>k b o e
theorem Inv.push (K:xG P F)(I:Inv P F l H s)(o:Obj):Inv P F l H { s with heap:=s.heap.push o }:=I.kept K (t:=s.toks) λuu uu e=>aJ o e
theorem Inv.track (I:Inv P F l H s){a:Addr}{o:xH}(of:Off F H a)(hz:P.base.objs.size<=a)(m:Mt P s.heap a o)(hr:o.BP=false:=by rfl):Inv P F l (H.upd a o) s :=
 ⟨I.gens,I.os,I.keep,I.yX,I.loc,I.z9,Hp.Wz (λb o uu e=>I.ob b o e) ⟨m,λq=>absurd (q.symm.trans hr) (by decide),λuu=>of.f,λuu=>hz⟩⟩
theorem Inv.alloc (K:xG P F)(I:Inv P F l H s){O:Obj}{o:xH}{t:Nat}(m:Mt P (s.heap.push O) s.heap.objs.size o)(hr:o.BP=false:=by rfl):Inv P F l (H.upd s.heap.objs.size o) { s with heap:=s.heap.push O,toks:=t } :=
 (I.kept K λuu uu e=>aJ O e).track (I.ofSize K) (I.Dd K) m hr
theorem Inv.putL (K:xG P F)(I:Inv P F l H s){h':Heap}{t:Nat}{a:Addr}{o o':xH}(ha:H a=some o)(k:∀ b O,s.heap.get? b=some O->b≠a->b≠F.env.locals->h'.get? b=some O)
  {m:Str->Option Value} (hn:h'.Ns F.env.locals m) (hm:∀ x v,l x=some v->F.env.kindOf x=some .local->∃ V,m x=some V/\er V=v) (mt:Mt P h' a o') (hb:o'.isD=true->o.isD=true:=by exact id) (hr:o.BP=false:=by rfl) (hr':o'.BP=false:=by rfl) :
  Inv P F l (H.upd a o') { s with heap:=h',toks:=t }:=by
 have fr:=(I.ob a o ha).free hr
 have I':Inv P F l (λb=>if b=a then none else H b) { s with heap:=h',toks:=t }:=by
  have J:Inv P F l (λb=>if b=a then none else H b) s:=⟨I.gens,I.os,I.keep,I.yX,I.loc,I.z9,λb o e=>I.ob b o (by
   by_cases q:b=a
   ·rw[if_pos q] at e;cases e
   ·rw[if_neg q] at e;exact e)⟩
  exact J.RJ K (λb O e hl hn=>k b O e (λq=>hn ⟨if_pos q,q▸fr⟩) hl) hn hm λuu uu h uu=>h
 refine⟨I'.gens,I'.os,I'.keep,I'.yX,I'.loc,I'.z9,Hp.Wz (λb o hne e=>I'.ob b o ((if_neg hne).trans e)) ⟨mt,λq=>absurd (q.symm.trans hr') (by decide),λuu=>fr,λq=>(I.ob a o ha).big (hb q)⟩⟩
theorem Inv.put (K:xG P F)(I:Inv P F l H s){h':Heap}{t:Nat}{a:Addr}{o o':xH}(ha:H a=some o)(k:∀ b,b≠a->h'.get? b=s.heap.get? b)(m:Mt P h' a o')(hb:o'.isD=true->o.isD=true:=by exact id)(hr:o.BP=false:=by rfl)(hr':o'.BP=false:=by rfl) :
  Inv P F l (H.upd a o') { s with heap:=h',toks:=t } :=
 I.loc.elim λuu x=>I.putL K ha (λb uu e hne uu=>(k b hne).trans e) (OJ x.1 λuu e=>(k _ (cH ((I.ob a o ha).free hr).l)).trans e) x.2 m hb hr hr'
end
noncomputable def JN (base h:Heap)(L:Addr):List (Addr×Obj):=(dw h.objs.size).filterMap λa=>if a=L\/(base.get? a).isSome=true then none else(h.get? a).map (a,·)
theorem O1 {base h:Heap}{L a:Addr}{o:Obj}(ho:h.get? a=some o)(hl:a≠L)(hb:base.get? a=none):(a,o)∈JN base h L :=
 List.mem_filterMap.mpr ⟨a,List.mem_range.mpr (bM ho),by rw[if_neg (λz=>z.elim hl λy=>by rw[hb] at y;cases y),ho];rfl⟩
set_option tactic.hygienic true in
theorem WK {base h:Heap}{L a:Addr}{p:Addr×Obj}(e:(if a=L\/(base.get? a).isSome=true then none else(h.get? a).map (a,·))=some p):p.1=a/\h.get? a=some p.2/\a≠L/\base.get? a=none:=by
 split at e
 ·cases e
 ·rename_i hn
  obtain⟨o,ho,rfl⟩:=bG.1 e
  exact⟨rfl,ho,λz=>hn (.inl z),none_of λo z=>hn (.inr (by rw[z];rfl))⟩
theorem O2 (base h:Heap)(L:Addr):News base L h (JN base h L):=λp hp=>by
 obtain⟨a,_,e⟩:=List.mem_filterMap.mp hp
 obtain⟨h1,h2⟩:=WK e
 rw[h1];exact h2
theorem ahj {base h:Heap}{L a:Addr}{o:Obj}(hm:(a,o)∈JN base h L):∃ pre post,JN base h L=pre++(a,o)::post/\(∀ p∈pre,p.1≠a)/\∀ p∈post,p.1≠a:=by
 obtain⟨pre,post,e⟩:=List.append_of_mem hm
 have hp:(JN base h L).Pairwise λp q=>p.1≠q.1:=kI.2 (List.pairwise_lt_range.imp λhab p hp q hq=>by
  rw[(WK hp).1,(WK hq).1];exact bQ hab)
 rw[e] at hp
 obtain⟨_,h2,h3⟩:=List.pairwise_append.mp hp
 exact⟨pre,post,e,λp hp=>h3 p hp (a,o) (.head _),λp hp=>((List.pairwise_cons.mp h2).1 p hp).symm⟩
section
variable {P:Pm}{F:Fm}{l:Loc}{H:Hp}{s:Shared}{E:Value->Shared->Prop}
theorem Inv.fr (K:xG P F)(I:Inv P F l H s):∃ m,Fr P.base F.env.locals s.heap m/\∀ x v,l x=some v->F.env.kindOf x=some .local->∃ V,m x=some V/\er V=v :=
 I.loc.elim λm x=>⟨m,⟨x.1,λb o e=>I.keep b o (K.base b o e),K.above⟩,x.2⟩
theorem Inv.after (K:xG P F)(I:Inv P F l H s){h':Heap}{t:Nat}{m:Str->Option Value}{news:List (Addr×Obj)}
  (hm:∀ x v,l x=some v->F.env.kindOf x=some .local->∃ V,m x=some V/\er V=v) (F':Fr P.base F.env.locals h' m) (N':News P.base F.env.locals h' news)
  (hsub:∀ p∈JN P.base s.heap F.env.locals,p∈news):Inv P F l H { s with heap:=h',toks:=t } :=
 I.RJ K (λb o e hb uu=>by
  cases q:P.base.get? b with
  | some o'=>exact(F'.keep b o' q).trans (((I.keep b o' (K.base b o' q)).symm.trans e))
  | none=>exact(N' _ (hsub _ (O1 e hb q))).1) F'.ns hm λuu uu h uu=>h
def Own (env:Env)(x:Str):Prop:=env.kindOf x=some .local\/((env.kindOf x=some .cell\/env.kindOf x=some .free)/\∃ c,env.cells.lookup x=some c)
theorem abe (K:xG P F)(I:Inv P F l H s){x:Str}{pos:Pos}{v:Value}{Q:Value->Shared->Prop}(hv:l x=some v)(ho:Own F.env x)(hd:(x==("__debug__" : Str))=false)(hcd:(x==("__classdict__" : Str))=false)
  (h:∀ V,er V=v->Q V s):wpAny P.M F.A (eval (.Name x pos) F.env) Q E s:=by
 refine wpAny_Name ?_ hd
 rcases ho with hl | ⟨hk,c,hc⟩
 ·obtain⟨m,hn,q⟩:=I.loc
  obtain⟨V,hV,e⟩:=q x v hv hl
  exact wpAny_loadName_local K.kind hl hn hV (h V e)
 ·obtain⟨vo,hi,q⟩:=I.z9 x c hc
  obtain⟨V,rfl,e⟩:=q v hv hk
  exact hk.elim (λhk=>wpAny_loadName_cell K.kind hk hc hi (h V e)) λhk=>wpAny_loadName_free K.kind hk hc hi (h V e) hcd
theorem Inv.Ij (K:xG P F)(I:Inv P F l H s)(b:Addr)(o:Obj)(e:P.base.get? b=some o):s.heap.get? b=some o:=I.keep b o (K.base b o e)
theorem RK (Y:zY P)(K:xG P F)(I:Inv P F l H s){A:Around}{x:Str}{pos:Pos}{v:Value}{Q:Value->Shared->Prop}(hv:P.mg x=some v\/(P.mg x=none/\P.mb x=some v))(hk:F.env.kindOf x=some .globalImplicit)(hd:(x==("__debug__" : Str))=false)
  (h:Q v s):wpAny P.M A (eval (.Name x pos) F.env) Q E s :=
 Calls.Name_function_global K.kind hk (hv.elim (λhv=>Calls.loadGlobal_global (K.glob.symm▸Y.g.keeps (I.Ij K)) hv h) λhv=>Calls.loadGlobal_builtin (K.glob.symm▸Y.g.keeps (I.Ij K)) hv.1 (K.blt.symm▸Y.b.keeps (I.Ij K)) hv.2 h) hd
theorem Loc.JQ {x y:Str}{v w:Value}(h:Loc.upd l x v y=some w):y=x/\v=w\/y≠x/\l y=some w:=by
 by_cases e:y=x
 ·exact .inl ⟨e,jh ((if_pos e).symm.trans h)⟩
 ·exact .inr ⟨e,(if_neg e).symm.trans h⟩
theorem WL (K:xG P F)(I:Inv P F l H s)(Hg:F.ro=false){x:Str}{V:Value}{Q:Unit->Shared->Prop}(ho:F.env.kindOf x=some .local\/(F.env.kindOf x=some .cell/\∃ c,F.env.cells.lookup x=some c))
  (h:∀ s',Inv P F (l.upd x (er V)) H s'->Q () s'):wpAny P.M F.A (storeName F.env x V) Q E s:=by
 rcases ho with hl | ⟨hk,c,hc⟩
 ·obtain⟨m,hn,q⟩:=I.loc
  refine wpAny_storeName_local hl hn (λh' hn' hs=>h _ (I.RJ K (t:=s.toks+1) (λb o e hb uu=>hs.extBut b o hb e) hn' (λy v hy hky=>?_) λy v hy hky=>?_)) (by rw[K.kind];rfl)
  ·rcases Loc.JQ hy with⟨e,z⟩ | ⟨e,z⟩
   ·exact⟨V,if_pos e,z⟩
   ·obtain⟨W,h1,h2⟩:=q y v z hky
    exact⟨W,(if_neg e).trans h1,h2⟩
  ·rcases Loc.JQ hy with⟨e,_⟩ | ⟨_,z⟩
   ·rw[e,hl] at hky;exact hky.elim (λz=>by cases z) λz=>by cases z
   ·exact z
 ·obtain⟨vo,hi,q⟩:=I.z9 x c hc
  have hm:=mem_of_lookup hc
  have g1:=K.cg Hg x c hm
  refine wpAny_storeName_cell K.kind hk hc hi λh' hi' hs=>h _ ?_
  have other:∀ {b o},b≠c->s.heap.get? b=some o->h'.get? b=some o:=λhb e=>(hs.2 _ hb).trans e
  refine⟨I.gens,I.os,λb o e=>other (λz=>xr e (z▸g1.1)) (I.keep b o e),λb d e=>(I.yX b d e).elim λo z=>⟨o,other (λz=>xr e (z▸g1.2)) z.1,z.2⟩,?_,λy c' e=>?_,λa o e=>?_⟩
  ·refine I.loc.elim λm z=>⟨m,OJ z.1 λo e=>other (cH (K.cl x c hm)) e,λy v hy hky=>?_⟩
   rcases Loc.JQ hy with⟨e,_⟩ | ⟨_,y2⟩
   ·rw[e,hk] at hky;cases hky
   ·exact z.2 y v y2 hky
  ·by_cases z:y=x
   ·subst z
    rw[hc] at e;cases e
    exact⟨some V,hi',λv hv uu=>⟨V,rfl,(Loc.JQ hv).elim (λy=>y.2) λy=>absurd rfl y.1⟩⟩
   ·refine(I.z9 y c' e).elim λvo' w=>⟨vo',w.1.elim λo w1=>⟨o,other (λw2=>z (name_of_addr K.apart (mem_of_lookup e) (w2▸hm))) w1.1,w1.2⟩,λv hv hky=>w.2 v ((Loc.JQ hv).elim (λy=>absurd y.1 z) λy=>y.2) hky⟩
  ·have b:=I.ob a o e
   obtain⟨O,ho⟩:=b.mt.some
   refine⟨b.mt.congr ((other (λq=>?_) ho).trans ho.symm),b.old,b.free,b.big⟩
   cases hr:o.BP with
   | false=>exact(b.free hr).c x c hm q
   | true=>obtain⟨O,e'⟩:=b.old hr;exact xr (K.base _ _ e') (q▸g1.1)
end
noncomputable def zK (sc:Scope)(x:Str):Option Bool :=
 match sc.names.lookup x with
 | some .local | some .cell | some .free=>some true
 | some .globalImplicit=>some false
 | _=>none
structure Gx where
 glob:Str->Option Value
 fn:Addr->List Value->Hp->QV->XV->Prop
 meth:Addr->Str->Option Addr
 init:Addr->Option Addr
 isExc:Addr->Bool
 sub:Addr->Addr->Bool
 fld:Addr->Str->Bool
def Ex:Type:=Gx->Loc->Hp->QV->XV->Prop
noncomputable abbrev U1:=Value->Hp->QV->Prop
noncomputable abbrev B2:=Value->Value->Hp->QV->Prop
noncomputable abbrev N9:=List Value->Hp->QV->Prop
inductive On {α:Type}(o:α->xH)(v:Value)(H:Hp)(k:Addr->α->Prop):Prop where
 | mk (p:Addr) (x:α) (e:v=.ref p) (h:H p=some (o x)) (q:k p x):On o v H k
inductive Ac (v:Value)(k:Int->Prop):Prop where
 | mk (i:Int) (e:v=.int i 0) (q:k i):Ac v k
inductive Cp (v:Value)(k:Str->Prop):Prop where
 | mk (x:Str) (e:v=.str x 0) (q:k x):Cp v k
@[elab_as_elim] theorem On.use {α:Type}{o:α->xH}{A:Value}{H:Hp}{k:Addr->α->Prop}{motive:Value->Prop}(h:On o (er A) H k)(r:∀ p x,H p=some (o x)->k p x->motive (.ref p)):motive A:=by
 obtain⟨p,x,e,h,q⟩:=h;exact Cm e▸r p x h q
@[elab_as_elim] theorem Ac.use {A:Value}{k:Int->Prop}{motive:Value->Prop}(h:Ac (er A) k)(r:∀ i t,k i->motive (.int i t)):motive A:=by
 obtain⟨p,e,q⟩:=h;exact Cm e▸r p _ q
@[elab_as_elim] theorem Cp.use {A:Value}{k:Str->Prop}{motive:Value->Prop}(h:Cp (er A) k)(r:∀ i t,k i->motive (.str i t)):motive A:=by
 obtain⟨p,e,q⟩:=h;exact Cm e▸r p _ q
def Ik {α:Type}(o:Option α)(k:α->Prop):Prop:=∃ v,o=some v/\k v
def zL (v:Value)(k:Bool->Prop):Prop:=match v with | .bool b=>k b | _=>False
theorem abf {v:Value}{k:Bool->Prop}(h:zL v k):∃ b,v=.bool b/\k b:=by cases v <;> first | exact h.elim | exact⟨_,rfl,h⟩
noncomputable def Cz (G:Gx):List Ex->Loc->Hp->(List Value->Hp->Prop)->XV->Prop
 | [],_,H,Q,_=>Q [] H
 | e::es,l,H,Q,X=>e G l H (λv H1=>Cz G es l H1 (λvs H2=>Q (v::vs) H2) X) X
def newV (o:xH)(H:Hp)(Q:QV):Prop:=∀ c,H c=none->Q (.ref c) (H.upd c o)
inductive JR (v:Value)(H:Hp)(k:Addr->Addr->Addr->List (Str×Value)->Prop):Prop where
 | mk (x C d:Addr) (kvs:List (Str×Value)) (e:v=.ref x) (h:H x=some (.inst C d)) (hd:H d=some (.ns kvs)) (q:k x C d kvs):JR v H k
@[elab_as_elim] theorem JR.use {A:Value}{H:Hp}{k:Addr->Addr->Addr->List (Str×Value)->Prop}{motive:Value->Prop}(h:JR (er A) H k)(r:∀ x C d kvs,H x=some (.inst C d)->H d=some (.ns kvs)->k x C d kvs->motive (.ref x)):motive A:=by
 obtain⟨x,C,d,kvs,e,h,hd,q⟩:=h;exact Cm e▸r x C d kvs h hd q
def abg (w:Value):Prop:=∀ b,w≠.builtin b
def abh (G:Gx)(a:Str):U1:=λv H Q=>JR v H λuu C uu kvs=>G.fld C a=true/\Ik (valueAt kvs a) λw=>abg w/\Q w H
def abj (G:Gx)(f:Value)(args:List Value)(H:Hp)(Q:QV)(X:XV):Prop:=∃ a,f=.ref a /\
 ((G.init a=none/\G.fn a args H Q X)\/∃ fi,G.init a=some fi/\∀ d x,H d=none->H x=none->d≠x->G.fn fi (.ref x::args) ((H.upd d (.ns [])).upd x (.inst a d)) (λr H'=>r=.none/\Q (.ref x) H') X)
def abk (G:Gx)(v:Value)(m:Str)(H:Hp)(k:Addr->Prop):Prop:=JR v H λuu C uu kvs=>valueAt kvs m=none/\Ik (G.meth C m) k
noncomputable def Hh (guard:Hp->Prop)(step:Value->Hp->(Option Value->Hp->Prop)->Prop):List Value->List Value->Hp->(List Value->Hp->Prop)->Prop
 | [],acc,H,k=>guard H/\k acc H
 | v::vs,acc,H,k=>guard H/\step v H λr H'=>Hh guard step vs (acc++r.toList) H' k
def abl (ifs:Option Ex)(G:Gx)(l:Loc)(H:Hp)(k:Bool->Hp->Prop):Prop:=match ifs with
 | none=>k true H
 | some c=>c G l H (λv H1=>zL v λb=>k b H1) (λuu uu=>False)
noncomputable def Il (G:Gx)(elt:Ex)(ifs:Option Ex)(l:Loc)(x:Str):Value->Hp->(Option Value->Hp->Prop)->Prop:=λv H2 k =>
 abl ifs G ((l.del ".0").upd x v) H2 λr H3=>if r then elt G ((l.del ".0").upd x v) H3 (λu H4=>k (some u) H4) (λuu uu=>False) else k none H3
noncomputable abbrev It:=Value->Hp->((Hp->Prop)->List Value->Prop)->Prop
namespace Ex
noncomputable def k (v:Value):Ex:=λuu uu H Q uu=>Q v H
noncomputable def loc (x:Str):Ex:=λuu l H Q uu=>∃ v,l x=some v/\Q v H
noncomputable def glob (x:Str):Ex:=λG uu H Q uu=>∃ v,G.glob x=some v/\Q v H
noncomputable def u (f:U1)(e:Ex):Ex:=λG l H Q X=>e G l H (λv H1=>f v H1 Q) X
noncomputable def b (f:B2)(x y:Ex):Ex:=λG l H Q X=>x G l H (λv H1=>y G l H1 (λw H2=>f v w H2 Q) X) X
noncomputable def n (f:N9)(es:List Ex):Ex:=λG l H Q X=>Cz G es l H (λvs H1=>f vs H1 Q) X
noncomputable def attr (o:Ex)(a:Str):Ex:=λG l H Q X=>o G l H (λv H1=>abh G a v H1 Q) X
noncomputable def not (e:Ex):Ex:=λG l H Q X=>e G l H (λv H1=>zL v λb=>Q (.bool (!b)) H1) X
noncomputable def and (x y:Ex):Ex:=λG l H Q X=>x G l H (λv H1=>zL v λb=>if b then y G l H1 Q X else Q (.bool false) H1) X
noncomputable def or (x y:Ex):Ex:=λG l H Q X=>x G l H (λv H1=>zL v λb=>if b then Q (.bool true) H1 else y G l H1 Q X) X
noncomputable def RL (f g:B2)(x y z:Ex):Ex:=λG l H Q X=>x G l H (λv H1=>y G l H1 (λw H2=>f v w H2 λc H3=>zL c λr =>
 if r then z G l H3 (λt H4=>g w t H4 Q) X else Q (.bool false) H3) X) X
noncomputable def call (f:Ex)(args:List Ex):Ex:=λG l H Q X=>f G l H (λv H1=>Cz G args l H1 (λvs H2=>abj G v vs H2 Q X) X) X
noncomputable def meth (o:Ex)(m:Str)(args:List Ex):Ex:=λG l H Q X=>o G l H (λv H1=>abk G v m H1 λf=>Cz G args l H1 (λvs H2=>G.fn f (v::vs) H2 Q X) X) X
noncomputable def m (on:Value->Hp->Prop)(f:Value->N9)(o:Ex)(args:List Ex):Ex:=λG l H Q X=>o G l H (λv H1=>on v H1/\Cz G args l H1 (λvs H2=>f v vs H2 Q) X) X
noncomputable def comp (it:It)(elt:Ex)(x:Str)(src:Ex)(ifs:Option Ex):Ex:=λG l H Q X=>src G l H (λv H1=>it v H1 λguard items=>items.length<=sizeLine /\
 Hh guard (Il G elt ifs l x) items [] H1 λus H'=>newV (.list us) H' Q) X
end Ex
inductive Fl where
 | next | cont
 | ret (v:Value)
noncomputable abbrev QS:=Fl->Loc->Hp->Prop
noncomputable abbrev XS:=Addr->Loc->Hp->Prop
def Sm:Type:=Gx->Loc->Hp->QS->XS->Prop
noncomputable def wM (G:Gx):List Sm->Loc->Hp->QS->XS->Prop
 | [],l,H,Q,_=>Q .next l H
 | st::r,l,H,Q,X=>st G l H (λf l' H'=>match f with | .next=>wM G r l' H' Q X | f=>Q f l' H') X
noncomputable def Hi (guard:Hp->Prop)(x:Str)(body:Loc->Hp->QS->Prop):List Value->Loc->Hp->QS->Prop
 | [],l,H,Q=>guard H/\Q .next l H
 | v::vs,l,H,Q=>guard H/\body (l.upd x v) H λf l' H'=>match f with
  | .next | .cont=>Hi guard x body vs l' H' Q
  | .ret r=>Q (.ret r) l' H'
noncomputable def Lp (test:Loc->Hp->(Bool->Hp->Prop)->Prop)(body:Loc->Hp->QS->Prop)(Q:QS):Nat->Loc->Hp->Prop
 | 0,_,_=>False
 | n+1,l,H=>test l H λb H1=>if b then body l H1 (λf l' H'=>match f with
   | .next | .cont=>Lp test body Q n l' H'
   | .ret r=>Q (.ret r) l' H') else Q .next l H1
def RM (G:Gx)(o:Value)(a:Str)(v:Value)(H:Hp)(k:Hp->Prop):Prop:=JR o H λuu C d kvs=>(G.fld C a=true/\kvs.length<=100)/\k (H.upd d (.ns (stored kvs a v)))
noncomputable abbrev Lq:=Value->Value->Value->Hp->(Hp->Prop)->Prop
namespace Sm
noncomputable def expr (e:Ex):Sm:=λG l H Q X=>e G l H (λuu H'=>Q .next l H') (λC H'=>X C l H')
noncomputable def asg (x:Str)(e:Ex):Sm:=λG l H Q X=>e G l H (λv H'=>Q .next (l.upd x v) H') (λC H'=>X C l H')
noncomputable def Eb (o:Ex)(a:Str)(e:Ex):Sm:=λG l H Q X=>e G l H (λv H1=>o G l H1 (λov H2=>RM G ov a v H2 λH'=>Q .next l H') (λC H'=>X C l H')) (λC H'=>X C l H')
noncomputable def Eu (f:Lq)(o i e:Ex):Sm:=λG l H Q X=>e G l H (λv H1=>o G l H1 (λov H2=>i G l H2 (λiv H3=>f ov iv v H3 λH'=>Q .next l H') (λC H'=>X C l H')) (λC H'=>X C l H')) (λC H'=>X C l H')
noncomputable def ite (c:Ex)(t f:List Sm):Sm:=λG l H Q X=>c G l H (λv H1=>zL v λb=>if b then wM G t l H1 Q X else wM G f l H1 Q X) (λC H'=>X C l H')
noncomputable def for_ (it:It)(x:Str)(src:Ex)(body:List Sm):Sm:=λG l H Q X=>src G l H (λv H1=>it v H1 λguard items=>Hi guard x (λl' H' K=>wM G body l' H' K X) items l H1 Q) (λC H'=>X C l H')
noncomputable def Hj (c:Ex)(body:List Sm):Sm:=λG l H Q X=>∃ n,Lp (λl' H' K=>c G l' H' (λv H1=>zL v λb=>K b H1) (λC H'=>X C l' H')) (λl' H' K=>wM G body l' H' K X) Q n l H
noncomputable def ret (e:Ex):Sm:=λG l H Q X=>e G l H (λv H'=>Q (.ret v) l H') (λC H'=>X C l H')
noncomputable def raise (c:Str):Sm:=λG l H uu X=>∃ C,G.glob c=some (.ref C)/\G.isExc C=true/\X C l H
noncomputable def try_ (body:List Sm)(hs:List (Str×Value)):Sm:=λG l H Q X=>wM G body l H Q λC l' H'=>G.isExc C=true /\
 hs.foldr (λh r=>∃ D,G.glob h.1=some (.ref D)/\G.isExc D=true/\if G.sub C D then Q (.ret h.2) l' H' else r) (X C l' H')
noncomputable def cont:Sm:=λuu l H Q uu=>Q .cont l H
end Sm
def yq (G:Gx)(params:List Str)(body:List Sm)(args:List Value)(H:Hp)(Q:QV)(X:XV):Prop :=
 params.length=args.length/\wM G body (λx=>(params.zip args).lookup x) H
  (λf uu H'=>match f with | .next=>Q .none H' | .ret v=>Q v H' | .cont=>False) (λC uu H'=>X C H')
noncomputable def Ae (P:Pm)(F:Fm)(l:Loc)(Q:QV):Value->Shared->Prop:=λV s'=>∃ H',Inv P F l H' s'/\Q (er V) H'
structure Rt (P:Pm)(F:Fm):Prop where
 Y:zY P
 K:xG P F
 u:F.A.units+64<cLine
def Bg (m:Value->Sem Value)(f:U1):Prop:=∀ ⦃P:Pm⦄ ⦃F:Fm⦄ ⦃l:Loc⦄ ⦃H:Hp⦄ ⦃s:Shared⦄ ⦃E:Value->Shared->Prop⦄ ⦃Q:QV⦄ ⦃A:Value⦄,Rt P F->Inv P F l H s->f (er A) H Q->wpAny P.M F.A (m A) (Ae P F l Q) E s
def yI (m:Value->Value->Sem Value)(f:B2):Prop:=∀ ⦃P:Pm⦄ ⦃F:Fm⦄ ⦃l:Loc⦄ ⦃H:Hp⦄ ⦃s:Shared⦄ ⦃E:Value->Shared->Prop⦄ ⦃Q:QV⦄ ⦃A B:Value⦄,Rt P F->Inv P F l H s->f (er A) (er B) H Q->wpAny P.M F.A (m A B) (Ae P F l Q) E s
def BR (g:Int->Int->Value)(c:Int->Int->Prop):B2:=λa b H Q=>Ac a λx=>Ac b λy=>c x y/\Q (g x y) H
noncomputable def tt:Int->Int->Prop:=λuu uu=>True
theorem FQ {m:Value->Value->Sem Value}{g:Int->Int->Value}{c:Int->Int->Prop}(hm:∀ {prog w A E s} {R:Value->Shared->Prop} (x y:Int) (t u:Tok),c x y->(∀ W tk,er W=g x y->R W { s with toks:=tk })->wpAny (model prog w) A (m (.int x t) (.int y u)) R E s):yI m (BR g c):=by
 intro P F l H s E Q A B _ I h
 refine h.use ?_;intro x t h;refine h.use ?_;intro y u h
 exact hm x y _ _ h.1 λW tk e=>⟨H,I.toks tk,e▸h.2⟩
noncomputable abbrev vI (i:Int):Value:=.int i 0
abbrev zB:B2:=BR (λx y=>vI (x+y)) tt
abbrev Im:B2:=BR (λx y=>vI (x-y)) tt
abbrev Bu:B2:=BR (λx y=>vI (x*y)) λx y=>x.natAbs<2^63\/y.natAbs<2^63
abbrev yQ:B2:=BR (λx y=>vI (x/y)) λuu y=>0<y/\y<2^63
abbrev yj:B2:=BR (λx y=>vI (x%y)) λuu y=>0<y
abbrev WM:B2:=BR (λx y=>vI (x^y.toNat)) λx y=>0<=y/\y<=100/\x.natAbs<2^63
abbrev BW:B2:=BR (λx y=>.bool (decide (x=y))) tt
abbrev O4:B2:=BR (λx y=>.bool (!decide (x=y))) tt
abbrev ltI:B2:=BR (λx y=>.bool (decide (x<y))) tt
abbrev RN:B2:=BR (λx y=>.bool (decide (x<=y))) tt
abbrev gtI:B2:=BR (λx y=>.bool (decide (y<x))) tt
theorem Lr {α:Type}[DecidableEq α](x y:α):(x==y)=decide (x=y):=by rw[Bool.eq_iff_iff];simp
theorem CG:yI (binaryOp .Add) zB:=FQ λuu uu uu uu uu q=>add_int (q _ _ rfl)
theorem Ls:yI (binaryOp .Sub) Im:=FQ λuu uu uu uu uu q=>sub_int (q _ _ rfl)
theorem Lw:yI (compareOp .Lt) ltI:=FQ λ{_ _ _ _ s} _ _ _ _ _ _ q=>lt_int (q _ s.toks rfl)
theorem abm:yI (compareOp .LtE) RN:=FQ λ{_ _ _ _ s} _ _ _ _ _ _ q=>le_int (q _ s.toks rfl)
theorem ahk:yI (compareOp .Gt) gtI:=FQ λ{_ _ _ _ s} _ _ _ _ _ _ q=>gt_int (q _ s.toks rfl)
theorem FT:yI (compareOp .Eq) BW:=FQ λ{_ _ _ _ s} _ x y _ _ _ q=>eq_int (q _ s.toks (congrArg nJ (Lr x y)))
theorem WQ:yI (compareOp .NotEq) O4:=FQ λ{_ _ _ _ s} _ x y _ _ _ q=>ne_int (q _ s.toks (congrArg (λb=>nJ (!b)) (Lr x y)))
set_option tactic.hygienic true in
theorem abn {x:Int}(h:x.natAbs<2^63):tC x<=64:=by
 unfold tC
 split
 ·exact bL _
 ·rename_i h0
  exact dR ((Nat.log2_lt (n:=x.natAbs) (k:=63) (λq=>h0 (by simpa using q))).mpr h)
theorem Io:yI (binaryOp .Mult) Bu:=FQ λx y uu uu h q=>by
 refine mul_int (q _ _ rfl) ?_
 unfold IntMulOk shortFactorBits
 rcases h with h | h <;> (have:=abn h;simp;omega)
theorem Ar:yI (binaryOp .FloorDiv) yQ:=FQ λx y uu uu h q=>by
 refine floordiv_int (qU h.1) (q _ _ ?_) (.inl ?_)
 ·exact congrArg vI (Int.fdiv_eq_ediv_of_nonneg _ (iG h.1))
 ·unfold Builtin.divisionGoesByPylong
  have h0:¬y=0:=qU h.1
  have:y.natAbs.log2<63:=(Nat.log2_lt (λz=>h0 (Int.natAbs_eq_zero.1 z))).mpr (Int.natAbs_lt_natAbs_of_nonneg_of_lt (iG h.1) h.2)
  simp [h0]
  exact λz=>absurd z (iZ.2 (qI (aK (Nat.div_le_self ..) (aB this (show 63<=300 by decide)))))
theorem zE:yI (binaryOp .Mod) yj:=FQ λx y uu uu h q=>mod_int (qU h) (q _ _ (congrArg vI (Int.fmod_eq_emod_of_nonneg _ (iG h))))
theorem abo:yI (binaryOp .Pow) WM:=FQ λx y uu uu h q=>pow_int h.1 (iD (Int.mul_le_mul (dD.2 (abn h.2.2)) h.2.1 h.1 (by decide)) (by decide)) (q _ _ rfl)
def Gn (g:Str->Str->Value)(c:Str->Str->Prop):B2:=λa b H Q=>Cp a λx=>Cp b λy=>c x y/\Q (g x y) H
noncomputable def ts:Str->Str->Prop:=λuu uu=>True
theorem Lx {m:Value->Value->Sem Value}{g:Str->Str->Value}{c:Str->Str->Prop}(hm:∀ {prog w A E s} {R:Value->Shared->Prop} (x y:Str) (t u:Tok),c x y->(∀ W tk,er W=g x y->R W { s with toks:=tk })->wpAny (model prog w) A (m (.str x t) (.str y u)) R E s):yI m (Gn g c):=by
 intro P F l H s E Q A B _ I h
 refine h.use ?_;intro x t h;refine h.use ?_;intro y u h
 exact hm x y _ _ h.1 λW tk e=>⟨H,I.toks tk,e▸h.2⟩
abbrev JT:B2:=Gn (λx y=>.str (x++y) 0) λx y=>x.length+y.length<=sizeLine
abbrev FZ:B2:=Gn (λx y=>.bool (decide (x=y))) ts
abbrev neS:B2:=Gn (λx y=>.bool (!decide (x=y))) ts
abbrev ltS:B2:=Gn (λx y=>.bool (decide (x.cps.toList<y.cps.toList))) ts
abbrev gtS:B2:=Gn (λx y=>.bool (decide (y.cps.toList<x.cps.toList))) ts
abbrev inS:B2:=Gn (λx y=>.bool (uG y x)) ts
theorem WR:yI (binaryOp .Add) JT:=Lx λuu uu uu uu h q=>add_str (λuu tk=>q _ tk rfl) h
theorem JV:yI (compareOp .Eq) FZ:=Lx λ{_ _ _ _ s} _ x y _ _ _ q=>eq_str (q _ s.toks (congrArg nJ (Lr x y)))
theorem ahl:yI (compareOp .NotEq) neS:=Lx λ{_ _ _ _ s} _ x y _ _ _ q=>ne_str (q _ s.toks (congrArg (λb=>nJ (!b)) (Lr x y)))
theorem ahm:yI (compareOp .Lt) ltS:=Lx λ{_ _ _ _ s} _ _ _ _ _ _ q=>lt_str (q _ s.toks rfl)
theorem ahn:yI (compareOp .Gt) gtS:=Lx λ{_ _ _ _ s} _ _ _ _ _ _ q=>PySem.P.gt_str (q _ s.toks rfl)
theorem aho:yI (compareOp .In) inS:=Lx λ{_ _ _ _ s} _ _ _ _ _ _ q=>in_str (q _ s.toks rfl)
def WT:B2:=λa b H Q=>Cp a λx=>Ac b λn=>(x.length<=1/\1<=n/\n<=3)/\Q (.str (Txt.mul x n) 0) H
theorem abp {x:Str}{n:Int}(h1:x.length<=1)(h2:1<=n)(h3:n<=3):(x.length:Int)<=(2^63-1)/n/\x.length*n.toNat<=3:=by
 rcases (show n=1\/n=2\/n=3 from by omega) with e | e | e <;> subst e <;> exact⟨iD (dD.2 h1) (by decide),aj (dg _ h1) (by decide)⟩
theorem ahp:yI (binaryOp .Mult) WT:=by
 intro P F l H s E Q A B _ I h
 refine h.use ?_;intro x t h;refine h.use ?_;intro n u h
 obtain⟨⟨h1,h2,h3⟩,q⟩:=h
 refine SB.mul ⟨by simp;omega,λz uu=>gZ.2 (abp h1 h2 h3).1,λz uu=>?_⟩ (λt' tk=>⟨H,I.toks tk,q⟩)
 have:=(abp h1 h2 h3).2
 simp [tB,sizeLine];omega
noncomputable def oI:Option Int->Value
 | none=>.none
 | some i=>.int i 0
noncomputable def oS:Option Str->Value
 | none=>.none
 | some i=>.str i 0
def O5:B2:=λa b H Q=>∃ x y,a=oI x/\b=oI y/\Q (.bool (decide (x=y))) H
def Ip:B2:=λa b H Q=>∃ x y,a=oI x/\b=oI y/\Q (.bool (!decide (x=y))) H
def Ir:B2:=λa b H Q=>∃ x y,a=oS x/\b=.str y 0/\Q (.bool (decide (x=some y))) H
theorem WW {α:Type}[DecidableEq α](x y:α):(x==y)=decide (some x=some y):=(Lr x y).trans (decide_eq_decide.2 ⟨congrArg some,jh⟩)
theorem abq:yI (compareOp .Eq) O5:=by
 intro P F l H s E Q A B _ I h
 obtain⟨x,y,ha,hb,q⟩:=h
 rw[Cm ha,Cm hb]
 cases x <;> cases y
 ·exact EqNone.eq_none_none ⟨H,I,q⟩
 ·exact EqNone.eq_none_int ⟨H,I,q⟩
 ·exact EqNone.eq_int_none ⟨H,I,q⟩
 ·exact eq_int ⟨H,I,by rw[WW];exact q⟩
theorem WX:yI (compareOp .NotEq) Ip:=by
 intro P F l H s E Q A B _ I h
 obtain⟨x,y,ha,hb,q⟩:=h
 rw[Cm ha,Cm hb]
 cases x <;> cases y
 ·exact EqNone.ne_none_none ⟨H,I,q⟩
 ·exact EqNone.ne_none_int ⟨H,I,q⟩
 ·exact EqNone.ne_int_none ⟨H,I,q⟩
 ·exact ne_int ⟨H,I,by rw[bne,WW];exact q⟩
theorem RP:yI (compareOp .Eq) Ir:=by
 intro P F l H s E Q A B _ I h
 obtain⟨x,y,ha,hb,q⟩:=h
 rw[Cm ha,Cm hb]
 cases x
 ·exact EqNone.eq_none_str ⟨H,I,q⟩
 ·exact eq_str ⟨H,I,by rw[WW];exact q⟩
noncomputable def Lz (v:Value):Option Bool:=match v with
 | .none=>some true
 | .builtin _=>none
 | _=>some false
def Df:B2:=λa b H Q=>∃ r,b=.none/\Lz a=some r/\Q (.bool r) H
def LC:B2:=λa b H Q=>∃ r,b=.none/\Lz a=some r/\Q (.bool (!r)) H
theorem RQ {A:Value}{r:Bool}(h:Lz (er A)=some r):plainIs A .none=true/\(A==.none)=r:=by
 cases A <;> cases h <;> exact⟨rfl,rfl⟩
theorem Gp:yI (compareOp .Is) Df:=by
 intro P F l H s E Q A B _ I h
 obtain⟨r,hb,hr,q⟩:=h
 rw[Wy hb]
 exact wpAny_is_plain (RQ hr).1 ⟨H,I,by rw[(RQ hr).2];exact q⟩
theorem abr:yI (compareOp .IsNot) LC:=by
 intro P F l H s E Q A B _ I h
 obtain⟨r,hb,hr,q⟩:=h
 rw[Wy hb]
 exact wpAny_isNot_plain (RQ hr).1 ⟨H,I,by rw[(RQ hr).2];exact q⟩
section
variable {prog:Program}{w:World}{A:Around}{E:Value->Shared->Prop}{s:Shared}
theorem ne_nil {l b:Addr}{vs:Array Value}{Q:Value->Shared->Prop}(hl:s.heap.IsList l vs)(hb:s.heap.IsList b #[])(hu:A.units<cLine)(hz:(vs.size != 0)=true)(h:Q (.bool true) s):wpAny (model prog w) A (compareOp .NotEq (.ref l) (.ref b)) Q E s:=by
 obtain⟨o,ho,hc,n,hd⟩:=id hl
 obtain⟨o2,ho2,hc2,n2,hd2⟩:=id hb
 refine wpAny_richCompare_same_room (op:=.NotEq) hl.typeIs hb.typeIs F.slot_list_ne (fL F.slot_list_ne hl.typeIs F.entry_list_ne ?_ (F.args_list_ne_2 _ _)) hu
 show wpAny _ _ (isInstance (.ref b) (.type "list")>>=_) _ _ s
 refine ak (lY hb.typeIs (b:=true) (by rw[nu];kernel_rfl) ?_)
 refine ak (jD ho hd (ak (jD ho2 hd2 ?_)))
 rw[if_pos (show(vs.size != (#[]:Array Value).size)=true from hz)]
 exact ak (gU (au ⟨_,rfl,(by intro e;cases e),h⟩))
end
theorem Ec {h:Heap}{a:Addr}{vs:Array Value}{n:Nat}(e:h.get? a=some (Bs vs n)):h.IsList a vs:=⟨_,e,rfl,n,rfl⟩
section
variable {P:Pm}{F:Fm}{l:Loc}{H:Hp}{s:Shared}{E:Value->Shared->Prop}{Q:QV}
theorem Ew (I:Inv P F l H s){a:Addr}{xs:List Value}(h:H a=some (.list xs)\/H a=some (.rlist xs)):∃ vs,s.heap.IsList a vs/\vs.toList.map er=xs/\xs.length<=2^25:=by
 rcases h with h | h
 ·obtain⟨vs,n,e,r⟩:=I.objs h
  exact⟨vs,Ec e,r⟩
 ·exact I.objs h
theorem Av {vs:Array Value}{xs:List Value}(h:vs.toList.map er=xs):vs.size=xs.length:=by rw[<-h,aA,aq]
theorem O6 {vs:Array Value}{xs:List Value}(h:vs.toList.map er=xs){i:Nat}{v:Value}(e:xs[i]?=some v):∃ V,vs[i]?=some V/\er V=v:=by
 rw[<-h,cD] at e
 obtain⟨V,h1,h2⟩:=bG.1 e
 exact⟨V,by rw[<-aW];exact h1,h2⟩
theorem RT {α:Type}{xs:List α}{i:Nat}{v:α}(e:xs[i]?=some v):i<xs.length:=(fH.1 e).1
theorem int_lt {k:Int}(h0:0<=k){n:Nat}(h:k.toNat<n)(z:n<=2^25):k<2^63:=jx ((nZ h0).1 (aB h z)) (by decide)
def JW (f:B2):Prop:=∀ ⦃P:Pm⦄ ⦃F:Fm⦄ ⦃l:Loc⦄ ⦃H:Hp⦄ ⦃s:Shared⦄ ⦃E:Value->Shared->Prop⦄ ⦃Q:QV⦄ ⦃A B:Value⦄,Rt P F->Inv P F l H s->f (er A) (er B) H Q->ItemOn P.M F.A E A B (Ae P F l Q) s
def O7 (o:List Value->xH):B2:=λa b H Q=>On o a H λuu xs=>Ac b λk=>0<=k/\Ik xs[k.toNat]? λv=>Q v H
abbrev yw:B2:=O7 .list
abbrev Gq:B2:=O7 .rlist
abbrev wR:B2:=O7 .tup
theorem abt (I:Inv P F l H s){p:Addr}{xs:List Value}(hx:H p=some (.list xs)\/H p=some (.rlist xs)){k:Int}{t:Tok}(h0:0<=k){v:Value}(hv:xs[k.toNat]?=some v)(q:Q v H):ItemOn P.M F.A E (.ref p) (.int k t) (Ae P F l Q) s:=by
 obtain⟨vs,hl,e,z⟩:=Ew I hx
 obtain⟨V,hV,rfl⟩:=O6 e hv
 exact⟨_,_,slot_list_getitem.lookup,hl.typeIs,wpAny_getItem_list hl h0 (int_lt h0 (RT hv) z) hV ⟨H,I,q⟩⟩
theorem Aa:JW yw:=by
 intro P F l H s E Q A B _ I h
 refine h.use ?_;intro p xs hx h;refine h.use ?_;intro k t h
 exact h.2.elim λv hv=>abt I (.inl hx) h.1 hv.1 hv.2
theorem WY:JW Gq:=by
 intro P F l H s E Q A B _ I h
 refine h.use ?_;intro p xs hx h;refine h.use ?_;intro k t h
 exact h.2.elim λv hv=>abt I (.inr hx) h.1 hv.1 hv.2
def LK:B2:=λa b H Q=>On .list a H λuu xs=>Ac b λk=>k=-1/\Ik xs.getLast? λv=>Q v H
theorem ahq {n:Nat}(h:1<=n):(-1+(n:Int)).toNat=n-1:=by rw[mK];exact Int.toNat_sub n 1
theorem W0:JW LK:=by
 intro P F l H s E Q A B _ I h
 refine h.use ?_;intro p xs hx h;refine h.use ?_;intro k t h
 obtain⟨rfl,v,hv,q⟩:=h
 obtain⟨vs,hl,e,z⟩:=Ew I (.inl hx)
 rw[mY,<-Av e] at hv
 obtain⟨V,hV,rfl⟩:=O6 e hv
 have h1:1<=vs.size:=aK (bL _) ((dj.1 hV).1)
 exact⟨_,_,slot_list_getitem.lookup,hl.typeIs,wpAny_getItem_list_neg hl (by decide) (Int.neg_le_neg (dD.2 h1)) (by decide) (x:=V) ((congrArg (vs[·]?) (ahq h1)).trans hV) ⟨H,I,q⟩⟩
theorem abu {k:Int}{n:Nat}(h0:0<=k)(h:k.toNat<n):seqIndex? k n=some k.toNat:=by
 unfold seqIndex?
 rw[if_neg (gZ.2 h0)]
 exact if_pos (bf.2 ⟨decide_eq_true h0,decide_eq_true ((nZ h0).1 h)⟩)
theorem abv {k:Int}(h0:0<=k):-(2^63)<=k:=iD (by decide) h0
theorem Dg:JW wR:=by
 intro P F l H s E Q A B _ I h
 refine h.use ?_;intro p xs hx h;refine h.use ?_;intro k t h
 obtain⟨h0,v,hv,q⟩:=h
 obtain⟨vs,hl,e,z⟩:=I.objs hx
 obtain⟨V,hV,rfl⟩:=O6 e hv
 exact⟨"tuple",_,slot_tuple_getitem.lookup,hl.elim λo x=>⟨o,x.1,x.2.1⟩,getItem_tuple hl (abv h0) (int_lt h0 (RT hv) z) (abu h0 (Av e▸RT hv)) hV ⟨H,I,q⟩⟩
noncomputable def zM (c:Nat):Str:=⟨#[c]⟩
def Ey:B2:=λa b H Q=>Cp a λx=>Ac b λk=>0<=k/\x.length<=2^25/\Ik x.cps[k.toNat]? λc=>Q (.str (zM c) 0) H
theorem O8:JW Ey:=by
 intro P F l H s E Q A B _ I h
 refine h.use ?_;intro x t h;refine h.use ?_;intro k t h
 obtain⟨h0,hz,c,hc,q⟩:=h
 have hl:=(dj.1 hc).1
 exact⟨"str",_,PySem.F.slot_str_getitem.lookup,rfl,getItem_str (c:=c) (Bool.or_eq_false_iff.2 ⟨decide_eq_false (gZ.2 (abv h0)),decide_eq_false (v9.2 (int_lt h0 hl hz))⟩)
  ((congrArg (Option.bind · (x.cps[·]?)) (abu h0 hl)).trans hc) ⟨H,I.toks _,q⟩⟩
theorem RV {K:Type}[DecidableEq K](ks:List (K×Value))(k:K):valueAt (ks.map λp=>(p.1,er p.2)) k=(valueAt ks k).map er:=by
 unfold valueAt
 rw[pF,oF,oF]
 rfl
def Gu:B2:=λa b H Q=>On .xV a H λuu kvs=>Ac b λk=>Ik (valueAt kvs k) λv=>Q v H
theorem O9:JW Gu:=by
 intro P F l H s E Q A B _ I h
 refine h.use ?_;intro p kvs hx h;refine h.use ?_;intro k t h
 obtain⟨v,hv,q⟩:=h
 obtain⟨ks,hd,rfl⟩:=I.objs hx
 rw[RV] at hv
 obtain⟨V,hV,rfl⟩:=bG.1 hv
 exact⟨_,_,slot_dict_getitem.lookup,hd.mapOf.typeIs,wpAny_getItem_of (uE _ _ _ _) hd.mapOf hV ⟨H,I.toks _,q⟩⟩
theorem not_modules (Y:zY P)(I:Inv P F l H s){a:Addr}{o:xH}(h:H a=some o)(hd:o.isD=true:=by rfl):(a==sysModules)=false :=
 beq_eq_false_iff_ne.mpr (lB (aB (eY (show sysModules<mainGlobals by decide) Y.g.lt) ((I.ob a o h).big hd)))
def LQ:B2:=λa b H Q=>Ac a λk=>On .xV b H λuu kvs=>Q (.bool (!(valueAt kvs k).isSome)) H
theorem W3:yI (compareOp .NotIn) LQ:=by
 intro P F l H s E Q A B R I h
 refine h.use ?_;intro k t h;refine h.use ?_;intro p kvs hx q
 obtain⟨ks,hd,rfl⟩:=I.objs hx
 rw[RV,Option.isSome_map] at q
 exact wpAny_notIn_of (uE _ _ _ _) (not_modules R.Y I hx) hd.mapOf ⟨H,I.toks _,q⟩
def Pa:B2:=λa b H Q=>On .list a H λuu xs=>On .list b H λuu ys=>ys=[]/\Q (.bool xs.isEmpty) H
def neN:B2:=λa b H Q=>On .list a H λuu xs=>On .list b H λuu ys=>ys=[]/\Q (.bool (!xs.isEmpty)) H
theorem nil_of {vs:Array Value}(h:vs.toList.map er=[]):vs=#[]:=Array.toList_eq_nil_iff.1 (bZ.1 h)
theorem Rt.u0 (R:Rt P F):F.A.units<cLine:=aK (aF ..) R.u
theorem ne0 {vs:Array Value}{x:Value}{xs:List Value}(e:vs.toList.map er=x::xs):(vs.size != (#[]:Array Value).size)=true:=bne_iff_ne.2 λz=>by rw[Av e] at z;cases z
theorem abw:yI (compareOp .Eq) Pa:=by
 intro P F l H s E Q A B R I h
 refine h.use ?_;intro p xs hx h;refine h.use ?_;intro r ys hy h
 obtain⟨rfl,q⟩:=h
 obtain⟨vs,hl,e,_⟩:=Ew I (.inl hx)
 obtain⟨ws,hl2,e2,_⟩:=Ew I (.inl hy)
 cases nil_of e2
 cases xs with
 | nil=>cases nil_of e;exact SeqAt.eq_listAt (e:=λuu=>true) hl hl2 rfl R.u0 (λj h=>absurd h (iW _)) ⟨H,I,q⟩
 | cons x xs=>exact SeqAt.eq_list_lengthsAt hl hl2 (ne0 e) R.u0 ⟨H,I,q⟩
theorem Pb:yI (compareOp .NotEq) neN:=by
 intro P F l H s E Q A B R I h
 refine h.use ?_;intro p xs hx h;refine h.use ?_;intro r ys hy h
 obtain⟨rfl,q⟩:=h
 obtain⟨vs,hl,e,_⟩:=Ew I (.inl hx)
 obtain⟨ws,hl2,e2,_⟩:=Ew I (.inl hy)
 cases nil_of e2
 cases xs with
 | nil =>
  cases nil_of e
  obtain⟨o,h1,h2,n,h3⟩:=hl
  obtain⟨o',h1',h2',n',h3'⟩:=hl2
  exact SeqAt.compareNe_shaped (.list h1 h2 h3 .nil) (.list h1' h2' h3' .nil) rfl rfl R.u ⟨H,I,q⟩
 | cons x xs=>exact ne_nil hl hl2 R.u0 (ne0 e) ⟨H,I,q⟩
theorem abx (K:xG P F)(I:Inv P F l H s){h':Heap}{t:Nat}{m:Str->Option Value}{O:Obj}{o:xH}
  (hm:∀ x v,l x=some v->F.env.kindOf x=some .local->∃ V,m x=some V/\er V=v) (F':Fr P.base F.env.locals h' m)
  (N':News P.base F.env.locals h' ((s.heap.objs.size,O)::JN P.base s.heap F.env.locals)) (mt:h'.get? s.heap.objs.size=some O->Mt P h' s.heap.objs.size o) (h:newV o H Q) (hr:o.BP=false:=by rfl):Ae P F l Q (.ref s.heap.objs.size) { s with heap:=h',toks:=t } :=
 ⟨_,(I.after K hm F' N' λuu hp=>.tail _ hp).track (I.ofSize K) (I.Dd K) (mt (N' _ (.head _)).1) hr,h _ I.fresh⟩
theorem Ez {n:Nat}(h:n<=sizeLine):n<=2^25:=aj h (by decide)
def BX:B2:=λa b H Q=>On .list a H λuu xs=>On .list b H λuu ys=>xs.length+ys.length<=sizeLine/\newV (.list (xs++ys)) H Q
theorem Hl:yI (binaryOp .Add) BX:=by
 intro P F l H s E Q A B R I h
 refine h.use ?_;intro p xs hx h;refine h.use ?_;intro r ys hy h
 obtain⟨vs,hl,e,_⟩:=Ew I (.inl hx)
 obtain⟨ws,hl2,e2,_⟩:=Ew I (.inl hy)
 obtain⟨m,Fr,hm⟩:=I.fr R.K
 have hz:vs.size+ws.size<=sizeLine:=Av e▸Av e2▸h.1
 refine add_arrays Fr (O2 _ _ _) hl hl2 (λh' F' N'=>abx R.K I (t:=s.toks) hm F' N' (λg=>Dc g ?_) ?_) hz
 ·rw[eH,aG,aq,aq];exact Ez hz
 ·rw[aX,e,e2];exact h.2
def newT (xs:List Value)(H:Hp)(Q:QV):Prop:=newV (.tup xs) H Q/\∀ c,H c=some (.tup xs)->Q (.ref c) H
def RW:B2:=λa b H Q=>On .tup a H λuu xs=>On .tup b H λuu ys=>xs.length+ys.length<=sizeLine/\newT (xs++ys) H Q
theorem ahr:yI (binaryOp .Add) RW:=by
 intro P F l H s E Q A B R I h
 refine h.use ?_;intro p xs hx h;refine h.use ?_;intro r ys hy h
 obtain⟨⟨vs⟩,hl,e,_⟩:=I.objs hx
 obtain⟨⟨ws⟩,hl2,e2,_⟩:=I.objs hy
 obtain⟨m,Fr,hm⟩:=I.fr R.K
 have hz:vs.length+ws.length<=sizeLine:=by rw[show vs.length=xs.length from Av e,show ws.length=ys.length from Av e2];exact h.1
 have e:vs.map er=xs:=e
 have e2:ws.map er=ys:=e2
 refine add_tuples Fr (O2 _ _ _) hl hl2 (λz=>⟨H,I,h.2.2 _ ?_⟩) (λuu z=>⟨H,I,h.2.2 _ ?_⟩) (λuu uu h' F' N'=>abx R.K I (t:=s.toks) hm F' N' (λg=>WD ⟨_,g,rfl,0,rfl⟩ ?_) ?_) hz
 ·rw[<-e,z];exact hy
 ·rw[<-e2,z,gq,aY];exact hx
 ·rw[eH,aG];exact Ez hz
 ·skip
  rw[aX,e,e2];exact h.2.1
end
noncomputable abbrev JX (x:String)(A:Value):Sem Value:=call (.builtin x) [A]
noncomputable abbrev JZ (x:String)(A:Value):Sem Value:=call (.type x) [A]
def RX (o:List Value->xH):U1:=λv H Q=>On o v H λuu xs=>Q (.int xs.length 0) H
abbrev CJ:U1:=RX .list
abbrev RZ:U1:=RX .rlist
abbrev R0:U1:=RX .tup
section
variable {P:Pm}{F:Fm}{l:Loc}{H:Hp}{s:Shared}{E:Value->Shared->Prop}{Q:QV}
theorem W4 {n:Nat}(h:n<=2^25):(n:Int)<2^63:=jy (dD.2 h) (by decide)
theorem aby (I:Inv P F l H s){p:Addr}{xs:List Value}(hx:H p=some (.list xs)\/H p=some (.rlist xs))(q:Q (.int xs.length 0) H):wpAny P.M F.A (JX "len" (.ref p)) (Ae P F l Q) E s:=by
 obtain⟨vs,hl,e,z⟩:=Ew I hx
 exact len_list hl (Av e▸W4 z) ⟨H,I.toks _,by rw[Av e];exact q⟩
theorem EY:Bg (JX "len") CJ:=by
 intro P F l H s E Q A _ I h
 refine h.use ?_;intro p xs hx q;exact aby I (.inl hx) q
theorem abz:Bg (JX "len") RZ:=by
 intro P F l H s E Q A _ I h
 refine h.use ?_;intro p xs hx q;exact aby I (.inr hx) q
theorem abA:Bg (JX "len") R0:=by
 intro P F l H s E Q A _ I h
 refine h.use ?_;intro p xs hx q
 obtain⟨vs,hl,e,z⟩:=I.objs hx
 exact len_tuple hl (Av e▸W4 z) ⟨H,I.toks _,by rw[Av e];exact q⟩
def Pg:U1:=λv H Q=>Cp v λx=>x.length<=2^25/\Q (.int x.length 0) H
theorem abB:Bg (JX "len") Pg:=by
 intro P F l H s E Q A _ I h
 refine h.use ?_;intro x t h
 exact len_str (v9.2 (W4 h.1)) ⟨H,I.toks _,h.2⟩
def Ph:U1:=λv H Q=>On .list v H λuu xs=>xs.length<=sizeLine/\newV (.list xs) H Q
def W5:U1:=λv H Q=>On .list v H λuu xs=>xs.length<=sizeLine/\newV (.tup xs) H Q
theorem Ho {h:Heap}{a:Addr}{o o':xH}(m:Mt P h a o)(e:o=o'):Mt P h a o':=e▸m
theorem W6:Bg (JZ "list") Ph:=by
 intro P F l H s E Q A R I h
 refine h.use ?_;intro p xs hx h
 obtain⟨vs,n,g,e,z⟩:=I.objs hx
 exact call_list_seq p (.inl rfl) g rfl rfl (λh' c' hk hD=>⟨_,((I.kept R.K hk (t:=s.toks)).track (I.ofSize R.K) (I.Dd R.K) (Ho (Dc hD (Av e▸z)) (congrArg _ e))),h.2 _ I.fresh⟩) (Av e▸h.1)
theorem ahs:Bg (JZ "tuple") W5:=by
 intro P F l H s E Q A R I h
 refine h.use ?_;intro p xs hx h
 obtain⟨vs,hl,e,z⟩:=Ew I (.inl hx)
 refine call_tuple_list hl (λh' hk=>?_) (Av e▸h.1)
 have I':=I.kept R.K hk (t:=s.toks)
 exact⟨_,I'.alloc R.K (t:=s.toks) (Ho (WD ⟨_,aV _ rfl,rfl,0,rfl⟩ (Av e▸z)) (congrArg _ e)),h.2 _ I'.fresh⟩
def CK:U1:=λv H Q=>Ac v λhi=>newV (.range 0 hi 1) H Q
def W7:B2:=λv w H Q=>Ac v λlo=>Ac w λhi=>newV (.range lo hi 1) H Q
noncomputable def Pj:N9:=λvs H Q=>∃ lo hi,vs=[.int lo 0,.int hi 0,.int (-1) 0]/\newV (.range lo hi (-1)) H Q
theorem W8 {h:Heap}{a:Addr}{lo hi st:Int}{t u v:Tok}(x:IsRange h a lo hi st t u v):Mt P h a (.range lo hi st):=⟨_,x,λuu e=>⟨t,u,v,e⟩⟩
theorem J0:Bg (JZ "range") CK:=by
 intro P F l H s E Q A R I h
 refine h.use ?_;intro hi t q
 exact call_range_1 ⟨_,I.alloc R.K (t:=s.toks+1+1) (W8 (uh ..)),q _ I.fresh⟩
theorem aht:yI (λA B=>call (.type "range") [A,B]) W7:=by
 intro P F l H s E Q A B R I h
 refine h.use ?_;intro lo t h;refine h.use ?_;intro hi u q
 exact call_range_2 ⟨_,I.alloc R.K (t:=s.toks+1) (W8 (uh ..)),q _ I.fresh⟩
def OkN (m:List Value->Sem Value)(f:N9):Prop:=∀ ⦃P:Pm⦄ ⦃F:Fm⦄ ⦃l:Loc⦄ ⦃H:Hp⦄ ⦃s:Shared⦄ ⦃E:Value->Shared->Prop⦄ ⦃Q:QV⦄ ⦃As:List Value⦄,Rt P F->Inv P F l H s->f (As.map er) H Q->wpAny P.M F.A (m As) (Ae P F l Q) E s
theorem abC:OkN (λAs=>call (.type "range") As) Pj:=by
 intro P F l H s E Q As R I h
 obtain⟨lo,hi,e,q⟩:=h
 obtain⟨A,As,rfl,e1,e⟩:=bH.1 e
 obtain⟨B,As,rfl,e2,e⟩:=bH.1 e
 obtain⟨C,As,rfl,e3,e⟩:=bH.1 e
 cases bZ.1 e
 rw[Cm e1,Cm e2,Cm e3]
 exact call_range_3 (by decide) ⟨_,I.alloc R.K (t:=s.toks) (W8 (uh ..)),q _ I.fresh⟩ (.inl (PyProof.noPylong_small (by decide)))
def W9:U1:=λv H Q=>On .list v H λuu xs=>∃ bs:List Bool,xs=bs.map nJ/\Q (.bool (bs.all id)) H
theorem ahu {bs:List Bool}:∀ {vs:List Value},vs.map er=bs.map nJ->LSm.BoolsAre vs bs:=by
 induction bs with
 | nil=>intro vs e;cases bZ.1 e;exact .nil
 | cons b bs ih =>
  intro vs e
  obtain⟨V,vs,rfl,e1,e⟩:=bH.1 e
  rw[RG e1]
  exact .cons b (ih e)
theorem abD:Bg (JX "all") W9:=by
 intro P F l H s E Q A R I h
 refine h.use ?_;intro p xs hx h
 obtain⟨bs,rfl,q⟩:=h
 obtain⟨⟨vs⟩,hl,e,z⟩:=Ew I (.inl hx)
 obtain⟨m,Fr,hm⟩:=I.fr R.K
 exact LSm.all_bools Fr (O2 _ _ _) R.K.hh hl (ahu e) λh' tk F' N'=>⟨H,I.after R.K hm F' N' λuu h=>h,q⟩
def J6:U1:=λv H Q=>zL v λb=>Q (.int (if b then 1 else 0) 0) H
theorem abE:Bg (JZ "int") J6:=by
 intro P F l H s E Q A R I h
 obtain⟨b,e,q⟩:=abf h
 rw[RG e]
 exact call_int_bool ⟨H,I.toks _,q⟩
abbrev Xa:B2:=BR (λx y=>vI (max x y)) tt
abbrev Xb:B2:=BR (λx y=>vI (min x y)) tt
theorem ahv:yI (λA B=>call (.builtin "max") [A,B]) Xa:=by
 intro P F l H s E Q A B R I h
 refine h.use ?_;intro x t h;refine h.use ?_;intro y u h
 refine max_two_ints R.K.hh λh' tk k=>⟨H,I.kept R.K k,?_⟩
 by_cases hc:y>x
 ·rw[if_pos hc,<-show max x y=y from rE (iG hc)];exact h.2
 ·rw[if_neg hc,<-show max x y=x from Int.max_eq_left (gZ.1 hc)];exact h.2
theorem ahw:yI (λA B=>call (.builtin "min") [A,B]) Xb:=by
 intro P F l H s E Q A B R I h
 refine h.use ?_;intro x t h;refine h.use ?_;intro y u h
 refine min_two_ints R.K.hh λh' tk k=>⟨H,I.kept R.K k,?_⟩
 by_cases hc:y<x
 ·rw[if_pos hc,<-show min x y=y from rD (iG hc)];exact h.2
 ·rw[if_neg hc,<-show min x y=x from su (gZ.1 hc)];exact h.2
end
end
section
open PySem PyProof.Rows PySem.Calls
open PySem.W (dictOf getL putL putN plainGet hasDictIn findIn isFn noGet plainOver takerIn makesIn subIn)
section
variable {w:World}{es:List DictEntry}{kvs:List (Str×Value)}{a:Str}
theorem abF {k:Value}{x y:Str}{t:Tok}(h:k=.str x t):k.isStr y=decide (x=y):=by rw[h];exact Lr _ _
theorem ahx {K:Type}[DecidableEq K](p:K×Value)(r:List (K×Value))(k:K):valueAt (p::r) k=if p.1=k then some p.2 else valueAt r k:=by
 unfold valueAt
 rw[jA]
 by_cases e:p.1=k
 ·rw[decide_eq_true e,if_pos e];rfl
 ·rw[decide_eq_false e,if_neg e]
theorem FP.noRef (h:FP w es kvs):es.any (·.refKey)=false:=by
 induction h with
 | nil=>rfl
 | cons h _ ih =>
  obtain⟨⟨t,ht⟩,_⟩:=h
  rw[qg,ih,DictEntry.refKey,ht];rfl
theorem FP.find (h:FP w es kvs):(es.find? (·.key.isStr a)).map (λe=>er e.val)=valueAt kvs a:=by
 induction h with
 | nil=>rfl
 | @cons e0 p _ _ h _ ih =>
  obtain⟨⟨t,ht⟩,hv,_⟩:=h
  rw[ahx,jA,abF ht]
  by_cases e:p.1=a
  ·rw[decide_eq_true e,if_pos e,<-hv];rfl
  ·rw[decide_eq_false e,if_neg e,<-ih]
theorem FP.get (h:FP w es kvs):∃ V,getL a es=some V/\V.map er=valueAt kvs a:=by
 have f:=h.find (a:=a)
 unfold getL
 cases q:es.find? (·.key.isStr a) with
 | some e=>rw[q] at f;exact⟨some e.val,rfl,f⟩
 | none=>rw[q] at f;rw[h.noRef];exact⟨none,rfl,f⟩
theorem abG {K:Type}[DecidableEq K](p:K×Value)(r:List (K×Value))(k:K)(v:Value)(hp:p.1∉r.map (·.1)):stored (p::r) k v=if p.1=k then(p.1,v)::r else p::stored r k v:=by
 unfold stored
 rw[qg,bJ]
 by_cases e:p.1=k
 ·rw[decide_eq_true e,Bool.true_or,if_pos rfl,if_pos e,if_pos e]
  congr 1
  conv=>rhs;rw[<-pC r]
  exact fK λq hq=>if_neg λh=>hp (by rw[e,<-h];exact u9 hq)
 ·rw[decide_eq_false e,Bool.false_or,if_neg e,if_neg e]
  split <;> rfl
theorem FP.put (h:FP w es kvs)(hnd:(kvs.map (·.1)).Nodup){v:Value}{t:Tok}:FP w (putL a (oA w.params a) (.str a t) v es) (stored kvs a (er v)):=by
 induction h with
 | nil=>exact .cons ⟨⟨t,rfl⟩,rfl,rfl⟩ .nil
 | @cons e p es kvs h r ih =>
  obtain⟨⟨t',ht⟩,hv,hh⟩:=h
  rw[bJ,eE] at hnd
  rw[abG _ _ _ _ hnd.1]
  unfold putL
  rw[abF ht]
  by_cases q:p.1=a
  ·rw[decide_eq_true q,if_pos rfl,if_pos q]
   exact .cons ⟨⟨t',by rw[ht]⟩,rfl,by rw[hh]⟩ r
  ·rw[decide_eq_false q,if_neg (by decide),if_neg q]
   exact .cons ⟨⟨t',ht⟩,hv,hh⟩ (ih hnd.2)
theorem ahy (x:Str)(hs:Int)(k v:Value)(es:List DictEntry):(putL x hs k v es).length<=es.length+1:=by
 induction es with
 | nil=>exact aD _
 | cons e r ih =>
  unfold putL
  split
  ·exact dX _
  ·exact aU ih
theorem zp {α β:Type}{R:α->β->Prop}{xs:List α}{ys:List β}(h:wK R xs ys):xs.length=ys.length:=by
 induction h with
 | nil=>rfl
 | cons _ _ ih=>exact congrArg (·+1) ih
end
structure abH (K:qb)(D:Addr):Prop where
 be:PySem.W.mroIn K D (.type "BaseException")=some true
 cl:(PySem.W.clsIn K D).isSome=true
 ty:PySem.W.typeIn K (.ref D)=some (.type "type")
noncomputable abbrev abI:List Value:=[.type "ValueError",.type "Exception",.type "BaseException",.type "object"]
def ahz (h:Heap)(C:Addr):Prop:=∃ bm N nm q bs hdct sn sub ab col dd k0 k1 k2 k3 k5 mN,h.get? C=some (excClassObj nm q C N bs bm hdct sn sub ab col dd k0 k1 k2 k3 k5 "ValueError.__new__")/\h.Ns N mN/\mN "__init__" = none/\OwnTail h abI bm
structure abJ (K:qb)(C:Addr)(a:Str):Prop where
 get:plainGet K C a=true
 dict:hasDictIn K C=true
 none:findIn K (.ref C) a=some oE
 set:findIn K (.ref C) "__setattr__" = some (some (.builtin "object.__setattr__"))
 over:plainOver K C=true
 take:takerIn K C a=some oE
structure Hq (P:Pm)(G:Gx):Prop where
 glob:∀ x v,G.glob x=some v->∃ V,er V=v/\(P.mg x=some V\/(P.mg x=none/\P.mb x=some V))
 fld:∀ C a,G.fld C a=true->abJ P.K C a
 meth:∀ C m f,G.meth C m=some f->plainGet P.K C m=true/\findIn P.K (.ref C) m=some (some (.ref f))/\isFn P.K (.ref f)=true
 init:∀ C f,G.init C=some f->makesIn P.K C=true/\findIn P.K (.ref C) "__init__" = some (some (.ref f))/\isFn P.K (.ref f)=true/\rB P.K (.ref C)=true
 exc:∀ C,G.isExc C=true->abH P.K C
 sub:∀ C D,G.isExc C=true->G.isExc D=true->subIn P.K (.ref C) (.ref D)=some (G.sub C D)
 own:∀ C,G.isExc C=true->ahz P.base C
section
variable {P:Pm}{F:Fm}{G:Gx}{l:Loc}{H:Hp}{s:Shared}{E:Value->Shared->Prop}{Q:QV}{A B:Value}
theorem Inv.Br (Y:zY P)(K:xG P F)(I:Inv P F l H s):P.K.In s.heap:=Y.Br.keeps (I.Ij K)
theorem ahA {kvs:List (Str×Value)}{k:Str}{v:Value}(h:(kvs.map (·.1)).Nodup):((stored kvs k v).map (·.1)).Nodup:=by
 induction kvs with
 | nil=>exact List.pairwise_singleton _ _
 | cons p r ih =>
  rw[bJ,eE] at h
  rw[abG _ _ _ _ h.1]
  by_cases e:p.1=k
  ·rw[if_pos e];exact eE.2 h
  ·rw[if_neg e]
   refine eE.2 ⟨λz=>?_,ih h.2⟩
   obtain⟨q,h1,h2⟩:=aO.1 z
   unfold stored at h1
   split at h1
   ·obtain⟨q',h3,rfl⟩:=aO.1 h1
    split at h2
    ·exact h.1 (aO.2 ⟨q',h3,h2⟩)
    ·exact h.1 (aO.2 ⟨q',h3,h2⟩)
   ·rcases aR.1 h1 with h3 | h3
    ·exact h.1 (aO.2 ⟨q,h3,h2⟩)
    ·rw[aC.1 h3] at h2;exact e h2.symm
structure ahB (P:Pm)(h:Heap)(x C d:Addr)(kvs:List (Str×Value))(es:Array DictEntry)(n:Nat):Prop where
 ii:vQ h x { cls:=.ref C,dict:=some d,data:=.plain } C (some (dictOf es.toList n))
 od:h.get? d=some (dictOf es.toList n)
 ne:FP P.w es.toList kvs
 nd:(kvs.map (·.1)).Nodup
theorem Xc (I:Inv P F l H s){x C d:Addr}{kvs:List (Str×Value)}(hx:H x=some (.inst C d))(hd:H d=some (.ns kvs)):∃ es n,ahB P s.heap x C d kvs es n:=by
 obtain⟨es,n,od,ne,nd⟩:=I.objs hd
 exact⟨es,n,⟨I.objs hx,rfl,rfl,od⟩,od,ne,nd⟩
theorem ahC (Y:zY P)(GO:Hq P G)(K:xG P F)(I:Inv P F l H s){n:Str}{ex:Bool}(h:abh G n (er A) H Q):wpAny P.M F.A (getAttr A n ex) (Ae P F l Q) E s:=by
 refine h.use ?_;intro x C d kvs hx hd h
 obtain⟨hf,v,hv,hb,q⟩:=h
 obtain⟨m,Fr,hm⟩:=I.fr K
 obtain⟨es,k,z⟩:=Xc I hx hd
 obtain⟨V,g1,g2⟩:=z.ne.get (a:=n)
 rw[hv] at g2
 obtain⟨W,rfl,rfl⟩:=bG.1 g2
 have f:=GO.fld C n hf
 refine PySem.W.get_own Fr Y.Br z.ii f.get f.dict f.none rfl g1 ?_ ⟨H,I.toks _,q⟩
 cases W <;> first | rfl | exact absurd rfl (hb _)
theorem ahD (Y:zY P)(GO:Hq P G)(K:xG P F)(I:Inv P F l H s){n:Str}{k:Hp->Prop}(h:RM G (er A) n (er B) H k):wpAny P.M F.A (setAttr A n B) (λuu s'=>∃ H',Inv P F l H' s'/\k H') E s:=by
 refine h.use ?_;intro x C d kvs hx hd h
 obtain⟨⟨hf,hlen⟩,q⟩:=h
 obtain⟨m,Fr,hm⟩:=I.fr K
 obtain⟨es,ep,z⟩:=Xc I hx hd
 obtain⟨V,g1,g2⟩:=z.ne.get (a:=n)
 have f:=GO.fld C n hf
 have fr:=(I.ob _ _ hd).free rfl
 obtain⟨pre,post,e,h1,h2⟩:=ahj (O1 z.od fr.l (none_of λo q=>xr (K.base _ _ q) fr.g))
 refine PySem.W.set_plain (I.Br Y K) z.ii f.set (PySem.W.osa_dict (s:={ s with toks:=s.toks+1 }) (K:=P.K) (es:=putL n (oA P.w.params n) (.str n (s.toks+1)) B es.toList) (n:=putN n es.toList ep)
  Fr (pre:=pre) (post:=post) (e▸O2 _ _ _) ((I.toks (s.toks+1)).Br Y K) z.ii rfl f.over f.take f.dict (by rw[PySem.W.lookIn_dict,g1];rfl) h1 h2 (PySem.W.putName_dict ..) rfl ?_ λh' F' N'=>?_)
 ·exact aj (ahy ..) (aj (aU (zp z.ne▸hlen)) (by decide))
 ·refine⟨_,I.putL K (t:=s.toks+1+1) hd (λc O eo hc hL=>?_) F'.ns hm (o':=.ns (stored kvs n (er B))) ?_,q⟩
  ·cases g:P.base.get? c with
   | some o'=>exact(F'.keep c o' g).trans ((I.Ij K c o' g).symm.trans eo)
   | none =>
    have hm:=O1 eo hL g
    rw[e] at hm
    exact(N' (c,O) (aR.2 ((aR.1 hm).imp id λy=>.tail _ ((aM.1 y).resolve_left λy=>hc (congrArg Prod.fst y))))).1
  ·exact G9 (N' (d,dictOf _ _) (aN _ (.head _))).1 λh' g=>⟨_,_,g,z.ne.put z.nd,ahA z.nd⟩
end
end
section
open PySem PyProof.Rows PySem.Calls
theorem ahE (f:Array Value->Array Value)(o:Obj):(o.mapFields f).dict=o.dict:=by
 obtain⟨c,d,dt,sl⟩:=o;cases dt <;> rfl
structure abK (h:Heap)(e C:Addr)(oe:Obj)(vs:Array Value):Prop where
 g:h.get? e=some oe
 c:oe.cls=.ref C
 d:oe.data=.fields vs
 n:oe.dict=none
inductive Iu (F:Fm)(H:Hp)(h:Heap)(e:Addr)(vs:Array Value):Bool->Prop where
 | no:vs[1]?=some .none->Iu F H h e vs false
 | yes {b:Bool} (t:Addr) (ot:Obj) (ts:Array Value):vs[1]?=some (.ref t)->t≠e->h.get? t=some ot->ot.data=.fields ts->3<ts.size->Off F H t->Iu F H h e vs b
inductive Exc (F:Fm)(H:Hp)(s:Shared)(e C:Addr)(b:Bool):Prop where
 | mk (oe:Obj) (vs:Array Value):Off F H e->abK s.heap e C oe vs->Iu F H s.heap e vs b->Exc F H s e C b
section
variable {P:Pm}{F:Fm}{G:Gx}{l:Loc}{H:Hp}{s:Shared}{E:Value->Shared->Prop}{e C:Addr}{b:Bool}
theorem Iu.weak {h:Heap}{vs:Array Value}(x:Iu F H h e vs b):Iu F H h e vs false:=by
 cases x with
 | no h=>exact .no h
 | yes t ot ts h1 h2 h3 h4 h5 h6=>exact .yes t ot ts h1 h2 h3 h4 h5 h6
theorem Exc.weak (x:Exc F H s e C b):Exc F H s e C false:=by
 obtain⟨oe,vs,h1,h2,h3⟩:=x
 exact⟨oe,vs,h1,h2,h3.weak⟩
noncomputable def Bh (P:Pm)(F:Fm)(l:Loc)(X:XV):Value->Shared->Prop:=λEV s'=>∃ H' e C,EV=.ref e/\Inv P F l H' s'/\Exc F H' s' e C false/\X C H'
theorem Inv.ahF (K:xG P F)(I:Inv P F l H s){S:List Addr}{h':Heap}(hS:∀ b∈S,b=F.env.locals\/(F.fr b).isSome=true)(x:Heap.SlotsOnly S s.heap h'):Inv P F l H { s with heap:=h' }:=by
 have out:∀ b,b≠F.env.locals->F.fr b=none->h'.get? b=s.heap.get? b:=λb h1 h2=>x.2.1 b λq=>(hS b q).elim h1 λe=>by rw[h2] at e;cases e
 refine⟨I.gens,I.os,λb o e=>?_,λb d e=>?_,?_,λy c e=>?_,λa o e=>?_⟩
 ·exact(out b (λq=>xr e (q▸K.lg)) (none_of λd q=>xr e (K.fg b d q).1)).trans (I.keep b o e)
 ·obtain⟨o,ho,hd⟩:=I.yX b d e
  exact(x.2.2 b o ho).elim λsl q=>⟨_,q,hd⟩
 ·obtain⟨m,⟨o,es,ep,ho,hd,r⟩,q⟩:=I.loc
  exact(x.2.2 _ o ho).elim λsl q'=>⟨m,⟨_,es,ep,q',hd,r⟩,q⟩
 ·obtain⟨vo,⟨o,ho,hd⟩,q⟩:=I.z9 y c e
  exact(x.2.2 _ o ho).elim λsl q'=>⟨vo,⟨_,q',hd⟩,q⟩
 ·have b:=I.ob a o e
  refine⟨b.mt.congr ?_,b.old,b.free,b.big⟩
  cases hr:o.BP with
  | false=>exact out a (b.free hr).l (b.free hr).fr
  | true =>
   obtain⟨O,e'⟩:=b.old hr
   have e':=K.base _ _ e'
   exact out a (λq=>xr e' (q▸K.lg)) (none_of λd q=>xr e' (K.fg a d q).1)
theorem ahG (K:xG P F)(I:Inv P F l H s)(base:Heap)(hb:∀ b,base.get? b=none){es:List Env}:(∀ e∈es,e.scope.kind≠.module/\∃ b,e.frame=some b/\(b=F.env.locals\/(F.fr b).isSome=true))->s.heap.FunFrames base es:=by
 induction es with
 | nil=>exact λuu=>trivial
 | cons e es ih =>
  intro h
  obtain⟨h1,b,h2,h3⟩:=h e (.head _)
  refine⟨h1,?_,ih λe he=>h e (.tail _ he)⟩
  rcases h3 with rfl | h3
  ·obtain⟨m,⟨o,es',ep,ho,hd,r⟩,q⟩:=I.loc
   exact⟨_,o,h2,hb _,ho,λvs e=>by rw[hd] at e;cases e⟩
  ·obtain⟨d,hd⟩:=Option.isSome_iff_exists.mp h3
   obtain⟨o,ho,e⟩:=I.yX b d hd
   exact⟨b,o,h2,hb _,ho,λvs q=>(K.fg b d hd).2 vs (e▸q)⟩
theorem Exc.slots {S:List Addr}{h':Heap}(x:Heap.SlotsOnly S s.heap h')(a:Exc F H s e C b):Exc F H { s with heap:=h' } e C b:=by
 obtain⟨oe,vs,h1,h2,h3⟩:=a
 obtain⟨sl,q⟩:=x.2.2 _ _ h2.g
 refine⟨_,vs,h1,⟨q,h2.c,h2.d,h2.n⟩,?_⟩
 cases h3 with
 | no h=>exact .no h
 | yes t ot ts a1 a2 a3 a4 a5 a6=>exact(x.2.2 _ _ a3).elim λsl q'=>.yes t _ ts a1 a2 q' a4 a5 a6
theorem abL (K:xG P F)(I:Inv P F l H s){oe:Obj}{vs:Array Value}(of:Off F H e)(x:abK s.heap e C oe vs){t:Addr}{ot:Obj}{ts:Array Value}(a1:vs[1]?=some (.ref t))(a2:t≠e)(a3:s.heap.get? t=some ot)(a4:ot.data=.fields ts)(a5:3<ts.size)(a6:Off F H t)(v:Value){A:Around}{Q:Unit->Shared->Prop}
  (h:∀ s',Inv P F l H s'->Exc F H s' e C b->Q () s'):wpAny P.M A (setField (.ref t) 3 v) Q E s:=by
 have hd:=mQ a4 (·.setIfInBounds 3 v)
 have other:∀ c,c≠t->(s.heap.update t (j6 (·.setIfInBounds 3 v))).get? c=s.heap.get? c:=λc hc=>bF _ _ (cH hc)
 exact ju a3 a4 a5 (h _ (I.step K (t:=s.toks) λc o hc hn=>(other c λq=>hn (q▸a6)).trans hc) ⟨oe,vs,of,⟨(other e (cH a2)).trans x.g,x.c,x.d,x.n⟩,.yes t _ _ a1 a2 (dB _ a3 (oY hd)) hd (by rw[jX];exact a5) a6⟩)
theorem Iu.size {h:Heap}{vs:Array Value}(x:Iu F H h e vs b):1<vs.size:=by
 cases x with
 | no h=>exact(Array.getElem?_eq_some_iff.mp h).1
 | yes t ot ts h=>exact(Array.getElem?_eq_some_iff.mp h).1
theorem abM (K:xG P F)(I:Inv P F l H s)(Hg:F.ro=false)(ha:Exc F H s e C b){head:Value}{hadNext:Bool}{Q:Unit->Shared->Prop}(h:∀ s',Inv P F l H s'->Exc F H s' e C true->Q () s') :
  wpAny P.M F.A (do let a<-frameOf F.env;let pl<-entryPlaceOf F.env.locals hadNext;let b<-EntryCells.newEntry head a .none (rawInt F.env.locals) .none pl;setField (.ref e) 1 b) Q E s:=by
 obtain⟨fenv,outer,hfr,hown,hall⟩:=K.frames
 obtain⟨rfl,hf⟩:=hown Hg
 refine ak (wpAny_frameOf_fun hfr (ahG K I {} (λb=>rfl) hall) hf λh₁ hs₁=>?_)
 have I₁:=I.ahF K (λb hb=>by
  obtain⟨e',he',q⟩:=List.mem_filterMap.mp hb
  obtain⟨_,b',q',r⟩:=hall e' he'
  rw[q] at q';cases q';exact r) hs₁
 obtain⟨oe,vs,hof,x,y⟩:=ha.slots hs₁
 refine ak (wpAny_entryPlaceOf λpl hpl=>?_)
 refine ak (gD ?_ (hpl.sizeOk5 _ _ _ _ _))
 generalize hot:({ cls:=.type "traceback",dict:=none,data:=.fields ([head,.ref F.env.locals,.none,rawInt F.env.locals,.none]++(if pl.isEmpty then jF 6 j5 else pl)).toArray }:Obj)=ot
 have he₂:=aJ (h:=h₁) ot x.g
 have hd:=mQ x.d (·.setIfInBounds 1 (jz h₁.objs.size))
 have hne:h₁.objs.size≠e:=lB (bM x.g)
 refine ju he₂ x.d y.size (h _ ((I₁.push K ot).step K (t:=s.toks) λb o hb hn=>(bF _ _ (show e≠b from λq=>hn (q▸hof))).trans hb)
  ⟨_,_,hof,⟨dB _ he₂ (oY hd),(Obj.cls_mapFields _ _).trans x.c,hd,(ahE _ _).trans x.n⟩,
   .yes h₁.objs.size ot ([head,.ref F.env.locals,.none,rawInt F.env.locals,.none]++(if pl.isEmpty then jF 6 j5 else pl)).toArray (by simp [y.size]) hne ?_ (by rw[<-hot]) ?_ (I₁.ofSize K)⟩)
 ·rw[bF _ _ (cH hne)]
  exact aV _ (by rw[<-hot];rfl)
 ·rw[eH,aG];exact aB (show 3<5 by decide) (aF ..)
theorem Xd (K:xG P F)(I:Inv P F l H s)(Hg:F.ro=false)(x:Exc F H s e C b){Q:Unit->Shared->Prop}
  (h:∀ s',Inv P F l H s'->Exc F H s' e C true->Q () s'):wpAny P.M F.A (noteFrame (.ref e) F.env) Q E s:=by
 obtain⟨fenv,outer,hfr,hown,hall⟩:=K.frames
 have x0:=x
 obtain⟨oe,vs,hof,x,y⟩:=x
 unfold noteFrame
 rw[(hown Hg).2]
 cases y with
 | no h1 =>
  refine ak (mH x.g x.d h1 ?_)
  exact abM K I Hg x0 h
 | yes t ot ts a1 a2 a3 a4 a5 a6 =>
  refine ak (mH x.g x.d a1 ?_)
  refine ak (mH a3 a4 (bC a5) ?_)
  split
  ·exact au (h s I ⟨oe,vs,hof,x,.yes t ot ts a1 a2 a3 a4 a5 a6⟩)
  ·exact ak (abL (b:=true) K I hof x a1 a2 a3 a4 a5 a6 _ λs' I' x'=>abM K I' Hg x' h)
theorem Pk (K:xG P F)(I:Inv P F l H s)(x:Exc F H s e C b){A:Around}{fo:Option Addr}{Q:Unit->Shared->Prop}
  (h:∀ s',Inv P F l H s'->Exc F H s' e C b->Q () s'):wpAny P.M A (setFlight (.ref e) fo) Q E s:=by
 obtain⟨oe,vs,hof,x,y⟩:=x
 cases y with
 | no h1 =>
  refine ak (mH x.g x.d h1 ?_)
  exact au (h s I ⟨oe,vs,hof,x,.no h1⟩)
 | yes t ot ts a1 a2 a3 a4 a5 a6 =>
  refine ak (mH x.g x.d a1 ?_)
  exact abL K I hof x a1 a2 a3 a4 a5 a6 _ h
theorem ahH (K:xG P F)(I:Inv P F l H s)(Hg:F.ro=false)(x:Exc F H s e C b){Q:Unit->Shared->Prop}
  (h:∀ s',Inv P F l H s'->Exc F H s' e C true->Q () s'):wpAny P.M F.A (leaving F.env (.ref e)) Q E s:=by
 exact ak (Xd K I Hg x λs' I' x'=>Pk K I' x' h)
theorem ahI (K:xG P F)(I:Inv P F l H s)(x:Exc F H s e C true)(h:∀ s',Inv P F l H s'->Exc F H s' e C true->E (.ref e) s'):cameBackBy P.M F.A F.env E (.ref e) s:=by
 have x0:=x
 obtain⟨oe,vs,hof,x,y⟩:=x
 cases y with
 | yes t ot ts a1 a2 a3 a4 a5 a6 =>
  refine ak (mH x.g x.d a1 ?_)
  exact Pk K I x0 h
end
def R3 (n:Nat)(A:Around):Prop:=A.depth+2*n+2<recursionLimit/\A.units+30*n+200<cLine
def Ga (n:Nat)(A:Around):Prop:=A.depth+2*n+1<recursionLimit/\A.units+30*n+190<cLine
theorem R3.c {n:Nat}{A:Around}(R:R3 n A):Ga n A:=⟨cF R.1,aK (aL (show 190<=200 by decide) _) R.2⟩
noncomputable def ahJ (P:Pm)(F:Fm)(l:Loc)(Q:QV)(X:XV):Result->Shared->Prop:=λr s'=>match r with
 | .ok (.ret V)=>Ae P F l Q V s'
 | .ok _=>False
 | .error EV=>Bh P F l X EV s'
structure Xe (P:Pm)(G:Gx)(n:Nat):Prop where
 keep:∀ {f args H Q X},G.fn f args H Q X->rB P.K (.ref f)=true
 run:∀ {f args H Q X},G.fn f args H Q X->∀ {F l s vals},xG P F->Ga n F.A->Inv P F l H s->vals.map er=args->codeAny P.M F.A (.call (.ref f) ⟨vals,[]⟩) (ahJ P F l Q X) s
noncomputable def R4:List (Str×Value):=[("len",.builtin "len"),("isinstance",.builtin "isinstance"),("list",.type "list"),("tuple",.type "tuple"),("sorted",.builtin "sorted"),("dict",.type "dict"),("int",.type "int"),("all",.builtin "all"),("max",.builtin "max"),("min",.builtin "min"),("range",.type "range"),("str",.type "str"),("bool",.type "bool"),("set",.type "set")]
noncomputable def Ed (x:Str):Option Value:=R4.lookup x
structure Iv (sc:Scope)(F:Fm):Prop where
 loc:∀ x,zK sc x=some true->Own F.env x
 glob:∀ x,zK sc x=some false->F.env.kindOf x=some .globalImplicit
 Pn:∀ x,sc.names.lookup x=some .local->F.env.kindOf x=some .local
 cell:∀ x,sc.names.lookup x=some .cell->F.env.kindOf x=some .cell/\∃ c,F.env.cells.lookup x=some c
structure Ok (P:Pm)(G:Gx)(n:Nat)(sc:Scope)(F:Fm):Prop where
 Y:zY P
 B:∀ x v,Ed x=some v->P.mg x=none/\P.mb x=some v
 GO:Hq P G
 FN:Xe P G n
 K:xG P F
 S:Iv sc F
 R:R3 n F.A
section
variable {P:Pm}{F:Fm}{G:Gx}{n:Nat}{sc:Scope}{l:Loc}{H:Hp}{s:Shared}
theorem Ok.rt (O:Ok P G n sc F):Rt P F:=⟨O.Y,O.K,aK (cI (aF ..) (show 64<=200 by decide)) O.R.2⟩
noncomputable def fin (e:Expr):Bool:=[0,2,3,6,8,15,16,19,20,21,23,24,25].contains e.ctorIdx&&vP (λuu=>Bool) e (λf uu uu=>f != "super") λuu=>true
abbrev Pl (e:Expr):Prop:=∀ es env,starEach (e::es) env=(false,eval e env)::starEach es env
abbrev ahK (e:Expr):Prop:=∀ env x,foldedSetIterable e env x=pure x
set_option tactic.hygienic true in
theorem Aj {e:Expr}(h:fin e=true):Pl e/\(∀ a env whole,attributeBase e a env whole=whole)/\(∀ o i,subscripted e false o i=operate [o,i] (getItem o i))/\ahK e:=by
 cases e <;> first
  | exact⟨λuu uu=>rfl,λuu uu uu=>rfl,λuu uu=>rfl,λuu uu=>rfl⟩
  | exact absurd (show false=true from h) cZ
  | skip
 next f as ks p =>
  refine⟨λuu uu=>rfl,λa env whole=>?_,λuu uu=>rfl,λuu uu=>rfl⟩
  cases f <;> try rfl
  cases as <;> try rfl
  cases ks <;> try rfl
  unfold attributeBase
  exact if_pos (by rw[show(_ != _)=true from h];rfl)
theorem abN {f:Str}{p pos:Pos}{as:List Expr}(h:(f != "super")=true):fin (.Call (.Name f p) as [] pos)=true:=by
 cases as
 ·exact h
 ·rfl
noncomputable def J7 (e:Expr):Bool:=![8,9,10].contains e.ctorIdx
noncomputable def tst (e:Expr):Bool:=[16,19,20,21,23].contains e.ctorIdx
def SE (P:Pm)(G:Gx)(n:Nat)(sc:Scope)(e:Expr)(e':Ex):Prop :=
 fin e=true/\∀ ⦃F:Fm⦄ ⦃l:Loc⦄ ⦃H:Hp⦄ ⦃s:Shared⦄ ⦃Q:QV⦄ ⦃X:XV⦄,Ok P G n sc F->Inv P F l H s->e' G l H Q X->wpAny P.M F.A (eval e F.env) (Ae P F l Q) (Bh P F l X) s
theorem SE.of {e:Expr}{e':Ex}(hf:fin e=true)(h:∀ ⦃F:Fm⦄ ⦃l:Loc⦄ ⦃H:Hp⦄ ⦃s:Shared⦄ ⦃Q:QV⦄ ⦃X:XV⦄,Ok P G n sc F->Inv P F l H s->e' G l H Q X->wpAny P.M F.A (eval e F.env) (Ae P F l Q) (Bh P F l X) s):SE P G n sc e e':=⟨hf,h⟩
def ST (P:Pm)(G:Gx)(n:Nat)(sc:Scope)(e:Expr)(e':Ex):Prop :=
 ∀ ⦃F:Fm⦄ ⦃l:Loc⦄ ⦃H:Hp⦄ ⦃s:Shared⦄ ⦃k:Bool->Hp->Prop⦄ ⦃X:XV⦄,Ok P G n sc F->Inv P F l H s->e' G l H (λv H'=>zL v λb=>k b H') X->wpAny P.M F.A (isTrue e F.env (eval e F.env)) (λb s'=>∃ H',Inv P F l H' s'/\k b H') (Bh P F l X) s
theorem SE.go {e:Expr}{e':Ex}(h:SE P G n sc e e')(O:Ok P G n sc F)(I:Inv P F l H s){Q:QV}{X:XV}(q:e' G l H Q X){R:Value->Shared->Prop}(k:∀ V s' H',Inv P F l H' s'->Q (er V) H'->R V s'):wpAny P.M F.A (eval e F.env) R (Bh P F l X) s :=
 bT (h.2 O I q) (λV s' z=>z.elim λH' z=>k V s' H' z.1 z.2) λuu uu z=>z
@[elab_as_elim] theorem Pq {V:Value}{k:Bool->Prop}{motive:Value->Prop}(h:zL (er V) k)(r:∀ b,k b->motive (.bool b)):motive V:=by
 obtain⟨b,e,q⟩:=abf h;exact RG e▸r b q
theorem SE.test {e:Expr}{e':Ex}(h:SE P G n sc e e')(he:tst e=true):ST P G n sc e e':=by
 intro F l H s k X O I q
 rw[(λuu uu=>by cases e <;> first | rfl | exact absurd (show false=true from he) cZ:∀ env whole,isTrue e env whole=(do let v<-whole;standAt e.pos;holding [v] (truthy v)))]
 refine ak (h.go O I q λV s' H' I' z=>?_)
 refine Pq z ?_;intro b z
 exact ak (fG (bW (jM ⟨H',I',z⟩)))
theorem zq {kk:Nat}{pos:Pos}:SE P G n sc (.Constant .none kk pos) (.k .none):=.of rfl λF l H s Q X O I q=>au ⟨H,I,q⟩
theorem J8 {b:Bool}{kk:Nat}{pos:Pos}:SE P G n sc (.Constant (.bool b) kk pos) (.k (.bool b)):=.of rfl λF l H s Q X O I q=>au ⟨H,I,q⟩
theorem wN {i:Int}{kk:Nat}{pos:Pos}:SE P G n sc (.Constant (.int i) kk pos) (.k (.int i 0)):=.of rfl λF l H s Q X O I q=>rA ⟨H,I.toks _,q⟩
theorem zV {x:Str}{kk:Nat}{pos:Pos}:SE P G n sc (.Constant (.str x) kk pos) (.k (.str x 0)):=.of rfl λF l H s Q X O I q=>rz ⟨H,I.toks _,q⟩
noncomputable def Ef (x:Str):Bool:=!(x==("__debug__" : Str))&&!(x==("__classdict__" : Str))
theorem LR {x:Str}(h:Ef x=true):(x==("__debug__" : Str))=false/\(x==("__classdict__" : Str))=false:=by
 unfold Ef at h
 rw[Bool.and_eq_true,gV,gV] at h
 exact h
theorem ahL {x:Str}{pos:Pos}(hl:zK sc x=some true)(hp:Ef x=true):SE P G n sc (.Name x pos) (.loc x):=.of rfl λF l H s Q X O I q =>
 q.elim λv q=>abe O.K I q.1 (O.S.loc x hl) (LR hp).1 (LR hp).2 λV e=>⟨H,I,e▸q.2⟩
theorem Ma {x:Str}{pos:Pos}(hl:zK sc x=some false)(hp:Ef x=true):SE P G n sc (.Name x pos) (.glob x):=.of rfl λF l H s Q X O I q =>
 q.elim λv q=>(O.GO.glob x v q.1).elim λV z=>RK O.Y O.K I z.2 (O.S.glob x hl) (LR hp).1 ⟨H,I,z.1.symm▸q.2⟩
theorem ahM {v:Expr}{v':Ex}{a:Str}{pos:Pos}(h:SE P G n sc v v'):SE P G n sc (.Attribute v a pos) (.attr v' a):=by
 refine .of rfl ?_
 intro F l H s Q X O I q
 show wpAny P.M F.A (do let o<-attributeBase v a F.env (eval v F.env);standAt pos.atName;let r<-holding [o] (getAttr o a true);letTemporaryGo v o r;pure r) _ _ s
 rw[(Aj h.1).2.1]
 exact ak (h.go O I q λV s' H' I' z=>ak (fG (ak (bW (bT (ahC O.Y O.GO O.K I' z) (λV' s'' y=>ak (wpAny_letTemporaryGo (au y))) λuu uu z=>z)))))
theorem wZ {x y:Expr}{x' y':Ex}{op:Operator}{pos:Pos}{f:B2}(hf:yI (binaryOp op) f)(hx:SE P G n sc x x')(hy:SE P G n sc y y'):SE P G n sc (.BinOp x op y pos) (.b f x' y'):=.of rfl λF l H s Q X O I q =>
 wpAny_BinOp (hx.go O I q λV s' H' I' z=>hy.go O I' z λW s2 H2 I2 z=>hf O.rt I2 z)
theorem J9 {i:Int}{kk:Nat}{p pos:Pos}:SE P G n sc (.UnaryOp .USub (.Constant (.int i) kk p) pos) (.k (.int (-i) 0)):=by
 refine .of rfl ?_
 intro F l H s Q X O I q
 exact ak (rA (ak (fG (bW (neg_int ⟨H,(I.toks _).toks _,q⟩)))))
theorem Dw {x:Expr}{x':Ex}{pos:Pos}(hx:ST P G n sc x x'):ST P G n sc (.UnaryOp .Not x pos) (.not x'):=by
 intro F l H s k X O I q
 exact ak (bT (hx (k:=λb H'=>k (!b) H') O I q) (λV s' z=>au z) λuu uu z=>z)
theorem ahN {x:Expr}{x':Ex}{pos:Pos}(hx:SE P G n sc x x'):SE P G n sc (.UnaryOp .Not x pos) (.not x'):=by
 refine .of rfl ?_
 intro F l H s Q X O I q
 refine ak (hx.go O I q λV s' H' I' z=>?_)
 refine Pq z ?_;intro b z
 exact ak (fG (bW (not_of (jM ⟨H',I',z⟩))))
theorem R5 {x y:Expr}{x' y':Ex}{op:CmpOp}{pos:Pos}{f:B2}(hf:yI (compareOp op) f)(hx:SE P G n sc x x')(hy:SE P G n sc y y')(hb:behindInMarks op y=false):SE P G n sc (.Compare x [op] [y] pos) (.b f x' y'):=.of rfl λF l H s Q X O I q =>
 wpAny_Compare1 (hx.go O I q λV s' H' I' z=>hy.go O I' z λW s2 H2 I2 z=>hf O.rt I2 z) hb
theorem abO {M:Model}{A:Around}{E:Value->Shared->Prop}{s:Shared}{m:Sem Value}{k:Bool->Hp->Prop}(h:wpAny M A m (Ae P F l λv H'=>zL v λb=>k b H') E s):wpAny M A m (λV s'=>wpAny M A (truthy V) (λb s'=>∃ H',Inv P F l H' s'/\k b H') E s') E s:=by
 refine bT h (λV s' z=>?_) λuu uu z=>z
 obtain⟨H',I',z⟩:=z
 refine Pq z ?_;intro b z
 exact jM ⟨H',I',z⟩
theorem xT {x y:Expr}{x' y':Ex}{op:CmpOp}{pos:Pos}{f:B2}(hf:yI (compareOp op) f)(hx:SE P G n sc x x')(hy:SE P G n sc y y')(hb:behindInMarks op y=false):ST P G n sc (.Compare x [op] [y] pos) (.b f x' y'):=λF l H s k X O I q =>
 wpAny_isTrue_Compare1 (hx.go O I q λV s' H' I' z=>hy.go O I' z λW s2 H2 I2 z=>abO (hf O.rt I2 z)) hb
theorem abP {x y z:Expr}{x' y' z':Ex}{op op2:CmpOp}{pos:Pos}{f g:B2}(hf:yI (compareOp op) f)(hg:yI (compareOp op2) g)(hx:SE P G n sc x x')(hy:SE P G n sc y y')(hz:SE P G n sc z z')(hb:behindInMarks op2 z=false) :
  ST P G n sc (.Compare x [op,op2] [y,z] pos) (.RL f g x' y' z'):=by
 intro F l H s k X O I q
 refine isTrue_chain (hx.go O I q λV s' H1 I1 q=>?_) hb
 refine ak (bW (hy.go O I1 q λV2 s2 H2 I2 q=>?_))
 refine ak (fG (ak (bW (bT (hf O.rt I2 q) (λV3 s3 q=>?_) λuu uu z=>z))))
 obtain⟨H3,I3,q⟩:=q
 refine Pq q ?_;intro b q
 refine ak (wpAny_release' (ak (bW (jM ?_))))
 cases b with
 | false=>exact au ⟨H3,I3,q⟩
 | true =>
  refine ak (bW (hz.go O I3 q λV4 s4 H4 I4 q=>?_))
  refine ak (fG (ak (wpAny_operate' ?_)))
  exact bT (abO (hg O.rt I4 q)) (λuu uu z=>bW z) λuu uu z=>z
theorem xZ {x y:Expr}{x' y':Ex}{pos:Pos}{f:B2}(hf:JW f)(hx:SE P G n sc x x')(hy:SE P G n sc y y'):SE P G n sc (.Subscript x y pos) (.b f x' y'):=.of rfl λF l H s Q X O I q =>
 Subscript_ (hx.go O I q λV s' H1 I1 q=>hy.go O I1 q λV2 s2 H2 I2 q=>by
  obtain⟨T,id,h1,h2,h3⟩:=hf (E:=Bh P F l X) O.rt I2 q
  exact tail_any h2 h1 h3 ((Aj hy.1).2.2.1 _ _))
end
section
variable {P:Pm}{F:Fm}{G:Gx}{n:Nat}{sc:Scope}{l:Loc}{H:Hp}{s:Shared}
abbrev Pr (es:List Expr):Prop:=∀ env,starEach es env=es.map λe=>(false,eval e env)
def CP (P:Pm)(G:Gx)(n:Nat)(sc:Scope)(es:List Expr)(es':List Ex):Prop :=
 Pr es/\∀ ⦃F:Fm⦄ ⦃l:Loc⦄ ⦃H:Hp⦄ ⦃s:Shared⦄ ⦃Q:List Value->Hp->Prop⦄ ⦃X:XV⦄ ⦃pos:Pos⦄,Ok P G n sc F->Inv P F l H s->Cz G es' l H Q X ->
  wpAny P.M F.A (spliced (backTo pos (starEach es F.env))) (λVs s'=>∃ H',Inv P F l H' s'/\Q (Vs.map er) H') (Bh P F l X) s
theorem wU:CP P G n sc [] []:=⟨λuu=>rfl,λF l H s Q X pos O I q=>jC ⟨H,I,q⟩⟩
theorem wJ {e:Expr}{e':Ex}{es:List Expr}{es':List Ex}(h:SE P G n sc e e')(r:CP P G n sc es es'):CP P G n sc (e::es) (e'::es'):=by
 have hn:=(Aj h.1).1
 refine⟨λenv=>(hn es env).trans (congrArg _ (r.1 env)),λF l H s Q X pos O I q=>?_⟩
 rw[hn]
 exact fZ (h.go O I q λV s' H1 I1 q=>bT (r.2 O I1 q) (λVs s'' z=>z) λuu uu z=>z)
theorem CP.go {es:List Expr}{es':List Ex}(h:CP P G n sc es es')(O:Ok P G n sc F)(I:Inv P F l H s){Q:List Value->Hp->Prop}{X:XV}{pos:Pos}(q:Cz G es' l H Q X){R:List Value->Shared->Prop}(k:∀ Vs s' H',Inv P F l H' s'->Q (Vs.map er) H'->R Vs s'):wpAny P.M F.A (spliced (backTo pos (starEach es F.env))) R (Bh P F l X) s :=
 bT (h.2 O I q) (λV s' z=>z.elim λH' z=>k V s' H' z.1 z.2) λuu uu z=>z
theorem Xf {x y:Expr}{x' y':Ex}{pos:Pos}(hx:SE P G n sc x x')(hy:SE P G n sc y y'):SE P G n sc (.BoolOp .And [x,y] pos) (.and x' y'):=by
 refine .of rfl ?_
 intro F l H s Q X O I q
 refine ak (hx.go O I q λV s' H' I' z=>?_)
 refine Pq z ?_;intro b z
 refine ak (fG (ak (bW (jM ?_))))
 cases b with
 | false=>exact au ⟨H',I',z⟩
 | true=>exact hy.2 O I' z
inductive Pu (P:Pm)(G:Gx)(n:Nat)(sc:Scope)(op:BoolOp)(c:Ex->Ex->Ex):List Expr->Ex->Prop where
 | one {e:Expr} {e':Ex}:ST P G n sc e e'->Pu P G n sc op c [e] e'
 | more {e:Expr} {e':Ex} {es:List Expr} {r':Ex}:ST P G n sc e e'->Pu P G n sc op c es r'->Pu P G n sc op c (e::es) (c e' r')
theorem R6 {es:List Expr}{e':Ex}{pos:Pos}(h:Pu P G n sc .And .and es e'):ST P G n sc (.BoolOp .And es pos) e':=by
 intro F l H s k X O I q
 show wpAny P.M F.A (allTrue .And es F.env) _ _ s
 induction h generalizing H s with
 | @one e e' h =>
  show wpAny P.M F.A (do match BoolOp.And,<-isTrue e F.env (eval e F.env) with | .And,false=>pure false | .Or,true=>pure true | _,_=>allTrue .And [] F.env) _ _ s
  refine ak (bT (h O I q) (λb s' z=>?_) λuu uu z=>z)
  cases b <;> exact au z
 | @more e e' es r' h _ ih =>
  show wpAny P.M F.A (do match BoolOp.And,<-isTrue e F.env (eval e F.env) with | .And,false=>pure false | .Or,true=>pure true | _,_=>allTrue .And es F.env) _ _ s
  refine ak (bT (h (k:=λb H1=>if b then r' G l H1 (λv H'=>zL v λb=>k b H') X else k false H1) O I q) (λb s' z=>?_) λuu uu z=>z)
  obtain⟨H1,I1,z⟩:=z
  cases b with
  | false=>exact au ⟨H1,I1,z⟩
  | true=>exact ih I1 z
theorem Gv {es:List Expr}{e':Ex}{pos:Pos}(h:Pu P G n sc .Or .or es e'):ST P G n sc (.BoolOp .Or es pos) e':=by
 intro F l H s k X O I q
 induction h generalizing H s with
 | @one e e' h =>
  refine ak (bT (h O I q) (λb s' z=>?_) λuu uu z=>z)
  cases b <;> exact au z
 | @more e e' es r' h _ ih =>
  refine ak (bT (h (k:=λb H1=>if b then k true H1 else r' G l H1 (λv H'=>zL v λb=>k b H') X) O I q) (λb s' z=>?_) λuu uu z=>z)
  obtain⟨H1,I1,z⟩:=z
  cases b with
  | false=>exact ih I1 z
  | true=>exact au ⟨H1,I1,z⟩
noncomputable def yu:N9:=λvs H Q=>vs.length<=sizeLine/\newV (.list vs) H Q
noncomputable def zu:N9:=λvs H Q=>vs.length<=sizeLine/\newV (.tup vs) H Q
theorem zF {es:List Expr}{es':List Ex}{pos:Pos}(h:CP P G n sc es es'):SE P G n sc (.List es pos) (.n yu es'):=.of rfl λF l H s Q X O I q =>
 List_ (h.go O I q λVs s' H1 I1 q=>by
  have hz:Vs.length<=sizeLine:=aA (f:=er) (as:=Vs)▸q.1
  exact nW ⟨_,I1.alloc O.K (t:=s'.toks) (Dc (aV _ rfl) (Ez hz)),q.2 _ I1.fresh⟩ hz)
theorem Cq {es:List Expr}{es':List Ex}{pos:Pos}{kk:Nat}(h:CP P G n sc es es'):SE P G n sc (.Tuple es kk pos) (.n zu es'):=.of rfl λF l H s Q X O I q =>
 Tuple_ (h.go O I q λVs s' H1 I1 q=>by
  have hz:Vs.length<=sizeLine:=aA (f:=er) (as:=Vs)▸q.1
  exact nq ⟨_,I1.alloc O.K (t:=s'.toks) (WD ⟨_,aV _ rfl,rfl,0,rfl⟩ (Ez hz)),q.2 _ I1.fresh⟩ hz)
theorem abQ {M:Model}{A:Around}{E:Value->Shared->Prop}{s:Shared}{f:Value}{env:Env}{es:List Expr}{pos:Pos}{Q:Args->Shared->Prop}(hs:Pr es)
  (h:wpAny M A (spliced (backTo pos (starEach es env))) (λvs s'=>Q ⟨vs,[]⟩ s') E s):wpAny M A (evalArgs f true (backTo pos (starEach es env)) []) Q E s:=by
 rw[hs] at h ⊢
 cases es with
 | nil=>exact ak (bT h (λvs s' z=>ak (au (bW (ak (au (ak (au (au z)))))))) λuu uu z=>z)
 | cons e es=>exact evalArgs_plain h
theorem Xg {env:Env}{pos:Pos}{es:List Expr}(h:Pr es):(backTo pos (starEach es env)).any (·.1)=false/\(backTo pos (starEach es env)).all (λx=>!x.1)=true:=by
 rw[h]
 clear h
 induction es with
 | nil=>exact⟨rfl,rfl⟩
 | cons e es ih=>exact ih
theorem Hr {M:Model}{A:Around}{E:Value->Shared->Prop}{s:Shared}{f:Value}{env:Env}{first:List Value}{es:List Expr}{pos:Pos}{Q:Value->Shared->Prop}(hs:Pr es)
  (h:wpAny M A (spliced (backTo pos (starEach es env))) (λvs s'=>(∃ k,(k=nH\/k=mD)/\jQ M s'.heap (keeperOf f) k)/\wpAny M A (call f (first++vs)) Q E s') E s) :
  wpAny M A (callWith pos f first (backTo pos (starEach es env)) []) Q E s:=by
 refine ak (bW (abQ hs (bT h (λvs s' q=>?_) λuu uu z=>z)))
 refine ak (fG ?_)
 rw[(show((backTo pos (starEach es env)).any (·.1)||([]:List (Option Str×Sem Value)).any (·.1.isNone))=false from by rw[(Xg hs).1];rfl)]
 obtain⟨⟨k,hk,lk⟩,q⟩:=q
 have q:wpAny M A (call f (first++vs)) (λr s'=>wpAny M A (do holding [r] point;pure r) Q E s') E s':=bT q (λv s'' z=>ak (bW (wpAny_point (au z)))) λuu uu z=>z
 refine ak (lk.here ?_)
 rcases hk with rfl | rfl
 ·skip
  exact kW (λuu=>ak q) λuu=>ak (wpAny_keep q)
 ·exact ak q
theorem Gb (O:Ok P G n sc F)(I:Inv P F l H s){E:Value->Shared->Prop}{x:Str}{p:Pos}{v:Value}{Q:Value->Shared->Prop}(hb:Ed x=some v)(hl:zK sc x=some false)(hp:Ef x=true)(h:Q v s):wpAny P.M F.A (eval (.Name x p) F.env) Q E s :=
 RK O.Y O.K I (.inr (O.B x v hb)) (O.S.glob x hl) (LR hp).1 h
abbrev Px (v:Value):Prop:=∀ (M:Model) (h:Heap),∃ k,(k=nH\/k=mD)/\jQ M h (keeperOf v) k
theorem zR {id:String}:Px (.builtin id):=λuu uu=>⟨.machine,.inr rfl,mO rfl⟩
theorem Ak {id:String}:Px (.type id):=λuu uu=>⟨.machine,.inr rfl,mO rfl⟩
theorem yJ {x:Str}{v:Value}{e:Expr}{e':Ex}{p pos:Pos}{f:U1}(hf:Bg (λA=>call v [A]) f)(hb:Ed x=some v)(hv:Px v)(hl:zK sc x=some false)(hp:Ef x=true)(he:SE P G n sc e e') :
  SE P G n sc (.Call (.Name x p) [e] [] pos) (.u f e'):=.of rfl λF l H s Q X O I q =>
 iM (Gb O I hb hl hp (Hr (λenv=>(Aj he.1).1 [] env) (by
  rw[(Aj he.1).1]
  exact fZ (he.go O I q λV s' H1 I1 q=>jC ⟨hv _ _,hf O.rt I1 q⟩))))
theorem Xh {x:Str}{v:Value}{e d:Expr}{e' d':Ex}{p pos:Pos}{f:B2}(hf:yI (λA B=>call v [A,B]) f)(hb:Ed x=some v)(hv:Px v)(hl:zK sc x=some false)(hp:Ef x=true)(he:SE P G n sc e e')(hd:SE P G n sc d d') :
  SE P G n sc (.Call (.Name x p) [e,d] [] pos) (.b f e' d'):=.of rfl λF l H s Q X O I q =>
 iM (Gb O I hb hl hp (Hr (λenv=>((Aj he.1).1 [d] env).trans (congrArg _ ((Aj hd.1).1 [] env))) (by
  rw[(Aj he.1).1]
  refine fZ (he.go O I q λV s' H1 I1 q=>?_)
  rw[(Aj hd.1).1]
  exact fZ (hd.go O I1 q λV2 s2 H2 I2 q=>jC ⟨hv _ _,hf O.rt I2 q⟩))))
theorem ahO {x:Str}{v:Value}(h:Ed x=some v):(x != "super")=true:=bne_iff_ne.2 λe=>by
 rw[e,show Ed "super" = none by decide +kernel] at h;cases h
theorem abR {x:Str}{v:Value}{es:List Expr}{es':List Ex}{p pos:Pos}{f:N9}(hf:OkN (λAs=>call v As) f)(hb:Ed x=some v)(hv:Px v)(hl:zK sc x=some false)(hp:Ef x=true)(he:CP P G n sc es es') :
  SE P G n sc (.Call (.Name x p) es [] pos) (.n f es'):=.of (abN (ahO hb)) λF l H s Q X O I q =>
 iM (Gb O I hb hl hp (Hr he.1 (he.go O I q λVs s' H1 I1 q=>⟨hv _ _,hf O.rt I1 q⟩)))
end
section
variable {P:Pm}{F:Fm}{G:Gx}{n:Nat}{sc:Scope}{l:Loc}{H:Hp}{s:Shared}
noncomputable abbrev Fm.wA (F:Fm)(A:Around):Fm:={ F with A:=A }
theorem Inv.Xi (I:Inv P F l H s)(A:Around):Inv P (F.wA A) l H s:=⟨I.gens,I.os,I.keep,I.yX,I.loc,I.z9,λa o e=>let b:=I.ob a o e;⟨b.mt,b.old,λz=>⟨(b.free z).g,(b.free z).fr,(b.free z).l,(b.free z).c⟩,b.big⟩⟩
theorem Inv.Mf {A:Around}(I:Inv P (F.wA A) l H s):Inv P F l H s:=⟨I.gens,I.os,I.keep,I.yX,I.loc,I.z9,λa o e=>let b:=I.ob a o e;⟨b.mt,b.old,λz=>⟨(b.free z).g,(b.free z).fr,(b.free z).l,(b.free z).c⟩,b.big⟩⟩
theorem Off.Mf {A:Around}{a:Addr}(x:Off (F.wA A) H a):Off F H a:=⟨x.h,x.f.g,x.f.fr,x.f.l,x.f.c⟩
theorem Exc.move {F':Fm}{H':Hp}{e C:Addr}{b:Bool}(k:∀ a,Off F H a->Off F' H' a)(x:Exc F H s e C b):Exc F' H' s e C b:=by
 obtain⟨oe,vs,h1,h2,h3⟩:=x
 refine⟨oe,vs,k _ h1,h2,?_⟩
 cases h3 with
 | no h=>exact .no h
 | yes t ot ts a1 a2 a3 a4 a5 a6=>exact .yes t ot ts a1 a2 a3 a4 a5 (k _ a6)
theorem Bh.Mf {A:Around}{X:XV}{V:Value}(h:Bh P (F.wA A) l X V s):Bh P F l X V s:=by
 obtain⟨H',e,C,q,I,x,z⟩:=h
 exact⟨H',e,C,q,I.Mf,x.move λuu=>Off.Mf,z⟩
theorem xG.Xi (K:xG P F){A:Around}(h:A.frames=F.A.frames)(hh:A.handled=none):xG P (F.wA A):={ K with frames:=by rw[h];exact K.frames,hh:=hh }
theorem ahP (a:Addr)(Vs:List Value):(mG "type.__call__" ⟨.ref a::Vs,[]⟩).weight=1:=by
 rw[show(mG "type.__call__" ⟨.ref a::Vs,[]⟩).frames=0 from rfl,show(mG "type.__call__" ⟨.ref a::Vs,[]⟩).isCreation=true from rfl,
  show(mG "type.__call__" ⟨.ref a::Vs,[]⟩).isGuard=false from by show guardIds.contains "type.__call__" = false;decide +kernel,show(mG "type.__call__" ⟨.ref a::Vs,[]⟩).isCaller=false from rfl]
 rfl
theorem ahQ {A:Around}(R:R3 n A)(a:Addr)(Vs:List Value):Ga n (A.under (.builtin "type.__call__" ⟨.ref a::Vs,[]⟩)):=by
 refine⟨?_,?_⟩
 ·show A.depth+(mG "type.__call__" ⟨.ref a::Vs,[]⟩).weight+2*n+1<_
  rw[ahP,cA A.depth 1];exact R.1
 ·show A.units+1+30*n+190<_
  rw[cA A.units 1];exact aK (aL (show 191<=200 by decide) _) R.2
theorem ahR {A:Around}(a:Addr)(Vs:List Value):(A.under (.builtin "type.__call__" ⟨.ref a::Vs,[]⟩)).frames=A.frames:=by
 show pushEnvs [] A.frames=A.frames
 cases A.frames <;> rfl
theorem abS (O:Ok P G n sc F)(I:Inv P F l H s){f:Addr}{Vs:List Value}{Q:QV}{X:XV}(h:G.fn f (Vs.map er) H Q X) :
  (∃ k,(k=nH\/k=mD)/\jQ P.M s.heap (keeperOf (.ref f)) k)/\wpAny P.M F.A (call (.ref f) Vs) (Ae P F l Q) (Bh P F l X) s:=by
 refine⟨uI (O.FN.keep h) (I.Br O.Y O.K),ru (j4 (O.FN.run h O.K O.R.c I rfl) λr s' z=>?_)⟩
 rcases r with e | (_ | _ | _ | v) <;> exact z
theorem ahS (O:Ok P G n sc F)(I:Inv P F l H s){a fi:Addr}{Vs:List Value}{Q:QV}{X:XV}(hi:G.init a=some fi)(h:∀ d x,H d=none->H x=none->d≠x->G.fn fi (.ref x::Vs.map er) ((H.upd d (.ns [])).upd x (.inst a d)) (λr H'=>r=.none/\Q (.ref x) H') X) :
  (∃ k,(k=nH\/k=mD)/\jQ P.M s.heap (keeperOf (.ref a)) k)/\wpAny P.M F.A (call (.ref a) Vs) (Ae P F l Q) (Bh P F l X) s:=by
 obtain⟨i1,i2,i3,i4⟩:=O.GO.init a fi hi
 have Br:=I.Br O.Y O.K
 refine⟨uI i4 Br,ru ?_⟩
 have I1:=I.alloc O.K (O:=uQ) (o:=.ns []) (t:=s.toks) (G9 (aV _ rfl) λh' e=>⟨#[],0,e,.nil,.nil⟩)
 have I2:=I1.alloc O.K (O:=PySem.W.instObj a s.heap.objs.size) (o:=.inst a s.heap.objs.size) (t:=s.toks) (G9 (aV _ rfl) λh' e=>e)
 have f1:=I1.fresh
 simp only[(jJ ..:(s.heap.push uQ).objs.size=s.heap.objs.size+1)] at I2 f1
 have q:=h s.heap.objs.size (s.heap.objs.size+1) I.fresh (by rwa [Hp.xJ _ _ (Nat.succ_ne_self _)] at f1) (bQ (bV _))
 obtain⟨hh,hg,hd,ht,ho⟩:=s
 refine PySem.W.make_core (PySem.W.makes_of Br i1) (PySem.W.looks_findIn Br i2) (λself=>PySem.W.bind_fn Br self (beq_iff_eq.mp i3)) (.inl (by simp)) ?_
 refine j4 (O.FN.run q (F:=F.wA (F.A.under (.builtin "type.__call__" ⟨.ref a::Vs,[]⟩))) (l:=l) (O.K.Xi (ahR _ _) O.K.hh) (ahQ O.R _ _) (I2.Xi _) rfl) λr s' z=>?_
 rcases r with e | (_ | _ | _ | v)
 ·exact Bh.Mf z
 ·exact z.elim
 ·exact z.elim
 ·exact z.elim
 ·obtain⟨H',I',q1,q2⟩:=z
  exact⟨Wy q1,H',I'.Mf,q2⟩
theorem ahT {f:Str}{p pos:Pos}{args:List Expr}{f':Ex}{args':List Ex}(hs:(f != "super")=true)(hf:SE P G n sc (.Name f p) f')(ha:CP P G n sc args args'):SE P G n sc (.Call (.Name f p) args [] pos) (.call f' args'):=.of (abN hs) λF l H s Q X O I q =>
 iM (hf.go O I q λV s' H1 I1 q=>Hr ha.1 (ha.go O I1 q λVs s2 H2 I2 q=>by
  obtain⟨a,e,q⟩:=q
  rw[Ih e]
  exact q.elim (λq=>abS O I2 q.2) λq=>q.elim λfi q=>ahS O I2 q.1 q.2))
theorem abT {M:Model}{A:Around}{E:Value->Shared->Prop}{o:Expr}{m:Str}{ap pos:Pos}{args:List Expr}{env:Env}{Q:Value->Shared->Prop}(hs:Pr args)(hsup:∀ env whole,attributeBase o m env whole=whole)(hline:(ap.endLine==pos.line)=true)(hlen:args.length<29)
  (h:wpAny M A (eval o env) (λV s'=>∀ pl:Sem Bool,wpAny M A (getMethod V m pl) (λp s''=>wpAny M A (spliced (backTo pos (starEach args env))) (λvs s3=>(∃ k,(k=nH\/k=mD)/\jQ M s3.heap (keeperOf p.1) k)/\wpAny M A (call p.1 (p.2++vs)) Q E s3) E s'') E s') E s):wpAny M A (eval (.Call (.Attribute o m ap) args [] pos) env) Q E s:=by
 rw[arm_eval_Call,hsup]
 refine ak (bT h (λV s' q=>ak (fG ?_)) λuu uu z=>z)
 have hform:methodCallForm (args.length+([]:List Keyword).length) (backTo pos (starEach args env)) (backToKw pos (keywordEach [] env))=true:=by
  unfold methodCallForm
  rw[(Xg hs).2]
  have:backToKw pos (keywordEach [] env)=[]:=rfl
  simp [this];exact eZ ‹_›
 have hpos:methodCallPos true o env ap pos=pure pos:=by unfold methodCallPos;simp [hline]
 unfold methodCall
 rw[hform]
 exact ak (bW (bT (q _) (λp s'' z=>ak (qx hpos (Hr hs z))) λuu uu z=>z))
theorem ahU (O:Ok P G n sc F)(I:Inv P F l H s){E:Value->Shared->Prop}{V:Value}{m:Str}{k:Addr->Prop}{pl:Sem Bool}{Q:Value×List Value->Shared->Prop}(h:abk G (er V) m H k)
  (hq:∀ f,k f->Q (.ref f,[V]) s):wpAny P.M F.A (getMethod V m pl) Q E s:=by
 revert hq
 refine h.use ?_;intro x C d kvs hx hd h hq
 obtain⟨hv,f,hm,hk⟩:=h
 obtain⟨mm,Fr,hmm⟩:=I.fr O.K
 obtain⟨es,kk,z⟩:=Xc I hx hd
 obtain⟨W,g1,g2⟩:=z.ne.get (a:=m)
 obtain⟨f1,f2,f3⟩:=O.GO.meth C m f hm
 rw[hv] at g2
 cases jr.1 g2
 exact PySem.W.method_inst Fr O.Y.Br z.ii f1 f2 f3 g1 (hq f hk)
theorem CQ {o:Expr}{m:Str}{ap pos:Pos}{args:List Expr}{o':Ex}{args':List Ex}(hline:(ap.endLine==pos.line)=true)(hlen:args.length<29)
  (ho:SE P G n sc o o') (ha:CP P G n sc args args'):SE P G n sc (.Call (.Attribute o m ap) args [] pos) (.meth o' m args'):=.of rfl λF l H s Q X O I q =>
 abT ha.1 ((Aj ho.1).2.1 m) hline hlen (ho.go O I q λV s' H1 I1 q pl=>ahU O I1 q λf q=>ha.go O I1 q λVs s2 H2 I2 q=>abS O I2 (Vs:=V::Vs) q)
def Ht (m:Str)(id:String)(on:Value->Hp->Prop):Prop:=∀ ⦃P:Pm⦄ ⦃F:Fm⦄ ⦃l:Loc⦄ ⦃H:Hp⦄ ⦃s:Shared⦄ ⦃E:Value->Shared->Prop⦄ ⦃V:Value⦄ ⦃pl:Sem Bool⦄ ⦃Q:Value×List Value->Shared->Prop⦄,Inv P F l H s->on (er V) H->Q (.builtin id,[V]) s->wpAny P.M F.A (getMethod V m pl) Q E s
def Ka (id:String)(f:Value->N9):Prop:=∀ ⦃P:Pm⦄ ⦃F:Fm⦄ ⦃l:Loc⦄ ⦃H:Hp⦄ ⦃s:Shared⦄ ⦃E:Value->Shared->Prop⦄ ⦃V:Value⦄ ⦃Vs:List Value⦄ ⦃Q:QV⦄,Rt P F->Inv P F l H s->f (er V) (Vs.map er) H Q->wpAny P.M F.A (call (.builtin id) (V::Vs)) (Ae P F l Q) E s
theorem Al {o:Expr}{m:Str}{id:String}{on:Value->Hp->Prop}{f:Value->N9}{ap pos:Pos}{args:List Expr}{o':Ex}{args':List Ex}(hm:Ht m id on)(hf:Ka id f)(hline:(ap.endLine==pos.line)=true)(hlen:args.length<29)
  (ho:SE P G n sc o o') (ha:CP P G n sc args args'):SE P G n sc (.Call (.Attribute o m ap) args [] pos) (.m on f o' args'):=.of rfl λF l H s Q X O I q =>
 abT ha.1 ((Aj ho.1).2.1 m) hline hlen (ho.go O I q λV s' H1 I1 q pl=>hm I1 q.1 (ha.go O I1 q.2 λVs s2 H2 I2 q=>⟨zR _ _,hf O.rt I2 q⟩))
def yc {α:Type}(o:α->xH)(v:Value)(H:Hp):Prop:=On o v H λuu uu=>True
theorem abU {nm:Str}{id:String}(sl:Slot "list" nm id)(hty:typeOf (.builtin id)=pure (.type "method_descriptor")):Ht nm id (yc .list):=by
 intro P F l H s E V pl Q I h q
 revert q
 refine h.use ?_;intro p xs hx _ q
 obtain⟨vs,n,e,_⟩:=I.objs hx
 exact lK (Ec e).typeIs PySem.F.plainAttrs_list sl hty (λb z=>by cases z;exact⟨_,e,rfl⟩) q
theorem ahV {nm:Str}{id:String}(sl:Slot "dict" nm id)(hty:typeOf (.builtin id)=pure (.type "method_descriptor")):Ht nm id (yc .xV):=by
 intro P F l H s E V pl Q I h q
 revert q
 refine h.use ?_;intro p xs hx _ q
 obtain⟨ks,hl,_⟩:=I.objs hx
 exact lK hl.mapOf.typeIs m5 sl hty hl.mapOf.noDict q
theorem Iw:Ht "append" "list.append" (yc .list):=abU tG type_list_append
theorem R7:Ht "pop" "list.pop" (yc .list):=abU tV PySem.F.type_list_pop
theorem Xj:Ht "pop" "dict.pop" (yc .xV):=ahV tW PySem.F.type_dict_pop
theorem ahW:Ht "join" "str.join" (λv uu=>Cp v λuu=>True):=by
 intro P F l H s E V pl Q I h q
 revert q
 refine h.use ?_;intro x t _ q
 exact lK rfl PySem.F.plainAttrs_str PySem.F.slot_str_join PySem.F.type_str_join (λuu e=>(by cases e)) q
def R8 (vs:List Value)(k:Value->Prop):Prop:=∃ v,vs=[v]/\k v
theorem Xk {Vs:List Value}{k:Value->Prop}(h:R8 (Vs.map er) k):∃ V,Vs=[V]/\k (er V):=by
 obtain⟨v,e,q⟩:=h
 obtain⟨V,r,rfl,e1,e⟩:=bH.1 e
 cases bZ.1 e
 exact⟨V,rfl,e1▸q⟩
noncomputable def Aw:Value->N9:=λv vs H Q=>On .list v H λp xs=>R8 vs λw=>xs.length<=sizeLine/\Q .none (H.upd p (.list (xs++[w])))
theorem Xl {h:Heap}{a:Addr}{vs:Array Value}{n:Nat}(e:h.get? a=some (Bs vs n))(f:Array Value->Array Value):∃ n',(h.update a (cT f)).get? a=some (Bs (f vs) n'):=⟨_,dB _ e rfl⟩
theorem Iz:Ka "list.append" Aw:=by
 intro P F l H s E V Vs Q R I h
 refine h.use ?_;intro p xs hx h
 obtain⟨W,rfl,hz,q⟩:=Xk h
 obtain⟨vs,n,g,e,z⟩:=I.objs hx
 have hsz:vs.size<=sizeLine:=Av e▸hz
 refine fL tG (Ec g).typeIs entry_list_append ?_ (args_list_append _ _)
 show wpAny _ _ (updateSeq p (·.push W)>>=λuu=>ret .none) _ _ s
 obtain⟨n',g'⟩:=Xl g (·.push W)
 refine ak (pN g rfl (au ⟨.none,rfl,_,I.put R.K (t:=s.toks) hx (λb hb=>bF _ _ (cH hb)) (Ho (Dc g' ?_) ?_),q⟩) hsz)
 ·rw[nR];exact aj (aU hsz) (by decide)
 ·rw[dO,aX,e];rfl
noncomputable def Gw:Value->N9:=λv vs H Q=>On .list v H λp xs=>vs=[]/\xs.length<=sizeLine/\Ik xs.getLast? λw=>Q w (H.upd p (.list xs.dropLast))
theorem R9:Ka "list.pop" Gw:=by
 intro P F l H s E V Vs Q R I h
 refine h.use ?_;intro p xs hx h
 obtain⟨h0,hz,v,hv,q⟩:=h
 cases bZ.1 h0
 obtain⟨vs,n,g,e,z⟩:=I.objs hx
 rw[mY,<-Av e] at hv
 obtain⟨y,hy,rfl⟩:=O6 e hv
 have hsz:vs.size<=sizeLine:=Av e▸hz
 obtain⟨n',g'⟩:=Xl g (·.eraseIdxIfInBounds (vs.size-1))
 have dl:(vs.eraseIdxIfInBounds (vs.size-1)).toList=vs.toList.dropLast:=by
  obtain⟨l⟩:=vs
  simp only[List.eraseIdxIfInBounds_toArray,eH,List.eraseIdx_length_sub_one]
 refine call_meets tV (Ec g).typeIs PySem.F.entry_list_pop (PySem.F.args_list_pop_1 _) (PySem.MeetsSeq.list_pop_last p vs n y hy hsz) ⟨g,_,I.put R.K (t:=s.toks) hx (λb hb=>bF _ _ (cH hb)) (Ho (Dc g' ?_) ?_),q⟩
 ·rw[<-aq,dl,uV,aq];exact aj (fV ..) (Ez hsz)
 ·rw[dl,vZ,e]
noncomputable def Kc:Value->N9:=λv vs H Q=>On .xV v H λp kvs=>R8 vs λw=>Ac w λk=>kvs.length<=sizeLine/\Ik (valueAt kvs k) λx=>Q x (H.upd p (.xV (f9 kvs k)))
theorem ahX {K:Type}[DecidableEq K](ks:List (K×Value))(k:K):(f9 ks k).map (λp=>(p.1,er p.2))=f9 (ks.map λp=>(p.1,er p.2)) k:=by
 unfold f9
 rw[rP]
 rfl
theorem Xm:Ka "dict.pop" Kc:=by
 intro P F l H s E V Vs Q R I h
 refine h.use ?_;intro p kvs hx h
 obtain⟨W,e,h2⟩:=Xk h;subst e
 refine Ac.use h2 ?_;intro k t h
 obtain⟨hz,v,hv,q⟩:=h
 obtain⟨ks,hd,rfl⟩:=I.objs hx
 rw[RV] at hv
 obtain⟨W,hw,rfl⟩:=bG.1 hv
 refine vM tW hd.mapOf.typeIs PySem.F.entry_dict_pop (PySem.F.args_dict_pop_2 _ _) (meets_dict_pop_there _ p (uE _ _ _ _) [] (.inl rfl) rfl) ⟨ks,W,hd,by rw[aA] at hz;exact hz,hw,λh' hd' sb=>⟨_,I.put R.K (t:=s.toks+1) hx (λb hb=>sb.2 b hb) (Ho (abd hd') (congrArg _ (ahX ks k))),q⟩⟩
noncomputable def Xn:Value->N9:=λv vs H Q=>Cp v λx=>R8 vs λw=>On .list w H λuu xs=>∃ ss:List Str,xs=ss.map (λy=>bR y 0)/\JoinOk x ss=true/\Q (.str (Txt.join x ss) 0) H
theorem ahY {ss:List Str}:∀ {vs:List Value},vs.map er=ss.map (λy=>bR y 0)->∃ l:List (Str×Tok),vs=strValues l/\l.map (·.1)=ss:=by
 induction ss with
 | nil=>intro vs e;cases bZ.1 e;exact⟨[],rfl,rfl⟩
 | cons y ss ih =>
  intro vs e
  obtain⟨V,vs,rfl,e1,e⟩:=bH.1 e
  obtain⟨l,rfl,rfl⟩:=ih e
  obtain⟨t,rfl⟩:=Ln e1
  exact⟨(y,t)::l,rfl,rfl⟩
theorem ahZ:Ka "str.join" Xn:=by
 intro P F l H s E V Vs Q R I h
 refine h.use ?_;intro x t h
 obtain⟨W,e,h2⟩:=Xk h;subst e
 refine On.use h2 ?_;intro p xs hx h
 obtain⟨ss,rfl,ok,q⟩:=h
 obtain⟨⟨vs⟩,hl,e,_⟩:=Ew I (.inl hx)
 obtain⟨ls,rfl,e2⟩:=ahY e
 exact PySem.SC.join (l:=ls) hl e2 ok λt' k=>⟨H,I.toks _,q⟩
end
section
variable {P:Pm}{F:Fm}{G:Gx}{n:Nat}{sc:Scope}{l:Loc}{H:Hp}{s:Shared}
noncomputable abbrev Mh (T:String)(A:Value):Sem Value:=call (.builtin "isinstance") [A,.type T]
def Gd (r:Bool):U1:=λv H Q=>Ac v λuu=>Q (.bool r) H
def Xo:U1:=λv H Q=>Cp v λuu=>Q (.bool true) H
def Ge (o:List Value->xH):U1:=λv H Q=>On o v H λuu uu=>Q (.bool true) H
theorem Sd:Bg (Mh "int") (Gd true):=λP F l H s E Q A R I h=>h.use λi t q=>IsiPair.int_int ⟨H,I,q⟩
theorem Sg:Bg (Mh "bool") (Gd false):=λP F l H s E Q A R I h=>h.use λi t q=>IsiPair.int_bool ⟨H,I.toks _,q⟩
theorem ah0:Bg (Mh "str") Xo:=λP F l H s E Q A R I h=>h.use λi t q=>IsiPair.str_str ⟨H,I,q⟩
theorem abV:Bg (Mh "list") (Ge .list):=λP F l H s E Q A R I h=>h.use λp xs hx q=>(I.objs hx).elim λvs z=>z.elim λn z=>IsiPair.list_list z.1 rfl ⟨H,I,q⟩
theorem abW:Bg (Mh "tuple") (Ge .tup):=λP F l H s E Q A R I h=>h.use λp xs hx q=>(I.objs hx).elim λvs z=>z.1.elim λo z=>IsiPair.tuple_tuple z.1 z.2.1 ⟨H,I,q⟩
theorem Eh {e:Expr}{e':Ex}{x:Str}{T:String}{p p2 pos:Pos}{f:U1}(hf:Bg (Mh T) f)(hi:zK sc "isinstance" = some false)(hx:zK sc x=some false)(hp:Ef x=true)(hb:Ed x=some (.type T))(he:SE P G n sc e e') :
  SE P G n sc (.Call (.Name "isinstance" p) [e,.Name x p2] [] pos) (.u f e'):=.of rfl λF l H s Q X O I q =>
 iM (Gb O I (x := "isinstance") (v:=.builtin "isinstance") (by decide +kernel) hi (by decide +kernel) (Hr (λenv=>(Aj he.1).1 [.Name x p2] env) (by
  rw[(Aj he.1).1]
  exact fZ (he.go O I q λV s' H1 I1 q=>fZ (Gb O I1 hb hx hp (jC ⟨zR _ _,hf O.rt I1 q⟩))))))
theorem ah1 {Ps:Shared->Prop}{x c d:Value}{a b:Bool}(h1:Answers Ps x c a)(h2:Answers Ps x d b):AnswersAll Ps x [c,d] [a,b]:=.cons h1 (.cons h2 .nil)
theorem ah2 {e:Expr}{e':Ex}{p p2 p3 p4 pos:Pos}{kk:Nat}(hi:zK sc "isinstance" = some false)(hx:zK sc "list" = some false)(hy:zK sc "tuple" = some false)(he:SE P G n sc e e') :
  SE P G n sc (.Call (.Name "isinstance" p) [e,.Tuple [.Name "list" p2,.Name "tuple" p3] kk p4] [] pos) (.u (Ge .list) e'):=by
 refine .of rfl ?_
 intro F l H s Q X O I q
 refine iM (Gb O I (x := "isinstance") (v:=.builtin "isinstance") (by decide +kernel) hi (by decide +kernel) (Hr (λenv=>(Aj he.1).1 [.Tuple [.Name "list" p2,.Name "tuple" p3] kk p4] env) ?_))
 rw[(Aj he.1).1]
 refine fZ (he.go O I q λV s' H1 I1 q=>?_)
 refine fZ (Tuple_ (k:=kk) (fZ (Gb O I1 (v:=.type "list") (by decide +kernel) hx (by decide +kernel) (fZ (Gb O I1 (v:=.type "tuple") (by decide +kernel) hy (by decide +kernel) (jC (nq ?_ (show 2<=sizeLine by decide))))))))
 refine jC ⟨zR _ _,?_⟩
 have I2:=I1.push O.K { cls:=.type "tuple",data:=.seq #[.type "list",.type "tuple"] }
 refine On.use q ?_;intro a xs hx q
 obtain⟨vs,n,g,_⟩:=I2.objs hx
 exact IsiPair.tupleOfB (Tx := "list") (ah1 (Answers.of_true PySem.F.isi_meta_list PySem.F.sub_list_list) (Answers.of_false_list (by decide +kernel) PySem.F.isi_meta_tuple PySem.F.sub_list_tuple)) ⟨_,g,rfl⟩ (aV _ rfl) rfl (λu=>⟨H1,I2.toks u,q⟩)
theorem ah3 {k:Int}(h:0<=k){n:Nat}:max 0 (min k (n:Int))=((min k.toNat n:Nat):Int):=by
 obtain⟨m,rfl⟩:=gY h
 rw[rE (Int.le_min.2 ⟨h,cR _⟩),cG]
 rcases uJ m n with q | q
 ·rw[dG q,su (dD.2 q)]
 ·rw[jR q,rD (dD.2 q)]
theorem sliceTo {vs:Array Value}{k:Int}(h:0<=k):slicePick vs none (some k) none=(vs.toList.take k.toNat).toArray:=by
 have hb:sliceBounds none (some k) none vs.size=(((0:Nat):Int),((min k.toNat vs.size:Nat):Int),1):=by
  simp only[sliceBounds,Option.getD_none,show(1:Int)>0 by decide,if_true,if_neg (gZ.2 h)]
  rw[ah3 h];rfl
 rw[PySem.W.kmk_pick_nat vs hb,Nat.sub_zero,lu,<-aq,PySem.W.kmk_take_min]
noncomputable abbrev Mi (a b:Value):Obj:={ cls:=.type "slice",data:=.fields #[a,b,.none] }
def Py (o:Value->Obj)(f:B2):Prop:=∀ ⦃P:Pm⦄ ⦃F:Fm⦄ ⦃l:Loc⦄ ⦃H:Hp⦄ ⦃s:Shared⦄ ⦃E:Value->Shared->Prop⦄ ⦃Q:QV⦄ ⦃A B:Value⦄,Rt P F->Inv P F l H s->f (er A) (er B) H Q->ItemOn P.M F.A E A (.ref s.heap.objs.size) (Ae P F l Q) { s with heap:=s.heap.push (o B) }
def toL:B2:=λa b H Q=>On .list a H λuu xs=>Ac b λk=>0<=k/\xs.length<=sizeLine/\newV (.list (xs.take k.toNat)) H Q
theorem abX:Py (Mi .none) toL:=by
 intro P F l H s E Q A B R I h
 refine h.use ?_;intro p xs hx h;refine h.use ?_;intro k t h
 have I2:=I.push R.K (Mi .none (.int k t))
 obtain⟨vs,n,g,e,z⟩:=I2.objs hx
 refine⟨_,_,slot_list_getitem.lookup,(Ec g).typeIs,wpAny_getItem_list_slice (Ec g) (Heap.IsSliceOf.new _ _ _ _) .none (.int k t) .none (by simp) ⟨_,I2.alloc R.K (t:=s.toks) (Ho (Dc (aV _ rfl) ?_) ?_),h.2.2 _ I2.fresh⟩ (Av e▸h.2.1)⟩
 ·rw[sliceTo h.1,eH,jj];exact aj (lM ..) (by rw[aq,Av e];exact z)
 ·rw[sliceTo h.1,tY,e]
def toS:B2:=λa b H Q=>Cp a λx=>Ac b λk=>x.length<=sizeLine/\Q (.str (nM x none (some k)) 0) H
def Xp:B2:=λa b H Q=>Cp a λx=>Ac b λk=>x.length<=sizeLine/\Q (.str (nM x (some k) none) 0) H
theorem abY (K:xG P F):KeptByPush λs=>Inv P F l H s:=λs ob k I=>(I.push K ob).toks k
theorem ah4:Py (Mi .none) toS:=by
 intro P F l H s E Q A B R I h
 refine h.use ?_;intro x t h;refine h.use ?_;intro k t h
 exact SBG.sliceItem_ns (abY R.K) I (λs' t' I'=>⟨H,I',h.2⟩) h.1
theorem ah5:Py (Mi · .none) Xp:=by
 intro P F l H s E Q A B R I h
 refine h.use ?_;intro x t h;refine h.use ?_;intro k t h
 exact SBG.sliceItem_sn (abY R.K) I (λs' t' I'=>⟨H,I',h.2⟩) h.1
theorem Xq {x y:Expr}{x' y':Ex}{p pos:Pos}{f:B2}(hf:Py (Mi .none) f)(hx:SE P G n sc x x')(hy:SE P G n sc y y'):SE P G n sc (.Subscript x (.Slice none (some y) none p) pos) (.b f x' y'):=.of rfl λF l H s Q X O I q =>
 Subscript_ (hx.go O I q λV s' H1 I1 q=>wpAny_Slice (mW (wpAny_evalPart_some (hy.go O I1 q λV2 s2 H2 I2 q=>mW (by
  obtain⟨T,id,h1,h2,h3⟩:=hf (E:=Bh P F l X) O.rt I2 q
  exact tail_any h2 h1 h3 rfl)))))
theorem ah6 {x y:Expr}{x' y':Ex}{p pos:Pos}{f:B2}(hf:Py (Mi · .none) f)(hx:SE P G n sc x x')(hy:SE P G n sc y y'):SE P G n sc (.Subscript x (.Slice (some y) none none p) pos) (.b f x' y'):=.of rfl λF l H s Q X O I q =>
 Subscript_ (hx.go O I q λV s' H1 I1 q=>wpAny_Slice (wpAny_evalPart_some (hy.go O I1 q λV2 s2 H2 I2 q=>mW (mW (by
  obtain⟨T,id,h1,h2,h3⟩:=hf (E:=Bh P F l X) O.rt I2 q
  exact tail_any h2 h1 h3 rfl)))))
noncomputable def IK:Lq:=λo i v H k=>On .xV o H λp kvs=>Ac i λj=>kvs.length<=sizeLine/\k (H.upd p (.xV (stored kvs j v)))
theorem ah7 {K:Type}[DecidableEq K](ks:List (K×Value))(k:K)(v:Value):(stored ks k v).map (λp=>(p.1,er p.2))=stored (ks.map λp=>(p.1,er p.2)) k (er v):=by
 unfold stored
 rw[show(ks.map λp=>(p.1,er p.2)).any (λkv=>decide (kv.1=k))=ks.any (λkv=>decide (kv.1=k)) by rw[List.any_map];rfl]
 split
 ·rw[bY,bY]
  refine fK λp uu=>?_
  show(λp:K×Value=>(p.1,er p.2)) (if p.1=k then(p.1,v) else p)=if p.1=k then(p.1,er v) else(p.1,er p.2)
  split <;> rfl
 ·rw[aX];rfl
def Xr (f:Lq):Prop:=∀ ⦃P:Pm⦄ ⦃F:Fm⦄ ⦃l:Loc⦄ ⦃H:Hp⦄ ⦃s:Shared⦄ ⦃E:Value->Shared->Prop⦄ ⦃k:Hp->Prop⦄ ⦃A B C:Value⦄,Rt P F->Inv P F l H s->f (er A) (er B) (er C) H k->wpAny P.M F.A (setItem A B C) (λuu s'=>∃ H',Inv P F l H' s'/\k H') E s
theorem Pz:Xr IK:=by
 intro P F l H s E k A B C R I h
 refine h.use ?_;intro p kvs hx h;refine h.use ?_;intro j t h
 obtain⟨ks,hd,rfl⟩:=I.objs hx
 exact wpAny_setItem_pairs (uE _ _ _ _) hd (λh' hd' sb=>⟨_,I.put R.K (t:=s.toks+1) hx (λb hb=>sb.2 b hb) (Ho (abd hd') (congrArg _ (ah7 ks j C))),h.2⟩) (by rw[aA] at h;exact h.1)
noncomputable def newD:N9:=λuu H Q=>newV (.xV []) H Q
theorem Xu {pos:Pos}:SE P G n sc (.Dict [] [] pos) (.n newD []):=.of rfl λF l H s Q X O I q =>
 tE ⟨_,I.alloc O.K (o:=.xV []) (t:=s.toks) (G9 (aV _ rfl) λh' e=>⟨[],⟨_,#[],0,e,⟨rfl,rfl,rfl⟩,rfl,λe he=>absurd he (by simp),Pairs.nil,.nil⟩,rfl⟩),q _ I.fresh⟩
end
noncomputable def Mj (P:Pm)(F:Fm)(Q:QS):Flow->Shared->Prop:=λf s'=>∃ l' H',Inv P F l' H' s'/\(match f with
 | .next=>Q .next l' H'
 | .cont=>Q .cont l' H'
 | .ret V=>Q (.ret (er V)) l' H'
 | .brk=>False)
noncomputable def IV (P:Pm)(F:Fm)(X:XS):Value->Shared->Prop:=λEV s'=>∃ l' H' e C,EV=.ref e/\Inv P F l' H' s'/\Exc F H' s' e C false/\X C l' H'
section
variable {P:Pm}{F:Fm}{G:Gx}{n:Nat}{sc:Scope}{l:Loc}{H:Hp}{s:Shared}
theorem Bh.toS {X:XS}{V:Value}{s':Shared}(h:Bh P F l (λC H'=>X C l H') V s'):IV P F X V s':=⟨l,h⟩
theorem SE.Hu {e:Expr}{e':Ex}(h:SE P G n sc e e')(O:Ok P G n sc F)(I:Inv P F l H s){Q:QV}{X:XS}(q:e' G l H Q (λC H'=>X C l H')){R:Value->Shared->Prop}(k:∀ V s' H',Inv P F l H' s'->Q (er V) H'->R V s'):wpAny P.M F.A (eval e F.env) R (IV P F X) s :=
 bT (h.2 O I q) (λV s' z=>z.elim λH' z=>k V s' H' z.1 z.2) λuu uu z=>z.toS
def S1 (P:Pm)(G:Gx)(n:Nat)(sc:Scope)(st:Stmt)(st':Sm):Prop :=
 ∀ ⦃F:Fm⦄ ⦃l:Loc⦄ ⦃H:Hp⦄ ⦃s:Shared⦄ ⦃Q:QS⦄ ⦃X:XS⦄,Ok P G n sc F->F.ro=false->Inv P F l H s->st' G l H Q X->wpAny P.M F.A (exec st F.env) (Mj P F Q) (IV P F X) s
def SS (P:Pm)(G:Gx)(n:Nat)(sc:Scope)(st:List Stmt)(st':List Sm):Prop :=
 ∀ ⦃F:Fm⦄ ⦃l:Loc⦄ ⦃H:Hp⦄ ⦃s:Shared⦄ ⦃Q:QS⦄ ⦃X:XS⦄,Ok P G n sc F->F.ro=false->Inv P F l H s->wM G st' l H Q X->wpAny P.M F.A (execs st F.env) (Mj P F Q) (IV P F X) s
theorem wY:SS P G n sc [] []:=λF l H s Q X O ro I q=>pP ⟨l,H,I,q⟩
theorem xP {st:Stmt}{st':Sm}{r:List Stmt}{r':List Sm}(h:S1 P G n sc st st')(hr:SS P G n sc r r'):SS P G n sc (st::r) (st'::r'):=by
 intro F l H s Q X O ro I q
 refine wpAny_execs_cons (bT (h O ro I q) (λf s' z=>?_) λuu uu z=>z)
 obtain⟨l',H',I',z⟩:=z
 cases f with
 | next=>exact hr O ro I' z
 | brk=>exact z.elim
 | cont=>exact⟨l',H',I',z⟩
 | ret v=>exact⟨l',H',I',z⟩
theorem Sh {e:Expr}(h:J7 e=true)(t:Option Expr)(line:Nat)(env:Env):swapsWith e t line env=pure false:=by cases e <;> first | rfl | exact absurd (show false=true from h) cZ
theorem ah8 {e:Expr}{e':Ex}{pos:Pos}(hc:J7 e=true)(h:SE P G n sc e e'):S1 P G n sc (.Expr e pos) (.expr e'):=λF l H s Q X O ro I q =>
 wpAny_Expr_any (h.Hu O I q λV s' H' I' z=>⟨l,H',I',z⟩) (by unfold interactive;rw[O.K.kind];rfl) (Sh hc _ _ _)
theorem abZ {pos:Pos}:S1 P G n sc (.Continue pos) .cont:=λF l H s Q X O ro I q=>by
 rw[arm_exec_Continue]
 exact ak (fG (au ⟨l,H,I,q⟩))
theorem ah9 {e:Expr}{e':Ex}{pos:Pos}(h:SE P G n sc e e'):S1 P G n sc (.Return (some e) pos) (.ret e'):=λF l H s Q X O ro I q=>by
 rw[arm_exec_Return]
 refine ak (fG ?_)
 exact ak (h.Hu O I q λV s' H' I' z=>au ⟨l,H',I',z⟩)
abbrev w7 (sc:Scope)(x:Str):Prop:=sc.names.lookup x=some .local\/sc.names.lookup x=some .cell
theorem ab0 (S:Iv sc F){x:Str}(h:w7 sc x):F.env.kindOf x=some .local\/(F.env.kindOf x=some .cell/\∃ c,F.env.cells.lookup x=some c):=h.imp (S.Pn x) (S.cell x)
theorem Xv {x:Str}{p pos:Pos}{e:Expr}{e':Ex}(hx:w7 sc x)(hc:J7 e=true)(h:SE P G n sc e e'):S1 P G n sc (.Assign [.Name x p] e pos) (.asg x e'):=λF l H s Q X O ro I q =>
 wpAny_Assign_Name (h.Hu O I q λV s' H' I' z=>WL O.K I' ro (ab0 O.S hx) λs'' Xw=>⟨_,_,Xw,z⟩) (Sh hc _ _ _)
theorem Gy {o e:Expr}{a:Str}{p pos:Pos}{o' e':Ex}(hc:J7 e=true)(ho:SE P G n sc o o')(h:SE P G n sc e e'):S1 P G n sc (.Assign [.Attribute o a p] e pos) (.Eb o' a e'):=λF l H s Q X O ro I q =>
 plainObj_wpAny_Assign_Attribute (h.Hu O I q λV s' H1 I1 z=>ho.Hu O I1 z λV2 s2 H2 I2 z=>bT (ahD O.Y O.GO O.K I2 z) (λuu s3 z=>⟨l,z⟩) λuu uu z=>z) (Sh hc _ _ _)
theorem Ml {o i e:Expr}{p pos:Pos}{o' i' e':Ex}{f:Lq}(hf:Xr f)(hc:J7 e=true)(ho:SE P G n sc o o')(hi:SE P G n sc i i')(h:SE P G n sc e e'):S1 P G n sc (.Assign [.Subscript o i p] e pos) (.Eu f o' i' e'):=λF l H s Q X O ro I q =>
 wpAny_Assign_Subscript (h.Hu O I q λV s' H1 I1 z=>ho.Hu O I1 z λV2 s2 H2 I2 z=>hi.Hu O I2 z λV3 s3 H3 I3 z=>bT (hf O.rt I3 z) (λuu s3 z=>⟨l,z⟩) λuu uu z=>z) (Sh hc _ _ _)
theorem aia {c:Expr}{c':Ex}{t f:List Stmt}{t' f':List Sm}{pos:Pos}(hc:ST P G n sc c c')(ht:SS P G n sc t t')(hf:SS P G n sc f f'):S1 P G n sc (.If c t f pos) (.ite c' t' f'):=by
 intro F l H s Q X O ro I q
 refine wpAny_If (bT (hc (k:=λb H1=>if b then wM G t' l H1 Q X else wM G f' l H1 Q X) O I q) (λb s' z=>?_) λuu uu z=>z.toS)
 obtain⟨H',I',z⟩:=z
 cases b with
 | true=>exact ht O ro I' z
 | false=>exact hf O ro I' z
theorem Xx (K:xG P F)(ro:F.ro=false){X:XS}{EV:Value}(z:IV P F X EV s):notedBy P.M F.A F.env (λe s'=>cameBackBy P.M F.A F.env (IV P F X) e s') EV s:=by
 obtain⟨l',H',e,C,rfl,I,x,z⟩:=z
 exact Xd K I ro x λs' I' x'=>ahI K I' x' λs'' Xw x''=>⟨l',H',e,C,rfl,Xw,x''.weak,z⟩
def WhI (P:Pm)(F:Fm)(G:Gx)(c:Ex)(b:List Sm)(Q:QS)(X:XS)(k:Nat)(s:Shared):Prop:=∃ l H,Inv P F l H s/\Lp (λl' H' K=>c G l' H' (λv H1=>zL v λb=>K b H1) (λC H'=>X C l' H')) (λl' H' K=>wM G b l' H' K X) Q k l H
theorem Sq {c:Expr}{c':Ex}{b:List Stmt}{b':List Sm}{pos:Pos}(hc:ST P G n sc c c')(hb:SS P G n sc b b'):S1 P G n sc (.While c b [] pos) (.Hj c' b'):=by
 intro F l H s Q X O ro I q
 obtain⟨m,q⟩:=q
 refine wpAny_While (codeAny_whileLoop (WhI P F G c' b' Q X) ?_ m ⟨l,H,I,q⟩)
 intro k s h
 obtain⟨l,H,I,q⟩:=h
 cases k with
 | zero=>exact q.elim
 | succ k =>
  refine bT (hc O I q) (λb s' z=>?_) λuu uu z=>Xx O.K ro z.toS
  obtain⟨H',I',z⟩:=z
  cases b with
  | false=>exact pP ⟨l,H',I',z⟩
  | true =>
   refine bT (hb O ro I' z) (λf s' z=>?_) λuu uu z=>Xx O.K ro z
   obtain⟨l2,H2,I2,z⟩:=z
   cases f with
   | next=>exact⟨k,bV _,l2,H2,I2,z⟩
   | cont=>exact⟨k,bV _,l2,H2,I2,z⟩
   | brk=>exact z.elim
   | ret v=>exact⟨l2,H2,I2,z⟩
end
noncomputable def Fm.also (F:Fm)(c:Addr)(o:Obj):Fm:={ F with g:=λb=>if b=c then some o else F.g b }
section
variable {P:Pm}{F:Fm}{G:Gx}{n:Nat}{sc:Scope}{l:Loc}{H:Hp}{s:Shared}{c:Addr}{o:Obj}
theorem Hv {b:Addr}(h:b≠c):(F.also c o).g b=F.g b:=if_neg h
theorem Free.also {a:Addr}(x:Free F a)(h:a≠c):Free (F.also c o) a:=⟨(Hv h).trans x.g,x.fr,x.l,x.c⟩
theorem Free.back {a:Addr}(x:Free (F.also c o) a):Free F a:=by
 have h:a≠c:=λq=>xr (show(if a=c then some o else F.g a)=some o from if_pos q) x.g
 exact⟨(Hv h).symm.trans x.g,x.fr,x.l,x.c⟩
theorem xG.also (K:xG P F)(x:Off F H c):xG P (F.also c o):={ K with
 base:=λb o' e=>(Hv (c:=c) (b:=b) λq=>xr (K.base b o' e) (q▸x.f.g)).trans (K.base b o' e)
 lg:=(Hv (cH x.f.l)).trans K.lg
 cg:=λhr y d hy=>⟨(Hv (cH (x.f.c y d hy))).trans (K.cg hr y d hy).1,(K.cg hr y d hy).2⟩
 fg:=λb d e=>⟨(Hv (c:=c) (b:=b) λq=>xr (show F.fr b=some d from e) (q▸x.f.fr)).trans (K.fg b d e).1,(K.fg b d e).2⟩ }
theorem Inv.also (I:Inv P F l H s)(x:Off F H c)(h:s.heap.get? c=some o):Inv P (F.also c o) l H s where
 gens:=I.gens
 os:=I.os
 keep:=λb o' e=>by
  by_cases q:b=c
  ·rw[show(F.also c o).g b=some o from if_pos q] at e;cases e;rw[q];exact h
  ·exact I.keep b o' ((Hv q).symm.trans e)
 yX:=I.yX
 loc:=I.loc
 z9:=I.z9
 ob:=λa o' e=>let b:=I.ob a o' e;⟨b.mt,b.old,λz=>(b.free z).also λq=>xr e (q▸x.h),b.big⟩
theorem Inv.back (K:xG P F)(x:Off F H c){l':Loc}{H':Hp}(I:Inv P (F.also c o) l' H' s):Inv P F l' H' s/\s.heap.get? c=some o/\Off F H' c:=by
 refine⟨⟨I.gens,I.os,λb o' e=>I.keep b o' ((Hv (c:=c) (b:=b) λq=>xr e (q▸x.f.g)).trans e),I.yX,I.loc,I.z9,λa o' e=>let b:=I.ob a o' e;⟨b.mt,b.old,λz=>(b.free z).back,b.big⟩⟩,I.keep c o (if_pos rfl),none_of λo' e=>?_,x.f⟩
 have b:=I.ob c o' e
 cases hr:o'.BP with
 | true=>obtain⟨O,e'⟩:=b.old hr;exact xr (K.base _ _ e') x.f.g
 | false=>exact xr (show(F.also c o).g c=some o from if_pos rfl) (b.free hr).g
theorem Ok.also (O:Ok P G n sc F)(x:Off F H c):Ok P G n sc (F.also c o):=⟨O.Y,O.B,O.GO,O.FN,O.K.also x,⟨O.S.loc,O.S.glob,O.S.Pn,O.S.cell⟩,O.R⟩
theorem Exc.back {H':Hp}{e C:Addr}{b:Bool}(x:Exc (F.also c o) H' s e C b):Exc F H' s e C b:=x.move λuu y=>⟨y.h,y.f.back⟩
abbrev But (J:Addr)(h h':Heap):Prop:=∀ b o,b≠J->h.get? b=some o->h'.get? b=some o
structure Turns (P:Pm)(A:Around)(J:Addr)(guard:Hp->Prop)(items:List Value)(wC:Nat->Heap->Prop):Prop where
 at_:∀ i h,wC i h->∃ o,h.get? J=some o
 frame:∀ i h h',wC i h->(∀ o,h.get? J=some o->h'.get? J=some o)->wC i h'
 item:∀ i (s:Shared) (Q:Option Value->Shared->Prop) (E:Value->Shared->Prop) (H:Hp),(∀ a o,H a=some o->Ii P s.heap a o)->H J=none->guard H->wC i s.heap->∀ v,items[i]?=some v ->
  (∀ V h' tk,er V=v->wC (i+1) h'->But J s.heap h'->Q (some V) { s with heap:=h',toks:=tk })->wpAny P.M A (pyNext (.ref J)) Q E s
 done:∀ (s:Shared) (Q:Option Value->Shared->Prop) (E:Value->Shared->Prop) (H:Hp),(∀ a o,H a=some o->Ii P s.heap a o)->H J=none->guard H->wC items.length s.heap ->
  (∀ h' tk,But J s.heap h'->Q none { s with heap:=h',toks:=tk })->wpAny P.M A (pyNext (.ref J)) Q E s
 self:∀ i (s:Shared) (Q:Value->Shared->Prop) (E:Value->Shared->Prop),wC i s.heap->Q (.ref J) s->wpAny P.M A (pyIter (.ref J)) Q E s
theorem Mp {J b:Addr}(h:b≠J):b∉[J]:=λz=>h (aC.1 z)
theorem aib {A:Around}(hh:A.handled=none)(J a:Addr)(xs:List Value):Turns P A J (λH=>H a=some (.list xs)) xs (λi h=>h.IsListIter J a i) where
 at_:=λi h x=>x.elim λo z=>⟨o,z.1⟩
 frame:=λi h h' x k=>x.elim λo z=>⟨o,k o z.1,z.2⟩
 item:=λi s Q E H mt hJ g st v hv hq=>by
  obtain⟨vs,n,hl,e,_⟩:=mt a _ g
  obtain⟨V,hV,e2⟩:=O6 e hv
  refine(rW (prog:=P.prog) (w:=P.w) hh J a (λq=>xr g (q▸hJ)) vs).item i s Q E (dj.1 hV).1 ⟨st,Ec hl⟩ λV' h' tk hP st' k=>hq V' h' tk ?_ st'.1 λb o hb=>k b o (Mp hb)
  rw[hV] at hP;cases hP;exact e2
 done:=λs Q E H mt hJ g st hq=>by
  obtain⟨vs,n,hl,e,_⟩:=mt a _ g
  exact(rW (prog:=P.prog) (w:=P.w) hh J a (λq=>xr g (q▸hJ)) vs).done s Q E ⟨Av e▸st,Ec hl⟩ λh' tk k=>hq h' tk λb o hb=>k b o (Mp hb)
 self:=λi s Q E st hq=>wpAny_pyIter_listiter st hq
noncomputable def Ei (lo hi st:Int):List Value:=(dw (cJ lo hi st).toNat).map λ(k:Nat)=>.int (lo+(k:Int)*st) 0
theorem ab1 (lo hi st:Int):(Ei lo hi st).length=(cJ lo hi st).toNat:=by unfold Ei;rw[aA,eN]
theorem aic {lo hi st:Int}{i:Nat}{v:Value}(h:(Ei lo hi st)[i]?=some v):v=.int (lo+(i:Int)*st) 0:=by
 unfold Ei at h
 rw[cD] at h
 obtain⟨j,hj,rfl⟩:=bG.1 h
 rw[vd (by obtain⟨z,_⟩:=fH.1 hj;rw[eN] at z;exact z)] at hj
 cases hj;rfl
theorem aie {A:Around}(hh:A.handled=none)(J:Addr)(lo hi st:Int):Turns P A J (λuu=>True) (Ei lo hi st) (λi h=>IsRangeIter h J (lo+(i:Nat)*st) (((cJ lo hi st).toNat:Int)-(i:Nat)) st) where
 at_:=λi h r=>⟨_,r⟩
 frame:=λi h h' r k=>k _ r
 item:=λi s Q E H mt hJ g r v hv hq=>(Walks.range (prog:=P.prog) (w:=P.w) hh J lo st _).item i s Q E (ab1 lo hi st▸RT hv) r λV h' tk hP st' k=>hq V h' tk (by
  obtain⟨t,rfl⟩:=hP
  exact(aic hv).symm) st' λb o hb=>k b o (Mp hb)
 done:=λs Q E H mt hJ g r hq=>(Walks.range (prog:=P.prog) (w:=P.w) hh J lo st (cJ lo hi st).toNat).done s Q E (by rw[ab1] at r;exact r) λh' tk k=>hq h' tk λb o hb=>k b o (Mp hb)
 self:=λi s Q E r hq=>wpAny_pyIter_rangeiter r hq
theorem ab2 {A:Around}{J:Addr}{x:Str}{wC:Nat->Heap->Prop}(W:Walks P.prog P.w A J [J] [J] x.cps.size (SignAt x) wC)(hat:∀ i h,wC i h->∃ o,h.get? J=some o):Turns P A J (λuu=>True) (x.cps.toList.map λc=>.str (zM c) 0) wC where
 at_:=hat
 frame:=λi h h' r k=>W.frame i h h' r λb hb o e=>by rw[aC.1 hb] at e ⊢;exact k o e
 item:=λi s Q E H mt hJ g r v hv hq=>by
  rw[cD,aW] at hv
  obtain⟨c',hc',rfl⟩:=bG.1 hv
  refine W.item i s Q E (dj.1 hc').1 r λV h' tk hP st' k=>hq V h' tk ?_ st' λb o hb=>k b o (Mp hb)
  obtain⟨c,u,hc,rfl⟩:=hP
  rw[hc] at hc';cases hc'
  rfl
 done:=λs Q E H mt hJ g r hq=>W.done s Q E (by rw[aA,aq] at r;exact r) λh' tk k=>hq h' tk λb o hb=>k b o (Mp hb)
 self:=λi s Q E r hq=>W.self i s Q E r hq
inductive Iter (P:Pm)(F:Fm)(l:Loc)(H:Hp)(k:(Hp->Prop)->List Value->Prop)(it:Value)(s:Shared):Prop where
 | mk (guard:Hp->Prop) (items:List Value) (J:Addr) (wC:Nat->Heap->Prop):k guard items->it=.ref J->Inv P F l H s->Off F H J->P.base.objs.size<=J->wC 0 s.heap->(∀ A:Around,A.handled=none->Turns P A J guard items wC)->Iter P F l H k it s
def Ke (it:It):Prop:=∀ ⦃P:Pm⦄ ⦃F:Fm⦄ ⦃l:Loc⦄ ⦃H:Hp⦄ ⦃s:Shared⦄ ⦃E:Value->Shared->Prop⦄ ⦃V:Value⦄ ⦃k:(Hp->Prop)->List Value->Prop⦄,xG P F->Inv P F l H s->it (er V) H k->wpAny P.M F.A (pyIter V) (Iter P F l H k) E s
noncomputable def yO:It:=λv H k=>On .list v H λp xs=>k (λH'=>H' p=some (.list xs)) xs
noncomputable def Xy:It:=λv uu k=>Cp v λx=>k (λuu=>True) (x.cps.toList.map λc=>.str (zM c) 0)
noncomputable def itR:It:=λv H k=>On (λq:Int×Int×Int=>.range q.1 q.2.1 q.2.2) v H λuu q=>fU q.1 q.2.1 q.2.2=true/\k (λuu=>True) (Ei q.1 q.2.1 q.2.2)
theorem Cr:Ke yO:=by
 intro P F l H s E V k K I h
 refine h.use ?_;intro p xs hx h
 obtain⟨vs,n,hl,_⟩:=I.objs hx
 exact rR (Ec hl) ⟨_,_,_,_,h,rfl,I.push K _,I.ofSize K,I.Dd K,⟨_,aV _ rfl,rfl,rfl⟩,λA hA=>aib hA _ p xs⟩
theorem aif:Ke Xy:=by
 intro P F l H s E V k K I h
 refine h.use ?_;intro x t h
 cases ha:x.cps.all (·<128)
 ·exact wpAny_pyIter_wide ha ⟨_,_,_,_,h,rfl,I.push K _,I.ofSize K,I.Dd K,⟨_,aV _ rfl,rfl,rfl⟩,λA hA=>ab2 (Walks.strWide hA _ x t) λi h x=>x.elim λo z=>⟨o,z.1⟩⟩
 ·exact wpAny_pyIter_ascii ha ⟨_,_,_,_,h,rfl,I.push K _,I.ofSize K,I.Dd K,⟨_,aV _ rfl,rfl,rfl⟩,λA hA=>ab2 (Walks.strAscii hA _ x t) λi h x=>x.elim λo z=>⟨o,z.1⟩⟩
theorem Gz:Ke itR:=by
 intro P F l H s E V k K I h
 refine h.use ?_;intro p q hx h
 obtain⟨t,u,v,hr⟩:=I.objs hx
 refine wpAny_pyIter_range hr h.1 ⟨_,_,_,_,h.2,rfl,I.push K _,I.ofSize K,I.Dd K,?_,λA hA=>aie hA _ q.1 q.2.1 q.2.2⟩
 show IsRangeIter _ _ (q.1+((0:Nat):Int)*q.2.2) (((cJ q.1 q.2.1 q.2.2).toNat:Int)-((0:Nat):Int)) q.2.2
 rw[<-rangeSize_toNat,show q.1+((0:Nat):Int)*q.2.2=q.1 by rw[Int.natCast_zero,uN,n7],show cJ q.1 q.2.1 q.2.2-((0:Nat):Int)=cJ q.1 q.2.1 q.2.2 from Int.sub_zero _]
 exact aV _ rfl
end
end
section
open PySem PyProof.Rows PySem.Calls
open PySem.W (Looks looks_subIn looks_typeIn looks_mroIn)
section
variable {P:Pm}{F:Fm}{G:Gx}{n:Nat}{sc:Scope}{l:Loc}{H:Hp}{s:Shared}
theorem Inv.turn (K:xG P F)(I:Inv P F l H s){J:Addr}(of:Off F H J){h':Heap}{t:Nat}(k:But J s.heap h'):Inv P F l H { s with heap:=h',toks:=t }:=I.step K λb o e hn=>k b o (λq=>hn (q▸of)) e
theorem Inv.PB (I:Inv P F l H s):∀ a o,H a=some o->Ii P s.heap a o:=λuu uu h=>I.objs h
inductive Ss (P:Pm)(F:Fm)(G:Gx)(x:Str)(b:List Sm)(Q:QS)(X:XS)(J:Addr)(guard:Hp->Prop)(items:List Value)(wC:Nat->Heap->Prop)(k:Nat)(s:Shared):Prop where
 | mk (i:Nat) (l:Loc) (H:Hp):Inv P F l H s->Off F H J->wC i s.heap->i+k=items.length->Hi guard x (λl' H' K=>wM G b l' H' K X) (items.drop i) l H Q->Ss P F G x b Q X J guard items wC k s
def FoR (P:Pm)(F:Fm)(Q:QS)(I:Nat->Shared->Prop)(k:Nat)(f:Flow)(s:Shared):Prop:=match f with
 | .next | .cont=>∃ m,m<k/\I m s
 | .brk=>Mj P F Q .next s
 | .ret v=>Mj P F Q (.ret v) s
theorem aii {x:Str}{b:List Stmt}{b':List Sm}{Q:QS}{X:XS}{J:Addr}{guard:Hp->Prop}{items:List Value}{wC:Nat->Heap->Prop}{o:Obj}(hb:SS P G n sc b b')(O:Ok P G n sc F)(ro:F.ro=false)(T:Turns P F.A J guard items wC){i k:Nat}(hk:i+(k+1)=items.length)
  (of:Off F H J) {h0:Heap} (st:wC (i+1) h0) (ho:h0.get? J=some o) (I:Inv P (F.also J o) l H s)
  (q:wM G b' l H (λf l' H'=>match f with | .next | .cont=>Hi guard x (λl' H' K=>wM G b' l' H' K X) (items.drop (i+1)) l' H' Q | .ret r=>Q (.ret r) l' H') X) :
  wpAny P.M F.A (execs b F.env) (FoR P F Q (Ss P F G x b' Q X J guard items wC) (k+1)) (notedBy P.M F.A F.env λe s'=>cameBackBy P.M F.A F.env (IV P F X) e s') s:=by
 refine bT (hb (F:=F.also J o) (O.also of) ro I q) (λf s4 z=>?_) λEV s4 z=>?_
 ·obtain⟨l4,H4,I4,z⟩:=z
  obtain⟨I5,ho5,of5⟩:=I4.back O.K of
  have nx:Hi guard x (λl' H' K=>wM G b' l' H' K X) (items.drop (i+1)) l4 H4 Q->∃ m,m<k+1/\Ss P F G x b' Q X J guard items wC m s4:=λz =>
   ⟨k,bV _,i+1,l4,H4,I5,of5,T.frame _ _ _ st λo' e=>by rw[ho] at e;cases e;exact ho5,(cA i 1 k).trans hk,z⟩
  cases f with
  | next=>exact nx z
  | cont=>exact nx z
  | brk=>exact z.elim
  | ret v=>exact⟨l4,H4,I5,z⟩
 ·obtain⟨l',H',e,C,rfl,I4,x4,z⟩:=z
  exact Xx O.K ro ⟨l',H',e,C,rfl,(I4.back O.K of).1,x4.back,z⟩
theorem Cu {x:Str}{px pos:Pos}{it:Expr}{it':Ex}{f:It}{b:List Stmt}{b':List Sm}(hf:Ke f)(hx:w7 sc x)(hi:SE P G n sc it it')(hb:SS P G n sc b b') :
  S1 P G n sc (.For (.Name x px) it b [] pos) (.for_ f x it' b'):=by
 intro F l H s Q X O ro I q
 refine wpAny_For (hi.Hu O I q λV s1 H1 I1 q=>bT (hf O.K I1 q) (λit s2 q=>?_) λuu uu z=>z) (λuu=>(Aj hi.1).2.2.2 _ _)
 obtain⟨guard,items,J,wC,q,rfl,I2,of,bz,st,T⟩:=q
 have T:=T F.A O.K.hh
 refine codeAny_forLoop (Ss P F G x b' Q X J guard items wC) ?_ items.length ⟨0,l,H1,I2,of,st,d9 _,q⟩
 clear q st of I2 bz I
 intro k s h
 obtain⟨i,l,H,I,of,st,hk,q⟩:=h
 cases k with
 | zero =>
  have hi:i=items.length:=hk
  subst hi
  rw[nG] at q
  exact T.done s _ _ H I.PB of.h q.1 st λh' tk k'=>pP ⟨l,H,I.turn O.K of k',q.2⟩
 | succ k =>
  have hi:i<items.length:=hk▸cQ (eU k)
  rw[dY hi] at q
  refine T.item i s _ _ H I.PB of.h q.1 st _ (cB hi) λV h' tk hV st' k'=>?_
  obtain⟨o,ho⟩:=T.at_ _ _ st'
  refine rU (WL (F:=F.also J o) (O.K.also of) ((I.turn (t:=tk) O.K of k').also of ho) ro (ab0 (O.also (o:=o) of).S hx) λs3 I3=>?_)
  rw[hV] at I3
  refine bT (aii (x:=x) hb O ro T hk of st' ho I3 q.2) (λf s' z=>?_) λuu uu z=>z
  cases f <;> exact z
end
section
variable {P:Pm}{F:Fm}{G:Gx}{n:Nat}{sc:Scope}{l:Loc}{H:Hp}{s:Shared}
theorem Fb {x m:Str}{np cpos pos mp:Pos}{kk:Nat}(hl:zK sc x=some false)(hp:Ef x=true):S1 P G n sc (.Raise (some (.Call (.Name x np) [.Constant (.str m) kk mp] [] cpos)) none pos) (.raise x):=by
 intro F l H s Q X O ro I q
 obtain⟨C,hC,he,q⟩:=q
 obtain⟨V,hV,hg⟩:=O.GO.glob x _ hC
 cases Ih hV
 obtain⟨bm,N,nm,qn,bs,hdct,sn,sub,ab,col,dd,k0,k1,k2,k3,k5,mN,c1,c2,c3,c4⟩:=O.GO.own C he
 have FB:=PySem.F.excBase_ValueError
 refine wpAny_Raise_call_subT (C:=C) (nm:=nm) (q:=qn) (N:=N) (bs:=bs) (bm:=bm) (hdct:=hdct) (sn:=sn) (sub:=sub) (ab:=ab) (col:=col) (dd:=dd) (k0:=k0) (k1:=k1) (k2:=k2) (k3:=k3) (k5:=k5)
  FB (mN:=mN) (c4.hasType FB.hasBase) O.K.hh (Xg (λuu=>rfl)).1 c3 (RK O.Y O.K I hg (O.S.glob x hl) (LR hp).1 ⟨rfl,?_⟩)
 refine abQ (λuu=>rfl) (fZ (rz (k:=kk) (pos:=mp) (jC ?_)))
 have k:=I.Ij O.K
 refine⟨rfl,show 1<=sizeLine by decide,k _ _ c1,c2.keeps k,c4.keeps k,λh' e M=>?_⟩
 obtain⟨t,m1,m2,m3⟩:=M.there
 exact⟨l,H,e,C,rfl,I.kept O.K (t:=s.toks+1) λb o hb=>M.keeps b o hb,⟨_,_,I.off O.K M.new,⟨m1,rfl,rfl,rfl⟩,.no rfl⟩,q⟩
set_option tactic.hygienic true in
theorem aij {K:qb}{D:Addr}(C:abH K D)(M:Model){h:Heap}(X:K.In h):Looks M h (isType (.ref D)) true:=by
 obtain⟨cd,hc⟩:=Option.isSome_iff_exists.mp C.cl
 unfold PySem.W.clsIn at hc
 split at hc
 ·rename_i ho
  intro A' Q' E' s' k q
  exact ak (wpAny_loadPart (k _ _ (X _ _ ho)) (au q))
 ·cases hc
theorem aik (O:Ok P G n sc F)(I:Inv P F l H s){A:Around}{E:Value->Shared->Prop}{e C D:Addr}{b:Bool}(x:Exc F H s e C b)(hc:G.isExc C=true)(hd:G.isExc D=true){Q:Bool->Shared->Prop}(h:Q (G.sub C D) s) :
  wpAny P.M A (excMatches (.ref e) (.ref D)) Q E s:=by
 have X:=I.Br O.Y O.K
 obtain⟨oe,vs,_,x,_⟩:=x
 have ec:=O.GO.exc D hd
 have L1:Looks P.M s.heap (isInstance (.ref D) (.type "tuple")) false:=(looks_typeIn X ec.ty).andThen (Looks.of_pure (by rw[nu];kernel_rfl))
 have L2:Looks P.M s.heap (isExcClass (.ref D)) true:=(aij ec P.M X).andThen (looks_mroIn X ec.be)
 have L3:Looks P.M s.heap (typeOf (.ref e)) (.ref C):=(show vQ s.heap e oe C none from⟨x.g,x.c,by unfold PySem.W.notCls;rw[x.d],by rw[x.n];trivial⟩).type
 have L4:=looks_subIn (M:=P.M) X (O.GO.sub C D hc hd)
 generalize G.sub C D=r at L4 h
 obtain⟨hh,g,d,t,os⟩:=s
 refine ak (L1.at ?_)
 refine ak (au ?_)
 simp only[lX,sX,uF,pure_bind]
 refine ak (L2.at ?_)
 refine ak (au (ak (au (ak (L3.at (ak (L4.at ?_)))))))
 cases r <;> exact ak (au (ak (au (au h))))
theorem ail (K:xG P F)(I:Inv P F l H s){α:Type}{e C:Addr}(x:Exc F H s e C true){what:String}{Q:α->Shared->Prop}{E:Value->Shared->Prop}(h:∀ s',Inv P F l H s'->Exc F H s' e C true->E (.ref e) s') :
  wpAny P.M F.A (PySem.passOn (α:=α) what (.ref e) F.env) Q E s:=by
 have x0:=x
 obtain⟨oe,vs,_,x,y⟩:=x
 cases y with
 | yes t ot ts a1 =>
  refine ak (mH x.g x.d a1 ?_)
  exact ak (Pk K I x0 λs' I' x'=>wpAny_throw (h s' I' x'))
noncomputable def ab3:Const->Option Value
 | .int i=>some (.int i 0)
 | .str x=>some (.str x 0)
 | .bool b=>some (.bool b)
 | _=>none
theorem ab4 {c:Const}{v:Value}(h:ab3 c=some v)(I:Inv P F l H s){A:Around}{E:Value->Shared->Prop}{kk:Nat}{p:Pos}{Q:Value->Shared->Prop}(q:∀ V s',er V=v->Inv P F l H s'->Q V s'):wpAny P.M A (eval (.Constant c kk p) F.env) Q E s:=by
 cases c <;> cases h
 ·exact au (q _ _ rfl I)
 ·exact rA (q _ _ rfl (I.toks _))
 ·exact rz (q _ _ rfl (I.toks _))
inductive SH (sc:Scope):List ExceptHandler->List (Str×Value)->Prop where
 | nil:SH sc [] []
 | cons {x:Str} {c:Const} {v:Value} {kk:Nat} {xp p rp pos:Pos} {r:List ExceptHandler} {r':List (Str×Value)}:zK sc x=some false->Ef x=true->ab3 c=some v->SH sc r r' ->
   SH sc (.ExceptHandler (some (.Name x xp)) none [.Return (some (.Constant c kk p)) rp] pos::r) ((x,v)::r')
theorem ain {hs:List ExceptHandler}{hs':List (Str×Value)}(h:SH sc hs hs')(O:Ok P G n sc F){e C:Addr}(hc:G.isExc C=true){Q:QS}{X:XS} :
  ∀ {s},Inv P F l H s->Exc F H s e C true->hs'.foldr (λh r=>∃ D,G.glob h.1=some (.ref D)/\G.isExc D=true/\if G.sub C D then Q (.ret h.2) l H else r) (X C l H)->wpAny P.M F.A (handleBy (.ref e) F.env hs) (Mj P F Q) (IV P F X) s:=by
 induction h with
 | nil=>exact λI x q=>wpAny_handleBy_nil (ail O.K I x λs' I' x'=>⟨l,H,e,C,rfl,I',x'.weak,q⟩)
 | @cons y c v kk xp p rp pos r r' hy hp hv hr ih =>
  intro s I x q
  obtain⟨D,hD,hdD,q⟩:=q
  obtain⟨V,hV,hg⟩:=O.GO.glob y _ hD
  cases Ih hV
  refine wpAny_handleBy_cons (codeAny_handlers_test (RK O.Y O.K I hg (O.S.glob y hy) (LR hp).1 (aik O I x hc hdD ?_))) (by intro q;cases q)
  generalize G.sub C D=b at q
  cases b with
  | false=>exact ih I x q
  | true =>
   refine codeAny_handlers_suite (Pk O.K I x λs1 I1 x1=>?_)
   refine wpAny_execs_cons ?_
   rw[arm_exec_Return]
   refine ak (fG ?_)
   exact ak (ab4 hv I1 λV s' e I'=>au ⟨l,H,I',by subst e;exact q⟩)
theorem aio {body:List Stmt}{body':List Sm}{h₀:ExceptHandler}{hs:List ExceptHandler}{hs':List (Str×Value)}{pos:Pos}(hb:SS P G n sc body body')(hh:SH sc (h₀::hs) hs') :
  S1 P G n sc (.Try body (h₀::hs) [] [] pos) (.try_ body' hs'):=by
 intro F l H s Q X O ro I q
 refine wpAny_Try_except (bT (hb O ro I q) (λf s1 z=>?_) λEV s1 z=>?_)
 ·obtain⟨l1,H1,I1,z⟩:=z
  cases f with
  | next=>exact pP ⟨l1,H1,I1,z⟩
  | brk=>exact z.elim
  | cont=>exact⟨l1,H1,I1,z⟩
  | ret v=>exact⟨l1,H1,I1,z⟩
 ·obtain⟨l1,H1,e,C,rfl,I1,x1,hc,z⟩:=z
  exact Xd O.K I1 ro x1 λs2 I2 x2=>Pk O.K I2 x2 λs3 I3 x3=>ain hh O hc I3 x3 z
end
end
section
open PySem PyProof.Rows PySem.Calls
noncomputable abbrev Gs:=Addr->Option Obj
noncomputable abbrev Fs:=Addr->Option Data
structure Bv (g:Gs)(fr:Fs)(H:Hp)(a:Addr):Prop where
 h:H a=none
 g:g a=none
 fr:fr a=none
structure SOb (P:Pm)(g:Gs)(fr:Fs)(h:Heap)(a:Addr)(o:xH):Prop where
 mt:Mt P h a o
 old:o.BP=true->∃ O,P.base.get? a=some O
 g:o.BP=false->g a=none
 fr:o.BP=false->fr a=none
 big:o.isD=true->P.base.objs.size<=a
structure Bj (P:Pm)(g:Gs)(fr:Fs)(H:Hp)(s:Shared):Prop where
 gens:s.gens=P.s₀.gens
 os:s.os=P.s₀.os
 keep:∀ b o,g b=some o->s.heap.get? b=some o
 yX:∀ b d,fr b=some d->∃ o,s.heap.get? b=some o/\o.data=d
 ob:∀ a o,H a=some o->SOb P g fr s.heap a o
structure Xz (P:Pm)(g:Gs)(fr:Fs)(A:Around)(h:Heap):Prop where
 base:∀ b o,P.base.get? b=some o->g b=some o
 size:P.base.objs.size<=h.objs.size
 fg:∀ b d,fr b=some d->g b=none/\∀ vs,d≠.fields vs
 frames:∃ outer,A.frames=some outer/\∀ e∈outer,e.scope.kind≠.module/\∃ b,e.frame=some b/\(fr b).isSome=true
 hh:A.handled=none
def isCell (F:Fm)(b:Addr):Prop:=∃ x,(x,b)∈F.env.cells
open Classical in
noncomputable def Fm.gC (F:Fm)(h:Heap):Gs:=λb=>if isCell F b then h.get? b else F.g b
noncomputable def Fm.fC (F:Fm)(h:Heap):Fs:=λb=>if b=F.env.locals then(h.get? b).map (·.data) else F.fr b
section
variable {P:Pm}{F:Fm}{G:Gx}{n:Nat}{sc:Scope}{l:Loc}{H:Hp}{s:Shared}{g:Gs}{fr:Fs}{A:Around}
theorem PJ {h:Heap}{x:Str}{b:Addr}(c:(x,b)∈F.env.cells):F.gC h b=h.get? b:=if_pos ⟨x,c⟩
theorem Sv {h:Heap}{b:Addr}(c:∀ x d,(x,d)∈F.env.cells->b≠d):F.gC h b=F.g b:=if_neg λz=>z.elim λx q=>c x b q rfl
theorem ab5 {h:Heap}{b:Addr}:(∃ x,(x,b)∈F.env.cells)\/F.gC h b=F.g b:=by
 by_cases c:isCell F b
 ·exact .inl c
 ·exact .inr (if_neg c)
theorem PK {h:Heap}:F.fC h F.env.locals=(h.get? F.env.locals).map (·.data):=if_pos rfl
theorem Kf {h:Heap}{b:Addr}(c:b≠F.env.locals):F.fC h b=F.fr b:=if_neg c
theorem Inv.XC (I:Inv P F l H s):∃ o es ep,s.heap.get? F.env.locals=some o/\o.data=.dict es ep:=by
 obtain⟨m,⟨o,es,ep,ho,hd,_⟩,_⟩:=I.loc
 exact⟨o,es,ep,ho,hd⟩
theorem Inv.ab6 (K:xG P F)(I:Inv P F l H s){x:Str}{c:Addr}(h:(x,c)∈F.env.cells):∃ o,s.heap.get? c=some o:=by
 obtain⟨vo,⟨o,ho,_⟩,_⟩:=I.z9 x c (K.cn x c h)
 exact⟨o,ho⟩
theorem Free.gC {h:Heap}{a:Addr}(x:Free F a):F.gC h a=none:=(Sv x.c).trans x.g
theorem Free.fC {h:Heap}{a:Addr}(x:Free F a):F.fC h a=none:=(Kf x.l).trans x.fr
theorem aip (I:Inv P F l H s){b:Addr}{o:Obj}(e:F.gC s.heap b=some o):s.heap.get? b=some o:=by
 rcases ab5 (F:=F) (h:=s.heap) (b:=b) with⟨x,hx⟩ | q
 ·exact(PJ hx).symm.trans e
 ·exact I.keep b o (q.symm.trans e)
theorem aiq (I:Inv P F l H s){b:Addr}{d:Data}(e:F.fC s.heap b=some d):∃ o,s.heap.get? b=some o/\o.data=d:=by
 by_cases q:b=F.env.locals
 ·rw[q,PK] at e
  rw[q]
  exact Option.map_eq_some_iff.mp e
 ·exact I.yX b d ((Kf q).symm.trans e)
theorem PL (I:Inv P F l H s):Bj P (F.gC s.heap) (F.fC s.heap) H s where
 gens:=I.gens
 os:=I.os
 keep:=λb o e=>aip I e
 yX:=λb d e=>aiq I e
 ob:=λa o e=>let b:=I.ob a o e;⟨b.mt,b.old,λz=>(b.free z).gC,λz=>(b.free z).fC,b.big⟩
theorem ab7 (I:Inv P F l H s){b:Addr}{o:Obj}(e:F.g b=some o):F.gC s.heap b=some o:=by
 rcases ab5 (F:=F) (h:=s.heap) (b:=b) with⟨x,hx⟩ | q
 ·exact(PJ hx).trans (I.keep b o e)
 ·exact q.trans e
theorem air (K:xG P F)(I:Inv P F l H s){b:Addr}{d:Data}(e:F.fC s.heap b=some d):F.gC s.heap b=none/\∀ vs,d≠.fields vs:=by
 by_cases q:b=F.env.locals
 ·subst q
  obtain⟨o,es,ep,ho,hd⟩:=I.XC
  rw[PK,ho] at e
  cases e
  exact⟨(Sv λx c hm=>(K.cl x c hm).symm).trans K.lg,λvs z=>by have z:=hd.symm.trans z;cases z⟩
 ·have e:=(Kf q).symm.trans e
  exact⟨(Sv (b:=b) λx c hm z=>xr e (z▸K.cf x c hm)).trans (K.fg b d e).1,(K.fg b d e).2⟩
theorem ais (K:xG P F)(I:Inv P F l H s):∃ outer,F.A.frames=some outer/\∀ e∈outer,e.scope.kind≠.module/\∃ b,e.frame=some b/\(F.fC s.heap b).isSome=true:=by
 obtain⟨fenv,outer,h1,h2,h3⟩:=K.frames
 refine⟨_,h1,λe he=>⟨(h3 e he).1,?_⟩⟩
 obtain⟨b,k2,k3⟩:=(h3 e he).2
 refine⟨b,k2,?_⟩
 by_cases q:b=F.env.locals
 ·obtain⟨o,_,_,ho,_⟩:=I.XC
  rw[q,PK,ho];rfl
 ·rw[Kf q];exact k3.resolve_left q
theorem XD (K:xG P F)(I:Inv P F l H s):Xz P (F.gC s.heap) (F.fC s.heap) F.A s.heap :=
 ⟨λb o e=>ab7 I (K.base b o e),I.Dd K,λb d e=>air K I e,ais K I,K.hh⟩
theorem Bv.up (K:xG P F)(I:Inv P F l H s){H':Hp}{a:Addr}(x:Bv (F.gC s.heap) (F.fC s.heap) H' a):Off F H' a:=by
 have c0:∀ y c,(y,c)∈F.env.cells->a≠c:=λy c hm q=>(I.ab6 K hm).elim λo ho=>xr ho ((PJ hm).symm.trans (q▸x.g))
 have l0:a≠F.env.locals:=λq=>by
  obtain⟨o,_,_,ho,_⟩:=I.XC
  have z:=x.fr
  rw[q,PK,ho] at z;cases z
 exact⟨x.h,(Sv c0).symm.trans x.g,(Kf l0).symm.trans x.fr,l0,c0⟩
theorem Sx (K:xG P F)(I:Inv P F l H s){H':Hp}{s':Shared}(S:Bj P (F.gC s.heap) (F.fC s.heap) H' s'):Inv P F l H' s' where
 gens:=S.gens
 os:=S.os
 keep:=λb o e=>S.keep b o (ab7 I e)
 yX:=λb d e=>S.yX b d ((Kf (F:=F) (b:=b) λq=>xr e (q▸K.lf)).trans e)
 loc:=by
  obtain⟨m,⟨o,es,ep,ho,hd,r⟩,q⟩:=I.loc
  obtain⟨o',ho',hd'⟩:=S.yX F.env.locals o.data (by rw[PK,ho];rfl)
  exact⟨m,⟨o',es,ep,ho',hd'.trans hd,r⟩,q⟩
 z9:=λx c e=>by
  obtain⟨vo,⟨o,ho,r⟩,q⟩:=I.z9 x c e
  exact⟨vo,⟨o,S.keep c o ((PJ (mem_of_lookup e)).trans ho),r⟩,q⟩
 ob:=λa o e=>let b:=S.ob a o e;⟨b.mt,b.old,λz=>(Bv.up (H':=λuu=>none) K I ⟨rfl,b.g z,b.fr z⟩).f,b.big⟩
noncomputable abbrev Fm.on (g:Gs)(fr:Fs)(A:Around)(env:Env)(ro:Bool):Fm:=⟨env,A,g,fr,ro⟩
theorem Inv.site {env:Env}{ro:Bool}(I:Inv P (Fm.on g fr A env ro) l H s):Bj P g fr H s :=
 ⟨I.gens,I.os,I.keep,I.yX,λa o e=>let b:=I.ob a o e;⟨b.mt,b.old,λz=>(b.free z).g,λz=>(b.free z).fr,b.big⟩⟩
theorem Off.site {env:Env}{ro:Bool}{a:Addr}(x:Off (Fm.on g fr A env ro) H a):Bv g fr H a:=⟨x.h,x.f.g,x.f.fr⟩
theorem Bj.no (S:Bj P g fr H s){b:Addr}(h:s.heap.get? b=none):Bv g fr H b :=
 ⟨none_of λo e=>(S.ob b o e).mt.elim λuu x=>xr x.1 h,none_of λo e=>xr (S.keep b o e) h,none_of λo e=>(S.yX b o e).elim λuu x=>xr x.1 h⟩
theorem Bj.above (S:Bj P g fr H s){b:Addr}(h:s.heap.objs.size<=b):Bv g fr H b:=S.no (jK h)
theorem ab8 {x:Str}(h:zK sc x=some true):sc.names.lookup x=some .local\/sc.names.lookup x=some .cell\/sc.names.lookup x=some .free:=by
 unfold zK at h
 generalize sc.names.lookup x=o at h
 cases o with
 | none=>cases h
 | some k=>cases k <;> first | exact .inl rfl | exact .inr (.inl rfl) | exact .inr (.inr rfl) | cases h
theorem ab9 {x:Str}(h:zK sc x=some false):sc.names.lookup x=some .globalImplicit:=by
 unfold zK at h
 generalize sc.names.lookup x=o at h
 cases o with
 | none=>cases h
 | some k=>cases k <;> first | rfl | cases h
theorem PX {α:Type}{x:Str}{c:α}{l:List (Str×α)}(hn:(l.map (·.1)).Nodup)(hm:(x,c)∈l):l.lookup x=some c:=by
 induction l with
 | nil=>exact absurd hm aH
 | cons p r ih =>
  rw[bJ,eE] at hn
  rw[fW]
  rcases List.mem_cons.mp hm with q | q
  ·rw[<-q,beq_self_eq_true]
  ·rw[show(x==p.1)=false from beq_eq_false_iff_ne.mpr λe=>hn.1 (List.mem_map.mpr ⟨(x,c),q,e⟩)]
   exact ih hn.2 q
theorem ait {names:List (Str×NameKind)}:∀ {k:Nat} {acc:List (Str×Addr)},(∀ x c,(x,c)∈acc->∃ c,(x,c)∈cellsFrom k names acc)/\∀ x,(x,rM)∈names->∃ c,(x,c)∈cellsFrom k names acc:=by
 induction names with
 | nil=>exact λ{k acc}=>⟨λx c h=>⟨c,h⟩,λx h=>absurd h aH⟩
 | cons p r ih =>
  intro k acc
  unfold cellsFrom
  by_cases e:p.2==.cell
  ·rw[if_pos e]
   refine⟨λx c h=>ih.1 x c (.tail _ h),λx h=>?_⟩
   rcases aM.1 h with q | q
   ·rw[<-q];exact ih.1 x k (.head _)
   ·exact ih.2 x q
  ·rw[if_neg e]
   refine⟨ih.1,λx h=>ih.2 x ((aM.1 h).resolve_left λq=>e ?_)⟩
   rw[<-q];rfl
theorem acd {names:List (Str×NameKind)}:∀ {k:Nat} {acc:List (Str×Addr)},((names.map (·.1))++acc.map (·.1)).Nodup->((cellsFrom k names acc).map (·.1)).Nodup:=by
 induction names with
 | nil=>exact λh=>h
 | cons p r ih =>
  intro k acc h
  unfold cellsFrom
  by_cases e:p.2==.cell
  ·rw[if_pos e]
   exact ih ((iH (l₁:=r.map (·.1)) (l₂:=acc.map (·.1)) (a:=p.1)).nodup_iff.2 (show(p.1::(r.map (·.1)++acc.map (·.1))).Nodup from h))
  ·rw[if_neg e]
   exact ih (eE.1 h).2
end
noncomputable def ace (sc:Scope)(params:List Str):Bool :=
 sc.kind==.function&&(!sc.isCoroutine&&(!sc.isGenerator&&(decide (sc.names.map (·.1)).Nodup&&(sc.names.all (λx=>x.2 != .free)&&(params.all (λx=>sc.names.lookup x==some .local||sc.names.lookup x==some .cell)&&decide params.Nodup)))))
structure XF (sc:Scope)(ps:List Str):Prop where
 k:sc.kind=.function
 co:sc.isCoroutine=false
 gen:sc.isGenerator=false
 nd:(sc.names.map (·.1)).Nodup
 nf:∀ x∈sc.names,x.2≠.free
 pl:∀ x∈ps,sc.names.lookup x=some .local\/sc.names.lookup x=some .cell
 pn:ps.Nodup
theorem aiu {sc:Scope}{ps:List Str}(h:ace sc ps=true):XF sc ps:=by
 obtain⟨a,h⟩:=bf.1 h
 obtain⟨b,h⟩:=bf.1 h
 obtain⟨c,h⟩:=bf.1 h
 obtain⟨d,h⟩:=bf.1 h
 obtain⟨e,h⟩:=bf.1 h
 obtain⟨f,h⟩:=bf.1 h
 exact⟨cP a,(gV _).mp b,(gV _).mp c,of_decide_eq_true d,λx hx=>bne_iff_ne.1 (fD.1 e x hx),λx hx=>(mj.1 (fD.1 f x hx)).imp cP cP,of_decide_eq_true h⟩
structure aiv (P:Pm)(f:Addr)(ps:List Str)(sc:Scope)(body:List Stmt)(o:Obj)(fd:FuncData):Prop where
 at_:P.base.get? f=some o
 data:o.data=.func fd
 code:P.base.CodeRec fd.code fd.qualname
 body:fd.body=.stmts body
 scp:fd.scope=sc
 clo:fd.closure=[]
 glob:fd.globals=mainGlobals
 blt:fd.builtins=builtinsNs
 lam:∀ c T q,P.lam=some (c,T,q)->sc.names.lookup Hf=some .local->fd.code=.ref c/\fd.qualname++".<locals>."++"<lambda>" = q
 bind:∀ vals,vals.length=ps.length->bindArgs fd ⟨vals,[]⟩=pure (ps.zip vals)
structure FnAt (P:Pm)(f:Addr)(ps:List Str)(sc:Scope)(body:List Stmt):Prop where
 at_:∃ o fd,aiv P f ps sc body o fd
 fine:XF sc ps
 keep:rB P.K (.ref f)=true
theorem acf {f:List (Str×Value)->(Str->Option Value)->Str->Option Value}{g:Str->Value->(Str->Option Value)->Str->Option Value}{x:Str}(h0:∀ m,f [] m=m)(h1:∀ p V r m,f ((p,V)::r) m=f r (g p V m))(g1:∀ V m,g x V m x=some V)(g2:∀ p V m,p≠x->g p V m x=m x){ps:List Str} :
  ∀ {vs:List Value} {m:Str->Option Value},(x∉ps->f (ps.zip vs) m x=m x)/\(ps.Nodup->∀ v,(ps.zip (vs.map er)).lookup x=some v->∃ V,f (ps.zip vs) m x=some V/\er V=v):=by
 induction ps with
 | nil=>exact λ{vs m}=>⟨λuu=>congrFun (h0 m) x,λuu v h=>by rw[List.zip_nil_left] at h;cases h⟩
 | cons p ps ih =>
  intro vs m
  cases vs with
  | nil=>exact⟨λuu=>congrFun (h0 m) x,λuu v h=>by rw[gq,List.zip_nil_right] at h;cases h⟩
  | cons V vs =>
   rw[qt,h1]
   refine⟨λh=>(ih.1 λq=>h (.tail _ q)).trans (g2 p V m λq=>h (q▸.head _)),λhn v h=>?_⟩
   rw[eE] at hn
   rw[bJ,qt,fW] at h
   by_cases e:x=p
   ·subst e
    rw[beq_self_eq_true] at h
    cases h
    exact⟨V,(ih.1 hn.1).trans (g1 V m),rfl⟩
   ·rw[beq_false_of_ne e] at h
    exact ih.2 hn.2 v h
theorem aiw {k:Str->Option NameKind}{x:Str}(hk:k x=some .local){ps:List Str}{vs:List Value}(hn:ps.Nodup){v:Value}(h:(ps.zip (vs.map er)).lookup x=some v):∃ V,bindL k (ps.zip vs) (λuu=>none) x=some V/\er V=v :=
 (acf (f:=bindL k) (g:=λn v m=>if k n=some .local then λy=>if y=n then some v else m y else m) (λuu=>rfl) (λuu uu uu uu=>rfl) (λV m=>by rw[if_pos hk];exact if_pos rfl) λp V m hp=>by split <;> first | exact if_neg (cH hp) | rfl).2 hn v h
theorem aix {k:Str->Option NameKind}{x:Str}(hk:k x≠some .local){ps:List Str}{vs:List Value}(hn:ps.Nodup){v:Value}(h:(ps.zip (vs.map er)).lookup x=some v):∃ V,bindC k (ps.zip vs) (λuu=>none) x=some V/\er V=v :=
 (acf (f:=bindC k) (g:=λn v m=>if k n=some .local then m else λy=>if y=n then some v else m y) (λuu=>rfl) (λuu uu uu uu=>rfl) (λV m=>by rw[if_neg hk];exact if_pos rfl) λp V m hp=>by split <;> first | exact if_neg (cH hp) | rfl).2 hn v h
section
variable {P:Pm}{F:Fm}{G:Gx}{n:Nat}{sc:Scope}{l:Loc}{H:Hp}{s:Shared}{g:Gs}{fr:Fs}{A:Around}
theorem acg (S:Bj P g fr H s)(O:Xz P g fr A s.heap){env:Env}(hk:env.scope.kind=.function)(hg:env.globals=mainGlobals)(hb:env.builtins=builtinsNs)(hL:env.locals=s.heap.objs.size)(hf:env.frame=some env.locals)
  (ab:∀ x c,(x,c)∈env.cells->env.locals<c) (ap:env.cells.Pairwise λx y=>x.2≠y.2) (cn:∀ x c,(x,c)∈env.cells->env.cells.lookup x=some c) (hc:∀ c T q,P.lam=some (c,T,q)->env.kindOf Hf=some .local->env.code=.ref c/\env.qual++"<lambda>" = q):xG P (.on g fr (A.deeper env) env false) where
 kind:=hk
 glob:=hg
 blt:=hb
 base:=O.base
 above:=hL▸O.size
 lg:=(S.above (bI hL.symm)).g
 lf:=(S.above (bI hL.symm)).fr
 cl:=λx c hm=>lB (ab x c hm)
 cg:=λuu x c hm=>have z:=S.above (hL▸aQ (ab x c hm));⟨z.g,z.fr⟩
 apart:=ap
 cn:=cn
 cf:=λx c hm=>(S.above (hL▸aQ (ab x c hm))).fr
 fg:=O.fg
 frames:=by
  obtain⟨outer,h1,h2⟩:=O.frames
  refine⟨env,outer,congrArg (jY (env::·)) h1,λuu=>⟨rfl,hf⟩,λe he=>?_⟩
  rcases List.mem_cons.mp he with rfl | he
  ·exact⟨λz=>(by cases hk.symm.trans z),_,hf,.inl rfl⟩
  ·exact⟨(h2 e he).1,(h2 e he).2.elim λb z=>⟨b,z.1,.inr z.2⟩⟩
 hh:=O.hh
 code:=hc
theorem aiy (S:Bj P g fr H s){env:Env}{ps:List Str}{vs:List Value}{s₁:Shared}{ro:Bool}(hL:env.locals=s.heap.objs.size)(nd:ps.Nodup)
  (x:InCallC s env.locals (bindL env.kindOf (ps.zip vs) λuu=>none) env.cells (bindC env.kindOf (ps.zip vs) λuu=>none) s₁):Inv P (.on g fr A env ro) (λy=>(ps.zip (vs.map er)).lookup y) H s₁:=by
 obtain⟨⟨⟨h,tk,rfl⟩,ns,keep,fresh⟩,cell,apart,above⟩:=x
 have up:∀ a o,H a=some o->a<env.locals:=λa o e=>hL▸(S.ob a o e).mt.elim λuu z=>bM z.1
 refine⟨S.gens,S.os,λb o e=>keep b o (S.keep b o e),λb d e=>(S.yX b d e).elim λo z=>⟨o,keep b o z.1,z.2⟩,⟨_,ns,λy v hy hk=>aiw hk nd hy⟩,λy c e=>⟨_,cell y c e,λv hy hk=>aix (λq=>?_) nd hy⟩,λa o e=>?_⟩
 ·rw[show env.kindOf y=some .local from q] at hk;exact hk.elim (λzz=>by cases zz) (λzz=>by cases zz)
 ·have b:=S.ob a o e
  exact⟨b.mt.elim λO z=>b.mt.congr ((keep a O z.1).trans z.1.symm),b.old,λz=>⟨b.g z,b.fr z,bQ (up a o e),λy c hm=>bQ (eY (up a o e) (above y c hm))⟩,b.big⟩
theorem aiz {fd:FuncData}{ps:List Str}(D:XF sc ps)(e:fd.scope=sc){L a:Addr}{ro:Bool}:Iv sc (.on g fr A (callEnvC fd L a) ro):=by
 subst e
 have cl:∀ x,fd.scope.names.lookup x=some .cell->∃ c,(callEnvC fd L a).cells.lookup x=some c:=λx hx=>(ait.2 x (mem_of_lookup hx)).elim λc z=>⟨c,PX (acd (by rw[gq,aY];exact D.nd)) z⟩
 refine⟨λx h=>?_,λx h=>ab9 h,λx h=>h,λx h=>⟨h,cl x h⟩⟩
 rcases ab8 h with h | h | h
 ·exact .inl h
 ·exact .inr ⟨.inl h,cl x h⟩
 ·exact absurd rfl (D.nf _ (mem_of_lookup h))
def aiA (P:Pm)(g:Gs)(fr:Fs)(Q:QV)(X:XV)(r:Result)(s:Shared):Prop:=match r with
 | .ok (.ret V)=>∃ H,Bj P g fr H s/\Q (er V) H
 | .ok _=>False
 | .error EV=>∃ H e C F',EV=.ref e/\Bj P g fr H s/\Exc F' H s e C false/\(∀ a,Off F' H a->Bv g fr H a)/\X C H
theorem Ga.in1 {A:Around}(R:Ga (n+1) A):A.depth+1+2*n+2<recursionLimit:=aK (by omega) R.1
theorem Ga.in2 {A:Around}(R:Ga (n+1) A):A.units+3+30*n+200<cLine:=aK (by omega) R.2
theorem Ga.deep {A:Around}(R:Ga n A):A.depth<recursionLimit:=aK (by omega) R.1
theorem ach (Y:zY P)(B:∀ x v,Ed x=some v->P.mg x=none/\P.mb x=some v)(GO:Hq P G)(FN:Xe P G n){f:Addr}{ps:List Str}{body:List Stmt}{body':List Sm}(D:FnAt P f ps sc body)(hb:SS P G n sc body body'){vals:List Value}{Q:QV}{X:XV}(q:yq G ps body' (vals.map er) H Q X)
  (S:Bj P g fr H s) (O:Xz P g fr A s.heap) (R:Ga (n+1) A):codeAny P.M A (.call (.ref f) ⟨vals,[]⟩) (aiA P g fr Q X) s:=by
 obtain⟨⟨o,fd,d⟩,fine,_⟩:=D
 have k:∀ b o,P.base.get? b=some o->s.heap.get? b=some o:=λb o e=>S.keep b o (O.base b o e)
 have SC:∀ {A:Around} {ro:Bool},Iv sc (.on g fr A (callEnvC fd s.heap.objs.size f) ro):=aiz fine d.scp
 refine codeAny_call_cells (binds:=ps.zip vals) R.deep (k _ _ d.at_) d.data (Y.lim.keeps k) (d.code.keeps k) d.body (d.bind vals (by rw[q.1,aA])) d.clo (λx hx=>?_) (λs₁ x=>?_) (by rw[d.scp];exact fine.co) (by rw[d.scp];exact fine.gen) (by rw[d.scp];exact fine.k)
 ·rw[d.scp]
  refine(fine.pl x.1 (List.of_mem_zip (a:=x.1) (b:=x.2) hx).1).imp id λh=>⟨h,?_⟩
  obtain⟨c,hc⟩:=((SC (A:=A) (ro:=false)).cell x.1 h).2
  rw[<-d.scp]
  exact mX.2 ⟨c,hc⟩
 ·have K':=acg (A:=A) S O (env:=callEnvC fd s.heap.objs.size f) (by show fd.scope.kind=_;rw[d.scp];exact fine.k) d.glob d.blt rfl rfl x.above x.apart (λx c hm=>PX (acd (by rw[gq,aY,d.scp];exact fine.nd)) hm:∀ x c,(x,c)∈(callEnvC fd s.heap.objs.size f).cells->(callEnvC fd s.heap.objs.size f).cells.lookup x=some c) λc T q hl hk=>d.lam c T q hl (by rw[<-d.scp];exact hk)
  refine bT (hb (F:=.on g fr (A.deeper (callEnvC fd s.heap.objs.size f)) (callEnvC fd s.heap.objs.size f) false) ⟨Y,B,GO,FN,K',SC,R.in1,R.in2⟩ rfl (aiy S rfl fine.pn x) q.2) (λfl s' z=>?_) λEV s' z=>?_
  ·obtain⟨l2,H2,I2,z⟩:=z
   cases fl with
   | next=>exact⟨H2,I2.site,z⟩
   | brk=>exact z.elim
   | cont=>exact z.elim
   | ret v=>exact⟨H2,I2.site,z⟩
  ·obtain⟨l2,H2,e,C,rfl,I2,x2,z⟩:=z
   exact ahH K' I2 rfl x2 λs3 I3 x3=>⟨H2,e,C,_,rfl,I3.site,x3.weak,λa y=>y.site,z⟩
noncomputable abbrev Tab:=Addr->Option (List Str×List Sm)
noncomputable def GG (g:Gx)(tab:Tab):Nat->Gx
 | 0=>{ g with fn:=λuu uu uu uu uu=>False }
 | n+1=>{ g with fn:=λf args H Q X=>∃ r,tab f=some r/\yq (GG g tab n) r.1 r.2 args H Q X }
def xK (P:Pm)(e:Addr×(List Str×List Sm)):Prop:=∃ sc body,FnAt P e.1 e.2.1 sc body/\∀ (G:Gx) (n:Nat),SS P G n sc body e.2.2
abbrev TabOk (P:Pm)(tab:Tab):Prop:=∀ f r,tab f=some r->xK P (f,r)
variable {tab:Tab}{gx:Gx}
theorem aci (GO:Hq P gx)(n:Nat):Hq P (GG gx tab n):=by
 cases n <;> exact⟨GO.glob,GO.fld,GO.meth,GO.init,GO.exc,GO.sub,GO.own⟩
theorem aiB (Y:zY P)(B:∀ x v,Ed x=some v->P.mg x=none/\P.mb x=some v)(GO:Hq P gx)(T:TabOk P tab)(n:Nat):Xe P (GG gx tab n) n:=by
 induction n with
 | zero=>exact⟨λh=>h.elim,λh=>h.elim⟩
 | succ n ih =>
  refine⟨λ{f args H Q X} h=>?_,λ{f args H Q X} h {F l s vals} K R I hv=>?_⟩
  ·obtain⟨r,e,_⟩:=h
   obtain⟨sc,body,D,_⟩:=T f r e
   exact D.keep
  ·obtain⟨r,e,h⟩:=h
   obtain⟨sc,body,D,htr⟩:=T f r e
   subst hv
   refine j4 (ach Y B (aci GO n) ih D (htr _ _) h (PL I) (XD K I) R) λr s' z=>?_
   rcases r with EV | (_ | _ | _ | v)
   ·obtain⟨H',e,C,F',rfl,S,x,k,z⟩:=z
    exact⟨H',e,C,rfl,Sx K I S,x.move λa y=>Bv.up K I (k a y),z⟩
   ·exact z
   ·exact z
   ·exact z
   ·exact z.elim λH' z=>⟨H',Sx K I z.1,z.2⟩
theorem call_top (Y:zY P)(B:∀ x v,Ed x=some v->P.mg x=none/\P.mb x=some v)(GO:Hq P gx)(T:TabOk P tab){f:Addr}(hA:A.frames=some [])(hh:A.handled=none)(R:Ga (n+1) A){vals:List Value}{Q:QV}{h:Heap}(hz:P.base.objs.size<=h.objs.size)
  (S:Bj P (λb=>P.base.get? b) (λuu=>none) H { P.s₀ with heap:=h }) (q:(GG gx tab (n+1)).fn f (vals.map er) H Q (λuu uu=>False)) :
  codeAny P.M A (.call (.ref f) ⟨vals,[]⟩) (λr s'=>∃ V H',r=.ok (.ret V)/\Q (er V) H'/\Bj P (λb=>P.base.get? b) (λuu=>none) H' s') { P.s₀ with heap:=h }:=by
 obtain⟨r,e,q⟩:=q
 obtain⟨sc,body,D,htr⟩:=T f r e
 refine j4 (ach (A:=A) Y B (aci GO n) (aiB Y B GO T n) D (htr _ _) q S ⟨λuu uu e=>e,hz,λuu uu e=>((by cases e)),⟨[],hA,λuu h=>absurd h aH⟩,hh⟩ R) λr s' z=>?_
 rcases r with EV | (_ | _ | _ | v)
 ·obtain⟨H',e,C,F',rfl,S,x,k,z⟩:=z
  exact z.elim
 ·exact z.elim
 ·exact z.elim
 ·exact z.elim
 ·exact z.elim λH' z=>⟨v,H',rfl,z.2,z.1⟩
end
noncomputable def Sy (sc scope:Scope)(x:Str):Bool :=
 scope.kind==.function&&(decide (scope.names.map (·.1)).Nodup&&(scope.names.all (λy=>y.2 != .cell)&&(scope.names.all (λy=>y.2 != .local||(y.1==x||y.1==(".0" : Str)))&&(scope.names.all (λy=>y.2 != .free||sc.names.lookup y.1==some .cell)&&(scope.names.lookup x==some .local&&x != Hf)))))
structure IW (sc scope:Scope)(x:Str):Prop where
 k:scope.kind=.function
 nd:(scope.names.map (·.1)).Nodup
 nc:∀ y∈scope.names,y.2≠.cell
 loc:∀ y,scope.names.lookup y=some .local->y=x\/y=(".0" : Str)
 free:∀ y,(y,jO)∈scope.names->sc.names.lookup y=some .cell
 nl:x≠Hf
 xl:scope.names.lookup x=some .local
theorem XH {α:Type}[BEq α][LawfulBEq α]{a b:α}{c:Bool}(h:(a != b||c)=true)(e:a=b):c=true:=(mj.1 h).resolve_left λq=>bne_iff_ne.1 q e
theorem aiC {sc scope:Scope}{x:Str}(h:Sy sc scope x=true):IW sc scope x:=by
 obtain⟨a,h⟩:=bf.1 h
 obtain⟨b,h⟩:=bf.1 h
 obtain⟨c,h⟩:=bf.1 h
 obtain⟨d,h⟩:=bf.1 h
 obtain⟨e,h⟩:=bf.1 h
 obtain⟨f,h⟩:=bf.1 h
 exact⟨cP a,of_decide_eq_true b,λy hy=>bne_iff_ne.1 (fD.1 c y hy),λy hy=>(mj.1 (XH (fD.1 d _ (mem_of_lookup hy)) rfl)).imp cP cP,
  λy hy=>cP (XH (fD.1 e _ hy) rfl),bne_iff_ne.1 h,cP f⟩
structure Hw (env:Env)(names:List (Str×NameKind))(acc cl:List (Str×Addr)):Prop where
 nd:(cl.map (·.1)).Nodup
 sub:∀ p∈acc,p∈cl
 of:∀ y c,(y,c)∈cl->env.cells.lookup y=some c
 all:∀ y,(y,jO)∈names->∃ c,(y,c)∈cl
theorem aiD {env:Env}{names:List (Str×NameKind)}:∀ {acc:List (Str×Addr)},(names.map (·.1)++acc.map (·.1)).Nodup->(∀ y c,(y,c)∈acc->env.cells.lookup y=some c)->(∀ y,(y,jO)∈names->∃ c,env.cells.lookup y=some c) ->
  ∃ cl,(forIn names acc (λ(x:Str×NameKind) (r:List (Str×Addr))=>match x with | (name,kind)=>if(kind==.free)=true then do let c<-cellOf env name;pure (jq ((name,c)::r)) else pure (jq r)):Sem (List (Str×Addr)))=pure cl/\Hw env names acc cl:=by
 induction names with
 | nil=>exact λ{acc} h1 h2 _=>⟨acc,sX,h1,λuu h=>h,h2,λy h=>absurd h aH⟩
 | cons p r ih =>
  intro acc h1 h2 h3
  obtain⟨y,kind⟩:=p
  by_cases hk:kind=.free
  ·subst hk
   obtain⟨c,hc⟩:=h3 y (.head _)
   obtain⟨cl,e,C⟩:=ih (acc:=(y,c)::acc) ((iH (l₁:=r.map (·.1)) (l₂:=acc.map (·.1)) (a:=y)).nodup_iff.2 (show(y::(r.map (·.1)++acc.map (·.1))).Nodup from h1)) (λz d hz=>(aM.1 hz).elim (λq=>by cases q;exact hc) (h2 z d)) λz hz=>h3 z (.tail _ hz)
   refine⟨cl,?_,C.nd,λp hp=>C.sub p (.tail _ hp),C.of,λz hz=>(aM.1 hz).elim (λq=>by cases q;exact⟨c,C.sub _ (.head _)⟩) (C.all z)⟩
   rw[lX,<-e]
   show(cellOf env y>>=λc=>pure (jq ((y,c)::acc)))>>=_=_
   rw[show cellOf env y=pure c by unfold cellOf;rw[hc]]
   rfl
  ·obtain⟨cl,e,C⟩:=ih (eE.1 h1).2 h2 λz hz=>h3 z (.tail _ hz)
   refine⟨cl,?_,C.nd,C.sub,C.of,λz hz=>(aM.1 hz).elim (λq=>by cases q;exact absurd rfl hk) (C.all z)⟩
   rw[lX,<-e]
   show(if(kind==jO)=true then _ else _)>>=_=_
   rw[if_neg λq=>hk (cP q)]
   rfl
theorem aiE {env:Env}{scope:Scope}(hn:(scope.names.map (·.1)).Nodup)(hf:∀ y,(y,jO)∈scope.names->∃ c,env.cells.lookup y=some c):∃ cl,closureFor scope env=pure cl/\Hw env scope.names [] cl:=by
 obtain⟨cl,e,C⟩:=aiD (env:=env) (names:=scope.names) (acc:=[]) (by rw[gq,aY];exact hn) (λuu uu h=>absurd h aH) hf
 exact⟨cl,(congrArg (λm:Sem (List (Str×Addr))=>m>>=λcs=>pure cs) e).trans rfl,C⟩
noncomputable def rl (env:Env)(x:Str)(k:NameKind):NameKind:=if(k==jO&&env.scope.kind==.function&&env.kindOf x==some .cell) then rM else k
theorem aiF {f:Str×NameKind->Str×NameKind}{g:Str->NameKind->NameKind}(hf:∀ n k,f (n,k)=(n,g n k)){x:Str}{r:List (Str×NameKind)}:(r.map f).lookup x=(r.lookup x).map (g x):=by
 induction r with
 | nil=>rfl
 | cons p r ih =>
  rw[bJ,hf p.1 p.2,fW,fW,ih]
  by_cases h:x=p.1
  ·rw[h,beq_self_eq_true];rfl
  ·rw[beq_false_of_ne h]
theorem aiG {env:Env}{scope:Scope}(x:Str):(relabel scope env).names.lookup x=(scope.names.lookup x).map (rl env x):=aiF (g:=rl env) λn k=>by
 show(if(k==jO&&env.scope.kind==.function&&env.kindOf n==some .cell) then(n,rM) else(n,k))=_
 unfold rl
 split <;> rfl
theorem acj {env:Env}{x:Str}{k:NameKind}(h:k≠.free):rl env x k=k:=if_neg λz=>h (cP (bf.1 (bf.1 z).1).1)
theorem aiH {env:Env}{x:Str}{k:NameKind}(h:rl env x k=.local):k=.local:=by
 unfold rl at h
 split at h
 ·cases h
 ·exact h
theorem aiI {env:Env}{x:Str}{k:NameKind}(h:rl env x k=.cell):k=.cell\/k=.free:=by
 by_cases e:k=.free
 ·exact .inr e
 ·exact .inl ((acj e).symm.trans h)
theorem aiJ {env:Env}{x:Str}{k:NameKind}(h:rl env x k=.free):k=.free:=by
 unfold rl at h
 split at h
 ·cases h
 ·exact h
section
variable {P:Pm}{F:Fm}{G:Gx}{n:Nat}{sc scope:Scope}{l:Loc}{H:Hp}{s:Shared}{x:Str}{cl:List (Str×Addr)}{C:Addr}
theorem ck {env:Env}{y:Str}:(compEnvC scope cl C env).kindOf y=(scope.names.lookup y).map (rl env y):=aiG y
theorem acn (D:IW sc scope x){env:Env}{y:Str}(h:(compEnvC scope cl C env).kindOf y=some .local):y=x\/y=(".0" : Str):=by
 rw[ck] at h
 obtain⟨k,e,h⟩:=bG.1 h
 cases aiH h
 exact D.loc y e
theorem aiK (D:IW sc scope x){env:Env}{y:Str}(h:(compEnvC scope cl C env).kindOf y=some .cell\/(compEnvC scope cl C env).kindOf y=some .free):scope.names.lookup y=some .free:=by
 rw[ck] at h
 rcases h with h | h
 ·obtain⟨k,e,h⟩:=bG.1 h
  rcases aiI h with h | h
  ·subst h;exact absurd rfl (D.nc _ (mem_of_lookup e))
  ·subst h;exact e
 ·obtain⟨k,e,h⟩:=bG.1 h
  cases aiJ h
  exact e
noncomputable abbrev Fm.comp (F:Fm)(h:Heap)(env:Env):Fm:=.on (F.gC h) (F.fC h) F.A env true
theorem aiL (D:IW sc scope x)(K:xG P F)(I:Inv P F l H s)(Cl:Hw F.env scope.names [] cl)(hC:s.heap.objs.size<=C):xG P (F.comp s.heap (compEnvC scope cl C F.env)):=by
 have O:=XD K I
 have cm:∀ y c,(y,c)∈cl->(y,c)∈F.env.cells:=λy c h=>mem_of_lookup (Cl.of y c h)
 have z:=(PL I).above hC
 exact
 {
  kind:=D.k
  glob:=K.glob
  blt:=K.blt
  base:=O.base
  above:=aj O.size hC
  lg:=z.g
  lf:=z.fr
  cl:=λy c h=>(I.ab6 K (cm y c h)).elim λo ho=>bQ (aB (bM ho) hC)
  cg:=λq=>(by cases q)
  apart:=List.Pairwise.imp_of_mem (λ{a b} h1 h2 hne e=>hne (name_of_addr K.apart (cm a.1 a.2 h1) (e▸cm b.1 b.2 h2))) (List.pairwise_map.mp Cl.nd)
  cn:=λy c h=>PX Cl.nd h
  cf:=λy c h=>(Kf (K.cl y c (cm y c h))).trans (K.cf y c (cm y c h))
  fg:=O.fg
  frames:=by
   obtain⟨fenv,outer,h1,_⟩:=K.frames
   obtain⟨out,h2,h3⟩:=O.frames
   rw[h1] at h2;cases h2
   exact⟨fenv,outer,h1,λq=>((by cases q)),λe he=>⟨(h3 e he).1,(h3 e he).2.elim λb z=>⟨b,z.1,.inr z.2⟩⟩⟩
  hh:=K.hh
  code:=λuu uu uu uu q=>absurd (acn D q) λq=>q.elim (cH D.nl) λq=>absurd q (by decide +kernel) }
theorem aiM (D:IW sc scope x)(K:xG P F)(S:Iv sc F)(Cl:Hw F.env scope.names [] cl){h:Heap}:Iv scope (F.comp h (compEnvC scope cl C F.env)):=by
 have k1:∀ y k,scope.names.lookup y=some k->k≠.free->(compEnvC scope cl C F.env).kindOf y=some k:=λy k h hk=>by rw[ck,h];exact congrArg some (acj hk)
 refine⟨λy h=>?_,λy h=>k1 y _ (ab9 h) (by decide),λy h=>k1 y _ h (by decide),λy h=>absurd rfl (D.nc _ (mem_of_lookup h))⟩
 rcases ab8 h with h | h | h
 ·exact .inl (k1 y _ h (by decide))
 ·exact absurd rfl (D.nc _ (mem_of_lookup h))
 ·obtain⟨c,hc⟩:=Cl.all y (mem_of_lookup h)
  refine .inr ⟨.inl ?_,c,PX Cl.nd hc⟩
  rw[ck,h]
  refine congrArg some (if_pos ?_)
  rw[K.kind,(S.cell y (D.free y (mem_of_lookup h))).1]
  rfl
theorem aiN (D:IW sc scope x)(K:xG P F)(SO:Iv sc F)(Cl:Hw F.env scope.names [] cl)(I:Inv P F l H s){H':Hp}{s':Shared}(S:Bj P (F.gC s.heap) (F.fC s.heap) H' s')(hC:s.heap.objs.size<=C)(H0:H' C=none)
  {m:Str->Option Value} (hn:s'.heap.Ns C m) {V:Value} (hx:m x=some V):Inv P (F.comp s.heap (compEnvC scope cl C F.env)) ((l.del ".0").upd x (er V)) H' s' where
 gens:=S.gens
 os:=S.os
 keep:=S.keep
 yX:=S.yX
 loc:=⟨m,hn,λy v hy hk=>by
  rcases Loc.JQ hy with⟨e,z⟩ | ⟨e,z⟩
  ·exact⟨V,e▸hx,z⟩
  ·cases (acn D hk).resolve_left e
   rw[show l.del (".0" : Str) ".0" = none from if_pos rfl] at z;cases z⟩
 z9:=λy c e=>by
  have hc:=Cl.of y c (mem_of_lookup e)
  obtain⟨vo,⟨o,ho,hd⟩,q⟩:=I.z9 y c hc
  refine⟨vo,⟨o,S.keep c o ((PJ (mem_of_lookup hc)).trans ho),hd⟩,λv hy hk=>?_⟩
  have hf:=aiK D hk
  rcases Loc.JQ hy with⟨e,z⟩ | ⟨e,z⟩
  ·rw[e,D.xl] at hf;cases hf
  ·by_cases e0:y = ".0"
   ·rw[show l.del (".0" : Str) y=none from if_pos e0] at z;cases z
   ·exact q v ((show l.del (".0" : Str) y=l y from if_neg e0).symm.trans z) (.inl (SO.cell y (D.free y (mem_of_lookup hf))).1)
 ob:=λa o e=>let b:=S.ob a o e;⟨b.mt,b.old,λz=>⟨b.g z,b.fr z,λq=>xr e (q▸H0),λy c hm=>(Bv.up (H':=λuu=>none) K I ⟨rfl,b.g z,b.fr z⟩).f.c y c (mem_of_lookup (Cl.of y c hm))⟩,b.big⟩
theorem Inv.nL (K:xG P F)(I:Inv P F l H s):H F.env.locals=none:=none_of λo e=>by
 have b:=I.ob _ o e
 cases hr:o.BP with
 | true=>obtain⟨O,e'⟩:=b.old hr;exact xr (K.base _ _ e') K.lg
 | false=>exact(b.free hr).l rfl
inductive Jb (P:Pm)(G:Gx)(n:Nat)(sc:Scope):List Expr->Option Ex->Prop where
 | nil:Jb P G n sc [] none
 | one {e:Expr} {e':Ex}:ST P G n sc e e'->Jb P G n sc [e] (some e')
noncomputable abbrev tests (ifs:List Expr)(env:Env):Sem Bool:=forIn ifs true λ(c:Expr) (r:Bool)=>if r=true then do let ok<-PySem.isTrue c env (eval c env);pure (jq ok) else pure (jq r)
theorem aiO {ifs:List Expr}{Ax:Option Ex}(h:Jb P G n sc ifs Ax)(O:Ok P G n sc F)(I:Inv P F l H s){k:Bool->Hp->Prop}{E:Value->Shared->Prop}(q:abl Ax G l H k) :
  wpAny P.M F.A (tests ifs F.env) (λb s'=>∃ H',Inv P F l H' s'/\k b H') E s:=by
 cases h with
 | nil =>
  show wpAny P.M F.A (forIn [] true _) _ _ s
  rw[sX]
  exact au ⟨H,I,q⟩
 | @one e e' h =>
  show wpAny P.M F.A (forIn [e] true _) _ _ s
  rw[lX]
  refine ak (ak (bT (h O I q) (λb s1 z=>au (au z)) λuu uu z=>?_))
  obtain⟨_,_,_,_,_,_,z⟩:=z
  exact z.elim
end
section
variable {P:Pm}{F:Fm}{G:Gx}{n:Nat}{sc scope:Scope}{l:Loc}{H:Hp}{s:Shared}{x:Str}{cl:List (Str×Addr)}{C J D:Addr}{g:Gs}{fr:Fs}
theorem Bj.turn (S:Bj P g fr H s)(O:Bv g fr H J){h':Heap}{t:Nat}(k:But J s.heap h'):Bj P g fr H { s with heap:=h',toks:=t } where
 gens:=S.gens
 os:=S.os
 keep:=λb o e=>k b o (λq=>xr e (q▸O.g)) (S.keep b o e)
 yX:=λb d e=>(S.yX b d e).elim λo z=>⟨o,k b o (λq=>xr e (q▸O.fr)) z.1,z.2⟩
 ob:=λa o e=>let b:=S.ob a o e;⟨b.mt.elim λO' z=>b.mt.congr ((k a O' (λq=>xr e (q▸O.h)) z.1).trans z.1.symm),b.old,b.g,b.fr,b.big⟩
theorem Bv.comp (K:xG P F)(I:Inv P F l H s)(Cl:Hw F.env scope.names [] cl){H':Hp}{a:Addr}(o:Bv (F.gC s.heap) (F.fC s.heap) H' a)(h:a≠C):Off (F.comp s.heap (compEnvC scope cl C F.env)) H' a :=
 ⟨o.h,o.g,o.fr,h,λy c hm=>(Bv.up K I o).f.c y c (mem_of_lookup (Cl.of y c hm))⟩
theorem append_at {A:Around}{E:Value->Shared->Prop}{vs:Array Value}{k:Nat}{V:Value}{Q:Value->Shared->Prop}(e:s.heap.get? D=some (Bs vs k))(hz:vs.size<=sizeLine)(h:Q .none { s with heap:=s.heap.update D (cT (·.push V)) }) :
  wpAny P.M A (call (.builtin "list.append") [.ref D,V]) Q E s:=by
 refine fL tG (Ec e).typeIs entry_list_append ?_ (args_list_append _ _)
 show wpAny _ _ (updateSeq D (·.push V)>>=λuu=>ret .none) _ _ s
 exact ak (pN e rfl (au ⟨.none,rfl,h⟩) hz)
structure Mq (P:Pm)(F:Fm)(h0:Heap)(C J D:Addr):Prop where
 c:h0.objs.size<=C
 jc:J≠C
 dc:D≠C
 jd:J≠D
 big:P.base.objs.size<=D
structure Gf (P:Pm)(F:Fm)(h0:Heap)(C J D:Addr)(H:Hp)(us:Array Value)(nD:Nat)(s:Shared):Prop where
 site:Bj P (F.gC h0) (F.fC h0) H s
 ns:∃ m,s.heap.Ns C m
 hc:H C=none
 j:Bv (F.gC h0) (F.fC h0) H J
 d:Bv (F.gC h0) (F.fC h0) H D
 at_:s.heap.get? D=some (Bs us nD)
noncomputable abbrev Stp:=Value->Hp->(Option Value->Hp->Prop)->Prop
inductive SJ (P:Pm)(F:Fm)(h0:Heap)(C J D:Addr)(items:List Value)(guard:Hp->Prop)(step:Stp)(k3:List Value->Hp->Prop)(wC:Nat->Heap->Prop)(k:Nat)(s:Shared):Prop where
 | mk (i:Nat) (H:Hp) (us:Array Value) (nD:Nat):Gf P F h0 C J D H us nD s->wC i s.heap->us.size<=i->i+k=items.length->Hh guard step (items.drop i) (us.toList.map er) H k3->SJ P F h0 C J D items guard step k3 wC k s
theorem Gf.move {h0:Heap}{us:Array Value}{nD:Nat}(S:Gf P F h0 C J D H us nD s)(T:Mq P F h0 C J D){h':Heap}{t:Nat}(k:But J s.heap h'):Gf P F h0 C J D H us nD { s with heap:=h',toks:=t } :=
 ⟨S.site.turn S.j k,S.ns.elim λm z=>⟨m,OJ z λo e=>k _ o (cH T.jc) e⟩,S.hc,S.j,S.d,k _ _ (cH T.jd) S.at_⟩
noncomputable abbrev XJ (F:Fm)(h0:Heap)(env:Env)(J D:Addr)(oj:Obj)(us:Array Value)(nD:Nat):Fm:=((F.comp h0 env).also J oj).also D (Bs us nD)
theorem aco {F:Fm}{o:Obj}{a c:Addr}(x:Off F H a)(h:a≠c):Off (F.also c o) H a:=⟨x.h,x.f.also h⟩
theorem acp (K:xG P F)(I:Inv P F l H s)(Cl:Hw F.env scope.names [] cl)(T:Mq P F s.heap C J D)(KC:xG P (F.comp s.heap (compEnvC scope cl C F.env))){us:Array Value}{nD:Nat}{oj:Obj}{H1:Hp}(j:Bv (F.gC s.heap) (F.fC s.heap) H1 J)(d:Bv (F.gC s.heap) (F.fC s.heap) H1 D)
  {l':Loc} {H':Hp} {s':Shared} (I':Inv P (XJ F s.heap (compEnvC scope cl C F.env) J D oj us nD) l' H' s'):Gf P F s.heap C J D H' us nD s'/\s'.heap.get? J=some oj:=by
 have oJ:=j.comp K I Cl T.jc
 obtain⟨I1,eD,o1⟩:=I'.back (KC.also oJ) (aco (o:=oj) (d.comp K I Cl T.dc) (cH T.jd))
 obtain⟨I2,eJ,o2⟩:=I1.back KC oJ
 exact⟨⟨I2.site,I2.loc.elim λm z=>⟨m,z.1⟩,I2.nL KC,o2.site,⟨o1.h,d.g,d.fr⟩,eD⟩,eJ⟩
theorem Gf.push {h0:Heap}{us:Array Value}{nD:Nat}(S:Gf P F h0 C J D H us nD s)(T:Mq P F h0 C J D)(V:Value):∃ n',Gf P F h0 C J D H (us.push V) n' { s with heap:=s.heap.update D (cT (·.push V)) }:=by
 obtain⟨n',e⟩:=Xl S.at_ (·.push V)
 have k:But D s.heap (s.heap.update D (cT (·.push V))):=λb o hb e=>(bF _ _ (cH hb)).trans e
 exact⟨n',S.site.turn S.d k,S.ns.elim λm z=>⟨m,OJ z λo e=>k _ o (cH T.dc) e⟩,S.hc,S.j,S.d,e⟩
theorem aiP {elt:Expr}{ifs:List Expr}{BZ:Ex}{Ax:Option Ex}(he:SE P G n scope elt BZ)(ht:Jb P G n scope ifs Ax)(DF:IW sc scope x)(O:Ok P G n sc F)(I:Inv P F l H s)(Cl:Hw F.env scope.names [] cl)(T:Mq P F s.heap C J D)
  (OC:Ok P G n scope (F.comp s.heap (compEnvC scope cl C F.env))) {guard:Hp->Prop} {items:List Value} {wC:Nat->Heap->Prop} (TT:Turns P F.A J guard items wC) {k3:List Value->Hp->Prop} (hz:items.length<=sizeLine)
  {i k:Nat} {H1:Hp} {us:Array Value} {nD:Nat} {s1:Shared} {V:Value} (S:Gf P F s.heap C J D H1 us nD s1) (st:wC (i+1) s1.heap) (hus:us.size<=i) (hk:i+(k+1)=items.length)
  (q:Il G BZ Ax l x (er V) H1 λr H'=>Hh guard (Il G BZ Ax l x) (items.drop (i+1)) (us.toList.map er++r.toList) H' k3) {px:Pos} {E1 E2 E3 E4:Value->Shared->Prop} :
  wpAny P.M F.A (assign (.Name x px) (compEnvC scope cl C F.env) V) (λuu s₂=>wpAny P.M F.A (tests ifs (compEnvC scope cl C F.env)) (λok s₃ =>
   if ok=true then wpAny P.M F.A (eval elt (compEnvC scope cl C F.env)) (λu s₄=>wpAny P.M F.A (call (.builtin "list.append") [.ref D,u]) (λuu s₅=>∃ m,m<k+1/\SJ P F s.heap C J D items guard (Il G BZ Ax l x) k3 wC m s₅) E4 s₄) E3 s₃
   else ∃ m,m<k+1/\SJ P F s.heap C J D items guard (Il G BZ Ax l x) k3 wC m s₃) E2 s₂) E1 s1:=by
 obtain⟨m,hn⟩:=S.ns
 refine rU (wpAny_storeName_local (OC.S.Pn x DF.xl) hn (λh' hn' hs=>?_) (by rw[OC.K.kind];rfl))
 have hb:But C s1.heap h':=λb o hb e=>hs.extBut b o hb e
 obtain⟨oj,hj⟩:=TT.at_ _ _ st
 have oJ:=S.j.comp O.K I Cl T.jc
 have oD:=aco (o:=oj) (S.d.comp O.K I Cl T.dc) (cH T.jd)
 have O3:Ok P G n scope (XJ F s.heap (compEnvC scope cl C F.env) J D oj us nD):=(OC.also oJ).also oD
 have ok:∀ {s5:Shared},s5.heap.get? J=some oj->wC (i+1) s5.heap:=λe5=>TT.frame _ _ _ st λo' e=>by rw[hj] at e;cases e;exact e5
 have lt:i+1+k=items.length:=(cA i 1 k).trans hk
 refine bT (aiO ht O3 (((aiN DF O.K O.S Cl I (S.site.turn (t:=s1.toks+1) ⟨S.hc,OC.K.lg,OC.K.lf⟩ hb) T.c S.hc hn' (V:=V) (if_pos rfl)).also oJ (hb _ _ T.jc hj)).also oD (hb _ _ T.dc S.at_):Inv P (XJ F s.heap (compEnvC scope cl C F.env) J D oj us nD) _ H1 _) q) (λb s5 z=>?_) λuu uu z=>z
 obtain⟨H5,I5,z⟩:=z
 cases b with
 | false =>
  obtain⟨S5,eJ⟩:=acp O.K I Cl T OC.K S.j S.d I5
  exact⟨k,bV _,i+1,H5,us,nD,S5,ok eJ,dR hus,lt,by rw[<-aY (us.toList.map er)];exact z⟩
 | true =>
  refine bT (he.2 O3 I5 z) (λV6 s6 z=>?_) λuu uu z=>?_
  ·obtain⟨H6,I6,z⟩:=z
   obtain⟨S6,eJ⟩:=acp O.K I Cl T OC.K S.j S.d I6
   refine append_at S6.at_ (aj hus (aj (aQ (hk▸cQ (eU k))) hz)) ?_
   obtain⟨n',S7⟩:=S6.push T V6
   refine⟨k,bV _,i+1,H6,us.push V6,n',S7,TT.frame _ _ _ (ok eJ) λo e=>(bF _ _ (cH T.jd)).trans e,by rw[nR];exact aU hus,lt,?_⟩
   rw[dO,aX];exact z
  ·obtain⟨_,_,_,_,_,_,z⟩:=z
   exact z.elim
inductive Kg (P:Pm)(F:Fm)(l:Loc)(Q:QV)(D C:Addr)(s:Shared):Prop where
 | mk (H:Hp) (us:Array Value) (nD:Nat):Inv P F l H s->Off F H D->Off F H C->D≠C->(∃ m,s.heap.Ns C m)->s.heap.get? D=some (Bs us nD)->us.size<=sizeLine->P.base.objs.size<=D->Q (.ref D) (H.upd D (.list (us.toList.map er)))->Kg P F l Q D C s
theorem aiQ {elt it:Expr}{ifs:List Expr}{BZ:Ex}{Ax:Option Ex}{px pos:Pos}(he:SE P G n scope elt BZ)(ht:Jb P G n scope ifs Ax)(DF:IW sc scope x)(O:Ok P G n sc F)(I:Inv P F l H s)(Cl:Hw F.env scope.names [] cl)(T:Mq P F s.heap C J D)
  {guard:Hp->Prop} {items:List Value} {wC:Nat->Heap->Prop} (TT:Turns P F.A J guard items wC) (hz:items.length<=sizeLine) {Q:QV} {nD:Nat} {s1:Shared} (S:Gf P F s.heap C J D H #[] nD s1) (st:wC 0 s1.heap) (q:Hh guard (Il G BZ Ax l x) items [] H λus H'=>newV (.list us) H' Q)
  {R:Result->Shared->Prop} (fin:∀ s',Kg P F l Q D C s'->R (.ok .next) s'):codeAny P.M F.A (.compLoop (.ListComp elt [⟨.Name x px,it,ifs,0⟩] scope pos) 0 (.ref J) (.ref D) (compEnvC scope cl C F.env)) R s1:=by
 have OC:Ok P G n scope (F.comp s.heap (compEnvC scope cl C F.env)):=⟨O.Y,O.B,O.GO,O.FN,aiL DF O.K I Cl T.c,aiM DF O.K O.S Cl,O.R⟩
 refine codeAny_compLoop_tests (SJ P F s.heap C J D items guard (Il G BZ Ax l x) (λus H'=>newV (.list us) H' Q) wC) ?_ items.length ⟨0,H,#[],nD,S,st,aD _,d9 _,q⟩
 clear S st q
 intro k s1 h
 obtain⟨i,H1,us,nD,S,st,hus,hk,q⟩:=h
 have PB:∀ a o,H1 a=some o->Ii P s1.heap a o:=λa o e=>(S.site.ob a o e).mt.here
 cases k with
 | zero =>
  have hi:i=items.length:=hk
  subst hi
  rw[nG] at q
  refine TT.done s1 _ _ H1 PB S.j.h q.1 st λh' tk k'=>fin _ ?_
  have S':=S.move (t:=tk) T k'
  exact⟨H1,us,nD,Sx O.K I S'.site,S'.d.up O.K I,Bv.up O.K I ⟨S'.hc,OC.K.lg,OC.K.lf⟩,T.dc,S'.ns,S'.at_,aj hus hz,T.big,q.2 _ S'.d.h⟩
 | succ k =>
  have hi:i<items.length:=hk▸cQ (eU k)
  rw[dY hi] at q
  refine TT.item i s1 _ _ H1 PB S.j.h q.1 st _ (cB hi) λV h' tk hV st' k'=>?_
  exact aiP (s1:={ s1 with heap:=h',toks:=tk }) he ht DF O I Cl T OC TT hz (S.move T k') st' hus hk (by rw[hV];exact q.2)
theorem acq {elt it:Expr}{ifs:List Expr}{BZ it':Ex}{Ax:Option Ex}{f:It}{px pos:Pos}(hF:Ke f)(hf:Sy sc scope x=true)(hi:SE P G n sc it it')(he:SE P G n scope elt BZ)(ht:Jb P G n scope ifs Ax)(O:Ok P G n sc F)(I:Inv P F l H s){Q:QV}{X:XV}(q:Ex.comp f BZ x it' Ax G l H Q X)
  {cp:Pos} {use:Option (Value->Sem Unit)} {Q' E':Value->Shared->Prop} (hE:∀ V s',Bh P F l X V s'->E' V s') (fin:∀ {s' D C},Kg P F l Q D C s'->compPost P.M F.A E' use Q' (.ref D) C (.ok .next) s') :
  wpAny P.M F.A (comprehension (.ListComp elt [⟨.Name x px,it,ifs,0⟩] scope pos) scope F.env cp (newList []) false (eval it F.env) use) Q' E' s:=by
 have DF:=aiC hf
 obtain⟨cl,hcl,Cl⟩:=aiE (env:=F.env) DF.nd λy hy=>(O.S.cell y (DF.free y hy)).2
 refine wpAny_comprehension_free (use:=use) rfl (λuu=>(Aj hi.1).2.2.2 _ _) hcl DF.k (λy hy hl=>PX DF.nd (hl▸hy)) (bT (hi.2 O I q) (λV s1 q=>?_) hE)
 obtain⟨H1,I1,q⟩:=q
 refine bT (hF O.K I1 q) (λitv s2 q=>?_) λuu uu z=>z
 obtain⟨guard,items,J,wC,q,rfl,I2,of,bz,st,T⟩:=q
 have T:=T F.A O.K.hh
 obtain⟨oj,hoj⟩:=T.at_ _ _ st
 refine gD (wpAny_newFunctionEnv DF.nc (λy hy=>absurd hy aH) (λh₁ hns hsb=>?_) DF.k)
 have hC:(s2.heap.push (Bs #[] 0)).objs.size=s2.heap.objs.size+1:=jJ ..
 have T3:Mq P F s2.heap (s2.heap.push (Bs #[] 0)).objs.size J s2.heap.objs.size:=by
  rw[hC]
  exact⟨dX _,bQ (eZ (bM hoj)),bQ (bV _),bQ (bM hoj),I2.Dd O.K⟩
 have k1:∀ b o,s2.heap.get? b=some o->h₁.get? b=some o:=λb o e=>hsb.extBut b o (by show b≠(s2.heap.push (Bs #[] 0)).objs.size;rw[hC];exact bQ (eZ (bM e))) (aJ _ (aJ _ e))
 have XK:=PL I2
 have off:∀ a,s2.heap.get? a=none->Bv (F.gC s2.heap) (F.fC s2.heap) H1 a:=λa e=>XK.no e
 have S1:Gf P F s2.heap (s2.heap.push (Bs #[] 0)).objs.size J s2.heap.objs.size H1 #[] 0 { s2 with heap:=h₁,toks:=s2.toks+([]:List (Str×Value)).length } :=
  ⟨XK.turn (off _ (jK (aD _))) λb o uu e=>k1 b o e,⟨_,hns⟩,(XK.above T3.c).h,⟨of.h,of.f.gC,of.f.fC⟩,off _ (jK (aD _)),hsb.extBut _ _ T3.dc (aJ _ (aV _ rfl))⟩
 have st1:wC 0 h₁:=T.frame _ _ _ st λo e=>k1 _ _ e
 have loop:=aiQ (px:=px) (pos:=pos) (it:=it) he ht DF O I2 Cl T3 T q.1 S1 st1 q.2 (R:=compPost P.M F.A E' use Q' (.ref s2.heap.objs.size) (s2.heap.push (Bs #[] 0)).objs.size) λs' z=>fin z
 exact codeAny_compStart_list loop (T.self 0 _ _ _ st1 loop)
theorem Kg.ns {Q:QV}(x:Kg P F l Q D C s):∃ m,s.heap.Ns C m:=by
 obtain⟨H,us,nD,I,oD,oC,hDC,hn,_⟩:=x
 exact hn
theorem Kg.tracked {Q:QV}(x:Kg P F l Q D C s)(K:xG P F){h':Heap}{t:Nat}(k:But C s.heap h'):Ae P F l Q (.ref D) { s with heap:=h',toks:=t }:=by
 obtain⟨H,us,nD,I,oD,oC,hDC,hn,e,hz,big,q⟩:=x
 exact⟨_,(I.turn K oC k).track oD big (Dc (k _ _ hDC e) (Ez hz)),q⟩
theorem Jc {elt it:Expr}{ifs:List Expr}{BZ it':Ex}{Ax:Option Ex}{f:It}{px pos:Pos}(hF:Ke f)(hf:Sy sc scope x=true)(hi:SE P G n sc it it')(he:SE P G n scope elt BZ)(ht:Jb P G n scope ifs Ax) :
  SE P G n sc (.ListComp elt [⟨.Name x px,it,ifs,0⟩] scope pos) (.comp f BZ x it' Ax):=by
 refine .of rfl ?_
 intro F l H s Q X O I q
 rw[eval_ListComp]
 exact acq hF hf hi he ht O I q (use:=none) (λuu uu z=>z) λz=>by
  obtain⟨m,hn⟩:=z.ns
  exact⟨m,hn,λh'' sb=>z.tracked O.K λb o hb e=>sb.extBut b o hb e⟩
noncomputable def acr (sc scope:Scope)(y:Str):Bool:=sc.names.lookup y==some .local&&!(scope.names.any λz=>z.1==y&&(z.2==.local||z.2==.cell))
theorem aiR (K:xG P F)(S:Iv sc F){y:Str}{py pos spos:Pos}{elt:Expr}{gs:List Comprehension}(hs:acr sc scope y=true)(hl:(py.line==pos.line)=true):F.env.kindOf y=some .local/\swapsWith (.ListComp elt gs scope pos) (some (.Name y py)) spos.line F.env=pure true:=by
 obtain⟨a,b⟩:=bf.1 hs
 have ky:=S.Pn y (cP a)
 refine⟨ky,?_⟩
 show(pure (F.env.blockKind==.function&&F.env.kindOf y==some .local&&py.line==pos.line&&!(scope.names.any λz=>z.1==y&&(z.2==.local||z.2==.cell))):Sem Bool)=pure true
 rw[ky,hl,b,show F.env.blockKind=.function by unfold Env.blockKind;rw[K.kind];rfl]
 rfl
theorem XM {elt it:Expr}{ifs:List Expr}{BZ it':Ex}{Ax:Option Ex}{f:It}{y:Str}{px py pos spos:Pos}(hs:acr sc scope y=true)(hl:(py.line==pos.line)=true)(hF:Ke f)(hf:Sy sc scope x=true)(hi:SE P G n sc it it')(he:SE P G n scope elt BZ)(ht:Jb P G n scope ifs Ax) :
  S1 P G n sc (.Assign [.Name y py] (.ListComp elt [⟨.Name x px,it,ifs,0⟩] scope pos) spos) (.asg y (.comp f BZ x it' Ax)):=by
 intro F l H s Q X O ro I q
 obtain⟨ky,hsw⟩:=aiR (spos:=spos) (elt:=elt) (gs:=[⟨.Name x px,it,ifs,0⟩]) O.K O.S hs hl
 rw[exec_Assign_Name_used _ _ _ _ hsw]
 refine ak (fG (ak ?_))
 refine ak (bT (acq hF hf hi he ht O I q (use:=some (assign (.Name y py) F.env)) (Q':=λuu s'=>Mj P F Q .next s') (λuu uu z=>Bh.toS z) λ{s' D C} z=>?_) (λuu s' hq=>au (au hq)) λuu uu e=>e)
 obtain⟨H,us,nD,I,oD,oC,hDC,⟨m,oc,es,ep,hoc,hrest⟩,e,hz,big,q⟩:=z
 have XQ:Off F (H.upd D (.list (us.toList.map er))) C:=⟨(Hp.xJ _ _ (cH hDC)).trans oC.h,oC.f⟩
 refine rU (WL (F:=F.also C oc) (O.K.also XQ) ((I.track oD big (Dc e (Ez hz))).also XQ hoc) ro (.inl ky) λs4 I4=>?_)
 obtain⟨I5,hC5,oC5⟩:=I4.back O.K XQ
 exact⟨m,⟨oc,es,ep,hC5,hrest⟩,λh' sb=>⟨_,_,I5.turn (t:=s4.toks) O.K oC5 λb o hb e=>sb.extBut b o hb e,q⟩⟩
end
end
section
open PySem PyProof.Rows PySem.Calls
open PySem.W (Frag nsIn mg_of ns_none_of findIn plainGet hasDictIn isFn plainOver takerIn makesIn subIn mroIn clsIn typeIn excIn keepIn codeIn codeRec_of own_of_in TopRead)
noncomputable def refOf:Value->Option Addr
 | .ref a=>some a
 | _=>none
theorem aiS {v:Value}{a:Addr}(h:refOf v=some a):v=.ref a:=by cases v <;> cases h;rfl
noncomputable def aiT (K:Frag)(names:List Str)(C:Addr):Bool :=
 mroIn K C (.type "BaseException")==some true&&((clsIn K C).isSome&&(typeIn K (.ref C)==some (.type "type")&&(excIn K C abI "ValueError.__new__" && names.any λx=>nsIn K mainGlobals x==some (some (.ref C)))))
noncomputable def defOf (K:Frag)(C:Addr)(m:Str):Option Addr:=(findIn K (.ref C) m).bind λo=>o.bind refOf
theorem acs {K:Frag}{C f:Addr}{m:Str}(h:defOf K C m=some f):findIn K (.ref C) m=some (some (.ref f)):=by
 obtain⟨o,e,h⟩:=je.1 h
 obtain⟨v,e2,h⟩:=je.1 h
 rw[e,e2,aiS h]
noncomputable def CT (K:Frag)(names:List Str):Gx where
 glob:=λx=>(nsIn K mainGlobals x).bind λo=>o.map er
 fn:=λuu uu uu uu uu=>False
 meth:=λC m=>(defOf K C m).filter λf=>plainGet K C m&&isFn K (.ref f)
 init:=λC=>(defOf K C "__init__").filter λf=>makesIn K C&&(isFn K (.ref f)&&keepIn K (.ref C))
 isExc:=aiT K names
 sub:=λC D=>subIn K (.ref C) (.ref D)==some true
 fld:=λC a=>plainGet K C a&&(hasDictIn K C&&(findIn K (.ref C) a==some none&&(findIn K (.ref C) "__setattr__" == some (some (.builtin "object.__setattr__"))&&(plainOver K C&&takerIn K C a==some none))))
theorem zN {a b:Bool}(h:(a&&b)=true):a=true/\b=true:=bf.1 h
theorem aiU {K:Frag}{names:List Str}{C:Addr}{a:Str}(h:(CT K names).fld C a=true):abJ K C a:=by
 obtain⟨h1,h⟩:=zN h
 obtain⟨h2,h⟩:=zN h
 obtain⟨h3,h⟩:=zN h
 obtain⟨h4,h⟩:=zN h
 obtain⟨h5,h⟩:=zN h
 exact⟨h1,h2,cP h3,cP h4,h5,cP h⟩
set_option tactic.hygienic true in
theorem aiV {K:Frag}{C D:Addr}(h:mroIn K C (.type "BaseException")=some true):subIn K (.ref C) (.ref D)=some (subIn K (.ref C) (.ref D)==some true):=by
 show mroIn K C (.ref D)=some (mroIn K C (.ref D)==some true)
 unfold mroIn at h ⊢
 obtain⟨cd,hc,h⟩:=Option.bind_eq_some_iff.mp h
 rw[hc,vC]
 split at h
 ·cases h
 ·next q =>
  rw[if_neg q]
  cases cd.mro.contains (jz D) <;> rfl
theorem aiW {P:Pm}{names:List Str}{p:Program}{loose:List Str}(Y:zY P)(T:TopRead p loose P.mg P.mb P.base):Hq P (CT P.K names) where
 glob:=λx v h=>by
  obtain⟨o,e,h⟩:=je.1 h
  obtain⟨V,e2,h⟩:=bG.1 h
  exact⟨V,h,.inl (mg_of Y.Br T.g (e2▸e))⟩
 fld:=λC a h=>aiU h
 meth:=λC m f h=>by
  obtain⟨h1,h2⟩:=rY.1 h
  exact⟨(zN h2).1,acs h1,(zN h2).2⟩
 init:=λC f h=>by
  obtain⟨h1,h2⟩:=rY.1 h
  exact⟨(zN h2).1,acs h1,(zN (zN h2).2).1,(zN (zN h2).2).2⟩
 exc:=λC h=>by
  obtain⟨h1,h⟩:=zN h
  obtain⟨h2,h⟩:=zN h
  exact⟨cP h1,h2,cP (zN h).1⟩
 sub:=λC D h uu=>aiV (cP (zN h).1)
 own:=λC h=>by
  obtain⟨h1,h⟩:=zN (zN (zN (zN h).2).2).2
  obtain⟨x,_,hx⟩:=List.any_eq_true.mp h
  exact(own_of_in Y.Br T (beq_iff_eq.mp hx) h1).obj
theorem acu {x:Str}{v:Value}(h:Ed x=some v):bootBuiltins x=some v/\x≠"__name__" := by
 have:=zN (fD.1 (show(R4.all λp=>bootBuiltins p.1==some p.2&&p.1 != "__name__")=true by decide +kernel) _ (mem_of_lookup h))
 exact⟨cP this.1,bne_iff_ne.1 this.2⟩
abbrev aiX (P:Pm):Prop:=∀ x v,Ed x=some v->P.mg x=none/\P.mb x=some v
theorem XR {P:Pm}{p:Program}{loose:List Str}(Y:zY P)(T:TopRead p loose P.mg P.mb P.base)(h:R4.all (λp=>nsIn P.K mainGlobals p.1==some none)=true):aiX P:=λx v hx =>
 ⟨ns_none_of Y.Br T.g (cP (List.all_eq_true.mp h _ (mem_of_lookup hx))),(T.builtins x (acu hx).2).trans (acu hx).1⟩
inductive Bk (P:Pm):List (Addr×(List Str×List Sm))->Prop where
 | nil:Bk P []
 | cons {e:Addr×(List Str×List Sm)} {r:List (Addr×(List Str×List Sm))}:xK P e->Bk P r->Bk P (e::r)
theorem tab_of {P:Pm}{L:List (Addr×(List Str×List Sm))}(h:Bk P L):TabOk P (λf=>L.lookup f):=by
 induction h with
 | nil=>exact λf r e=>(by cases e)
 | @cons p L h1 _ ih =>
  intro f r e
  rw[show(λf=>(p::L).lookup f) f=_ from fW] at e
  by_cases q:f=p.1
  ·rw[q,beq_self_eq_true] at e;cases e;rw[q];exact h1
  ·rw[beq_false_of_ne q] at e;exact ih f r e
section
variable {P:Pm}{lam:Option (Addr×Addr×Str)}{K:List (Addr×Obj)}{f:Addr}{fd:FuncData}{body:List Stmt}{b:List Sm}{x y z u v:Str}
noncomputable def aiY (lam:Option (Addr×Addr×Str))(fd:FuncData):Bool:=lam.all λc=>fd.scope.names.lookup Hf != some .local||(fd.code==.ref c.1&&fd.qualname++".<locals>."++"<lambda>" == c.2.2)
noncomputable abbrev Kh (K:List (Addr×Obj))(lam:Option (Addr×Addr×Str))(f:Addr)(fd:FuncData)(ps:List Str):Bool:=codeIn K fd.code fd.qualname&&(ace fd.scope ps&&(keepIn K (.ref f)&&aiY lam fd))
theorem X3 {ps:List Str}(Y:zY P)(hK:P.K=K)(hl:P.lam=lam)(h1:K.lookup f=some { cls:=.type "function",data:=.func fd })(h2:fd.body=.stmts body)(h3:Kh K lam f fd ps=true)(h5:fd.closure=[]/\fd.globals=mainGlobals/\fd.builtins=builtinsNs)
  (d:∀ (G:Gx) (n:Nat),SS P G n fd.scope body b) (h8:∀ vals,vals.length=ps.length->bindArgs fd ⟨vals,[]⟩=pure (ps.zip vals)):xK P (f,(ps,b)):=by
 subst hK
 subst hl
 obtain⟨a,h3⟩:=zN h3
 obtain⟨c,h3⟩:=zN h3
 obtain⟨e,h3⟩:=zN h3
 refine⟨_,_,⟨⟨_,fd,Y.Br _ _ h1,rfl,codeRec_of Y.Br a,h2,rfl,h5.1,h5.2.1,h5.2.2,λc T nm q hk=>?_,h8⟩,aiu c,e⟩,d⟩
 rw[q] at h3
 exact(zN (XH h3 hk)).imp cP cP
theorem Kl {α:Type}{l:List α}{n:Nat}(h:l.length=n+1):∃ a r,l=a::r/\r.length=n:=by
 cases l with
 | nil=>cases h
 | cons a r=>exact⟨a,r,rfl,sU h⟩
theorem aiZ (Y:zY P)(hK:P.K=K)(hl:P.lam=lam)(h1:K.lookup f=some { cls:=.type "function",data:=.func fd })(h2:fd.body=.stmts body)(h3:Kh K lam f fd [x]=true)(h5:fd.closure=[]/\fd.globals=mainGlobals/\fd.builtins=builtinsNs)
  (d:∀ (G:Gx) (n:Nat),SS P G n fd.scope body b) (h8:∀ a,bindArgs fd ⟨[a],[]⟩=pure [(x,a)]):xK P (f,([x],b)) :=
 X3 Y hK hl h1 h2 h3 h5 d λvals h=>by obtain⟨a,r,rfl,k⟩:=Kl h;cases dN.1 k;exact h8 a
theorem row2 (Y:zY P)(hK:P.K=K)(hl:P.lam=lam)(h1:K.lookup f=some { cls:=.type "function",data:=.func fd })(h2:fd.body=.stmts body)(h3:Kh K lam f fd [x,y]=true)(h5:fd.closure=[]/\fd.globals=mainGlobals/\fd.builtins=builtinsNs)
  (d:∀ (G:Gx) (n:Nat),SS P G n fd.scope body b) (h8:∀ a c,bindArgs fd ⟨[a,c],[]⟩=pure [(x,a),(y,c)]):xK P (f,([x,y],b)) :=
 X3 Y hK hl h1 h2 h3 h5 d λvals h=>by obtain⟨a,r,rfl,k⟩:=Kl h;obtain⟨c,r,rfl,k2⟩:=Kl k;cases dN.1 k2;exact h8 a c
theorem ai0 (Y:zY P)(hK:P.K=K)(hl:P.lam=lam)(h1:K.lookup f=some { cls:=.type "function",data:=.func fd })(h2:fd.body=.stmts body)(h3:Kh K lam f fd [x,y,z]=true)(h5:fd.closure=[]/\fd.globals=mainGlobals/\fd.builtins=builtinsNs)
  (d:∀ (G:Gx) (n:Nat),SS P G n fd.scope body b) (h8:∀ a c e,bindArgs fd ⟨[a,c,e],[]⟩=pure [(x,a),(y,c),(z,e)]):xK P (f,([x,y,z],b)) :=
 X3 Y hK hl h1 h2 h3 h5 d λvals h=>by obtain⟨a,r,rfl,k⟩:=Kl h;obtain⟨c,r,rfl,k2⟩:=Kl k;obtain⟨e,r,rfl,k3⟩:=Kl k2;cases dN.1 k3;exact h8 a c e
end
end
section
open PySem PyProof.Rows PySem.Calls
open PySem.W (Frag nsIn mg_of TopRead tabObj kla_makeFunction kla_makeFunctionHit kla_eval)
theorem X4 {vs:List Value}{ns:List Int}(h:IntsAre vs ns):vs.map er=ns.map λn=>cL n 0:=by
 induction h with
 | nil=>rfl
 | cons i t r ih=>exact congrArg (cL i 0::·) ih
noncomputable def Mr (a T:Addr)(ns:List Int):Hp:=λb=>if b=a then some (.rlist (ns.map λn=>cL n 0)) else if b=T then some (.tab []) else none
def acv (K:Params->Frag)(names:List Str)(tab:Tab)(f T:Addr):Prop :=
 ∀ (p:Params) (a:Addr) (ns:List Int),a≠T->ns.length<=63->(GG (CT (K p) names) tab 13).fn f [.ref a] (Mr a T ns) (λv H=>v=.bool true/\∃ ks,H T=some (.tab ks)) (λuu uu=>False)
theorem ai1 {P:Pm}{s:Shared}{a c T:Addr}{q:Str}{vs:List Value}{ns:List Int}(hg:s.gens=P.s₀.gens)(ho:s.os=P.s₀.os)(hk:∀ b o,P.base.get? b=some o->s.heap.get? b=some o)(hL:P.base.IsList a vs.toArray)(hI:IntsAre vs ns)(hl:ns.length<=63)(hN:P.base.get? T=none)(hc:P.lam=some (c,T,q))(hT:s.heap.get? T=some (tabObj #[])) :
  Bj P (λb=>P.base.get? b) (λuu=>none) (Mr a T ns) s where
 gens:=hg
 os:=ho
 keep:=hk
 yX:=λuu uu e=>(by cases e)
 ob:=λb o e=>by
  unfold Mr at e
  by_cases h1:b=a
  ·rw[if_pos h1] at e
   cases e
   rw[h1]
   obtain⟨O,e,r⟩:=hL
   exact⟨⟨O,hk _ _ e,λuu e'=>⟨vs.toArray,⟨O,e',r⟩,X4 hI,by rw[aA];exact aj hl (by decide)⟩⟩,λuu=>⟨O,e⟩,λz=>((by cases z)),λz=>((by cases z)),λz=>(by cases z)⟩
  ·rw[if_neg h1] at e
   by_cases h2:b=T
   ·rw[if_pos h2] at e
    cases e
    rw[h2]
    exact⟨⟨_,hT,λuu e'=>⟨c,q,#[],hc,e',trivial,λuu uu z=>(by cases z)⟩⟩,λz=>((by cases z)),λuu=>hN,λuu=>rfl,λz=>(by cases z)⟩
   ·rw[if_neg h2] at e;cases e
theorem acw {h:Heap}{a b:Addr}{m:Str->Option Value}{o:Obj}(x:h.Ns a m)(e:h.get? b=some o)(hd:∀ es ep,o.data≠.dict es ep):a≠b:=λz=>by
 obtain⟨o',es,ep,e',hd',_⟩:=x
 rw[z,e] at e';cases e';exact hd _ _ hd'
theorem ai2 {prog vp:Program}{w:World}{s:Shared}{mg mb:Str->Option Value}{mean:ExcName->Option Value}{K:Params->Frag}{names loose:List Str}{tab:Tab}{f fa a c T:Addr}{nm lq:Str}{vs:List Value}{ns:List Int}{Q:Value->Shared->Prop}{E:Value->Shared->Prop}
  (KX:(K w.params).In s.heap) (Tp:Top vp loose mean mg mb s.heap) (hT:s.heap.get? T=some (tabObj #[])) (hc:PySem.W.codeHdIn (K w.params) c T=true) (hnt:PySem.W.noTabs (K w.params)=true) (hmg:mg nm=some (.ref fa)) (hf:nsIn (K w.params) mainGlobals nm=some (some (.ref f))) (hb:R4.all (λp=>nsIn (K w.params) mainGlobals p.1==some none)=true)
  (TO:∀ {P:Pm},zY P->P.K=K P.w.params->P.lam=some (c,T,lq)->TabOk P tab) (hL:s.heap.IsList a vs.toArray) (hI:IntsAre vs ns) (hl:¬(63:Int)<(ns.length:Int)) (law:acv K names tab f T)
  (q:∀ s',s'.gens=s.gens->s'.os=s.os->(∀ b o,b≠T->s.heap.get? b=some o->s'.heap.get? b=some o)->(∃ ps,s'.heap.get? T=some (tabObj ps))->Q (.bool true) s') :
  wpAny (model prog w) callerA (call (.ref fa) [.ref a]) Q E s:=by
 have TA:PySem.W.TabsAt [(c,T)] s.heap:=λz hz=>by
  rw[aC.1 hz]
  exact⟨PySem.W.codeHd_of_K KX hc,hT⟩
 have TG:=PySem.W.ghost_top TA Tp
 have hN:(vB s.heap [(c,T)]).get? T=none:=PySem.W.hideAll_none _ (.head _)
 let P:Pm:={ prog:=prog,w:=w,s₀:={ s with heap:=vB s.heap [(c,T)] },mg:=mg,mb:=mb,K:=K w.params,lam:=some (c,T,lq) }
 have Y:zY P:=⟨TG.g,TG.b,TG.nolimit,PySem.W.ghost_K TA KX hnt,λc' T' q' e=>by
  cases e
  obtain⟨bm,ob,b1,b2,b3,b4,b5,b6⟩:=TG.bmain
  exact⟨(PySem.W.ghost_code TA).1,bm,ob,b1,b2,λz=>acw TG.g b3 (λes ep q=>by rw[b6] at q;cases q) z.symm,λz=>xr (z▸b3) hN,b3,b4,b5,b6⟩⟩
 have na:a≠T:=λz=>by
  obtain⟨o,e,hcl,_⟩:=hL
  rw[z,hT] at e;cases e;cases hcl
 cases (show some (jz fa)=some (.ref f) from hmg.symm.trans (mg_of KX Tp.g hf))
 have hl:ns.length<=63:=dD.1 (gZ.1 hl)
 refine ru (j4 (call_top (P:=P) (n:=12) (h:=s.heap) Y (XR (P:=P) Y (uH TG) hb) (aiW (P:=P) Y (uH TG)) (TO Y rfl rfl) rfl rfl ⟨by decide,by decide⟩ (vals:=[.ref a]) (bI (PySem.W.hideAll_size _ _)) (ai1 (c:=c) (q:=lq) rfl rfl (λb o e=>PySem.W.of_hideAll _ e) (PySem.W.ghost_list TA hL) hI hl hN rfl hT) (law w.params a ns na hl)) λr s' z=>?_)
 obtain⟨V,H',rfl,⟨hV,ks,hT'⟩,S⟩:=z
 cases RG hV
 obtain⟨c',q',ps,_,e,_⟩:=(S.ob _ _ hT').mt.here
 exact q s' S.gens S.os (λb o hb e=>S.keep b o (PySem.W.ghost_ne e λz=>hb (aC.1 z))) ⟨ps,e⟩
section
variable {P:Pm}{F:Fm}{G:Gx}{n:Nat}{sc:Scope}{l:Loc}{H:Hp}{s:Shared}{E:Value->Shared->Prop}
def TabAt (T:Addr)(H:Hp):Prop:=∃ ks,H T=some (.tab ks)/\∀ k∈ks,H k=some .code
def acy (T:Addr)(H H':Hp):Prop:=TabAt T H'/\∀ a o,a≠T->H a=some o->H' a=some o
noncomputable abbrev Gg (P:Pm)(nm:Str)(params:Arguments)(body:Expr)(scope:Scope)(c:Addr)(ct:Value):Obj:=PySem.W.kla_obj "<lambda>" nm params body scope [] ((P.mg "__name__").getD .none) c ct
theorem acz {α:Type}{b:Bool}{a v:α}{o:Option α}(h:(if b=true then some a else o)=some v):v=a\/o=some v:=by
 cases b with
 | true=>exact .inl (jh h).symm
 | false=>exact .inr h
theorem ai3 {p:Pos}{a b:Int}{c v:Value}{ps:List Value}(h:TriplesOk ps)(e:codeAmong p (ps++[rawInt a,rawInt b,c])=some v):codeAmong p ps=some v\/v=c:=by
 fun_induction TriplesOk ps with
 | case1=>exact(acz e).elim .inr λz=>(by cases z)
 | case2 a' t b' u x rest ih =>
  rcases acz e with z | z
  ·by_cases q:(a'==(p.line:Int)&&b'==(p.col:Int))=true
   ·exact .inl ((if_pos q).trans (congrArg some z.symm))
   ·skip
    exact(ih h ((if_neg q).symm.trans e)).imp (λy=>(if_neg q).trans y) id
  ·exact(ih h z).elim (λy=>by
    by_cases q:(a'==(p.line:Int)&&b'==(p.col:Int))=true
    ·exact .inl ((if_pos q).trans ((if_pos q).symm.trans e))
    ·exact .inl ((if_neg q).trans y)) .inr
 | case3=>exact h.elim
theorem code_at (I:Inv P F l H s){c:Addr}(h:H c=some .code){c0 T:Addr}{nm:Str}(hl:P.lam=some (c0,T,nm)):s.heap.CodeRec (.ref c) nm:=by
 obtain⟨c1,T1,q,o,vs,t,h1,h2,h3,h4⟩:=I.objs h
 rw[hl] at h1;cases h1
 exact⟨c,o,vs,t,rfl,h2,h3,h4⟩
theorem ai4 (Y:zY P)(K:xG P F)(I:Inv P F l H s){T:Addr}(hT:TabAt T H)(hk:F.env.kindOf Hf=some .local){params:Arguments}{body:Expr}{scope:Scope}{pos:Pos}(hd:defaultsOf params F.env=([],[]))(hcl:closureFor scope F.env=pure [])
  {Q:Value->Shared->Prop} (q:∀ f c c0 ct nm s' H',acy T H H'->H' c=some .code->P.lam=some (c0,T,nm)->s'.heap.get? f=some (Gg P nm params body scope c ct)->Off F H' f->Inv P F l H' s'->Q (.ref f) s'):wpAny P.M F.A (eval (.Lambda params body scope pos) F.env) Q E s:=by
 obtain⟨ks,hT,hks⟩:=hT
 obtain⟨c,nm,ps,h1,h2,h3,h4⟩:=I.objs hT
 obtain⟨C,bm,ob,b1,b2,b3,b4,b5,b6⟩:=Y.lam c T nm h1
 have hc:=K.code c T nm h1 hk
 have kp:=I.Ij K
 have hg:=Y.g.keeps kp
 have B:s.heap.BuiltinsAt P.mg T:=⟨bm,ob,b1,b2,b3,b4,kp _ _ b5,b6⟩
 refine kla_eval hd ?_
 rw[hc.2]
 cases e:codeAmong pos ps.toList with
 | none =>
  refine kla_makeFunction hcl K.glob hg hc.1 (C.keeps kp) h2 h3 e (acw hg h2 λuu uu q=>(by cases q)) B λc' ctv h' tk hx hge hlt hrec htb=>?_
  obtain⟨mm,hn,hm⟩:=I.loc
  have J:=I.putL K (t:=tk) hT (o':=.tab (ks++[c'])) (λb O e h1 uu=>hx b O h1 e) (hn.extBut hx ((I.ob _ _ hT).free rfl).l.symm) hm (G9 htb λuu e=>⟨c,nm,_,h1,e,by rw[bO];exact TriplesOk_snoc _ _ _ _ h3,λp v z=>by
   rw[bO] at z
   rcases ai3 h3 z with z | z
   ·obtain⟨k,q1,q2⟩:=h4 p v z
    exact⟨k,aZ _ q1,q2⟩
   ·exact⟨c',aN _ (aC.2 rfl),z⟩⟩)
  have of:Off F H c':=I.off K (jK hge)
  have nT:c'≠T:=λz=>xr hT (z▸of.h)
  obtain⟨c2,o,vs,t,e2,h5,h6,h7⟩:=hrec
  cases e2
  have J2:=J.track (⟨(Hp.xJ _ _ nT).trans of.h,of.f⟩:Off F (H.upd T (.tab (ks++[c']))) c') (aj (I.Dd K) hge) (o:=.code) (G9 h5 λuu e=>⟨c,T,nm,o,vs,t,h1,e,h6,h7⟩)
  refine q _ c' c ctv nm _ _ ⟨⟨ks++[c'],(Hp.xJ _ _ (cH nT)).trans (Hp.wQ _ _ _),λk hk=>?_⟩,λa o ne e=>?_⟩ (Hp.wQ _ _ _) h1 (aV _ rfl) (J2.ofSize K) (J2.push K (Gg P nm params body scope c' ctv))
  ·rcases aR.1 hk with z | z
   ·have e:=hks k z
    exact(Hp.xJ _ _ λz:k=c'=>xr e (z▸of.h)).trans ((Hp.xJ _ _ λz:k=T=>by rw[z,hT] at e;cases e).trans e)
   ·rw[aC.1 z];exact Hp.wQ _ _ _
  ·exact(Hp.xJ _ _ λz:a=c'=>xr e (z▸of.h)).trans ((Hp.xJ _ _ ne).trans e)
 | some cv =>
  obtain⟨c',m1,rfl⟩:=h4 pos cv e
  refine kla_makeFunctionHit hcl K.glob hg hc.1 (C.keeps kp) h2 h3 e B λctv h' tk hk2 hsz=>?_
  have J:=I.kept K (t:=tk) hk2
  exact q _ c' c ctv nm _ _ ⟨⟨ks,hT,hks⟩,λuu uu uu e=>e⟩ (hks c' m1) h1 (aV _ rfl) (J.ofSize K) (J.push K _)
end
end
section
open PySem PyProof.Rows PySem.Calls
def Ev (G:Gx)(e:Ex)(l:Loc)(H:Hp)(v:Value):Prop:=∀ (Q:QV) (X:XV),Q v H->e G l H Q X
def Jd (G:Gx)(es:List Ex)(l:Loc)(H:Hp)(vs:List Value):Prop:=∀ (Q:List Value->Hp->Prop) (X:XV),Q vs H->Cz G es l H Q X
noncomputable def nb:Value->Bool
 | .builtin _=>false
 | _=>true
theorem ai5 {v:Value}(h:nb v=true):abg v:=λb e=>by rw[e] at h;cases h
section
variable {G:Gx}{l:Loc}{H:Hp}{x y z e:Ex}{a b:Int}{p r:Str}{v w:Value}{c:Addr}
theorem wI:Ev G (.k v) l H v:=λuu uu q=>q
theorem wH {x:Str}(h:l x=some v):Ev G (.loc x) l H v:=λuu uu q=>⟨v,h,q⟩
theorem Am {x:Str}(h:G.glob x=some v):Ev G (.glob x) l H v:=λuu uu q=>⟨v,h,q⟩
theorem Km {f:U1}(he:Ev G e l H v)(h:∀ Q:QV,Q w H->f v H Q):Ev G (.u f e) l H w:=λQ X q=>he _ X (h Q q)
theorem Dh {f:B2}{u:Value}(hx:Ev G x l H v)(hy:Ev G y l H w)(h:∀ Q:QV,Q u H->f v w H Q):Ev G (.b f x y) l H u:=λQ X q=>hx _ X (hy _ X (h Q q))
theorem X5 {x d C:Addr}{kvs:List (Str×Value)}{k:Addr->Addr->Addr->List (Str×Value)->Prop}(hi:H x=some (.inst C d))(hn:H d=some (.ns kvs))(q:k x C d kvs):JR (.ref x) H k:=⟨x,C,d,kvs,rfl,hi,hn,q⟩
theorem SM {x d C:Addr}{a:Str}{kvs:List (Str×Value)}(he:Ev G e l H (.ref x))(hi:H x=some (.inst C d))(hn:H d=some (.ns kvs))(hf:G.fld C a=true)(hv:valueAt kvs a=some v)(hb:nb v=true):Ev G (.attr e a) l H v :=
 λQ X q=>he _ X (X5 hi hn ⟨hf,v,hv,ai5 hb,q⟩)
theorem Gh {g:Int->Int->Value}{c:Int->Int->Prop}{Q:QV}(hc:c a b)(q:Q (g a b) H):BR g c (.int a 0) (.int b 0) H Q:=⟨a,rfl,b,rfl,hc,q⟩
theorem acA {g:Str->Str->Value}{c:Str->Str->Prop}{Q:QV}(hc:c p r)(q:Q (g p r) H):Gn g c (.str p 0) (.str r 0) H Q:=⟨p,rfl,r,rfl,hc,q⟩
theorem Ej {g:Int->Int->Value}{c:Int->Int->Prop}(hx:Ev G x l H (.int a 0))(hy:Ev G y l H (.int b 0))(hc:c a b):Ev G (.b (BR g c) x y) l H (g a b):=Dh hx hy λuu q=>Gh hc q
theorem Bw {f:Int->Int->Int}(hx:Ev G x l H (.int a 0))(hy:Ev G y l H (.int b 0)):Ev G (.b (BR (λx y=>vI (f x y)) tt) x y) l H (.int (f a b) 0):=Ej hx hy trivial
theorem Ca {f:Int->Int->Bool}{t:Bool}(hx:Ev G x l H (.int a 0))(hy:Ev G y l H (.int b 0))(hz:f a b=t):Ev G (.b (BR (λx y=>.bool (f x y)) tt) x y) l H (.bool t):=hz▸Ej hx hy trivial
theorem SN {g:Str->Str->Value}{c:Str->Str->Prop}(hx:Ev G x l H (.str p 0))(hy:Ev G y l H (.str r 0))(hc:c p r):Ev G (.b (Gn g c) x y) l H (g p r):=Dh hx hy λuu q=>acA hc q
theorem Hx {f:Str->Str->Bool}{t:Bool}(hx:Ev G x l H (.str p 0))(hy:Ev G y l H (.str r 0))(hz:f p r=t):Ev G (.b (Gn (λx y=>.bool (f x y)) ts) x y) l H (.bool t):=hz▸SN hx hy trivial
theorem GC {t:Bool}(hx:Ev G x l H v)(h:Lz v=some t):Ev G (.b Df x (.k .none)) l H (.bool t):=Dh hx wI λuu q=>⟨t,rfl,h,q⟩
theorem SQ {t u:Bool}(hx:Ev G x l H v)(h:Lz v=some t)(hz:(!t)=u):Ev G (.b LC x (.k .none)) l H (.bool u):=Dh hx wI λuu q=>⟨t,rfl,h,hz▸q⟩
theorem X6 {i j:Option Int}{t:Bool}(hx:Ev G x l H (oI i))(hy:Ev G y l H (oI j))(hz:decide (i=j)=t):Ev G (.b O5 x y) l H (.bool t):=Dh hx hy λuu q=>⟨i,j,rfl,rfl,hz▸q⟩
theorem SX {i j:Option Int}{t:Bool}(hx:Ev G x l H (oI i))(hy:Ev G y l H (oI j))(hz:(!decide (i=j))=t):Ev G (.b Ip x y) l H (.bool t):=Dh hx hy λuu q=>⟨i,j,rfl,rfl,hz▸q⟩
theorem acB {i:Option Str}{t:Bool}(hx:Ev G x l H (oS i))(hy:Ev G y l H (.str r 0))(hz:decide (i=some r)=t):Ev G (.b Ir x y) l H (.bool t):=Dh hx hy λuu q=>⟨i,r,rfl,rfl,hz▸q⟩
theorem xQ {o:List Value->xH}{xs:List Value}(hx:Ev G x l H (.ref c))(hy:Ev G y l H (.int a 0))(hc:H c=some (o xs))(h0:0<=a)(h:xs[a.toNat]?=some v):Ev G (.b (O7 o) x y) l H v:=Dh hx hy λuu q=>⟨c,xs,rfl,hc,a,rfl,h0,v,h,q⟩
theorem X7 {xs:List Value}(hx:Ev G x l H (.ref c))(hc:H c=some (.list xs))(h:xs.getLast?=some v):Ev G (.b LK x (.k (.int (-1) 0))) l H v:=Dh hx wI λuu q=>⟨c,xs,rfl,hc,-1,rfl,rfl,v,h,q⟩
theorem S8 {k:Nat}(hx:Ev G x l H (.str p 0))(hy:Ev G y l H (.int a 0))(h0:0<=a)(hz:p.length<=2^25)(h:p.cps[a.toNat]?=some k):Ev G (.b Ey x y) l H (.str (zM k) 0):=Dh hx hy λuu q=>⟨p,rfl,a,rfl,h0,hz,k,h,q⟩
theorem ai6 {kvs:List (Int×Value)}(hx:Ev G x l H (.ref c))(hy:Ev G y l H (.int a 0))(hc:H c=some (.xV kvs))(h:valueAt kvs a=some v):Ev G (.b Gu x y) l H v:=Dh hx hy λuu q=>⟨c,kvs,rfl,hc,a,rfl,v,h,q⟩
theorem ai7 {kvs:List (Int×Value)}{t:Bool}(hx:Ev G x l H (.int a 0))(hy:Ev G y l H (.ref c))(hc:H c=some (.xV kvs))(hz:(!(valueAt kvs a).isSome)=t):Ev G (.b LQ x y) l H (.bool t):=Dh hx hy λuu q=>⟨a,rfl,c,kvs,rfl,hc,hz▸q⟩
theorem Fd {o:List Value->xH}{xs:List Value}(hx:Ev G x l H (.ref c))(hc:H c=some (o xs)):Ev G (.u (RX o) x) l H (.int xs.length 0):=Km hx λuu q=>⟨c,xs,rfl,hc,q⟩
theorem acC (hx:Ev G x l H (.str p 0))(hz:p.length<=2^25):Ev G (.u Pg x) l H (.int p.length 0):=Km hx λuu q=>⟨p,rfl,hz,q⟩
theorem ai8 {t:Bool}(hx:Ev G x l H (.int a 0)):Ev G (.u (Gd t) x) l H (.bool t):=Km hx λuu q=>⟨a,rfl,q⟩
theorem ai9 (hx:Ev G x l H (.str p 0)):Ev G (.u Xo x) l H (.bool true):=Km hx λuu q=>⟨p,rfl,q⟩
theorem P0 {o:List Value->xH}{xs:List Value}(hx:Ev G x l H (.ref c))(hc:H c=some (o xs)):Ev G (.u (Ge o) x) l H (.bool true):=Km hx λuu q=>⟨c,xs,rfl,hc,q⟩
theorem acD {t:Bool}(hx:Ev G x l H (.bool t)):Ev G (.u J6 x) l H (.int (if t then 1 else 0) 0):=Km hx λuu q=>q
theorem Ko {t u:Bool}(hx:Ev G x l H (.bool t))(hz:(!t)=u):Ev G (.not x) l H (.bool u):=λQ X q=>hx _ X (show Q (.bool (!t)) H from hz▸q)
theorem acE {t:Bool}(hx:Ev G x l H (.bool true))(hy:Ev G y l H (.bool t)):Ev G (.and x y) l H (.bool t):=λQ X q=>hx _ X (hy Q X q)
theorem S9 (hx:Ev G x l H (.bool false)):Ev G (.and x y) l H (.bool false):=λQ X q=>hx _ X q
theorem Ms {t:Bool}(hx:Ev G x l H (.bool false))(hy:Ev G y l H (.bool t)):Ev G (.or x y) l H (.bool t):=λQ X q=>hx _ X (hy Q X q)
theorem acF (hx:Ev G x l H (.bool true)):Ev G (.or x y) l H (.bool true):=λQ X q=>hx _ X q
theorem acG {f g:B2}{u s:Value}(hx:Ev G x l H v)(hy:Ev G y l H w)(hz:Ev G z l H u)(h1:∀ Q:QV,Q (.bool true) H->f v w H Q)(h2:∀ Q:QV,Q s H->g w u H Q):Ev G (.RL f g x y z) l H s :=
 λQ X q=>hx _ X (hy _ X (h1 _ (hz _ X (h2 Q q))))
theorem xM:Jd G [] l H []:=λuu uu q=>q
theorem w6 {es:List Ex}{vs:List Value}(he:Ev G e l H v)(hs:Jd G es l H vs):Jd G (e::es) l H (v::vs):=λQ X q=>he _ X (hs _ X q)
variable {Q:QV}{X:XV}
theorem xO (h:Ev G e l H v)(q:Q v H):e G l H Q X:=h Q X q
theorem Dy {o:Ex}{m:Str}{args:List Ex}{x d C f:Addr}{kvs:List (Str×Value)}(ho:Ev G o l H (.ref x))(hi:H x=some (.inst C d))(hn:H d=some (.ns kvs))(hf:G.meth C m=some f)(hv:valueAt kvs m=none)
  (q:Cz G args l H (λvs H2=>G.fn f (.ref x::vs) H2 Q X) X):Ex.meth o m args G l H Q X:=ho _ X (X5 hi hn ⟨hv,f,hf,q⟩)
theorem yx {o:Ex}{m:Str}{args:List Ex}{x d C f:Addr}{kvs:List (Str×Value)}{vs:List Value}(ho:Ev G o l H (.ref x))(hi:H x=some (.inst C d))(hn:H d=some (.ns kvs))(hf:G.meth C m=some f)(hv:valueAt kvs m=none)
  (ha:Jd G args l H vs) (q:G.fn f (.ref x::vs) H Q X):Ex.meth o m args G l H Q X:=Dy ho hi hn hf hv (ha _ X q)
theorem aja {a:Addr}{vs:List Value}(hi:G.init a=none)(q:G.fn a vs H Q X):abj G (.ref a) vs H Q X:=⟨a,rfl,.inl ⟨hi,q⟩⟩
theorem w_call {g:Ex}{args:List Ex}{a:Addr}{vs:List Value}(hg:Ev G g l H (.ref a))(hi:G.init a=none)(ha:Jd G args l H vs)(q:G.fn a vs H Q X):Ex.call g args G l H Q X:=hg _ X (ha _ X (aja hi q))
theorem acH {g:Ex}{args:List Ex}{C fi:Addr}{vs:List Value}(hg:Ev G g l H (.ref C))(hi:G.init C=some fi)(ha:Jd G args l H vs)
  (q:∀ d x,H d=none->H x=none->d≠x->G.fn fi (.ref x::vs) ((H.upd d (.ns [])).upd x (.inst C d)) (λr H'=>r=.none/\Q (.ref x) H') X):Ex.call g args G l H Q X:=hg _ X (ha _ X ⟨C,rfl,.inr ⟨fi,hi,q⟩⟩)
theorem yR {Q:List Value->Hp->Prop}(q:Q [] H):Cz G [] l H Q X:=q
theorem xW {es:List Ex}{Q:List Value->Hp->Prop}(q:e G l H (λv H1=>Cz G es l H1 (λvs H2=>Q (v::vs) H2) X) X):Cz G (e::es) l H Q X:=q
theorem Di {es:List Ex}{vs:List Value}(ha:Jd G es l H vs)(hz:vs.length<=sizeLine)(q:∀ c,H c=none->Q (.ref c) (H.upd c (.list vs))):Ex.n yu es G l H Q X:=ha _ X ⟨hz,q⟩
theorem Mu {es:List Ex}{vs:List Value}(ha:Jd G es l H vs)(hz:vs.length<=sizeLine)(q:∀ c,H c=none->Q (.ref c) (H.upd c (.tup vs))):Ex.n zu es G l H Q X:=ha _ X ⟨hz,q⟩
theorem Dj {f:U1}(q:e G l H (λv H1=>f v H1 Q) X):Ex.u f e G l H Q X:=q
theorem X8 (q:x G l H (λv H1=>zL v λb=>Q (.bool (!b)) H1) X):Ex.not x G l H Q X:=q
theorem Yb (hx:Ev G x l H (.bool true))(q:y G l H Q X):Ex.and x y G l H Q X:=hx _ X q
theorem zf {f:B2}(q:x G l H (λv H1=>y G l H1 (λw H2=>f v w H2 Q) X) X):Ex.b f x y G l H Q X:=q
theorem Ay {f:N9}{es:List Ex}(q:Cz G es l H (λvs H1=>f vs H1 Q) X):Ex.n f es G l H Q X:=q
theorem yr {α:Type}{o:α->xH}{a:α}{k:Addr->α->Prop}(hc:H c=some (o a))(q:k c a):On o (.ref c) H k:=⟨c,a,rfl,hc,q⟩
theorem ajb {kvs:List (Int×Value)}(hc:H c=some (.xV kvs))(h:valueAt kvs a=some v)(q:Q v H):Gu (.ref c) (.int a 0) H Q:=yr hc ⟨a,rfl,v,h,q⟩
theorem Fe {o:List Value->xH}{xs:List Value}(hc:H c=some (o xs))(h0:0<=a)(h:xs[a.toNat]?=some v)(q:Q v H):O7 o (.ref c) (.int a 0) H Q:=yr hc ⟨a,rfl,h0,v,h,q⟩
theorem Hy {d:Addr}{xs ys:List Value}(ha:H c=some (.list xs))(hb:H d=some (.list ys))(hz:xs.length+ys.length<=sizeLine)(q:∀ c,H c=none->Q (.ref c) (H.upd c (.list (xs++ys)))):BX (.ref c) (.ref d) H Q:=yr ha (yr hb ⟨hz,q⟩)
theorem acI {xs:List Value}(hx:Ev G x l H (.ref c))(hy:Ev G y l H (.int a 0))(hc:H c=some (.list xs))(h0:0<=a)(hz:xs.length<=sizeLine)(q:∀ c,H c=none->Q (.ref c) (H.upd c (.list (xs.take a.toNat)))):Ex.b toL x y G l H Q X:=hx _ X (hy _ X (yr hc ⟨a,rfl,h0,hz,q⟩))
theorem Yc {xs:List Value}(hx:Ev G x l H (.ref c))(hc:H c=some (.list xs))(hz:xs.length<=sizeLine)(q:∀ c,H c=none->Q (.ref c) (H.upd c (.list xs))):Ex.u Ph x G l H Q X:=hx _ X (yr hc ⟨hz,q⟩)
theorem ajc {xs:List Value}(hx:Ev G x l H (.ref c))(hy:Ev G y l H v)(hc:H c=some (.list xs))(hz:xs.length<=sizeLine)(q:Q .none (H.upd c (.list (xs++[v])))):Ex.m (yc .list) Aw x [y] G l H Q X:=hx _ X ⟨yr hc trivial,hy _ X (yr hc ⟨v,rfl,hz,q⟩)⟩
theorem Mv {xs:List Value}(hx:Ev G x l H (.ref c))(hc:H c=some (.list xs))(q:y G l H (λv H1=>Aw (.ref c) [v] H1 Q) X):Ex.m (yc .list) Aw x [y] G l H Q X:=hx _ X ⟨yr hc trivial,q⟩
theorem Kq {xs:List Value}(hc:H c=some (.list xs))(hz:xs.length<=sizeLine)(q:Q .none (H.upd c (.list (xs++[v])))):Aw (.ref c) [v] H Q:=yr hc ⟨v,rfl,hz,q⟩
theorem Tc {xs:List Value}(hx:Ev G x l H (.ref c))(hc:H c=some (.list xs))(hz:xs.length<=sizeLine)(hv:xs.getLast?=some v)(q:Q v (H.upd c (.list xs.dropLast))):Ex.m (yc .list) Gw x [] G l H Q X:=hx _ X ⟨yr hc trivial,yr hc ⟨rfl,hz,v,hv,q⟩⟩
theorem Yd {kvs:List (Int×Value)}(hx:Ev G x l H (.ref c))(hy:Ev G y l H (.int a 0))(hc:H c=some (.xV kvs))(hz:kvs.length<=sizeLine)(hv:valueAt kvs a=some v)(q:Q v (H.upd c (.xV (f9 kvs a)))):Ex.m (yc .xV) Kc x [y] G l H Q X:=hx _ X ⟨yr hc trivial,hy _ X (yr hc ⟨_,rfl,a,rfl,hz,v,hv,q⟩)⟩
theorem Hp.Fg {H:Hp}{c d:Addr}{o o':xH}(hc:H c=some o)(hd:H d=none):H.upd d o' c=some o:=(Hp.xJ H (a:=d) (b:=c) o' λz=>xr hc (z▸hd)).trans hc
theorem Ye {i:Option Str}{t:Bool}(h:decide (i=some r)=t)(q:Q (.bool t) H):Ir (oS i) (.str r 0) H Q:=⟨i,r,rfl,rfl,h▸q⟩
theorem acJ {t:Bool}(h:Lz v=some t)(q:Q (.bool t) H):Df v .none H Q:=⟨t,rfl,h,q⟩
theorem ajd {d:Addr}{xs:List Value}(hc:H c=some (.list xs))(hd:H d=some (.list []))(q:Q (.bool (!xs.isEmpty)) H):neN (.ref c) (.ref d) H Q:=yr hc (yr hd ⟨rfl,q⟩)
theorem aje {d:Addr}{xs:List Value}(hc:H c=some (.list xs))(hd:H d=some (.list []))(q:Q (.bool xs.isEmpty) H):Pa (.ref c) (.ref d) H Q:=yr hc (yr hd ⟨rfl,q⟩)
theorem Qa {xs:List Value}(hx:Ev G x l H (.ref c))(hc:H c=some (.list xs))(q:∀ d,H d=none->Q (.bool (!xs.isEmpty)) (H.upd d (.list []))):Ex.b neN x (.n yu []) G l H Q X :=
 hx _ X ⟨bL _,λd hd=>ajd (Hp.Fg hc hd) (Hp.wQ _ _ _) (q d hd)⟩
theorem acK {xs:List Value}(hx:Ev G x l H (.ref c))(hc:H c=some (.list xs))(q:∀ d,H d=none->Q (.bool xs.isEmpty) (H.upd d (.list []))):Ex.b Pa x (.n yu []) G l H Q X :=
 hx _ X ⟨bL _,λd hd=>aje (Hp.Fg hc hd) (Hp.wQ _ _ _) (q d hd)⟩
end
section
variable {G:Gx}{l:Loc}{H:Hp}{Q:QS}{X:XS}{r:List Sm}
def sq (G:Gx)(r:List Sm)(Q:QS)(X:XS):QS:=λf l' H'=>match f with | .next=>wM G r l' H' Q X | f=>Q f l' H'
theorem yZ (q:Q .next l H):wM G [] l H Q X:=q
theorem zG (q:wM G r l H Q X):wM G [] l H (sq G r Q X) X:=q
theorem xX {x:Str}{e:Ex}(q:e G l H (λv H'=>wM G r (l.upd x v) H' Q X) (λC H'=>X C l H')):wM G (.asg x e::r) l H Q X:=q
theorem Gi {x:Str}{e:Ex}{v:Value}(he:Ev G e l H v)(q:wM G r (l.upd x v) H Q X):wM G (.asg x e::r) l H Q X:=he _ _ q
theorem Ao {e:Ex}(q:e G l H (λuu H'=>wM G r l H' Q X) (λC H'=>X C l H')):wM G (.expr e::r) l H Q X:=q
theorem zm {e:Ex}(q:e G l H (λv H'=>Q (.ret v) l H') (λC H'=>X C l H')):wM G (.ret e::r) l H Q X:=q
theorem zT {e:Ex}{v:Value}(he:Ev G e l H v)(q:Q (.ret v) l H):wM G (.ret e::r) l H Q X:=he _ _ q
theorem Fi {c:Ex}{t f:List Sm}(q:c G l H (λv H1=>zL v λb=>if b then wM G t l H1 (sq G r Q X) X else wM G f l H1 (sq G r Q X) X) (λC H'=>X C l H')):wM G (.ite c t f::r) l H Q X:=q
theorem Hz {t f:Prop}(q:f):zL (.bool false) λb=>if b=true then t else f:=q
theorem Mw {t f:Prop}(q:t):zL (.bool true) λb=>if b=true then t else f:=q
theorem CV {c:Ex}{t f:List Sm}{b:Bool}(hc:Ev G c l H (.bool b))(ht:b=true->wM G t l H (sq G r Q X) X)(hf:b=false->wM G f l H (sq G r Q X) X):wM G (.ite c t f::r) l H Q X:=Fi (hc _ _ (by
 cases b
 ·exact hf rfl
 ·exact ht rfl))
theorem Dk {c:Ex}{t f:List Sm}(hc:Ev G c l H (.bool true))(q:wM G t l H (sq G r Q X) X):wM G (.ite c t f::r) l H Q X:=hc _ _ q
theorem acL {c:Ex}{t f:List Sm}(hc:Ev G c l H (.bool false))(q:wM G f l H (sq G r Q X) X):wM G (.ite c t f::r) l H Q X:=hc _ _ q
theorem zW {c:Ex}{t:List Sm}(hc:Ev G c l H (.bool false))(q:wM G r l H Q X):wM G (.ite c t []::r) l H Q X:=hc _ _ q
theorem Qc {c:Str}{C:Addr}(hg:G.glob c=some (.ref C))(he:G.isExc C=true)(q:X C l H):wM G (.raise c::r) l H Q X:=⟨C,hg,he,q⟩
theorem Qd {o:Ex}{a:Str}{e:Ex}(q:e G l H (λv H1=>o G l H1 (λov H2=>RM G ov a v H2 λH'=>wM G r l H' Q X) (λC H'=>X C l H')) (λC H'=>X C l H')):wM G (.Eb o a e::r) l H Q X:=q
theorem Mx {x d C:Addr}{a:Str}{kvs:List (Str×Value)}{v:Value}{k:Hp->Prop}(hi:H x=some (.inst C d))(hn:H d=some (.ns kvs))(hf:G.fld C a=true)(hz:kvs.length<=100)(q:k (H.upd d (.ns (stored kvs a v)))):RM G (.ref x) a v H k:=X5 hi hn ⟨⟨hf,hz⟩,q⟩
theorem Qe {o:Ex}{a:Str}{e:Ex}{v:Value}{x d C:Addr}{kvs:List (Str×Value)}(he:Ev G e l H v)(ho:Ev G o l H (.ref x))(hi:H x=some (.inst C d))(hn:H d=some (.ns kvs))(hf:G.fld C a=true)(hz:kvs.length<=100)
  (q:wM G r l (H.upd d (.ns (stored kvs a v))) Q X):wM G (.Eb o a e::r) l H Q X:=he _ _ (ho _ _ (Mx hi hn hf hz q))
theorem Qf {o i e:Ex}{v:Value}{d:Addr}{kvs:List (Int×Value)}{n:Int}(he:Ev G e l H v)(ho:Ev G o l H (.ref d))(hi:Ev G i l H (.int n 0))(hd:H d=some (.xV kvs))(hz:kvs.length<=sizeLine)
  (q:wM G r l (H.upd d (.xV (stored kvs n v))) Q X):wM G (.Eu IK o i e::r) l H Q X:=he _ _ (ho _ _ (hi _ _ (yr hd ⟨n,rfl,hz,q⟩)))
theorem acM (q:Q .cont l H):wM G (.cont::r) l H Q X:=q
theorem GD {a:Addr}{xs:List Value}(ha:H a=some (.list xs)){k:(Hp->Prop)->List Value->Prop}(q:k (λH'=>H' a=some (.list xs)) xs):yO (.ref a) H k:=yr ha q
theorem ajf {p:Str}{k:(Hp->Prop)->List Value->Prop}(q:k (λuu=>True) (p.cps.toList.map λc=>.str (zM c) 0)):Xy (.str p 0) H k:=⟨p,rfl,q⟩
theorem Qg {a:Addr}{lo hi st:Int}(ha:H a=some (.range lo hi st))(hs:fU lo hi st=true){k:(Hp->Prop)->List Value->Prop}(q:k (λuu=>True) (Ei lo hi st)):itR (.ref a) H k:=yr (a:=(lo,hi,st)) ha ⟨hs,q⟩
theorem Mz {it:It}{x:Str}{src:Ex}{body:List Sm}(q:src G l H (λv H1=>it v H1 λguard items=>Hi guard x (λl' H' K=>wM G body l' H' K X) items l H1 (sq G r Q X)) (λC H'=>X C l H')):wM G (.for_ it x src body::r) l H Q X:=q
structure Ks (I:Loc->Hp->Prop)(Q K:QS):Prop where
 nx:∀ l H,I l H->K .next l H
 ct:∀ l H,I l H->K .cont l H
 rt:∀ v l H,Q (.ret v) l H->K (.ret v) l H
theorem Ku {guard:Hp->Prop}{x:Str}{body:Loc->Hp->QS->Prop}(I:List Value->Loc->Hp->Prop)(hg:∀ r l H,I r l H->guard H)(hb:∀ v r l H,I (v::r) l H->∀ K:QS,Ks (I r) Q K->body (l.upd x v) H K)
  (hq:∀ l H,I [] l H->Q .next l H) {xs:List Value}:∀ {l:Loc} {H:Hp},I xs l H->Hi guard x body xs l H Q:=by
 induction xs with
 | nil=>exact λh=>⟨hg _ _ _ h,hq _ _ h⟩
 | cons v r ih=>exact λ{l H} h=>⟨hg _ _ _ h,hb v r l H h _ ⟨λl H h=>ih h,λl H h=>ih h,λv l H h=>h⟩⟩
theorem Td {x:Str}{src:Ex}{body:List Sm}{a:Addr}{xs:List Value}(I:List Value->Loc->Hp->Prop)(hs:Ev G src l H (.ref a))(ha:H a=some (.list xs))(hg:∀ r l H,I r l H->H a=some (.list xs))
  (hb:∀ v rs l' H',I (v::rs) l' H'->∀ K:QS,Ks (I rs) (sq G r Q X) K->wM G body (l'.upd x v) H' K X) (h0:I xs l H) (hq:∀ l' H',I [] l' H'->wM G r l' H' Q X):wM G (.for_ yO x src body::r) l H Q X :=
 hs _ _ (GD ha (Ku I hg hb hq h0))
theorem acN (n:Nat):cJ 0 (n:Int) 1=n:=by
 unfold cJ
 rw[if_pos (by decide)]
 split
 ·rw[Int.sub_zero,uO,mR]
 ·exact oW (cR _) (gZ.1 ‹_›)
theorem Yg (n:Nat):Ei 0 (n:Int) 1=(dw n).map λ(k:Nat)=>cL (k:Int) 0:=by
 unfold Ei
 rw[acN]
 refine fK λk uu=>?_
 rw[vh,qT]
theorem Yh {n:Nat}(h:n<2^60):fU 0 (n:Int) 1=true:=by
 unfold fU
 rw[acN]
 simp [lD]
 have q:(n:Int)<9223372036854775808:=iC.2 (eY h (by decide))
 exact⟨q,.inr q⟩
theorem acO {guard:Hp->Prop}{x:Str}{body:Loc->Hp->QS->Prop}(I:Nat->Loc->Hp->Prop){f:Nat->Value}{m:Nat}(hg:∀ i l H,I i l H->guard H):∀ {k:Nat},(∀ i,i<k+m->∀ l H,I i l H->∀ K:QS,Ks (I (i+1)) Q K->body (l.upd x (f i)) H K) ->
  (∀ l H,I (k+m) l H->Q .next l H)->∀ {l H},I k l H->Hi guard x body ((uT k m).map f) l H Q:=by
 induction m with
 | zero=>exact λ{k} _ hq {l H} h=>⟨hg _ _ _ h,hq _ _ h⟩
 | succ m ih =>
  intro k hb hq l H h
  have e:k+(m+1)=k+1+m:=(nA k m).symm
  have ih:=@ih (k+1) (e▸hb) (e▸hq)
  exact⟨hg _ _ _ h,hb k (cQ (eU m)) l H h _ ⟨λl H h=>ih h,λl H h=>ih h,λv l H h=>h⟩⟩
theorem Qh {x:Str}{e:Ex}{body:List Sm}{n:Nat}(I:Nat->Loc->Hp->Prop)(he:Ev G e l H (.int (n:Int) 0))(hz:n<2^60)(hb:∀ i,i<n->∀ l' H',I i l' H'->∀ K:QS,Ks (I (i+1)) (sq G r Q X) K->wM G body (l'.upd x (.int (i:Int) 0)) H' K X)
  (h0:∀ c,H c=none->I 0 l (H.upd c (.range 0 n 1))) (hq:∀ l' H',I n l' H'->wM G r l' H' Q X):wM G (.for_ itR x (.u CK e) body::r) l H Q X :=
 he _ _ ⟨_,rfl,λc hc=>Qg (Hp.wQ _ _ _) (Yh hz) (by
  rw[Yg,uR]
  exact acO I (f:=λ(k:Nat)=>cL (k:Int) 0) (λuu uu uu uu=>trivial) (by rw[d9];exact hb) (by rw[d9];exact hq) (h0 c hc))⟩
theorem acP {c:Ex}{body:List Sm}(n:Nat)(q:Lp (λl' H' K=>c G l' H' (λv H1=>zL v λb=>K b H1) (λC H'=>X C l' H')) (λl' H' K=>wM G body l' H' K X) (sq G r Q X) n l H):wM G (.Hj c body::r) l H Q X:=⟨n,q⟩
def fq (Q:QV):QS:=λf uu H'=>match f with | .next=>Q .none H' | .ret v=>Q v H' | .cont=>False
def fx (X:XV):XS:=λC uu H'=>X C H'
theorem yC {ps:List Str}{body:List Sm}{args:List Value}{Q:QV}{X:XV}(hl:ps.length=args.length)(q:wM G body (λx=>(ps.zip args).lookup x) H (fq Q) (fx X)):yq G ps body args H Q X:=⟨hl,q⟩
end
section
variable {G:Gx}{l:Loc}{H:Hp}{Q:QV}{X:XV}
noncomputable def ca (l:Loc)(x:Str)(v:Value):Loc:=(l.del ".0").upd x v
theorem ajg {β:Type}{R:Value->β->Prop}{guard:Hp->Prop}{step:Value->Hp->(Option Value->Hp->Prop)->Prop}{p:β->Bool}{f:Value->Value}(hg:guard H){items:List Value}{ys:List β}(hr:wK R items ys)
  (hs:∀ v y,R v y->∀ k':Option Value->Hp->Prop,(if p y then k' (some (f v)) H else k' none H)->step v H k'):∀ {acc:List Value} {k:List Value->Hp->Prop},(∀ zs,wK R zs (ys.filter p)->zs.length<=items.length->k (acc++zs.map f) H)->Hh guard step items acc H k:=by
 induction hr with
 | nil=>intro acc k h;exact⟨hg,by have:=h [] .nil (aD _);rw[gq,aY] at this;exact this⟩
 | @cons v y vs ys e _ ih =>
  intro acc k h
  refine⟨hg,hs v y e _ ?_⟩
  cases ep:p y with
  | true =>
   refine ih (acc:=acc++[f v]) λzs hz hl=>?_
   have:=h (v::zs) (by rw[fY,if_pos ep];exact .cons e hz) (aU hl)
   rw[aP];exact this
  | false =>
   refine ih (acc:=acc++[]) λzs hz hl=>?_
   rw[aY]
   exact h zs (by rw[fY,if_neg (by rw[ep];exact(λzz=>by cases zz))];exact hz) (dR hl)
theorem Yi {β:Type}{R:Value->β->Prop}{elt src c:Ex}{x:Str}{a:Addr}{xs:List Value}{ys:List β}(p:β->Bool)(f:Value->Value)(he:Ev G src l H (.ref a))(ha:H a=some (.list xs))(hz:xs.length<=sizeLine)(hr:wK R xs ys)
  (hp:∀ v y,R v y->Ev G c (ca l x v) H (.bool (p y))) (hf:∀ v y,R v y->p y=true->Ev G elt (ca l x v) H (f v)) (q:∀ zs,wK R zs (ys.filter p)->zs.length<=xs.length->∀ c,H c=none->Q (.ref c) (H.upd c (.list (zs.map f)))):Ex.comp yO elt x src (some c) G l H Q X :=
 he _ _ (GD ha ⟨hz,ajg (p:=p) (f:=f) ha hr (λv y e k' hk=>hp v y e _ _ (by
   cases ep:p y with
   | true=>rw[ep] at hk;exact hf v y e ep _ _ hk
   | false=>rw[ep] at hk;exact hk)) λzs hz hl=>q zs hz hl⟩)
theorem Yj {β:Type}{R:Value->β->Prop}{guard:Hp->Prop}{step:Value->Hp->(Option Value->Hp->Prop)->Prop}{f:β->Value}(hg:guard H){items:List Value}{ys:List β}(hr:wK R items ys)
  (hs:∀ v y,R v y->y∈ys->∀ k':Option Value->Hp->Prop,k' (some (f y)) H->step v H k'):∀ {acc:List Value} {k:List Value->Hp->Prop},k (acc++ys.map f) H->Hh guard step items acc H k:=by
 induction hr with
 | nil=>intro acc k h;exact⟨hg,by rw[gq,aY] at h;exact h⟩
 | @cons v y vs ys e _ ih =>
  intro acc k h
  exact⟨hg,hs v y e (.head _) _ (ih (λv y r m=>hs v y r (.tail _ m)) (by rw[aP];exact h))⟩
theorem acQ {β:Type}{R:Value->β->Prop}{it:It}{elt src:Ex}{x:Str}{v:Value}{guard:Hp->Prop}{xs:List Value}{ys:List β}(f:β->Value)(he:Ev G src l H v)(hit:∀ k:(Hp->Prop)->List Value->Prop,k guard xs->it v H k)(hg:guard H)(hz:xs.length<=sizeLine)(hr:wK R xs ys)
  (hf:∀ v y,R v y->y∈ys->Ev G elt (ca l x v) H (f y)) (q:∀ c,H c=none->Q (.ref c) (H.upd c (.list (ys.map f)))):Ex.comp it elt x src none G l H Q X :=
 he _ _ (hit _ ⟨hz,Yj (f:=f) hg hr (λv y e m k' hk=>hf v y e m _ _ hk) q⟩)
theorem ajh {β:Type}{R:Value->β->Prop}{elt src:Ex}{x:Str}{a:Addr}{xs:List Value}{ys:List β}(f:β->Value)(he:Ev G src l H (.ref a))(ha:H a=some (.list xs))(hz:xs.length<=sizeLine)(hr:wK R xs ys)
  (hf:∀ v y,R v y->y∈ys->Ev G elt (ca l x v) H (f y)) (q:∀ c,H c=none->Q (.ref c) (H.upd c (.list (ys.map f)))):Ex.comp yO elt x src none G l H Q X :=
 acQ f he (λuu q=>GD ha q) ha hz hr hf q
theorem acR {guard:Hp->Prop}{step:Value->Hp->(Option Value->Hp->Prop)->Prop}{k:List Value->Hp->Prop}(I:List Value->List Value->Hp->Prop)(hg:∀ r acc H,I r acc H->guard H)
  (hb:∀ v r acc H,I (v::r) acc H->∀ K:Option Value->Hp->Prop,(∀ u H',I r (acc++[u]) H'->K (some u) H')->step v H K) (hk:∀ acc H,I [] acc H->k acc H) {xs:List Value}:∀ {acc:List Value} {H:Hp},I xs acc H->Hh guard step xs acc H k:=by
 induction xs with
 | nil=>exact λh=>⟨hg _ _ _ h,hk _ _ h⟩
 | cons v r ih=>exact λ{acc H} h=>⟨hg _ _ _ h,hb v r acc H h _ λu H' h=>ih h⟩
theorem Yk {elt src:Ex}{x:Str}{a:Addr}{xs:List Value}(I:List Value->List Value->Hp->Prop)(he:Ev G src l H (.ref a))(ha:H a=some (.list xs))(hz:xs.length<=sizeLine)(hg:∀ r acc H,I r acc H->H a=some (.list xs))
  (hb:∀ v r acc H',I (v::r) acc H'->∀ K:QV,(∀ u H',I r (acc++[u]) H'->K u H')->elt G (ca l x v) H' K (λuu uu=>False)) (h0:I xs [] H) (q:∀ acc H',I [] acc H'->∀ c,H' c=none->Q (.ref c) (H'.upd c (.list acc))):Ex.comp yO elt x src none G l H Q X :=
 he _ _ (GD ha ⟨hz,acR I hg (λv r acc H h K hK=>hb v r acc H h (λu H'=>K (some u) H') hK) (λacc H h=>q acc H h) h0⟩)
end
section
variable {P:Pm}{F:Fm}{G:Gx}{n:Nat}{sc:Scope}{l:Loc}{H:Hp}{s:Shared}{E:Value->Shared->Prop}{Q:QV}
def Yl:U1:=λv H Q=>Ac v λi=>Q (.int (-i) 0) H
theorem aji {e:Expr}{e':Ex}{pos:Pos}(h:SE P G n sc e e'):SE P G n sc (.UnaryOp .USub e pos) (.u Yl e'):=by
 refine .of rfl ?_
 intro F l H s Q X O I q
 refine ak (h.go O I q λV s' H' I' z=>?_)
 refine Ac.use z ?_;intro i t z
 exact ak (fG (bW (neg_int ⟨H',I'.toks _,z⟩)))
theorem ajj {x:Ex}{a:Int}(hx:Ev G x l H (.int a 0)):Ev G (.u Yl x) l H (.int (-a) 0):=Km hx λuu q=>⟨a,rfl,q⟩
abbrev isS (v:Value)(_:Hp):Prop:=Cp v λuu=>True
theorem ajk {k:Int}{v:Value}(h:Value.isInt k v=true):∃ t,v=.int k t:=by
 cases v <;> first | cases h | exact⟨_,congrArg (cL · _) (cP h)⟩
theorem ajl {ks:List (Int×Value)}{vs:List Value}(hl:vs.length=ks.length)(hp:∀ (j:Nat) (v:Value),vs[j]?=some v->∃ k x,ks[j]?=some (k,x)/\(intKind P.prog P.w).is k v=true):IntsAre vs (ks.map (·.1)):=by
 induction ks generalizing vs with
 | nil=>rw[dN.1 hl];exact .nil
 | cons p ks ih =>
  obtain⟨v,vs,rfl,hl'⟩:=Kl hl
  obtain⟨k,x,e1,e2⟩:=hp 0 v rfl
  cases e1
  obtain⟨t,rfl⟩:=ajk (show Value.isInt _ v=true from e2)
  exact .cons _ t (ih hl' λj v h=>hp (j+1) v h)
theorem ajm (K:xG P F)(I:Inv P F l H s){κ:Type}[DecidableEq κ]{knd:PySem.KeyKind P.prog P.w κ}{a:Addr}{ks:List (κ×Value)}{od:xH}(hx:H a=some od)(hD:od.isD=true)(hR:od.BP=false)(nm:(a==sysModules)=false)(hd:s.heap.DictOf knd a ks)(hlen:ks.length<=sizeLine){R:List Value->Prop}
  (run:∀ (vs:List Value) (D:Addr) (s':Shared) (E':Value->Shared->Prop) (Z:Fin->Shared->Prop),vs.length=ks.length->(∀ (j:Nat) (v:Value),vs[j]?=some v->∃ k x,ks[j]?=some (k,x)/\knd.is k v=true)->s'.heap.get? D=some (seqObj "list" vs.toArray 0) ->
   (∀ out:Array Value,out.size=ks.length->R (out.toList.map er)->Z (.done (.ret .none)) { s' with heap:=sortedHeap s'.heap D vs out })->wpAny P.M F.A.in1.in1 (Builtin.«list.sort» ⟨[.ref D],[]⟩) Z E' s')
  (q:∀ zs,R zs->newV (.list zs) H Q):wpAny P.M F.A (call (.builtin "sorted") [.ref a]) (Ae P F l Q) E s:=by
 obtain⟨m,Fr,hmm⟩:=I.fr K
 obtain⟨o,es,ep,hd⟩:=hd
 refine PySem.W.kdu_sorted (uW (ep:=ep) nm) K.hh Fr (O2 _ _ _) ⟨o,es,hd⟩ hlen λD h' tk vs F' N' lt hl hp=>?_
 have oD:h'.get? D=some (seqObj "list" vs.toArray 0):=(N' _ (.head _)).1
 refine fL ux ⟨_,oD,rfl⟩ uf (run vs D _ _ _ hl hp oD λout hz r=>⟨_,rfl,?_⟩) (args_list_sort _)
 have of:=I.off K (a:=D) (none_of λo q=>absurd (lt _ (O1 q (N' _ (.head _)).2.1 (N' _ (.head _)).2.2)) (gj _))
 obtain⟨ep2,hat⟩:=sortedHeap_at (out:=out) oD
 have b:=I.ob a od hx
 obtain⟨oa,ea⟩:=b.mt.some
 exact⟨_,((I.after K (t:=tk) hmm F' N' λuu hp=>.tail _ hp).turn (t:=tk) (h':=sortedHeap h' D vs out) K of λb o hb e=>by rw[sortedHeap_old hb (bM e)];exact e).track of (aj (b.big hD) (aQ (lt _ (O1 ea (b.free hR).l (none_of λo q=>xr (K.base _ _ q) (b.free hR).g)))):P.base.objs.size<=D) (Dc hat (aj (bI hz) (Ez hlen))),q _ r _ of.h⟩
def sortI:U1:=λv H Q=>On .xV v H λuu kvs=>kvs.length<=sizeLine/\∀ ms:List Int,ms.Perm (kvs.map (·.1))->ms.Pairwise (·<=·)->newV (.list (ms.map λn=>.int n 0)) H Q
theorem ajn:Bg (JX "sorted") sortI:=by
 intro P F l H s E Q A R I h
 refine h.use ?_;intro p kvs hx h
 obtain⟨ks,hd,rfl⟩:=I.objs hx
 have hz:ks.length<=sizeLine:=by have:=h.1;rw[aA] at this;exact this
 refine ajm R.K I hx rfl rfl (not_modules R.Y I hx) hd hz (R:=λzs=>∃ ms:List Int,zs=ms.map (λn=>cL n 0)/\ms.Perm (ks.map (·.1))/\ms.Pairwise (·<=·)) (λvs D s' E' Z hl hp oD k=>?_) λzs r=>?_
 ·refine agi oD (ajl hl hp) (by rw[hl];exact hz) λout ns' a1 a2 a3=>k out ?_ ⟨ns',X4 a1,a2,a3⟩
  rw[<-aq,<-aA (as:=out.toList) (f:=er),X4 a1,aA,a2.length_eq,aA]
 ·obtain⟨ms,rfl,p1,p2⟩:=r
  exact h.2 ms (by rw[bY];exact p1) p2
end
end
section
open PySem PyProof.Rows PySem.Calls
open PySem.W
structure Kv (h:Heap)(d:Addr)(es:Array DictEntry)(ep:Nat)(o:Obj):Prop where
 g:h.get? d=some o
 x:o.ExactDict
 e:o.data=.dict es ep
section
variable {prog:Program}{w:World}{A:Around}{E:Value->Shared->Prop}{s:Shared}{d it:Addr}{es:Array DictEntry}{ep i:Nat}{o:Obj}
theorem Kv.ty (x:Kv s.heap d es ep o):s.TypeIs (.ref d) "dict" := ⟨o,x.g,x.x.1⟩
theorem ajo {Q:Value->Shared->Prop}(hd:(d==sysModules)=false)(hm:Kv s.heap d es ep o)
  (hQ:Q (.ref s.heap.objs.size) { s with heap:=s.heap.push { cls:=.type "dict_keyiterator",data:=.fields #[.ref d,.int 0 0,.int es.size 0,.int ep 0] } }):wpAny (model prog w) A (pyIter (.ref d)) Q E s:=by
 refine rQ hm.ty F.slot_dict_iter (fL F.slot_dict_iter hm.ty F.entry_dict_iter ?_ (F.args_dict_iter_1 _))
 refine ak ?_
 refine ak (wpAny_notOrdered_dict hm.ty ?_)
 show wpAny _ _ (pure (jz d)) _ _ s
 refine au ?_
 show wpAny _ _ (rF d>>=_) _ _ s
 unfold rF
 rw[if_neg (by rw[hd];exact cZ)]
 refine ak (au (ak (rT hm.g hm.e (ak (uc hm.g hm.e ?_)))))
 exact ak (gD (au ⟨_,rfl,"dict_keyiterator",_,⟨_,aV _ rfl,rfl⟩,F.slot_dict_keyiterator_next.lookup,hQ⟩))
theorem ajp {Q:Option Value->Shared->Prop}(hit:s.heap.IsKeyIter it d i es.size ep)(hm:Kv s.heap d es ep o)(hx:i<es.size)
  (hQ:∀ h',h'.IsKeyIter it d (i+1) es.size ep->iB it s.heap h'->Q (some es[i].key) { s with heap:=h' }):wpAny (model prog w) A (pyNext (.ref it)) Q E s:=by
 obtain⟨oi,ho,hc,hd⟩:=id hit
 refine ak (mq (oX (name:=eO "__next__") hit.typeIs jE (fL jE hit.typeIs s7 ?_ (sE _))))
 refine ak (au (ak (ak (ak (jB hit.typeIs (au (ak (uw ho hd ?_))))))))
 refine ak (au (ak (rT hm.g hm.e ?_)))
 rw[if_neg (by simp)]
 refine ak (au (ak (uc hm.g hm.e ?_)))
 rw[if_neg (by simp)]
 refine au ?_
 show wpAny _ _ (match es[i]? with | some e=>_ | none=>_) _ _ s
 rw[bC hx]
 refine ak (ak (jB hit.typeIs (au ?_)))
 refine ak (wpAny_isOneOf_keyiter hit.typeIs ?_)
 show wpAny _ _ (setField (.ref it) 1 (rawInt ((i:Int)+1))>>=_) _ _ s
 refine ak (ju ho hd (by show 1<4;decide) ?_)
 have hit':(s.heap.update it (j6 (·.setIfInBounds 1 (rawInt ((i:Int)+1))))).IsKeyIter it d (i+1) es.size ep :=
  ⟨_,dB _ ho (oY (mQ hd _)),(Obj.cls_mapFields ..).trans hc,by rw[mQ hd];rfl⟩
 refine ak (bW (ak (wpAny_isOneOf_keyiter (s:={ s with heap:=s.heap.update it (j6 (·.setIfInBounds 1 (rawInt ((i:Int)+1)))) }) hit'.typeIs ?_)))
 exact au (au ⟨_,rfl,au (hQ _ hit' (dZ ..))⟩)
theorem ajq {Q:Option Value->Shared->Prop}(hh:A.handled=none)(hit:s.heap.IsKeyIter it d es.size es.size ep)(hm:Kv s.heap d es ep o)
  (hQ:∀ h',Heap.ExtBut it s.heap h'->Q none { s with heap:=h' }):wpAny (model prog w) A (pyNext (.ref it)) Q E s:=by
 obtain⟨oi,ho,hc,hd⟩:=id hit
 refine ak (mq (oX (name:=eO "__next__") hit.typeIs jE (fL jE hit.typeIs s7 ?_ (sE _))))
 refine ak (au (ak (ak (ak (jB hit.typeIs (au (ak (uw ho hd ?_))))))))
 refine ak (au (ak (rT hm.g hm.e ?_)))
 rw[if_neg (by simp)]
 refine ak (au (ak (uc hm.g hm.e ?_)))
 rw[if_neg (by simp)]
 refine au ?_
 show wpAny _ _ (match es[es.size]? with | some e=>_ | none=>_) _ _ s
 rw[iw (aD es.size)]
 refine ak (ak (jB hit.typeIs (au ?_)))
 refine ak (ju ho hd (by show 0<4;decide) ?_)
 show wpAny _ _ (newExc (.type "StopIteration") []>>=_) _ _ _
 refine ak ?_
 refine ak (gD ?_ (by size_fits))
 refine ak (m:=firstArgMember _ _) (qx (a:=j5) rfl ?_)
 refine gD ?_ (by size_fits)
 unfold raiseNew
 refine ak (wpAny_handled ?_)
 rw[show A.in1.handled=none from hh]
 refine ak (au (wpAny_throw ?_))
 refine ak (lY (T := "StopIteration") (b:=true) ⟨_,aV _ rfl,rfl⟩ isSubtype_stop ?_)
 exact au (hQ _ (((dZ ..).extBut.push _).push _))
theorem ajr (hh:A.handled=none)(I d:Addr)(hne:d≠I)(es:Array DictEntry)(ep:Nat)(o:Obj):Walks prog w A I [I,d] [I] es.size (λi v=>∃ e,es[i]?=some e/\e.key=v) (λi h=>h.IsKeyIter I d i es.size ep/\Kv h d es ep o) where
 sub:=λb hb=>by cases aC.1 hb;exact .head _
 frame:=λuu uu uu st hk=>⟨st.1.at λo e=>hk I (.head _) o e,⟨hk d (.tail _ (.head _)) _ st.2.g,st.2.x,st.2.e⟩⟩
 item:=λi s Q E hi st hQ=>ajp st.1 st.2 hi λh' hit hs=>hQ _ h' s.toks ⟨_,bC hi,rfl⟩ ⟨hit,⟨hs.extBut d _ hne st.2.g,st.2.x,st.2.e⟩⟩ λb o hb e=>hs.extBut b o (λh=>hb (h▸.head _)) e
 done:=λs Q E st hQ=>ajq hh st.1 st.2 λh' he=>hQ h' s.toks λb o hb e=>he b o (λh=>hb (h▸.head _)) e
 self:=λuu uu uu uu st hQ=>wpAny_pyIter_keyiter st.1 hQ
theorem ajs (lo:(d==sysModules)=false)(es:Array DictEntry)(ep:Nat)(o:Obj):KdlSrc prog w "dict" d d es.size (λi v=>∃ e,es[i]?=some e/\e.key=v) (λh=>Kv h d es ep o) where
 type:=λuu hm=>hm.ty
 there:=λuu hm=>⟨bM hm.g,bM hm.g⟩
 keep:=λuu uu hm hk=>⟨hk d (.inl rfl) _ hm.g,hm.x,hm.e⟩
 notList:=by decide
 notTuple:=by decide
 hint:=λuu uu uu uu hm hq=>kdl_hint_dict hm.ty hq
 iter:=λuu uu hh hm=>⟨_,_,(λuu uu hq=>ajo lo hm hq),ajr hh _ d (bQ (bM hm.g)) es ep o,⟨⟨_,aV _ rfl,rfl,rfl⟩,⟨aJ _ hm.g,hm.x,hm.e⟩⟩⟩
end
section
variable {prog:Program}{w:World}{A:Around}{E:Value->Shared->Prop}{s:Shared}{a:Addr}
theorem ajt:typeLookup (.type "list") "keys" = pure none:=by rw[ud,pZ];kernel_rfl
theorem aju {xs:Array Value}{k:Nat}{Q:Option Value->Shared->Prop}(hx:s.heap.get? a=some { cls:=.type "list",dict:=none,data:=.seq xs k,slots:=#[] })(hA:A.handled=none)
  (h:∀ h' tk,(∀ b o,s.heap.get? b=some o->h'.get? b=some o)->Q none { s with heap:=h',toks:=tk }):wpAny (model prog w) A (getAttr? (.ref a) "keys") Q E s:=by
 obtain⟨hp,g,d,tk,os⟩:=s
 have hT:∀ tk',(⟨hp,g,d,tk',os⟩:Shared).TypeIs (.ref a) "list" := λuu=>⟨_,hx,rfl⟩
 have f1:=sub_AttributeError
 have f3:=F.slot_list_getattribute.lookup
 have f4:=F.slot_list_getattribute.bind (.ref a)
 have f5:=am_list_getattr_none
 repeat (any_goals (first | assumption | exact hT _ | ((with_reducible show wpAny _ _ (call (Value.builtin "list.__getattribute__") _ _) _ _ _);refine call_meets F.slot_list_getattribute (hT _) am_entry_list_getattribute (F.args_list_getattribute_2 _ _) (meets_getattribute_miss_list a xs k #[] "keys" _ ajt (by decide +kernel) (by decide)) ⟨hx,hA,λh' tk' e hx'=>?_⟩) | wp_step))
 obtain⟨t',u',he⟩:=hx'.there
 unfold getattributeRaised
 repeat (any_goals (first | assumption | wp_step))
 exact h _ _ hx'.of.keeps
theorem acS:entryFor table "dict.update.loop" = some Builtin.«dict.update.loop»:=tH (by kernel_rfl)
theorem Te:plainId "dict.update.loop" = true:=by decide +kernel
structure acT (h:Heap)(v:Value)(r:Str×Value)(b:Addr)(o:Obj)(t:Tok)(n:Nat):Prop where
 v:v=.ref b
 g:h.get? b=some o
 c:o.cls=.type "tuple"
 d:o.data=.seq #[.str r.1 t,r.2] n
abbrev MF (h:Heap)(v:Value)(r:Str×Value):Prop:=∃ b o t n,acT h v r b o t n
theorem MF.keep {h h':Heap}{v:Value}{r:Str×Value}(k:∀ b o,h.get? b=some o->o.cls=.type "tuple"->h'.get? b=some o)(x:MF h v r):MF h' v r:=by
 obtain⟨b,o,t,n,x⟩:=x;exact⟨b,o,t,n,x.v,k _ _ x.g x.c,x.c,x.d⟩
theorem pair_items {v:Value}{r:Str×Value}{b:Addr}{o:Obj}{t:Tok}{n:Nat}(x:acT s.heap v r b o t n){Q:List Value->Shared->Prop}(h:Q [.str r.1 t,r.2] s):wpAny (model prog w) A (Builtin.Dict.pairItems v) Q E s:=by
 rw[x.v]
 refine ak (pH ⟨o,x.g,x.c⟩ ?_)
 exact ak (uq x.g x.d (au h))
theorem acU {h h':Heap}{J:Addr}{oj:Obj}(hj:h.get? J=some oj)(h1:oj.cls≠.type "tuple")(k:∀ b o,b≠J->h.get? b=some o->h'.get? b=some o)(b:Addr)(o:Obj)(e:h.get? b=some o)(z:o.cls=.type "tuple"):h'.get? b=some o:=k b o (λeb=>by
 subst eb
 rw[hj] at e;cases e
 exact h1 z) e
theorem ajv {K:Type}[DecidableEq K]{kvs:List (K×Value)}{m:K}(v:Value)(h:m∉kvs.map (·.1)):stored kvs m v=kvs++[(m,v)]:=by
 unfold stored
 rw[if_neg]
 intro e
 obtain⟨p,hp,e⟩:=lJ.1 e
 exact h (aO.2 ⟨p,hp,of_decide_eq_true e⟩)
structure DlI (prog:Program)(w:World)(a l J:Addr)(vs:List Value)(done rest:List (Str×Value))(i:Nat)(s:Shared):Prop where
 it:s.heap.IsListIter J l i
 ls:s.heap.IsList l vs.toArray
 len:vs.length=i+rest.length
 pr:∀ j r,rest[j]?=some r->∃ v,vs[i+j]?=some v/\MF s.heap v r
 dd:s.heap.DictOf (bB prog w) a done
 nd:((done++rest).map (·.1)).Nodup
theorem ajw {R:Result->Shared->Prop}{l J:Addr}{vs:List Value}(hh:A.handled=none)(Wx:l≠J)(Lk:a≠J)(hal:a≠l){all:List (Str×Value)}(hz:all.length<=sizeLine)(rest:List (Str×Value)) :
  ∀ {done i s t},DlI prog w a l J vs done rest i s->done++rest=all->(∀ h' tk,(∀ b o,b≠a->b≠J->s.heap.get? b=some o->h'.get? b=some o)->h'.DictOf (bB prog w) a all->R (.ok (.ret .none)) { s with heap:=h',toks:=tk }) ->
   codeAny (model prog w) A (.builtin "dict.update.loop" ⟨[.ref a,.ref J,.int (i:Nat) t,.none],[]⟩) R s:=by
 have W:=rW (prog:=prog) (w:=w) (A:=A.in1) hh J l Wx vs.toArray
 rw[eH] at W
 induction rest with
 | nil =>
  intro done i s t I e hR
  have hin:i=vs.length:=I.len.symm
  subst hin
  refine gJ acS ?_
  rw[fj Te _]
  refine ak (W.done s _ _ ⟨I.it,I.ls⟩ λh' tk k=>?_)
  have k':∀ b o,b≠J->s.heap.get? b=some o->h'.get? b=some o:=λb o hb e=>k b o (λz=>hb (aC.1 z)) e
  refine ak (au (au (hR h' tk (λb o uu hb e=>k' b o hb e) ?_)))
  rw[aY] at e
  rw[<-e]
  exact I.dd.extBut (λb o hb e=>k' b o hb e) Lk
 | cons r rest ih =>
  intro done i s t I e hR
  refine gJ acS ?_
  rw[fj Te _]
  obtain⟨oj,hj,cj,qj⟩:=id I.it
  refine ak (W.item i s _ _ (show i<vs.length from by rw[I.len];exact cQ (eU _)) ⟨I.it,I.ls⟩ λv h' tk hv st k=>?_)
  have k':∀ b o,b≠J->s.heap.get? b=some o->h'.get? b=some o:=λb o hb e=>k b o (λz=>hb (aC.1 z)) e
  have sy:=acU hj (by rw[cj];decide) k'
  obtain⟨v',hv',hp⟩:=I.pr 0 r rfl
  have hv:vs[i]?=some v:=by rw[<-hv];exact List.getElem?_toArray.symm
  rw[qO,hv] at hv'
  cases hv'
  obtain⟨b,o,tk2,n,x⟩:=hp.keep sy
  have nd':r.1∉done.map (·.1):=λz=>by
   have:=I.nd
   rw[aX,vY] at this
   exact this.2.2 _ z _ (.head _) rfl
  refine ak (bW (ak (wpAny_tryCatch (pair_items (s:={ s with heap:=h',toks:=tk }) x (bW (wpAny_dictSet_pairs (knd:=bB prog w) (hsz:=aj (by rw[<-e,aG];exact aF ..) hz) (lZ _ _ _ _) (I.dd.extBut (λb o hb e=>k' b o hb e) Lk) λh2 hd sb=>?_))))))
  rw[ajv _ nd'] at hd
  obtain⟨oa,_,_,ga,ca,_⟩:=I.dd.extBut (h':=h') (λb o hb e=>k' b o hb e) Lk
  have sy2:=λb o e z=>acU (h':=h2) ga (by rw[ca.1];decide) (λb o hb e=>(sb.2 b hb).trans e) b o (sy b o e z) z
  refine au ⟨jm Te _,ih (done:=done++[r]) (i:=i+1) ⟨st.1.at λo e=>(sb.2 J Lk.symm).trans e,st.2.at λo e=>(sb.2 l hal.symm).trans e,by rw[I.len,dF,cA];rfl,λj q hq=>?_,hd,by rw[aP];exact I.nd⟩ (by rw[aP];exact e) λh3 tk3 k3 x3=>hR h3 tk3 (λb o hb1 hb2 e=>k3 b o hb1 hb2 ((sb.2 b hb1).trans (k' b o hb2 e))) x3⟩
  obtain⟨u,h1,h2⟩:=I.pr (j+1) q hq
  exact⟨u,by rw[cA,dW];exact h1,h2.keep sy2⟩
theorem ajx {l:Addr}{vs:Array Value}{k:Nat}{rows:List (Str×Value)}{Q:Value->Shared->Prop}(hh:A.handled=none)(hl:s.heap.get? l=some { cls:=.type "list",dict:=none,data:=.seq vs k,slots:=#[] })(hlen:vs.size=rows.length)
  (hp:∀ (j:Nat) r,rows[j]?=some r->∃ v,vs.toList[j]?=some v/\MF s.heap v r) (nd:(rows.map (·.1)).Nodup) (hz:rows.length<=sizeLine)
  (h:∀ h' tk,(∀ b o,s.heap.get? b=some o->h'.get? b=some o)->h'.DictOf (bB prog w) s.heap.objs.size rows->Q (.ref s.heap.objs.size) { s with heap:=h',toks:=tk }):wpAny (model prog w) A (call (.type "dict") [.ref l]) Q E s:=by
 refine callType_codes (Q₁:=λobj s₁=>obj=.ref s.heap.objs.size/\s₁={ s with heap:=s.heap.push { cls:=.type "dict",data:=.dict #[] } }) F.kt_called_dict (F.kt_typeCall_dict_1 _) F.entry_dict_init (kt_code_dict_new _ ⟨rfl,rfl⟩) λobj s₁ h₁=>?_
 obtain⟨rfl,rfl⟩:=h₁
 have hnew:(s.heap.push { cls:=.type "dict",data:=.dict #[] }).DictOf (bB prog w) s.heap.objs.size []:=Heap.DictOf.new s.heap
 have hl1:(s.heap.push { cls:=.type "dict",data:=.dict #[] }).get? l=some { cls:=.type "list",dict:=none,data:=.seq vs k,slots:=#[] }:=aJ _ hl
 refine⟨hnew.typeIs,F.args_dict_init_2 _ _,?_⟩
 unfold Builtin.«dict.__init__»
 refine ak ?_
 refine ak (wpAny_notOrdered_dict hnew.typeIs ?_)
 refine au ?_
 show wpAny _ _ (Builtin.Dict.updateFrom "dict.__init__" s.heap.objs.size (.ref l) [] .none) _ _ _
 refine ak (pH ⟨_,hl1,rfl⟩ ?_)
 refine ak (aju hl1 hh λh2 tk2 k2=>?_)
 have hl2:=k2 _ _ hl1
 obtain⟨od,ed,pd,gd,rd⟩:=hnew
 have Ym:=k2 _ _ gd
 have kk:∀ b o,s.heap.get? b=some o->(h2.push { cls:=.type "list_iterator",data:=.fields #[.ref l,.int 0 0] }).get? b=some o:=λb o e=>aJ _ (k2 b o (aJ _ e))
 refine ak (gU (ak (rR (items:=vs) ⟨_,hl2,rfl,k,rfl⟩ (au ⟨jm Te _,?_⟩))))
 have I0:DlI prog w s.heap.objs.size l h2.objs.size vs.toList [] rows 0 { s with heap:=h2.push { cls:=.type "list_iterator",data:=.fields #[.ref l,.int 0 0] },toks:=tk2 }:=by
  refine⟨⟨_,aV _ rfl,rfl,rfl⟩,⟨_,aJ _ hl2,rfl,k,rfl⟩,by rw[aq,hlen,d9],λj r hr=>?_,⟨od,ed,pd,aJ _ Ym,rd⟩,nd⟩
  obtain⟨v,h1,h2⟩:=hp j r hr
  exact⟨v,by rw[d9];exact h1,h2.keep λb o e uu=>kk b o e⟩
 refine ajw (A:=A.in1) (t:=0) hh (bQ (bM hl2)) (bQ (bM Ym)) (lB (bM hl:l<s.heap.objs.size)) hz rows I0 rfl λh3 tk3 k3 x3=>⟨rfl,h h3 tk3 (λb o e=>?_) x3⟩
 have hb:=bM e
 exact k3 b o (bQ hb) (bQ (eY hb (bM Ym))) (kk b o e)
end
end
section
open PySem PyProof.Rows PySem.Calls
section
variable {P:Pm}{F:Fm}{G:Gx}{n:Nat}{sc:Scope}{l:Loc}{H:Hp}{s:Shared}{E:Value->Shared->Prop}{Q:QV}{A B:Value}
noncomputable abbrev sV (ks:List Str):List Value:=ks.map λx=>bR x 0
noncomputable abbrev tk (P:Pm):HeapKind P.prog P.w (List Str):=tupleKind (bB P.prog P.w)
theorem Wt {ks:List Str}:∀ {vs:List Value},vs.map er=sV ks->ItemsAre (bB P.prog P.w) ks vs:=by
 induction ks with
 | nil=>intro vs e;rw[bZ.1 e];exact .nil
 | cons k ks ih =>
  intro vs e
  obtain⟨v,vs,rfl,e1,e2⟩:=bH.1 e
  obtain⟨t,rfl⟩:=Ln e1
  exact .cons (lZ _ _ _ _) (ih e2)
theorem Tf (I:Inv P F l H s){a:Addr}{ks:List Str}(h:H a=some (.tup (sV ks))):(tk P).is s.heap ks a:=by
 obtain⟨vs,⟨o,h1,h2,n,h3⟩,e,_⟩:=I.objs h
 exact⟨o,vs,n,h1,h2,h3,Wt e⟩
noncomputable def acV:N9:=λuu H Q=>newV (.Ah []) H Q
noncomputable def acW:N9:=λuu H Q=>newV (.Ai []) H Q
theorem ajy {pos:Pos}:SE P G n sc (.Dict [] [] pos) (.n acV []):=.of rfl λF l H s Q X O I q =>
 tE ⟨_,I.alloc O.K (o:=.Ah []) (t:=s.toks) (G9 (aV _ rfl) λh' e=>⟨[],⟨_,#[],0,e,⟨rfl,rfl,rfl⟩,rfl,λe he=>absurd he (by simp),Pairs.nil,.nil⟩,rfl⟩),q _ I.fresh⟩
theorem ajz {pos:Pos}:SE P G n sc (.Dict [] [] pos) (.n acW []):=.of rfl λF l H s Q X O I q =>
 tE ⟨_,I.alloc O.K (o:=.Ai []) (t:=s.toks) (G9 (aV _ rfl) λh' e=>⟨_,#[],0,[],e,⟨rfl,rfl,rfl⟩,rfl,rfl,.nil,rfl⟩),q _ I.fresh⟩
noncomputable abbrev Fj:=List (List Str×Addr×Value)
noncomputable abbrev Tg (p:List Str×Addr×Value):List Str×Addr×Value:=(p.1,p.2.1,er p.2.2)
abbrev Qi (H:Hp)(kvs:Fj):Prop:=∀ x∈kvs,H x.2.1=some (.tup (sV x.1))
theorem acX (I:Inv P F l H s){p:Addr}{kvs:Fj}(hx:H p=some (.Ai kvs))(hk:Qi H kvs):∃ ks,s.heap.DictOfH (tk P) p ks/\ks.map Tg=kvs:=by
 obtain⟨o,es,ep,ks,h1,h2,h3,h4,h5,rfl⟩:=I.objs hx
 exact⟨ks,⟨o,es,ep,h1,h2,h3,h4,λx hx=>Tf I (hk (Tg x) (u9 hx)),h5⟩,rfl⟩
theorem acY (ks:Fj)(k:List Str):atKey (ks.map Tg) k=(atKey ks k).map λp=>(p.1,er p.2):=by
 unfold atKey
 rw[pF,oF,oF]
 rfl
noncomputable def Ti:Lq:=λo i v H k=>On .Ai o H λp kvs=>∃ a ks,i=.ref a/\H a=some (.tup (sV ks))/\Qi H kvs/\atKey kvs ks=none/\kvs.length<=sizeLine/\k (H.upd p (.Ai (kvs++[(ks,a,v)])))
theorem Rt.room (R:Rt P F):(tk P).room F.A.in1:=aK (aL (show 1<=64 by decide) _) R.u
theorem ajA:Xr Ti:=by
 intro P F l H s E k A B C R I h
 refine h.use ?_;intro p kvs hx h
 obtain⟨a,kk,e,ha,hk,hn,hz,q⟩:=h
 rw[Ih e]
 obtain⟨ks,hd,rfl⟩:=acX I hx hk
 rw[acY] at hn
 refine wpAny_setItem_heap (hsz:=by rw[aA] at hz;exact hz) R.room (Tf I ha) hd λh' hd' sb=>⟨_,I.put R.K (t:=s.toks+(tk P).draws kk) hx (λb hb=>sb.2 b hb) (o':=.Ai (ks.map Tg++[(kk,a,er C)])) ?_,q⟩
 obtain⟨o,es,ep,h1,h2,h3,h4,_,h5⟩:=hd'
 rw[storedH_new (jr.1 hn)] at h4 h5
 exact G9 h1 λh' e=>⟨o,es,ep,_,e,h2,h3,h4,h5,by rw[aX];rfl⟩
theorem Tj:Ht "get" "dict.get" (yc .Ai):=by
 intro P F l H s E V pl Q I h q
 revert q
 refine h.use ?_;intro p xs hx _ q
 obtain⟨o,es,ep,ks,h1,h2,_⟩:=I.objs hx
 exact lK ⟨o,h1,h2.1⟩ m5 kY tU (λb z=>by cases z;exact⟨o,h1,h2.2.1⟩) q
def Yn (vs:List Value)(k:Value->Value->Prop):Prop:=∃ v w,vs=[v,w]/\k v w
theorem acZ {Vs:List Value}{k:Value->Value->Prop}(h:Yn (Vs.map er) k):∃ V W,Vs=[V,W]/\k (er V) (er W):=by
 obtain⟨v,w,e,q⟩:=h
 obtain⟨V,r,rfl,e1,e⟩:=bH.1 e
 obtain⟨W,r,rfl,e2,e⟩:=bH.1 e
 cases bZ.1 e
 exact⟨V,W,rfl,e1▸e2▸q⟩
noncomputable def Je:Value->N9:=λv vs H Q=>On .Ai v H λuu kvs=>Yn vs λw d=>On .tup w H λuu xs=>∃ ks,xs=sV ks/\Qi H kvs/\Q (((atKey kvs ks).map (·.2)).getD d) H
theorem Tn:Ka "dict.get" Je:=by
 intro P F l H s E V Vs Q R I h
 refine h.use ?_;intro p kvs hx h
 obtain⟨W,D,e,h2⟩:=acZ h;subst e
 refine On.use h2 ?_;intro a xs ha h
 obtain⟨kk,rfl,hk,q⟩:=h
 obtain⟨ks,hd,rfl⟩:=acX I hx hk
 rw[acY] at q
 refine vM kY hd.typeIs tK (sS _ _ _) (meetsH_dict_get_default (tk P) p a (not_modules R.Y I hx) D) ⟨R.room,kk,ks,Tf I ha,hd,⟨H,I.toks _,?_⟩⟩
 cases e:atKey ks kk with
 | none=>rw[e] at q;exact q
 | some p=>rw[e] at q;exact q
theorem ac0:Ht "get" "dict.get" (yc .Ah):=by
 intro P F l H s E V pl Q I h q
 revert q
 refine h.use ?_;intro p xs hx _ q
 obtain⟨ks,hl,_⟩:=I.objs hx
 exact lK hl.mapOf.typeIs m5 kY tU hl.mapOf.noDict q
noncomputable def MJ:Value->N9:=λv vs H Q=>On .Ah v H λuu kvs=>Yn vs λw d=>Cp w λk=>Q ((valueAt kvs k).getD d) H
theorem ac1:Ka "dict.get" MJ:=by
 intro P F l H s E V Vs Q R I h
 refine h.use ?_;intro p kvs hx h
 obtain⟨W,D,e,h2⟩:=acZ h;subst e
 refine Cp.use h2 ?_;intro k t q
 obtain⟨ks,hd,rfl⟩:=I.objs hx
 rw[RV] at q
 refine vM kY hd.mapOf.typeIs tK (sS _ _ _) (meets_dict_get_default _ p (lZ _ _ _ _) (not_modules R.Y I hx) D) ⟨_,hd.mapOf,⟨H,I.toks _,?_⟩⟩
 cases e:valueAt ks k with
 | none=>rw[e] at q;exact q
 | some p=>rw[e] at q;exact q
def Qj:U1:=λv H Q=>On .Ah v H λuu kvs=>kvs.length<=sizeLine/\newV (.list (sV (kvs.map (·.1)))) H Q
def Qk:U1:=λv H Q=>On .Ai v H λuu kvs=>kvs.length<=sizeLine/\newV (.list (kvs.map λx=>.ref x.2.1)) H Q
theorem ac2 {α:Type}{xs:List α}{f:α->Value}{acc:Array Value}(hz:acc.size=xs.length)(h:∀ (j:Nat) v,acc[j]?=some v->∃ x,xs[j]?=some x/\er v=f x):acc.toList.map er=xs.map f:=by
 refine v8 λj=>?_
 rw[cD,cD,aW]
 cases e:acc[j]? with
 | some v=>obtain⟨x,h1,h2⟩:=h j v e;rw[h1];exact congrArg some h2
 | none =>
  have:=Array.getElem?_eq_none_iff.1 e
  rw[oM (hz▸this)];rfl
theorem ac4:Bg (JZ "list") Qj:=by
 intro P F l H s E Q A R I h
 refine h.use ?_;intro p kvs hx h
 obtain⟨ks,⟨o,es,ep,hd⟩,rfl⟩:=I.objs hx
 have hz:ks.length<=sizeLine:=by have:=h.1;rw[aA] at this;exact this
 refine uX (uW (ep:=ep) (not_modules R.Y I hx)) R.K.hh ⟨o,es,hd⟩ hz λh' tk acc c hk hD hA=>⟨_,(I.kept R.K hk (t:=tk)).track (I.ofSize R.K) (I.Dd R.K) (Ho (Dc hD (by rw[hA.1];exact Ez hz)) ?_),h.2 _ I.fresh⟩
 show _=xH.list (nC _ (nC _ (nC _ ks)))
 rw[bY,bY]
 refine congrArg _ (ac2 hA.1 λj v e=>?_)
 obtain⟨k,x,h1,h2⟩:=hA.2 j v e
 obtain⟨t,rfl⟩:=Value.isStrOf_shape h2
 exact⟨_,h1,rfl⟩
theorem ac5:Bg (JZ "list") Qk:=by
 intro P F l H s E Q A R I h
 refine h.use ?_;intro p kvs hx h
 obtain⟨o,es,ep,ks,h1,h2,h3,h4,h5,rfl⟩:=I.objs hx
 have hz:es.size=ks.length:=by rw[<-aq,h4,aA]
 have hz2:es.size<=sizeLine:=by have:=h.1;rw[aA,<-hz] at this;exact this
 refine uX (ajs (not_modules R.Y I hx) es ep o) R.K.hh ⟨h1,h2,h3⟩ hz2 λh' tk acc c hk hD hA=>⟨_,(I.kept R.K hk (t:=tk)).track (I.ofSize R.K) (I.Dd R.K) (Ho (Dc hD (by rw[hA.1];exact Ez hz2)) ?_),h.2 _ I.fresh⟩
 rw[bY]
 refine congrArg _ (ac2 (hA.1.trans hz) λj v e=>?_)
 obtain⟨en,g1,g2⟩:=hA.2 j v e
 rw[<-aW,h4,cD] at g1
 obtain⟨x,g3,g4⟩:=bG.1 g1
 exact⟨x,g3,by rw[<-g2,<-g4];rfl⟩
def Yo (H:Hp)(v:Value)(r:Str×Value):Prop:=∃ a,v=.ref a/\H a=some (.tup [.str r.1 0,r.2])
def ac6:U1:=λv H Q=>On .list v H λuu xs=>∃ rows:List (Str×Value),wK (Yo H) xs rows/\(rows.map (·.1)).Nodup/\rows.length<=sizeLine/\newV (.Ah rows) H Q
theorem ajB (I:Inv P F l H s){xs:List Value}{rows:List (Str×Value)}(h:wK (Yo H) xs rows):∀ {vs:List Value},vs.map er=xs->∃ rs:List (Str×Value),rs.map (λp=>(p.1,er p.2))=rows/\vs.length=rs.length/\∀ (j:Nat) r,rs[j]?=some r->∃ v,vs[j]?=some v/\MF s.heap v r:=by
 induction h with
 | nil=>intro vs e;rw[bZ.1 e];exact⟨[],rfl,rfl,λj r h=>(by cases h)⟩
 | @cons x r xs rows h _ ih =>
  intro vs e
  obtain⟨v,vs,rfl,e1,e2⟩:=bH.1 e
  obtain⟨rs,f1,f2,f3⟩:=ih e2
  obtain⟨a,rfl,ha⟩:=h
  obtain⟨ws,⟨o,g1,g2,n,g3⟩,g4,_⟩:=I.objs ha
  obtain⟨u,us,g5,g6,g7⟩:=bH.1 g4
  obtain⟨u2,us2,rfl,g8,g9⟩:=bH.1 g7
  cases bZ.1 g9
  obtain⟨t,rfl⟩:=Ln g6
  obtain⟨wl⟩:=ws
  cases (show wl=[.str r.1 t,u2] from g5)
  refine⟨(r.1,u2)::rs,by rw[bJ,f1,g8],congrArg (·+1) f2,λj q hq=>?_⟩
  cases j with
  | zero=>cases hq;exact⟨v,rfl,a,o,t,n,Ih e1,g1,g2,g3⟩
  | succ j=>exact f3 j q hq
theorem ajC:Bg (JZ "dict") ac6:=by
 intro P F l H s E Q A R I h
 refine h.use ?_;intro p xs hx h
 obtain⟨rows,hr,nd,hz,q⟩:=h
 obtain⟨vs,n,g,e,_⟩:=I.objs hx
 obtain⟨rs,rfl,f2,f3⟩:=ajB I hr e
 rw[aA] at hz
 rw[bY] at nd
 exact ajx R.K.hh g (by rw[<-aq];exact f2) f3 nd hz λh' tk k hd=>⟨_,(I.kept R.K k (t:=tk)).track (I.ofSize R.K) (I.Dd R.K) (ahh hd),q _ I.fresh⟩
def neT:B2:=λa b H Q=>On .tup a H λuu xs=>On .tup b H λuu ys=>∃ ks:List Str,xs=sV ks/\ys=sV ks/\Q (.bool false) H
theorem ajD:yI (compareOp .NotEq) neT:=by
 intro P F l H s E Q A B R I h
 refine h.use ?_;intro p xs hx h;refine h.use ?_;intro r ys hy h
 obtain⟨ks,rfl,rfl,q⟩:=h
 obtain⟨vs,hl,e,_⟩:=I.objs hx
 obtain⟨ws,hl2,e2,_⟩:=I.objs hy
 have he:∀ j (h1:j<vs.size) (h2:j<ws.size),SeqAt.EqAt F.A.in1 s vs[j] ws[j] true:=λj h1 h2=>by
  have a1:=congrArg (·[j]?) e
  have a2:=congrArg (·[j]?) e2
  simp only[cD,aW,bC h1,bC h2,Option.map_some] at a1 a2
  cases hk:ks[j]? with
  | none=>rw[hk] at a1;cases a1
  | some k =>
   rw[hk] at a1 a2
   obtain⟨t,ht⟩:=Ln (jh a1)
   obtain⟨u,hu⟩:=Ln (jh a2)
   rw[ht,hu,show true=(k==k) from(beq_self_eq_true k).symm]
   exact SeqAt.EqAt.str_str k t k u
 refine SeqAt.RcNeAt.tuples (e:=λuu=>true) hl hl2 R.u0 he P.prog P.w E _ ⟨H,I,?_⟩
 rw[show((dw (min vs.size ws.size)).all λuu=>true)=true from fD.2 λuu uu=>rfl,(show vs.size=ws.size from by rw[<-aq,<-aq,<-aA (f:=er),e,<-e2,aA]),beq_self_eq_true]
 exact q
end
def ac7 (a b:Str):Prop:=a.cps.toList<b.cps.toList
def Bl (p q:List Str):Prop:=p.map (λx=>x.cps.toList)<q.map λx=>x.cps.toList
def TupAt (H:Hp)(v:Value)(k:List Str):Prop:=∃ a,v=.ref a/\H a=some (.tup (sV k))
def MK:U1:=λv H Q=>On .list v H λuu xs=>∃ ss:List Str,xs=sV ss/\ss.length<=4000/\∀ ts:List Str,ts.Pairwise ac7->(∀ x,x∈ts↔x∈ss)->newV (.list (sV ts)) H Q
def Tq:U1:=λv H Q=>On .list v H λuu xs=>∃ ks U:List (List Str),wK (TupAt H) xs ks/\(∀ k∈ks,k≠[]/\k∈U)/\U.length<=75/\xs.length<=sizeLine/\∀ ys ts,wK (TupAt H) ys ts->ts.Pairwise Bl->(∀ k,k∈ts↔k∈ks)->newV (.list ys) H Q
def Kw (H:Hp)(v:Value)(k:List Str):Prop:=∃ r l vs,v=.ref r/\H r=some (.tup (.ref l::vs))/\H l=some (.list (sV k))
def Yp:U1:=λv H Q=>On .list v H λuu xs=>∃ T,TabAt T H/\xs.length<=sizeLine/\∃ ks:List (List Str),wK (Kw H) xs ks/\∀ (H':Hp) (ps:List (Value×List Str)),acy T H H'->ps.Perm (xs.zip ks)->(ps.Pairwise λp q=>¬Bl q.2 p.2)->newV (.list (ps.map (·.1))) H' Q
end
section
open PySem PyProof.Rows PySem.Calls
open PySem.W (kla_callFunE kla_codeExpr envX)
section
variable {P:Pm}{F:Fm}{G:Gx}{n:Nat}{sc:Scope}{l:Loc}{H:Hp}{s:Shared}{E:Value->Shared->Prop}
structure Tr (x:Str)(params:Arguments)(scope:Scope)(body:Expr):Prop where
 b:∃ p1 p2 p3 kk,body=.Subscript (.Name x p1) (.Constant (.int 0) kk p2) p3
 co:scope.isCoroutine=false
 gen:scope.isGenerator=false
 k:scope.kind=.function
 l:scope.names=[(x,.local)]
 nx:x≠Hf
 d1:(x==("__debug__" : Str))=false
 d2:(x==("__classdict__" : Str))=false
 bind:∀ nm q pm c ct V,bindArgs (PySem.W.kla_fn nm q params body scope [] pm c ct) ⟨[V],[]⟩=pure [(x,V)]
theorem ac8 {x y:Str}{α:Type}{v w:α}(h:[(x,v)].lookup y=some w):y=x/\v=w:=by
 rw[fW] at h
 by_cases e:y=x
 ·rw[e,beq_self_eq_true] at h;cases h;exact⟨e,rfl⟩
 ·rw[beq_false_of_ne e] at h;cases h
theorem ajE (I:Inv P F l H s){A:Around}{env:Env}{x:Str}{V:Value}{h':Heap}{t:Nat}(hL:env.locals=s.heap.objs.size)(hcl:env.cells=[])(hn:h'.Ns env.locals λy=>[(x,V)].lookup y)(hk:∀ b o,s.heap.get? b=some o->h'.get? b=some o) :
  Inv P (.on (F.gC s.heap) (F.fC s.heap) A env false) (λy=>[(x,er V)].lookup y) H { s with heap:=h',toks:=t }:=by
 have S:=PL I
 refine⟨I.gens,I.os,λb o e=>hk b o (S.keep b o e),λb d e=>(S.yX b d e).elim λo z=>⟨o,hk b o z.1,z.2⟩,⟨_,hn,λy v hy uu=>?_⟩,λy c e=>?_,λa o e=>?_⟩
 ·obtain⟨rfl,rfl⟩:=ac8 hy
  exact⟨V,by rw[fW,beq_self_eq_true],rfl⟩
 ·have e:env.cells.lookup y=some c:=e
  rw[hcl] at e;cases e
 ·have b:=S.ob a o e
  obtain⟨O,hO⟩:=b.mt.some
  refine⟨b.mt.congr ((hk a O hO).trans hO.symm),b.old,λz=>⟨b.g z,b.fr z,λq=>?_,λy c hm=>?_⟩,b.big⟩
  ·exact absurd (bM hO) (by rw[show a=s.heap.objs.size from q.trans hL];exact gj _)
  ·have hm:(y,c)∈env.cells:=hm
   rw[hcl] at hm;exact absurd hm aH
theorem ajF (Y:zY P)(K:xG P F)(I:Inv P F l H s){A:Around}(hA:A.frames=F.A.frames)(hh:A.handled=none)(hd:A.depth<recursionLimit)(hu:A.units+100<cLine){f c c0 T:Addr}{x nm:Str}{params:Arguments}{body:Expr}{scope:Scope}{ct:Value}(D:Tr x params scope body)(ho:s.heap.get? f=some (Gg P nm params body scope c ct))(hc:H c=some .code)(hl:P.lam=some (c0,T,nm))
  {r:Addr} {a:Value} {xs:List Value} (hr:H r=some (.tup (a::xs))) {Q:Value->Shared->Prop} (q:∀ W s',er W=a->Inv P F l H s'->Q W s'):wpAny P.M A (call (.ref f) [.ref r]) Q E s:=by
 refine ru (kla_callFunE hd ho rfl D.co D.gen rfl (code_at I hc hl) ?_)
 rw[D.bind]
 refine au (wpAny_newFunctionEnv (λy hy=>by rw[D.l] at hy;rw[aC.1 hy];exact(λzz=>by cases zz)) (λy hy=>by rw[aC.1 hy,D.l,fW,beq_self_eq_true]) (λh₁ hns hsb=>⟨((Y.lim).keeps (I.Ij K)).fresh _ hsb,?_⟩) D.k)
 show codeAny _ _ (.expr body (envX nm scope s.heap.objs.size f (.ref c) [])) _ _
 have O:=XD K I
 have hkl:∀ y k,(envX nm scope s.heap.objs.size f (.ref c) []).kindOf y=some k->y=x/\NameKind.local=k:=λy k e=>ac8 (D.l▸e:[(x,NameKind.local)].lookup y=some k)
 have K':xG P (.on (F.gC s.heap) (F.fC s.heap) (A.deeper (envX nm scope s.heap.objs.size f (.ref c) [])) (envX nm scope s.heap.objs.size f (.ref c) []) false) :=
  acg (PL I) ⟨O.base,O.size,O.fg,hA▸O.frames,hh⟩ D.k rfl rfl rfl rfl (λuu uu h=>absurd h aH) .nil (λuu uu h=>absurd h aH) λuu uu uu uu e=>absurd (hkl _ _ e).1 (cH D.nx)
 have I':Inv P (.on (F.gC s.heap) (F.fC s.heap) (A.deeper (envX nm scope s.heap.objs.size f (.ref c) [])) (envX nm scope s.heap.objs.size f (.ref c) []) false) (λy=>[(x,.ref r)].lookup y) H { s with heap:=h₁,toks:=s.toks+[(x,jz r)].length }:=ajE (V:=.ref r) I rfl rfl hns (λb o e=>hsb.extBut b o (bQ (bM e)) (aJ _ e):∀ b o,s.heap.get? b=some o->h₁.get? b=some o)
 obtain⟨p1,p2,p3,kk,rfl⟩:=D.b
 refine kla_codeExpr (bT (Subscript_Constant (E:=λuu uu=>False) (abe K' I' (by rw[fW,beq_self_eq_true]) (.inl (by show scope.names.lookup x=_;rw[D.l,fW,beq_self_eq_true])) D.d1 D.d2 λW eW=>ab4 rfl I' λW2 s2 e2 I2=>Dg (A:=W) (B:=W2) (Q:=λv H'=>v=a/\H'=H) (⟨Y,K',aK (aL (show 3+64<=100 by decide) A.units) hu⟩:Rt P (.on (F.gC s.heap) (F.fC s.heap) (A.deeper (envX nm scope s.heap.objs.size f (.ref c) [])) (envX nm scope s.heap.objs.size f (.ref c) []) false)) I2 (by rw[eW,e2];exact⟨r,a::xs,rfl,hr,0,rfl,jL _,a,rfl,rfl,rfl⟩))) (λW s' z=>?_) λuu uu z=>z.elim)
 obtain⟨H',J,h1,rfl⟩:=z
 exact q W s' h1 (Sx K I J.site)
end
end
section
open PySem PyProof.Rows PySem.Calls
open PySem.W (KatLex kat_cons kat_nil kat_yes kat_no kat_go kat_lt kat_one)
namespace wD
@[reducible] noncomputable def MN:KeyOrd where
 α:=List (List Nat)
 blt a b:=decide (a<b)
 irrefl a:=decide_eq_false (pD a)
 trans a b c h1 h2:=decide_eq_true (List.lt_trans (of_decide_eq_true h1) (of_decide_eq_true h2))
 negTrans a b c h:=(Classical.em (a<b)).elim (λq=>.inl (decide_eq_true q)) λq=>.inr (decide_eq_true (List.lt_of_le_of_lt (jG.1 q) (of_decide_eq_true h)))
 total a b h1 h2:=nF (jG.1 (of_decide_eq_false h2)) (jG.1 (of_decide_eq_false h1))
structure Dl (prog:Program)(w:World)(A:Around)(s:Shared)(kd:SortKind)(R:Value->List (List Nat)->Prop):Prop where
 lt:∀ v u k m (E:Value->Shared->Prop) (Q:Bool->Shared->Prop),R v k->R u m->Q (decide (k<m)) s->wpAny (model prog w) A (keyLt' kd v u) Q E s
 fn:∀ v k m,R v k->R v m->k=m
open Classical in
noncomputable def Fo (R:Value->List (List Nat)->Prop)(x:Keyed):List (List Nat):=if h:∃ k,R x.1 k then Classical.choose h else[]
section
variable {prog:Program}{w:World}{A:Around}{E:Value->Shared->Prop}{s:Shared}{kd:SortKind}{R:Value->List (List Nat)->Prop}
theorem Ql (C:Dl prog w A s kd R){x:Keyed}{k:List (List Nat)}(h:R x.1 k):Fo R x=k:=by
 have e:∃ k,R x.1 k:=⟨k,h⟩
 unfold Fo
 rw[dif_pos e]
 exact C.fn _ _ _ (Classical.choose_spec e) h
theorem Tt (C:Dl prog w A s kd R):Ask ⟨prog,w,A,E,s,kd,MN,Fo R,λx=>∃ k,R x.1 k⟩ where
 run x y st hx hy hk Q q:=by
  obtain⟨a,ha⟩:=hx
  obtain⟨b,hb⟩:=hy
  rw[lt'_eq]
  refine wV (En ?_)
  rw[hk]
  refine wV (GQ (mq (C.lt x.1 y.1 a b _ _ ha hb ⟨rfl,?_⟩)))
  have q:Q (some (decide (Fo R x<Fo R y))) st:=q
  rw[Ql C ha,Ql C hb] at q
  exact xg q
def zH (v:Value)(x:Str):Prop:=∃ t,v=.str x t
noncomputable abbrev cps (x:Str):List Nat:=x.cps.toList
theorem ac9 {v:Value}{x y:Str}(h:zH v x)(h':zH v y):x=y:=by
 obtain⟨t,rfl⟩:=h;obtain⟨u,e⟩:=h';cases e;rfl
theorem Yq {x y:Str}(h:cps x=cps y):x=y:=by
 cases x;cases y;congr 1;exact wB.1 h
theorem Tv {a b:List Nat}:decide ([a]<[b])=decide (a<b):=by
 refine decide_eq_decide.2 ⟨λh=>?_,λh=>gG.2 (.inl h)⟩
 exact(gG.1 h).elim id λz=>absurd z.2 (pD [])
theorem Tw:Dl prog w A s oneType' (λv k=>∃ x,zH v x/\k=[cps x]) where
 lt:=λv u k m E Q a b q=>by
  obtain⟨x,⟨t,rfl⟩,rfl⟩:=a
  obtain⟨y,⟨t',rfl⟩,rfl⟩:=b
  rw[Tv] at q
  exact PySem.W.kas_lt_str q
 fn:=λv k m a b=>by
  obtain⟨x,hx,hk⟩:=a
  obtain⟨y,hy,hm⟩:=b
  rw[hk,hm,ac9 hx hy]
theorem ada {a b:List Nat}{l l':List (List Nat)}(h:a≠b):decide (a::l<b::l')=decide (a<b) :=
 decide_eq_decide.2 ⟨λz=>(gG.1 z).elim id λz=>absurd z.1 h,λz=>gG.2 (.inl z)⟩
theorem adb {a:List Nat}{l l':List (List Nat)}:decide (a::l<a::l')=decide (l<l') :=
 decide_eq_decide.2 ⟨λz=>(gG.1 z).elim (λz=>absurd z (pD a)) λz=>z.2,λz=>gG.2 (.inr ⟨rfl,z⟩)⟩
theorem ajG {Q:Bool->Shared->Prop}{fin:Bool}{vs:List Value}{xs:List Str}(h1:wK zH vs xs):∀ {us:List Value} {ys:List Str} {i:Nat},wK zH us ys->fin=decide (vs.length<us.length)->Q (decide (xs.map cps<ys.map cps)) s->KatLex prog w A true fin Q (vs.zip us) i s:=by
 induction h1 with
 | nil =>
  intro us ys i h2 hf q
  refine kat_nil ?_
  cases h2 with
  | nil=>rw[hf];exact q
  | cons _ _=>rw[hf];exact q
 | @cons v x vs xs hv _ ih =>
  intro us ys i h2 hf q
  cases h2 with
  | nil=>rw[hf];exact q
  | @cons u y us ys hu h2 =>
   obtain⟨t,rfl⟩:=hv
   obtain⟨t',rfl⟩:=hu
   refine kat_cons (eqBool_str (kat_go (λe=>?_) λe=>?_))
   ·have e:x=y:=cP e
    subst e
    rw[bJ,bJ,adb] at q
    exact kat_yes (ih h2 (hf.trans (decide_eq_decide.2 Nat.succ_lt_succ_iff)) q)
   ·have e:x≠y:=λz=>by rw[z,beq_self_eq_true] at e;cases e
    rw[bJ,bJ,ada λz=>e (Yq z)] at q
    refine kat_no ?_
    cases i with
    | zero=>exact oneLt_str q
    | succ i=>exact kat_one _ _ (lt_str q)
def IsT (h:Heap)(v:Value)(xs:List Str):Prop:=∃ a o vs n,v=.ref a/\h.get? a=some o/\o.cls=.type "tuple"/\o.data=.seq vs n/\wK zH vs.toList xs
theorem ade {vs:List Value}{xs:List Str}(h:wK zH vs xs):∀ {ys:List Str},wK zH vs ys->xs=ys:=by
 induction h with
 | nil=>intro ys h;cases h;rfl
 | cons h1 _ ih=>intro ys h;cases h with | cons h2 h3=>rw[ac9 h1 h2,ih h3]
theorem Qm {α β:Type}{R:α->β->Prop}{a:List α}{b:List β}(h:wK R a b):a.length=b.length:=by
 induction h with
 | nil=>rfl
 | cons _ _ ih=>exact congrArg (·+1) ih
theorem TF:Dl prog w A s (tuples' true) (λv k=>∃ xs,IsT s.heap v xs/\k=xs.map cps) where
 lt:=λv u k m E Q x y q=>by
  obtain⟨xs,⟨a,o,vs,n,rfl,h1,_,d1,s1⟩,rfl⟩:=x
  obtain⟨ys,⟨b,o',us,n',rfl,h2,_,d2,s2⟩,rfl⟩:=y
  exact kat_lt h1 d1 h2 d2 (ajG s1 s2 (by rw[aq,aq]) q)
 fn:=λv k m x y=>by
  obtain⟨xs,⟨a,o,vs,n,e1,h1,_,d1,s1⟩,hk⟩:=x
  obtain⟨ys,⟨b,o',us,n',e2,h2,_,d2,s2⟩,hm⟩:=y
  rw[e1] at e2;cases e2
  rw[h1] at h2;cases h2
  rw[d1] at d2;cases d2
  rw[hk,hm,ade s1 s2]
theorem Yr {α β:Type}{R:α->β->Prop}{a:List α}{b:List β}(h:wK R a b):∀ {k:Nat} {y:β},b[k]?=some y->∃ x,a[k]?=some x/\R x y:=by
 induction h with
 | nil=>intro k y e;cases e
 | cons h1 _ ih =>
  intro k y e
  cases k with
  | zero=>cases e;exact⟨_,rfl,h1⟩
  | succ k=>exact ih e
inductive Ys (vs:Array Value)(xs:List Str)(i:Nat):Prop where
 | no:vs[i]?=none->xs.drop i=[]->vs.size<=i->Ys vs xs i
 | yes (t:Tok) (x:Str) (r:List Str):vs[i]?=some (.str x t)->xs.drop i=x::r->xs.drop (i+1)=r->i<vs.size->Ys vs xs i
theorem Yt {vs:Array Value}{xs:List Str}(h:wK zH vs.toList xs)(i:Nat):Ys vs xs i:=by
 have hl:=Qm h
 rw[aq] at hl
 by_cases q:i<xs.length
 ·obtain⟨v,hv,t,rfl⟩:=Yr h (cB q)
  rw[aW] at hv
  exact .yes t _ _ hv (dY q) rfl (hl▸q)
 ·exact .no (iw (hl▸gP q)) (lA (gP q)) (hl▸gP q)
def Yu (l b:Addr)(vs us:Array Value)(n m:Nat)(xs ys:List Str)(i:Nat):Prop:=Meets (Builtin.«list.__eq__.loop» ⟨[.ref l,.ref b,rawInt i,rawInt 0],[]⟩)
  (λA R s=>s.heap.get? l=some (Bs vs n)/\s.heap.get? b=some (Bs us m)/\R (.ok (.ret (.bool (decide ((xs.drop i).map cps<(ys.drop i).map cps))))) s)
theorem adf {l b:Addr}{vs us:Array Value}{n m i:Nat}{xs ys:List Str}(h1:wK zH vs.toList xs)(h2:wK zH us.toList ys)(hi:i<=vs.size)(hi2:i<=us.size)(next:i<vs.size->i<us.size->Yu l b vs us n m xs ys (i+1)):Yu l b vs us n m xs ys i:=by
 intro prog w A R s h
 obtain⟨hp,g,d,tk,os⟩:=s;obtain⟨hl,hb,h⟩:=h
 wp_walk using pO hl,pO hb
 rw[cG]
 have sizes:R (.ok (.ret (.bool (decide (vs.size<us.size))))) ⟨hp,g,d,tk,os⟩->wpAny (model prog w) A.in1 (do let x<-q9 (.ref l);let y<-q9 (.ref b);ret (.bool (decide (x.size<y.size)))) (λfin s'=>match fin with | .done f=>R (.ok f) s' | .again c'=>c'.quiet=true/\codeAny (model prog w) A c' R s') (λe s'=>R (.error e) s') ⟨hp,g,d,tk,os⟩:=λq=>ak (jD hl rfl (ak (jD hb rfl (au q))))
 cases Yt h1 i with
 | no a1 a2 a3 =>
  rw[a1]
  refine sizes ?_
  rw[a2] at h
  have e:vs.size=i:=cM a3 hi
  cases Yt h2 i with
  | no b1 b2 b3 =>
   rw[b2] at h
   rw[e,decide_eq_false (iZ.2 b3)];exact h
  | yes t y r b1 b2 b3 b4 =>
   rw[b2] at h
   rw[e,decide_eq_true b4];exact h
 | yes t x r a1 a2 a3 a4 =>
  rw[a1]
  cases Yt h2 i with
  | no b1 b2 b3 =>
   rw[b1]
   refine sizes ?_
   rw[a2,b2] at h
   rw[decide_eq_false (iZ.2 (aj b3 (aQ a4)))];exact h
  | yes t' y r' b1 b2 b3 b4 =>
   rw[b1]
   refine ak (eqBool_str ?_)
   rw[a2,b2,bJ,bJ] at h
   cases e:x==y with
   | true =>
    have e:x=y:=cP e
    subst e
    rw[adb] at h
    wp_walk
    rw[show((i:Int)+1)=((i+1:Nat):Int) from rfl]
    exact⟨jm iT _,gJ ou (by
     rw[fj iT _]
     exact next a4 b4 prog w A R _ ⟨hl,hb,by rw[a3,b3];exact h⟩)⟩
   | false =>
    have e:x≠y:=λz=>by rw[z,beq_self_eq_true] at e;cases e
    rw[ada λz=>e (Yq z)] at h
    refine ak (jD hl rfl (ak (jD hb rfl ?_)))
    rw[a1,b1]
    exact ak (lt_str (au h))
theorem ajH {l b:Addr}{vs us:Array Value}{n m:Nat}{xs ys:List Str}(h1:wK zH vs.toList xs)(h2:wK zH us.toList ys)(k:Nat):∀ i:Nat,vs.size<=i+k->i<=vs.size->i<=us.size->Yu l b vs us n m xs ys i:=by
 induction k with
 | zero=>exact λi hk a1 a2=>adf h1 h2 a1 a2 λz=>absurd z (iZ.2 hk)
 | succ k ih=>exact λi hk a1 a2=>adf h1 h2 a1 a2 λz z2=>ih (i+1) (by rw[Nat.succ_add];exact hk) z z2
theorem ajI {l b:Addr}{vs us:Array Value}{n m:Nat}{xs ys:List Str}(h1:wK zH vs.toList xs)(h2:wK zH us.toList ys):Meets (Builtin.«list.__lt__» ⟨[.ref l,.ref b],[]⟩)
  (λA R s=>s.heap.get? l=some (Bs vs n)/\s.heap.get? b=some (Bs us m)/\R (.ok (.ret (.bool (decide (xs.map cps<ys.map cps))))) s):=by
 intro prog w A R s h
 obtain⟨hp,g,d,tk,os⟩:=s;obtain⟨hl,hb,h⟩:=h
 have f3:=AutoSeq1.sub_list_list
 wp_walk using pO hl,pO hb
 exact⟨jm iT _,gJ ou (by
  rw[fj iT _]
  exact ajH h1 h2 vs.size 0 (by rw[d9];exact aD _) (bL _) (bL _) prog w A R _ ⟨hl,hb,h⟩)⟩
def IsL (h:Heap)(v:Value)(xs:List Str):Prop:=∃ a vs n,v=.ref a/\h.get? a=some (Bs vs n)/\wK zH vs.toList xs
theorem adg (hu:A.units<cLine):Dl prog w A s oneType' (λv k=>∃ xs,IsL s.heap v xs/\k=xs.map cps) where
 lt:=λv u k m E Q x y q=>by
  obtain⟨xs,⟨a,vs,n,rfl,h1,s1⟩,rfl⟩:=x
  obtain⟨ys,⟨b,us,n',rfl,h2,s2⟩,rfl⟩:=y
  rw[keyLt'_oneType,oneLt'_eq]
  refine ak (wpAny_cRoomFor hu (ak (wpAny_callSpecialIfBound?_slot ⟨_,h1,rfl⟩ ug (call_meets ug ⟨_,h1,rfl⟩ PySem.F.entry_list_lt (PySem.F.args_list_lt_2 _ _) (ajI s1 s2) ⟨h1,h2,?_⟩))))
  exact jM q
 fn:=λv k m x y=>by
  obtain⟨xs,⟨a,vs,n,e1,h1,s1⟩,hk⟩:=x
  obtain⟨ys,⟨b,us,n',e2,h2,s2⟩,hm⟩:=y
  rw[e1] at e2;cases e2
  rw[h1] at h2;cases h2
  rw[hk,hm,ade s1 s2]
end
end wD
end
section
open PySem PyProof.Rows PySem.Calls
open wD (Es runs Wk Wm MN Dl Fo Ql Tt zH IsL cps adg)
section
variable {P:Pm}{F:Fm}{G:Gx}{n:Nat}{sc:Scope}{l:Loc}{H:Hp}{s:Shared}{E:Value->Shared->Prop}{A:Around}
theorem Inv.less (I:Inv P F l H s){H':Hp}(h:∀ a o,H' a=some o->H a=some o):Inv P F l H' s:=⟨I.gens,I.os,I.keep,I.yX,I.loc,I.z9,λa o e=>I.ob a o (h a o e)⟩
theorem ajJ (K:xG P F)(I:Inv P F l H s){D kS:Addr}(oD:Off F H D)(oK:Off F H kS)(ne:kS≠D)(bD:P.base.objs.size<=D){e1 m:Nat}{keys:Array Value}(hD:s.heap.get? D=some (seqObj "list" #[] e1))(hK:s.heap.get? kS=some (seqObj "list" keys m))(hz:keys.size<=sizeLine){st:SortSt}(ha:(arrOf st).size<=sizeLine)(hf:failedOf st=none)
  {Z:j8->Shared->Prop} (q:∀ s',Inv P F l (H.upd D (.list ((arrOf st).toList.map λx=>er x.2))) s'->Z (.done (.ret .none)) s'):wpAny P.M A (uD D false e1 (.ref kS) st) Z E s:=by
 have hD1:(s.heap.update kS (cT λuu=>(#[]:Array Value))).get? D=some (seqObj "list" #[] e1):=(bF _ _ ne).trans hD
 unfold uD
 generalize ho:Array.map (λx:Keyed=>x.2) (arrOf st)=out
 have hoz:out.size<=sizeLine:=by rw[<-ho,sH];exact ha
 refine ak (mC hK rfl ?_ hz (bL _))
 refine ak (wpAny_letGo ?_)
 refine ak (tQ hD1 rfl ?_)
 refine ak (mC hD1 rfl ?_ (bL _) (dR hoz))
 rw[hf]
 simp only[bne_self_eq_false,qw,if_false]
 obtain⟨c2,hc2⟩:∃ c2,((s.heap.update kS (cT λuu=>(#[]:Array Value))).update D (cT λuu=>out)).get? D=some (seqObj "list" out c2):=⟨_,pQ hD1 λuu=>out⟩
 have J2:=(((I.turn (t:=s.toks) (h':=s.heap.update kS (cT λuu=>(#[]:Array Value))) K oK λb o hb e=>(bF _ _ (cH hb)).trans e)).turn (t:=s.toks) (h':=(s.heap.update kS (cT λuu=>(#[]:Array Value))).update D (cT λuu=>out)) K oD λb o hb e=>(bF _ _ (cH hb)).trans e).track oD bD (Dc hc2 (Ez hoz))
 rw[<-ho,qX,bY] at J2
 rw[<-ho]
 exact au (q _ J2)
structure KyR (R:Value->List (List Nat)->Prop)(keys items:Array Value)(xs:List Value)(ks:List (List Str)):Prop where
 k:wK (λv k=>R v (k.map cps)) keys.toList ks
 i:items.toList.map er=xs
 z:keys.size=items.size
theorem adh {α β:Type}{g:α->β}{ps M:List β}(h:ps.Perm M):∀ {L:List α},M=L.map g->∃ qs:List α,ps=qs.map g/\qs.Perm L:=by
 induction h with
 | nil=>intro L e;cases bZ.1 e.symm;exact⟨[],rfl,.nil⟩
 | cons x _ ih =>
  intro L e
  obtain⟨y,L,rfl,rfl,e2⟩:=bH.1 e.symm
  obtain⟨qs,rfl,hq⟩:=ih e2.symm
  exact⟨y::qs,rfl,hq.cons y⟩
 | swap x y l =>
  intro L e
  obtain⟨u,L,rfl,rfl,e2⟩:=bH.1 e.symm
  obtain⟨v,L,rfl,rfl,e3⟩:=bH.1 e2
  exact⟨v::u::L,by rw[bJ,bJ,e3],.swap ..⟩
 | trans _ _ ih1 ih2 =>
  intro L e
  obtain⟨qs,h1,h2⟩:=ih2 e
  obtain⟨rs,h3,h4⟩:=ih1 h1
  exact⟨rs,h3,h4.trans h2⟩
theorem ajK {α β:Type}{as:List α}:∀ {bs:List β},as.length<=bs.length->(as.zip bs).map (·.1)=as:=by
 induction as with
 | nil=>intro bs _;rfl
 | cons a as ih =>
  intro bs h
  cases bs with
  | nil=>exact absurd h (Nat.not_succ_le_zero _)
  | cons b bs=>exact congrArg _ (ih (uK h))
theorem ajL {α β:Type}{R:α->β->Prop}{as:List α}{bs:List β}(h:wK R as bs):∀ {cs:List Value},∀ q∈(as.zip cs).zip bs,R q.1.1 q.2:=by
 induction h with
 | nil=>intro cs q hq;exact absurd hq aH
 | cons h1 _ ih =>
  intro cs q hq
  cases cs with
  | nil=>exact absurd hq aH
  | cons c cs =>
   rcases aM.1 hq with e | hq
   ·rw[e];exact h1
   ·exact ih q hq
theorem ajM {as:List Value}:∀ {cs:List Value} {bs:List (List Str)},as.length=cs.length->((as.zip cs).zip bs).map (λq=>(er q.1.2,q.2))=(cs.map er).zip bs:=by
 induction as with
 | nil=>intro cs bs h;rw[dN.1 h.symm];rfl
 | cons a as ih =>
  intro cs bs h
  cases cs with
  | nil=>cases h
  | cons c cs =>
   cases bs with
   | nil=>rfl
   | cons b bs=>exact congrArg _ (ih (sU h))
theorem adi {prog:Program}{w:World}{kd:SortKind}{R:Value->List (List Nat)->Prop}{keys items:Array Value}{xs:List Value}{ks:List (List Str)}(Kr:KyR R keys items xs ks)(C:Dl prog w A s kd R){arr:Array Keyed}(hp:arr.Perm (keys.zip items))(hs:Es MN (Fo R) arr) :
  ∃ ps:List (Value×List Str),ps.Perm (xs.zip ks)/\(ps.Pairwise λp q=>¬Bl q.2 p.2)/\arr.toList.map (λx=>er x.2)=ps.map (·.1):=by
 have lk:keys.toList.length=ks.length:=by
  have:=Kr.k
  exact wD.Qm this
 have li:keys.toList.length=items.toList.length:=by rw[aq,aq];exact Kr.z
 obtain⟨qs,h1,h2⟩:=adh (g:=λq:Keyed×List Str=>q.1) (Array.perm_iff_toList_perm.mp hp) (L:=(keys.toList.zip items.toList).zip ks) (by rw[(wu:(keys.zip items).toList=keys.toList.zip items.toList)];exact(ajK (show(keys.toList.zip items.toList).length<=ks.length from by rw[List.length_zip,<-li,Nat.min_self,lk];exact aD _)).symm)
 have hR:∀ q∈qs,R q.1.1 (q.2.map cps):=λq hq=>ajL Kr.k q (h2.mem_iff.1 hq)
 refine⟨qs.map λq=>(er q.1.2,q.2),?_,dh.2 ?_,by rw[h1,bY,bY];rfl⟩
 ·rw[<-Kr.i,<-ajM li];exact h2.map _
 ·unfold Es at hs
  rw[h1] at hs
  refine(dh.1 hs).imp_of_mem λ{a b} ma mb q=>?_
  have q:decide (Fo _ b.1<Fo _ a.1)=false:=q
  rw[(Ql C (x:=a.1) (hR a ma)),(Ql C (x:=b.1) (hR b mb))] at q
  exact(of_decide_eq_false q:¬(b.2.map cps<a.2.map cps))
theorem ajN {h:Heap}{v:Value}{xs:List Str}{M:Model}(e:IsL h v xs):jQ M h (typeOf v) (.type "list"):=by
 obtain⟨a,vs,n,rfl,h1,_⟩:=e
 exact(PySem.W.Looks.ld h1).andThen .now
theorem TJ {α β:Type}{R:α->β->Prop}{as:List α}{bs:List β}(h:wK R as bs){a:α}(ha:a∈as):∃ b,R a b:=by
 induction h with
 | nil=>cases ha
 | cons h1 _ ih =>
  rcases aM.1 ha with rfl | ha
  ·exact⟨_,h1⟩
  ·exact ih ha
theorem ajO (K:xG P F)(I:Inv P F l H s){D kS:Addr}(oD:Off F H D)(oK:Off F H kS)(ne:kS≠D)(bD:P.base.objs.size<=D){e1 m:Nat}{keys items:Array Value}{xs:List Value}{ks:List (List Str)}(hD:s.heap.get? D=some (seqObj "list" #[] e1))(hK:s.heap.get? kS=some (seqObj "list" keys m))(Kr:KyR (λv k=>∃ xs,IsL s.heap v xs/\k=xs.map cps) keys items xs ks)(hz:keys.size<=sizeLine)(hu:A.units<cLine)
  {Z:j8->Shared->Prop} (q:∀ (ps:List (Value×List Str)) s',ps.Perm (xs.zip ks)->(ps.Pairwise λp q=>¬Bl q.2 p.2)->Inv P F l (H.upd D (.list (ps.map (·.1)))) s'->Z (.done (.ret .none)) s'):wpAny P.M A (ksk_end D false items e1 (.ref kS) keys) Z E s:=by
 have C:=adg (prog:=P.prog) (w:=P.w) (s:=s) hu
 have zz:(keys.zip items).size=items.size:=by rw[Array.size_zip,Kr.z,Nat.min_self]
 have hok:∀ x∈(keys.zip items).toList,∃ k,(∃ xs,IsL s.heap x.1 xs/\k=xs.map cps):=λx hx=>by
  rw[wu] at hx
  obtain⟨ys,hy⟩:=TJ Kr.k (List.of_mem_zip (a:=x.1) (b:=x.2) hx).1
  exact⟨_,hy⟩
 have fin:∀ st,(arrOf st).Perm (keys.zip items)->failedOf st=none->Es MN (Fo λv k=>∃ xs,IsL s.heap v xs/\k=xs.map cps) (arrOf st)->wpAny P.M A (uD D false e1 (.ref kS) st) Z E s:=λst hp hf hs=>by
  obtain⟨ps,p1,p2,p3⟩:=adi Kr C hp hs
  refine ajJ K I oD oK ne bD hD hK hz (by rw[hp.size_eq,zz,<-Kr.z];exact hz) hf λs' J=>q ps s' p1 p2 ?_
  rw[<-p3];exact J
 have rest:∀ kind,(2<=items.size->kind=oneType')->wpAny P.M A (runs items.size kind (keys.zip items)>>=λx=>uD D false e1 (.ref kS) x.2) Z E s:=λkind hk=>ak (Wk zz hk (Tt C) hok fin)
 refine Wm (λh2=>rest _ λh3=>absurd h2 (iZ.2 h3)) λh2=>ak ?_
 have h2:2<=keys.toList.length:=by rw[aq,Kr.z];exact gP h2
 have:=uY (M:=P.M) (A:=A) (E:=E) (s:=s) (T:=.type "list") (Q:=λkind s'=>wpAny P.M A (runs items.size kind (keys.zip items)>>=λx=>uD D false e1 (.ref kS) x.2) Z E s') h2 (λv hv=>(TJ Kr.k hv).elim λuu h=>h.elim λuu h=>ajN h.1) (by decide) (by decide) (rest _ λuu=>rfl)
 rw[lO] at this
 exact this
end
end
section
open PySem PyProof.Rows PySem.Calls
open wD (zH IsL Yr)
section
variable {P:Pm}{F:Fm}{G:Gx}{n:Nat}{sc:Scope}{l:Loc}{H:Hp}{s:Shared}{E:Value->Shared->Prop}{A:Around}
theorem Hp.ajP {H:Hp}{a:Addr}{o o':xH}:(H.upd a o).upd a o'=H.upd a o':=by
 funext b
 by_cases e:b=a
 ·rw[e,Hp.wQ,Hp.wQ]
 ·rw[Hp.xJ _ _ e,Hp.xJ _ _ e,Hp.xJ _ _ e]
theorem Yv {xs:List Str}:∀ {vs:List Value},vs.map er=sV xs->wK zH vs xs:=by
 induction xs with
 | nil=>intro vs e;rw[bZ.1 e];exact .nil
 | cons x xs ih =>
  intro vs e
  obtain⟨v,vs,rfl,e1,e2⟩:=bH.1 e
  exact .cons (Ln e1) (ih e2)
def LstAt (H:Hp)(v:Value)(k:List Str):Prop:=∃ a,v=.ref a/\H a=some (.list (sV k))
theorem ajQ (I:Inv P F l H s){kv:List Value}{ks:List (List Str)}(h:wK (LstAt H) kv ks):∀ {vs:List Value},vs.map er=kv->wK (IsL s.heap) vs ks:=by
 induction h with
 | nil=>intro vs e;rw[bZ.1 e];exact .nil
 | cons h1 _ ih =>
  intro vs e
  obtain⟨v,vs,rfl,e1,e2⟩:=bH.1 e
  obtain⟨a,rfl,ha⟩:=h1
  obtain⟨us,n,hu,eu,_⟩:=I.objs ha
  exact .cons ⟨a,us,n,Ih e1,hu,Yv eu⟩ (ih e2)
structure Yw (P:Pm)(F:Fm)(H:Hp)(h:Heap)(f c c0 T:Addr)(nm x:Str)(params:Arguments)(body:Expr)(scope:Scope)(ct:Value):Prop where
 D:Tr x params scope body
 at_:h.get? f=some (Gg P nm params body scope c ct)
 off:Off F H f
 c:H c=some .code
 l:P.lam=some (c0,T,nm)
structure Yx (F:Fm)(A:Around):Prop where
 f:A.frames=F.A.frames
 h:A.handled=none
 d:A.depth<recursionLimit
 u:A.units+100<cLine
structure Yy (P:Pm)(F2:Fm)(l:Loc)(H:Hp)(kS:Addr)(ks:List (List Str))(kv:List Value)(i:Nat)(s:Shared):Prop where
 I:Inv P F2 l (H.upd kS (.list kv)) s
 k:wK (LstAt H) kv (ks.take i)
theorem Yz {α β:Type}{R S:α->β->Prop}(f:∀ a b,R a b->S a b){as:List α}{bs:List β}(h:wK R as bs):wK S as bs:=by
 induction h with
 | nil=>exact .nil
 | cons h1 _ ih=>exact .cons (f _ _ h1) ih
theorem ajR {α:Type}{ks:List α}{i:Nat}{k:α}(h:ks[i]?=some k):ks.take (i+1)=ks.take i++[k]:=by rw[vX,h];rfl
theorem ajS {α β:Type}{R:α->β->Prop}{as:List α}{bs:List β}(h:wK R as bs){a:α}{b:β}(hab:R a b):wK R (as++[a]) (bs++[b]):=by
 induction h with
 | nil=>exact .cons hab .nil
 | cons h1 _ ih=>exact .cons h1 ih
theorem ajT {F2:Fm}(Y:zY P)(K2:xG P F2){kS f c c0 T:Addr}{nm x:Str}{params:Arguments}{body:Expr}{scope:Scope}{ct:Value}(hk0:H kS=none)(LX:Tr x params scope body)(hl:P.lam=some (c0,T,nm))(hc:H c=some .code)(hg:F2.g f=some (Gg P nm params body scope c ct))(hA:A.frames=F2.A.frames)(hh:A.handled=none)(hd:A.depth<recursionLimit)(hu:A.units+100<cLine){ks:List (List Str)}{kv:List Value}{i:Nat}(J:Yy P F2 l H kS ks kv i s)(hz:i<=sizeLine)(hlen:i<=ks.length)
  {v:Value} {k:List Str} (hv:Kw H (er v) k) (hki:ks[i]?=some k) {body':Value->Sem (ForInStep PUnit)} {Q:ForInStep PUnit->Shared->Prop} (q:∀ kv' s',Yy P F2 l H kS ks kv' (i+1) s'->Q (.yield ⟨⟩) s') :
  wpAny P.M A (do match<-(call (.ref f) [v]).attempt with | .ok k=>Builtin.List.listUpdate (.ref kS) (·.push k);pure (.yield ⟨⟩) | .error e=>body' e) Q E s:=by
 obtain⟨r,lp,vs,e,hr,hlp⟩:=hv
 cases Ih e
 have up:∀ {a o},H a=some o->(H.upd kS (.list kv)) a=some o:=λ{a o} h=>(Hp.xJ _ _ λz:a=kS=>xr h (z▸hk0)).trans h
 refine ak (mq (ajF Y K2 J.I hA hh hd hu LX (J.I.keep f _ hg) (up hc) hl (up hr) λW s' eW I'=>?_))
 obtain⟨us,m,hu',eu,_⟩:=I'.objs (Hp.wQ H kS (.list kv))
 have kl:kv.length=i:=by rw[wD.Qm J.k,jj];exact dG hlen
 have uz:us.size=i:=by rw[<-kl,<-eu,aA,aq]
 obtain⟨c2,hc2⟩:∃ c2,(s'.heap.update kS (cT (·.push W))).get? kS=some (seqObj "list" (us.push W) c2):=⟨_,pQ (show s'.heap.get? kS=some (seqObj "list" us m) from hu') (·.push W)⟩
 refine ak (mC (xs:=us) hu' rfl ?_ (uz▸hz) (aj (bI (nR ..)) (aU (uz▸hz))))
 refine au (q (kv++[.ref lp]) _ ⟨?_,?_⟩)
 ·have:=I'.put K2 (t:=s'.toks) (h':=s'.heap.update kS (cT (·.push W))) (Hp.wQ H kS (.list kv)) (λb hb=>bF _ _ (cH hb)) (Dc hc2 (by rw[nR,uz];exact aj (aU hz) (by decide)))
  rw[Hp.ajP,dO,aX,eu,List.map_singleton,eW] at this
  exact this
 ·rw[ajR hki]
  exact ajS J.k ⟨lp,rfl,hlp⟩
theorem ajU (Y:zY P)(K:xG P F)(I:Inv P F l H s){D kS f c c0 T:Addr}{nm x:Str}{params:Arguments}{body:Expr}{scope:Scope}{ct:Value}(oD:Off F H D)(oK:Off F H kS)(ne:kS≠D)(nf:f≠D)(nk:f≠kS)(bD:P.base.objs.size<=D)(bK:P.base.objs.size<=kS)(L:Yw P F H s.heap f c c0 T nm x params body scope ct)(R:Yx F A){e1:Nat}{items:Array Value}{xs:List Value}{ks:List (List Str)}(hD:s.heap.get? D=some (seqObj "list" #[] e1))(hK:s.heap.get? kS=some (seqObj "list" #[] 0))(hi:items.toList.map er=xs)(hk:wK (Kw H) xs ks)(hz:items.size<=sizeLine)
  {Z:j8->Shared->Prop} (q:∀ (ps:List (Value×List Str)) s',ps.Perm (xs.zip ks)->(ps.Pairwise λp q=>¬Bl q.2 p.2)->Inv P F l (H.upd D (.list (ps.map (·.1)))) s'->Z (.done (.ret .none)) s'):wpAny P.M A (ksk_rest D (.ref f) false items e1 (.ref kS)) Z E s:=by
 have K1:=K.also (o:=Gg P nm params body scope c ct) L.off
 have YB:Off (F.also f (Gg P nm params body scope c ct)) H D:=⟨oD.h,oD.f.also (cH nf)⟩
 have ll:items.toList.length=ks.length:=by rw[<-wD.Qm hk,<-hi,aA]
 refine ak (gU ?_)
 rw[<-qp]
 refine ak (ksk_fold (λi s'=>∃ kv,Yy P ((F.also f (Gg P nm params body scope c ct)).also D (seqObj "list" #[] e1)) l H kS ks kv i s') items.toList 0 s ⟨[],(((I.also L.off L.at_).also YB hD).track (⟨oK.h,(oK.f.also (cH nk)).also ne⟩:Off ((F.also f (Gg P nm params body scope c ct)).also D (seqObj "list" #[] e1)) H kS) bK (Dc hK (bL _))),.nil⟩ (λi v s' hv hJ=>?_) λs' hJ=>?_)
 ·obtain⟨kv,J⟩:=hJ
  rw[d9] at J
  have il:=(fH.1 hv).1
  have hx:xs[i]?=some (er v):=by rw[<-hi,cD,hv];rfl
  have hki:ks[i]?=some (ks[i]'(ll▸il)):=cB _
  obtain⟨v',h1,h2⟩:=Yr hk hki
  rw[hx] at h1;cases h1
  refine ajT Y (K1.also (o:=seqObj "list" #[] e1) YB) oK.h L.D L.l L.c ((Hv nf).trans (if_pos rfl):((F.also f (Gg P nm params body scope c ct)).also D (seqObj "list" #[] e1)).g f=some (Gg P nm params body scope c ct)) R.f R.h R.d R.u J (aj (aQ il) (by rw[aq];exact hz)) (aQ (ll▸il)) h2 hki λkv' s'' J'=>⟨rfl,kv',by rw[d9];exact J'⟩
 ·refine Dr λgg kk=>?_
  rcases hJ with⟨kv,J⟩;refine kk ?_;clear kk gg
  have Jk:=J.k
  rw[kZ (by rw[d9,ll];exact aD _)] at Jk
  obtain⟨us,m,hu',eu,_⟩:=J.I.objs (Hp.wQ H kS (.list kv))
  have uz:us.size=items.size:=by rw[<-aq,<-aA (f:=er),eu,wD.Qm Jk,<-ll,aq]
  obtain⟨J1,hD1,_⟩:=J.I.back K1 YB
  have J2:=(J1.back K L.off).1.less (H':=H) λa o h=>(Hp.xJ _ _ λz:a=kS=>xr h (z▸oK.h)).trans h
  refine ak (jD hu' rfl ?_)
  exact ajO K J2 oD oK ne bD hD1 hu' ⟨Yz (λuu uu h=>⟨_,h,rfl⟩) (ajQ J2 Jk eu),hi,uz⟩ (uz▸hz) (aK (aF _ _) R.u) q
theorem ajV (Y:zY P)(K:xG P F)(I:Inv P F l H s){D f c c0 T:Addr}{nm x:Str}{params:Arguments}{body:Expr}{scope:Scope}{ct:Value}(oD:Off F H D)(nf:f≠D)(bD:P.base.objs.size<=D)(L:Yw P F H s.heap f c c0 T nm x params body scope ct)(R:Yx F A){items:Array Value}{xs:List Value}{ks:List (List Str)}(hD:s.heap.get? D=some (seqObj "list" items 0))(hi:items.toList.map er=xs)(hk:wK (Kw H) xs ks)(hz:items.size<=sizeLine)
  {Z:j8->Shared->Prop} (q:∀ (ps:List (Value×List Str)) s',ps.Perm (xs.zip ks)->(ps.Pairwise λp q=>¬Bl q.2 p.2)->Inv P F l (H.upd D (.list (ps.map (·.1)))) s'->Z (.done (.ret .none)) s'):wpAny P.M A (ksk_tree D (.ref f) false) Z E s:=by
 obtain⟨e1,hD1⟩:∃ e1,(s.heap.update D (cT λuu=>(#[]:Array Value))).get? D=some (seqObj "list" #[] e1):=⟨_,pQ hD λuu=>#[]⟩
 refine ak (jD hD rfl (ak (mC hD rfl ?_ hz (bL _))))
 refine ak (tQ hD1 rfl (ak (nq ?_ (by rw[aq];exact hz))))
 refine ak (nW (bW ?_) (bL _))
 rw[lO]
 have J:=I.turn (t:=s.toks) (h':=s.heap.update D (cT λuu=>(#[]:Array Value))) K oD λb o hb e=>(bF _ _ (cH hb)).trans e
 have L1:=(bF _ _ (cH nf):(s.heap.update D (cT λuu=>(#[]:Array Value))).get? f=_).trans L.at_
 generalize s.heap.update D (cT λuu=>(#[]:Array Value))=h1 at hD1 J L1 ⊢
 have J2:=J.push K (seqObj "tuple" items 0)
 have hd2:=aJ (seqObj "tuple" items 0) hD1
 have hf2:=aJ (seqObj "tuple" items 0) L1
 exact ajU Y K (J2.push K (seqObj "list" #[] 0)) oD (J2.ofSize K) (cH (bQ (bM hd2))) nf (bQ (bM hf2)) bD (J2.Dd K) ⟨L.D,aJ _ hf2,L.off,L.c,L.l⟩ R (aJ _ hd2) (aV _ rfl) hi hk hz q
end
end
section
open PySem PyProof.Rows PySem.Calls
section
variable {P:Pm}{F:Fm}{G:Gx}{n:Nat}{sc:Scope}{l:Loc}{H:Hp}{s:Shared}{E:Value->Shared->Prop}
theorem ajW (O:Ok P G n sc F):Yx F F.A.in1.in1:=⟨rfl,O.K.hh,aK (aF F.A.depth (2*n+2)) O.R.1,aK (show F.A.units+(1+1+100)<=F.A.units+30*n+200 from aj (aL (by decide) _) (bw (aF _ _) 200)) O.R.2⟩
theorem ajX (O:Ok P G n sc F)(I:Inv P F l H s){a f c c0 T:Addr}{nm x:Str}{params:Arguments}{body:Expr}{scope:Scope}{ct:Value}{xs:List Value}{ks:List (List Str)}(hx:H a=some (.list xs))(L:Yw P F H s.heap f c c0 T nm x params body scope ct)(hk:wK (Kw H) xs ks)(hz:xs.length<=sizeLine){Q:QV}
  (q:∀ ps:List (Value×List Str),ps.Perm (xs.zip ks)->(ps.Pairwise λp q=>¬Bl q.2 p.2)->newV (.list (ps.map (·.1))) H Q):wpAny P.M F.A (call (.builtin "sorted") [.ref a] [(eO "key",.ref f)]) (Ae P F l Q) E s:=by
 obtain⟨⟨vs⟩,m,hl,ev,_⟩:=I.objs hx
 have vz:vs.length<=sizeLine:=by rw[<-aA (f:=er),show vs.map er=xs from ev];exact hz
 refine call_function_entry_kw kind_sorted plain_sorted entry_sorted (ksk_s1 _ _) ?_
 refine ak (m:=checkCount "sorted" 1 1 _) (au ?_)
 refine ak (collect_list (Ec hl) ?_ vz)
 refine ak (nW ?_ vz)
 have J:=(I.push O.K (seqObj "list" #[] 0)).turn (t:=s.toks) (h':=(s.heap.push (seqObj "list" #[] 0)).update s.heap.objs.size (cT (·++vs.toArray))) O.K (I.ofSize O.K) λb o hb e=>(bF _ _ (cH hb)).trans e
 have hf:((s.heap.push (seqObj "list" #[] 0)).update s.heap.objs.size (cT (·++vs.toArray))).get? f=_:=(bF _ _ (cH (bQ (bM L.at_)))).trans (aJ _ L.at_)
 generalize (s.heap.push (seqObj "list" #[] 0)).update s.heap.objs.size (cT (·++vs.toArray))=h1 at J hf ⊢
 have oD:=J.ofSize O.K
 have hD:(h1.push (seqObj "list" vs.toArray 0)).get? h1.objs.size=some (seqObj "list" vs.toArray 0):=aV _ rfl
 refine ak (bW (wpAny_call_entry_kw ux ⟨_,hD,rfl⟩ uf ?_ (ksk_l1 _ _)))
 rw[ksk_t1]
 exact ajV O.Y O.K (J.push O.K (seqObj "list" vs.toArray 0)) oD (bQ (bM hf)) (J.Dd O.K) ⟨L.D,aJ _ hf,L.off,L.c,L.l⟩ (ajW O) hD ev hk vz λps s' p1 p2 J3=>⟨_,rfl,au ⟨_,rfl,_,J3,q ps p1 p2 _ oD.h⟩⟩
theorem ajY {e:Expr}{e':Ex}{p pos kp lp:Pos}{x:Str}{params:Arguments}{body:Expr}{scope:Scope}(hl:zK sc "sorted" = some false)(hk:sc.names.lookup Hf=some .local)(D:Tr x params scope body)(hd:∀ env,defaultsOf params env=([],[]))(hcl:∀ env,closureFor scope env=pure [])(he:SE P G n sc e e') :
  SE P G n sc (.Call (.Name "sorted" p) [e] [⟨some "key",.Lambda params body scope lp,kp⟩] pos) (.u Yp e'):=by
 refine .of rfl ?_
 intro F l H s Q X O I q
 refine wpAny_Call_Name_kw (Gb O I (x := "sorted") (v:=.builtin "sorted") rfl hl rfl ?_)
 refine callWith_kw ?_ (by rw[(Aj he.1).1];rfl) (by rw[(Aj he.1).1];rfl)
 rw[(Aj he.1).1]
 refine fZ (he.go O I q λV s1 H1 I1 q=>jC ?_)
 refine On.use q ?_;intro a xs hx q
 obtain⟨T,hT,hz,ks,hks,q⟩:=q
 refine kws_cons (ai4 O.Y O.K I1 hT (O.S.Pn _ hk) (hd _) (hcl _) λf c c0 ct nm s2 H2 lam hc hlm hf of I2=>kws_nil ?_)
 have nT:∀ {b o},H1 b=some o->(∀ ks,o≠.tab ks)->H2 b=some o:=λ{b o} h hn=>lam.2 b o (λz=>by
  obtain⟨ks,h1,_⟩:=hT
  rw[z,h1] at h;cases h;exact hn ks rfl) h
 have ajZ:wK (Kw H2) xs ks:=by
  clear q hz hx
  induction hks with
  | nil=>exact .nil
  | cons h1 _ ih =>
   obtain⟨r,l,vs,e1,e2,e3⟩:=h1
   exact .cons ⟨r,l,vs,e1,nT e2 (λuu zz=>by cases zz),nT e3 (λuu zz=>by cases zz)⟩ ih
 exact ajX O I2 (nT hx (λuu zz=>by cases zz)) ⟨D,hf,of,hc,hlm⟩ ajZ hz λps p1 p2=>q H2 ps lam p1 p2
end
end
section
open PySem PyProof.Rows PySem.Calls
open wD (Dl Fo Tt cps zH IsT Tw TF Wn Es MN)
section
variable {P:Pm}{F:Fm}{G:Gx}{n:Nat}{sc:Scope}{l:Loc}{H:Hp}{s:Shared}{E:Value->Shared->Prop}{A:Around}
theorem Dl.imp {prog:Program}{w:World}{kd:SortKind}{R R':Value->List (List Nat)->Prop}(h:∀ v k,R v k->R' v k)(C:Dl prog w A s kd R'):Dl prog w A s kd R:=⟨λv u k m E Q h1 h2 q=>C.lt v u k m E Q (h v k h1) (h u m h2) q,λv k m h1 h2=>C.fn v k m (h v k h1) (h v m h2)⟩
theorem Inv.aj0 (I:Inv P F l H s){a:Addr}{xs:List Value}(of:Off F H a)(m:Mt P s.heap a (.list xs)):Inv P F l (H.upd a (.list xs)) s :=
 ⟨I.gens,I.os,I.keep,I.yX,I.loc,I.z9,Hp.Wz (λb o uu e=>I.ob b o e) ⟨m,λq=>((by cases q)),λuu=>of.f,λq=>(by cases q)⟩⟩
structure TQ (P:Pm)(A:Around)(E:Value->Shared->Prop)(s:Shared)(vs:List Value)(kd:SortKind)(R:Value->List (List Nat)->Prop):Prop where
 k:2<=vs.length->∀ Q:SortKind->Shared->Prop,Q kd s->wpAny P.M A (rC vs.toArray) Q E s
 c:Dl P.prog P.w A s kd R
theorem aj1 (K:xG P F)(I:Inv P F l H s){D:Addr}{vs:List Value}{kk:List (List Str)}(oD:Off F H D)(hD:s.heap.get? D=some (seqObj "list" vs.toArray 0))(hz:vs.length<=sizeLine){kd:SortKind}{R:Value->List (List Nat)->Prop}(hC:∀ h',(∀ b o,b≠D->s.heap.get? b=some o->h'.get? b=some o)->TQ P A E { s with heap:=h' } vs kd R)(hv:wK (λv k=>R v (k.map cps)) vs kk)
  {Z:j8->Shared->Prop} (q:∀ (ps:List (Value×List Str)) s',ps.Perm ((vs.map er).zip kk)->(ps.Pairwise λp q=>¬Bl q.2 p.2)->Inv P F l (H.upd D (.list (ps.map (·.1)))) s'->Z (.done (.ret .none)) s'):wpAny P.M A (Builtin.«list.sort» ⟨[.ref D],[]⟩) Z E s:=by
 refine Wn (kd:=kd) (O:=MN) (key:=Fo R) (ok:=λx=>∃ k,R x.1 k) hD hz (λh' k=>⟨(hC h' k).k,Tt (hC h' k).c,λv hm=>(TJ hv hm).elim λk h=>⟨_,h⟩⟩) λarr hp hs=>?_
 obtain⟨ps,p1,p2,p3⟩:=adi (A:=A) (prog:=P.prog) (w:=P.w) (kd:=kd) (s:={ s with heap:=s.heap }) (keys:=vs.toArray) (items:=vs.toArray) (xs:=vs.map er) ⟨hv,rfl,rfl⟩ (hC s.heap λuu uu uu e=>e).c hp hs
 generalize ho:arr.map (·.2)=out
 obtain⟨ep2,hat⟩:=sortedHeap_at (out:=out) hD
 have J:=(I.turn (t:=s.toks) (h':=sortedHeap s.heap D vs out) K oD λb o hb e=>by rw[sortedHeap_old hb (bM e)];exact e).aj0 oD (Dc hat (Ez (show out.size<=sizeLine from by rw[<-ho,sH];exact(show arr.size<=sizeLine from by rw[hp.size_eq,vL];exact hz))))
 rw[<-ho,qX,bY,show(er∘λx:Keyed=>x.2)=λx=>er x.2 from rfl,p3,ho] at J
 exact q ps _ p1 p2 J
theorem Inv.drawn (I:Inv P F l H s)(d:Drawn):Inv P F l H { s with drawn:=d }:=⟨I.gens,I.os,I.keep,I.yX,I.loc,I.z9,I.ob⟩
theorem aj2 {ps:List (Value×List Str)}(h:ps.Pairwise λp q=>¬Bl q.2 p.2)(nd:(ps.map (·.2)).Nodup):(ps.map (·.2)).Pairwise Bl:=by
 refine dh.2 ((h.and (dh.1 nd)).imp λ{a b} q=>?_)
 apply bA
 intro z
 exact q.2 ((vD λx y=>wD.Yq).1 (nF (jG.1 q.1) (jG.1 z)))
end
end
section
open PySem PyProof.Rows PySem.Calls
open wD (Dl cps zH IsT Tw TF)
section
variable {P:Pm}{F:Fm}{G:Gx}{n:Nat}{sc:Scope}{l:Loc}{H:Hp}{s:Shared}{E:Value->Shared->Prop}
inductive TV (w:World){β:Type}(Rel:Value->β->Prop)(h:Heap)(a:Addr)(S:List β):Prop where
 | mk (es:Array (Int×Value)) (ep:Nat) (t:SetTable) (ps:List ((Int×Value)×β)):wF.yH h a es ep t->es.toList=ps.map (·.1)->(∀ p∈ps,Rel p.1.2 p.2)->(ps.map (·.2)).Perm S->t.led=!(w.params.followText "set-order")->(t.plain=false\/es.size=0)->TV w Rel h a S
theorem aj3 {β:Type}{Rel:Value->β->Prop}{es:List (Int×Value)}{ps:List ((Int×Value)×β)}(he:es=ps.map (·.1))(hr:∀ p∈ps,Rel p.1.2 p.2){vs:List Value}(hp:vs.Perm (es.map (·.2))):∃ ks:List β,ks.Perm (ps.map (·.2))/\wK Rel vs ks:=by
 obtain⟨qs,rfl,h2⟩:=adh (g:=λp:(Int×Value)×β=>p.1.2) hp (L:=ps) (by rw[he,bY];rfl)
 refine⟨qs.map (·.2),h2.map _,?_⟩
 have hr:∀ p∈qs,Rel p.1.2 p.2:=λp hm=>hr p (h2.mem_iff.1 hm)
 clear h2 hp he
 induction qs with
 | nil=>exact .nil
 | cons q qs ih=>exact .cons (hr q (.head _)) (ih λp hp=>hr p (.tail _ hp))
theorem aj4 {β:Type}{Rel:Value->β->Prop}{Fp:Value->List Str->Prop}{Fq:β->List Str}(hR:∀ u k,Rel u k->Fp (er u) (Fq k)){vs:List Value}{ks:List β}(h:wK Rel vs ks):(∀ q∈(vs.map er).zip (ks.map Fq),Fp q.1 q.2)/\((vs.map er).zip (ks.map Fq)).map (·.2)=ks.map Fq:=by
 induction h with
 | nil=>exact⟨λq hq=>absurd hq aH,rfl⟩
 | cons h1 _ ih=>exact⟨λq hq=>(aM.1 hq).elim (λe=>e▸hR _ _ h1) (ih.1 q),congrArg _ ih.2⟩
theorem zip_rows {Fp:Value->List Str->Prop}{qs:List (Value×List Str)}(h:∀ q∈qs,Fp q.1 q.2):wK Fp (qs.map (·.1)) (qs.map (·.2)):=by
 induction qs with
 | nil=>exact .nil
 | cons q qs ih=>exact .cons (h q (.head _)) (ih λx hx=>h x (.tail _ hx))
theorem adk {β:Type}[DecidableEq β]{kd:wF.Kd P.prog P.w β}{Rel:Value->β->Prop}{Fp:Value->List Str->Prop}{Fq:β->List Str}(O:Ok P G n sc F)(I:Inv P F l H s){a:Addr}{ps:List (Value×β)}{U:List β}(hl:s.heap.IsList a (ps.map (·.1)).toArray)(hE:∀ p∈ps,kd.El s.heap p.1 p.2)(hU:U.length+1<=kd.cap)(hU2:U.length<=sizeLine)(Lj:∀ p∈ps,p.2∈U)(hT:∀ h' a S,kd.T h' a S->TV P.w Rel h' a S)
  (inj:∀ x y,Fq x=Fq y->x=y) (hR:∀ u k,Rel u k->Fp (er u) (Fq k)) (BK:∀ (s':Shared) (D:Addr) (vs:List Value) (ks:List β),Inv P F l H s'->(∃ o,s'.heap.get? D=some o/\o.cls=.type "list")->wK Rel vs ks->(∀ k∈ks,k∈ps.map (·.2))->∃ kd R,(∀ E h',(∀ b o,b≠D->s'.heap.get? b=some o->h'.get? b=some o)->TQ P F.A.in1.in1 E { s' with heap:=h' } vs kd R)/\wK (λv k=>R v (k.map cps)) vs (ks.map Fq)) {Q:QV}
  (q:∀ ys ts,wK Fp ys ts->ts.Pairwise Bl->(∀ k,k∈ts↔k∈(ps.map (·.2)).map Fq)->newV (.list ys) H Q) :
  wpAny P.M F.A (call (.type "set") [.ref a]) (λv s'=>wpAny P.M F.A (call (.builtin "sorted") [v]) (Ae P F l Q) E s') E s:=by
 have hh:=O.K.hh
 refine wF.ag9 (kd:=kd) (ps:=ps) hU Lj (aK (cI (aF ..) (show 10<=200 by decide)) O.R.2) hh hl hE λh1 t1 k1 x=>?_
 obtain⟨es,ep,t,qs,x,he,hr,hp,Ox,hpl⟩:=hT _ _ _ x
 obtain⟨fit,mem⟩:=wF.ag5 (U:=U) (ks:=ps.map (·.2)) .nil λk hk=>by obtain⟨p,hp,rfl⟩:=aO.1 hk;exact Lj p hp
 have hes:es.size<=sizeLine:=by rw[<-aq,he,aA,<-aA (f:=(·.2)),hp.length_eq];exact aj fit.le hU2
 refine wF.ag0 (s:={ s with heap:=h1,toks:=t1 }) hh x ⟨λe=>by rw[Ox,e];rfl,λuu=>hpl.imp id λz=>by rw[z];exact bL _,hes⟩ λD h2 t2 d us k2 nD oD hpu=>?_
 obtain⟨ks,kp,ka⟩:=aj3 he hr hpu
 have kS:=kp.trans hp
 have ul:us.length<=sizeLine:=by rw[hpu.length_eq,aA,aq];exact hes
 have of:=I.off O.K (a:=D) (none_of λo e=>xr (k1 _ _ e) nD)
 have J:Inv P F l H { s with heap:=h2,toks:=t2,drawn:=d }:=(I.kept O.K (t:=t2) λb o e=>k2 b o (k1 b o e)).drawn d
 obtain⟨kd',R,h3,h4⟩:=BK _ D us ks J ⟨_,oD,rfl⟩ ka λk hk=>by
  have:=(mem k).1 (kS.mem_iff.1 hk)
  exact this.elim (λz=>absurd z aH) id
 refine fL ux ⟨_,oD,rfl⟩ uf (aj1 O.K J of oD ul (h3 _) h4 λps' s' p1 p2 J'=>⟨_,rfl,_,J',?_⟩) (args_list_sort _)
 obtain⟨z1,z2⟩:=aj4 (Fp:=Fp) hR ka
 have nd:(ps'.map (·.2)).Nodup:=by
  rw[(p1.map (·.2)).nodup_iff,z2]
  exact dh.2 ((kS.nodup_iff.2 fit.nd).imp λh z=>h (inj _ _ z))
 refine q _ _ (zip_rows λq hq=>z1 q (p1.mem_iff.1 hq)) (aj2 p2 nd) (λk=>?_) _ of.h
 rw[(p1.map (·.2)).mem_iff,z2,aO,aO]
 refine exists_congr λx=>and_congr_left λuu=>?_
 rw[kS.mem_iff,mem x]
 exact⟨λz=>z.elim (λz=>absurd z aH) id,.inr⟩
end
end
section
open PySem PyProof.Rows PySem.Calls
open PySem.W (KatTups kat_kind)
open wD (Dl cps zH IsT Tw TF)
section
variable {P:Pm}{F:Fm}{G:Gx}{n:Nat}{sc:Scope}{l:Loc}{H:Hp}{s:Shared}{E:Value->Shared->Prop}
theorem adl {h:Heap}{v:Value}{x:Str}{M:Model}(e:zH v x):jQ M h (typeOf v) (.type "str"):=by
 obtain⟨t,rfl⟩:=e
 exact mO rfl
theorem aj5 (h:Heap)(a:Addr)(S:List Str)(x:wF.aa7 P.prog P.w h a S):TV P.w zH h a S:=by
 obtain⟨es,ep,t,ps,x,_,he,hs,hp,hl,hpl⟩:=x
 exact⟨es,ep,t,ps,x,he,hs,hp,hl,hpl⟩
theorem aj6 {A:Around}{s:Shared}{vs:List Value}{ks:List Str}(h:wK zH vs ks):TQ P A E s vs oneType' (λv k=>∃ x,zH v x/\k=[cps x]) :=
 ⟨λh2 Q q=>uY (T:=.type "str") h2 (λv hv=>(TJ h hv).elim λuu h=>adl h) (by decide) (by decide) q,Tw⟩
theorem aj7 {vs:List Value}{ks:List Str}(h:wK zH vs ks):wK (λv (k:List Str)=>∃ x,zH v x/\k.map cps=[cps x]) vs (ks.map λx=>[x]):=by
 induction h with
 | nil=>exact .nil
 | cons h1 _ ih=>exact .cons ⟨_,h1,rfl⟩ ih
theorem adn {α:Type}{R:Value->α->Prop}{vs:List Value}{ks:List α}(h:wK R vs ks):∃ ps:List (Value×α),ps.map (·.1)=vs/\ps.map (·.2)=ks/\∀ p∈ps,R p.1 p.2:=by
 induction h with
 | nil=>exact⟨[],rfl,rfl,λp hp=>absurd hp aH⟩
 | @cons v k _ _ h1 _ ih =>
  obtain⟨ps,e1,e2,hp⟩:=ih
  exact⟨(v,k)::ps,congrArg _ e1,congrArg _ e2,λp hm=>(aM.1 hm).elim (λe=>e▸h1) (hp p)⟩
theorem aj8 {ys:List Value}{ts:List (List Str)}(h:wK (λv p=>∃ x,v=bR x 0/\p=[x]) ys ts):∃ xs:List Str,ys=sV xs/\ts=xs.map λx=>[x]:=by
 induction h with
 | nil=>exact⟨[],rfl,rfl⟩
 | cons h1 _ ih =>
  obtain⟨x,rfl,rfl⟩:=h1
  obtain⟨xs,rfl,rfl⟩:=ih
  exact⟨x::xs,rfl,rfl⟩
theorem ado {xs:List Str}{x:Str}:[x]∈xs.map (λx=>[x])↔x∈xs:=⟨λh=>by obtain⟨y,hy,e⟩:=aO.1 h;cases e;exact hy,λh=>aO.2 ⟨x,h,rfl⟩⟩
theorem aj9 (O:Ok P G n sc F)(I:Inv P F l H s){V:Value}{Q:QV}(q:MK (er V) H Q) :
  wpAny P.M F.A (call (.type "set") [V]) (λv s'=>wpAny P.M F.A (call (.builtin "sorted") [v]) (Ae P F l Q) E s') E s:=by
 refine On.use q ?_;intro a xs hx q
 obtain⟨ss,rfl,hz,q⟩:=q
 obtain⟨vs,m,hl,ev,_⟩:=I.objs hx
 obtain⟨ps,e1,e2,hp⟩:=adn (Yv ev)
 refine adk (kd:=wF.ahe P.prog P.w) (ps:=ps) (U:=ss) (Fq:=λx=>[x]) (Fp:=λv p=>∃ x,v=.str x 0/\p=[x]) O I (by rw[e1,lO];exact Ec hl) hp (aj (aU hz) (by decide:4001<=4094)) (aj hz (by decide)) (λp hm=>e2▸aO.2 ⟨p,hm,rfl⟩) aj5 (λx y e=>(oU e).1) (λu k h=>by obtain⟨t,rfl⟩:=h;exact⟨k,rfl,rfl⟩) (λs' D us ks uu uu h uu=>⟨_,_,λE h' uu=>aj6 h,aj7 h⟩) λys ts h1 h2 h3=>?_
 obtain⟨xs,rfl,rfl⟩:=aj8 h1
 refine q xs ((dh.1 h2).imp λ{a b} h=>?_) λx=>?_
 ·have h:[cps a]<[cps b]:=h
  exact(gG.1 h).elim id λz=>absurd z.2 (pD [])
 ·rw[<-ado,h3,e2,ado]
theorem adp (I:Inv P F l H s){v:Value}{k:List Str}(h:TupAt H v k):IsT s.heap v k:=by
 obtain⟨a,rfl,ha⟩:=h
 obtain⟨vs,⟨o,h1,h2,m,h3⟩,e,_⟩:=I.objs ha
 exact⟨a,o,vs,m,rfl,h1,h2,h3,Yv e⟩
theorem akb (h:Heap)(a:Addr)(S:List (List Str))(x:wF.aa8 P.prog P.w (λb k=>H b=some (.tup (sV k))) h a S):TV P.w (TupAt H) h a S:=by
 obtain⟨es,ep,t,ps,x,_,_,he,hs,hp,hl,hpl⟩:=x
 exact⟨es,ep,t,ps,x,he,λp hm=>(hs p hm).2,hp,hl,hpl⟩
theorem adq {h h':Heap}{D:Addr}(hD:∃ o,h.get? D=some o/\o.cls=.type "list")(k:∀ b o,b≠D->h.get? b=some o->h'.get? b=some o){v:Value}{xs:List Str}(x:IsT h v xs):IsT h' v xs:=by
 obtain⟨a,o,vs,m,e,h1,h2,r⟩:=x
 refine⟨a,o,vs,m,e,k a o (λz=>?_) h1,h2,r⟩
 obtain⟨o',h3,h4⟩:=hD
 rw[z,h3] at h1;cases h1
 rw[h4] at h2;exact absurd h2 (by decide)
theorem akc {h:Heap}{vs:List Value}{ks:List (List Str)}(x:wK (IsT h) vs ks)(hne:∀ k∈ks,k≠[]):∃ fs,KatTups h vs fs/\fs.length=vs.length/\∀ f∈fs,∃ y,zH f y:=by
 induction x with
 | nil=>exact⟨[],trivial,rfl,λf hf=>absurd hf aH⟩
 | @cons v k vs ks h1 _ ih =>
  obtain⟨fs,i1,i2,i3⟩:=ih λk hk=>hne k (.tail _ hk)
  obtain⟨a,o,us,m,rfl,e1,e2,e3,e4⟩:=h1
  cases k with
  | nil=>exact absurd rfl (hne _ (.head _))
  | cons y k =>
   generalize hu:us.toList=ul at e4
   cases e4 with
   | @cons u _ ul _ hu1 _ =>
   refine⟨u::fs,⟨⟨a,o,us,m,rfl,e1,e2,e3,?_⟩,i1⟩,congrArg (·+1) i2,λf hf=>(aM.1 hf).elim (λe=>e▸⟨y,hu1⟩) (i3 f)⟩
   rw[<-aW,hu];rfl
theorem akd {h:Heap}{vs:List Value}{ks:List (List Str)}(x:wK (IsT h) vs ks):wK (λv (k:List Str)=>∃ xs,IsT h v xs/\k.map cps=xs.map cps) vs (ks.map id):=by
 induction x with
 | nil=>exact .nil
 | cons h1 _ ih=>exact .cons ⟨_,h1,rfl⟩ ih
theorem ake {A:Around}{D:Addr}(I:Inv P F l H s)(hD:∃ o,s.heap.get? D=some o/\o.cls=.type "list"){vs:List Value}{ks:List (List Str)}(h:wK (TupAt H) vs ks)(hne:∀ k∈ks,k≠[]){h':Heap}(k:∀ b o,b≠D->s.heap.get? b=some o->h'.get? b=some o):TQ P A E { s with heap:=h' } vs (tuples' true) (λv k=>∃ xs,IsT s.heap v xs/\k=xs.map cps):=by
 obtain⟨fs,f1,f2,f3⟩:=akc (Yz (λuu uu z=>adq hD k (adp I z)) h:wK (IsT h') vs ks) hne
 exact⟨λh2 Q q=>kat_kind (T:=.type "str") f1 (by rw[f2];exact aB (by decide) h2) (λv hv=>(f3 v hv).elim λuu h=>adl h) (by decide) q,Dl.imp (λv m z=>z.imp λxs y=>⟨adq hD k y.1,y.2⟩) (TF (s:={ s with heap:=h' }))⟩
theorem akf (O:Ok P G n sc F)(I:Inv P F l H s){V:Value}{Q:QV}(q:Tq (er V) H Q) :
  wpAny P.M F.A (call (.type "set") [V]) (λv s'=>wpAny P.M F.A (call (.builtin "sorted") [v]) (Ae P F l Q) E s') E s:=by
 refine On.use q ?_;intro a xs hx q
 obtain⟨ks,U,hk,hU,hz,hx2,q⟩:=q
 obtain⟨vs,m,hl,ev,hzz⟩:=I.objs hx
 have hv:wK (TupAt H) vs.toList ks:=by
  clear hl hU q hzz
  generalize vs.toList=ul at ev
  clear hx hx2 hz
  induction hk generalizing ul with
  | nil=>rw[bZ.1 ev];exact .nil
  | cons h1 _ ih =>
   obtain⟨v,ul,rfl,e1,e2⟩:=bH.1 ev
   obtain⟨b,rfl,hb⟩:=h1
   exact .cons ⟨b,Ih e1,hb⟩ (ih (ul:=_) e2)
 obtain⟨ps,e1,e2,hp⟩:=adn hv
 have hin:∀ p∈ps,p.2≠[]/\p.2∈U:=λp hm=>hU p.2 (e2▸aO.2 ⟨p,hm,rfl⟩)
 refine adk (kd:=wF.tupK P.prog P.w λb k=>H b=some (.tup (sV k))) (ps:=ps) (U:=U) (Fq:=id) (Rel:=TupAt H) (Fp:=TupAt H) O I (by rw[e1,lO];exact Ec hl) (λp hm=>?_) (aj (aU hz) (aD 76)) (aj hz (by decide)) (λp hm=>(hin p hm).2) akb (λx y e=>e) (λu k h=>?_) (λs' D us ks' J hD h hm=>⟨_,_,λE h' kk=>ake J hD h (λk hk=>?_) kk,akd (Yz (λuu uu z=>adp J z) h)⟩) λys ts h1 h2 h3=>q ys ts h1 h2 λk=>(h3 k).trans (by rw[e2,pC])
 ·obtain⟨b,h1,h2⟩:=hp p hm
  exact⟨b,h1,Tf I h2,(hin p hm).1,h2⟩
 ·obtain⟨b,rfl,hb⟩:=h
  exact⟨b,rfl,hb⟩
 ·obtain⟨p,hp,rfl⟩:=aO.1 (hm k hk)
  exact(hin p hp).1
theorem adt {e:Expr}{e':Ex}{p p2 pos pos2:Pos}{f:U1}(hf:∀ {F l H s E V Q},Ok P G n sc F->Inv P F l H s->f (er V) H Q->wpAny P.M F.A (call (.type "set") [V]) (λv s'=>wpAny P.M F.A (call (.builtin "sorted") [v]) (Ae P F l Q) E s') E s)(hl:zK sc "sorted" = some false)(hl2:zK sc "set" = some false)(he:SE P G n sc e e') :
  SE P G n sc (.Call (.Name "sorted" p) [.Call (.Name "set" p2) [e] [] pos2] [] pos) (.u f e'):=.of rfl λF l H s Q X O I q =>
 iM (Gb O I (x := "sorted") (v:=.builtin "sorted") rfl hl rfl (Hr (λenv=>rfl) (by
  rw[show starEach [.Call (.Name "set" p2) [e] [] pos2] F.env=[(false,eval (.Call (.Name "set" p2) [e] [] pos2) F.env)] from rfl]
  refine fZ (iM (Gb O I (x := "set") (v:=.type "set") rfl hl2 rfl (Hr (λenv=>(Aj he.1).1 [] env) (by
   rw[(Aj he.1).1]
   refine fZ (he.go O I q λV s1 H1 I1 q=>jC ⟨Ak _ _,bT (hf O I1 q) (λv s2 z=>?_) λuu uu z=>z⟩)
   exact jC ⟨zR _ _,z⟩)))))))
end
theorem adu {P:Pm}{G:Gx}{n:Nat}{sc:Scope}{e:Expr}{e':Ex}{p p2 pos pos2:Pos}(hl:zK sc "sorted" = some false)(hl2:zK sc "set" = some false)(he:SE P G n sc e e'):SE P G n sc (.Call (.Name "sorted" p) [.Call (.Name "set" p2) [e] [] pos2] [] pos) (.u MK e'):=adt (λO I q=>aj9 O I q) hl hl2 he
theorem akg {P:Pm}{G:Gx}{n:Nat}{sc:Scope}{e:Expr}{e':Ex}{p p2 pos pos2:Pos}(hl:zK sc "sorted" = some false)(hl2:zK sc "set" = some false)(he:SE P G n sc e e'):SE P G n sc (.Call (.Name "sorted" p) [.Call (.Name "set" p2) [e] [] pos2] [] pos) (.u Tq e'):=adt (λO I q=>akf O I q) hl hl2 he
end
section
open PySem PyProof.Rows PySem.Calls
namespace wC
noncomputable def TX:List Sm:=[.ite (.or (.not (.u Xo (.loc "thing"))) (.not (.RL RN RN (.k (.int 1 0)) (.u Pg (.loc "thing")) (.glob "MOST")))) [.ret (.k (.bool false))] [],.ret (.u W9 (.comp Xy (.b inS (.loc "sign") (.glob "LETTERS")) "sign" (.loc "thing") none))]
noncomputable def TY:List Sm:=[.ite (.or (.not (.u (Ge .list) (.loc "path"))) (.b gtI (.u CJ (.loc "path")) (.glob "MOST"))) [.raise "BadPath"] [],.ite (.not (.u W9 (.comp yO (.call (.glob "is_name") [.loc "one"]) "one" (.loc "path") none))) [.raise "BadPath"] [],.ret (.u Ph (.loc "path"))]
noncomputable def T5:List Sm:=[.Eb (.loc "self") "boxes" (.n newD []),.Eb (.loc "self") "counts" (.n newD []),.Eb (.loc "self") "made" (.k (.int 0 0))]
noncomputable def T6:List Sm:=[.ite (.or (.u (Gd false) (.loc "box")) (.or (.not (.u (Gd true) (.loc "box"))) (.b LQ (.loc "box") (.attr (.loc "self") "boxes")))) [.raise "NoBox"] [],.ret (.loc "box")]
noncomputable def T7:List Sm:=[.Eb (.loc "self") "made" (.b zB (.attr (.loc "self") "made") (.k (.int 1 0))),.Eu IK (.attr (.loc "self") "boxes") (.attr (.loc "self") "made") (.loc "what"),.Eu IK (.attr (.loc "self") "counts") (.attr (.loc "self") "made") (.k (.int 0 0)),.ret (.attr (.loc "self") "made")]
noncomputable def T8:List Sm:=[.ret (.meth (.loc "self") "fresh" [.n zu [.k (.str "leaf" 0),.loc "number"]])]
noncomputable def MP:List Sm:=[.for_ yO "row" (.loc "rows") [.expr (.meth (.loc "self") "need" [.b wR (.loc "row") (.k (.int 1 0))])],.for_ yO "row" (.loc "rows") [.expr (.meth (.loc "self") "hold" [.b wR (.loc "row") (.k (.int 1 0))])],.ret (.meth (.loc "self") "fresh" [.n zu [.k (.str "branch" 0),.u Ph (.loc "rows")]])]
noncomputable def T9:List Sm:=[.asg "what" (.b Gu (.attr (.loc "self") "boxes") (.meth (.loc "self") "need" [.loc "box"])),.ite (.b FZ (.b wR (.loc "what") (.k (.int 0 0))) (.k (.str "branch" 0))) [.ret (.n zu [.k (.str "branch" 0),.u Ph (.b wR (.loc "what") (.k (.int 1 0)))])] [],.ret (.loc "what")]
noncomputable def Ua:List Sm:=[.expr (.meth (.loc "self") "need" [.loc "box"]),.Eu IK (.attr (.loc "self") "counts") (.loc "box") (.b zB (.b Gu (.attr (.loc "self") "counts") (.loc "box")) (.k (.int 1 0)))]
noncomputable def Ub:List Sm:=[.asg "waiting" (.n yu [.meth (.loc "self") "need" [.loc "box"]]),.asg "gone" (.k (.int 0 0)),.Hj (.b neN (.loc "waiting") (.n yu [])) [.asg "one" (.m (yc .list) Gw (.loc "waiting") []),.ite (.b LQ (.loc "one") (.attr (.loc "self") "boxes")) [.cont] [],.Eu IK (.attr (.loc "self") "counts") (.loc "one") (.b Xa (.k (.int 0 0)) (.b Im (.b Gu (.attr (.loc "self") "counts") (.loc "one")) (.k (.int 1 0)))),.ite (.b BW (.b Gu (.attr (.loc "self") "counts") (.loc "one")) (.k (.int 0 0))) [.asg "what" (.m (yc .xV) Kc (.attr (.loc "self") "boxes") [.loc "one"]),.expr (.m (yc .xV) Kc (.attr (.loc "self") "counts") [.loc "one"]),.asg "gone" (.b zB (.loc "gone") (.k (.int 1 0))),.ite (.b FZ (.b wR (.loc "what") (.k (.int 0 0))) (.k (.str "branch" 0))) [.asg "waiting" (.b BX (.loc "waiting") (.comp yO (.b wR (.loc "row") (.k (.int 1 0))) "row" (.b wR (.loc "what") (.k (.int 1 0))) none))] []] []],.ret (.loc "gone")]
noncomputable def Uc:List Sm:=[.for_ yO "row" (.loc "rows") [.ite (.b FZ (.b wR (.loc "row") (.k (.int 0 0))) (.loc "name")) [.ret (.b wR (.loc "row") (.k (.int 1 0)))] []],.ret (.k .none)]
noncomputable def Ud:List Sm:=[.ret (.comp yO (.loc "row") "row" (.loc "rows") (some (.b neS (.b wR (.loc "row") (.k (.int 0 0))) (.loc "name"))))]
noncomputable def Ue:List Sm:=[.asg "ahead" (.comp yO (.loc "row") "row" (.loc "rows") (some (.b ltS (.b wR (.loc "row") (.k (.int 0 0))) (.loc "name")))),.asg "behind" (.comp yO (.loc "row") "row" (.loc "rows") (some (.b gtS (.b wR (.loc "row") (.k (.int 0 0))) (.loc "name")))),.ret (.b BX (.b BX (.loc "ahead") (.n yu [.n zu [.loc "name",.loc "box"]])) (.loc "behind"))]
noncomputable def Ug:List Sm:=[.asg "names" (.call (.glob "checked") [.loc "path"]),.ite (.b Pa (.loc "names") (.n yu [])) [.raise "BadPath"] [],.ret (.loc "names")]
noncomputable def Uh:List Sm:=[.ite (.or (.u (Gd false) (.loc "number")) (.or (.not (.u (Gd true) (.loc "number"))) (.not (.RL ltI ltI (.u Yl (.glob "BOUND")) (.loc "number") (.glob "BOUND"))))) [.raise "BadNumber"] []]
noncomputable def Ui:List Sm:=[.Eb (.loc "self") "pile" (.call (.glob "Pile") []),.Eb (.loc "self") "tree" (.meth (.attr (.loc "self") "pile") "branch" [.n yu []]),.expr (.meth (.attr (.loc "self") "pile") "hold" [.attr (.loc "self") "tree"]),.Eb (.loc "self") "shots" (.n newD []),.Eb (.loc "self") "last" (.k (.int 0 0))]
noncomputable def Uj:List Sm:=[.ite (.b Df (.loc "view") (.k .none)) [.ret (.attr (.loc "self") "tree")] [],.ite (.or (.u (Gd false) (.loc "view")) (.or (.not (.u (Gd true) (.loc "view"))) (.b LQ (.loc "view") (.attr (.loc "self") "shots")))) [.raise "NoShot"] [],.ret (.b Gu (.attr (.loc "self") "shots") (.loc "view"))]
noncomputable def Uk:List Sm:=[.for_ yO "name" (.loc "names") [.asg "what" (.meth (.attr (.loc "self") "pile") "content" [.loc "box"]),.ite (.b FZ (.b wR (.loc "what") (.k (.int 0 0))) (.k (.str "leaf" 0))) [.ret (.k .none)] [],.asg "box" (.call (.glob "box_of") [.b wR (.loc "what") (.k (.int 1 0)),.loc "name"]),.ite (.b Df (.loc "box") (.k .none)) [.ret (.k .none)] []],.ret (.loc "box")]
noncomputable def Ul:List Sm:=[.asg "found" (.n yu []),.for_ itR "k" (.u CK (.u CJ (.loc "names"))) [.asg "box" (.meth (.loc "self") "found" [.attr (.loc "self") "tree",.b toL (.loc "names") (.loc "k")]),.ite (.b Df (.loc "box") (.k .none)) [.expr (.m (yc .list) Aw (.loc "found") [.n yu []])] [.expr (.m (yc .list) Aw (.loc "found") [.b wR (.meth (.attr (.loc "self") "pile") "content" [.loc "box"]) (.k (.int 1 0))])]],.ret (.loc "found")]
noncomputable def Um:List Sm:=[.asg "old" (.attr (.loc "self") "tree"),.expr (.meth (.attr (.loc "self") "pile") "hold" [.loc "box"]),.Eb (.loc "self") "tree" (.loc "box"),.ret (.meth (.attr (.loc "self") "pile") "let_go" [.loc "old"])]
noncomputable def Ky:List Sm:=[.asg "names" (.call (.glob "need_way") [.loc "path"]),.expr (.call (.glob "need_number") [.loc "number"]),.for_ itR "k" (.b W7 (.k (.int 1 0)) (.u CJ (.loc "names"))) [.ite (.b Ir (.meth (.loc "self") "kind" [.k .none,.b toL (.loc "names") (.loc "k")]) (.k (.str "leaf" 0))) [.raise "LeafThere"] []],.asg "kind" (.meth (.loc "self") "kind" [.k .none,.loc "names"]),.ite (.b Ir (.loc "kind") (.k (.str "branch" 0))) [.raise "BranchThere"] [],.ite (.and (.b Ir (.loc "kind") (.k (.str "leaf" 0))) (.b BW (.meth (.loc "self") "value" [.k .none,.loc "names"]) (.loc "number"))) [.ret (.k (.int 0 0))] [],.asg "ways" (.meth (.loc "self") "ways" [.loc "names"]),.asg "box" (.meth (.attr (.loc "self") "pile") "leaf" [.loc "number"]),.for_ itR "k" (.n Pj [.b Im (.u CJ (.loc "names")) (.k (.int 1 0)),.k (.int (-1) 0),.k (.int (-1) 0)]) [.asg "box" (.meth (.attr (.loc "self") "pile") "branch" [.call (.glob "placed") [.b yw (.loc "ways") (.loc "k"),.b yw (.loc "names") (.loc "k"),.loc "box"]])],.ret (.meth (.loc "self") "changed" [.loc "box"])]
noncomputable def Qn:List Sm:=[.asg "names" (.call (.glob "need_way") [.loc "path"]),.ite (.b Df (.meth (.loc "self") "found" [.attr (.loc "self") "tree",.loc "names"]) (.k .none)) [.raise "Nothing"] [],.asg "ways" (.meth (.loc "self") "ways" [.loc "names"]),.asg "box" (.meth (.attr (.loc "self") "pile") "branch" [.call (.glob "without") [.b LK (.loc "ways") (.k (.int (-1) 0)),.b LK (.loc "names") (.k (.int (-1) 0))]]),.for_ itR "k" (.n Pj [.b Im (.u CJ (.loc "names")) (.k (.int 2 0)),.k (.int (-1) 0),.k (.int (-1) 0)]) [.asg "box" (.meth (.attr (.loc "self") "pile") "branch" [.call (.glob "placed") [.b yw (.loc "ways") (.loc "k"),.b yw (.loc "names") (.loc "k"),.loc "box"]])],.ret (.meth (.loc "self") "changed" [.loc "box"])]
noncomputable def Un:List Sm:=[.Eb (.loc "self") "last" (.b zB (.attr (.loc "self") "last") (.k (.int 1 0))),.Eu IK (.attr (.loc "self") "shots") (.attr (.loc "self") "last") (.attr (.loc "self") "tree"),.expr (.meth (.attr (.loc "self") "pile") "hold" [.attr (.loc "self") "tree"]),.ret (.attr (.loc "self") "last")]
noncomputable def Uo:List Sm:=[.ite (.b Df (.loc "number") (.k .none)) [.raise "NoShot"] [],.ret (.meth (.loc "self") "top" [.loc "number"])]
noncomputable def Uq:List Sm:=[.asg "box" (.meth (.loc "self") "shot" [.loc "shot"]),.expr (.m (yc .xV) Kc (.attr (.loc "self") "shots") [.loc "shot"]),.ret (.meth (.attr (.loc "self") "pile") "let_go" [.loc "box"])]
noncomputable def Ur:List Sm:=[.ret (.meth (.loc "self") "changed" [.meth (.loc "self") "shot" [.loc "shot"]])]
noncomputable def Us:List Sm:=[.ret (.u sortI (.attr (.loc "self") "shots"))]
noncomputable def Ut:List Sm:=[.asg "box" (.meth (.loc "self") "found" [.meth (.loc "self") "top" [.loc "view"],.call (.glob "checked") [.loc "path"]]),.ite (.b Df (.loc "box") (.k .none)) [.ret (.k .none)] [],.ret (.b wR (.meth (.attr (.loc "self") "pile") "content" [.loc "box"]) (.k (.int 0 0)))]
noncomputable def Uu:List Sm:=[.asg "kind" (.meth (.loc "self") "kind" [.loc "view",.loc "path"]),.ite (.b Df (.loc "kind") (.k .none)) [.raise "Nothing"] [],.ite (.b Ir (.loc "kind") (.k (.str "branch" 0))) [.raise "BranchThere"] [],.ret (.b wR (.meth (.attr (.loc "self") "pile") "content" [.meth (.loc "self") "found" [.meth (.loc "self") "top" [.loc "view"],.call (.glob "checked") [.loc "path"]]]) (.k (.int 1 0)))]
section
variable {α:Type}
noncomputable def get (l:List (Int×α))(i:Int):Option α:=(l.find? λp=>p.1=i).map (·.2)
noncomputable def put (l:List (Int×α))(i:Int)(a:α):List (Int×α):=if l.any (λp=>p.1=i) then l.map (λp=>if p.1=i then(p.1,a) else p) else l++[(i,a)]
noncomputable def del (l:List (Int×α))(i:Int):List (Int×α):=l.filter λp=>decide (p.1≠i)
theorem adv {R:Value->α->Prop}{vs:List (Int×Value)}{bs:List (Int×α)}(h:wK (λp q=>p.1=q.1/\R p.2 q.2) vs bs)(i:Int) :
  (∃ v c,valueAt vs i=some v/\get bs i=some c/\R v c)\/(valueAt vs i=none/\get bs i=none):=by
 induction h with
 | nil=>exact .inr ⟨rfl,rfl⟩
 | @cons p q vs bs h1 _ ih =>
  unfold valueAt get at ih ⊢
  simp only[jA]
  by_cases e:p.1=i
  ·rw[decide_eq_true e,decide_eq_true (h1.1▸e)]
   exact .inl ⟨_,_,rfl,rfl,h1.2⟩
  ·rw[decide_eq_false e,decide_eq_false (h1.1▸e)]
   exact ih
theorem akh {R:Value->α->Prop}{vs:List (Int×Value)}{bs:List (Int×α)}(h:wK (λp q=>p.1=q.1/\R p.2 q.2) vs bs)(i:Int):(vs.any λp=>p.1=i)=(bs.any λp=>p.1=i):=by
 induction h with
 | nil=>rfl
 | cons h1 _ ih=>simp only[qg,h1.1,ih]
theorem Ek {β:Type}{R:α->β->Prop}{a1 a2:List α}{b1 b2:List β}(h1:wK R a1 b1)(h2:wK R a2 b2):wK R (a1++a2) (b1++b2):=by
 induction h1 with
 | nil=>exact h2
 | cons h _ ih=>exact .cons h ih
set_option tactic.hygienic true in
theorem aki {R:Value->α->Prop}{vs:List (Int×Value)}{bs:List (Int×α)}(h:wK (λp q=>p.1=q.1/\R p.2 q.2) vs bs)(i:Int){v:Value}{a:α}(ha:R v a):wK (λp q=>p.1=q.1/\R p.2 q.2) (stored vs i v) (put bs i a):=by
 unfold stored put
 rw[akh h i]
 split
 ·rename_i hany;clear hany
  induction h with
  | nil=>exact .nil
  | @cons p q vs bs h1 _ ih =>
   refine .cons ?_ ih
   simp only
   by_cases e:p.1=i
   ·rw[if_pos e,if_pos (h1.1▸e)];exact⟨h1.1,ha⟩
   ·rw[if_neg e,if_neg (h1.1▸e)];exact h1
 ·exact Ek h (.cons ⟨rfl,ha⟩ .nil)
theorem akj {R:Value->α->Prop}{vs:List (Int×Value)}{bs:List (Int×α)}(h:wK (λp q=>p.1=q.1/\R p.2 q.2) vs bs)(i:Int):wK (λp q=>p.1=q.1/\R p.2 q.2) (f9 vs i) (del bs i):=by
 unfold f9 del
 induction h with
 | nil=>exact .nil
 | @cons p q vs bs h1 _ ih =>
  simp only[fY]
  by_cases e:p.1=i
  ·rw[if_neg (by simp [e]),if_neg (by simp [<-h1.1,e])];exact ih
  ·rw[if_pos (by simp [e]),if_pos (by simp [<-h1.1,e])];exact .cons h1 ih
theorem xU {β:Type}{R S:α->β->Prop}(f:∀ a b,R a b->S a b){a:List α}{b:List β}(h:wK R a b):wK S a b:=by
 induction h with
 | nil=>exact .nil
 | cons h _ ih=>exact .cons (f _ _ h) ih
theorem get_none {l:List (Int×α)}{m:Int}(h:m∉l.map (·.1)):get l m=none:=by
 unfold get
 rw[jr,kE]
 intro p hp e
 exact h (aO.2 ⟨p,hp,of_decide_eq_true e⟩)
theorem get_mem {l:List (Int×α)}{m:Int}{a:α}(h:get l m=some a):m∈l.map (·.1):=by
 apply q8
 intro n
 rw[get_none n] at h;cases h
theorem Kz {l:List (Int×α)}{m:Int}(a:α)(h:m∉l.map (·.1)):put l m a=l++[(m,a)]:=by
 unfold put
 rw[if_neg]
 intro e
 obtain⟨p,hp,e⟩:=lJ.1 e
 exact h (aO.2 ⟨p,hp,of_decide_eq_true e⟩)
theorem Dm (p:Int×α)(l:List (Int×α))(j:Int):get (p::l) j=if p.1=j then some p.2 else get l j:=by
 unfold get
 rw[jA]
 by_cases e:p.1=j
 ·rw[if_pos e,decide_eq_true e];rfl
 ·rw[if_neg e,decide_eq_false e]
theorem akk (l:List (Int×α))(i j:Int)(a:α):get (l.map λp=>if p.1=i then(p.1,a) else p) j=if j=i then(if l.any (λp=>p.1=i) then some a else none) else get l j:=by
 induction l with
 | nil=>simp [get]
 | cons p l ih =>
  rw[bJ,Dm,Dm,qg,ih]
  by_cases e:p.1=i
  ·rw[if_pos e]
   by_cases ej:j=i
   ·subst ej;simp [e]
   ·rw[if_neg ej,if_neg (λq=>ej (by rw[<-q];exact e)),if_neg ej,if_neg (λq=>ej (by rw[<-q];exact e))]
  ·rw[if_neg e,decide_eq_false e,Bool.false_or]
   by_cases ej:j=i
   ·subst ej;rw[if_neg e,if_pos rfl,if_pos rfl]
   ·rw[if_neg ej,if_neg ej]
theorem get_append (l m:List (Int×α))(j:Int):get (l++m) j=(get l j).or (get m j):=by
 induction l with
 | nil=>simp [get]
 | cons p l ih =>
  rw[List.cons_append,Dm,Dm,ih]
  split <;> simp
set_option tactic.hygienic true in
theorem Uv (l:List (Int×α))(i j:Int)(a:α):get (put l i a) j=if j=i then some a else get l j:=by
 unfold put
 split
 ·rename_i h;rw[akk,if_pos h]
 ·rename_i h
  rw[get_append,Dm]
  by_cases e:j=i
  ·subst e
   have:get l j=none:=get_none λq=>h (by
    obtain⟨p,hp,e⟩:=aO.1 q
    exact lJ.2 ⟨p,hp,decide_eq_true e⟩)
   rw[this];simp
  ·rw[if_neg e,if_neg (λq=>e q.symm)];simp [get]
theorem adw (l:List (Int×α))(i j:Int):get (del l i) j=if j=i then none else get l j:=by
 induction l with
 | nil=>simp [get,del]
 | cons p l ih =>
  unfold del at ih ⊢
  rw[fY,Dm]
  by_cases e:p.1=i
  ·rw[if_neg (by simp [e]),ih]
   by_cases ej:j=i
   ·rw[if_pos ej,if_pos ej]
   ·rw[if_neg ej,if_neg ej,if_neg (λq=>ej (by rw[<-q];exact e))]
  ·rw[if_pos (by simp [e]),Dm,ih]
   by_cases ej:j=i
   ·subst ej;rw[if_neg e,if_pos rfl,if_pos rfl]
   ·rw[if_neg ej,if_neg ej]
end
noncomputable abbrev Ad:=Str->Str->Addr
noncomputable def has (x:Str)(l:List Str):Bool:=l.any λy=>decide (y=x)
structure Env (G:Gx)(A:Ad):Prop where
 adx:G.glob "NoBox" = some (.ref (A "NoBox" ""))
 ady:G.isExc (A "NoBox" "")=true
 pm:∀ {m:Str},has m ["need","fresh","leaf","branch","content","hold","holders","let_go","kept"]=true->G.meth (A "Pile" "") m=some (A "Pile" m)
 pf:∀ {a:Str},has a ["boxes","counts","made"]=true->G.fld (A "Pile" "") a=true
structure xu (G:Gx)(A:Ad):Prop where
 p:Env G A
 ex:∀ {x:Str},has x ["SnapError","BadPath","BadNumber","Nothing","LeafThere","BranchThere","NoShot"]=true->G.glob x=some (.ref (A x ""))/\G.isExc (A x "")=true
 fn:∀ {x:Str},has x ["is_name","checked","box_of","placed","need_way","need_number"]=true->G.glob x=some (.ref (A x ""))/\G.init (A x "")=none
 letters:G.glob "LETTERS" = some (.str "abcdefghijklmnopqrstuvwxyz" 0)
 most:G.glob "MOST" = some (.int 8 0)
 bound:G.glob "BOUND" = some (.int (10^30) 0)
 pile:G.glob "Pile" = some (.ref (A "Pile" ""))
 YC:G.init (A "Pile" "")=some (A "Pile" "__init__")
 store:G.glob "Store" = some (.ref (A "Store" ""))
 Uw:G.init (A "Store" "")=some (A "Store" "__init__")
 sm:∀ {m:Str},has m ["top","found","ways","changed","put","cut","snap","shot","drop","back","shot_numbers","kind","value","names","both","changes"]=true->G.meth (A "Store" "") m=some (A "Store" m)
 sf:∀ {a:Str},has a ["pile","tree","shots","last"]=true->G.fld (A "Store" "") a=true
theorem xu.YD {G:Gx}{A:Ad}(h:xu G A){x:Str}(k:has x ["is_name","checked","box_of","placed","need_way","need_number"]=true):G.glob x=some (.ref (A x "")):=(h.fn k).1
theorem xu.YF {G:Gx}{A:Ad}(h:xu G A){x:Str}(k:has x ["is_name","checked","box_of","placed","need_way","need_number"]=true):G.init (A x "")=none:=(h.fn k).2
theorem xu.ex1 {G:Gx}{A:Ad}(h:xu G A){x:Str}(k:has x ["SnapError","BadPath","BadNumber","Nothing","LeafThere","BranchThere","NoShot"]=true):G.glob x=some (.ref (A x "")):=(h.ex k).1
theorem xu.ex2 {G:Gx}{A:Ad}(h:xu G A){x:Str}(k:has x ["SnapError","BadPath","BadNumber","Nothing","LeafThere","BranchThere","NoShot"]=true):G.isExc (A x "")=true:=(h.ex k).2
structure yP (A:Ad)(H:Hp)(x d bx ct:Addr)(bs cs:List (Int×Value))(mk:Int):Prop where
 i:H x=some (.inst (A "Pile" "") d)
 n:H d=some (.ns [("boxes",.ref bx),("counts",.ref ct),("made",.int mk 0)])
 b:H bx=some (.xV bs)
 c:H ct=some (.xV cs)
 ne:bx≠ct
inductive Ct where
 | leaf (n:Int)
 | br (rows:List (Str×Int))
noncomputable def chg:xH->Bool
 | .ns _=>true
 | .xV _=>true
 | .Ah _=>true
 | .Ai _=>true
 | .tab _=>true
 | _=>false
def Kp (M:List Addr)(H H':Hp):Prop:=∀ a o,H a=some o->(chg o=false\/a∉M)->H' a=some o
theorem Kp.refl (M:List Addr)(H:Hp):Kp M H H:=λuu uu h uu=>h
theorem Kp.trans {M:List Addr}{H H1 H2:Hp}(h1:Kp M H H1)(h2:Kp M H1 H2):Kp M H H2:=λa o h n=>h2 a o (h1 a o h n) n
theorem Kp.mono {M M':List Addr}{H H':Hp}(h:Kp M H H')(s:∀ a,a∈M->a∈M'):Kp M' H H':=λa o e n=>h a o e (n.imp id λn q=>n (s a q))
theorem wW {M:List Addr}{H:Hp}{c:Addr}(hc:H c=none)(o:xH):Kp M H (H.upd c o):=λa o' h uu=>(Hp.xJ _ _ λe=>by rw[e,hc] at h;cases h).trans h
theorem Nb {M:List Addr}{H:Hp}{d:Addr}{o':xH}(hd:H d=some o')(hm:chg o'=true)(hM:d∈M)(o:xH):Kp M H (H.upd d o):=λa p h n=>by
 refine(Hp.xJ _ _ λe=>?_).trans h
 subst e
 rw[hd] at h;cases h
 rcases n with n | n
 ·rw[hm] at n;cases n
 ·exact n hM
theorem Kp.tup {M:List Addr}{H H':Hp}(h:Kp M H H'){a:Addr}{xs:List Value}(e:H a=some (.tup xs)):H' a=some (.tup xs):=h a _ e (.inl rfl)
theorem Kp.list {M:List Addr}{H H':Hp}(h:Kp M H H'){a:Addr}{xs:List Value}(e:H a=some (.list xs)):H' a=some (.list xs):=h a _ e (.inl rfl)
theorem Kp.rlist {M:List Addr}{H H':Hp}(h:Kp M H H'){a:Addr}{xs:List Value}(e:H a=some (.rlist xs)):H' a=some (.rlist xs):=h a _ e (.inl rfl)
def yD (H:Hp)(v:Value)(r:Str×Int):Prop:=∃ a,v=.ref a/\H a=some (.tup [.str r.1 0,.int r.2 0])
noncomputable def Dz (H:Hp)(v:Value):Ct->Prop
 | .leaf n=>∃ a,v=.ref a/\H a=some (.tup [.str (eO "leaf") 0,.int n 0])
 | .br rows=>∃ a l xs,v=.ref a/\H a=some (.tup [.str (eO "branch") 0,.ref l])/\H l=some (.list xs)/\wK (yD H) xs rows
theorem yD.kp {M:List Addr}{H H':Hp}(k:Kp M H H'){v:Value}{r:Str×Int}(h:yD H v r):yD H' v r:=by
 obtain⟨a,e,q⟩:=h
 exact⟨a,e,k.tup q⟩
theorem Dz.kp {M:List Addr}{H H':Hp}(k:Kp M H H'){v:Value}{c:Ct}(h:Dz H v c):Dz H' v c:=by
 cases c with
 | leaf n=>obtain⟨a,e,q⟩:=h;exact⟨a,e,k.tup q⟩
 | br rows=>obtain⟨a,l,xs,e,q,q2,q3⟩:=h;exact⟨a,l,xs,e,k.tup q,k.list q2,xU (λuu uu h=>h.kp k) q3⟩
structure PA where
 x:Addr
 d:Addr
 bx:Addr
 ct:Addr
noncomputable abbrev PA.M (π:PA):List Addr:=[π.d,π.bx,π.ct]
noncomputable def zO (cs:List (Int×Int)):List (Int×Value):=cs.map λp=>(p.1,.int p.2 0)
structure yt (A:Ad)(H:Hp)(π:PA)(bs:List (Int×Ct))(cs:List (Int×Int))(mk:Int):Prop where
 ex:∃ bvs,yP A H π.x π.d π.bx π.ct bvs (zO cs) mk/\wK (λp q=>p.1=q.1/\Dz H p.2 q.2) bvs bs
theorem ints_get (cs:List (Int×Int))(i:Int):valueAt (zO cs) i=(get cs i).map λk=>.int k 0:=by
 unfold valueAt get zO
 rw[pF]
 cases h:cs.find? ((λkv=>decide (kv.1=i))∘λ(p:Int×Int)=>(p.1,cL p.2 0)) with
 | none =>
  have:cs.find? (λp=>decide (p.1=i))=none:=h
  rw[this];rfl
 | some p =>
  have:cs.find? (λp=>decide (p.1=i))=some p:=h
  rw[this];rfl
theorem Ux (cs:List (Int×Int))(i k:Int):stored (zO cs) i (.int k 0)=zO (put cs i k):=by
 unfold stored put zO
 rw[List.any_map]
 have:(cs.any ((λkv=>decide (kv.1=i))∘λ(p:Int×Int)=>(p.1,cL p.2 0)))=cs.any λp=>decide (p.1=i):=rfl
 rw[this]
 split
 ·rw[bY,bY]
  refine fK λp uu=>?_
  simp only[wk]
  split <;> rfl
 ·rw[aX];rfl
theorem adz (cs:List (Int×Int))(i:Int):f9 (zO cs) i=zO (del cs i):=by
 unfold f9 del zO
 rw[rP];rfl
theorem KD (cs:List (Int×Int)):(zO cs).length=cs.length:=by simp [zO]
end wC
end
namespace wC
end wC
section
open PySem PyProof.Rows PySem.Calls wC
local macro_rules | `(tactic| w_left) => `(tactic| first | assumption | rfl | (apply xu.p; assumption))
local macro_rules | `(tactic| got_up) => `(tactic| first | assumption | exact yP.i ‹_› | exact yP.n ‹_› | exact yP.b ‹_› | exact yP.c ‹_› | exact wX.i ‹_› | exact wX.n ‹_› | exact wX.st ‹_›)
local macro_rules | `(tactic| nest_cls) => `(tactic| first | assumption | ((first | apply Env.pf | apply Env.pm | apply xu.sf | apply xu.sm | apply xu.letters | apply xu.most | apply xu.bound | apply xu.pile | apply xu.store | apply xu.YC | apply xu.Uw | apply Env.adx | apply Env.ady | apply xu.YD | apply xu.YF | apply xu.ex2) <;> w_left) | (apply xu.ex1 <;> w_left) | ((first | apply zx.YD | apply zx.YF) <;> w_left))
local macro_rules | `(tactic| w_fin) => `(tactic| first | mem_news | got_up | rfl | nest_cls | decide | exact jL _ | exact Int.zero_le_ofNat _)
local macro_rules | `(tactic| mem_news) => `(tactic| first | with_reducible exact wI | ((with_reducible apply wH); (first | rfl | assumption)) | ((with_reducible apply Am); nest_cls) | ((with_reducible apply SM); mem_news; got_up; got_up; nest_cls; rfl; rfl) | ((with_reducible (first | apply xQ | apply ai6 | apply Ko | apply ai8 | apply ai9 | apply P0 | apply Fd | apply GC | apply SQ | apply Bw | apply Ca | apply Hx | apply acB | apply X6 | apply SX | apply ai7 | apply ajj | apply acD | apply Ms | apply acE | apply w6 | exact xM)) <;> w_fin) | ((with_reducible (first | apply acF | apply S9)) <;> mem_news) | exact wI)
section
namespace wC
theorem KH {G:Gx}{e:Ex}{l:Loc}{H:Hp}{v w:Value}(h:Ev G e l H v)(q:v=w):Ev G e l H w:=q▸h
section
variable {A:Ad}{G:Gx}{H:Hp}{π:PA}{bs:List (Int×Ct)}{cs:List (Int×Int)}{mk:Int}{Q:QV}{X:XV}
theorem yP.ds {x d bx ct:Addr}{bs cs:List (Int×Value)}(hp:yP A H x d bx ct bs cs mk):x≠d/\x≠bx/\x≠ct/\d≠bx/\d≠ct:=by
 refine⟨?_,?_,?_,?_,?_⟩ <;> (intro e;subst e)
 ·have:=hp.i;rw[hp.n] at this;cases this
 ·have:=hp.i;rw[hp.b] at this;cases this
 ·have:=hp.i;rw[hp.c] at this;cases this
 ·have:=hp.n;rw[hp.b] at this;cases this
 ·have:=hp.n;rw[hp.c] at this;cases this
theorem yP.made {x d bx ct:Addr}{bs cs:List (Int×Value)}(hp:yP A H x d bx ct bs cs mk)(mk':Int):yP A (H.upd d (.ns [("boxes",.ref bx),("counts",.ref ct),("made",.int mk' 0)])) x d bx ct bs cs mk':=by
 obtain⟨n1,n2,n3,n4,n5⟩:=hp.ds
 exact⟨(Hp.xJ _ _ n1).trans hp.i,Hp.wQ _ _ _,(Hp.xJ _ _ n4.symm).trans hp.b,(Hp.xJ _ _ n5.symm).trans hp.c,hp.ne⟩
theorem yP.box {x d bx ct:Addr}{bs cs:List (Int×Value)}(hp:yP A H x d bx ct bs cs mk)(bs':List (Int×Value)):yP A (H.upd bx (.xV bs')) x d bx ct bs' cs mk:=by
 obtain⟨n1,n2,n3,n4,n5⟩:=hp.ds
 exact⟨(Hp.xJ _ _ n2).trans hp.i,(Hp.xJ _ _ n4).trans hp.n,Hp.wQ _ _ _,(Hp.xJ _ _ hp.ne.symm).trans hp.c,hp.ne⟩
theorem yP.cnt {x d bx ct:Addr}{bs cs:List (Int×Value)}(hp:yP A H x d bx ct bs cs mk)(cs':List (Int×Value)):yP A (H.upd ct (.xV cs')) x d bx ct bs cs' mk:=by
 obtain⟨n1,n2,n3,n4,n5⟩:=hp.ds
 exact⟨(Hp.xJ _ _ n3).trans hp.i,(Hp.xJ _ _ n5).trans hp.n,(Hp.xJ _ _ hp.ne).trans hp.b,Hp.wQ _ _ _,hp.ne⟩
theorem yP.yp {M:List Addr}{H':Hp}{bs cs:List (Int×Value)}(p:yP A H π.x π.d π.bx π.ct bs cs mk)(k:Kp M H H')(h1:π.d∉M)(h2:π.bx∉M)(h3:π.ct∉M):yP A H' π.x π.d π.bx π.ct bs cs mk :=
 ⟨k _ _ p.i (.inl rfl),k _ _ p.n (.inr h1),k _ _ p.b (.inr h2),k _ _ p.c (.inr h3),p.ne⟩
theorem yP.new {bs cs:List (Int×Value)}(p:yP A H π.x π.d π.bx π.ct bs cs mk){c:Addr}(hc:H c=none)(o:xH):yP A (H.upd c o) π.x π.d π.bx π.ct bs cs mk:=p.yp (wW (M:=[]) hc o) (by simp) (by simp) (by simp)
theorem yP.kd {bs cs:List (Int×Value)}(p:yP A H π.x π.d π.bx π.ct bs cs mk)(o:xH):Kp π.M H (H.upd π.d o):=Nb p.n rfl (by simp [PA.M]) o
theorem yP.kb {bs cs:List (Int×Value)}(p:yP A H π.x π.d π.bx π.ct bs cs mk)(o:xH):Kp π.M H (H.upd π.bx o):=Nb p.b rfl (by simp [PA.M]) o
theorem yP.kc {bs cs:List (Int×Value)}(p:yP A H π.x π.d π.bx π.ct bs cs mk)(o:xH):Kp π.M H (H.upd π.ct o):=Nb p.c rfl (by simp [PA.M]) o
theorem yt.kp {M:List Addr}{H':Hp}(h:yt A H π bs cs mk)(k:Kp M H H')(h1:π.d∉M)(h2:π.bx∉M)(h3:π.ct∉M):yt A H' π bs cs mk:=by
 obtain⟨bvs,p,r⟩:=h.ex
 exact⟨bvs,p.yp k h1 h2 h3,xU (λuu uu q=>⟨q.1,q.2.kp k⟩) r⟩
theorem yt.yp {H':Hp}(h:yt A H π bs cs mk)(k:Kp [] H H'):yt A H' π bs cs mk:=h.kp k (by simp) (by simp) (by simp)
theorem yt.box (h:yt A H π bs cs mk){i:Int}{c:Ct}(e:get bs i=some c):∃ bvs v,yP A H π.x π.d π.bx π.ct bvs (zO cs) mk/\wK (λp q=>p.1=q.1/\Dz H p.2 q.2) bvs bs/\valueAt bvs i=some v/\Dz H v c:=by
 obtain⟨bvs,p,r⟩:=h.ex
 refine Dr λgg kk=>?_
 rcases adv r i with⟨v,c',h1,h2,h3⟩ | ⟨h1,h2⟩ <;> (refine kk ?_;clear kk gg)
 ·rw[e] at h2;cases h2;exact⟨bvs,v,p,r,h1,h3⟩
 ·rw[e] at h2;cases h2
theorem Nf {cs:List (Int×Int)}{i k:Int}(h:get cs i=some k):valueAt (zO cs) i=some (.int k 0):=by rw[ints_get,h];rfl
def w5 (tab:Tab)(f:Addr)(ps:List Str)(b:List Sm):Prop:=tab f=some (ps,b)
theorem yE {g:Gx}{tab:Tab}{n:Nat}{f:Addr}{ps:List Str}{b:List Sm}(e:w5 tab f ps b){args:List Value}{H:Hp}{Q:QV}{X:XV}(h:yq (GG g tab n) ps b args H Q X):(GG g tab (n+1)).fn f args H Q X:=⟨(ps,b),e,h⟩
theorem Env.gg {g:Gx}{A:Ad}(f:Env g A)(tab:Tab)(n:Nat):Env (GG g tab n) A:=by
 cases n <;> exact⟨f.adx,f.ady,f.pm,f.pf⟩
theorem xu.gg {g:Gx}{A:Ad}(f:xu g A)(tab:Tab)(n:Nat):xu (GG g tab n) A:=by
 have:=f.p.gg tab n
 cases n <;> exact⟨this,f.ex,f.fn,f.letters,f.most,f.bound,f.pile,f.YC,f.store,f.Uw,f.sm,f.sf⟩
def Qo (G:Gx)(A:Ad):Prop:=∀ ⦃H:Hp⦄ ⦃π:PA⦄ ⦃bs:List (Int×Ct)⦄ ⦃cs:List (Int×Int)⦄ ⦃mk:Int⦄,yt A H π bs cs mk->∀ ⦃i:Int⦄ ⦃c:Ct⦄,get bs i=some c->∀ ⦃Q:QV⦄ ⦃X:XV⦄,Q (.int i 0) H->G.fn (A "Pile" "need") [.ref π.x,.int i 0] H Q X
theorem akl (F:Env G A)(h:yt A H π bs cs mk){i:Int}{c:Ct}(e:get bs i=some c)(q:Q (.int i 0) H):yq G ["self","box"] T6 [.ref π.x,.int i 0] H Q X:=by
 obtain⟨bvs,v,p,r,hv,_⟩:=h.box e
 refine yC rfl ?_
 have hb:(!(valueAt bvs i).isSome)=false:=by rw[hv];rfl
 refine zW (by mem_news) ?_
 exact zT (by mem_news) q
def Qp (G:Gx)(A:Ad):Prop:=∀ ⦃H:Hp⦄ ⦃π:PA⦄ ⦃bs:List (Int×Ct)⦄ ⦃cs:List (Int×Int)⦄ ⦃mk:Int⦄,yt A H π bs cs mk->∀ ⦃v:Value⦄ ⦃c:Ct⦄,Dz H v c->bs.length<=sizeLine->cs.length<=sizeLine->∀ ⦃Q:QV⦄ ⦃X:XV⦄,
 (∀ H',yt A H' π (put bs (mk+1) c) (put cs (mk+1) 0) (mk+1)->Kp π.M H H'->Q (.int (mk+1) 0) H')->G.fn (A "Pile" "fresh") [.ref π.x,v] H Q X
theorem akm (F:Env G A)(h:yt A H π bs cs mk){v:Value}{c:Ct}(hv:Dz H v c)(z1:bs.length<=sizeLine)(z2:cs.length<=sizeLine)
  (q:∀ H',yt A H' π (put bs (mk+1) c) (put cs (mk+1) 0) (mk+1)->Kp π.M H H'->Q (.int (mk+1) 0) H'):yq G ["self","what"] T7 [.ref π.x,v] H Q X:=by
 obtain⟨bvs,p,r⟩:=h.ex
 refine yC rfl ?_
 refine Qe (by mem_news) (by mem_news) p.i p.n (by nest_cls) (by simp) ?_
 have p1:=p.made (mk+1)
 refine Qf (by mem_news) (by mem_news) (by mem_news) p1.b (by rw[zp r];exact z1) ?_
 have p2:=p1.box (stored bvs (mk+1) v)
 refine Qf (by mem_news) (by mem_news) (by mem_news) p2.c (by rw[KD];exact z2) ?_
 have p3:=p2.cnt (stored (zO cs) (mk+1) (.int 0 0))
 have k:=((p.kd _).trans (p1.kb _)).trans (p2.kc (.xV (stored (zO cs) (mk+1) (.int 0 0))))
 refine zT (by mem_news) (q _ ⟨_,by rw[<-Ux];exact p3,aki (xU (λuu uu z=>⟨z.1,z.2.kp k⟩) r) _ (hv.kp k)⟩ k)
theorem akn {v:Value}{n:Int}{a:Addr}{H:Hp}(h:v=.ref a)(e:H a=some (.tup [.str (eO "leaf") 0,.int n 0])):Dz H v (.leaf n):=⟨a,h,e⟩
def Ng (G:Gx)(A:Ad):Prop:=∀ ⦃H:Hp⦄ ⦃π:PA⦄ ⦃bs:List (Int×Ct)⦄ ⦃cs:List (Int×Int)⦄ ⦃mk:Int⦄,yt A H π bs cs mk->∀ ⦃i k:Int⦄ ⦃c:Ct⦄,get bs i=some c->get cs i=some k->cs.length<=sizeLine->∀ ⦃Q:QV⦄ ⦃X:XV⦄,
 (∀ H',yt A H' π bs (put cs i (k+1)) mk->Kp π.M H H'->Q .none H')->G.fn (A "Pile" "hold") [.ref π.x,.int i 0] H Q X
theorem ako (F:Env G A)(N:Qo G A)(h:yt A H π bs cs mk){i k:Int}{c:Ct}(e:get bs i=some c)(ec:get cs i=some k)(z2:cs.length<=sizeLine)
  (q:∀ H',yt A H' π bs (put cs i (k+1)) mk->Kp π.M H H'->Q .none H'):yq G ["self","box"] Ua [.ref π.x,.int i 0] H Q X:=by
 obtain⟨bvs,p,r⟩:=h.ex
 refine yC rfl ?_
 refine Ao (yx (by mem_news) p.i p.n (by nest_cls) (by rfl) (by mem_news) (N h e ?_))
 have hv:=Nf ec
 refine Qf (by mem_news) (by mem_news) (by mem_news) p.c (by rw[KD];exact z2) ?_
 have kk:=p.kc (.xV (stored (zO cs) i (.int (k+1) 0)))
 exact yZ (q _ ⟨_,by rw[<-Ux];exact(p.cnt (stored (zO cs) i (.int (k+1) 0))),xU (λuu uu z=>⟨z.1,z.2.kp kk⟩) r⟩ kk)
def Uy (G:Gx)(A:Ad):Prop:=∀ ⦃H:Hp⦄ ⦃π:PA⦄ ⦃bs:List (Int×Ct)⦄ ⦃cs:List (Int×Int)⦄ ⦃mk:Int⦄,yt A H π bs cs mk->∀ ⦃n:Int⦄,bs.length<=sizeLine->cs.length<=sizeLine->∀ ⦃Q:QV⦄ ⦃X:XV⦄,
 (∀ H',yt A H' π (put bs (mk+1) (.leaf n)) (put cs (mk+1) 0) (mk+1)->Kp π.M H H'->Q (.int (mk+1) 0) H')->G.fn (A "Pile" "leaf") [.ref π.x,.int n 0] H Q X
theorem akp (F:Env G A)(N:Qp G A)(h:yt A H π bs cs mk){n:Int}(z1:bs.length<=sizeLine)(z2:cs.length<=sizeLine)
  (q:∀ H',yt A H' π (put bs (mk+1) (.leaf n)) (put cs (mk+1) 0) (mk+1)->Kp π.M H H'->Q (.int (mk+1) 0) H'):yq G ["self","number"] T8 [.ref π.x,.int n 0] H Q X:=by
 obtain⟨bvs,p,r⟩:=h.ex
 refine yC rfl ?_
 refine zm (Dy (by mem_news) p.i p.n (by nest_cls) (by rfl) (xW (Mu (by mem_news) (ao rfl) λa ha=>yR ?_)))
 have kn:Kp [] H (H.upd a (.tup [.str (eO "leaf") 0,.int n 0])):=wW ha _
 refine N (h.yp kn) (akn rfl (Hp.wQ _ _ _)) z1 z2 λH' h' k'=>q H' h' ((kn.mono (by simp)).trans k')
def GF (G:Gx)(A:Ad):Prop:=∀ ⦃H:Hp⦄ ⦃π:PA⦄ ⦃bs:List (Int×Ct)⦄ ⦃cs:List (Int×Int)⦄ ⦃mk:Int⦄,yt A H π bs cs mk->∀ ⦃i:Int⦄ ⦃c:Ct⦄,get bs i=some c->(∀ rows,c=.br rows->rows.length<=sizeLine)->∀ ⦃Q:QV⦄ ⦃X:XV⦄,
 (∀ v H',Dz H' v c->Kp [] H H'->(∀ a l u,v=.ref a->H' a=some (.tup [u,.ref l])->H l=none)->Q v H')->G.fn (A "Pile" "content") [.ref π.x,.int i 0] H Q X
theorem akq (F:Env G A)(N:Qo G A)(h:yt A H π bs cs mk){i:Int}{c:Ct}(e:get bs i=some c)(zc:∀ rows,c=.br rows->rows.length<=sizeLine)
  (q:∀ v H',Dz H' v c->Kp [] H H'->(∀ a l u,v=.ref a->H' a=some (.tup [u,.ref l])->H l=none)->Q v H'):yq G ["self","box"] T9 [.ref π.x,.int i 0] H Q X:=by
 obtain⟨bvs,v,p,r,hv,hc⟩:=h.box e
 refine yC rfl ?_
 refine xX (zf (xO (v:=.ref π.bx) (by mem_news) (yx (by mem_news) p.i p.n (by nest_cls) (by rfl) (by mem_news) (N h e ?_))))
 refine ajb p.b hv ?_
 cases c with
 | leaf n =>
  obtain⟨a,rfl,ha⟩:=id hc
  refine zW (by mem_news) ?_
  exact zT (by mem_news) (q _ H hc (Kp.refl _ _) λa' l u e1 e2=>by cases e1;rw[ha] at e2;cases e2)
 | br rows =>
  obtain⟨a,rl,xs,rfl,ha,hl,hr⟩:=id hc
  refine Dk (by mem_news) ?_
  refine zm (Ay (xW (xO wI (xW (Yc (by mem_news) hl (by rw[zp hr];exact zc rows rfl) λc hcn=>yR ⟨ao rfl,λb hb=>?_⟩)))))
  have k2:=(wW hcn _:Kp [] H (H.upd c (.list xs))).trans (wW (M:=[]) hb (.tup [.str (eO "branch") 0,.ref c]))
  refine q _ _ ⟨b,c,xs,rfl,Hp.wQ _ _ _,(wW (M:=[]) hb _).list (Hp.wQ _ _ _),xU (λuu uu z=>z.kp k2) hr⟩ k2 λa' l u e1 e2=>?_
  cases e1
  rw[Hp.wQ] at e2;cases e2;exact hcn
end
section
variable {A:Ad}{G:Gx}{H:Hp}{π:PA}{bs:List (Int×Ct)}{cs:List (Int×Int)}{mk:Int}{Q:QV}{X:XV}
noncomputable def Ft (cs:List (Int×Int)):List (Str×Int)->Option (List (Int×Int))
 | []=>some cs
 | r::rows=>match get cs r.2 with
  | some k=>Ft (put cs r.2 (k+1)) rows
  | none=>none
theorem adA {α:Type}(l:List (Int×α))(i:Int)(a b:α)(h:get l i=some b):(put l i a).length=l.length:=by
 unfold put
 rw[if_pos]
 ·simp
 ·obtain⟨p,hp,e⟩:=aO.1 (get_mem h)
  exact lJ.2 ⟨p,hp,decide_eq_true e⟩
theorem akr {cs cs':List (Int×Int)}{r:Str×Int}{rows:List (Str×Int)}(h:Ft cs (r::rows)=some cs'):∃ k,get cs r.2=some k/\Ft (put cs r.2 (k+1)) rows=some cs':=by
 have h:(match get cs r.2 with | some k=>Ft (put cs r.2 (k+1)) rows | none=>none)=some cs':=h
 cases e:get cs r.2 with
 | none=>rw[e] at h;cases h
 | some k=>rw[e] at h;exact⟨k,rfl,h⟩
def HB (G:Gx)(A:Ad):Prop:=∀ ⦃H:Hp⦄ ⦃π:PA⦄ ⦃bs:List (Int×Ct)⦄ ⦃cs:List (Int×Int)⦄ ⦃mk:Int⦄,yt A H π bs cs mk->∀ ⦃rl:Addr⦄ ⦃xs:List Value⦄ ⦃rows:List (Str×Int)⦄ ⦃cs':List (Int×Int)⦄,H rl=some (.list xs)->wK (yD H) xs rows->(∀ r∈rows,∃ c,get bs r.2=some c)->Ft cs rows=some cs' ->
 bs.length<=sizeLine->cs.length<=sizeLine->rows.length<=sizeLine->∀ ⦃Q:QV⦄ ⦃X:XV⦄,(∀ H',yt A H' π (put bs (mk+1) (.br rows)) (put cs' (mk+1) 0) (mk+1)->Kp π.M H H'->Q (.int (mk+1) 0) H')->G.fn (A "Pile" "branch") [.ref π.x,.ref rl] H Q X
section
variable {rl:Addr}{xs:List Value}{rows:List (Str×Int)}{cs':List (Int×Int)}{l:Loc}{H0:Hp}
theorem aks (F:Env G A)(B:Qp G A)(h:yt A H π bs cs mk)(hl:H0 rl=some (.list xs))(hr:wK (yD H0) xs rows)(kk:Kp π.M H0 H)(z1:bs.length<=sizeLine)(z2:cs.length<=sizeLine)(z3:rows.length<=sizeLine)(g1:l "self" = some (.ref π.x))(g2:l "rows" = some (.ref rl))
  (q:∀ H',yt A H' π (put bs (mk+1) (.br rows)) (put cs (mk+1) 0) (mk+1)->Kp π.M H0 H'->Q (.int (mk+1) 0) H'):wM G (MP.drop 2) l H (fq Q) (fx X):=by
 obtain⟨YG,p',-⟩:=id h.ex
 refine zm (Dy (by mem_news) p'.i p'.n (by nest_cls) (by rfl) (xW (Ay (xW (xO wI (xW (Yc (by mem_news) (kk.list hl) (by rw[zp hr];exact z3) λc hcn=>yR ⟨ao rfl,λb hb=>?_⟩)))))))
 have k2:=(wW (M:=[]) hcn (.list xs)).trans (wW (M:=[]) hb (.tup [.str (eO "branch") 0,.ref c]))
 have k3:=kk.trans (k2.mono (M':=π.M) (by simp))
 exact B (h.yp k2) (c:=.br rows) ⟨b,c,xs,rfl,Hp.wQ _ _ _,(wW (M:=[]) hb _).list (Hp.wQ _ _ _),xU (λuu uu z=>z.kp k3) hr⟩ z1 z2 λH' h'' k''=>q H' h'' (k3.trans k'')
structure BrI (A:Ad)(π:PA)(mk:Int)(H0:Hp)(bs:List (Int×Ct))(cs':List (Int×Int))(rl:Addr)(r:List Value)(rs:List (Str×Int))(yM:List (Int×Int))(l:Loc)(H:Hp):Prop where
 g1:l "self" = some (.ref π.x)
 g2:l "rows" = some (.ref rl)
 k:Kp π.M H0 H
 w:wK (yD H0) r rs
 b:∀ x∈rs,∃ c,get bs x.2=some c
 h:yt A H π bs yM mk
 hh:Ft yM rs=some cs'
 z:yM.length<=sizeLine
theorem akt (F:Env G A)(C:Ng G A)(B:Qp G A)(h:yt A H π bs cs mk)(hl:H rl=some (.list xs))(hr:wK (yD H) xs rows)(hb:∀ r∈rows,∃ c,get bs r.2=some c)(hc:Ft cs rows=some cs')
  (z1:bs.length<=sizeLine) (z2:cs.length<=sizeLine) (z3:rows.length<=sizeLine) (g1:l "self" = some (.ref π.x)) (g2:l "rows" = some (.ref rl))
  (q:∀ H',yt A H' π (put bs (mk+1) (.br rows)) (put cs' (mk+1) 0) (mk+1)->Kp π.M H H'->Q (.int (mk+1) 0) H'):wM G (MP.drop 1) l H (fq Q) (fx X):=by
 refine Td (λr l' H'=>∃ rs yM,BrI A π mk H bs cs' rl r rs yM l' H') (by mem_news) hl (λr l' H' h=>by obtain⟨_,_,I⟩:=h;exact I.k.list hl) ?_ ⟨rows,cs,g1,g2,Kp.refl _ _,hr,hb,h,hc,z2⟩ ?_
 ·rintro v rs l' H' ⟨ws,yM,I⟩ K hK
  have g1:=I.g1
  cases I.w with
  | @cons _ row _ ws' e1 e2 =>
  obtain⟨a,rfl,ha⟩:=e1
  have ha:=I.k.tup ha
  obtain⟨c,hcc⟩:=I.b row (d7 ..)
  obtain⟨k,hk,hh⟩:=akr I.hh
  obtain⟨YG,p',-⟩:=id I.h.ex
  refine Ao (yx (by mem_news) p'.i p'.n (by nest_cls) (by rfl) (by mem_news) (C I.h hcc hk I.z λH2 h2 k2=>?_))
  exact yZ (hK.nx _ _ ⟨ws',_,I.g1,I.g2,I.k.trans k2,e2,λx hx=>I.b x (cu _ hx),h2,hh,by rw[adA _ _ _ _ hk];exact I.z⟩)
 ·rintro l2 H2 ⟨ws,yM,I⟩
  have hw:=I.w;have hh:=I.hh
  cases hw
  cases hh
  exact aks F B I.h hl hr I.k z1 I.z z3 I.g1 I.g2 q
structure BrJ (π:PA)(H0:Hp)(bs:List (Int×Ct))(rl:Addr)(r:List Value)(rs:List (Str×Int))(l:Loc)(H:Hp):Prop where
 e:H=H0
 g1:l "self" = some (.ref π.x)
 g2:l "rows" = some (.ref rl)
 w:wK (yD H0) r rs
 b:∀ x∈rs,∃ c,get bs x.2=some c
theorem aku (F:Env G A)(N:Qo G A)(C:Ng G A)(B:Qp G A)(h:yt A H π bs cs mk)(hl:H rl=some (.list xs))(hr:wK (yD H) xs rows)(hb:∀ r∈rows,∃ c,get bs r.2=some c)(hc:Ft cs rows=some cs')
  (z1:bs.length<=sizeLine) (z2:cs.length<=sizeLine) (z3:rows.length<=sizeLine)
  (q:∀ H',yt A H' π (put bs (mk+1) (.br rows)) (put cs' (mk+1) 0) (mk+1)->Kp π.M H H'->Q (.int (mk+1) 0) H'):yq G ["self","rows"] MP [.ref π.x,.ref rl] H Q X:=by
 obtain⟨bvs,p,r⟩:=id h.ex
 refine yC rfl ?_
 refine Td (λr l' H'=>∃ rs,BrJ π H bs rl r rs l' H') (by mem_news) hl (λr l' H' h=>by obtain⟨_,I⟩:=h;rw[I.e];exact hl) ?_ ⟨rows,rfl,rfl,rfl,hr,hb⟩ ?_
 ·rintro v rs l' H' ⟨ws,I⟩ K hK
  obtain rfl:=I.e
  have g1:=I.g1
  cases I.w with
  | @cons _ row _ ws' e1 e2 =>
  obtain⟨a,rfl,ha⟩:=e1
  obtain⟨c,hcc⟩:=I.b row (d7 ..)
  refine Ao (yx (by mem_news) p.i p.n (by nest_cls) (by rfl) (by mem_news) (N h hcc ?_))
  exact yZ (hK.nx _ _ ⟨ws',rfl,I.g1,I.g2,e2,λx hx=>I.b x (cu _ hx)⟩)
 ·rintro l1 H1 ⟨ws,I⟩
  obtain rfl:=I.e
  exact akt F C B h hl hr hb hc z1 z2 z3 I.g1 I.g2 q
end
noncomputable def kids:Ct->List Int
 | .leaf _=>[]
 | .br rows=>rows.map (·.2)
noncomputable abbrev Nh:=Option (List (Int×Ct)×List (Int×Int)×Int)
noncomputable def HD (rec:List Int->List (Int×Ct)->List (Int×Int)->Int->Nh)(one:Int)(w:List Int)(bs:List (Int×Ct))(cs:List (Int×Int))(g:Int):Nh:=match get bs one with
 | none=>rec w bs cs g
 | some c=>match get cs one with
  | none=>none
  | some k=>if max 0 (k-1)=0 then(if(kids c).length<=2^20 then rec (w++kids c) (del bs one) (del (put cs one (max 0 (k-1))) one) (g+1) else none) else rec w bs (put cs one (max 0 (k-1))) g
noncomputable def Bm:Nat->List Int->List (Int×Ct)->List (Int×Int)->Int->Nh
 | 0,_,_,_,_=>none
 | n+1,w,bs,cs,g=>if w.length<=2^20/\bs.length<=2^20/\cs.length<=2^20 then(match w.getLast? with
  | none=>some (bs,cs,g)
  | some one=>HD (Bm n) one w.dropLast bs cs g) else none
section
variable {n:Nat}{one g k:Int}{w:List Int}{bs:List (Int×Ct)}{cs:List (Int×Int)}{c:Ct}{r:List (Int×Ct)×List (Int×Int)×Int}{rec:List Int->List (Int×Ct)->List (Int×Int)->Int->Nh}
theorem adB (hz:w.length<=2^20/\bs.length<=2^20/\cs.length<=2^20)(hl:w.getLast?=some one):Bm (n+1) w bs cs g=HD (Bm n) one w.dropLast bs cs g:=by
 show(if _ then(match w.getLast? with | none=>some (bs,cs,g) | some one=>HD (Bm n) one w.dropLast bs cs g) else none)=_
 rw[if_pos hz,hl]
theorem adC (e:Bm (n+1) w bs cs g=some r):w.length<=2^20/\bs.length<=2^20/\cs.length<=2^20:=by
 apply q8
 intro hz
 have e:(if _ then _ else none)=some r:=e
 rw[if_neg hz] at e;cases e
theorem akv (e:Bm (n+1) [] bs cs g=some r):r=(bs,cs,g):=by
 have hz:=adC e
 have e:(if _ then some (bs,cs,g) else none)=some r:=e
 rw[if_pos hz] at e
 injection e with e;exact e.symm
theorem akx (h:get bs one=none):HD rec one w bs cs g=rec w bs cs g:=by unfold HD;rw[h]
theorem aky (h:get bs one=some c)(hk:get cs one=none):HD rec one w bs cs g=none:=by unfold HD;rw[h];dsimp only;rw[hk]
theorem adD (h:get bs one=some c)(hk:get cs one=some k):HD rec one w bs cs g=if max 0 (k-1)=0 then(if(kids c).length<=2^20 then rec (w++kids c) (del bs one) (del (put cs one (max 0 (k-1))) one) (g+1) else none) else rec w bs (put cs one (max 0 (k-1))) g:=by
 unfold HD;rw[h];skip;rw[hk]
end
noncomputable def lgC:Ex:=.b neN (.loc "waiting") (.n yu [])
noncomputable def YH:List Sm:=[.asg "what" (.m (yc .xV) Kc (.attr (.loc "self") "boxes") [.loc "one"]),.expr (.m (yc .xV) Kc (.attr (.loc "self") "counts") [.loc "one"]),.asg "gone" (.b zB (.loc "gone") (.k (.int 1 0))),.ite (.b FZ (.b wR (.loc "what") (.k (.int 0 0))) (.k (.str "branch" 0))) [.asg "waiting" (.b BX (.loc "waiting") (.comp yO (.b wR (.loc "row") (.k (.int 1 0))) "row" (.b wR (.loc "what") (.k (.int 1 0))) none))] []]
noncomputable def lgB:List Sm:=[.asg "one" (.m (yc .list) Gw (.loc "waiting") []),.ite (.b LQ (.loc "one") (.attr (.loc "self") "boxes")) [.cont] [],.Eu IK (.attr (.loc "self") "counts") (.loc "one") (.b Xa (.k (.int 0 0)) (.b Im (.b Gu (.attr (.loc "self") "counts") (.loc "one")) (.k (.int 1 0)))),.ite (.b BW (.b Gu (.attr (.loc "self") "counts") (.loc "one")) (.k (.int 0 0))) YH []]
theorem Kp.fresh {M:List Addr}{H H1:Hp}(k:Kp M H H1){c:Addr}(hc:H c=none)(o:xH):Kp M H (H1.upd c o):=λa p h n=>(Hp.xJ _ _ λe=>by rw[e,hc] at h;cases h).trans (k a p h n)
theorem yP.notList {bvs Ni:List (Int×Value)}(h:yP A H π.x π.d π.bx π.ct bvs Ni mk){a:Addr}{xs:List Value}(e:H a=some (.list xs)):a≠π.x/\a≠π.d/\a≠π.bx/\a≠π.ct :=
 ⟨λq=>(by rw[q,h.i] at e;cases e),λq=>(by rw[q,h.n] at e;cases e),λq=>(by rw[q,h.b] at e;cases e),λq=>(by rw[q,h.c] at e;cases e)⟩
theorem yP.other {bvs Ni:List (Int×Value)}(h:yP A H π.x π.d π.bx π.ct bvs Ni mk){a:Addr}{xs:List Value}(e:H a=some (.list xs))(o:xH):yP A (H.upd a o) π.x π.d π.bx π.ct bvs Ni mk:=by
 obtain⟨n1,n2,n3,n4⟩:=h.notList e
 exact⟨(Hp.xJ _ _ n1.symm).trans h.i,(Hp.xJ _ _ n2.symm).trans h.n,(Hp.xJ _ _ n3.symm).trans h.b,(Hp.xJ _ _ n4.symm).trans h.c,h.ne⟩
theorem Kp.none {bvs Ni:List (Int×Value)}{H0:Hp}(k:Kp π.M H0 H)(h:yP A H π.x π.d π.bx π.ct bvs Ni mk){a:Addr}(e:H a=none):H0 a=none:=by
 cases q:H0 a with
 | none=>rfl
 | some o =>
  by_cases hM:a∈π.M
  ·simp only[PA.M,aM,aH,or_false] at hM
   rcases hM with rfl | rfl | rfl
   ·rw[h.n] at e;cases e
   ·rw[h.b] at e;cases e
   ·rw[h.c] at e;cases e
  ·rw[k a o q (.inr hM)] at e;cases e
structure zJ (A:Ad)(π:PA)(mk:Int)(H0:Hp)(w:List Int)(bs:List (Int×Ct))(cs:List (Int×Int))(g:Int)(wl:Addr)(bvs:List (Int×Value))(l:Loc)(H:Hp):Prop where
 s:l "self" = some (.ref π.x)
 g:l "gone" = some (.int g 0)
 wa:l "waiting" = some (.ref wl)
 hw:H wl=some (.list (w.map λn=>cL n 0))
 h0:H0 wl=none
 p:yP A H π.x π.d π.bx π.ct bvs (zO cs) mk
 r:wK (λp q=>p.1=q.1/\Dz H0 p.2 q.2) bvs bs
 k:Kp π.M H0 H
theorem zy {n:Nat}(h:n<=2^20):n<=sizeLine:=aj h (by decide)
section
variable {H0:Hp}{w:List Int}{bs:List (Int×Ct)}{cs:List (Int×Int)}{g:Int}{wl:Addr}{bvs:List (Int×Value)}{l:Loc}{X:XS}{K:QS}{one:Int}{fin:List (Int×Ct)×List (Int×Int)×Int}{n:Nat}
theorem zJ.new (I:zJ A π mk H0 w bs cs g wl bvs l H){c:Addr}(hc:H c=none)(o:xH):zJ A π mk H0 w bs cs g wl bvs l (H.upd c o) :=
 ⟨I.s,I.g,I.wa,(wW (M:=[]) hc o).list I.hw,I.h0,I.p.new hc o,I.r,I.k.trans (wW hc o)⟩
theorem zJ.pop (I:zJ A π mk H0 w bs cs g wl bvs l H)(v:Value):zJ A π mk H0 w.dropLast bs cs g wl bvs (l.upd "one" v) (H.upd wl (.list (w.map λn=>cL n 0).dropLast)) :=
 ⟨I.s,I.g,I.wa,by rw[Hp.wQ,vZ],I.h0,I.p.other I.hw _,I.r,I.k.fresh I.h0 _⟩
theorem zJ.cnt (I:zJ A π mk H0 w bs cs g wl bvs l H)(cs':List (Int×Int)):zJ A π mk H0 w bs cs' g wl bvs l (H.upd π.ct (.xV (zO cs'))) :=
 ⟨I.s,I.g,I.wa,(I.p.kc _).list I.hw,I.h0,I.p.cnt _,I.r,I.k.trans (I.p.kc _)⟩
theorem zJ.box (I:zJ A π mk H0 w bs cs g wl bvs l H)(v:Value):zJ A π mk H0 w (del bs one) cs g wl (f9 bvs one) (l.upd "what" v) (H.upd π.bx (.xV (f9 bvs one))) :=
 ⟨I.s,I.g,I.wa,(I.p.kb _).list I.hw,I.h0,I.p.box _,akj I.r one,I.k.trans (I.p.kb _)⟩
theorem zJ.go (I:zJ A π mk H0 w bs cs g wl bvs l H)(g':Int):zJ A π mk H0 w bs cs g' wl bvs (l.upd "gone" (.int g' 0)) H:=⟨I.s,rfl,I.wa,I.hw,I.h0,I.p,I.r,I.k⟩
theorem zJ.more (I:zJ A π mk H0 w bs cs g wl bvs l H){w2:Addr}(hw2:H w2=none)(ks:List Int):zJ A π mk H0 (w++ks) bs cs g w2 bvs (l.upd "waiting" (.ref w2)) (H.upd w2 (.list ((w.map λn=>cL n 0)++ks.map λn=>cL n 0))) :=
 ⟨I.s,I.g,rfl,by rw[Hp.wQ,aX],I.k.none I.p hw2,I.p.new hw2 _,I.r,I.k.trans (wW hw2 _)⟩
theorem akz (F:Env G A){c:Ct}{v:Value}(hv:Dz H0 v c)(Jf:(kids c).length<=2^20)(YJ:w.length<=2^20)(I:zJ A π mk H0 w bs cs g wl bvs l H)(gw:l "what" = some v)
  (hK:∀ wl l' H',zJ A π mk H0 (w++kids c) bs cs g wl bvs l' H'->K .next l' H'):wM G (YH.drop 3) l H K X:=by
 cases c with
 | leaf m =>
  obtain⟨a,rfl,ha⟩:=hv
  have ha:=I.k.tup ha
  exact zW (by mem_news) (yZ (hK wl _ _ (by rw[kids,aY];exact I)))
 | br rows =>
  obtain⟨a,rl,xs,rfl,ha,hrl,hrr⟩:=hv
  have ha:=I.k.tup ha
  have hkl:(kids (.br rows)).length=rows.length:=aA ..
  refine Dk (by mem_news) ?_
  refine xX (zf (xO (wH I.wa) (ajh (λr:Str×Int=>.int r.2 0) (by mem_news) (I.k.list hrl) (zy (show xs.length<=2^20 from by rw[zp hrr,<-hkl];exact Jf)) hrr (λv row hv uu=>?_) λnl hnl=>?_)))
  ·obtain⟨b,rfl,hb⟩:=hv
   have hb:=I.k.tup hb
   mem_news
  ·have I':=I.new hnl (.list (rows.map λr=>.int r.2 0))
   refine Hy I'.hw (Hp.wQ _ _ _) ?_ λw2 hw2=>yZ (hK w2 _ _ ?_)
   ·rw[aA,aA,<-hkl];exact aj (cI YJ Jf) (by decide)
   ·have:=I'.more hw2 (kids (.br rows))
    rw[kids,bY] at this
    exact this
theorem akA (F:Env G A){c:Ct}{v:Value}{k:Int}(hc:get cs one=some k)(q1:valueAt bvs one=some v)(hv:Dz H0 v c)(Jf:(kids c).length<=2^20)(YJ:w.length<=2^20)(Oq:bs.length<=2^20)(hzc:cs.length<=2^20)(I:zJ A π mk H0 w bs cs g wl bvs l H)(go:l "one" = some (.int one 0))
  (hK:∀ wl bvs l' H',zJ A π mk H0 (w++kids c) (del bs one) (del cs one) (g+1) wl bvs l' H'->K .next l' H'):wM G YH l H K X:=by
 have g1:=I.s;have hp:=I.p
 refine xX (Yd (by mem_news) (by mem_news) hp.b (by rw[zp I.r];exact zy Oq) q1 ?_)
 have I4:=I.box (one:=one) v
 have hp4:=I4.p;have g3:=I4.g
 generalize H.upd π.bx (.xV (f9 bvs one))=H4 at I4 hp4 ⊢
 refine Ao (Yd (by mem_news) (by mem_news) hp4.c (by rw[KD];exact zy hzc) (Nf hc) ?_)
 rw[adz]
 have I5:=I4.cnt (del cs one)
 generalize H4.upd π.ct (.xV (zO (del cs one)))=H5 at I5 ⊢
 refine Gi (by mem_news) ?_
 exact akz F hv Jf YJ (I5.go (g+1)) rfl λwl l' H' I=>hK wl _ l' H' I
theorem akB (F:Env G A)(hz:w.length<=2^20/\bs.length<=2^20/\cs.length<=2^20)(hl:w.getLast?=some one)(I:zJ A π mk H0 w bs cs g wl bvs l H)
  (hK:∀ w' bs' cs' g' wl bvs l' H',zJ A π mk H0 w' bs' cs' g' wl bvs l' H'->Bm n w' bs' cs' g'=some fin->K .next l' H'/\K .cont l' H') (e:Bm (n+1) w bs cs g=some fin):wM G lgB l H K X:=by
 rw[adB hz hl] at e
 refine xX (Tc (wH I.wa) I.hw (by rw[aA];exact zy hz.1) (by rw[qG,hl];rfl) ?_)
 have I2:=I.pop (.int one 0)
 generalize H.upd wl (.list (w.map λn=>cL n 0).dropLast)=H2 at I2 ⊢
 have g1:=I2.s;have hp2:=I2.p
 refine Dr λgg kk=>?_
 rcases adv I.r one with⟨v,c,q1,q2,q3⟩ | ⟨q1,q2⟩ <;> (refine kk ?_;clear kk gg)
 ·have hb:(!(valueAt bvs one).isSome)=false:=by rw[q1];rfl
  refine zW (by mem_news) ?_
  cases hc:get cs one with
  | none=>rw[aky q2 hc] at e;cases e
  | some k =>
  rw[adD q2 hc] at e
  have hv:=Nf hc
  refine Qf (by mem_news) (by mem_news) (by mem_news) hp2.c (by rw[KD];exact zy hz.2.2) ?_
  rw[Ux]
  have I3:=I2.cnt (put cs one (max 0 (k-1)))
  generalize H2.upd π.ct (.xV (zO (put cs one (max 0 (k-1)))))=H3 at I3 ⊢
  have hp3:=I3.p
  have hc3:get (put cs one (max 0 (k-1))) one=some (max 0 (k-1)):=by rw[Uv,if_pos rfl]
  have hv:=Nf hc3
  refine CV (b:=decide (max 0 (k-1)=0)) (by mem_news) (λhm=>?_) λhm=>?_
  ·rw[if_pos (of_decide_eq_true hm)] at e
   by_cases Jf:(kids c).length<=2^20
   ·rw[if_pos Jf] at e
    exact akA F hc3 q1 q3 Jf (show w.dropLast.length<=2^20 from by rw[uV];exact aj (fV ..) hz.1) hz.2.1 (by rw[adA _ _ _ _ hc];exact hz.2.2) I3 rfl λwl bvs l' H' I=>(hK _ _ _ _ _ _ _ _ I e).1
   ·rw[if_neg Jf] at e;cases e
  ·rw[if_neg (of_decide_eq_false hm)] at e
   exact yZ (hK _ _ _ _ _ _ _ _ I3 e).1
 ·rw[akx q2] at e
  have hb:(!(valueAt bvs one).isSome)=true:=by rw[q1];rfl
  exact Dk (by mem_news) (acM (hK _ _ _ _ _ _ _ _ I2 e).2)
end
def YK (G:Gx)(X:XS)(Q:QS)(n:Nat)(l:Loc)(H:Hp):Prop:=Lp (λl' H' K=>lgC G l' H' (λv H1=>zL v λb=>K b H1) (λC H'=>X C l' H')) (λl' H' K=>wM G lgB l' H' K X) Q n l H
section
variable {H0:Hp}{w:List Int}{bs:List (Int×Ct)}{cs:List (Int×Int)}{g:Int}{wl:Addr}{bvs:List (Int×Value)}{l:Loc}{X:XS}{Q:QS}{r:List (Int×Ct)×List (Int×Int)×Int}{n:Nat}
theorem akC (I:zJ A π mk H0 w bs cs g wl bvs l H){K:Bool->Hp->Prop}{X:XV}(q:∀ H1,zJ A π mk H0 w bs cs g wl bvs l H1->K (!w.isEmpty) H1):lgC G l H (λv H1=>zL v λb=>K b H1) X :=
 Qa (wH I.wa) I.hw λd hd=>by
  rw[List.isEmpty_map]
  exact q _ (I.new hd _)
theorem akD (F:Env G A)(fin:∀ l' H',l' "gone" = some (.int r.2.2 0)->yt A H' π r.1 r.2.1 mk->Kp π.M H0 H'->Q .next l' H')
  (ih:∀ w bs cs g wl bvs l H,zJ A π mk H0 w bs cs g wl bvs l H->Bm n w bs cs g=some r->YK G X Q n l H) (I:zJ A π mk H0 w bs cs g wl bvs l H) (e:Bm (n+1) w bs cs g=some r):YK G X Q (n+1) l H:=by
 refine akC I λH1 I1=>?_
 cases Nj:w.getLast? with
 | none =>
  obtain rfl:w=[]:=List.getLast?_eq_none_iff.1 Nj
  obtain rfl:=akv e
  exact fin _ _ I1.g ⟨bvs,I1.p,xU (λuu uu q=>⟨q.1,q.2.kp I1.k⟩) I1.r⟩ I1.k
 | some one =>
  rw[(show w.isEmpty=false from by cases w with | nil=>cases Nj | cons _ _=>rfl)]
  exact akB F (adC e) Nj I1 (λw' DG yM g1 wl' YG l' H' I' e'=>have h:=ih w' DG yM g1 wl' YG l' H' I' e';⟨h,h⟩) e
theorem akE (F:Env G A)(fin:∀ l' H',l' "gone" = some (.int r.2.2 0)->yt A H' π r.1 r.2.1 mk->Kp π.M H0 H'->Q .next l' H')(n:Nat) :
  ∀ w bs cs g wl bvs l H,zJ A π mk H0 w bs cs g wl bvs l H->Bm n w bs cs g=some r->YK G X Q n l H :=
 Nat.rec (λuu uu uu uu uu uu uu uu uu e=>(by cases e)) (λuu ih uu uu uu uu uu uu uu uu=>akD F fin ih) n
end
def YL (G:Gx)(A:Ad):Prop:=∀ ⦃H:Hp⦄ ⦃π:PA⦄ ⦃bs:List (Int×Ct)⦄ ⦃cs:List (Int×Int)⦄ ⦃mk:Int⦄,yt A H π bs cs mk->∀ ⦃i:Int⦄ ⦃c:Ct⦄,get bs i=some c->∀ ⦃n:Nat⦄ ⦃bs':List (Int×Ct)⦄ ⦃cs':List (Int×Int)⦄ ⦃g':Int⦄,Bm n [i] bs cs 0=some (bs',cs',g')->∀ ⦃Q:QV⦄ ⦃X:XV⦄,
 (∀ H',yt A H' π bs' cs' mk->Kp π.M H H'->Q (.int g' 0) H')->G.fn (A "Pile" "let_go") [.ref π.x,.int i 0] H Q X
theorem akF (F:Env G A)(N:Qo G A)(h:yt A H π bs cs mk){i:Int}{c:Ct}(e:get bs i=some c){n:Nat}{bs':List (Int×Ct)}{cs':List (Int×Int)}{g':Int}(hg:Bm n [i] bs cs 0=some (bs',cs',g'))
  (q:∀ H',yt A H' π bs' cs' mk->Kp π.M H H'->Q (.int g' 0) H'):yq G ["self","box"] Ub [.ref π.x,.int i 0] H Q X:=by
 obtain⟨bvs,p,r⟩:=id h.ex
 refine yC rfl ?_
 refine xX (Ay (xW (yx (by mem_news) p.i p.n (by nest_cls) (by rfl) (by mem_news) (N h e (yR ⟨ao rfl,λwl hwl=>?_⟩)))))
 refine Gi (by mem_news) ?_
 refine acP n ?_
 refine akE F (H0:=H) (r:=(bs',cs',g')) (λl' H' g3 h' k'=>?_) n [i] bs cs 0 wl bvs _ _ ⟨rfl,rfl,rfl,Hp.wQ _ _ _,hwl,p.new hwl _,r,wW hwl _⟩ hg
 exact zT (wH g3) (q H' h' k')
structure adE (tab:Tab)(A:Ad):Prop where
 need:w5 tab (A "Pile" "need") ["self","box"] T6
 fresh:w5 tab (A "Pile" "fresh") ["self","what"] T7
 hold:w5 tab (A "Pile" "hold") ["self","box"] Ua
 leaf:w5 tab (A "Pile" "leaf") ["self","number"] T8
 content:w5 tab (A "Pile" "content") ["self","box"] T9
 branch:w5 tab (A "Pile" "branch") ["self","rows"] MP
 let_go:w5 tab (A "Pile" "let_go") ["self","box"] Ub
section
variable {g:Gx}{tab:Tab}(f:Env g A)(t:adE tab A)(n:Nat)
include f t
theorem Uz:Qo (GG g tab (n+1)) A:=λuu uu uu uu uu h uu uu e uu uu q=>yE t.need (akl (f.gg tab n) h e q)
theorem fresh_at:Qp (GG g tab (n+1)) A:=λuu uu uu uu uu h uu uu hv z1 z2 uu uu q=>yE t.fresh (akm (f.gg tab n) h hv z1 z2 q)
theorem UG:Ng (GG g tab (n+2)) A:=λuu uu uu uu uu h uu uu uu e ec z uu uu q=>yE t.hold (ako (f.gg tab _) (Uz f t n) h e ec z q)
theorem akG:Uy (GG g tab (n+2)) A:=λuu uu uu uu uu h uu z1 z2 uu uu q=>yE t.leaf (akp (f.gg tab _) (fresh_at f t n) h z1 z2 q)
theorem KJ:GF (GG g tab (n+2)) A:=λuu uu uu uu uu h uu uu e zc uu uu q=>yE t.content (akq (f.gg tab _) (Uz f t n) h e zc q)
theorem YM:HB (GG g tab (n+3)) A:=λuu uu uu uu uu h uu uu uu uu h1 h2 h3 h4 z1 z2 z3 uu uu q=>yE t.branch (aku (f.gg tab _) (Uz f t (n+1)) (UG f t n) (fresh_at f t (n+1)) h h1 h2 h3 h4 z1 z2 z3 q)
theorem adF:YL (GG g tab (n+2)) A:=λuu uu uu uu uu h uu uu e uu uu uu uu hg uu uu q=>yE t.let_go (akF (f.gg tab _) (Uz f t n) h e hg q)
end
end
section
variable {A:Ad}{G:Gx}{H:Hp}{Q:QV}{X:XV}
noncomputable def LET:Str := "abcdefghijklmnopqrstuvwxyz"
structure Good (x:Str):Prop where
 lo:1<=x.cps.toList.length
 hi:x.cps.toList.length<=8
 cs:∀ c∈x.cps.toList,97<=c/\c<=122
theorem akH:∀ k<26,uG LET (zM (97+k))=true:=by decide +kernel
theorem akI {c:Nat}(h:97<=c/\c<=122):uG LET (zM c)=true:=by
 have:=akH (c-97) (aK (fB h.2 97) (by decide))
 rwa [show 97+(c-97)=c from cC h.1] at this
theorem adG {a b:Int}(h:a<=b)(Q:QV)(q:Q (.bool true) H):RN (.int a 0) (.int b 0) H Q:=Gh trivial (by rw[decide_eq_true h];exact q)
theorem adH {a b:Int}(h:a<b)(Q:QV)(q:Q (.bool true) H):ltI (.int a 0) (.int b 0) H Q:=Gh trivial (by rw[decide_eq_true h];exact q)
theorem akJ {α β:Type}{R:α->β->Prop}{f:β->α}(h:∀ b,R (f b) b){ys:List β}:wK R (ys.map f) ys:=by
 induction ys with
 | nil=>exact .nil
 | cons b r ih=>exact .cons (h b) ih
theorem all_true {α:Type}{f:α->Bool}(h:∀ a,f a=true){xs:List α}:(xs.map f).all id=true:=by
 rw[List.all_map,fD];exact λa uu=>h a
def adI (G:Gx)(A:Ad):Prop:=∀ ⦃H:Hp⦄ ⦃x:Str⦄,Good x->∀ ⦃Q:QV⦄ ⦃X:XV⦄,(∀ H',Kp [] H H'->Q (.bool true) H')->G.fn (A "is_name" "") [.str x 0] H Q X
theorem akK (F:xu G A){x:Str}(hx:Good x)(q:∀ H',Kp [] H H'->Q (.bool true) H'):yq G ["thing"] TX [.str x 0] H Q X:=by
 have h2:=hx.hi
 refine yC rfl ?_
 refine zW (Ms (by mem_news) (Ko (t:=true) (acG wI (acC (by mem_news) (aj h2 (by decide))) (by mem_news) (adG (by exact dD.2 (hx.lo))) (adG (by exact dD.2 h2))) rfl)) ?_
 refine zm (Dj (acQ (R:=λv c=>v=.str (zM c) 0) (ys:=x.cps.toList) (λuu=>.bool true) (by mem_news) (λuu q=>ajf q) trivial (by rw[aA];exact aj h2 (by decide)) (akJ (R:=λv c=>v=bR (zM c) 0) (f:=λc=>.str (zM c) 0) λuu=>rfl) (λv c e hc=>?_) λb hb=>?_))
 ·subst e
  exact Hx (wH rfl) (by mem_news) (akI (hx.cs c hc))
 ·refine yr (Hp.wQ _ _ _) ⟨x.cps.toList.map λuu=>true,by rw[bY];rfl,?_⟩
  rw[all_true λuu=>rfl]
  exact q _ (wW hb _)
structure zZ (H:Hp)(a:Addr)(xs:List Str):Prop where
 at_:H a=some (.list (xs.map λx=>bR x 0))
 good:∀ x∈xs,Good x
 len:xs.length<=8
theorem zZ.kp {M:List Addr}{H':Hp}{a:Addr}{xs:List Str}(h:zZ H a xs)(k:Kp M H H'):zZ H' a xs:=⟨k.list h.at_,h.good,h.len⟩
theorem zZ.line {a:Addr}{xs:List Str}(h:zZ H a xs):(xs.map λx=>bR x 0).length<=sizeLine:=by rw[aA];exact aj h.len (by decide)
theorem Kp.Az {H':Hp}(k:Kp [] H H'){c:Addr}(h:H' c=oE):H c=oE:=none_of λo e=>xr (k c o e (.inr aH)) h
def UJ (G:Gx)(A:Ad):Prop:=∀ ⦃H:Hp⦄ ⦃a:Addr⦄ ⦃xs:List Str⦄,zZ H a xs->∀ ⦃Q:QV⦄ ⦃X:XV⦄,(∀ b H',Kp [] H H'->H' b=some (.list (xs.map λx=>bR x 0))->H b=none->Q (.ref b) H')->G.fn (A "checked" "") [.ref a] H Q X
inductive ChI (H0:Hp)(r acc:List Value)(H:Hp):Prop where
 | mk (rs:List Str) (n:Nat):Kp [] H0 H->r=rs.map (λx=>bR x 0)->(∀ x∈rs,Good x)->acc=(jF n true).map .bool->ChI H0 r acc H
theorem akL (F:xu G A)(N:adI G A){a:Addr}{xs:List Str}(hp:zZ H a xs)(q:∀ b H',Kp [] H H'->H' b=some (.list (xs.map λx=>bR x 0))->H b=none->Q (.ref b) H'):yq G ["path"] TY [.ref a] H Q X:=by
 have ho:=hp.at_
 refine yC rfl ?_
 refine zW (Ms (by mem_news) (Ca (by mem_news) (by mem_news) (decide_eq_false (by rw[aA];exact gZ.2 (dD.2 hp.len))))) ?_
 refine Fi (X8 (Dj (Yk (ChI H) (by mem_news) ho hp.line (λr acc H' h=>?_) (λv r acc H' h K hK=>?_) ⟨xs,0,Kp.refl _ _,rfl,hp.good,rfl⟩ λacc H' h c hcn=>?_)))
 ·obtain⟨rs,n,k,_⟩:=h
  exact k.list ho
 ·obtain⟨rs,n,k,e,hg,ea⟩:=h
  cases rs with
  | nil=>cases e
  | cons x rs =>
   cases e
   exact w_call (by mem_news) (by nest_cls) (by mem_news) (N (hg x (.head _)) λH2 k2=>hK _ _ ⟨rs,n+1,k.trans k2,rfl,λy hy=>hg y (.tail _ hy),by rw[List.replicate_succ',aX,ea];rfl⟩)
 ·obtain⟨rs,n,k,e,hg,ea⟩:=h
  subst ea
  refine yr (Hp.wQ _ _ _) ⟨jF n true,rfl,?_⟩
  have k2:=k.fresh (k.Az hcn) (.list ((jF n true).map .bool))
  generalize H'.upd c (.list ((jF n true).map .bool))=H2 at k2 ⊢
  rw[show(jF n true).all id=true from fD.2 λb hb=>List.eq_of_mem_replicate hb]
  exact zG (zm (r:=[]) (Yc (by mem_news) (k2.list ho) hp.line λb hb=>q _ _ (k2.trans (wW hb _)) (Hp.wQ _ _ _) (k2.Az hb)))
def YQ (G:Gx)(A:Ad):Prop:=∀ ⦃H:Hp⦄ ⦃a:Addr⦄ ⦃xs:List Str⦄,zZ H a xs->xs≠[]->∀ ⦃Q:QV⦄ ⦃X:XV⦄,(∀ b H',Kp [] H H'->H' b=some (.list (xs.map λx=>bR x 0))->H b=none->Q (.ref b) H')->G.fn (A "need_way" "") [.ref a] H Q X
theorem akM (F:xu G A)(N:UJ G A){a:Addr}{xs:List Str}(hp:zZ H a xs)(hne:xs≠[])(q:∀ b H',Kp [] H H'->H' b=some (.list (xs.map λx=>bR x 0))->H b=none->Q (.ref b) H'):yq G ["path"] Ug [.ref a] H Q X:=by
 refine yC rfl ?_
 refine xX (w_call (by mem_news) (by nest_cls) (by mem_news) (N hp λb H1 k1 hb hn=>?_))
 refine Fi (acK (by mem_news) hb λe1 Oo=>?_)
 have k2:Kp [] H1 (H1.upd e1 (.list [])):=wW Oo _
 rw[List.isEmpty_map,show xs.isEmpty=false from List.isEmpty_eq_false_iff.2 hne]
 exact Hz (zG (zT (by mem_news) (q b _ (k1.trans k2) (k2.list hb) hn)))
def adJ (G:Gx)(A:Ad):Prop:=∀ ⦃H:Hp⦄ ⦃n:Int⦄,-(10^30)<n->n<10^30->∀ ⦃Q:QV⦄ ⦃X:XV⦄,Q .none H->G.fn (A "need_number" "") [.int n 0] H Q X
theorem akN (F:xu G A){n:Int}(h1:-(10^30)<n)(h2:n<10^30)(q:Q .none H):yq G ["number"] Uh [.int n 0] H Q X:=by
 refine yC rfl ?_
 refine zW (Ms (by mem_news) (Ms (by mem_news) (Ko (t:=true) (acG (by mem_news) (by mem_news) (by mem_news) (adH h1) (adH h2)) rfl))) ?_
 exact yZ q
noncomputable def rowOf (rows:List (Str×Int))(n:Str):Option Int:=(rows.find? λr=>decide (r.1=n)).map (·.2)
def KN (G:Gx)(A:Ad):Prop:=∀ ⦃H:Hp⦄ ⦃rl:Addr⦄ ⦃xs:List Value⦄ ⦃rows:List (Str×Int)⦄ ⦃n:Str⦄,H rl=some (.list xs)->wK (yD H) xs rows->∀ ⦃Q:QV⦄ ⦃X:XV⦄,Q (oI (rowOf rows n)) H->G.fn (A "box_of" "") [.ref rl,.str n 0] H Q X
theorem adK (r:Str×Int)(rows:List (Str×Int))(n:Str):rowOf (r::rows) n=if r.1=n then some r.2 else rowOf rows n:=by
 unfold rowOf
 rw[jA]
 by_cases e:r.1=n
 ·rw[decide_eq_true e,if_pos e];rfl
 ·rw[decide_eq_false e,if_neg e]
inductive BoI (H:Hp)(n:Str)(o:Option Int)(r:List Value)(l:Loc)(H':Hp):Prop where
 | mk (rs:List (Str×Int)):H'=H->l "name" = some (.str n 0)->wK (yD H) r rs->o=rowOf rs n->BoI H n o r l H'
theorem akO {rl:Addr}{xs:List Value}{rows:List (Str×Int)}{n:Str}(hl:H rl=some (.list xs))(hr:wK (yD H) xs rows)(q:Q (oI (rowOf rows n)) H):yq G ["rows","name"] Uc [.ref rl,.str n 0] H Q X:=by
 refine yC rfl ?_
 refine Td (BoI H n (rowOf rows n)) (by mem_news) hl (λr l' H' h=>?_) (λv r l' H' h K hK=>?_) ⟨rows,rfl,rfl,hr,rfl⟩ λl' H' h=>?_
 ·obtain⟨rs,rfl,_⟩:=h;exact hl
 ·obtain⟨rs,rfl,g1,hw,he⟩:=h
  cases hw with
  | @cons _ row _ ws' e1 e2 =>
  obtain⟨a,rfl,ha⟩:=e1
  rw[adK] at he
  refine CV (b:=decide (row.1=n)) (by mem_news) (λhb=>zT (by mem_news) (hK.rt _ _ _ ?_)) λhb=>yZ (hK.nx _ _ ⟨ws',rfl,g1,e2,?_⟩)
  ·rw[if_pos (of_decide_eq_true hb)] at he
   rw[he] at q;exact q
  ·rw[if_neg (of_decide_eq_false hb)] at he;exact he
 ·obtain⟨rs,rfl,g1,hw,he⟩:=h
  cases hw
  rw[he] at q
  exact zT (v:=.none) wI q
noncomputable def yS (a b:Str):Bool:=decide (a.cps.toList<b.cps.toList)
noncomputable def zX (rows:List (Str×Int))(n:Str)(b:Int):List (Str×Int):=rows.filter (λr=>yS r.1 n)++[(n,b)]++rows.filter (λr=>yS n r.1)
def Jg (G:Gx)(A:Ad):Prop:=∀ ⦃H:Hp⦄ ⦃rl:Addr⦄ ⦃xs:List Value⦄ ⦃rows:List (Str×Int)⦄ ⦃n:Str⦄ ⦃b:Int⦄,H rl=some (.list xs)->wK (yD H) xs rows->rows.length<=2^20->∀ ⦃Q:QV⦄ ⦃X:XV⦄,(∀ c ys H',Kp [] H H'->H' c=some (.list ys)->wK (yD H') ys (zX rows n b)->Q (.ref c) H')->G.fn (A "placed" "") [.ref rl,.str n 0,.int b 0] H Q X
theorem akP {rl:Addr}{xs:List Value}{rows:List (Str×Int)}{n:Str}{b:Int}(hl:H rl=some (.list xs))(hr:wK (yD H) xs rows)(hz:rows.length<=2^20)
  (q:∀ c ys H',Kp [] H H'->H' c=some (.list ys)->wK (yD H') ys (zX rows n b)->Q (.ref c) H'):yq G ["rows","name","box"] Ue [.ref rl,.str n 0,.int b 0] H Q X:=by
 have hzx:xs.length<=2^20:=by rw[zp hr];exact hz
 refine yC rfl ?_
 refine xX (Yi (λr:Str×Int=>yS r.1 n) id (by mem_news) hl (zy hzx) hr (λv r e=>?_) (λv r uu uu=>wH rfl) λz1 h1 l1 c1 hc1=>?_)
 ·obtain⟨a,rfl,ha⟩:=e
  exact Hx (by mem_news) (by mem_news) rfl
 rw[pC]
 have k1:Kp [] H (H.upd c1 (.list z1)):=wW hc1 _
 have e1:(H.upd c1 (.list z1)) c1=some (.list z1):=Hp.wQ _ _ _
 generalize H.upd c1 (.list z1)=H1 at k1 e1 ⊢
 refine xX (Yi (λr:Str×Int=>yS n r.1) id (by mem_news) (k1.list hl) (zy hzx) (xU (λuu uu z=>yD.kp k1 z) hr) (λv r e=>?_) (λv r uu uu=>wH rfl) λz2 h2 l2 c2 hc2=>?_)
 ·obtain⟨a,rfl,ha⟩:=e
  exact Hx (by mem_news) (by mem_news) rfl
 rw[pC]
 have k2:Kp [] H1 (H1.upd c2 (.list z2)):=wW hc2 _
 have e2:(H1.upd c2 (.list z2)) c2=some (.list z2):=Hp.wQ _ _ _
 have e1:=k2.list e1
 generalize H1.upd c2 (.list z2)=H2 at k2 e1 e2 ⊢
 refine zm (zf (zf (xO (v:=.ref c1) (by mem_news) (Ay (xW (Mu (by mem_news) (ao rfl) λt ht=>yR ⟨ao rfl,λc3 hc3=>?_⟩))))))
 have k3:Kp [] H2 (H2.upd t (.tup [.str n 0,.int b 0])):=wW ht _
 have e3:(H2.upd t (.tup [.str n 0,.int b 0])) t=some (.tup [.str n 0,.int b 0]):=Hp.wQ _ _ _
 have e1:=k3.list e1
 have e2:=k3.list e2
 generalize H2.upd t (.tup [.str n 0,.int b 0])=H3 at k3 e1 e2 e3 hc3 ⊢
 have k4:Kp [] H3 (H3.upd c3 (.list [.ref t])):=wW hc3 _
 have e4:(H3.upd c3 (.list [.ref t])) c3=some (.list [.ref t]):=Hp.wQ _ _ _
 have e1:=k4.list e1
 have e2:=k4.list e2
 have e3:=k4.tup e3
 generalize H3.upd c3 (.list [.ref t])=H4 at k4 e1 e2 e3 e4 ⊢
 refine Hy e1 e4 (by simp only[dJ];exact aj (aU (aj ‹z1.length<=xs.length› ‹_›)) (show 2^20+1<=_ by decide)) λc4 hc4=>?_
 have k5:Kp [] H4 (H4.upd c4 (.list (z1++[.ref t]))):=wW hc4 _
 have e5:(H4.upd c4 (.list (z1++[.ref t]))) c4=some (.list (z1++[.ref t])):=Hp.wQ _ _ _
 have e2:=k5.list e2
 have e3:=k5.tup e3
 generalize H4.upd c4 (.list (z1++[.ref t]))=H5 at k5 e2 e3 e5 ⊢
 refine xO (v:=.ref c2) (by mem_news) (Hy e5 e2 (by simp only[aG,dJ];exact aj (cI (aU (aj ‹z1.length<=xs.length› ‹_›)) (aj ‹z2.length<=xs.length› ‹_›)) (show 2^20+1+2^20<=_ by decide)) λc6 hc6=>?_)
 have k6:Kp [] H5 (H5.upd c6 (.list (z1++[.ref t]++z2))):=wW hc6 _
 have kk:=((((k1.trans k2).trans k3).trans k4).trans k5).trans k6
 refine q _ _ _ kk (Hp.wQ _ _ _) ?_
 refine Ek (Ek (xU (λuu uu z=>yD.kp kk z) h1) (.cons ⟨t,rfl,k6.tup e3⟩ .nil)) (xU (λuu uu z=>yD.kp ((((k2.trans k3).trans k4).trans k5).trans k6) z) h2)
end
noncomputable def find (bs:List (Int×Ct)):Int->List Str->Option (Option Int)
 | box,[]=>some (some box)
 | box,n::r=>match get bs box with
  | some (.leaf _)=>some none
  | some (.br rows)=>(match rowOf rows n with
   | some b=>find bs b r
   | none=>some none)
  | none=>none
noncomputable def zA (bs:List (Int×Ct))(tree:Int)(xs:List Str)(k:Nat):Option (List (Str×Int)):=match find bs tree (xs.take k) with
 | some none=>some []
 | some (some b)=>(match get bs b with
  | some (.br rows)=>some rows
  | _=>none)
 | none=>none
noncomputable def build (W:Nat->List (Str×Int))(N:Nat->Str):Nat->List (Int×Ct)->List (Int×Int)->Int->Int->Option (List (Int×Ct)×List (Int×Int)×Int×Int)
 | 0,bs,cs,mk,box=>some (bs,cs,mk,box)
 | j+1,bs,cs,mk,box=>if bs.length<=2^20/\cs.length<=2^20/\(W j).length<=2^20/\(zX (W j) (N j) box).length<=2^20/\((zX (W j) (N j) box).all λr=>(get bs r.2).isSome)=true then
   (match Ft cs (zX (W j) (N j) box) with
   | some cs'=>build W N j (put bs (mk+1) (.br (zX (W j) (N j) box))) (put cs' (mk+1) 0) (mk+1) (mk+1)
   | none=>none) else none
end wC
end
section
open PySem PyProof.Rows
namespace wC
noncomputable def yG (bs:List (Int×Ct)):List Int:=bs.flatMap λp=>kids p.2
section
variable {α:Type}
theorem Jh (l:List (Int×α))(i:Int):(del l i).map (·.1)=(l.map (·.1)).filter λj=>decide (j≠i):=by
 skip;rw[rP];rfl
theorem akQ {l:List (Int×α)}{i:Int}{p:Int×α}:p∈del l i↔p∈l/\p.1≠i:=by
 unfold del;rw[cY,decide_eq_true_iff]
theorem adM {l:List (Int×α)}{i:Int}{b:α}(a:α)(h:get l i=some b):(put l i a).map (·.1)=l.map (·.1):=by
 unfold put
 rw[if_pos,bY]
 ·refine fK λp uu=>?_
  simp only[wk]
  split <;> rfl
 ·obtain⟨p,hp,e⟩:=aO.1 (get_mem h)
  exact lJ.2 ⟨p,hp,decide_eq_true e⟩
theorem Ba {l:List (Int×α)}{i:Int}(h:i∈l.map (·.1)):∃ a,get l i=some a:=by
 cases e:get l i with
 | some a=>exact⟨a,rfl⟩
 | none =>
  unfold get at e
  rw[jr,kE] at e
  obtain⟨p,hp,q⟩:=aO.1 h
  exact absurd (decide_eq_true q) (e p hp)
theorem Ji {l:List (Int×α)}{i:Int}{a:α}(h:get l i=some a):(i,a)∈l:=by
 obtain⟨p,hp,rfl⟩:=bG.1 h
 have:=rO hp
 rw[decide_eq_true_iff] at this
 rw[<-this]
 exact jU hp
theorem get_of_mem {l:List (Int×α)}(n:(l.map (·.1)).Nodup){i:Int}{a:α}(h:(i,a)∈l):get l i=some a:=by
 induction l with
 | nil=>cases h
 | cons p l ih =>
  rw[bJ,eE] at n
  rw[Dm]
  rcases aM.1 h with rfl | h
  ·rw[if_pos rfl]
  ·rw[if_neg,ih n.2 h]
   intro e
   exact n.1 (e▸aO.2 ⟨_,h,rfl⟩)
theorem akR {l:List (Int×α)}{i:Int}(h:i∉l.map (·.1)):del l i=l:=by
 refine List.filter_eq_self.2 λp hp=>decide_eq_true λe=>h (e▸aO.2 ⟨p,hp,rfl⟩)
theorem YS {l:List Int}(h:l.Pairwise (·<·)):l.Nodup:=h.imp λq e=>absurd (e▸q) (Int.lt_irrefl _)
set_option tactic.hygienic true in
theorem akS {l:List (Int×α)}(i:Int)(a:α):del (put l i a) i=del l i:=by
 unfold put
 split
 ·rename_i h;clear h
  unfold del
  induction l with
  | nil=>rfl
  | cons p l ih =>
   rw[bJ,fY,fY,ih]
   by_cases e:p.1=i
   ·rw[if_pos e,if_neg (by simp [e]),if_neg (by simp [e])]
   ·rw[if_neg e]
 ·unfold del
  rw[List.filter_append]
  simp
end
theorem YT {α:Type}{l:List (Int×α)}{i:Int}{c:α}(n:(l.map (·.1)).Nodup)(h:get l i=some c):l.Perm ((i,c)::del l i):=by
 induction l with
 | nil=>cases h
 | cons p l ih =>
  rw[bJ,eE] at n
  rw[Dm] at h
  by_cases e:p.1=i
  ·rw[if_pos e] at h;cases h
   have:del (p::l) i=l:=by
    unfold del
    rw[fY,if_neg (by simp [e])]
    exact akR (e▸n.1)
   rw[this,<-e]
  ·rw[if_neg e] at h
   have:del (p::l) i=p::del l i:=by
    unfold del
    rw[fY,if_pos (by simp [e])]
   rw[this]
   exact((ih n.2 h).cons p).trans (qQ ..)
theorem YW {bs:List (Int×Ct)}{i:Int}{c:Ct}(n:(bs.map (·.1)).Nodup)(h:get bs i=some c):(yG bs).Perm (kids c++yG (del bs i)) :=
 (YT n h).flatMap_right _
structure PW (bs:List (Int×Ct))(cs:List (Int×Int))(mk:Int)(ext:List Int):Prop where
 keys:cs.map (·.1)=bs.map (·.1)
 asc:(bs.map (·.1)).Pairwise (·<·)
 pos:∀ i∈bs.map (·.1),1<=i/\i<=mk
 down:∀ i c,get bs i=some c->∀ k∈kids c,k<i
 cnt:∀ i k,get cs i=some k->k=((yG bs++ext).count i:Nat)
 clo:∀ i∈yG bs++ext,i∈bs.map (·.1)
section
variable {bs:List (Int×Ct)}{cs:List (Int×Int)}{mk:Int}{ext:List Int}
theorem PW.nd (h:PW bs cs mk ext):(bs.map (·.1)).Nodup:=YS h.asc
theorem PW.perm (h:PW bs cs mk ext){ext':List Int}(p:ext.Perm ext'):PW bs cs mk ext' :=
 ⟨h.keys,h.asc,h.pos,h.down,λi k e=>(h.cnt i k e).trans (by rw[(p.append_left _).count_eq]),λi hi=>h.clo i ((p.append_left _).mem_iff.2 hi)⟩
theorem PW.len (h:PW bs cs mk ext):cs.length=bs.length:=by
 have:=congrArg m7 h.keys
 simpa using this
theorem PW.at_ (h:PW bs cs mk ext){i:Int}(hi:i∈yG bs++ext):∃ c k,get bs i=some c/\get cs i=some k/\1<=k:=by
 have h1:=h.clo i hi
 obtain⟨c,hc⟩:=Ba h1
 obtain⟨k,hk⟩:=Ba (h.keys▸h1)
 exact⟨c,k,hc,hk,by rw[h.cnt i k hk];exact dD.2 (vH.2 hi)⟩
theorem Nk {l l':List (Int×Ct)}(n:(l.map (·.1)).Nodup)(s:l'.Sublist l){i:Int}{c:Ct}(h:get l' i=some c):get l i=some c:=get_of_mem n (s.subset (Ji h))
set_option tactic.hygienic true in
theorem PW.drop {one:Int}{ext':List Int}{c:Ct}(h:PW bs cs mk ext)(hb:get bs one=some c)(hc:get cs one=some 1)(he:ext.Perm (one::ext'))(a:Int):PW (del bs one) (del (put cs one a) one) mk (kids c++ext'):=by
 have P:(yG bs++ext).Perm (one::(yG (del bs one)++(kids c++ext'))):=by
  refine((YW h.nd hb).append he).trans ?_
  refine List.perm_middle.trans ?_
  refine qR _ ?_
  rw[<-aP]
  exact List.perm_append_comm.append_right _
 have hone:(yG (del bs one)++(kids c++ext')).count one=0:=by
  have:=h.cnt one 1 hc
  rw[P.count_eq,pG] at this
  exact(sU (Int.ofNat_inj.1 (show((1:Nat):Int)=_ from this))).symm
 rw[akS]
 refine⟨?_,?_,?_,?_,?_,?_⟩
 ·rw[Jh,Jh,h.keys]
 ·rw[Jh];exact h.asc.filter _
 ·intro i hi
  rw[Jh] at hi
  exact h.pos i (cY.1 hi).1
 ·intro i c' e
  rw[adw] at e
  split at e
  ·cases e
  ·exact h.down i c' e
 ·intro i k e
  rw[adw] at e
  split at e
  ·cases e
  ·rename_i hi
   have:=h.cnt i k e
   rw[P.count_eq,oO (λq=>hi q.symm)] at this
   exact this
 ·intro i hi
  rw[Jh,cY,decide_eq_true_iff]
  refine⟨h.clo i (P.mem_iff.2 (cu _ hi)),?_⟩
  rintro rfl
  exact absurd hi (vJ.1 hone)
set_option tactic.hygienic true in
theorem PW.less {one k:Int}{ext':List Int}(h:PW bs cs mk ext)(hc:get cs one=some k)(he:ext.Perm (one::ext')):PW bs (put cs one (k-1)) mk ext':=by
 have P:(yG bs++ext).Perm (one::(yG bs++ext')):=(he.append_left _).trans iH
 refine⟨(adM _ hc).trans h.keys,h.asc,h.pos,h.down,?_,λi hi=>h.clo i (P.mem_iff.2 (cu _ hi))⟩
 intro i k' e
 rw[Uv] at e
 split at e
 ·rename_i hi
  cases e;subst hi
  have:=h.cnt i k hc
  rw[P.count_eq,pG] at this
  rw[this,Int.natCast_add];exact mV ..
 ·rename_i hi
  have:=h.cnt i k' e
  rw[P.count_eq,oO (λq=>hi q.symm)] at this
  exact this
set_option tactic.hygienic true in
theorem PW.more {one k:Int}(h:PW bs cs mk ext)(hc:get cs one=some k):PW bs (put cs one (k+1)) mk (one::ext):=by
 have P:(yG bs++one::ext).Perm (one::(yG bs++ext)):=iH
 refine⟨(adM _ hc).trans h.keys,h.asc,h.pos,h.down,?_,λi hi=>?_⟩
 ·intro i k' e
  rw[Uv] at e
  split at e
  ·rename_i hi
   cases e;subst hi
   have:=h.cnt i k hc
   rw[P.count_eq,pG,this]
   rfl
  ·rename_i hi
   rw[P.count_eq,oO (λq=>hi q.symm)]
   exact h.cnt i k' e
 ·rcases aM.1 (P.mem_iff.1 hi) with rfl | hi
  ·rw[<-h.keys];exact get_mem hc
  ·exact h.clo i hi
structure Qq (mk:Int)(roots:List Int)(r:Nh)(w:List Int)(bs:List (Int×Ct))(g:Int)(bs':List (Int×Ct))(cs':List (Int×Int)):Prop where
 e:r=some (bs',cs',g+bs.length-bs'.length)
 pw:PW bs' cs' mk roots
 sub:bs'.Sublist bs
 al:(∀ i∈bs.map (·.1),i∈yG bs++(w++roots))->∀ i∈bs'.map (·.1),i∈yG bs'++roots
section
variable {roots w:List Int}{one g:Int}{c:Ct}{r:Nh}{bs':List (Int×Ct)}{cs':List (Int×Int)}
theorem Qs:(w++[one]++roots).Perm (one::(w++roots)):=by rw[aP];exact iH
theorem akT (h:PW bs cs mk (w++[one]++roots))(hc:get bs one=some c)(R:Qq mk roots r (w++kids c) (del bs one) (g+1) bs' cs'):Qq mk roots r (w++[one]) bs g bs' cs' where
 e:=by
  rw[R.e,(show g+1+((del bs one).length:Int)=g+(bs.length:Int) from by rw[<-(show(del bs one).length+1=bs.length from by rw[(YT h.nd hc).length_eq];rfl)];exact(wj ..).trans (j7 ..))]
 pw:=R.pw
 sub:=R.sub.trans List.filter_sublist
 al:=λq=>R.al λi hi=>by
  rw[Jh,cY,decide_eq_true_iff] at hi
  rcases aM.1 (((Qs.append_left _).trans iH).mem_iff.1 (q i hi.1)) with r | r
  ·exact absurd r hi.2
  ·rcases aR.1 (((YW h.nd hc).append_right (w++roots)).mem_iff.1 r) with r | r
   ·rcases aR.1 r with r | r
    ·exact aN _ (aZ _ (aN _ r))
    ·exact aZ _ r
   ·rcases aR.1 r with r | r
    ·exact aN _ (aZ _ (aZ _ r))
    ·exact aN _ (aN _ r)
theorem akU {k:Int}(h:PW bs cs mk (w++[one]++roots))(hk:get cs one=some k)(hk2:0<k-1)(R:Qq mk roots r w bs g bs' cs'):Qq mk roots r (w++[one]) bs g bs' cs' where
 e:=R.e
 pw:=R.pw
 sub:=R.sub
 al:=λq=>R.al λi hi=>by
  rcases aM.1 (((Qs.append_left _).trans iH).mem_iff.1 (q i hi)) with rfl | r
  ·have:=(h.less hk Qs).cnt i (k-1) (by rw[Uv,if_pos rfl])
   rw[this] at hk2
   exact vH.1 (iC.1 hk2)
  ·exact r
end
theorem adN (roots:List Int)(n:Nat):∀ (w:List Int) (bs:List (Int×Ct)) (cs:List (Int×Int)) (g:Int),PW bs cs mk (w++roots)->w.length+(yG bs).length<n->n<=2^20->bs.length<=2^20 ->
  ∃ bs' cs',Qq mk roots (Bm n w bs cs g) w bs g bs' cs':=by
 induction n with
 | zero=>intro _ _ _ _ _ hn;exact absurd hn (iW _)
 | succ n ih =>
  intro w bs cs g h hn hz hb
  have JM:w.length<=2^20/\bs.length<=2^20/\cs.length<=2^20:=⟨(aj (aQ (aK (aF ..) hn)) hz:w.length<=2^20),hb,by rw[h.len];exact hb⟩
  rcases oN w with rfl | ⟨w,one,rfl⟩
  ·exact⟨bs,cs,by show(if _ then some (bs,cs,g) else none)=_;rw[if_pos JM,mV],h,tM _,λq=>q⟩
  ·rw[oV] at *
   obtain⟨c,k,hc,hk,hk1⟩:=h.at_ (i:=one) (by simp)
   rw[adB JM jH,adD hc hk,lR,(rE (vg hk1):max 0 (k-1)=k-1)]
   rw[aG,dJ,cA] at hn
   have hn:=nY hn
   have hz:=dU hz
   by_cases e:k-1=0
   ·have pk:=(YW h.nd hc).length_eq
    rw[aG] at pk
    rw[pk] at hn
    rw[if_pos e,if_pos (aj (aj (aF ..) (aQ (aK (eF ..) hn))) hz)]
    obtain⟨bs',cs',R⟩:=ih (w++kids c) (del bs one) (del (put cs one (k-1)) one) (g+1)
     ((h.drop hc (Int.eq_of_sub_eq_zero e▸hk) Qs _).perm (by rw[<-aP];exact List.perm_append_comm.append_right _)) (by rw[aG,dW];exact hn) hz (aj (oH ..) hb:(del bs one).length<=2^20)
    exact⟨bs',cs',akT h hc R⟩
   ·rw[if_neg e]
    obtain⟨bs',cs',R⟩:=ih w bs (put cs one (k-1)) g (h.less hk Qs) hn hz hb
    exact⟨bs',cs',akU h hk (Int.lt_iff_le_and_ne.2 ⟨vg hk1,λq=>e q.symm⟩) R⟩
end
section
variable {bs:List (Int×Ct)}{cs:List (Int×Int)}{mk:Int}{ext:List Int}
theorem YX (a b:List (Int×Ct)):yG (a++b)=yG a++yG b:=by unfold yG;rw[vf]
theorem Qt {i k:Int}{c:Ct}(h:get bs i=some c)(hk:k∈kids c):k∈yG bs:=lG.2 ⟨_,Ji h,hk⟩
theorem adO (rows:List (Str×Int)){cs:List (Int×Int)}{ext:List Int}(h:PW bs cs mk ext)(hr:∀ r∈rows,r.2∈bs.map (·.1)):∃ cs',Ft cs rows=some cs'/\PW bs cs' mk (rows.map (·.2)++ext):=by
 induction rows generalizing cs ext with
 | nil=>exact⟨cs,rfl,h⟩
 | cons r rows ih =>
  obtain⟨k,hk⟩:=Ba (l:=cs) (i:=r.2) (h.keys▸hr r (d7 ..))
  obtain⟨cs',e,h'⟩:=ih (h.more hk) λq hq=>hr q (cu _ hq)
  refine⟨cs',by show(match get cs r.2 with | some k=>Ft (put cs r.2 (k+1)) rows | none=>none)=_;rw[hk];exact e,h'.perm ?_⟩
  rw[bJ,List.cons_append]
  exact iH
theorem GJ {a b:Int}(h:a<=b):a<b+1:=lV h
theorem YZ {a:Int}(h:a+1<=a):False:=v9.2 (GJ (jL a)) h
theorem pos1 {a i:Int}(h:1<=i/\i<=a):1<=i/\i<=a+1:=⟨h.1,iG (GJ h.2)⟩
theorem new1 {a i:Int}(h:0<=a)(e:i=a+1):1<=i/\i<=a+1:=by rw[e];exact⟨lW h 1,jL _⟩
theorem PW.UL (h:PW bs cs mk ext):mk+1∉bs.map (·.1):=λq=>YZ (h.pos _ q).2
theorem PW.Y0 (h:PW bs cs mk ext):mk+1∉cs.map (·.1):=h.keys▸h.UL
set_option tactic.hygienic true in
theorem PW.fresh {c:Ct}(h:PW bs cs mk (kids c++ext))(h0:0<=mk):PW (bs++[(mk+1,c)]) (cs++[(mk+1,0)]) (mk+1) ext:=by
 have ek:yG (bs++[(mk+1,c)])=yG bs++kids c:=by rw[YX];simp [yG]
 have hpos:∀ i∈bs.map (·.1),i<=mk:=λi hi=>(h.pos i hi).2
 refine⟨by simp [h.keys],?_,?_,?_,?_,?_⟩
 ·rw[aX,bN]
  refine⟨h.asc,by simp,λa ha b hb=>?_⟩
  simp only[bJ,gq,aC] at hb
  rw[hb];exact GJ (hpos a ha)
 ·intro i hi
  rw[aX,aR] at hi
  rcases hi with hi | hi
  ·exact pos1 (h.pos i hi)
  ·simp only[bJ,gq,aC] at hi
   exact new1 h0 hi
 ·intro i c' e k hk
  rw[get_append] at e
  cases q:get bs i with
  | some c2=>rw[q] at e;cases e;exact h.down i _ q k hk
  | none =>
   rw[q,rK,Dm] at e
   split at e
   ·rename_i hi
    cases e
    have:=hpos k (h.clo k (by simp [hk]))
    simp only at hi
    rw[<-hi];exact GJ this
   ·cases e
 ·intro i k e
  rw[ek,aP]
  rw[get_append] at e
  cases q:get cs i with
  | some c2=>rw[q] at e;cases e;exact h.cnt i _ q
  | none =>
   rw[q,rK,Dm] at e
   split at e
   ·rename_i hi
    cases e
    simp only at hi
    have:i∉yG bs++(kids c++ext):=λz=>by have:=hpos i (h.clo i z);rw[<-hi] at this;exact YZ this
    rw[vJ.2 this];rfl
   ·cases e
 ·intro i hi
  rw[ek,aP] at hi
  rw[aX]
  exact aZ _ (h.clo i hi)
noncomputable def Bb (W:Nat->List (Str×Int))(N:Nat->Str):Nat->Int->Int->List (Int×Ct)
 | 0,_,_=>[]
 | j+1,mk,box=>(mk+1,.br (zX (W j) (N j) box))::Bb W N j (mk+1) (mk+1)
noncomputable def Jj (j:Nat)(mk box:Int):Int:=if j=0 then box else mk+j
theorem Y4 {rows:List (Str×Int)}{n:Str}{b:Int}{r:Str×Int}(h:r∈zX rows n b):r∈rows\/r=(n,b):=by
 unfold zX at h
 simp only[aR,cY,aC] at h
 rcases h with (h | h) | h
 ·exact .inl h.1
 ·exact .inr h
 ·exact .inl h.1
theorem adP (rows:List (Str×Int))(n:Str)(b:Int):(zX rows n b).length<=rows.length+1:=by
 unfold zX
 rw[aG,aG]
 have:(rows.filter λr=>yS r.1 n).length+(rows.filter λr=>yS n r.1).length<=rows.length:=by
  induction rows with
  | nil=>simp
  | cons r rows ih =>
   rw[fY,fY]
   cases h1:yS r.1 n with
   | false =>
    cases h2:yS n r.1 with
    | false=>simp only[dF,if_neg (cZ)];exact dR ih
    | true=>simp only[dF,if_neg (cZ),if_true];exact aU ih
   | true =>
    cases h2:yS n r.1 with
    | false=>simp only[dF,if_neg (cZ),if_true];rw[cA];exact aU ih
    | true =>
     unfold yS at h1 h2
     rw[decide_eq_true_iff] at h1 h2
     exact absurd h2 (tZ h1)
 skip;rw[cA];exact aU this
theorem akV (rows:List (Str×Int))(n:Str)(b:Int):(n,b)∈zX rows n b:=by unfold zX;simp
theorem up1 (a:Int)(j:Nat):a+1+(j:Int)=a+((j+1:Nat):Int):=(wj a 1 j).trans (j7 a j 1)
set_option tactic.hygienic true in
theorem Y5 (mk:Int)(j:Nat):Jj j mk mk=mk+j:=by
 unfold Jj
 split
 ·rename_i q;subst q;exact(n7 mk).symm
 ·rfl
theorem UW (mk box:Int)(j:Nat):Jj (j+1) mk box=Jj j (mk+1) (mk+1):=(if_neg (Nat.succ_ne_zero j)).trans ((up1 mk j).symm.trans (Y5 (mk+1) j).symm)
theorem akW {c:Ct}{box:Int}(ha:∀ i∈bs.map (·.1),i≠box->i∈yG bs++ext)(hb:box∈kids c):∀ i∈(bs++[(mk+1,c)]).map (·.1),i≠mk+1->i∈yG (bs++[(mk+1,c)])++ext:=λi hi hne=>by
 rw[YX]
 rw[aX] at hi
 rcases aR.1 hi with hi | hi
 ·by_cases e:i=box
  ·exact aZ _ (aN _ (aZ _ (e▸hb)))
  ·rcases aR.1 (ha i hi e) with q | q
   ·exact aZ _ (aZ _ q)
   ·exact aN _ q
 ·exact absurd (aC.1 hi) hne
structure Jl (ext:List Int)(W:Nat->List (Str×Int))(N:Nat->Str)(j:Nat)(bs:List (Int×Ct))(mk box:Int)(r:Option (List (Int×Ct)×List (Int×Int)×Int×Int))(cs':List (Int×Int)):Prop where
 e:r=some (bs++Bb W N j mk box,cs',mk+j,Jj j mk box)
 pw:PW (bs++Bb W N j mk box) cs' (mk+j) ext
 top:Jj j mk box∈(bs++Bb W N j mk box).map (·.1)
 al:∀ i∈(bs++Bb W N j mk box).map (·.1),i≠Jj j mk box->i∈yG (bs++Bb W N j mk box)++ext
section
variable {W:Nat->List (Str×Int)}{N:Nat->Str}{R:Nat}
theorem Jl.zero {box:Int}(h:PW bs cs mk ext)(hx:box∈bs.map (·.1))(ha:∀ i∈bs.map (·.1),i≠box->i∈yG bs++ext):Jl ext W N 0 bs mk box (some (bs,cs,mk,box)) cs:=by
 have e:bs++Bb W N 0 mk box=bs:=aY _
 have e0:mk+((0:Nat):Int)=mk:=n7 _
 refine⟨?_,?_,?_,?_⟩
 ·rw[e,e0];rfl
 ·rw[e,e0];exact h
 ·rw[e];exact hx
 ·rw[e];exact ha
theorem Jl.succ {j:Nat}{box:Int}{r:Option (List (Int×Ct)×List (Int×Int)×Int×Int)}{cs':List (Int×Int)}(B:Jl ext W N j (bs++[(mk+1,.br (zX (W j) (N j) box))]) (mk+1) (mk+1) r cs'):Jl ext W N (j+1) bs mk box r cs':=by
 have en:bs++Bb W N (j+1) mk box=bs++[(mk+1,.br (zX (W j) (N j) box))]++Bb W N j (mk+1) (mk+1):=(aP bs [_] _).symm
 refine⟨?_,?_,?_,?_⟩
 ·rw[en,UW,<-up1];exact B.e
 ·rw[en,<-up1];exact B.pw
 ·rw[en,UW];exact B.top
 ·rw[en,UW];exact B.al
theorem akX (j:Nat):∀ {bs:List (Int×Ct)} {cs:List (Int×Int)} {mk box:Int},PW bs cs mk ext->0<=mk->box∈bs.map (·.1)->(∀ k<j,∀ r∈W k,r.2∈bs.map (·.1))->(∀ k<j,(W k).length<=R)->R<2^20->bs.length+j<=2^20 ->
  (∀ i∈bs.map (·.1),i≠box->i∈yG bs++ext)->∃ cs',Jl ext W N j bs mk box (build W N j bs cs mk box) cs':=by
 induction j with
 | zero=>intro bs cs mk box h _ hx _ _ _ _ ha;exact⟨cs,Jl.zero h hx ha⟩
 | succ j ih =>
  intro bs cs mk box h h0 hx hW hR hz hl ha
  have adQ:∀ r∈zX (W j) (N j) box,r.2∈bs.map (·.1):=λr hr=>by
   rcases Y4 hr with hr | rfl
   ·exact hW j (bV j) r hr
   ·exact hx
  obtain⟨cs',e1,p1⟩:=adO (zX (W j) (N j) box) h adQ
  obtain⟨Dn,B⟩:=ih (PW.fresh (c:=.br (zX (W j) (N j) box)) p1 h0) (iG (lV h0)) (box:=mk+1) (by rw[aX];exact aN _ (aC.2 rfl)) (λk hk r hr=>by rw[aX];exact aZ _ (hW k (eZ hk) r hr)) (λk hk=>hR k (eZ hk)) hz (by rw[aG,dJ,cA];exact hl) (akW ha (aO.2 ⟨_,akV ..,rfl⟩))
  refine⟨Dn,Jl.succ ?_⟩
  have l2:=hR j (bV j)
  have zb:=aj (aF ..) hl
  have l3:((zX (W j) (N j) box).all λr=>(get bs r.2).isSome)=true:=fD.2 λr hr=>by
   obtain⟨c,hc⟩:=Ba (adQ r hr)
   rw[hc];rfl
  rw[show build W N (j+1) bs cs mk box=build W N j (bs++[(mk+1,.br (zX (W j) (N j) box))]) (cs'++[(mk+1,0)]) (mk+1) (mk+1) from(if_pos ⟨zb,by rw[h.len];exact zb,aj l2 (aQ hz),aj (adP ..) (aj (aU l2) hz),l3⟩).trans (by rw[e1,<-Kz _ h.UL,<-Kz _ p1.Y0])]
  exact B
end
theorem Qu (h:PW bs cs mk ext)(xs:List Str){box:Int}(hb:box∈bs.map (·.1)):∃ r,find bs box xs=some r/\∀ b,r=some b->b∈bs.map (·.1):=by
 induction xs generalizing box with
 | nil=>exact⟨some box,rfl,λb e=>by cases e;exact hb⟩
 | cons n r ih =>
  obtain⟨c,hc⟩:=Ba hb
  show ∃ z,(match get bs box with | some (.leaf _)=>some none | some (.br rows)=>(match rowOf rows n with | some b=>find bs b r | none=>some none) | none=>none)=some z/\_
  rw[hc]
  cases c with
  | leaf m=>exact⟨none,rfl,(λuu zz=>by cases zz)⟩
  | br rows =>
   simp only
   cases q:rowOf rows n with
   | none=>exact⟨none,rfl,(λuu zz=>by cases zz)⟩
   | some b =>
    refine ih (h.clo b (aZ _ (Qt hc ?_)))
    obtain⟨p,hp,rfl⟩:=bG.1 q
    exact aO.2 ⟨p,jU hp,rfl⟩
set_option tactic.hygienic true in
theorem Y6 (h:PW bs cs mk ext){tree:Int}{xs:List Str}{k:Nat}{rows:List (Str×Int)}(hw:zA bs tree xs k=some rows):∀ r∈rows,r.2∈bs.map (·.1):=by
 unfold zA at hw
 cases q:find bs tree (xs.take k) with
 | none=>rw[q] at hw;cases hw
 | some o =>
  rw[q] at hw
  cases o with
  | none=>cases hw;exact λr hr=>absurd hr aH
  | some b =>
   cases q2:get bs b with
   | none=>dsimp only at hw;rw[q2] at hw;cases hw
   | some c =>
    dsimp only at hw
    rw[q2] at hw
    cases c with
    | leaf m=>cases hw
    | br rs=>cases hw;exact λr hr=>h.clo _ (aZ _ (Qt q2 (aO.2 ⟨r,hr,rfl⟩)))
theorem akY (l:List Int):∀ (a m:Int),a<=m+1->l.Pairwise (·<·)->(∀ i∈l,a<=i/\i<=m)->(l.length:Int)+a<=m+1:=by
 induction l with
 | nil=>intro a m hm _ _;exact(qT a).symm▸hm
 | cons x l ih =>
  intro a m hm hp hi
  have hx:=hi x (d7 ..)
  have:=ih (x+1) m (lW hx.2 1) (cX.1 hp).2 λi hi'=>⟨(cX.1 hp).1 i hi',(hi i (cu _ hi')).2⟩
  rw[mK x 1,<-j7] at this
  exact iD (mF hx.1 _) this
theorem PW.count (h:PW bs cs mk ext)(h0:0<=mk):(bs.length:Int)<=mk:=by
 have:=akY (bs.map (·.1)) 1 mk (lW h0 1) h.asc h.pos
 rw[aA] at this
 exact Int.le_of_add_le_add_right this
theorem akZ {R:Nat}(h:∀ p∈bs,(kids p.2).length<=R):(yG bs).length<=bs.length*R:=by
 unfold yG
 induction bs with
 | nil=>simp
 | cons p bs ih =>
  rw[v7,aG,dF,Nat.add_mul,Nat.one_mul]
  rw[dH (kids p.2).length]
  exact cI (ih λq hq=>h q (cu _ hq)) (h p (d7 ..))
end
structure w7 where
 bs:List (Int×Ct)
 cs:List (Int×Int)
 made:Int
 tree:Int
 wL:List (Int×Int)
 last:Int
noncomputable def w7.roots (s:w7):List Int:=s.tree::s.wL.map (·.2)
def xK (R:Nat)(rows:List (Str×Int)):Prop:=rows.length<=R/\(rows.Pairwise λa b=>yS a.1 b.1=true)/\∀ r∈rows,Good r.1
def Bk (R:Nat)(bs:List (Int×Ct)):Prop:=∀ i rows,get bs i=some (.br rows)->xK R rows
structure SW (R:Nat)(s:w7):Prop where
 pw:PW s.bs s.cs s.made s.roots
 al:∀ i∈s.bs.map (·.1),i∈yG s.bs++s.roots
 rt:∀ i∈s.roots,∃ rows,get s.bs i=some (.br rows)
 sa:(s.wL.map (·.1)).Pairwise (·<·)
 sp:∀ i∈s.wL.map (·.1),1<=i/\i<=s.last
 sl:0<=s.last
 ro:Bk R s.bs
section
variable {bs:List (Int×Ct)}{cs:List (Int×Int)}{mk:Int}{R:Nat}{s:w7}
theorem SW.Jm (h:SW R s):s.tree∈s.bs.map (·.1):=h.pw.clo _ (by simp [w7.roots])
theorem SW.mk1 (h:SW R s):1<=s.made:=have q:=h.pw.pos _ h.Jm;iD q.1 q.2
theorem SW.len (h:SW R s):(s.bs.length:Int)<=s.made:=h.pw.count (iD (by decide) h.mk1)
theorem adR {a b c:Str}(h1:yS a b=true)(h2:yS b c=true):yS a c=true:=by
 unfold yS at *
 rw[decide_eq_true_iff] at *
 exact List.lt_trans h1 h2
theorem ak0 {rows:List (Str×Int)}(n:Str)(b:Int)(h:rows.Pairwise λa b=>yS a.1 b.1=true):(zX rows n b).Pairwise λa b=>yS a.1 b.1=true:=by
 unfold zX
 rw[aP,bN]
 refine⟨h.filter _,?_,λx hx y hy=>?_⟩
 ·rw[oG,cX]
  exact⟨λy hy=>(cY.1 hy).2,h.filter _⟩
 ·have h1:=(cY.1 hx).2
  rcases aR.1 hy with hy | hy
  ·rw[aC.1 hy];exact h1
  ·exact adR h1 (cY.1 hy).2
theorem ak1 {W:Nat->List (Str×Int)}{N:Nat->Str}(j:Nat){mk box:Int}(h:∀ k<j,xK R (W k)/\Good (N k))(p:Int×Ct)(hp:p∈Bb W N j mk box):∃ rows,p.2=.br rows/\xK (R+1) rows:=by
 induction j generalizing mk box with
 | zero=>cases hp
 | succ j ih =>
  rcases aM.1 hp with rfl | hp
  ·obtain⟨⟨h1,h2,h3⟩,h4⟩:=h j (bV j)
   refine⟨_,rfl,aj (adP ..) (aU h1),ak0 _ _ h2,λr hr=>?_⟩
   rcases Y4 hr with hr | rfl
   ·exact h3 r hr
   ·exact h4
  ·exact ih (λk hk=>h k (eZ hk)) hp
theorem Bk.mono {R':Nat}(h:Bk R bs)(hR:R<=R'):Bk R' bs:=λi rows e=>⟨aj (h i rows e).1 hR,(h i rows e).2⟩
theorem Bk.kids (h:Bk R bs)(n:(bs.map (·.1)).Nodup):∀ p∈bs,(wC.kids p.2).length<=R:=by
 intro p hp
 obtain⟨i,c⟩:=p
 cases c with
 | leaf m=>simp [wC.kids]
 | br rows=>simpa [wC.kids] using (h i rows (get_of_mem n hp)).1
theorem Bk.sub (h:Bk R bs)(n:(bs.map (·.1)).Nodup){bs':List (Int×Ct)}(s:bs'.Sublist bs):Bk R bs':=λi rows e=>h i rows (Nk n s e)
theorem Bk.app (h:Bk R bs){bs':List (Int×Ct)}(h':∀ p∈bs',∀ rows,p.2=.br rows->xK R rows):Bk R (bs++bs'):=λi rows e=>by
 rw[get_append] at e
 cases q:get bs i with
 | some c=>rw[q] at e;cases e;exact h i rows q
 | none=>rw[q,rK] at e;exact h' _ (Ji e) rows rfl
structure Chg (bs:List (Int×Ct))(cs:List (Int×Int))(mk tree box:Int)(rest:List Int)(c:Ct)(k:Int)(c2:Ct)(n:Nat)(bs':List (Int×Ct))(cs':List (Int×Int)):Prop where
 gc:get bs box=some c
 gk:get cs box=some k
 Y7:get bs tree=some c2
 go:Bm n [tree] bs (put cs box (k+1)) 0=some (bs',cs',(bs.length:Int)-bs'.length)
 pw:PW bs' cs' mk (box::rest)
 sub:bs'.Sublist bs
 al:∀ i∈bs'.map (·.1),i∈yG bs'++box::rest
theorem Y8 (ro:Bk R bs)(nd:(bs.map (·.1)).Nodup)(hz:bs.length*(R+1)+2<=2^20):(yG bs).length+2<=2^20/\bs.length<=2^20 :=
 ⟨aj (bw (aj (akZ (ro.kids nd)) (fM _ (dX R))) 2) hz,aj (nO _ (eU R)) (aj (aF _ 2) hz)⟩
theorem Tv (t:Int)(n:Nat):[t].length+n<n+2:=by rw[dJ,dH];exact bV _
theorem adS {tree box:Int}{rest:List Int}(h:PW bs cs mk (tree::rest))(hx:box∈bs.map (·.1))(al:∀ i∈bs.map (·.1),i≠box->i∈yG bs++tree::rest)(ro:Bk R bs)(hz:bs.length*(R+1)+2<=2^20) :
  ∃ c k c2 n bs' cs',Chg bs cs mk tree box rest c k c2 n bs' cs':=by
 obtain⟨c,hc⟩:=Ba hx
 obtain⟨k,hk⟩:=Ba (l:=cs) (h.keys▸hx)
 obtain⟨c2,hc2⟩:=Ba (h.clo tree (aN _ (d7 ..)))
 obtain⟨bs',cs',L⟩:=adN (box::rest) ((yG bs).length+2) [tree] bs _ 0 ((h.more hk).perm (ext':=[tree]++(box::rest)) (qQ ..)) (Tv ..) (Y8 ro h.nd hz).1 (Y8 ro h.nd hz).2
 refine⟨c,k,c2,_,bs',cs',hc,hk,hc2,by rw[L.e,qT],L.pw,L.sub,L.al λi hi=>?_⟩
 by_cases q:i=box
 ·exact aN _ (cu _ (q▸d7 ..))
 ·rcases aR.1 (al i hi q) with r | r
  ·exact aZ _ r
  ·rcases aM.1 r with r | r
   ·exact aN _ (r▸d7 ..)
   ·exact aN _ (cu _ (cu _ r))
theorem Y9 {bs':List (Int×Ct)}{cs':List (Int×Int)}{ext:List Int}(n:(bs.map (·.1)).Nodup)(s:bs'.Sublist bs)(h:PW bs' cs' mk ext){i:Int}(hi:i∈ext){c:Ct}(e:get bs i=some c):get bs' i=some c:=by
 obtain⟨c',e'⟩:=Ba (h.clo i (aN _ hi))
 rw[Nk n s e'] at e
 rw[e',e]
theorem adT {W:Nat->List (Str×Int)}{N:Nat->Str}:∀ (j:Nat) {mk box:Int},j≠0->∃ rows,(mk+j,Ct.br rows)∈Bb W N j mk box
 | 0,_,_,h=>absurd rfl h
 | 1,mk,box,_=>⟨_,d7 ..⟩
 | j+2,mk,box,_=>by
  obtain⟨rows,h⟩:=adT (W:=W) (N:=N) (j+1) (mk:=mk+1) (box:=mk+1) (Nat.succ_ne_zero j)
  refine⟨rows,cu _ ?_⟩
  rw[show mk+((j+2:Nat):Int)=mk+1+((j+1:Nat):Int) by rw[j7,mK 1];rfl]
  exact h
theorem adU {W:Nat->List (Str×Int)}{N:Nat->Str}:∀ (j:Nat) (mk box:Int),(Bb W N j mk box).length=j
 | 0,_,_=>rfl
 | j+1,mk,box=>by rw[Bb,dF,adU j]
noncomputable def yV (s:w7)(c:Ct)(W:Nat->List (Str×Int))(N:Nat->Str)(j:Nat):List (Int×Ct):=s.bs++[(s.made+1,c)]++Bb W N j (s.made+1) (s.made+1)
structure Made (R:Nat)(s:w7)(c:Ct)(W:Nat->List (Str×Int))(N:Nat->Str)(j:Nat)(CW yM:List (Int×Int))(k1:Int)(n:Nat)(s':w7):Prop where
 bu:build W N j (s.bs++[(s.made+1,c)]) (CW++[(s.made+1,0)]) (s.made+1) (s.made+1)=some (yV s c W N j,yM,s'.made,s'.made)
 top:∃ c1,get (yV s c W N j) s'.made=some c1
 cnt:get yM s'.made=some k1
 len:yM.length<=2^20
 old:∃ c2,get (yV s c W N j) s.tree=some c2
 go:Bm n [s.tree] (yV s c W N j) (put yM s'.made (k1+1)) 0=some (s'.bs,s'.cs,(s.bs.length:Int)+1+j-s'.bs.length)
 sw:SW (R+1) s'
 made:s'.made=s.made+1+j
 tree:s'.tree=s'.made
 wL:s'.wL=s.wL
 last:s'.last=s.last
 sub:s'.bs.Sublist (yV s c W N j)
theorem Za {a R:Nat}(h:a*(R+2)+2<=2^20):a<=2^20:=aj (nO a (eU _)) (aj (aF _ 2) h)
theorem Np {a R:Nat}(h:(a+1)*(R+2)+2<=2^20):R+2<=2^20:=aj (uL _ (eU _)) (aj (aF _ 2) h)
theorem Qv {a b R:Nat}(hab:a<=b)(h:b*(R+2)+2<=2^20):a*(R+2)+2<=2^20:=aj (bw (dg _ hab) 2) h
theorem SW.Qw (h:SW R s):0<=s.made:=iD (by decide) h.mk1
theorem SW.Qx (h:SW R s):s.bs.length<=s.made.toNat:=(Int.le_toNat h.Qw).2 h.len
set_option tactic.hygienic true in
theorem SW.way (h:SW R s){xs:List Str}{k:Nat}{rows:List (Str×Int)}(e:zA s.bs s.tree xs k=some rows):xK R rows:=by
 unfold zA at e
 split at e
 ·cases e;exact⟨bL _,.nil,by simp⟩
 ·split at e
  ·rename_i hb;cases e;exact h.ro _ _ hb
  ·cases e
 ·cases e
section
variable {c:Ct}{W:Nat->List (Str×Int)}{N:Nat->Str}{j:Nat}
theorem Zb:(yV s c W N j).length=s.bs.length+1+j:=by
 unfold yV;rw[aG,aG,adU];rfl
theorem ak2 (h:SW R s)(hc:∀ rows,c=.br rows->xK (R+1) rows)(hw:∀ k<j,xK R (W k)/\Good (N k)):Bk (R+1) (yV s c W N j) :=
 ((h.ro.mono (dX R)).app λp hp rows e=>hc rows (by rw[aC.1 hp] at e;exact e)).app λp hp rows e=>by
  obtain⟨Zc,e',q⟩:=ak1 j hw p hp
  rw[e'] at e;cases e;exact q
theorem ak3 (hj:j≠0\/∃ rows,c=.br rows):∃ rows,(s.made+1+j,Ct.br rows)∈yV s c W N j:=by
 by_cases q:j=0
 ·subst q
  rcases hj with hj | ⟨rows,rfl⟩
  ·exact absurd rfl hj
  ·exact⟨rows,aZ _ (aN _ (by rw[show s.made+1+((0:Nat):Int)=s.made+1 from n7 _];exact aC.2 rfl))⟩
 ·obtain⟨rows,hr⟩:=adT (W:=W) (N:=N) j (mk:=s.made+1) (box:=s.made+1) q
  exact⟨rows,aN _ hr⟩
theorem ak4 (h:SW R s):∀ i∈(s.bs++[(s.made+1,c)]).map (·.1),i≠s.made+1->i∈yG (s.bs++[(s.made+1,c)])++s.roots:=λi hi hne=>by
 rw[YX]
 rw[aX] at hi
 rcases aR.1 hi with hi | hi
 ·rcases aR.1 (h.al i hi) with r | r
  ·exact aZ _ (aZ _ r)
  ·exact aN _ r
 ·exact absurd (aC.1 hi) hne
structure Blt (s:w7)(c:Ct)(W:Nat->List (Str×Int))(N:Nat->Str)(j:Nat)(CW yM:List (Int×Int)):Prop where
 bu:build W N j (s.bs++[(s.made+1,c)]) (CW++[(s.made+1,0)]) (s.made+1) (s.made+1)=some (yV s c W N j,yM,s.made+1+j,s.made+1+j)
 pw:PW (yV s c W N j) yM (s.made+1+j) s.roots
 top:s.made+1+j∈(yV s c W N j).map (·.1)
 al:∀ i∈(yV s c W N j).map (·.1),i≠s.made+1+j->i∈yG (yV s c W N j)++s.roots
theorem XR (h:SW R s){xs:List Str}(hW:∀ k<j,zA s.bs s.tree xs k=some (W k))(hz:(s.made.toNat+j+1)*(R+2)+2<=2^20)(hl:s.bs.length+1+j<=2^20){CW:List (Int×Int)}(h0:PW s.bs CW s.made (kids c++s.roots)):∃ yM,Blt s c W N j CW yM:=by
 obtain⟨yM,e1,p1,t1,a1⟩:=akX (W:=W) (N:=N) (R:=R) j (PW.fresh h0 h.Qw) (iG (lV h.Qw)) (box:=s.made+1) (by simp) (λk hk' r hr=>by rw[aX];exact aZ _ (Y6 h.pw (hW k hk') r hr)) (λk hk'=>(h.way (hW k hk')).1) (aB (cQ (by decide)) (Np hz)) (by rw[aG];exact hl) (ak4 h)
 rw[Y5] at e1 t1 a1
 exact⟨yM,e1,p1,t1,a1⟩
end
theorem adV (h:SW R s){c:Ct}(hc:∀ rows,c=.br rows->xK (R+1) rows){xs:List Str}{W:Nat->List (Str×Int)}{N:Nat->Str}{j:Nat}(hj:j≠0\/∃ rows,c=.br rows)
  (hW:∀ k<j,zA s.bs s.tree xs k=some (W k)) (hN:∀ k<j,Good (N k)) (hz:(s.made.toNat+j+1)*(R+2)+2<=2^20) {CW:List (Int×Int)} (h0:PW s.bs CW s.made (kids c++s.roots)) :
  ∃ yM k1 n s',Made R s c W N j CW yM k1 n s':=by
 have hb:s.bs.length+1+j<=s.made.toNat+j+1:=by rw[cA];exact aU (bw h.Qx j)
 have hl:=aj hb (Za hz)
 obtain⟨yM,B⟩:=XR (N:=N) h hW hz hl h0
 have ro1:=ak2 h hc λk hk'=>⟨h.way (hW k hk'),hN k hk'⟩
 obtain⟨rows,hr⟩:=ak3 (s:=s) (W:=W) (N:=N) hj
 have hln:((yV s c W N j).length:Int)=(s.bs.length:Int)+1+j:=congrArg Int.ofNat Zb
 have hrt:∀ i∈s.wL.map (·.2),∃ rows,(i,Ct.br rows)∈yV s c W N j:=λi hi=>by
  obtain⟨rows,e⟩:=h.rt i (cu _ hi)
  exact⟨rows,aZ _ (aZ _ (Ji e))⟩
 obtain⟨c1,k1,c2,n,bs',cs',g⟩:=adS B.pw B.top B.al ro1 (show(yV s c W N j).length*(R+1+1)+2<=2^20 from by rw[Zb];exact Qv hb hz)
 have g4:=g.go
 rw[hln] at g4
 refine⟨yM,k1,n,⟨bs',cs',s.made+1+j,s.made+1+j,s.wL,s.last⟩,B.bu,⟨c1,g.gc⟩,g.gk,(show yM.length<=2^20 from by rw[B.pw.len,Zb];exact hl),⟨c2,g.Y7⟩,g4,⟨g.pw,g.al,λi hi=>?_,h.sa,h.sp,h.sl,ro1.sub B.pw.nd g.sub⟩,rfl,rfl,rfl,rfl,g.sub⟩
 have sr:∀ rows,(i,Ct.br rows)∈yV s c W N j->∃ rows,get bs' i=some (.br rows):=λrows hr=>⟨rows,Y9 B.pw.nd g.sub g.pw hi (get_of_mem B.pw.nd hr)⟩
 rcases aM.1 hi with rfl | hi
 ·exact sr rows hr
 ·obtain⟨rows,hr⟩:=hrt i hi
  exact sr rows hr
end
section
variable {R:Nat}{s:w7}
theorem SW.snap (h:SW R s):∃ c k,get s.bs s.tree=some c/\get s.cs s.tree=some k/\SW R { s with cs:=put s.cs s.tree (k+1),wL:=put s.wL (s.last+1) s.tree,last:=s.last+1 }:=by
 obtain⟨c,hc⟩:=Ba h.Jm
 obtain⟨k,hk⟩:=Ba (l:=s.cs) (h.pw.keys▸h.Jm)
 have er:(w7.roots { s with cs:=put s.cs s.tree (k+1),wL:=s.wL++[(s.last+1,s.tree)],last:=s.last+1 })=s.tree::(s.wL.map (·.2)++[s.tree]):=by simp [w7.roots]
 refine⟨c,k,hc,hk,?_⟩
 rw[(Kz _ λq=>YZ (h.sp _ q).2:put s.wL (s.last+1) s.tree=s.wL++[(s.last+1,s.tree)])]
 refine⟨?_,?_,?_,?_,?_,?_,h.ro⟩
 ·rw[er]
  refine(h.pw.more hk).perm ?_
  refine qR _ ?_
  exact(lE (l₁:=[s.tree])).trans (lU _)
 ·intro i hi
  rw[er]
  have:=h.al i hi
  simp only[w7.roots,aR,aM] at this ⊢
  rcases this with r | r | r <;> simp [r]
 ·rw[er]
  intro i hi
  refine h.rt i ?_
  simp only[w7.roots,aR,aM,aH,or_false] at hi ⊢
  rcases hi with r | r | r <;> simp [r]
 ·rw[aX,bN]
  refine⟨h.sa,by simp,λa ha b hb=>?_⟩
  simp only[bJ,gq,aC] at hb
  rw[hb];exact GJ (h.sp a ha).2
 ·intro i hi
  rw[aX,aR] at hi
  rcases hi with hi | hi
  ·exact pos1 (h.sp i hi)
  ·simp only[bJ,gq,aC] at hi
   exact new1 h.sl hi
 ·skip
  exact iG (GJ h.sl)
theorem SW.room (h:SW R s)(hz:s.made.toNat*(R+1)+2<=2^20):s.bs.length*(R+1)+2<=2^20:=aj (bw (dg _ h.Qx) 2) hz
theorem SW.drop (h:SW R s){n box:Int}(e:get s.wL n=some box)(hz:s.made.toNat*(R+1)+2<=2^20) :
  ∃ c N bs' cs',get s.bs box=some c/\Bm N [box] s.bs s.cs 0=some (bs',cs',(s.bs.length:Int)-bs'.length)/\SW R { s with bs:=bs',cs:=cs',wL:=del s.wL n }/\bs'.Sublist s.bs:=by
 have hm:box∈s.roots:=cu _ (aO.2 ⟨_,Ji e,rfl⟩)
 obtain⟨c,hc⟩:=Ba (h.pw.clo box (aN _ hm))
 have pr:s.roots.Perm ([box]++(s.tree::(del s.wL n).map (·.2))) :=
  (((YT (YS h.sa) e).map (λp:Int×Int=>p.2)).cons s.tree).trans (qQ box s.tree _)
 have rm:=Y8 h.ro h.pw.nd (h.room hz)
 obtain⟨bs',cs',e1,e2,e3,e4⟩:=adN (s.tree::(del s.wL n).map (·.2)) ((yG s.bs).length+2) [box] s.bs s.cs 0 (h.pw.perm pr) (Tv ..) rm.1 rm.2
 refine⟨c,_,bs',cs',hc,by rw[e1,qT],⟨e2,e4 λi hi=>?_,λi hi=>?_,?_,λi hi=>?_,h.sl,h.ro.sub h.pw.nd e3⟩,e3⟩
 ·have:=h.al i hi
  rw[aR,pr.mem_iff] at this
  exact aR.2 this
 ·obtain⟨rows,q⟩:=h.rt i (pr.mem_iff.2 (aN _ hi))
  exact⟨rows,Y9 h.pw.nd e3 e2 hi q⟩
 ·skip
  rw[Jh];exact h.sa.filter _
 ·have hi:i∈(del s.wL n).map (·.1):=hi
  rw[Jh] at hi
  exact h.sp i (cY.1 hi).1
structure Bck (R:Nat)(s:w7)(box:Int)(c:Ct)(k:Int)(c2:Ct)(n:Nat)(bs':List (Int×Ct))(cs':List (Int×Int)):Prop where
 gc:get s.bs box=some c
 gk:get s.cs box=some k
 Y7:get s.bs s.tree=some c2
 go:Bm n [s.tree] s.bs (put s.cs box (k+1)) 0=some (bs',cs',(s.bs.length:Int)-bs'.length)
 sw:SW R { s with bs:=bs',cs:=cs',tree:=box }
 sub:bs'.Sublist s.bs
theorem SW.back (h:SW R s){n box:Int}(e:get s.wL n=some box)(hz:s.made.toNat*(R+1)+2<=2^20) :
  ∃ c k c2 N bs' cs',Bck R s box c k c2 N bs' cs':=by
 have hm:box∈s.roots:=cu _ (aO.2 ⟨_,Ji e,rfl⟩)
 obtain⟨c,k,c2,N,bs',cs',g⟩:=adS h.pw (h.pw.clo box (aN _ hm)) (λi hi uu=>h.al i hi) h.ro (h.room hz)
 refine⟨c,k,c2,N,bs',cs',g.gc,g.gk,g.Y7,g.go,⟨g.pw,g.al,λi hi=>?_,h.sa,h.sp,h.sl,h.ro.sub h.pw.nd g.sub⟩,g.sub⟩
 have:i∈s.roots:=(aM.1 hi).elim (λe=>e▸hm) λhi=>cu _ hi
 obtain⟨rows,q⟩:=h.rt i this
 exact⟨rows,Y9 h.pw.nd g.sub g.pw hi q⟩
theorem SW.mono {R':Nat}(h:SW R s)(hR:R<=R'):SW R' s:={ h with ro:=h.ro.mono hR }
set_option tactic.hygienic true in
theorem ak5:SW 0 ⟨[(1,.br [])],[(1,1)],1,1,[],0⟩:=by
 refine⟨⟨rfl,by simp,by simp,?_,?_,?_⟩,?_,?_,by simp,by simp,by simp,?_⟩
 ·intro i c e
  rw[Dm] at e
  split at e
  ·cases e;exact(λuu zz=>by cases zz)
  ·cases e
 ·intro i k e
  rw[Dm] at e
  split at e
  ·rename_i q;cases e;simp only at q;subst q;rfl
  ·cases e
 ·intro i hi;simp [yG,kids,w7.roots] at hi;simp [hi]
 ·intro i hi;simp [w7.roots] at hi ⊢;simp [hi]
 ·intro i hi;simp [w7.roots] at hi;subst hi;exact⟨[],rfl⟩
 ·intro i rows e
  rw[Dm] at e
  split at e
  ·cases e;exact⟨bL _,.nil,by simp⟩
  ·cases e
end
end wC
end
section
namespace wC
structure SA where
 sx:Addr
 sd:Addr
 sh:Addr
 π:PA
noncomputable abbrev SA.M (σ:SA):List Addr:=[σ.sd,σ.sh,σ.π.d,σ.π.bx,σ.π.ct]
structure wX (A:Ad)(H:Hp)(σ:SA)(s:w7):Prop where
 i:H σ.sx=some (.inst (A "Store" "") σ.sd)
 n:H σ.sd=some (.ns [("pile",.ref σ.π.x),("tree",.int s.tree 0),("shots",.ref σ.sh),("last",.int s.last 0)])
 st:H σ.sh=some (.xV (zO s.wL))
 p:yt A H σ.π s.bs s.cs s.made
 n1:σ.sd≠σ.π.d
 n2:σ.sh≠σ.π.bx
 n3:σ.sh≠σ.π.ct
section
variable {A:Ad}{G:Gx}{H H':Hp}{σ:SA}{s s':w7}{Q:QV}{X:XV}
theorem SA.sub (σ:SA):∀ a,a∈σ.π.M->a∈σ.M:=λuu h=>.tail _ (.tail _ h)
theorem Zd {a b c d:Addr}(h1:a≠b)(h2:a≠c)(h3:a≠d):a∉[b,c,d]:=λh=>(aM.1 h).elim h1 λh=>(aM.1 h).elim h2 λh=>h3 (aC.1 h)
theorem yK {a b:Addr}{o p:xH}(h1:H a=some o)(h2:H b=some p)(h:o≠p):a≠b:=λe=>h (by rw[e,h2] at h1;cases h1;rfl)
theorem wX.op (h:wX A H σ s){bs:List (Int×Ct)}{cs:List (Int×Int)}{mk:Int}(p:yt A H' σ.π bs cs mk)(k:Kp σ.π.M H H'):wX A H' σ { s with bs:=bs,cs:=cs,made:=mk }:=by
 obtain⟨bvs,hp,-⟩:=h.p.ex
 exact⟨k _ _ h.i (.inl rfl),k _ _ h.n (.inr (Zd h.n1 (yK h.n hp.b (λzz=>by cases zz)) (yK h.n hp.c (λzz=>by cases zz)):σ.sd∉σ.π.M)),k _ _ h.st (.inr (Zd (yK h.st hp.n (λzz=>by cases zz)) h.n2 h.n3:σ.sh∉σ.π.M)),p,h.n1,h.n2,h.n3⟩
theorem wX.kp (h:wX A H σ s){M:List Addr}(k:Kp M H H')(hM:∀ a∈σ.M,a∉M):wX A H' σ s :=
 ⟨k _ _ h.i (.inl rfl),k _ _ h.n (.inr (hM _ (.head _))),k _ _ h.st (.inr (hM _ (.tail _ (.head _)))),h.p.kp k (hM _ (.tail _ (.tail _ (.head _)))) (hM _ (.tail _ (.tail _ (.tail _ (.head _))))) (hM _ (.tail _ (.tail _ (.tail _ (.tail _ (.head _)))))) ,h.n1,h.n2,h.n3⟩
theorem wX.yp (h:wX A H σ s)(k:Kp [] H H'):wX A H' σ s:=h.kp k λuu uu=>aH
theorem Kp.up {M:List Addr}(k:Kp [] H H'):Kp M H H':=k.mono λuu h=>absurd h aH
noncomputable def Af (s:w7):Option Int->Option Int
 | none=>some s.tree
 | some n=>get s.wL n
def Nq (G:Gx)(A:Ad):Prop:=∀ ⦃H:Hp⦄ ⦃σ:SA⦄ ⦃s:w7⦄,wX A H σ s->∀ ⦃v:Option Int⦄ ⦃b:Int⦄,Af s v=some b->∀ ⦃Q:QV⦄ ⦃X:XV⦄,Q (.int b 0) H->G.fn (A "Store" "top") [.ref σ.sx,oI v] H Q X
theorem ak6 (F:xu G A)(h:wX A H σ s){v:Option Int}{b:Int}(hv:Af s v=some b)(q:Q (.int b 0) H):yq G ["self","view"] Uj [.ref σ.sx,oI v] H Q X:=by
 refine yC rfl ?_
 cases v with
 | none =>
  cases hv
  exact Dk (by mem_news) (zT (by mem_news) q)
 | some n =>
  have hv:=Nf (cs:=s.wL) hv
  have hb:(!(valueAt (zO s.wL) n).isSome)=false:=by rw[hv];rfl
  exact zW (by mem_news) (zW (by mem_news) (zT (by mem_news) q))
def Short (bs:List (Int×Ct)):Prop:=∀ i rows,get bs i=some (.br rows)->rows.length<=2^20
inductive adW (H:Hp)(σ:SA)(s:w7)(o:Option Int)(rs:List Value)(l:Loc)(H':Hp):Prop where
 | mk (b:Int) (ys:List Str):Kp [] H H'->l "self" = some (.ref σ.sx)->l "box" = some (.int b 0)->rs=ys.map (λx=>bR x 0)->find s.bs b ys=some o->adW H σ s o rs l H'
def Nr (G:Gx)(A:Ad):Prop:=∀ ⦃H:Hp⦄ ⦃σ:SA⦄ ⦃s:w7⦄,wX A H σ s->Short s.bs->∀ ⦃box:Int⦄ ⦃nl:Addr⦄ ⦃xs:List Str⦄ ⦃r:Option Int⦄,H nl=some (.list (xs.map λx=>bR x 0))->find s.bs box xs=some r->∀ ⦃Q:QV⦄ ⦃X:XV⦄,(∀ H',Kp [] H H'->Q (oI r) H')->G.fn (A "Store" "found") [.ref σ.sx,.int box 0,.ref nl] H Q X
theorem ak7 (F:xu G A)(N:GF G A)(B:KN G A)(h:wX A H σ s)(hs:Short s.bs){box:Int}{nl:Addr}{xs:List Str}{r:Option Int}(hn:H nl=some (.list (xs.map λx=>bR x 0)))(hf:find s.bs box xs=some r)
  (q:∀ H',Kp [] H H'->Q (oI r) H'):yq G ["self","box","names"] Uk [.ref σ.sx,.int box 0,.ref nl] H Q X:=by
 refine yC rfl ?_
 refine Td (adW H σ s r) (by mem_news) hn (λr l' H' h=>?_) (λv rs l' H' I K hK=>?_) ⟨box,xs,Kp.refl _ _,rfl,rfl,rfl,hf⟩ λl' H' I=>?_
 ·obtain⟨_,_,k,_⟩:=h;exact k.list hn
 ·obtain⟨b,ys,k,g1,g2,hy,hf⟩:=I
  cases ys with
  | nil=>cases hy
  | cons y ys =>
  cases hy
  have h':=h.yp k
  obtain⟨bvs,p,-⟩:=id h'.p.ex
  unfold find at hf
  cases hg:get s.bs b with
  | none=>rw[hg] at hf;cases hf
  | some c =>
  rw[hg] at hf
  refine xX (yx (by mem_news) p.i p.n (by nest_cls) (by rfl) (by mem_news) (N h'.p hg (λrows e=>zy (hs b rows (e▸hg))) λv H2 hv k2 uu=>?_))
  cases c with
  | leaf m =>
   cases hf
   obtain⟨a,rfl,ha⟩:=hv
   refine Dk (by mem_news) (zT (by mem_news) (hK.rt _ _ _ ?_))
   exact q _ (k.trans k2)
  | br rows =>
   dsimp only at hf
   obtain⟨a,rl,zs,rfl,ha,hl,hr⟩:=hv
   refine zW (by mem_news) ?_
   refine xX (w_call (by mem_news) (by nest_cls) (by mem_news) (B hl hr ?_))
   cases ho:rowOf rows y with
   | none =>
    rw[ho] at hf;cases hf
    refine Dk (by mem_news) (zT (by mem_news) (hK.rt _ _ _ ?_))
    exact q _ (k.trans k2)
   | some b2 =>
    rw[ho] at hf
    refine zW (GC (v:=.int b2 0) (by mem_news) rfl) (yZ (hK.nx _ _ ⟨b2,ys,k.trans k2,g1,rfl,rfl,hf⟩))
 ·obtain⟨b,ys,k,g1,g2,hy,hf⟩:=I
  cases ys with
  | cons _ _=>cases hy
  | nil =>
  cases hf
  exact zT (by mem_news) (q _ k)
noncomputable def Ze:Ct->Str
 | .leaf _ => "leaf"
 | .br _ => "branch"
noncomputable def Zf (bs:List (Int×Ct))(r:Option Int):Option Str:=r.bind λb=>(get bs b).map Ze
theorem Nt {bs:List (Int×Ct)}{b:Int}{c:Ct}(h:get bs b=some c):Zf bs (some b)=some (Ze c):=by
 show(get bs b).map Ze=_
 rw[h];rfl
def Qy (G:Gx)(A:Ad):Prop:=∀ ⦃H:Hp⦄ ⦃σ:SA⦄ ⦃s:w7⦄,wX A H σ s->Short s.bs->∀ ⦃v:Option Int⦄ ⦃b:Int⦄,Af s v=some b->∀ ⦃a:Addr⦄ ⦃xs:List Str⦄ ⦃r:Option Int⦄,zZ H a xs->find s.bs b xs=some r->(∀ b,r=some b->∃ c,get s.bs b=some c)->∀ ⦃Q:QV⦄ ⦃X:XV⦄,
 (∀ H',Kp [] H H'->Q (oS (Zf s.bs r)) H')->G.fn (A "Store" "kind") [.ref σ.sx,oI v,.ref a] H Q X
theorem ak8 (F:xu G A)(T:Nq G A)(C:UJ G A)(D:Nr G A)(N:GF G A)(h:wX A H σ s)(hs:Short s.bs){v:Option Int}{b:Int}(hv:Af s v=some b){a:Addr}{xs:List Str}{r:Option Int}(hp:zZ H a xs)(hf:find s.bs b xs=some r)(hr:∀ b,r=some b->∃ c,get s.bs b=some c)
  (q:∀ H',Kp [] H H'->Q (oS (Zf s.bs r)) H'):yq G ["self","view","path"] Ut [.ref σ.sx,oI v,.ref a] H Q X:=by
 refine yC rfl ?_
 refine xX (Dy (by mem_news) h.i h.n (by nest_cls) (by rfl) (xW (yx (by mem_news) h.i h.n (by nest_cls) (by rfl) (by mem_news) (T h hv (xW (w_call (by mem_news) (by nest_cls) (by mem_news) (C hp λnl H1 k1 hn uu=>yR ?_)))))))
 have h1:=h.yp k1
 refine D h1 hs hn hf λH2 k2=>?_
 have h2:=h1.yp k2
 cases r with
 | none =>
  refine Dk (by mem_news) (zT (by mem_news) ?_)
  exact q _ (k1.trans k2)
 | some b =>
  refine zW (GC (v:=.int b 0) (by mem_news) rfl) ?_
  obtain⟨c,hc⟩:=hr b rfl
  obtain⟨bvs,p,-⟩:=id h2.p.ex
  refine zm (zf (yx (by mem_news) p.i p.n (by nest_cls) (by rfl) (w6 (wH (v:=.int b 0) rfl) xM) (N h2.p hc (λrows e=>zy (hs b rows (e▸hc))) λv H3 hv k3 uu=>?_)))
  have q:=q _ ((k1.trans k2).trans k3)
  rw[Nt hc] at q
  cases c with
  | leaf m =>
   obtain⟨a,rfl,ha⟩:=hv
   exact xO wI (Fe (o:=.tup) ha (by decide) rfl q)
  | br rows =>
   obtain⟨a,rl,zs,rfl,ha,-⟩:=hv
   exact xO wI (Fe (o:=.tup) ha (by decide) rfl q)
def Zg (G:Gx)(A:Ad):Prop:=∀ ⦃H:Hp⦄ ⦃σ:SA⦄ ⦃s:w7⦄,wX A H σ s->Short s.bs->∀ ⦃v:Option Int⦄ ⦃b:Int⦄,Af s v=some b->∀ ⦃a:Addr⦄ ⦃xs:List Str⦄ ⦃r:Option Int⦄,zZ H a xs->find s.bs b xs=some r->(∀ b,r=some b->∃ c,get s.bs b=some c)->∀ ⦃Q:QV⦄ ⦃X:XV⦄,
 (∀ b m,r=some b->get s.bs b=some (.leaf m)->∀ H',Kp [] H H'->Q (.int m 0) H')->(r=none->∀ H',Kp [] H H'->X (A "Nothing" "") H')->(∀ b rows,r=some b->get s.bs b=some (.br rows)->∀ H',Kp [] H H'->X (A "BranchThere" "") H')->G.fn (A "Store" "value") [.ref σ.sx,oI v,.ref a] H Q X
theorem ak9 (F:xu G A)(T:Nq G A)(C:UJ G A)(D:Nr G A)(N:GF G A)(KK:Qy G A)(h:wX A H σ s)(hs:Short s.bs){v:Option Int}{b:Int}(hv:Af s v=some b){a:Addr}{xs:List Str}{r:Option Int}(hp:zZ H a xs)(hf:find s.bs b xs=some r)(hr:∀ b,r=some b->∃ c,get s.bs b=some c)
  (q:∀ b m,r=some b->get s.bs b=some (.leaf m)->∀ H',Kp [] H H'->Q (.int m 0) H') (q1:r=none->∀ H',Kp [] H H'->X (A "Nothing" "") H') (q2:∀ b rows,r=some b->get s.bs b=some (.br rows)->∀ H',Kp [] H H'->X (A "BranchThere" "") H'):yq G ["self","view","path"] Uu [.ref σ.sx,oI v,.ref a] H Q X:=by
 refine yC rfl ?_
 refine xX (yx (by mem_news) h.i h.n (by nest_cls) (by rfl) (by mem_news) (KK h hs hv hp hf hr λH1 k1=>?_))
 have h1:=h.yp k1
 cases r with
 | none=>exact Dk (by mem_news) (Qc (by nest_cls) (by nest_cls) (q1 rfl _ k1))
 | some b2 =>
  obtain⟨c,hc⟩:=hr b2 rfl
  rw[Nt hc]
  cases c with
  | br rows =>
   refine zW (by mem_news) ?_
   exact Dk (by mem_news) (Qc (by nest_cls) (by nest_cls) (q2 _ _ rfl hc _ k1))
  | leaf m =>
   refine zW (by mem_news) ?_
   refine zW (by mem_news) ?_
   obtain⟨bvs,p,-⟩:=id h1.p.ex
   refine zm (zf (Dy (by mem_news) p.i p.n (by nest_cls) (by rfl) (xW (Dy (by mem_news) h1.i h1.n (by nest_cls) (by rfl) (xW (yx (by mem_news) h1.i h1.n (by nest_cls) (by rfl) (by mem_news) (T h1 hv (xW (w_call (by mem_news) (by nest_cls) (by mem_news) (C (hp.kp k1) λnl H2 k2 hn uu=>yR ?_))))))))))
   have h2:=h1.yp k2
   refine D h2 hs hn hf λH3 k3=>yR ?_
   refine N (h2.yp k3).p hc (λrows e=>by cases e) λv H4 hv k4 uu=>?_
   obtain⟨a,rfl,ha⟩:=hv
   exact xO wI (Fe (o:=.tup) ha (by decide) rfl (q _ _ rfl hc _ (((k1.trans k2).trans k3).trans k4)))
end
end wC
end
section
noncomputable def down:Nat->List Value
 | 0=>[]
 | j+1=>.int (j:Int) 0::down j
theorem adX (m:Nat):cJ ((m:Int)-1) (-1) (-1)=m:=by
 unfold cJ
 rw[if_neg (by decide),show(- -1:Int)=1 from rfl,uO]
 split
 ·rw[mR,Int.sub_neg,mR]
 ·exact oW (cR _) (Int.le_of_sub_le_sub_right (show(m:Int)-1<=0-1 from gZ.1 ‹_›))
theorem ala (m:Nat):(dw m).map (λ(k:Nat)=>cL ((m:Int)-1+(k:Int)*(-1)) 0)=down m:=by
 induction m with
 | zero=>rfl
 | succ m ih =>
  rw[List.range_succ_eq_map,bJ,bY,show down (m+1)=.int (m:Int) 0::down m from rfl,<-ih]
  congr 1
  ·congr 1;show(m:Int)+1-1+0 * -1=m;rw[mV,uN,n7]
  ·refine fK λk uu=>?_
   show cL _ 0=cL _ 0
   congr 1
   show(m:Int)+1-1+((k:Int)+1) * -1=m-1+k * -1
   rw[mV,Int.add_mul,Int.one_mul,mK ((k:Int) * -1),<-j7];rfl
theorem alb (m:Nat):Ei ((m:Int)-1) (-1) (-1)=down m:=by
 unfold Ei
 rw[adX]
 exact ala m
theorem small_down {m:Nat}(h:m<2^60):fU ((m:Int)-1) (-1) (-1)=true:=by
 unfold fU
 rw[adX]
 simp [lD]
 have q:(m:Int)<9223372036854775808:=iC.2 (eY h (by decide))
 exact⟨⟨iD (show -9223372036854775808<=(0:Int)-1 by decide) (pL (cR m) 1),jy (Int.sub_le_self _ (by decide)) q⟩,q⟩
theorem U0 {α β:Type}{R:α->β->Prop}{a:List α}{b:List β}(h:wK R a b):∀ {k:Nat} {y:β},b[k]?=some y->∃ x,a[k]?=some x/\R x y:=by
 induction h with
 | nil=>intro k y e;cases e
 | cons h1 _ ih =>
  intro k y e
  cases k with
  | zero=>cases e;exact⟨_,rfl,h1⟩
  | succ k=>exact ih e
theorem adY (m:Nat):cJ 1 (m:Int) 1=((m-1:Nat):Int):=by
 unfold cJ
 rw[if_pos (by decide),uO]
 split
 ·rw[mR];exact(Int.ofNat_sub (aQ (iC.1 ‹_›))).symm
 ·rw[oZ (dD.1 (gZ.1 ‹_›))];rfl
theorem alc (m:Nat):Ei 1 (m:Int) 1=(uT 1 (m-1)).map λ(k:Nat)=>cL (k:Int) 0:=by
 unfold Ei
 rw[adY,cG,List.range'_eq_map_range,bY]
 refine fK λk uu=>?_
 rw[vh];rfl
theorem small_one {m:Nat}(h:m<2^60):fU 1 (m:Int) 1=true:=by
 unfold fU
 rw[adY]
 simp [lD]
 have q:(m:Int)<9223372036854775808:=iC.2 (eY h (by decide))
 exact⟨⟨q,jy (dD.2 (fV m 1)) q⟩,.inr q⟩
section
variable {G:Gx}{l:Loc}{H:Hp}{Q:QS}{X:XS}{r:List Sm}
theorem ald {x:Str}{e:Ex}{body:List Sm}{n:Nat}(I:Nat->Loc->Hp->Prop)(he:Ev G e l H (.int (n:Int) 0))(hz:n<2^60)(hb:∀ i,i<n->∀ l' H',I i l' H'->∀ K:QS,Ks (I (i+1)) (sq G r Q X) K->wM G body (l'.upd x (.int (i:Int) 0)) H' K X)
  (h0:∀ c,H c=none->I 1 l (H.upd c (.range 1 n 1))) (h1:1<=n) (hq:∀ l' H',I n l' H'->wM G r l' H' Q X):wM G (.for_ itR x (.b W7 (.k (.int 1 0)) e) body::r) l H Q X :=
 he _ _ ⟨1,rfl,_,rfl,λc hc=>Qg (Hp.wQ _ _ _) (small_one hz) (by
  rw[alc]
  have e:1+(n-1)=n:=cC h1
  exact acO I (λuu uu uu uu=>trivial) (by rw[e];exact hb) (by rw[e];exact hq) (h0 c hc))⟩
inductive DnI (I:Nat->Loc->Hp->Prop)(m:Nat)(rs:List Value)(l:Loc)(H:Hp):Prop where
 | mk (j:Nat):j<=m->rs=down j->I j l H->DnI I m rs l H
theorem ale {x:Str}{e:Ex}{body:List Sm}{m:Nat}(I:Nat->Loc->Hp->Prop)(h1:Ev G e l H (.int ((m:Int)-1) 0))(hz:m<2^59)(hb:∀ i,i<m->∀ l' H',I (i+1) l' H'->∀ K:QS,Ks (I i) (sq G r Q X) K->wM G body (l'.upd x (.int (i:Int) 0)) H' K X)
  (h0:∀ c,H c=none->I m l (H.upd c (.range ((m:Int)-1) (-1) (-1)))) (hq:∀ l' H',I 0 l' H'->wM G r l' H' Q X):wM G (.for_ itR x (.n Pj [e,.k (.int (-1) 0),.k (.int (-1) 0)]) body::r) l H Q X :=
 h1 _ _ ⟨_,-1,rfl,λc hc=>Qg (Hp.wQ _ _ _) (small_down (eY hz (by decide))) (by
  rw[alb]
  refine Ku (DnI I m) (λuu uu uu uu=>trivial) (λw rs l' H' h K hK=>?_) (λl' H' h=>?_) ⟨m,aD _,rfl,h0 c hc⟩
  ·obtain⟨j,hj,e,hI⟩:=h
   cases j with
   | zero=>cases e
   | succ j =>
    cases e
    exact hb j hj l' H' hI K ⟨λl H h=>hK.nx l H ⟨j,dU hj,rfl,h⟩,λl H h=>hK.ct l H ⟨j,dU hj,rfl,h⟩,hK.rt⟩
  ·obtain⟨j,hj,e,hI⟩:=h
   cases j with
   | succ _=>cases e
   | zero=>exact hq l' H' hI)⟩
end
namespace wC
section
variable {A:Ad}{G:Gx}{H H':Hp}{σ:SA}{s s':w7}{Q:QV}{X:XV}
def Cv (H:Hp)(fl:Addr)(v:Value)(rows:List (Str×Int)):Prop:=∃ l ys,v=.ref l/\l≠fl/\H l=some (.list ys)/\wK (yD H) ys rows
theorem Cv.kp {M:List Addr}{fl:Addr}(k:Kp M H H'){v:Value}{rows:List (Str×Int)}(h:Cv H fl v rows):Cv H' fl v rows:=by
 obtain⟨l,ys,e,n,h1,h2⟩:=h
 exact⟨l,ys,e,n,k.list h1,xU (λuu uu q=>q.kp k) h2⟩
theorem yD.other {v:Value}{r:Str×Int}(h:yD H v r){fl:Addr}{xs:List Value}(hf:H fl=some (.list xs))(o:xH):yD (H.upd fl o) v r:=by
 obtain⟨a,e,q⟩:=h
 exact⟨a,e,(Hp.xJ _ _ λz=>by rw[z,hf] at q;cases q).trans q⟩
theorem Cv.other {fl:Addr}{v:Value}{rows:List (Str×Int)}(h:Cv H fl v rows){xs:List Value}(hf:H fl=some (.list xs))(o:xH):Cv (H.upd fl o) fl v rows:=by
 obtain⟨l,ys,e,n,h1,h2⟩:=h
 exact⟨l,ys,e,n,(Hp.xJ _ _ n).trans h1,xU (λuu uu q=>q.other hf o) h2⟩
def Nu (G:Gx)(A:Ad):Prop:=∀ ⦃H:Hp⦄ ⦃σ:SA⦄ ⦃s:w7⦄,wX A H σ s->Short s.bs->∀ ⦃nl:Addr⦄ ⦃xs:List Str⦄,H nl=some (.list (xs.map λx=>bR x 0))->xs.length<=8->∀ ⦃W:Nat->List (Str×Int)⦄,(∀ k<xs.length,zA s.bs s.tree xs k=some (W k))->∀ ⦃Q:QV⦄ ⦃X:XV⦄,
 (∀ fl ws H',Kp [] H H'->H' fl=some (.list ws)->wK (Cv H' fl) ws ((dw xs.length).map W)->Q (.ref fl) H')->G.fn (A "Store" "ways") [.ref σ.sx,.ref nl] H Q X
structure Nv (H0:Hp)(σ:SA)(nl fl:Addr)(W:Nat->List (Str×Int))(i:Nat)(ws:List Value)(l:Loc)(H:Hp):Prop where
 k:Kp [] H0 H
 g1:l "self" = some (.ref σ.sx)
 g2:l "names" = some (.ref nl)
 g3:l "found" = some (.ref fl)
 hf:H fl=some (.list ws)
 hw:wK (Cv H fl) ws ((dw i).map W)
section
variable {nl fl:Addr}{xs:List Str}{W:Nat->List (Str×Int)}{i:Nat}{ws:List Value}{l:Loc}{H4:Hp}{v:Value}{K:QS}{XX:XS}
theorem Nv.add (I:Nv H σ nl fl W i ws l H')(h0:H fl=none)(k:Kp [] H' H4)(hv:Cv H4 fl v (W i)){l':Loc}(g1:l' "self" = some (.ref σ.sx))(g2:l' "names" = some (.ref nl))(g3:l' "found" = some (.ref fl)):Nv H σ nl fl W (i+1) (ws++[v]) l' (H4.upd fl (.list (ws++[v]))):=by
 have e4:=k.list I.hf
 refine⟨(I.k.trans k).fresh h0 _,g1,g2,g3,Hp.wQ _ _ _,?_⟩
 rw[List.range_succ,aX]
 exact Ek (xU (λuu uu z=>(Cv.kp k z).other e4 _) I.hw) (.cons (hv.other e4 _) .nil)
theorem alf (F:xu G A)(D:Nr G A)(N:GF G A)(h:wX A H σ s)(hs:Short s.bs)(hn:H nl=some (.list (xs.map λx=>bR x 0)))(hz:xs.length<=8)(h0:H fl=none)(hi:i<xs.length)(Dp:zA s.bs s.tree xs i=some (W i))(I:Nv H σ nl fl W i ws l H')
  (hK:∀ ws l H1,Nv H σ nl fl W (i+1) ws l H1->K .next l H1):wM G [.asg "box" (.meth (.loc "self") "found" [.attr (.loc "self") "tree",.b toL (.loc "names") (.loc "k")]),.ite (.b Df (.loc "box") (.k .none)) [.expr (.m (yc .list) Aw (.loc "found") [.n yu []])] [.expr (.m (yc .list) Aw (.loc "found") [.b wR (.meth (.attr (.loc "self") "pile") "content" [.loc "box"]) (.k (.int 1 0))])]] (l.upd "k" (.int (i:Int) 0)) H' K XX:=by
 have h':=h.yp I.k
 have g1:=I.g1
 have g2:=I.g2
 refine xX (Dy (by mem_news) h'.i h'.n (by nest_cls) (by rfl) (xW (xO (v:=.int s.tree 0) (by mem_news) (xW (acI (by mem_news) (by mem_news) (I.k.list hn) (cR _) (by rw[aA];exact aj hz (by decide)) λc hc=>yR ?_)))))
 rw[cG,<-tY]
 have k2:Kp [] H' (H'.upd c (.list ((xs.take i).map λx=>bR x 0))):=wW hc _
 have e2:(H'.upd c (.list ((xs.take i).map λx=>bR x 0))) c=some (.list ((xs.take i).map λx=>bR x 0)):=Hp.wQ _ _ _
 generalize H'.upd c (.list ((xs.take i).map λx=>bR x 0))=H2 at k2 e2 ⊢
 unfold zA at Dp
 have hlw:ws.length<=sizeLine:=by rw[zp I.hw,aA,eN];exact aj (aj (aQ hi) hz) (by decide)
 cases hfd:find s.bs s.tree (xs.take i) with
 | none=>rw[hfd] at Dp;cases Dp
 | some ro =>
  rw[hfd] at Dp
  refine D (h'.yp k2) hs e2 hfd λH3 k3=>?_
  have h3:=(h'.yp k2).yp k3
  have KQ:=k2.trans k3
  have ef:=KQ.list I.hf
  cases ro with
  | none =>
   have Dp:W i=[]:=by injection Dp with e;exact e.symm
   refine Dk (by mem_news) (Ao (Mv (wH I.g3) ef (Di xM (ao rfl) λc2 hc2=>?_)))
   have k4:Kp [] H3 (H3.upd c2 (.list [])):=wW hc2 _
   refine Kq (k4.list ef) hlw (yZ (hK _ _ _ (I.add h0 (KQ.trans k4) ⟨c2,[],rfl,λe=>xr ef (e▸hc2),Hp.wQ _ _ _,Dp▸.nil⟩  I.g1 I.g2 I.g3)))
  | some b =>
   dsimp only at Dp
   cases hg:get s.bs b with
   | none=>rw[hg] at Dp;cases Dp
   | some ct =>
   rw[hg] at Dp
   cases ct with
   | leaf m=>cases Dp
   | br rows =>
   have Dp:W i=rows:=by injection Dp with e;exact e.symm
   obtain⟨bvs,p,-⟩:=id h3.p.ex
   refine acL (GC (v:=.int b 0) (by mem_news) rfl) (Ao (Mv (wH I.g3) ef (zf (yx (by mem_news) p.i p.n (by nest_cls) (by rfl) (w6 (wH (v:=.int b 0) rfl) xM) (N h3.p hg (λZc e=>by cases e;exact zy (hs _ _ hg)) λv H4 hv k4 hnew=>?_)))))
   obtain⟨a,rl,zs,rfl,ha,hl2,hrr⟩:=hv
   refine xO wI (Fe (o:=.tup) ha (by decide) rfl ?_)
   exact Kq (k4.list ef) hlw (yZ (hK _ _ _ (I.add h0 (KQ.trans k4) ⟨rl,zs,rfl,λe=>xr ef (e▸hnew a rl _ rfl ha),hl2,Dp▸hrr⟩  I.g1 I.g2 I.g3)))
theorem alg (F:xu G A)(D:Nr G A)(N:GF G A)(h:wX A H σ s)(hs:Short s.bs)(hn:H nl=some (.list (xs.map λx=>bR x 0)))(hz:xs.length<=8)(hW:∀ k<xs.length,zA s.bs s.tree xs k=some (W k))
  (q:∀ fl ws H',Kp [] H H'->H' fl=some (.list ws)->wK (Cv H' fl) ws ((dw xs.length).map W)->Q (.ref fl) H'):yq G ["self","names"] Ul [.ref σ.sx,.ref nl] H Q X:=by
 refine yC rfl ?_
 refine xX (Di xM (ao rfl) λfl hfl=>?_)
 have k0:Kp [] H (H.upd fl (.list [])):=wW hfl _
 have f0:(H.upd fl (.list [])) fl=some (.list []):=Hp.wQ _ _ _
 generalize H.upd fl (.list [])=H0 at k0 f0 ⊢
 have hn0:=k0.list hn
 refine Qh (n:=xs.length) (λi l' H'=>∃ ws,Nv H σ nl fl W i ws l' H') (KH (by mem_news) (by rw[aA])) (aK hz (by decide)) (λi hi l' H' I K hK=>?_) (λc hc=>?_) λl' H' I=>?_
 ·obtain⟨ws,I⟩:=I
  exact alf F D N h hs hn hz hfl hi (hW i hi) I λws l H I=>hK.nx _ _ ⟨ws,I⟩
 ·have k1:Kp [] H0 (H0.upd c (.range 0 xs.length 1)):=wW hc _
  exact⟨[],k0.trans k1,rfl,rfl,rfl,k1.list f0,.nil⟩
 ·obtain⟨ws,I⟩:=I
  exact zT (wH I.g3) (q _ _ _ I.k I.hf I.hw)
end
end
end wC
end
section
namespace wC
section
variable {A:Ad}{G:Gx}{H H':Hp}{σ:SA}{s s':w7}{Q:QV}{X:XV}
noncomputable abbrev Zh (σ:SA)(tree last:Int):xH:=.ns [("pile",.ref σ.π.x),("tree",.int tree 0),("shots",.ref σ.sh),("last",.int last 0)]
theorem HF {a b:Addr}(h:a≠b):a∉[b]:=λz=>h (aC.1 z)
theorem wX.own (h:wX A H σ s)(tree last:Int):wX A (H.upd σ.sd (Zh σ tree last)) σ { s with tree:=tree,last:=last }/\Kp σ.M H (H.upd σ.sd (Zh σ tree last)):=by
 obtain⟨bvs,hp,hr⟩:=h.p.ex
 have k:Kp [σ.sd] H (H.upd σ.sd (Zh σ tree last)):=Nb h.n rfl (.head _) _
 exact⟨⟨(Hp.xJ _ _ (yK h.i h.n (λzz=>by cases zz))).trans h.i,Hp.wQ _ _ _,(Hp.xJ _ _ (yK h.st h.n (λzz=>by cases zz))).trans h.st,h.p.kp k (HF (cH h.n1)) (HF (yK hp.b h.n (λzz=>by cases zz))) (HF (yK hp.c h.n (λzz=>by cases zz))),h.n1,h.n2,h.n3⟩,k.mono λa h=>aC.1 h▸.head _⟩
theorem wX.shot (h:wX A H σ s)(wL:List (Int×Int)):wX A (H.upd σ.sh (.xV (zO wL))) σ { s with wL:=wL }/\Kp σ.M H (H.upd σ.sh (.xV (zO wL))):=by
 obtain⟨bvs,hp,hr⟩:=h.p.ex
 have k:Kp [σ.sh] H (H.upd σ.sh (.xV (zO wL))):=Nb h.st rfl (.head _) _
 exact⟨⟨(Hp.xJ _ _ (yK h.i h.st (λzz=>by cases zz))).trans h.i,(Hp.xJ _ _ (yK h.n h.st (λzz=>by cases zz))).trans h.n,Hp.wQ _ _ _,h.p.kp k (HF (yK hp.n h.st (λzz=>by cases zz))) (HF (cH h.n2)) (HF (cH h.n3)),h.n1,h.n2,h.n3⟩,k.mono λa h=>aC.1 h▸.tail _ (.head _)⟩
def Jo (G:Gx)(A:Ad):Prop:=∀ ⦃H:Hp⦄ ⦃σ:SA⦄ ⦃s:w7⦄,wX A H σ s->∀ ⦃box k:Int⦄ ⦃c c2:Ct⦄,get s.bs box=some c->get s.cs box=some k->s.cs.length<=2^20->get s.bs s.tree=some c2->∀ ⦃n:Nat⦄ ⦃g':Int⦄ ⦃bs':List (Int×Ct)⦄ ⦃cs':List (Int×Int)⦄,Bm n [s.tree] s.bs (put s.cs box (k+1)) 0=some (bs',cs',g')->∀ ⦃Q:QV⦄ ⦃X:XV⦄,
 (∀ H',wX A H' σ { s with bs:=bs',cs:=cs',tree:=box }->Kp σ.M H H'->Q (.int g' 0) H')->G.fn (A "Store" "changed") [.ref σ.sx,.int box 0] H Q X
theorem alh (F:xu G A)(N:Ng G A)(L:YL G A)(h:wX A H σ s){box k:Int}{c c2:Ct}(hb:get s.bs box=some c)(hk:get s.cs box=some k)(hz:s.cs.length<=2^20)(ht:get s.bs s.tree=some c2){n:Nat}{g':Int}{bs':List (Int×Ct)}{cs':List (Int×Int)}(hg:Bm n [s.tree] s.bs (put s.cs box (k+1)) 0=some (bs',cs',g'))
  (q:∀ H',wX A H' σ { s with bs:=bs',cs:=cs',tree:=box }->Kp σ.M H H'->Q (.int g' 0) H'):yq G ["self","box"] Um [.ref σ.sx,.int box 0] H Q X:=by
 refine yC rfl ?_
 refine Gi (by mem_news) ?_
 obtain⟨bvs,p,-⟩:=id h.p.ex
 refine Ao (yx (by mem_news) p.i p.n (by nest_cls) (by rfl) (by mem_news) (N h.p hb hk (zy hz) λH1 p1 k1=>?_))
 have h1:=h.op p1 k1
 refine Qe (by mem_news) (by mem_news) h1.i h1.n (by nest_cls) (ao rfl) ?_
 obtain⟨h2,k2⟩:=h1.own box s.last
 obtain⟨aoK,p2,-⟩:=id h2.p.ex
 refine zm (yx (x:=σ.π.x) (by mem_news) p2.i p2.n (by nest_cls) (by rfl) (by mem_news) (L h2.p ht hg λH3 p3 k3=>?_))
 exact q _ (h2.op p3 k3) (((k1.mono σ.sub).trans k2).trans (k3.mono σ.sub))
def DK (s:w7)(xs:List Str)(k:Nat):Prop:=∃ b m,find s.bs s.tree (xs.take k)=some (some b)/\get s.bs b=some (.leaf m)
theorem ali {R:Nat}(w:SW R s)(xs:List Str)(k:Nat):(∃ rows,zA s.bs s.tree xs k=some rows)\/DK s xs k:=by
 obtain⟨r,hf,hr⟩:=Qu w.pw (xs.take k) w.Jm
 unfold zA
 rw[hf]
 cases r with
 | none=>exact .inl ⟨_,rfl⟩
 | some b =>
  obtain⟨c,hc⟩:=Ba (hr b rfl)
  dsimp only
  rw[hc]
  cases c with
  | leaf m=>exact .inr ⟨b,m,hf,hc⟩
  | br rows=>exact .inl ⟨_,rfl⟩
theorem alj {R:Nat}(w:SW R s)(xs:List Str):¬DK s xs 0:=by
 rintro⟨b,m,hf,hg⟩
 have:find s.bs s.tree (xs.take 0)=some (some s.tree):=rfl
 rw[this] at hf
 injection hf with e;injection e with e;subst e
 obtain⟨rows,hr⟩:=w.rt s.tree (.head _)
 rw[hr] at hg;cases hg
theorem SW.short {R:Nat}(w:SW R s)(hR:R<=2^20):Short s.bs:=λi rows e=>aj (w.ro i rows e).1 hR
theorem SW.get_some {R:Nat}(w:SW R s){xs:List Str}{r:Option Int}(hf:find s.bs s.tree xs=some r):∀ b,r=some b->∃ c,get s.bs b=some c:=by
 obtain⟨r',hf',hr⟩:=Qu w.pw xs w.Jm
 rw[hf'] at hf
 injection hf with e;subst e
 exact λb e=>Ba (hr b e)
theorem adZ {α:Type}{W:Nat->α}{n k:Nat}(h:k<n):((dw n).map W)[k]?=some (W k):=by rw[cD,vd h];rfl
theorem w7.eta (b9:s'.tree=s'.made)(b10:s'.wL=s.wL)(b11:s'.last=s.last):s'={ s with bs:=s'.bs,cs:=s'.cs,made:=s'.made,tree:=s'.made }:=by
 cases s'
 simp only at b9 b10 b11 ⊢
 subst b9 b10 b11
 rfl
structure Zi (A:Ad)(σ:SA)(s:w7)(H0:Hp)(xs:List Str)(W:Nat->List (Str×Int))(N:Nat->Str)(ws:List Value)(nl fl:Addr)(fin:List (Int×Ct)×List (Int×Int)×Int×Int)(i:Nat)(l:Loc)(H:Hp)(DG:List (Int×Ct))(Dn:List (Int×Int))(mk1 Em:Int):Prop where
 h:wX A H σ { s with bs:=DG,cs:=Dn,made:=mk1 }
 bu:build W N i DG Dn mk1 Em=some fin
 g1:l "self" = some (.ref σ.sx)
 g2:l "names" = some (.ref nl)
 g3:l "ways" = some (.ref fl)
 g4:l "box" = some (.int Em 0)
 k:Kp σ.M H0 H
 n:H nl=some (.list (xs.map λx=>bR x 0))
 f:H fl=some (.list ws)
 w:wK (Cv H fl) ws ((dw xs.length).map W)
noncomputable def rbB:List Sm:=[.asg "box" (.meth (.attr (.loc "self") "pile") "branch" [.call (.glob "placed") [.b yw (.loc "ways") (.loc "k"),.b yw (.loc "names") (.loc "k"),.loc "box"]])]
section
variable {xs:List Str}{W:Nat->List (Str×Int)}{N:Nat->Str}{ws:List Value}{nl fl:Addr}{fin:List (Int×Ct)×List (Int×Int)×Int×Int}{H0:Hp}
set_option tactic.hygienic true in
theorem alk (F:xu G A)(C7:HB G A)(C8:Jg G A)(hN:∀ k<xs.length,xs[k]?=some (N k)){i:Nat}(hi:i<xs.length){l:Loc}{DG:List (Int×Ct)}{Dn:List (Int×Int)}{mk1 Em:Int}(I:Zi A σ s H0 xs W N ws nl fl fin (i+1) l H DG Dn mk1 Em){K:QS}
  (hK:∀ l' H' DG Dn mk1 Em,Zi A σ s H0 xs W N ws nl fl fin i l' H' DG Dn mk1 Em->K .next l' H'):wM G rbB (l.upd "k" (.int (i:Int) 0)) H K (fx X):=by
 have g1:=I.g1;have g2:=I.g2;have g3:=I.g3;have g4:=I.g4
 have h7:=I.h;have hn7:=I.n;have hf7:=I.f
 obtain⟨aoL,p7,-⟩:=id h7.p.ex
 have Dq:=I.bu
 unfold build at Dq
 split at Dq
 ·rename_i hcond
  cases Zj:Ft Dn (zX (W i) (N i) Em) with
  | none=>rw[Zj] at Dq;cases Dq
  | some cs3 =>
  rw[Zj] at Dq
  obtain⟨v,hv1,rl,ys,rfl,-,Zk,Zm⟩:=U0 I.w (k:=i) (y:=W i) (adZ hi)
  have hnj:(xs.map λx=>bR x 0)[(i:Int).toNat]?=some (.str (N i) 0):=by rw[cG,cD,hN i hi];rfl
  have hwj:ws[(i:Int).toNat]?=some (.ref rl):=hv1
  refine xX (Dy (x:=σ.π.x) (by mem_news) p7.i p7.n (by nest_cls) (by rfl) (xW (w_call (by mem_news) (by nest_cls) (by mem_news) (C8 Zk Zm hcond.2.2.1 λc zs H8 k8 hc8 hr8=>yR ?_))))
  have h8:=h7.yp k8
  refine C7 h8.p hc8 hr8 (λr hr=>mX.1 (fD.1 hcond.2.2.2.2 r hr)) Zj (zy hcond.1) (zy hcond.2.1) (zy hcond.2.2.2.1) λH9 p9 k9=>?_
  have U3:Kp σ.M H H9:=k8.up.trans (k9.mono σ.sub)
  exact yZ (hK _ _ _ _ _ _ ⟨h8.op p9 k9,Dq,g1,g2,g3,rfl,I.k.trans U3,U3.list hn7,U3.list hf7,xU (λuu uu z=>Cv.kp U3 z) I.w⟩)
 ·cases Dq
theorem ad0 (F:xu G A)(C7:HB G A)(C8:Jg G A)(C9:Jo G A){l:Loc}{j:Nat}{c:Ct}{CW yM:List (Int×Int)}{k1:Int}{n R:Nat}(M:Made R s c W N j CW yM k1 n s'){e:Ex}(hj:j<=xs.length)(h8:xs.length<=8)(hN:∀ k<xs.length,xs[k]?=some (N k))
  (he:Ev G e l H (.int ((j:Int)-1) 0)) (h:wX A H σ { s with bs:=s.bs++[(s.made+1,c)],cs:=CW++[(s.made+1,0)],made:=s.made+1 }) (g1:l "self" = some (.ref σ.sx)) (g2:l "names" = some (.ref nl)) (g3:l "ways" = some (.ref fl)) (g4:l "box" = some (.int (s.made+1) 0))
  (kk:Kp σ.M H0 H) (hn:H nl=some (.list (xs.map λx=>bR x 0))) (hf:H fl=some (.list ws)) (hw:wK (Cv H fl) ws ((dw xs.length).map W)) (q:∀ H1,wX A H1 σ s'->Kp σ.M H0 H1->Q (.int ((s.bs.length:Int)+1+j-s'.bs.length) 0) H1) :
  wM G [.for_ itR "k" (.n Pj [e,.k (.int (-1) 0),.k (.int (-1) 0)]) rbB,.ret (.meth (.loc "self") "changed" [.loc "box"])] l H (fq Q) (fx X):=by
 refine ale (m:=j) (λi l' H'=>∃ DG Dn mk1 Em,Zi A σ s H0 xs W N ws nl fl (yV s c W N j,yM,s'.made,s'.made) i l' H' DG Dn mk1 Em) he (aK (aj hj h8) (by decide)) ?_ ?_ ?_
 ·rintro i hi l' H7 ⟨DG,Dn,mk1,Em,I⟩ K hK
  exact alk F C7 C8 hN (aB hi hj) I λl' H' DG Dn mk1 Em I=>hK.nx l' H' ⟨DG,Dn,mk1,Em,I⟩
 ·intro c hc
  have k7:Kp [] H (H.upd c (.range ((j:Int)-1) (-1) (-1))):=wW hc _
  exact⟨_,_,_,_,h.yp k7,M.bu,g1,g2,g3,g4,kk.trans k7.up,k7.list hn,k7.list hf,xU (λuu uu z=>Cv.kp k7 z) hw⟩
 ·rintro l' H7 ⟨DG,Dn,mk1,Em,I⟩
  have g1:=I.g1;have g4:=I.g4
  have h7:=I.h
  have Dq:=I.bu
  injection Dq with Dq;injection Dq with e1 Dq;injection Dq with e2 Dq;injection Dq with e3 e4
  subst e1 e2 e3 e4
  obtain⟨c1,b2⟩:=M.top
  obtain⟨c2,b5⟩:=M.old
  refine zm (yx (by mem_news) h7.i h7.n (by nest_cls) (by rfl) (by mem_news) (C9 h7 b2 M.cnt M.len b5 M.go λH8 h8 k8=>q _ ?_ (I.k.trans k8)))
  rw[w7.eta M.tree M.wL M.last];exact h8
end
structure Ny (s:w7)(xs:List Str)(m:Int):Prop where
 other:¬∃ b,find s.bs s.tree xs=some (some b)/\get s.bs b=some (.leaf m)
 aoM:¬∃ b rows,find s.bs s.tree xs=some (some b)/\get s.bs b=some (.br rows)
structure U4 (s:w7)(xs:List Str)(m:Int)(s':w7)(g:Int):Prop where
 made:s'.made=s.made+1+xs.length
 tree:s'.tree=s'.made
 wL:s'.wL=s.wL
 last:s'.last=s.last
 gone:g=(s.bs.length:Int)+1+xs.length-s'.bs.length
 bs:∃ W N,(∀ k<xs.length,zA s.bs s.tree xs k=some (W k))/\(∀ k<xs.length,xs[k]?=some (N k))/\s'.bs.Sublist (s.bs++[(s.made+1,.leaf m)]++Bb W N xs.length (s.made+1) (s.made+1))
def U5 (G:Gx)(A:Ad):Prop:=∀ ⦃H:Hp⦄ ⦃σ:SA⦄ ⦃s:w7⦄,wX A H σ s->∀ ⦃R:Nat⦄,SW R s->(s.made.toNat+9)*(R+2)+2<=2^20->∀ ⦃a:Addr⦄ ⦃xs:List Str⦄ ⦃m:Int⦄,zZ H a xs->xs≠[]->-(10^30)<m->m<10^30->∀ ⦃Q:QV⦄ ⦃X:XV⦄,
 (∀ b,find s.bs s.tree xs=some (some b)->get s.bs b=some (.leaf m)->∀ H',wX A H' σ s->Kp [] H H'->Q (.int 0 0) H') ->
 (∀ s' g,Ny s xs m->U4 s xs m s' g->SW (R+1) s'->∀ H',wX A H' σ s'->Kp σ.M H H'->Q (.int g 0) H') ->
 ((∃ k,1<=k/\k<xs.length/\DK s xs k)->∀ H',wX A H' σ s->Kp [] H H'->X (A "LeafThere" "") H') ->
 ((∀ k<xs.length,¬DK s xs k)->(∃ b rows,find s.bs s.tree xs=some (some b)/\get s.bs b=some (.br rows))->∀ H',wX A H' σ s->Kp [] H H'->X (A "BranchThere" "") H')->G.fn (A "Store" "put") [.ref σ.sx,.ref a,.int m 0] H Q X
noncomputable def CX (s:w7)(xs:List Str)(k:Nat):List (Str×Int):=(zA s.bs s.tree xs k).getD []
theorem ad1 {xs:List Str}{k:Nat}(h:∃ rows,zA s.bs s.tree xs k=some rows):zA s.bs s.tree xs k=some (CX s xs k):=by
 obtain⟨rows,e⟩:=h
 unfold CX;rw[e];rfl
noncomputable def DN (xs:List Str)(k:Nat):Str:=xs.getD k ""
theorem KR {xs:List Str}:∀ k<xs.length,xs[k]?=some (DN xs k):=λk hk=>by unfold DN;rw[List.getD_eq_getElem?_getD,cB hk];rfl
theorem len_strs (xs:List Str):(xs.map λx=>bR x 0).length=xs.length:=aA ..
inductive U6 (bs:List (Int×Ct))(r:Option Int):Prop where
 | no:r=none->U6 bs r
 | leaf (b m:Int):r=some b->get bs b=some (.leaf m)->U6 bs r
 | br (b:Int) (rows:List (Str×Int)):r=some b->get bs b=some (.br rows)->U6 bs r
theorem SW.stat {R:Nat}(w:SW R s){xs:List Str}{r:Option Int}(hf:find s.bs s.tree xs=some r)(hr:∀ b,r=some b->b∈s.bs.map (·.1)):U6 s.bs r:=by
 cases r with
 | none=>exact .no rfl
 | some b =>
  obtain⟨c,hc⟩:=Ba (hr b rfl)
  cases c with
  | leaf m=>exact .leaf b m rfl hc
  | br rows=>exact .br b rows rfl hc
theorem alm {xs:List Str}{k:Nat}(hf:find s.bs s.tree (xs.take k)=some none):¬DK s xs k:=λh=>by
 obtain⟨b,m,hb,-⟩:=h
 rw[hf] at hb;cases hb
theorem aln {xs:List Str}{k:Nat}{b:Int}{rows:List (Str×Int)}(hf:find s.bs s.tree (xs.take k)=some (some b))(hc:get s.bs b=some (.br rows)):¬DK s xs k:=λh=>by
 obtain⟨b',m,hb,hb2⟩:=h
 rw[hf] at hb;cases hb;rw[hc] at hb2;cases hb2
theorem alo {xs:List Str}{m:Int}(hf:find s.bs s.tree xs=some none):Ny s xs m:=⟨λh=>(by obtain⟨b,hb,-⟩:=h;rw[hf] at hb;cases hb),λh=>by obtain⟨b,rows,hb,-⟩:=h;rw[hf] at hb;cases hb⟩
theorem alp {xs:List Str}{m m' b:Int}(hf:find s.bs s.tree xs=some (some b))(hc:get s.bs b=some (.leaf m'))(hm:m'≠m):Ny s xs m :=
 ⟨λh=>(by obtain⟨b',hb,hb2⟩:=h;rw[hf] at hb;cases hb;rw[hc] at hb2;cases hb2;exact hm rfl),λh=>by obtain⟨b',rows,hb,hb2⟩:=h;rw[hf] at hb;cases hb;rw[hc] at hb2;cases hb2⟩
structure Qz (s:w7)(σ:SA)(xs:List Str)(m:Int)(nl:Addr)(H0:Hp)(i:Nat)(l:Loc)(H:Hp):Prop where
 i1:1<=i
 k:Kp [] H0 H
 g1:l "self" = some (.ref σ.sx)
 g2:l "names" = some (.ref nl)
 g3:l "number" = some (.int m 0)
 n:H nl=some (.list (xs.map λx=>bR x 0))
 no:∀ k,1<=k->k<i->¬DK s xs k
theorem Qz.next {xs:List Str}{m:Int}{nl:Addr}{H4:Hp}{i:Nat}{l:Loc}(I:Qz s σ xs m nl H i l H')(hnl:¬DK s xs i)(k4:Kp [] H H4)(Jp:H4 nl=some (.list (xs.map λx=>bR x 0))):Qz s σ xs m nl H (i+1) (l.upd "k" (.int (i:Int) 0)) H4 :=
 ⟨dR I.i1,k4,I.g1,I.g2,I.g3,Jp,λj h1 h2=>(Nat.lt_succ_iff_lt_or_eq.1 h2).elim (I.no j h1) λe=>e▸hnl⟩
noncomputable def alq:List Sm:=[.ite (.b Ir (.meth (.loc "self") "kind" [.k .none,.b toL (.loc "names") (.loc "k")]) (.k (.str "leaf" 0))) [.raise "LeafThere"] []]
theorem alr (F:xu G A)(C3:Qy G A)(h:wX A H σ s){R:Nat}(w:SW R s)(hs:Short s.bs){xs:List Str}(hg:∀ x∈xs,Good x)(h8:xs.length<=8){i:Nat}(hi:i<xs.length){l:Loc}{nl:Addr}(k:Kp [] H H')(g1:l "self" = some (.ref σ.sx))(g2:l "names" = some (.ref nl))(hn:H' nl=some (.list (xs.map λx=>bR x 0))){K:QS}
  (go:¬DK s xs i->∀ H4,Kp [] H H4->H4 nl=some (.list (xs.map λx=>bR x 0))->K .next (l.upd "k" (.int (i:Int) 0)) H4)
  (bad:DK s xs i->∀ H4,wX A H4 σ s->Kp [] H H4->X (A "LeafThere" "") H4):wM G alq (l.upd "k" (.int (i:Int) 0)) H' K (fx X):=by
 have h2:=h.yp k
 refine Fi (zf (Dy (by mem_news) h2.i h2.n (by nest_cls) (by rfl) (xW (xO wI (xW (acI (by mem_news) (by mem_news) hn (cR _) (by rw[len_strs];exact aj h8 (by decide)) λc hc=>yR ?_))))))
 rw[cG,<-tY]
 have k2:Kp [] H' (H'.upd c (.list ((xs.take i).map λx=>bR x 0))):=wW hc _
 have e2:(H'.upd c (.list ((xs.take i).map λx=>bR x 0))) c=some (.list ((xs.take i).map λx=>bR x 0)):=Hp.wQ _ _ _
 generalize H'.upd c (.list ((xs.take i).map λx=>bR x 0))=H3 at k2 e2 ⊢
 obtain⟨r,hf,hr⟩:=Qu w.pw (xs.take i) w.Jm
 refine C3 (h2.yp k2) hs (v:=none) rfl (zZ.mk e2 (λx hx=>hg x (pq hx)) (aj (List.length_take_le' ..) h8)) hf (w.get_some hf) λH4 k4=>xO wI ?_
 have kk:=(k.trans k2).trans k4
 have Jp:=(k2.trans k4).list hn
 rcases w.stat hf hr with rfl | ⟨b,m',rfl,hc⟩ | ⟨b,rows,rfl,hc⟩
 ·exact Ye (t:=false) rfl (Hz (zG (yZ (go (alm hf) H4 kk Jp))))
 ·rw[Nt hc]
  exact Ye (t:=true) rfl (Mw (Qc (by nest_cls) (by nest_cls) (bad ⟨b,m',hf,hc⟩ _ (h.yp kk) kk)))
 ·rw[Nt hc]
  exact Ye (t:=false) rfl (Hz (zG (yZ (go (aln hf hc) H4 kk Jp))))
theorem als (F:xu G A)(C5:Nu G A)(C6:Uy G A)(C7:HB G A)(C8:Jg G A)(C9:Jo G A)(h:wX A H' σ s){R:Nat}(w:SW R s)(hz:(s.made.toNat+9)*(R+2)+2<=2^20){xs:List Str}{m:Int}(hg:∀ x∈xs,Good x)(h8:xs.length<=8)(hne:xs≠[])
  (hW:∀ k<xs.length,zA s.bs s.tree xs k=some (CX s xs k)) (k4:Kp [] H H') {l:Loc} {nl:Addr} (g1:l "self" = some (.ref σ.sx)) (g2:l "names" = some (.ref nl)) (g3:l "number" = some (.int m 0)) (hn:H' nl=some (.list (xs.map λx=>bR x 0)))
  (q:∀ yM k1 n s',Made R s (.leaf m) (CX s xs) (DN xs) xs.length s.cs yM k1 n s'->∀ H1,wX A H1 σ s'->Kp σ.M H H1->Q (.int ((s.bs.length:Int)+1+xs.length-s'.bs.length) 0) H1):wM G (Ky.drop 6) l H' (fq Q) (fx X):=by
 obtain⟨yM,k1,n,s',M⟩:=adV w (c:=.leaf m) (λrows e=>by cases e) (N:=DN xs) (.inl λe=>hne (dN.1 e)) hW (λk hk=>hg _ (uU (KR k hk))) (Qv (aL (aU h8) _) hz) w.pw
 have zb:s.bs.length<=2^20:=aj w.Qx (Za (Qv (aF _ 9) hz))
 refine xX (yx (by mem_news) h.i h.n (by nest_cls) (by rfl) (by mem_news) (C5 h (w.short (aj (aF _ 2) (Np hz))) hn h8 hW λfl ws H5 k5 hfl hws=>?_))
 have h5:=h.yp k5
 obtain⟨bvs,p5,-⟩:=id h5.p.ex
 refine xX (yx (x:=σ.π.x) (by mem_news) p5.i p5.n (by nest_cls) (by rfl) (by mem_news) (C6 h5.p (zy zb) (by rw[w.pw.len];exact zy zb) λH6 p6 k6=>?_))
 rw[Kz _ w.pw.UL,Kz _ w.pw.Y0] at p6
 have hn6:=k6.list (k5.list hn)
 exact ad0 F C7 C8 C9 M (aD _) h8 KR (KH (Bw (Fd (by mem_news) hn6) wI) (by rw[len_strs])) (h5.op p6 k6) g1 g2 rfl rfl (((k4.trans k5).up).trans (k6.mono σ.sub)) hn6 (k6.list hfl) (xU (λuu uu z=>Cv.kp k6 z) hws) (q _ _ _ _ M)
theorem alu (F:xu G A)(C3:Qy G A)(C4:Zg G A)(C5:Nu G A)(C6:Uy G A)(C7:HB G A)(C8:Jg G A)(C9:Jo G A)(h:wX A H σ s){R:Nat}(w:SW R s)(hz:(s.made.toNat+9)*(R+2)+2<=2^20){xs:List Str}{m:Int}(hg:∀ x∈xs,Good x)(h8:xs.length<=8)(hne:xs≠[])
  {l:Loc} {nl:Addr} (I:Qz s σ xs m nl H xs.length l H')
  (q0:∀ b,find s.bs s.tree xs=some (some b)->get s.bs b=some (.leaf m)->∀ H',wX A H' σ s->Kp [] H H'->Q (.int 0 0) H')
  (q:∀ s' g,Ny s xs m->U4 s xs m s' g->SW (R+1) s'->∀ H',wX A H' σ s'->Kp σ.M H H'->Q (.int g 0) H')
  (qB:(∀ k<xs.length,¬DK s xs k)->(∃ b rows,find s.bs s.tree xs=some (some b)/\get s.bs b=some (.br rows))->∀ H',wX A H' σ s->Kp [] H H'->X (A "BranchThere" "") H'):wM G (Ky.drop 3) l H' (fq Q) (fx X):=by
 have g1:=I.g1
 have g2:=I.g2
 have g3:=I.g3
 have hs:=w.short (aj (aF _ 2) (Np hz))
 have hno:∀ k<xs.length,¬DK s xs k:=λk hk=>by
  cases k with
  | zero=>exact alj w xs
  | succ k=>exact I.no (k+1) (eF 1 k) hk
 have hW:∀ k<xs.length,zA s.bs s.tree xs k=some (CX s xs k):=λk hk=>ad1 ((ali w xs k).resolve_right (hno k hk))
 have h2:=h.yp I.k
 obtain⟨r,hf,hr⟩:=Qu w.pw xs w.Jm
 refine xX (yx (by mem_news) h2.i h2.n (by nest_cls) (by rfl) (by mem_news) (C3 h2 hs (v:=none) rfl (zZ.mk I.n hg h8) hf (w.get_some hf) λH3 k3=>?_))
 have kk:=I.k.trans k3
 have h3:=h.yp kk
 have hn:=k3.list I.n
 have rest:Ny s xs m->∀ {l4 H4},Kp [] H H4->l4 "self" = some (.ref σ.sx)->l4 "names" = some (.ref nl)->l4 "number" = some (.int m 0)->H4 nl=some (.list (xs.map λx=>bR x 0))->wM G (Ky.drop 6) l4 H4 (fq Q) (fx X):=λho l4 H4 k4 e1 e2 e3 Jp =>
  als F C5 C6 C7 C8 C9 (h.yp k4) w hz hg h8 hne hW k4 e1 e2 e3 Jp λyM k1 n s' M H1 h1 k1'=>q s' _ ho ⟨M.made,M.tree,M.wL,M.last,rfl,_,_,hW,KR,M.sub⟩ M.sw _ h1 k1'
 rcases w.stat hf hr with rfl | ⟨b,m',rfl,hc⟩ | ⟨b,rows,rfl,hc⟩
 ·exact zW (by mem_news) (zW (by mem_news) (rest (alo hf) kk g1 g2 g3 hn))
 ·rw[Nt hc]
  refine zW (by mem_news) (Fi (Yb (acB (i:=some "leaf") (wH rfl) wI rfl) (zf (yx (by mem_news) h3.i h3.n (by nest_cls) (by rfl) (by mem_news) (C4 h3 hs (v:=none) rfl (zZ.mk hn hg h8) hf (w.get_some hf) (λb' m2 e e2 H4 k4=>?_) (λzz=>by cases zz) λb' rows e e2=>?_)))))
  ·cases e
   rw[hc] at e2;cases e2
   refine xO (wH g3) (Gh trivial ?_)
   by_cases em:m'=m
   ·subst em
    rw[decide_eq_true rfl]
    exact Mw (zT wI (q0 b hf hc _ (h3.yp k4) (kk.trans k4)))
   ·rw[decide_eq_false em]
    exact Hz (zG (rest (alp hf hc em) (kk.trans k4) g1 g2 g3 (k4.list hn)))
  ·cases e;rw[hc] at e2;cases e2
 ·rw[Nt hc]
  exact Dk (by mem_news) (Qc (by nest_cls) (by nest_cls) (qB hno ⟨b,rows,hf,hc⟩ _ h3 kk))
theorem alv (F:xu G A)(C1:YQ G A)(C2:adJ G A)(C3:Qy G A)(C4:Zg G A)(C5:Nu G A)(C6:Uy G A)(C7:HB G A)(C8:Jg G A)(C9:Jo G A)
  (h:wX A H σ s) {R:Nat} (w:SW R s) (hz:(s.made.toNat+9)*(R+2)+2<=2^20) {a:Addr} {xs:List Str} {m:Int} (hp:zZ H a xs) (hne:xs≠[]) (m1:-(10^30)<m) (m2:m<10^30)
  (q0:∀ b,find s.bs s.tree xs=some (some b)->get s.bs b=some (.leaf m)->∀ H',wX A H' σ s->Kp [] H H'->Q (.int 0 0) H')
  (q:∀ s' g,Ny s xs m->U4 s xs m s' g->SW (R+1) s'->∀ H',wX A H' σ s'->Kp σ.M H H'->Q (.int g 0) H')
  (qL:(∃ k,1<=k/\k<xs.length/\DK s xs k)->∀ H',wX A H' σ s->Kp [] H H'->X (A "LeafThere" "") H')
  (qB:(∀ k<xs.length,¬DK s xs k)->(∃ b rows,find s.bs s.tree xs=some (some b)/\get s.bs b=some (.br rows))->∀ H',wX A H' σ s->Kp [] H H'->X (A "BranchThere" "") H'):yq G ["self","path","number"] Ky [.ref σ.sx,.ref a,.int m 0] H Q X:=by
 refine yC rfl ?_
 refine xX (w_call (by mem_news) (by nest_cls) (by mem_news) (C1 hp hne λnl H1 k1 hn uu=>?_))
 refine Ao (w_call (by mem_news) (by nest_cls) (by mem_news) (C2 m1 m2 ?_))
 refine ald (n:=xs.length) (Qz s σ xs m nl H) (KH (by mem_news) (by rw[len_strs])) (aK hp.len (by decide)) (λi hi l' H2 I K hK=>?_) (λc hc=>?_) (pX.2 hne) λl2 H2 I=>?_
 ·exact alr F C3 h w (w.short (aj (aF _ 2) (Np hz))) hp.good hp.len hi I.k I.g1 I.g2 I.n (λhnl H4 k4 Jp=>hK.nx _ _ (I.next hnl k4 Jp)) λhl=>qL ⟨i,I.i1,hi,hl⟩
 ·have k2:Kp [] H1 (H1.upd c (.range 1 xs.length 1)):=wW hc _
  exact⟨aD _,k1.trans k2,rfl,rfl,rfl,k2.list hn,λk h1 h2=>absurd h1 (Nat.not_le_of_lt h2)⟩
 ·exact alu F C3 C4 C5 C6 C7 C8 C9 h w hz hp.good hp.len hne I q0 q qB
end
section
variable {A:Ad}{G:Gx}{H H':Hp}{σ:SA}{s s':w7}{Q:QV}{X:XV}
theorem alw {d:Addr}{kvs:List (Int×Value)}(hd:H d=some (.xV kvs))(hz:kvs.length<=sizeLine)(ha:(kvs.map (·.1)).Pairwise (·<·))(q:∀ c,H c=none->Q (.ref c) (H.upd c (.list ((kvs.map (·.1)).map λn=>cL n 0)))):sortI (.ref d) H Q :=
 yr hd ⟨hz,λms hp hs=>by
  rw[hp.eq_of_pairwise (λa b uu uu h1 h2=>oW h1 h2) hs (ha.imp λh=>iG h)]
  exact q⟩
theorem alx (cs:List (Int×Int)):(zO cs).map (·.1)=cs.map (·.1):=by unfold zO;rw[bY];rfl
def Zn (G:Gx)(A:Ad):Prop:=∀ ⦃H:Hp⦄ ⦃σ:SA⦄ ⦃s:w7⦄,wX A H σ s->s.wL.length<=sizeLine->(s.wL.map (·.1)).Pairwise (·<·)->∀ ⦃Q:QV⦄ ⦃X:XV⦄,(∀ c,H c=none->Q (.ref c) (H.upd c (.list ((s.wL.map (·.1)).map λn=>cL n 0))))->G.fn (A "Store" "shot_numbers") [.ref σ.sx] H Q X
theorem aly (F:xu G A)(h:wX A H σ s)(hz:s.wL.length<=sizeLine)(ha:(s.wL.map (·.1)).Pairwise (·<·))(q:∀ c,H c=none->Q (.ref c) (H.upd c (.list ((s.wL.map (·.1)).map λn=>cL n 0)))):yq G ["self"] Us [.ref σ.sx] H Q X:=by
 rw[<-alx] at ha q
 refine yC rfl ?_
 exact zm (Dj (xO (v:=.ref σ.sh) (by mem_news) (alw h.st (by rw[KD];exact hz) ha q)))
def QB (G:Gx)(A:Ad):Prop:=∀ ⦃H:Hp⦄ ⦃σ:SA⦄ ⦃s:w7⦄,wX A H σ s->∀ ⦃R:Nat⦄,SW R s->s.bs.length<=2^20->s.wL.length<=2^20->∀ ⦃Q:QV⦄ ⦃X:XV⦄,
 (∀ k,get s.cs s.tree=some k->SW R { s with cs:=put s.cs s.tree (k+1),wL:=put s.wL (s.last+1) s.tree,last:=s.last+1 }->∀ H',wX A H' σ { s with cs:=put s.cs s.tree (k+1),wL:=put s.wL (s.last+1) s.tree,last:=s.last+1 }->Kp σ.M H H'->Q (.int (s.last+1) 0) H')->G.fn (A "Store" "snap") [.ref σ.sx] H Q X
theorem alz (F:xu G A)(N:Ng G A)(h:wX A H σ s){R:Nat}(w:SW R s)(hz:s.bs.length<=2^20)(hz2:s.wL.length<=2^20)
  (q:∀ k,get s.cs s.tree=some k->SW R { s with cs:=put s.cs s.tree (k+1),wL:=put s.wL (s.last+1) s.tree,last:=s.last+1 }->∀ H',wX A H' σ { s with cs:=put s.cs s.tree (k+1),wL:=put s.wL (s.last+1) s.tree,last:=s.last+1 }->Kp σ.M H H'->Q (.int (s.last+1) 0) H'):yq G ["self"] Un [.ref σ.sx] H Q X:=by
 obtain⟨c,k,hc,hk,w'⟩:=w.snap
 refine yC rfl ?_
 refine Qe (by mem_news) (by mem_news) h.i h.n (by nest_cls) (ao rfl) ?_
 obtain⟨h1,k1⟩:=h.own s.tree (s.last+1)
 refine Qf (d:=σ.sh) (n:=s.last+1) (v:=.int s.tree 0) (by mem_news) (by mem_news) (by mem_news) h1.st (by rw[KD];exact zy hz2) ?_
 rw[Ux]
 obtain⟨h2,k2⟩:=h1.shot (put s.wL (s.last+1) s.tree)
 obtain⟨bvs,p2,-⟩:=id h2.p.ex
 refine Ao (yx (x:=σ.π.x) (vs:=[.int s.tree 0]) (by mem_news) p2.i p2.n (by nest_cls) (by rfl) (by mem_news) (N h2.p hc hk (by rw[w.pw.len];exact zy hz) λH3 p3 k3=>?_))
 have h3:=h2.op p3 k3
 exact zT (v:=.int (s.last+1) 0) (by mem_news) (q k hk w' _ h3 ((k1.trans k2).trans (k3.mono σ.sub)))
def Zo (G:Gx)(A:Ad):Prop:=∀ ⦃H:Hp⦄ ⦃σ:SA⦄ ⦃s:w7⦄,wX A H σ s->∀ ⦃n b:Int⦄,get s.wL n=some b->∀ ⦃Q:QV⦄ ⦃X:XV⦄,Q (.int b 0) H->G.fn (A "Store" "shot") [.ref σ.sx,.int n 0] H Q X
theorem alA (F:xu G A)(T:Nq G A)(h:wX A H σ s){n b:Int}(e:get s.wL n=some b)(q:Q (.int b 0) H):yq G ["self","number"] Uo [.ref σ.sx,.int n 0] H Q X:=by
 refine yC rfl ?_
 refine zW (by mem_news) ?_
 exact zm (yx (by mem_news) h.i h.n (by nest_cls) (by rfl) (by mem_news) (T h (v:=some n) e q))
def Zq (G:Gx)(A:Ad):Prop:=∀ ⦃H:Hp⦄ ⦃σ:SA⦄ ⦃s:w7⦄,wX A H σ s->∀ ⦃R:Nat⦄,SW R s->s.made.toNat*(R+1)+2<=2^20->s.wL.length<=2^20->∀ ⦃n b:Int⦄,get s.wL n=some b->∀ ⦃Q:QV⦄ ⦃X:XV⦄,
 (∀ bs' cs',SW R { s with bs:=bs',cs:=cs',wL:=del s.wL n }->bs'.Sublist s.bs->∀ H',wX A H' σ { s with bs:=bs',cs:=cs',wL:=del s.wL n }->Kp σ.M H H'->Q (.int ((s.bs.length:Int)-bs'.length) 0) H')->G.fn (A "Store" "drop") [.ref σ.sx,.int n 0] H Q X
theorem alB (F:xu G A)(N:Zo G A)(L:YL G A)(h:wX A H σ s){R:Nat}(w:SW R s)(hz:s.made.toNat*(R+1)+2<=2^20)(hz2:s.wL.length<=2^20){n b:Int}(e:get s.wL n=some b)
  (q:∀ bs' cs',SW R { s with bs:=bs',cs:=cs',wL:=del s.wL n }->bs'.Sublist s.bs->∀ H',wX A H' σ { s with bs:=bs',cs:=cs',wL:=del s.wL n }->Kp σ.M H H'->Q (.int ((s.bs.length:Int)-bs'.length) 0) H'):yq G ["self","shot"] Uq [.ref σ.sx,.int n 0] H Q X:=by
 obtain⟨c,k,bs',cs',hc,hg,w',hsub⟩:=w.drop e hz
 refine yC rfl ?_
 refine xX (yx (by mem_news) h.i h.n (by nest_cls) (by rfl) (by mem_news) (N h e ?_))
 refine Ao (Yd (c:=σ.sh) (a:=n) (by mem_news) (by mem_news) h.st (by rw[KD];exact zy hz2) (Nf e) ?_)
 rw[adz]
 obtain⟨h1,k1⟩:=h.shot (del s.wL n)
 obtain⟨bvs,p1,-⟩:=id h1.p.ex
 refine zm (yx (x:=σ.π.x) (vs:=[.int b 0]) (by mem_news) p1.i p1.n (by nest_cls) (by rfl) (by mem_news) (L h1.p hc hg λH2 p2 k2=>?_))
 exact q bs' cs' w' hsub _ (h1.op p2 k2) (k1.trans (k2.mono σ.sub))
def Zr (G:Gx)(A:Ad):Prop:=∀ ⦃H:Hp⦄ ⦃σ:SA⦄ ⦃s:w7⦄,wX A H σ s->∀ ⦃R:Nat⦄,SW R s->s.made.toNat*(R+1)+2<=2^20->∀ ⦃n b:Int⦄,get s.wL n=some b->∀ ⦃Q:QV⦄ ⦃X:XV⦄,
 (∀ bs' cs',SW R { s with bs:=bs',cs:=cs',tree:=b }->bs'.Sublist s.bs->∀ H',wX A H' σ { s with bs:=bs',cs:=cs',tree:=b }->Kp σ.M H H'->Q (.int ((s.bs.length:Int)-bs'.length) 0) H')->G.fn (A "Store" "back") [.ref σ.sx,.int n 0] H Q X
theorem alC (F:xu G A)(N:Zo G A)(L:Jo G A)(h:wX A H σ s){R:Nat}(w:SW R s)(hz:s.made.toNat*(R+1)+2<=2^20){n b:Int}(e:get s.wL n=some b)
  (q:∀ bs' cs',SW R { s with bs:=bs',cs:=cs',tree:=b }->bs'.Sublist s.bs->∀ H',wX A H' σ { s with bs:=bs',cs:=cs',tree:=b }->Kp σ.M H H'->Q (.int ((s.bs.length:Int)-bs'.length) 0) H'):yq G ["self","shot"] Ur [.ref σ.sx,.int n 0] H Q X:=by
 obtain⟨c,k,c2,m,bs',cs',g1,g2,g3,g4,w',hsub⟩:=w.back e hz
 refine yC rfl ?_
 refine zm (Dy (by mem_news) h.i h.n (by nest_cls) (by rfl) (xW (yx (by mem_news) h.i h.n (by nest_cls) (by rfl) (by mem_news) (N h e (yR ?_)))))
 exact L h g1 g2 (by rw[w.pw.len];exact aj (nO _ (eU R)) (Nat.le_of_add_right_le (w.room hz))) g3 g4 λH1 h1 k1=>q bs' cs' w' hsub _ h1 k1
noncomputable def HJ (rows:List (Str×Int))(n:Str):List (Str×Int):=rows.filter λr=>!decide (r.1=n)
def Zt (G:Gx)(A:Ad):Prop:=∀ ⦃H:Hp⦄ ⦃rl:Addr⦄ ⦃xs:List Value⦄ ⦃rows:List (Str×Int)⦄ ⦃n:Str⦄,H rl=some (.list xs)->wK (yD H) xs rows->rows.length<=2^20->∀ ⦃Q:QV⦄ ⦃X:XV⦄,(∀ c ys H',Kp [] H H'->H' c=some (.list ys)->wK (yD H') ys (HJ rows n)->Q (.ref c) H')->G.fn (A "without" "") [.ref rl,.str n 0] H Q X
theorem alD {rl:Addr}{xs:List Value}{rows:List (Str×Int)}{n:Str}(hl:H rl=some (.list xs))(hr:wK (yD H) xs rows)(hz:rows.length<=2^20)
  (q:∀ c ys H',Kp [] H H'->H' c=some (.list ys)->wK (yD H') ys (HJ rows n)->Q (.ref c) H'):yq G ["rows","name"] Ud [.ref rl,.str n 0] H Q X:=by
 refine yC rfl ?_
 refine zm (Yi (λr:Str×Int=>!decide (r.1=n)) id (by mem_news) hl (zy (show xs.length<=2^20 from by rw[zp hr];exact hz)) hr (λv r e=>?_) (λv r uu uu=>wH rfl) λz1 h1 l1 c1 hc1=>?_)
 ·obtain⟨a,rfl,ha⟩:=e
  exact Hx (by mem_news) (by mem_news) rfl
 rw[pC]
 have k1:Kp [] H (H.upd c1 (.list z1)):=wW hc1 _
 exact q _ _ _ k1 (Hp.wQ _ _ _) (xU (λuu uu z=>yD.kp k1 z) h1)
theorem alE {bs:List (Int×Ct)}(xs:List Str){box b:Int}(h:find bs box xs=some (some b))(k:Nat)(hk:k<xs.length):∃ b' rows,find bs box (xs.take k)=some (some b')/\get bs b'=some (.br rows):=by
 induction xs generalizing box k with
 | nil=>cases hk
 | cons n r ih =>
  unfold find at h
  cases hg:get bs box with
  | none=>rw[hg] at h;cases h
  | some c =>
  rw[hg] at h
  cases c with
  | leaf m=>cases h
  | br rows =>
  dsimp only at h
  cases k with
  | zero=>exact⟨box,rows,rfl,hg⟩
  | succ k =>
   cases ho:rowOf rows n with
   | none=>rw[ho] at h;cases h
   | some b2 =>
    rw[ho] at h
    obtain⟨b',Zc,h1,h2⟩:=ih h k (nY hk)
    refine⟨b',Zc,?_,h2⟩
    rw[List.take_succ_cons,find,hg]
    dsimp only
    rw[ho];exact h1
structure Zu (s:w7)(xs:List Str)(s':w7)(g:Int):Prop where
 made:s'.made=s.made+xs.length
 tree:s'.tree=s'.made
 wL:s'.wL=s.wL
 last:s'.last=s.last
 gone:g=(s.bs.length:Int)+xs.length-s'.bs.length
 bs:∃ W N,(∀ k<xs.length,zA s.bs s.tree xs k=some (W k))/\(∀ k<xs.length,xs[k]?=some (N k))/\s'.bs.Sublist (s.bs++[(s.made+1,.br (HJ (W (xs.length-1)) (N (xs.length-1))))]++Bb W N (xs.length-1) (s.made+1) (s.made+1))
theorem ad2 {α:Type}{xs:List α}{n:Nat}(h:xs.length=n+1):xs.getLast?=xs[n]?:=by rw[mY,h];rfl
def Zv (G:Gx)(A:Ad):Prop:=∀ ⦃H:Hp⦄ ⦃σ:SA⦄ ⦃s:w7⦄,wX A H σ s->∀ ⦃R:Nat⦄,SW R s->(s.made.toNat+9)*(R+2)+2<=2^20->∀ ⦃a:Addr⦄ ⦃xs:List Str⦄,zZ H a xs->xs≠[]->∀ ⦃Q:QV⦄ ⦃X:XV⦄,
 (∀ s' g,(∃ b,find s.bs s.tree xs=some (some b))->Zu s xs s' g->SW (R+1) s'->∀ H',wX A H' σ s'->Kp σ.M H H'->Q (.int g 0) H') ->
 (find s.bs s.tree xs=some none->∀ H',wX A H' σ s->Kp [] H H'->X (A "Nothing" "") H')->G.fn (A "Store" "cut") [.ref σ.sx,.ref a] H Q X
theorem alF {xs:List Str}{b:Int}(hf:find s.bs s.tree xs=some (some b)):∀ k<xs.length,zA s.bs s.tree xs k=some (CX s xs k):=λk hk=>by
 obtain⟨b',rows,h1,h2⟩:=alE xs hf k hk
 refine ad1 ⟨rows,?_⟩
 unfold zA;rw[h1];dsimp only;rw[h2]
theorem alG (F:xu G A)(FW:G.glob "without" = some (.ref (A "without" ""))/\G.init (A "without" "")=none)(C4:Zt G A)(C5:Nu G A)(C7:HB G A)(C8:Jg G A)(C9:Jo G A)
  (h:wX A H' σ s) {R:Nat} (w:SW R s) (hz:(s.made.toNat+9)*(R+2)+2<=2^20) {xs:List Str} (hg:∀ x∈xs,Good x) (h8:xs.length<=8) {j:Nat} (hj:xs.length=j+1)
  (hW:∀ k<xs.length,zA s.bs s.tree xs k=some (CX s xs k)) (kk:Kp [] H H') {l:Loc} {nl:Addr} (g1:l "self" = some (.ref σ.sx)) (g2:l "names" = some (.ref nl)) (hn:H' nl=some (.list (xs.map λx=>bR x 0)))
  (q:∀ CW yM k1 n s',Made R s (.br (HJ (CX s xs j) (DN xs j))) (CX s xs) (DN xs) j CW yM k1 n s'->∀ H1,wX A H1 σ s'->Kp σ.M H H1->Q (.int ((s.bs.length:Int)+1+j-s'.bs.length) 0) H1):wM G (Qn.drop 2) l H' (fq Q) (fx X):=by
 have hjl:j<xs.length:=hj▸bV j
 have hR:=aj (aF _ 2) (Np hz)
 have Nj:=hW j hjl
 have hsub:∀ r∈HJ (CX s xs j) (DN xs j),r∈CX s xs j:=λr hr=>(cY.1 hr).1
 have hkey:∀ r∈HJ (CX s xs j) (DN xs j),r.2∈s.bs.map (·.1):=λr hr=>Y6 w.pw Nj r (hsub r hr)
 have U7:=w.way Nj
 have hwl:(HJ (CX s xs j) (DN xs j)).length<=R:=aj (oH ..) U7.1
 obtain⟨CW,ho,p0⟩:=adO (HJ (CX s xs j) (DN xs j)) w.pw hkey
 obtain⟨yM,k1',n,s',M⟩:=adV w (c:=.br (HJ (CX s xs j) (DN xs j))) (by intro rows e;cases e;exact⟨dR hwl,U7.2.1.filter _,λr hr=>U7.2.2 r (hsub r hr)⟩) (N:=DN xs) (.inr ⟨_,rfl⟩) (λk hk=>hW k (eY hk hjl)) (λk hk=>hg _ (uU (KR k (eY hk hjl)))) (Qv (aL (aU (aQ (aB hjl h8))) _) hz) p0
 refine xX (yx (by mem_news) h.i h.n (by nest_cls) (by rfl) (by mem_news) (C5 h (w.short hR) hn h8 hW λfl ws H5 k5 hfl hws=>?_))
 have h5:=h.yp k5
 have Zw:=k5.list hn
 obtain⟨bvs,p5,-⟩:=id h5.p.ex
 have zb:s.bs.length<=2^20:=aj w.Qx (Za (Qv (aF _ 9) hz))
 obtain⟨v,hv1,rl,ys,rfl,-,Zk,Zm⟩:=U0 hws (k:=j) (y:=CX s xs j) (adZ hjl)
 refine xX (Dy (x:=σ.π.x) (by mem_news) p5.i p5.n (by nest_cls) (by rfl) (xW (w_call (Am FW.1) FW.2 (vs:=[.ref rl,.str (DN xs j) 0]) (w6 (X7 (wH rfl) hfl (show ws.getLast?=some (.ref rl) from by rw[ad2 (n:=j) (by rw[zp hws,aA,eN,hj])];exact hv1)) (w6 (X7 (wH g2) Zw (show(xs.map λx=>bR x 0).getLast?=some (.str (DN xs j) 0) from by rw[ad2 ((len_strs xs).trans hj),cD,KR _ hjl];rfl)) xM)) (C4 Zk Zm (aj U7.1 hR) λc zs H6 k6 hc6 hr6=>yR ?_))))
 have h6:=h5.yp k6
 refine C7 h6.p hc6 hr6 (λr hr=>Ba (hkey r hr)) ho (zy zb) (by rw[w.pw.len];exact zy zb) (zy (aj hwl hR)) λH7 p7 k7=>?_
 rw[Kz _ w.pw.UL,Kz _ p0.Y0] at p7
 have QC:Kp σ.M H5 H7:=k6.up.trans (k7.mono σ.sub)
 exact ad0 F C7 C8 C9 M (aQ hjl) h8 KR (KH (Bw (Fd (wH g2) (QC.list Zw)) wI) (by rw[len_strs,hj];congr 1;exact(Int.add_sub_add_right (j:Int) 1 1))) (h6.op p7 k7) g1 g2 rfl rfl (((kk.trans k5).up).trans QC) (QC.list Zw) (QC.list hfl) (xU (λuu uu z=>Cv.kp QC z) hws) (q _ _ _ _ _ M)
theorem alH (F:xu G A)(FW:G.glob "without" = some (.ref (A "without" ""))/\G.init (A "without" "")=none)(C1:YQ G A)(C3:Nr G A)(C4:Zt G A)(C5:Nu G A)(C7:HB G A)(C8:Jg G A)(C9:Jo G A)
  (h:wX A H σ s) {R:Nat} (w:SW R s) (hz:(s.made.toNat+9)*(R+2)+2<=2^20) {a:Addr} {xs:List Str} (hp:zZ H a xs) (hne:xs≠[])
  (q:∀ s' g,(∃ b,find s.bs s.tree xs=some (some b))->Zu s xs s' g->SW (R+1) s'->∀ H',wX A H' σ s'->Kp σ.M H H'->Q (.int g 0) H')
  (qN:find s.bs s.tree xs=some none->∀ H',wX A H' σ s->Kp [] H H'->X (A "Nothing" "") H'):yq G ["self","path"] Qn [.ref σ.sx,.ref a] H Q X:=by
 obtain⟨j,hj⟩:=Nat.exists_eq_succ_of_ne_zero λe=>hne (dN.1 e)
 have hj:xs.length=j+1:=hj
 refine yC rfl ?_
 refine xX (w_call (by mem_news) (by nest_cls) (by mem_news) (C1 hp hne λnl H1 k1 hn uu=>?_))
 obtain⟨r,hf,hr⟩:=Qu w.pw xs w.Jm
 have h1:=h.yp k1
 refine Fi (zf (yx (vs:=[.int s.tree 0,.ref nl]) (by mem_news) h1.i h1.n (by nest_cls) (by rfl) (by mem_news) (C3 h1 (w.short (aj (aF _ 2) (Np hz))) hn hf λH2 k2=>xO wI ?_)))
 have kk:=k1.trans k2
 have h2:=h.yp kk
 cases r with
 | none=>exact acJ rfl (Mw (Qc (by nest_cls) (by nest_cls) (qN hf _ h2 kk)))
 | some b =>
 refine acJ rfl (Hz (zG ?_))
 have hW:=alF hf
 refine alG F FW C4 C5 C7 C8 C9 h2 w hz hp.good hp.len hj hW kk rfl rfl (k2.list hn) λCW yM k1 n s' M H1 h1 k1'=>q s' _ ⟨b,hf⟩ ⟨?_,M.tree,M.wL,M.last,?_,_,_,hW,KR,?_⟩ M.sw _ h1 k1'
 ·rw[M.made,hj];exact up1 _ j
 ·rw[hj,up1]
 ·rw[hj];exact M.sub
end
section
variable {A:Ad}{G:Gx}{H H':Hp}{σ:SA}{s s':w7}{Q:QV}{X:XV}
structure Mk (H0:Hp)(x d C:Addr)(kvs:List (Str×Value))(H:Hp):Prop where
 k:Kp [] H0 H
 d0:H0 d=none
 i:H x=some (.inst C d)
 n:H d=some (.ns kvs)
section
variable {H0:Hp}{x d C a:Addr}{kvs:List (Str×Value)}{o:xH}
theorem Mk.start (hd:H d=none)(hx:H x=none)(hdx:d≠x)(C:Addr):Mk H x d C [] ((H.upd d (.ns [])).upd x (.inst C d)) :=
 ⟨(wW hd _).fresh hx _,hd,Hp.wQ _ _ _,(Hp.xJ _ _ hdx).trans (Hp.wQ _ _ _)⟩
theorem Mk.kp (M:Mk H0 x d C kvs H)(k:Kp [] H H'):Mk H0 x d C kvs H':=⟨M.k.trans k,M.d0,k _ _ M.i (.inl rfl),k _ _ M.n (.inr aH)⟩
theorem Mk.keep (M:Mk H0 x d C kvs H)(h:H a=some o)(hn:∀ kvs,o≠.ns kvs)(kv:List (Str×Value)):(H.upd d (.ns kv)) a=some o:=(Hp.xJ _ _ (yK h M.n (hn _))).trans h
theorem Mk.set (M:Mk H0 x d C kvs H)(kv:List (Str×Value)):Mk H0 x d C kv (H.upd d (.ns kv)):=⟨M.k.fresh M.d0 _,M.d0,M.keep M.i (λuu zz=>by cases zz) kv,Hp.wQ _ _ _⟩
theorem Zx {l:Loc}(q:∀ c,H c=none->Q (.ref c) (H.upd c (.xV []))):Ex.n newD [] G l H Q X:=q
end
def ad3 (G:Gx)(A:Ad):Prop:=∀ ⦃H:Hp⦄ ⦃x d:Addr⦄,H d=none->H x=none->d≠x->∀ ⦃Q:QV⦄ ⦃X:XV⦄,(∀ H' π,π.x=x->yt A H' π [] [] 0->Kp [] H H'->(∀ a∈π.M,H a=none)->Q .none H')->G.fn (A "Pile" "__init__") [.ref x] ((H.upd d (.ns [])).upd x (.inst (A "Pile" "") d)) Q X
theorem alI {P:Addr->Prop}{a b c:Addr}(h1:P a)(h2:P b)(h3:P c):∀ x∈[a,b,c],P x:=λx h=>(aM.1 h).elim (λe=>e▸h1) λh=>(aM.1 h).elim (λe=>e▸h2) λh=>aC.1 h▸h3
theorem alJ (F:Env G A){x d:Addr}(hd:H d=none)(hx:H x=none)(hdx:d≠x)(q:∀ H' π,π.x=x->yt A H' π [] [] 0->Kp [] H H'->(∀ a∈π.M,H a=none)->Q .none H'):yq G ["self"] T5 [.ref x] ((H.upd d (.ns [])).upd x (.inst (A "Pile" "") d)) Q X:=by
 have M1:=Mk.start hd hx hdx (A "Pile" "")
 generalize (H.upd d (.ns [])).upd x (.inst (A "Pile" "") d)=H1 at M1 ⊢
 refine yC rfl ?_
 refine Qd (Zx λbx hbx=>xO (v:=.ref x) (by mem_news) ?_)
 have M2:=M1.kp (wW hbx (.xV []))
 have b2:(H1.upd bx (.xV [])) bx=some (.xV []):=Hp.wQ _ _ _
 generalize H1.upd bx (.xV [])=H2 at M2 b2 ⊢
 refine Mx M2.i M2.n (by nest_cls) (ao rfl) ?_
 have M3:=M2.set [("boxes",.ref bx)]
 have b3:=M2.keep b2 (λuu zz=>by cases zz) [("boxes",.ref bx)]
 show wM G _ _ (H2.upd d (.ns [("boxes",.ref bx)])) _ _
 generalize H2.upd d (.ns [("boxes",.ref bx)])=H3 at M3 b3 ⊢
 refine Qd (Zx λct hct=>xO (v:=.ref x) (by mem_news) ?_)
 have k4:Kp [] H3 (H3.upd ct (.xV [])):=wW hct _
 have M4:=M3.kp k4
 have b4:=k4 _ _ b3 (.inr aH)
 have c4:(H3.upd ct (.xV [])) ct=some (.xV []):=Hp.wQ _ _ _
 generalize H3.upd ct (.xV [])=H4 at M4 b4 c4 ⊢
 refine Mx M4.i M4.n (by nest_cls) (ao rfl) ?_
 have M5:=M4.set [("boxes",.ref bx),("counts",.ref ct)]
 have b5:=M4.keep b4 (λuu zz=>by cases zz) [("boxes",.ref bx),("counts",.ref ct)]
 have c5:=M4.keep c4 (λuu zz=>by cases zz) [("boxes",.ref bx),("counts",.ref ct)]
 show wM G _ _ (H4.upd d (.ns [("boxes",.ref bx),("counts",.ref ct)])) _ _
 generalize H4.upd d (.ns [("boxes",.ref bx),("counts",.ref ct)])=H5 at M5 b5 c5 ⊢
 refine Qe wI (by mem_news) M5.i M5.n (by nest_cls) (ao rfl) (yZ ?_)
 have M6:=M5.set [("boxes",.ref bx),("counts",.ref ct),("made",.int 0 0)]
 exact q _ ⟨x,d,bx,ct⟩ rfl ⟨[],⟨M6.i,M6.n,M5.keep b5 (λuu zz=>by cases zz) _,M5.keep c5 (λuu zz=>by cases zz) _,λe:bx=ct=>xr b3 (e▸hct)⟩,.nil⟩ M6.k (alI hd (M1.k.Az hbx) (M3.k.Az hct))
noncomputable def Nz:w7:=⟨[(1,.br [])],[(1,1)],1,1,[],0⟩
theorem yt.own {π:PA}{bs:List (Int×Ct)}{cs:List (Int×Int)}{mk:Int}{d:Addr}{kvs:List (Str×Value)}(p:yt A H π bs cs mk)(hn:H d=some (.ns kvs))(hne:π.d≠d)(o:xH):yt A (H.upd d o) π bs cs mk:=by
 obtain⟨bvs,q,-⟩:=id p.ex
 exact p.kp (Nb hn rfl (.head _) o) (HF hne) (HF (yK q.b hn (λzz=>by cases zz))) (HF (yK q.c hn (λzz=>by cases zz)))
def ad4 (G:Gx)(A:Ad):Prop:=∀ ⦃H:Hp⦄ ⦃x d:Addr⦄,H d=none->H x=none->d≠x->∀ ⦃Q:QV⦄ ⦃X:XV⦄,(∀ H' σ,σ.sx=x->wX A H' σ Nz->Kp [] H H'->(∀ a∈σ.M,H a=none)->Q .none H')->G.fn (A "Store" "__init__") [.ref x] ((H.upd d (.ns [])).upd x (.inst (A "Store" "") d)) Q X
theorem Mk.kpM {H0:Hp}{x d C:Addr}{kvs:List (Str×Value)}{π:PA}(M:Mk H0 x d C kvs H)(k:Kp π.M H H')(hM:∀ a∈π.M,H0 a=none)(hd:d∉π.M):Mk H0 x d C kvs H' :=
 ⟨λa o e uu=>k a o (M.k a o e (.inr aH)) (.inr λh=>xr e (hM a h)),M.d0,k _ _ M.i (.inl rfl),k _ _ M.n (.inr hd)⟩
theorem alK (F:xu G A)(P:ad3 G A)(B:HB G A)(N:Ng G A){x d:Addr}(hd:H d=none)(hx:H x=none)(hdx:d≠x)(q:∀ H' σ,σ.sx=x->wX A H' σ Nz->Kp [] H H'->(∀ a∈σ.M,H a=none)->Q .none H'):yq G ["self"] Ui [.ref x] ((H.upd d (.ns [])).upd x (.inst (A "Store" "") d)) Q X:=by
 have M1:=Mk.start hd hx hdx (A "Store" "")
 generalize (H.upd d (.ns [])).upd x (.inst (A "Store" "") d)=H1 at M1 ⊢
 refine yC rfl ?_
 refine Qd (acH (by mem_news) (by nest_cls) xM λpd px hpd hpx hne=>P hpd hpx hne λH2 π hπ p2 k2 hM=>⟨rfl,xO (v:=.ref x) (by mem_news) ?_⟩)
 subst hπ
 have M2:=M1.kp k2
 have dM:d∉π.M:=λe=>xr M1.n (hM d e)
 have dd:π.d≠d:=λe=>dM (e▸.head _)
 have Zy:∀ a∈π.M,H a=none:=λa ha=>M1.k.Az (hM a ha)
 refine Mx M2.i M2.n (by nest_cls) (ao rfl) ?_
 have M3:=M2.set [("pile",.ref π.x)]
 have p3:=p2.own M2.n dd (.ns [("pile",.ref π.x)])
 show wM G _ _ (H2.upd d (.ns [("pile",.ref π.x)])) _ _
 generalize H2.upd d (.ns [("pile",.ref π.x)])=H3 at M3 p3 ⊢
 have i3:=M3.i
 have n3:=M3.n
 obtain⟨bv3,q3,-⟩:=id p3.ex
 refine Qd (Dy (x:=π.x) (by mem_news) q3.i q3.n (by nest_cls) (by rfl) (xW (Di xM (ao rfl) λc hc=>yR ?_)))
 have k4:Kp [] H3 (H3.upd c (.list [])):=wW hc _
 refine B (p3.yp k4) (rows:=[]) (Hp.wQ _ _ _) .nil (λr h=>absurd h aH) rfl (bL _) (bL _) (bL _) λH5 p5 k5=>xO (v:=.ref x) (by mem_news) ?_
 have M5:=(M3.kp k4).kpM k5 Zy dM
 refine Mx M5.i M5.n (by nest_cls) (ao rfl) ?_
 have M6:=M5.set [("pile",.ref π.x),("tree",.int (0+1) 0)]
 have p6:=p5.own M5.n dd (.ns [("pile",.ref π.x),("tree",.int (0+1) 0)])
 show wM G _ _ (H5.upd d (.ns [("pile",.ref π.x),("tree",.int (0+1) 0)])) _ _
 generalize H5.upd d (.ns [("pile",.ref π.x),("tree",.int (0+1) 0)])=H6 at M6 p6 ⊢
 have i6:=M6.i
 have n6:=M6.n
 obtain⟨bv6,q6,-⟩:=id p6.ex
 refine Ao (yx (x:=π.x) (vs:=[.int (0+1) 0]) (by mem_news) q6.i q6.n (by nest_cls) (by rfl) (by mem_news) (N p6 (i:=0+1) (c:=.br []) (k:=0) rfl rfl (by decide) λH7 p7 k7=>?_))
 have M7:=M6.kpM k7 Zy dM
 refine Qd (Zx λsh hsh=>xO (v:=.ref x) (by mem_news) ?_)
 have k8:Kp [] H7 (H7.upd sh (.xV [])):=wW hsh _
 have M8:=M7.kp k8
 have s8:(H7.upd sh (.xV [])) sh=some (.xV []):=Hp.wQ _ _ _
 have p8:=p7.yp k8
 obtain⟨bv7,q7,-⟩:=id p7.ex
 generalize H7.upd sh (.xV [])=H8 at M8 s8 p8 ⊢
 refine Mx M8.i M8.n (by nest_cls) (ao rfl) ?_
 have M9:=M8.set [("pile",.ref π.x),("tree",.int (0+1) 0),("shots",.ref sh)]
 have s9:=M8.keep s8 (λuu zz=>by cases zz) [("pile",.ref π.x),("tree",.int (0+1) 0),("shots",.ref sh)]
 have p9:=p8.own M8.n dd (.ns [("pile",.ref π.x),("tree",.int (0+1) 0),("shots",.ref sh)])
 show wM G _ _ (H8.upd d (.ns [("pile",.ref π.x),("tree",.int (0+1) 0),("shots",.ref sh)])) _ _
 generalize H8.upd d (.ns [("pile",.ref π.x),("tree",.int (0+1) 0),("shots",.ref sh)])=H9 at M9 s9 p9 ⊢
 refine Qe wI (by mem_news) M9.i M9.n (by nest_cls) (ao rfl) (yZ ?_)
 have Zz:=M9.set [("pile",.ref π.x),("tree",.int (0+1) 0),("shots",.ref sh),("last",.int 0 0)]
 exact q _ ⟨x,d,sh,π⟩ rfl ⟨Zz.i,Zz.n,M9.keep s9 (λuu zz=>by cases zz) _,p9.own M9.n dd _,cH dd,λe:sh=π.bx=>xr q7.b (e▸hsh),λe:sh=π.ct=>xr q7.c (e▸hsh)⟩ Zz.k λa ha=>(aM.1 ha).elim (λe=>e▸hd) λha=>(aM.1 ha).elim (λe=>e▸M7.k.Az hsh) (Zy a)
structure ad5 (tab:Tab)(A:Ad):Prop where
 p:adE tab A
 ad6:w5 tab (A "is_name" "") ["thing"] TX
 checked:w5 tab (A "checked" "") ["path"] TY
 ad7:w5 tab (A "box_of" "") ["rows","name"] Uc
 placed:w5 tab (A "placed" "") ["rows","name","box"] Ue
 ad8:w5 tab (A "need_way" "") ["path"] Ug
 ad9:w5 tab (A "need_number" "") ["number"] Uh
 aea:w5 tab (A "Pile" "__init__") ["self"] T5
 U8:w5 tab (A "Store" "__init__") ["self"] Ui
 top:w5 tab (A "Store" "top") ["self","view"] Uj
 found:w5 tab (A "Store" "found") ["self","box","names"] Uk
 ways:w5 tab (A "Store" "ways") ["self","names"] Ul
 changed:w5 tab (A "Store" "changed") ["self","box"] Um
 put:w5 tab (A "Store" "put") ["self","path","number"] Ky
 kind:w5 tab (A "Store" "kind") ["self","view","path"] Ut
 value:w5 tab (A "Store" "value") ["self","view","path"] Uu
section
variable {g:Gx}{tab:Tab}(f:xu g A)(t:ad5 tab A)(n:Nat)
include f t
theorem alL:adI (GG g tab (n+1)) A:=λuu uu hx uu uu q=>yE t.ad6 (akK (f.gg tab n) hx q)
theorem ZC:UJ (GG g tab (n+2)) A:=λuu uu uu hp uu uu q=>yE t.checked (akL (f.gg tab _) (alL f t n) hp q)
theorem aeb:YQ (GG g tab (n+3)) A:=λuu uu uu hp hne uu uu q=>yE t.ad8 (akM (f.gg tab _) (ZC f t n) hp hne q)
theorem alM:adJ (GG g tab (n+1)) A:=λuu uu h1 h2 uu uu q=>yE t.ad9 (akN (f.gg tab _) h1 h2 q)
omit f in
theorem aec:KN (GG g tab (n+1)) A:=λuu uu uu uu uu h1 h2 uu uu q=>yE t.ad7 (akO h1 h2 q)
omit f in
theorem aed:Jg (GG g tab (n+1)) A:=λuu uu uu uu uu uu h1 h2 h3 uu uu q=>yE t.placed (akP h1 h2 h3 q)
theorem QD:Nq (GG g tab (n+1)) A:=λuu uu uu h uu uu hv uu uu q=>yE t.top (ak6 (f.gg tab _) h hv q)
theorem U9:Nr (GG g tab (n+3)) A:=λuu uu uu h hs uu uu uu uu hn hf uu uu q=>yE t.found (ak7 (f.gg tab _) (KJ f.p t.p n) (aec t (n+1)) h hs hn hf q)
theorem aee:Qy (GG g tab (n+4)) A:=λuu uu uu h hs uu uu hv uu uu uu hp hf hr uu uu q=>yE t.kind (ak8 (f.gg tab _) (QD f t (n+2)) (ZC f t (n+1)) (U9 f t n) (KJ f.p t.p (n+1)) h hs hv hp hf hr q)
theorem alN:Zg (GG g tab (n+5)) A:=λuu uu uu h hs uu uu hv uu uu uu hp hf hr uu uu q q1 q2=>yE t.value (ak9 (f.gg tab _) (QD f t (n+3)) (ZC f t (n+2)) (U9 f t (n+1)) (KJ f.p t.p (n+2)) (aee f t n) h hs hv hp hf hr q q1 q2)
theorem aef:Nu (GG g tab (n+4)) A:=λuu uu uu h hs uu uu hn hz uu hW uu uu q=>yE t.ways (alg (f.gg tab _) (U9 f t n) (KJ f.p t.p (n+1)) h hs hn hz hW q)
theorem ZD:Jo (GG g tab (n+3)) A:=λuu uu uu h uu uu uu uu h1 h2 h3 h4 uu uu uu uu h5 uu uu q=>yE t.changed (alh (f.gg tab _) (UG f.p t.p n) (adF f.p t.p n) h h1 h2 h3 h4 h5 q)
theorem aeg:U5 (GG g tab (n+6)) A:=λuu uu uu h uu w hz uu uu uu hp hne m1 m2 uu uu q0 q qL qB=>yE t.put (alv (f.gg tab _) (aeb f t (n+2)) (alM f t (n+4)) (aee f t (n+1)) (alN f t n) (aef f t (n+1)) (akG f.p t.p (n+3)) (YM f.p t.p (n+2)) (aed t (n+4)) (ZD f t (n+2)) h w hz hp hne m1 m2 q0 q qL qB)
theorem alO:ad3 (GG g tab (n+1)) A:=λuu uu uu hd hx hne uu uu q=>yE t.aea (alJ (f.p.gg tab _) hd hx hne q)
theorem alP:ad4 (GG g tab (n+4)) A:=λuu uu uu hd hx hne uu uu q=>yE t.U8 (alK (f.gg tab _) (alO f t (n+2)) (YM f.p t.p n) (UG f.p t.p (n+1)) hd hx hne q)
end
end
end wC
end
section
open PySem PyProof.Rows
namespace wC
noncomputable def Fv:Option Ct->List (Str×Int)
 | some (.br rows)=>rows
 | _=>[]
noncomputable def NK:Option Ct->Option Int
 | some (.leaf m)=>some m
 | _=>none
noncomputable def yh (bs:List (Int×Ct))(a:Option Int):List (Str×Int):=Fv (a.bind (get bs))
noncomputable def xq (bs:List (Int×Ct))(a:Option Int):Option Int:=NK (a.bind (get bs))
noncomputable def Bc (bs:List (Int×Ct))(a:Option Int)(n:Str):Option Int:=rowOf (yh bs a) n
noncomputable def wO (bs:List (Int×Ct))(a:Option Int)(p:List Str):Option Int:=p.foldl (Bc bs) a
section
variable {bs:List (Int×Ct)}{a b:Option Int}{n:Str}{p r:List Str}
theorem Jq (a:Option Int)(p r:List Str):wO bs a (p++r)=wO bs (wO bs a p) r:=List.foldl_append ..
theorem Fw (p:List Str):wO bs none p=none:=by
 induction p with
 | nil=>rfl
 | cons n p ih=>exact ih
theorem Va {rows:List (Str×Int)}{b:Int}(h:rowOf rows n=some b):(n,b)∈rows:=by
 obtain⟨q,hq,rfl⟩:=bG.1 h
 have e:=rO hq
 rw[<-(of_decide_eq_true e:q.1=n)]
 exact jU hq
theorem aeh {rows:List (Str×Int)}(h:n∉rows.map (·.1)):rowOf rows n=none:=by
 cases e:rowOf rows n with
 | none=>rfl
 | some b=>exact absurd (aO.2 ⟨_,Va e,rfl⟩) h
theorem aei {α:Type}{R:α->α->Prop}(ZF:∀ a b,R a b->R b a->False){k:List α}:∀ {l:List α},k.Pairwise R->l.Pairwise R->(∀ x,x∈k↔x∈l)->k=l:=by
 induction k with
 | nil =>
  intro l _ _ h
  cases l with
  | nil=>rfl
  | cons x l=>exact absurd ((h x).2 (.head _)) aH
 | cons x k ih =>
  intro l hk hl h
  cases l with
  | nil=>exact absurd ((h x).1 (.head _)) aH
  | cons y l =>
   have hk:=cX.1 hk
   have hl:=cX.1 hl
   have e:x=y:=by
    rcases aM.1 ((h x).1 (.head _)) with e | e
    ·exact e
    ·refine Dr λgg kk=>?_
     rcases aM.1 ((h y).2 (.head _)) with q | q <;> (refine kk ?_;clear kk gg)
     ·exact q.symm
     ·exact(ZF _ _ (hl.1 x e) (hk.1 y q)).elim
   subst e
   refine congrArg _ (ih hk.2 hl.2 λz=>⟨λhz=>?_,λhz=>?_⟩)
   ·exact((aM.1 ((h z).1 (.tail _ hz))).resolve_left λe=>ZF _ _ (hk.1 z hz) (e▸hk.1 z hz))
   ·exact((aM.1 ((h z).2 (.tail _ hz))).resolve_left λe=>ZF _ _ (hl.1 z hz) (e▸hl.1 z hz))
theorem QF (a b:Str)(h1:yS a b=true)(h2:yS b a=true):False:=by
 unfold yS at *
 rw[decide_eq_true_iff] at *
 exact tZ h1 h2
theorem aej {a b:Str}(h:a.cps.toList=b.cps.toList):a=b:=by
 cases a;cases b
 congr 1
 exact wB.1 h
theorem alQ {a b:Str}(h:a≠b):yS a b=true\/yS b a=true:=by
 unfold yS
 rw[decide_eq_true_iff,decide_eq_true_iff]
 apply bA
 intro q
 exact h (aej (nF (jG.1 λz=>q (.inr z)) (jG.1 λz=>q (.inl z))))
noncomputable def ins (n:Str)(l:List Str):List Str:=l.filter (λx=>yS x n)++n::l.filter (λx=>yS n x)
theorem alR {l:List Str}{x:Str}:x∈ins n l↔x=n\/x∈l:=by
 unfold ins
 rw[aR,aM,cY,cY]
 constructor
 ·rintro (h | h | h)
  ·exact .inr h.1
  ·exact .inl h
  ·exact .inr h.1
 ·rintro (h | h)
  ·exact .inr (.inl h)
  ·by_cases e:x=n
   ·exact .inr (.inl e)
   ·rcases alQ e with q | q
    ·exact .inl ⟨h,q⟩
    ·exact .inr (.inr ⟨h,q⟩)
theorem Wc {l:List Str}(h:l.Pairwise λa b=>yS a b=true):(ins n l).Pairwise λa b=>yS a b=true:=by
 unfold ins
 rw[bN,cX]
 refine⟨h.filter _,⟨λy hy=>(cY.1 hy).2,h.filter _⟩,λx hx y hy=>?_⟩
 have h1:=(cY.1 hx).2
 rcases aM.1 hy with hy | hy
 ·rw[hy];exact h1
 ·exact adR h1 (cY.1 hy).2
noncomputable def BK (l:List Str):List Str:=l.foldr ins []
theorem Vb {x:Str}(l:List Str):x∈BK l↔x∈l:=by
 induction l with
 | nil=>exact Iff.rfl
 | cons y l ih=>exact alR.trans ((or_congr_right ih).trans List.mem_cons.symm)
theorem Vc (l:List Str):(BK l).Pairwise λa b=>yS a b=true:=by
 induction l with
 | nil=>exact .nil
 | cons y l ih=>exact Wc ih
theorem Lf {k l:List Str}(h:k.Pairwise λa b=>yS a b=true)(hm:∀ x,x∈k↔x∈l):k=BK l:=aei QF h (Vc l) λx=>(hm x).trans (Vb l).symm
noncomputable abbrev Vt:=List Str×Option Int×Option Int
noncomputable def nms (bs:List (Int×Ct))(a b:Option Int):List Str:=BK ((yh bs a++yh bs b).map (·.1))
theorem alS (a b:Option Int):nms bs a b=nms bs b a:=Lf (Vc _) λx=>(Vb _).trans (by rw[aX,aX,aR,aR];exact or_comm)
noncomputable def Bo (bs:List (Int×Ct))(e:Vt):List Vt:=(nms bs e.2.1 e.2.2).map λn=>(e.1++[n],Bc bs e.2.1 n,Bc bs e.2.2 n)
noncomputable def vis (bs:List (Int×Ct)):Nat->Vt->List Vt
 | 0,_=>[]
 | d+1,e=>if e.2.1=e.2.2 then[] else e::(Bo bs e).reverse.flatMap (vis bs d)
noncomputable def Cd (bs:List (Int×Ct))(L:List Vt):List Vt:=L.reverse.flatMap λe=>vis bs (9-e.1.length) e
section
variable {d:Nat}{e e':Vt}{L:List Vt}
theorem QG (h:e.2.1=e.2.2):vis bs d e=[]:=by
 cases d with
 | zero=>rfl
 | succ d=>exact if_pos h
theorem KY (h:e.2.1≠e.2.2):vis bs (d+1) e=e::(Bo bs e).reverse.flatMap (vis bs d):=if_neg h
theorem QH (L:List Vt)(e:Vt):Cd bs (L++[e])=vis bs (9-e.1.length) e++Cd bs L:=by
 unfold Cd;rw[gB];rfl
theorem alT (h:e.2.1=e.2.2):Cd bs (L++[e])=Cd bs L:=by rw[QH,QG h];rfl
theorem Rv {α β:Type}{f g:α->List β}{l:List α}(h:∀ x∈l,f x=g x):l.flatMap f=l.flatMap g:=by
 unfold List.flatMap;rw[fK h]
theorem aek (h:e.2.1≠e.2.2)(h8:e.1.length<=8):Cd bs (L++[e])=e::Cd bs (L++Bo bs e):=by
 rw[QH,Nat.succ_sub h8,KY h]
 unfold Cd
 rw[gB,vf]
 refine congrArg (λz=>e::(z++_)) (Rv λx hx=>?_)
 obtain⟨n,-,rfl⟩:=aO.1 (ji.1 hx)
 rw[aG,dJ,o7 8 1]
theorem ael (h:e'∈Bo bs e):∃ n,e'.1=e.1++[n]/\e'.2.1=wO bs e.2.1 [n]/\e'.2.2=wO bs e.2.2 [n]:=by
 obtain⟨n,-,rfl⟩:=aO.1 h
 exact⟨n,rfl,rfl,rfl⟩
structure Below (bs:List (Int×Ct))(e e':Vt)(r:List Str):Prop where
 p:e'.1=e.1++r
 a:e'.2.1=wO bs e.2.1 r
 b:e'.2.2=wO bs e.2.2 r
theorem NP:∀ {e:Vt},e'∈vis bs d e->e'.2.1≠e'.2.2/\∃ r,Below bs e e' r:=by
 induction d with
 | zero=>intro e h;exact absurd h aH
 | succ d ih =>
  intro e h
  by_cases q:e.2.1=e.2.2
  ·rw[QG q] at h;exact absurd h aH
  rw[KY q] at h
  rcases aM.1 h with rfl | h
  ·exact⟨q,[],(aY _).symm,rfl,rfl⟩
  ·obtain⟨k,hk,h⟩:=lG.1 h
   obtain⟨n,h1,h2,h3⟩:=ael (ji.1 hk)
   obtain⟨z,r,R⟩:=ih h
   exact⟨z,[n]++r,by rw[R.p,h1,aP],by rw[R.a,h2,Jq],by rw[R.b,h3,Jq]⟩
theorem aem (r:List Str):∀ {d:Nat} {e:Vt},r.length<d->xq bs (wO bs e.2.1 r)≠xq bs (wO bs e.2.2 r)->(e.1++r,wO bs e.2.1 r,wO bs e.2.2 r)∈vis bs d e:=by
 induction r with
 | nil =>
  intro d e hd h
  cases d with
  | zero=>cases hd
  | succ d =>
   rw[KY λq=>h (by rw[q]),aY]
   exact .head _
 | cons n r ih =>
  intro d e hd h
  cases d with
  | zero=>cases hd
  | succ d =>
   rw[KY λq=>h (by rw[q])]
   refine .tail _ (lG.2 ⟨(e.1++[n],Bc bs e.2.1 n,Bc bs e.2.2 n),ji.2 (aO.2 ⟨n,?_,rfl⟩),?_⟩)
   ·refine(Vb _).2 (bA λq=>h ?_)
    rw[aX,aR] at q
    show xq bs (wO bs (rowOf _ n) r)=xq bs (wO bs (rowOf _ n) r)
    rw[aeh λz=>q (.inl z),aeh λz=>q (.inr z)]
   ·have:=ih (e:=(e.1++[n],Bc bs e.2.1 n,Bc bs e.2.2 n)) (nY hd) h
    rw[aP] at this
    exact this
theorem alU {p r:List Str}{n:Str}:p≠p++[n]++r:=λh=>by
 rw[aP] at h
 exact absurd (List.self_eq_append_right.1 h) (lH n r)
theorem ZG:∀ {e:Vt},(vis bs d e).Pairwise λx y=>x.1≠y.1:=by
 induction d with
 | zero=>intro e;exact .nil
 | succ d ih =>
  intro e
  by_cases q:e.2.1=e.2.2
  ·rw[QG q];exact .nil
  rw[KY q,cX,List.pairwise_flatMap,lF]
  refine⟨λy hy=>?_,λk uu=>ih,?_⟩
  ·obtain⟨k,hk,h⟩:=lG.1 hy
   obtain⟨n,h1,-⟩:=ael (ji.1 hk)
   obtain⟨z,r,R⟩:=NP h
   rw[R.p,h1];exact alU
  ·refine dh.2 ((Vc _).imp λ{n n'} hl x hx y hy=>?_)
   obtain⟨-,r,R⟩:=NP hx
   obtain⟨-,r',R'⟩:=NP hy
   rw[R.p,R'.p]
   intro z
   rw[aP,aP] at z
   have z:=List.append_cancel_left z
   injection z with z
   rw[z] at hl
   exact QF _ _ hl hl
theorem Vd {α β:Type}[DecidableEq β](f:α->β){l:List α}:∀ {U:List β},(l.Pairwise λx y=>f x≠f y)->(∀ x∈l,f x∈U)->l.length<=U.length:=by
 induction l with
 | nil=>intro U _ _;exact bL _
 | cons x l ih =>
  intro U hl h
  have hl:=cX.1 hl
  have hx:=h x (.head _)
  have:=ih (U:=U.erase (f x)) hl.2 λy hy=>(pB (cH (hl.1 y hy))).2 (h y (.tail _ hy))
  rw[ni hx] at this
  exact aj (aU this) (bI (gM (nQ hx)))
noncomputable def DP (e:Vt):Vt:=(e.1,e.2.2,e.2.1)
theorem alV (e:Vt):Bo bs (DP e)=(Bo bs e).map DP:=by
 rw[bY]
 rw[alS];rfl
theorem alW:∀ {e:Vt},vis bs d (DP e)=(vis bs d e).map DP:=by
 induction d with
 | zero=>intro e;rfl
 | succ d ih =>
  intro e
  by_cases q:e.2.1=e.2.2
  ·rw[QG q,QG (e:=DP e) q.symm];rfl
  rw[KY q,KY (e:=DP e) (cH q),alV,bJ,List.map_flatMap,<-List.map_reverse,List.flatMap_map]
  exact congrArg _ (Rv λx uu=>ih)
end
end
section
variable {bs B:List (Int×Ct)}{cs:List (Int×Int)}{mk:Int}{ext:List Int}{s s':w7}{R j:Nat}{xs p r:List Str}{n:Str}{x y t m:Int}{W:Nat->List (Str×Int)}{N:Nat->Str}
theorem Ve (p:List Str):∀ {b:Int} {o:Option Int},find bs b p=some o->wO bs (some b) p=o:=by
 induction p with
 | nil=>intro b o h;cases h;rfl
 | cons n p ih =>
  intro b o h
  unfold find at h
  show wO bs (rowOf (Fv (get bs b)) n) p=o
  cases e:get bs b with
  | none=>rw[e] at h;cases h
  | some c =>
   rw[e] at h
   cases c with
   | leaf m=>cases h;exact Fw p
   | br rows =>
    dsimp only at h
    show wO bs (rowOf rows n) p=o
    cases q:rowOf rows n with
    | none=>rw[q] at h;cases h;exact Fw p
    | some b'=>rw[q] at h;exact ih h
theorem ZJ {K:List Int}(hg:∀ i∈K,∀ c,get B i=some c->get bs i=some c)(hc:∀ i∈K,∀ c,get B i=some c->∀ k∈kids c,k∈K)(p:List Str):∀ {y:Int},y∈K->wO B (some y) p=some x->wO bs (some y) p=some x/\x∈K:=by
 induction p with
 | nil=>intro y hy h;cases h;exact⟨rfl,hy⟩
 | cons n p ih =>
  intro y hy h
  have h:wO B (rowOf (Fv (get B y)) n) p=some x:=h
  show wO bs (rowOf (Fv (get bs y)) n) p=some x/\_
  cases e:get B y with
  | none=>rw[e] at h;exact absurd ((Fw p).symm.trans h) (λzz=>by cases zz)
  | some c =>
   rw[e] at h
   rw[hg y hy c e]
   cases q:rowOf (Fv (some c)) n with
   | none=>rw[q] at h;exact absurd ((Fw p).symm.trans h) (λzz=>by cases zz)
   | some b =>
    rw[q] at h
    refine ih (hc y hy c e b ?_) h
    cases c with
    | leaf m=>cases q
    | br rows=>exact aO.2 ⟨_,Va q,rfl⟩
theorem ZK (nd:(bs.map (·.1)).Nodup)(sb:B.Sublist bs)(h:wO B (some y) p=some x):wO bs (some y) p=some x :=
 (ZJ (K:=y::yG B) (λi uu c e=>Nk nd sb e) (λi uu c e k hk=>.tail _ (Qt e hk)) p (.head _) h).1
theorem ZL (hg:∀ c,get B x=some c->get bs x=some c)(h:xq B (some x)=some m):xq bs (some x)=some m:=by
 have h:NK (get B x)=some m:=h
 show NK (get bs x)=some m
 cases e:get B x with
 | none=>rw[e] at h;cases h
 | some c=>rw[hg c e,<-e];exact h
theorem PW.ZM (h:PW bs cs mk ext){l:List (Int×Ct)}{i:Int}(hi:i∈bs.map (·.1)){c:Ct}(e:get (bs++l) i=some c):get bs i=some c:=by
 obtain⟨c',e'⟩:=Ba hi
 rw[get_append,e'] at e
 cases e;exact e'
theorem aen (h:PW bs cs mk ext){l:List (Int×Ct)}(hy:y∈bs.map (·.1))(e:wO (bs++l) (some y) p=some x):wO bs (some y) p=some x/\x∈bs.map (·.1) :=
 ZJ (λi hi c e=>h.ZM hi e) (λi hi c e k hk=>h.clo k (aZ _ (Qt (h.ZM hi e) hk))) p hy e
theorem alX {rows:List (Str×Int)}(h:zA bs t xs j=some rows):yh bs (wO bs (some t) (xs.take j))=rows:=by
 unfold zA at h
 cases e:find bs t (xs.take j) with
 | none=>rw[e] at h;cases h
 | some o =>
  rw[e] at h
  rw[Ve _ e]
  cases o with
  | none=>cases h;rfl
  | some b =>
   dsimp only at h
   show Fv (get bs b)=_
   cases q:get bs b with
   | none=>rw[q] at h;cases h
   | some c =>
    rw[q] at h
    cases c with
    | leaf _=>cases h
    | br rows=>cases h;rfl
theorem ZP {rows:List (Str×Int)}(h:rows.Pairwise λa b=>yS a.1 b.1=true)(hm:(n,y)∈rows):rowOf rows n=some y:=by
 induction rows with
 | nil=>cases hm
 | cons q rows ih =>
  have h:=cX.1 h
  rw[adK]
  rcases aM.1 hm with rfl | hm
  ·exact if_pos rfl
  ·rw[if_neg,ih h.2 hm]
   intro e
   have:=h.1 _ hm
   rw[e] at this
   exact QF _ _ this this
def NQ (s:w7)(xs:List Str)(lf:Prop)(B:List (Int×Ct))(j:Nat)(y:Int):Prop :=
 ∀ p x,wO B (some y) p=some x->(p <+: xs.drop j/\∀ m,xq B (some x)=some m->lf/\p=xs.drop j)\/(wO s.bs (some s.tree) (xs.take j++p)=some x/\x∈s.bs.map (·.1))
section
variable {lf:Prop}{l:List (Int×Ct)}
theorem aeo (h:SW R s)(hw:zA s.bs s.tree xs j=some (W j))(hm:(n,y)∈W j)(e:wO (s.bs++l) (some y) r=some x):wO s.bs (some s.tree) (xs.take j++n::r)=some x/\x∈s.bs.map (·.1):=by
 obtain⟨e,hx⟩:=aen h.pw (Y6 h.pw hw _ hm) e
 refine⟨?_,hx⟩
 rw[Jq]
 show wO s.bs (rowOf (yh s.bs (wO s.bs (some s.tree) (xs.take j))) n) r=_
 rw[alX hw,ZP (h.way hw).2.1 hm]
 exact e
theorem alY (h:SW R s)(hw:zA s.bs s.tree xs j=some (W j))(hn:xs[j]?=some (N j))(hg:get (s.bs++l) x=some (.br (zX (W j) (N j) y)))(I:NQ s xs lf (s.bs++l) (j+1) y):NQ s xs lf (s.bs++l) j x:=by
 intro p z e
 cases p with
 | nil =>
  cases e
  refine .inl ⟨List.nil_prefix,λm q=>?_⟩
  have q:NK (get (s.bs++l) x)=some m:=q
  rw[hg] at q;cases q
 | cons n r =>
  replace e:wO (s.bs++l) (rowOf (Fv (get (s.bs++l) x)) n) r=some z:=e
  rw[hg] at e
  replace e:wO (s.bs++l) (rowOf (zX (W j) (N j) y) n) r=some z:=e
  cases q:rowOf (zX (W j) (N j) y) n with
  | none=>rw[q] at e;exact absurd ((Fw r).symm.trans e) (λzz=>by cases zz)
  | some b =>
   rw[q] at e
   rcases Y4 (Va q) with hm | hm
   ·exact .inr (aeo h hw hm e)
   ·injection hm with h1 h2
    subst h2
    have ed:xs.drop j=n::xs.drop (j+1):=by rw[h1,<-((fH.1 hn).2)];exact dY ((fH.1 hn).1)
    rcases I r z e with⟨i1,i2⟩ | i
    ·refine .inl ⟨by rw[ed];exact oR.2 ⟨rfl,i1⟩,λm q=>?_⟩
     have:=i2 m q
     exact⟨this.1,by rw[ed,this.2]⟩
    ·rw[(show xs.take (j+1)=xs.take j++[n] from by rw[vX,hn,h1];rfl),aP] at i
     exact .inr i
theorem alZ (h:SW R s){i:Nat}:∀ {mk y:Int},i=j->(∀ k<j,zA s.bs s.tree xs k=some (W k))->(∀ k<j,xs[k]?=some (N k))->(∀ q∈Bb W N i mk y,get (s.bs++l) q.1=some q.2)->NQ s xs lf (s.bs++l) i y->NQ s xs lf (s.bs++l) 0 (Jj i mk y):=by
 intro mk y e hw hn hg I
 have hij:i<=j:=bI e
 clear e
 induction i generalizing mk y with
 | zero=>exact I
 | succ i ih =>
  rw[UW]
  exact ih (λq hq=>hg q (.tail _ hq)) (alY h (hw i hij) (hn i hij) (hg _ (.head _)) I) (dU hij)
end
end
section
variable {s s':w7}{R j:Nat}{xs:List Str}{m g:Int}{W:Nat->List (Str×Int)}{N:Nat->Str}{Ps:List (List Str)}{c:Ct}{lf:Prop}
structure UP (Ps:List (List Str))(s:w7):Prop where
 len:∀ q∈Ps,q.length<=8
 nd:∀ t∈s.roots,∀ p x,wO s.bs (some t) p=some x->∃ q∈Ps,p <+: q
 lf:∀ t∈s.roots,∀ p m,xq s.bs (wO s.bs (some t) p)=some m->p∈Ps
theorem Vg {bs:List (Int×Ct)}{a:Option Int}(h:xq bs a=some m):∃ x,a=some x:=by
 cases a with
 | none=>cases h
 | some x=>exact⟨x,rfl⟩
theorem UP.sub (U:UP Ps s)(h:SW R s)(sb:s'.bs.Sublist s.bs)(hr:∀ t∈s'.roots,t∈s.roots):UP Ps s' where
 len:=U.len
 nd:=λt ht p x e=>U.nd t (hr t ht) p x (ZK h.pw.nd sb e)
 lf:=λt ht p m e=>by
  obtain⟨x,hx⟩:=Vg e
  rw[hx] at e
  have:=ZL (λc=>Nk h.pw.nd sb) e
  rw[<-ZK h.pw.nd sb hx] at this
  exact U.lf t (hr t ht) p m this
theorem ZQ:∀ {mk box:Int},((Bb W N j mk box).map (·.1)).Pairwise (·<·)/\∀ i∈(Bb W N j mk box).map (·.1),mk<i:=by
 induction j with
 | zero=>intro _ _;exact⟨.nil,λi hi=>absurd hi aH⟩
 | succ j ih =>
  intro mk box
  have q:=ih (mk:=mk+1) (box:=mk+1)
  exact⟨cX.2 ⟨q.2,q.1⟩,λi hi=>(aM.1 hi).elim (λe=>by rw[e];exact GJ (jL mk)) λhi=>qW (GJ (jL mk)) (q.2 i hi)⟩
theorem ZR (h:SW R s):((yV s c W N j).map (·.1)).Nodup:=by
 unfold yV
 rw[aP,aX]
 refine YS (bN.2 ⟨h.pw.asc,cX.2 ⟨ZQ.2,ZQ.1⟩,λa ha b hb=>jy (h.pw.pos a ha).2 ?_⟩)
 rcases aM.1 hb with e | hb
 ·rw[e];exact GJ (jL _)
 ·exact qW (GJ (jL _)) (ZQ.2 b hb)
theorem UP.made (U:UP Ps s)(h:SW R s)(hj:∀ k<j,zA s.bs s.tree xs k=some (W k))(hn:∀ k<j,xs[k]?=some (N k))(sb:s'.bs.Sublist (yV s c W N j))(ht:s'.tree=s.made+1+j)(hs:s'.wL=s.wL)
  (I:NQ s xs lf (yV s c W N j) j (s.made+1)) {Ps':List (List Str)} (hl:∀ q∈Ps',q.length<=8) (hP:∀ q∈Ps,q∈Ps') (hx:∃ q∈Ps',xs <+: q) (hf:lf->xs∈Ps'):UP Ps' s':=by
 have nd:=ZR (c:=c) (W:=W) (N:=N) (j:=j) h
 have ea:yV s c W N j=s.bs++([(s.made+1,c)]++Bb W N j (s.made+1) (s.made+1)):=aP ..
 have T:NQ s xs lf (yV s c W N j) 0 s'.tree:=by
  rw[ht,<-Y5]
  rw[ea] at I nd ⊢
  exact alZ h rfl hj hn (λq hq=>get_of_mem nd (aN _ (aN _ hq))) I
 have key:∀ t∈s'.roots,∀ p x,wO s'.bs (some t) p=some x->(∃ q∈Ps',p <+: q)/\∀ m,xq s'.bs (some x)=some m->p∈Ps':=λt ht p x e=>by
  have e:=ZK nd sb e
  have fin:∀ t∈s.roots,wO s.bs (some t) p=some x->x∈s.bs.map (·.1)->(∃ q∈Ps',p <+: q)/\∀ m,xq s'.bs (some x)=some m->p∈Ps':=λt ht e hx=>by
   obtain⟨q,h1,h2⟩:=U.nd t ht p x e
   exact⟨⟨q,hP q h1,h2⟩,λm hm=>hP p (U.lf t ht p m (e▸(λx hx m e=>ZL (λc e=>h.pw.ZM hx (ea▸Nk nd sb e)) e:∀ x,x∈s.bs.map (·.1)->∀ m,xq s'.bs (some x)=some m->xq s.bs (some x)=some m) x hx m hm))⟩
  rcases aM.1 ht with rfl | ht
  ·rcases T p x e with⟨i1,i2⟩ | i
   ·obtain⟨q,h1,h2⟩:=hx
    refine⟨⟨q,h1,i1.trans h2⟩,λm hm=>?_⟩
    have:=i2 m (ZL (λc=>Nk nd sb) hm)
    rw[this.2]
    exact hf this.1
   ·exact fin _ (.head _) i.1 i.2
  ·rw[hs] at ht
   obtain⟨e,hx⟩:=(λt ht p x e=>aen h.pw (h.pw.clo t (aN _ ht)) (ea▸e):∀ t∈s.roots,∀ p x,wO (yV s c W N j) (some t) p=some x->wO s.bs (some t) p=some x/\x∈s.bs.map (·.1)) t (.tail _ ht) p x e
   exact fin t (.tail _ ht) e hx
 exact⟨hl,λt ht p x e=>(key t ht p x e).1,λt ht p m e=>by
  obtain⟨x,hx⟩:=Vg e
  rw[hx] at e
  exact(key t ht p x hx).2 m e⟩
theorem UP.put (U:UP Ps s)(h:SW R s)(h8:xs.length<=8)(hw:∀ k<xs.length,zA s.bs s.tree xs k=some (W k))(hn:∀ k<xs.length,xs[k]?=some (N k))(sb:s'.bs.Sublist (yV s (.leaf m) W N xs.length))(ht:s'.tree=s.made+1+xs.length)(hs:s'.wL=s.wL):UP (xs::Ps) s':=by
 refine U.made (lf:=True) h hw hn sb ht hs (λp x e=>?_) (λq hq=>(aM.1 hq).elim (λz=>z▸h8) (U.len q)) (λq hq=>.tail _ hq) ⟨xs,.head _,qZ _⟩ λuu=>.head _
 cases p with
 | nil=>rw[nG];exact .inl ⟨qZ _,λuu uu=>⟨trivial,rfl⟩⟩
 | cons n p =>
  have e:wO _ (rowOf (Fv (get (yV s (.leaf m) W N xs.length) (s.made+1))) n) p=some x:=e
  rw[get_of_mem (a:=.leaf m) (ZR h) (aZ _ (aN _ (.head _)))] at e
  exact absurd ((Fw p).symm.trans e) (λzz=>by cases zz)
theorem UP.cut (U:UP Ps s)(h:SW R s){rows:List (Str×Int)}{b:Int}(hf:find s.bs s.tree xs=some (some b))(hj:j<xs.length)(hr:∀ r∈rows,r∈W j)(hw:∀ k<xs.length,zA s.bs s.tree xs k=some (W k))(hn:∀ k<xs.length,xs[k]?=some (N k))(sb:s'.bs.Sublist (yV s (.br rows) W N j))(ht:s'.tree=s.made+1+j)(hs:s'.wL=s.wL):UP Ps s':=by
 refine U.made (lf:=False) h (λk hk=>hw k (eY hk hj)) (λk hk=>hn k (eY hk hj)) sb ht hs (λp x e=>?_) U.len (λq hq=>hq) (U.nd _ (.head _) _ _ (Ve _ hf)) False.elim
 have hg:=get_of_mem (a:=.br rows) (ZR (c:=.br rows) (W:=W) (N:=N) (j:=j) h) (aZ _ (aN _ (.head _)))
 cases p with
 | nil =>
  cases e
  refine .inl ⟨List.nil_prefix,λm q=>?_⟩
  have q:NK (get (yV s (.br rows) W N j) (s.made+1))=some m:=q
  rw[hg] at q;cases q
 | cons n p =>
  replace e:wO (yV s (.br rows) W N j) (rowOf (Fv (get (yV s (.br rows) W N j) (s.made+1))) n) p=some x:=e
  rw[hg] at e
  replace e:wO (yV s (.br rows) W N j) (rowOf rows n) p=some x:=e
  cases q:rowOf rows n with
  | none=>rw[q] at e;exact absurd ((Fw p).symm.trans e) (λzz=>by cases zz)
  | some y =>
   rw[q] at e
   have ea:yV s (.br rows) W N j=s.bs++([(s.made+1,.br rows)]++Bb W N j (s.made+1) (s.made+1)):=aP ..
   rw[ea] at e
   exact .inr (aeo h (hw j hj) (hr _ (Va q)) e)
theorem ZS (p q:List Str)(h1:Bl p q)(h2:Bl q p):False:=tZ h1 h2
theorem al0 {p q:List Str}(h:¬Bl q p)(e:p≠q):Bl p q:=by
 apply bA
 intro z
 refine e ((vD λx y=>aej).1 (nF (jG.1 h) (jG.1 z)))
noncomputable def Gj (bs:List (Int×Ct))(e:Vt):Option Vt:=if xq bs e.2.1=xq bs e.2.2 then none else some (e.1,xq bs e.2.1,xq bs e.2.2)
structure Due (bs:List (Int×Ct))(a b:Option Int)(D:List Vt):Prop where
 up:D.Pairwise λx y=>Bl x.1 y.1
 mem:∀ e,e∈D↔e.2.1≠e.2.2/\e.2.1=xq bs (wO bs a e.1)/\e.2.2=xq bs (wO bs b e.1)
section
variable {bs:List (Int×Ct)}{a b:Option Int}{D D':List Vt}
theorem Due.eq (h:Due bs a b D)(h':Due bs a b D'):D=D':=aei (λx y=>ZS x.1 y.1) h.up h'.up λe=>(h.mem e).trans (h'.mem e).symm
theorem Due.sw (h:Due bs a b D):Due bs b a (D.map DP) where
 up:=dh.2 (h.up.imp λq=>q)
 mem:=λe=>by
  exact(⟨λz=>by obtain⟨x,hx,rfl⟩:=aO.1 z;exact hx,λz=>aO.2 ⟨_,z,rfl⟩⟩:e∈D.map DP↔DP e∈D).trans ((h.mem _).trans ⟨λz=>⟨cH z.1,z.2.2,z.2.1⟩,λz=>⟨cH z.1,z.2.2,z.2.1⟩⟩)
theorem ZV {e e':Vt}(h:Gj bs e=some e'):e'=(e.1,xq bs e.2.1,xq bs e.2.2)/\e'.2.1≠e'.2.2:=by
 unfold Gj at h
 by_cases q:xq bs e.2.1=xq bs e.2.2
 ·rw[if_pos q] at h;cases h
 ·rw[if_neg q] at h;cases h;exact⟨rfl,q⟩
theorem al1 (h8:∀ p,wO bs a p≠none\/wO bs b p≠none->p.length<=8)(hp:D.Perm ((vis bs 9 ([],a,b)).filterMap (Gj bs)))(hs:D.Pairwise λx y=>¬Bl y.1 x.1):Due bs a b D where
 up:=by
  have nd:D.Pairwise λx y=>x.1≠y.1:=hp.symm.pairwise (kI.2 (ZG.imp λ{x y} q x' hx y' hy=>by
   rw[(ZV hx).1,(ZV hy).1];exact q)) λq=>cH q
  exact(hs.and nd).imp λq=>al0 q.1 q.2
 mem:=λe=>by
  rw[hp.mem_iff,kj]
  constructor
  ·rintro⟨e0,h0,h1⟩
   obtain⟨rfl,h2⟩:=ZV h1
   obtain⟨-,r,B⟩:=NP h0
   have er:e0.1=r:=B.p
   exact⟨h2,by rw[show e0.2.1=wO bs a r from B.a,<-er],by rw[show e0.2.2=wO bs b r from B.b,<-er]⟩
  ·rintro⟨h1,h2,h3⟩
   have hne:xq bs (wO bs a e.1)≠xq bs (wO bs b e.1):=h2▸h3▸h1
   refine⟨_,aem (e:=([],a,b)) e.1 (gA (h8 e.1 ?_)) hne,?_⟩
   ·apply bA
    intro q
    exact hne (by rw[(bA λz=>q (.inl z):wO bs a e.1=none),(bA λz=>q (.inr z):wO bs b e.1=none)])
   ·show(if _ then _ else _)=_
    rw[if_neg hne]
    show some (e.1,_,_)=_
    rw[<-h2,<-h3]
noncomputable def Js (bs:List (Int×Ct))(a b:Option Int)(p:List Str):Option Vt:=if xq bs (wO bs a p)=xq bs (wO bs b p) then none else some (p,xq bs (wO bs a p),xq bs (wO bs b p))
theorem al2 {L:List (List Str)}(hs:L.Pairwise Bl)(hm:∀ p,xq bs (wO bs a p)≠none\/xq bs (wO bs b p)≠none->p∈L):Due bs a b (L.filterMap (Js bs a b)) where
 up:=kI.2 (hs.imp λ{x y} q x' hx y' hy=>by
  unfold Js at hx hy
  by_cases q1:xq bs (wO bs a x)=xq bs (wO bs b x)
  ·rw[if_pos q1] at hx;cases hx
  by_cases q2:xq bs (wO bs a y)=xq bs (wO bs b y)
  ·rw[if_pos q2] at hy;cases hy
  rw[if_neg q1] at hx;rw[if_neg q2] at hy
  cases hx;cases hy;exact q)
 mem:=λe=>by
  rw[kj]
  constructor
  ·rintro⟨p,-,h⟩
   unfold Js at h
   by_cases q:xq bs (wO bs a p)=xq bs (wO bs b p)
   ·rw[if_pos q] at h;cases h
   ·rw[if_neg q] at h;cases h;exact⟨q,rfl,rfl⟩
  ·rintro⟨h1,h2,h3⟩
   have hne:xq bs (wO bs a e.1)≠xq bs (wO bs b e.1):=h2▸h3▸h1
   refine⟨e.1,hm _ (bA λq=>hne ?_),?_⟩
   ·rw[bA λz=>q (.inl z),bA λz=>q (.inr z)]
   ·unfold Js
    rw[if_neg hne,<-h2,<-h3]
end
end
section
variable {s:w7}{Ps:List (List Str)}{a b:Option Int}{p:List Str}{m t:Int}
def Root (s:w7)(a:Option Int):Prop:=∀ t,a=some t->t∈s.roots
noncomputable def heads (Ps:List (List Str)):List (List Str):=Ps.flatMap λq=>(dw 9).map λk=>q.take k
theorem aep:(heads Ps).length=Ps.length*9:=by
 unfold heads
 induction Ps with
 | nil=>rfl
 | cons q Ps ih=>rw[v7,aG,ih,aA,eN,dF,Nat.succ_mul,dH]
theorem UP.at_ (U:UP Ps s)(ha:Root s a){x:Int}(h:wO s.bs a p=some x):∃ q∈Ps,p <+: q:=by
 cases a with
 | none=>rw[Fw] at h;cases h
 | some t=>exact U.nd t (ha t rfl) p x h
theorem UP.NT (U:UP Ps s)(ha:Root s a){x:Int}(h:wO s.bs a p=some x):p.length<=8:=by
 obtain⟨q,h1,h2⟩:=U.at_ ha h
 exact aj h2.length_le (U.len q h1)
theorem KZ {α:Type}{o:Option α}(h:o≠none):∃ x,o=some x:=by
 cases o with
 | none=>exact absurd rfl h
 | some x=>exact⟨x,rfl⟩
theorem UP.or8 (U:UP Ps s)(ha:Root s a)(hb:Root s b)(p:List Str)(h:wO s.bs a p≠none\/wO s.bs b p≠none):p.length<=8 :=
 h.elim (λz=>(KZ z).elim λuu e=>U.NT ha e) λz=>(KZ z).elim λuu e=>U.NT hb e
theorem UP.heads (U:UP Ps s)(ha:Root s a){x:Int}(h:wO s.bs a p=some x):p∈heads Ps:=by
 obtain⟨q,h1,h2⟩:=U.at_ ha h
 exact lG.2 ⟨q,h1,aO.2 ⟨p.length,gQ.2 (gA (U.NT ha h)),(List.prefix_iff_eq_take.1 h2).symm⟩⟩
theorem aer {a b:Option Int}(h:a≠b):(∃ x,a=some x)\/∃ x,b=some x:=by
 cases a with
 | none=>exact .inr (KZ (cH h))
 | some x=>exact .inl ⟨x,rfl⟩
theorem UP.Vh (U:UP Ps s)(ha:Root s a)(hb:Root s b):(vis s.bs 9 ([],a,b)).length<=Ps.length*9:=by
 rw[<-aep]
 refine Vd (λe:Vt=>e.1) ZG λe he=>?_
 obtain⟨h1,r,B⟩:=NP he
 have er:e.1=r:=B.p
 rw[er]
 exact(aer h1).elim (λz=>z.elim λx hx=>U.heads ha (B.a.symm.trans hx)) λz=>z.elim λx hx=>U.heads hb (B.b.symm.trans hx)
noncomputable def K4 (bs:List (Int×Ct))(e:Vt):Option (List Str×Int):=(xq bs e.2.1).map λm=>(e.1,m)
noncomputable def Jt (bs:List (Int×Ct))(V:List Vt):List (List Str×Int):=V.filterMap (K4 bs)
theorem aes {bs:List (Int×Ct)}{e:Vt}{q:List Str×Int}(h:K4 bs e=some q):q.1=e.1/\xq bs e.2.1=some q.2:=by
 obtain⟨m,h1,rfl⟩:=bG.1 h
 exact⟨rfl,h1⟩
theorem UP.NZ (U:UP Ps s)(ht:t∈s.roots):(p,m)∈Jt s.bs (vis s.bs 9 ([],some t,none))↔xq s.bs (wO s.bs (some t) p)=some m:=by
 unfold Jt
 rw[kj]
 constructor
 ·rintro⟨e,he,h⟩
  obtain⟨h1,h2⟩:=aes h
  obtain⟨-,r,B⟩:=NP he
  rw[show p=r from h1.trans (B.p:e.1=r),<-show e.2.1=wO s.bs (some t) r from B.a]
  exact h2
 ·intro h
  obtain⟨x,hx⟩:=Vg h
  refine⟨_,aem (e:=([],some t,none)) p (gA (U.NT (a:=some t) (λuu e=>jh e▸ht) hx)) ?_,?_⟩
  ·skip
   rw[h,Fw];exact(λzz=>by cases zz)
  ·skip
   show jY _ (xq s.bs (wO s.bs (some t) p))=_
   rw[h];rfl
theorem UP.al3 (U:UP Ps s)(ht:t∈s.roots):∀ q∈Jt s.bs (vis s.bs 9 ([],some t,none)),q.1∈Ps:=λq hq=>U.lf t ht q.1 q.2 ((U.NZ ht).1 hq)
theorem al4 {bs:List (Int×Ct)}{i:Int}{rows:List (Str×Int)}(h:get bs i=some (.br rows))(hr:rows.Pairwise λa b=>yS a.1 b.1=true):nms bs (some i) none=rows.map (·.1):=by
 unfold nms
 rw[(show yh bs (some i)=rows from by show Fv (get bs i)=_;rw[h];rfl),show yh bs none=[] from rfl,aY]
 exact(Lf (dh.2 hr) λuu=>Iff.rfl).symm
theorem al5 {bs:List (Int×Ct)}{i:Int}{rows:List (Str×Int)}(h:get bs i=some (.br rows))(hr:rows.Pairwise λa b=>yS a.1 b.1=true):Bo bs (p,some i,none)=rows.map λr=>(p++[r.1],some r.2,none):=by
 unfold Bo
 rw[show nms bs (some i) none=_ from al4 h hr,bY]
 refine fK λr hm=>?_
 show(p++[r.1],rowOf (yh bs (some i)) r.1,none)=_
 rw[(show yh bs (some i)=rows from by show Fv (get bs i)=_;rw[h];rfl),ZP hr hm]
end
end wC
end
section
namespace wC
noncomputable def Vi:List Sm:=[.ret (.and (.u (Gd true) (.loc "_law_seen")) (.not (.u (Gd false) (.loc "_law_seen"))))]
noncomputable def Vj:List Sm:=[.ite (.b ltI (.loc "_law_k") (.u RZ (.loc "_law_script"))) [.ret (.b Gq (.loc "_law_script") (.loc "_law_k"))] [],.ret (.k (.int 0 0))]
noncomputable def Vk:List Sm:=[.asg "_law_letters" (.k (.str "abcdefghijklmnopqrstuvwxyz" 0)),.ite (.b ltI (.b yj (.loc "_law_cell") (.k (.int 3 0))) (.k (.int 2 0))) [.ret (.b Ey (.k (.str "abcd" 0)) (.b yj (.b yQ (.loc "_law_cell") (.k (.int 3 0))) (.k (.int 4 0))))] [],.ite (.b BW (.b yj (.b yQ (.loc "_law_cell") (.k (.int 3 0))) (.k (.int 3 0))) (.k (.int 0 0))) [.asg "_law_stem" (.b yw (.n yu [.k (.str "ab" 0),.k (.str "aba" 0),.k (.str "zyxwvut" 0),.k (.str "nonon" 0),.k (.str "aaaaaaa" 0),.k (.str "q" 0)]) (.b yj (.b yQ (.loc "_law_cell") (.k (.int 9 0))) (.k (.int 6 0)))),.asg "_law_at" (.b yj (.b yQ (.loc "_law_cell") (.k (.int 54 0))) (.b zB (.u Pg (.loc "_law_stem")) (.k (.int 1 0)))),.ret (.b JT (.b JT (.b toS (.loc "_law_stem") (.loc "_law_at")) (.b Ey (.loc "_law_letters") (.b yj (.b yQ (.loc "_law_cell") (.k (.int 432 0))) (.k (.int 26 0))))) (.b Xp (.loc "_law_stem") (.loc "_law_at")))] [],.ret (.m isS Xn (.k (.str "" 0)) [.comp itR (.b Ey (.loc "_law_letters") (.b yj (.b zB (.b yQ (.loc "_law_cell") (.k (.int 72 0))) (.b Bu (.loc "_law_k") (.b zB (.k (.int 1 0)) (.b yj (.b yQ (.loc "_law_cell") (.k (.int 1872 0))) (.k (.int 25 0)))))) (.k (.int 26 0)))) "_law_k" (.u CK (.b zB (.k (.int 1 0)) (.b yj (.b yQ (.loc "_law_cell") (.k (.int 9 0))) (.k (.int 8 0))))) none])]
noncomputable def Vl:List Sm:=[.asg "_law_size" (.b yw (.n yu [.k (.int 1 0),.k (.int 1 0),.k (.int 2 0),.k (.int 2 0),.k (.int 3 0),.k (.int 4 0),.b zB (.k (.int 5 0)) (.b yj (.b yQ (.loc "_law_cell") (.k (.int 8 0))) (.k (.int 3 0))),.k (.int 8 0)]) (.b yj (.loc "_law_cell") (.k (.int 8 0)))),.ret (.comp itR (.call (.glob "_law_name_by") [.b yj (.b Bu (.b zB (.b yQ (.loc "_law_cell") (.k (.int 8 0))) (.b Bu (.loc "_law_k") (.k (.int 7919 0)))) (.k (.int 48271 0))) (.k (.int 1000003 0))]) "_law_k" (.u CK (.loc "_law_size")) none)]
noncomputable def Vm:List Sm:=[.ite (.b ltI (.b yj (.loc "_law_cell") (.k (.int 3 0))) (.k (.int 2 0))) [.ret (.b Im (.b yj (.b yQ (.loc "_law_cell") (.k (.int 3 0))) (.k (.int 5 0))) (.k (.int 2 0)))] [],.ret (.b zB (.b Im (.b yj (.b yQ (.loc "_law_cell") (.k (.int 3 0))) (.b Im (.b Bu (.k (.int 2 0)) (.b WM (.k (.int 10 0)) (.k (.int 30 0)))) (.k (.int 1 0)))) (.b WM (.k (.int 10 0)) (.k (.int 30 0)))) (.k (.int 1 0)))]
noncomputable def Vn:List Sm:=[.ret (.and (.call (.glob "_law_whole") [.loc "_law_seen"]) (.b O5 (.loc "_law_seen") (.loc "_law_due")))]
structure zx (G:Gx)(A:Ad)(fs:List Str):Prop where
 fn:∀ {x:Str},has x fs=true->G.glob x=some (.ref (A x ""))/\G.init (A x "")=none
theorem zx.gg {g:Gx}{A:Ad}{fs:List Str}(f:zx g A fs)(tab:Tab)(n:Nat):zx (GG g tab n) A fs:=by
 cases n <;> exact⟨f.fn⟩
theorem zx.YD {G:Gx}{A:Ad}{fs:List Str}(h:zx G A fs){x:Str}(k:has x fs=true):G.glob x=some (.ref (A x "")):=(h.fn k).1
theorem zx.YF {G:Gx}{A:Ad}{fs:List Str}(h:zx G A fs){x:Str}(k:has x fs=true):G.init (A x "")=none:=(h.fn k).2
section
variable {A:Ad}{G:Gx}{l:Loc}{H H':Hp}{Q:QV}{X:XV}{fs:List Str}
theorem mod_lt (a:Int){b:Int}(h:0<b):0<=a%b/\a%b<b:=⟨Int.emod_nonneg _ (qU h),wg _ h⟩
theorem Vo {α:Type}{xs:List α}{k:Int}(h0:0<=k)(h1:k<xs.length):∃ v,xs[k.toNat]?=some v/\v∈xs :=
 have h2:k.toNat<xs.length:=(nZ h0).2 h1
 ⟨xs[k.toNat],cB h2,jP h2⟩
theorem ZW {x y:Ex}{a b:Int}(hx:Ev G x l H (.int a 0))(hy:Ev G y l H (.int b 0))(h:0<b):Ev G (.b yj x y) l H (.int (a%b) 0):=Ej hx hy h
theorem Aq {x:Ex}{a b:Int}(hx:Ev G x l H (.int a 0))(h:(0:Int)<b):Ev G (.b yj x (.k (.int b 0))) l H (.int (a%b) 0):=Ej hx wI h
theorem Ce {x:Ex}{a b:Int}(hx:Ev G x l H (.int a 0))(h:0<b/\b<2^63):Ev G (.b yQ x (.k (.int b 0))) l H (.int (a/b) 0):=Ej hx wI h
theorem al6 {i:Int}(q:Q (.bool true) H):yq G ["_law_seen"] Vi [.int i 0] H Q X:=yC rfl (zT (v:=.bool true) (by mem_news) q)
def aeu (G:Gx)(A:Ad):Prop:=∀ ⦃H:Hp⦄ ⦃i:Int⦄ ⦃Q:QV⦄ ⦃X:XV⦄,Q (.bool true) H->G.fn (A "_law_whole" "") [.int i 0] H Q X
def QJ (G:Gx)(A:Ad):Prop:=∀ ⦃H:Hp⦄ ⦃i:Int⦄ ⦃Q:QV⦄ ⦃X:XV⦄,Q (.bool true) H->G.fn (A "_law_count" "") [.int i 0,.int i 0] H Q X
theorem al7 (F:zx G A fs)(hf:has "_law_whole" fs=true)(W:aeu G A){i:Int}(q:Q (.bool true) H):yq G ["_law_seen","_law_due"] Vn [.int i 0,.int i 0] H Q X :=
 yC rfl (zm (show Ex.and _ _ G _ H _ _ from w_call (Am (F.fn hf).1) (F.fn hf).2 (w6 (wH rfl) xM) (W (Mw (xO (X6 (i:=some i) (j:=some i) (wH (v:=.int i 0) rfl) (wH (v:=.int i 0) rfl) (decide_eq_true rfl)) q)))))
def ZX (G:Gx)(A:Ad):Prop:=∀ ⦃H:Hp⦄ ⦃a:Addr⦄ ⦃ns:List Int⦄,H a=some (.rlist (ns.map λn=>cL n 0))->∀ ⦃k:Nat⦄ ⦃Q:QV⦄ ⦃X:XV⦄,(∀ c,Q (.int c 0) H)->G.fn (A "_law_cell_at" "") [.ref a,.int (k:Int) 0] H Q X
theorem al8 {a:Addr}{ns:List Int}(ha:H a=some (.rlist (ns.map λn=>cL n 0))){k:Nat}(q:∀ c,Q (.int c 0) H):yq G ["_law_script","_law_k"] Vj [.ref a,.int (k:Int) 0] H Q X:=by
 refine yC rfl (CV (b:=decide ((k:Int)<((ns.map λn=>cL n 0).length:Nat))) (Ca (wH rfl) (Fd (wH rfl) ha) rfl) (λhb=>?_) λuu=>zG (zT (v:=.int 0 0) wI (q 0)))
 have h:=iC.1 (of_decide_eq_true hb)
 rw[aA] at h
 exact zT (v:=.int ns[k] 0) (xQ (wH rfl) (wH rfl) ha (cR k) (by rw[cG,cD,cB h];rfl)) (q _)
def Z0 (G:Gx)(A:Ad):Prop:=∀ ⦃H:Hp⦄ ⦃c:Int⦄ ⦃Q:QV⦄ ⦃X:XV⦄,(∀ n,-(10^30)<n->n<10^30->Q (.int n 0) H)->G.fn (A "_law_number_by" "") [.int c 0] H Q X
theorem al9 {c:Int}(q:∀ n,-(10^30)<n->n<10^30->Q (.int n 0) H):yq G ["_law_cell"] Vm [.int c 0] H Q X:=by
 refine yC rfl (CV (b:=decide (c%3<2)) (Ca (Aq (wH rfl) (by decide)) wI rfl) (λuu=>?_) λuu=>zG ?_)
 ·have m:=mod_lt (c/3) (b:=5) (by decide)
  exact zT (Bw (Aq (Ce (wH rfl) (by decide)) (by decide)) wI) (q _ (jx (show -10^30<(0:Int)-2 by decide) (pL m.1 2)) (jy (Int.sub_le_self _ (by decide)) (qW m.2 (by decide))))
 ·have m:=mod_lt (c/3) (b:=2*10^30-1) (by decide)
  exact zT (Bw (Bw (ZW (Ce (wH rfl) (by decide)) (Bw (Ej wI (Ej wI wI (by decide)) (.inl (by decide))) wI) (by decide)) (Ej wI wI (by decide))) wI) (q _ (jx (show -10^30<(0:Int)-10^30+1 by decide) (lW (pL m.1 (10^30)) 1)) (jx (Int.add_lt_add_right (Int.sub_lt_sub_right m.2 (10^30)) 1) (by decide)))
theorem aev:∀ cs:List Nat,(Str.join "" (cs.map zM)).cps.toList=cs
 | []=>rfl
 | [c]=>rfl
 | c::d::r=>by
  have ih:=aev (d::r)
  show((zM c).cps++("" : Str).cps++(Str.join "" ((d::r).map zM)).cps).toList=_
  rw[bO,ih];rfl
theorem Z1 (cs:List Nat):(Txt.join "" (cs.map zM)).cps.toList=cs:=by
 show(Builtin.Str.glued "" (cs.map zM)).cps.toList=cs
 rw[StrLaws.glued_eq_join];exact aev cs
theorem ama (cs:List Nat):∀ a:Nat,(cs.map zM).foldl (λn x=>n+x.length+("" : Str).length) a=a+cs.length:=by
 induction cs with
 | nil=>exact λa=>rfl
 | cons c r ih=>exact λa=>(ih (a+1)).trans (cA a 1 r.length)
theorem amb {cs:List Nat}(h:cs.length<=100):JoinOk "" (cs.map zM)=true:=by
 unfold JoinOk
 rw[<-vq,ama]
 simp [tB,sizeLine]
 exact aj h (by decide)
theorem aew (a b:Str):(a++b).cps.toList=a.cps.toList++b.cps.toList:=by
 rw[bO]
abbrev ABC (c:Nat):Prop:=97<=c/\c<=122
theorem amc:∀ k<26,LET.cps[k]?=some (97+k):=by decide +kernel
theorem aex (a:Int):(a%26).toNat<26:=(nZ (mod_lt a (by decide)).1).2 (mod_lt a (b:=26) (by decide)).2
theorem aey (a:Int):ABC (97+(a%26).toNat):=⟨aF _ _,aL (bU (aex a)) 97⟩
theorem aez {x y:Ex}{a:Int}(hx:Ev G x l H (.str LET 0))(hy:Ev G y l H (.int (a%26) 0)):Ev G (.b Ey x y) l H (.str (zM (97+(a%26).toNat)) 0):=S8 hx hy (mod_lt a (by decide)).1 (by decide +kernel) (amc _ (aex a))
theorem amd {c:Nat}(h:ABC c):Good (zM c):=⟨aD 1,ao rfl,λd hd=>by rw[aC.1 (show d∈[c] from hd)];exact h⟩
noncomputable def Z2:List Str:=["ab","aba","zyxwvut","nonon","aaaaaaa","q"]
noncomputable def aeA:List Value:=Z2.map λx=>.str x 0
theorem ame:∀ p∈Z2,p.length<=7:=by decide +kernel
theorem amf:∀ p∈Z2,∀ k:Nat,k<8->(nM p none (some (k:Int))).cps.toList.length+(nM p (some (k:Int)) none).cps.toList.length<=7/\(∀ c∈(nM p none (some (k:Int))).cps.toList,ABC c)/\∀ c∈(nM p (some (k:Int)) none).cps.toList,ABC c:=by decide +kernel
theorem amg {a b:Str}{d:Nat}(h:a.cps.toList.length+b.cps.toList.length<=7)(h1:∀ c∈a.cps.toList,ABC c)(h2:∀ c∈b.cps.toList,ABC c)(hd:ABC d):Good (a++zM d++b):=by
 have e:(a++zM d++b).cps.toList=a.cps.toList++[d]++b.cps.toList:=by rw[aew,aew];rfl
 have el:(a++zM d++b).cps.toList.length=a.cps.toList.length+b.cps.toList.length+1:=by rw[e,aG,aG,dJ,cA]
 refine⟨by rw[el];exact eF 1 _,by rw[el];exact aU h,λc hc=>?_⟩
 rw[e] at hc
 rcases aR.1 hc with hc | hc
 ·rcases aR.1 hc with hc | hc
  ·exact h1 c hc
  ·rw[aC.1 hc];exact hd
 ·exact h2 c hc
theorem amh:∀ k<4,∃ c,(eO "abcd").cps[k]?=some c/\ABC c:=λk hk=>⟨97+k,(by decide +kernel:∀ k<4,(eO "abcd").cps[k]?=some (97+k)) k hk,aF _ _,aL (aj (aQ hk) (by decide:4<=25)) 97⟩
theorem ami (n:Nat):wK (λ(v:Value) (j:Nat)=>v=.int (j:Int) 0/\j<n) ((dw n).map λ(k:Nat)=>cL (k:Int) 0) (dw n):=by
 have:∀ L:List Nat,(∀ j∈L,j<n)->wK (λ(v:Value) (j:Nat)=>v=.int (j:Int) 0/\j<n) (L.map λ(k:Nat)=>cL (k:Int) 0) L:=λL=>by
  induction L with
  | nil=>exact λuu=>.nil
  | cons j L ih=>exact λh=>.cons ⟨rfl,h j (.head _)⟩ (ih λi hi=>h i (.tail _ hi))
 exact this _ λj hj=>gQ.1 hj
theorem aeB {n:Nat}(h:n<=1000):((dw n).map λ(k:Nat)=>cL (k:Int) 0).length<=sizeLine:=by rw[aA,eN];exact aj h (by decide)
theorem amj {elt e:Ex}{x:Str}{n:Nat}(f:Nat->Value)(he:Ev G e l H (.int (n:Int) 0))(hz:n<=1000)(hf:∀ r,H r=none->∀ i,i<n->Ev G elt (ca l x (.int (i:Int) 0)) (H.upd r (.range 0 n 1)) (f i))
  (q:∀ r c,H r=none->(H.upd r (.range 0 n 1)) c=none->Q (.ref c) ((H.upd r (.range 0 n 1)).upd c (.list ((dw n).map f)))):Ex.comp itR elt x (.u CK e) none G l H Q X :=
 he _ _ ⟨n,rfl,λr hr=>Qg (Hp.wQ _ _ _) (Yh (aK hz (by decide))) (by
  rw[Yg]
  exact⟨aeB hz,Yj (f:=f) trivial (ami n) (λv j e uu k' hk=>by obtain⟨rfl,hj⟩:=e;exact hf r hr j hj _ _ hk) λc hc=>q r c hr hc⟩)⟩
inductive UpI (I:Nat->List Value->Hp->Prop)(n:Nat)(rs acc:List Value)(H:Hp):Prop where
 | mk (i j:Nat):i+j=n->rs=(uT i j).map (λ(k:Nat)=>cL (k:Int) 0)->I i acc H->UpI I n rs acc H
theorem amk {elt e:Ex}{x:Str}{n:Nat}(I:Nat->List Value->Hp->Prop)(he:Ev G e l H (.int (n:Int) 0))(hz:n<=1000)(hb:∀ i,i<n->∀ acc H',I i acc H'->∀ K:QV,(∀ u H',I (i+1) (acc++[u]) H'->K u H')->elt G (ca l x (.int (i:Int) 0)) H' K (λuu uu=>False))
  (h0:∀ r,H r=none->I 0 [] (H.upd r (.range 0 n 1))) (q:∀ acc H',I n acc H'->∀ c,H' c=none->Q (.ref c) (H'.upd c (.list acc))):Ex.comp itR elt x (.u CK e) none G l H Q X :=
 he _ _ ⟨n,rfl,λr hr=>Qg (Hp.wQ _ _ _) (Yh (aK hz (by decide))) (by
  rw[Yg]
  refine⟨aeB hz,acR (UpI I n) (λuu uu uu uu=>trivial) (λv rs acc H' h K hK=>?_) (λacc H' h=>?_) ⟨0,n,d9 n,by rw[uR],h0 r hr⟩⟩
  ·obtain⟨i,j,e,er,hI⟩:=h
   cases j with
   | zero=>cases er
   | succ j=>cases er;exact hb i (by rw[<-e];exact cQ (eU j)) acc H' hI (λu H'=>K (some u) H') λu H' h=>hK u H' ⟨i+1,j,by rw[Nat.succ_add];exact e,rfl,h⟩
  ·obtain⟨i,j,e,er,hI⟩:=h
   cases j with
   | zero=>exact q acc H' (e▸hI)
   | succ j=>cases er)⟩
def aeC (G:Gx)(A:Ad):Prop:=∀ ⦃H:Hp⦄ ⦃c:Int⦄ ⦃Q:QV⦄ ⦃X:XV⦄,(∀ x H',Good x->Kp [] H H'->Q (.str x 0) H')->G.fn (A "_law_name_by" "") [.int c 0] H Q X
noncomputable def nb2:List Sm:=[.asg "_law_stem" (.b yw (.n yu [.k (.str "ab" 0),.k (.str "aba" 0),.k (.str "zyxwvut" 0),.k (.str "nonon" 0),.k (.str "aaaaaaa" 0),.k (.str "q" 0)]) (.b yj (.b yQ (.loc "_law_cell") (.k (.int 9 0))) (.k (.int 6 0)))),.asg "_law_at" (.b yj (.b yQ (.loc "_law_cell") (.k (.int 54 0))) (.b zB (.u Pg (.loc "_law_stem")) (.k (.int 1 0)))),.ret (.b JT (.b JT (.b toS (.loc "_law_stem") (.loc "_law_at")) (.b Ey (.loc "_law_letters") (.b yj (.b yQ (.loc "_law_cell") (.k (.int 432 0))) (.k (.int 26 0))))) (.b Xp (.loc "_law_stem") (.loc "_law_at")))]
theorem QK {n m:Nat}(h:n<=m)(hm:m<=100):n<=sizeLine:=aj (aj h hm) (by decide)
theorem aml {c:Int}{q:QS}{x:XS}(g1:l "_law_cell" = some (.int c 0))(g2:l "_law_letters" = some (.str LET 0))(hq:∀ x l' H',Good x->Kp [] H H'->q (.ret (.str x 0)) l' H'):wM G nb2 l H q x:=by
 have m6:=mod_lt (c/9) (b:=6) (by decide)
 obtain⟨sv,hsv,hm⟩:=Vo (xs:=aeA) m6.1 m6.2
 obtain⟨p,hp,rfl⟩:=aO.1 hm
 have p7:=ame p hp
 have hpos:(0:Int)<(p.length:Int)+1:=lV (cR _)
 have mp:=mod_lt (c/54) hpos
 obtain⟨k,hk⟩:=gY mp.1
 have hk:c/54%((p.length:Int)+1)=(k:Int):=hk
 obtain⟨s1,s2,s3⟩:=amf p hp k (gA (aj (dD.1 (vm (hk▸mp.2))) p7):k<8)
 refine xX (zf (Di (vs:=aeA) (w6 wI (w6 wI (w6 wI (w6 wI (w6 wI (w6 wI xM)))))) (ao rfl) λa ha=>xO (Aq (Ce (wH g1) (by decide)) (by decide)) (Fe (Hp.wQ _ _ _) m6.1 hsv ?_)))
 refine Gi (v:=.int (k:Int) 0) (KH (ZW (Ce (wH (v:=.int c 0) g1) (by decide)) (Bw (acC (wH rfl) (aj p7 (by decide):p.length<=2^25)) wI) hpos) (by rw[hk])) ?_
 refine zT (SN (SN (Dh (wH rfl) (wH rfl) λuu q=>⟨p,rfl,(k:Int),rfl,QK p7 (by decide),q⟩) (aez (wH (v:=.str LET 0) g2) (Aq (Ce (wH (v:=.int c 0) g1) (by decide)) (by decide))) ?_) (Dh (wH rfl) (wH rfl) λuu q=>⟨p,rfl,(k:Int),rfl,QK p7 (by decide),q⟩) ?_) (hq _ _ _ (amg s1 s2 s3 (aey _)) (wW ha _))
 ·exact QK (bw (aj (aF _ _) s1) 1) (by decide)
 ·refine QK (m:=8) (aj (bI ?_) (aU s1)) (by decide)
  show((nM p none (some (k:Int))).cps++#[97+(c/432%26).toNat]).size+_=_
  rw[Array.size_append]
  exact cA ..
noncomputable def nb3:List Sm:=[.ret (.m isS Xn (.k (.str "" 0)) [.comp itR (.b Ey (.loc "_law_letters") (.b yj (.b zB (.b yQ (.loc "_law_cell") (.k (.int 72 0))) (.b Bu (.loc "_law_k") (.b zB (.k (.int 1 0)) (.b yj (.b yQ (.loc "_law_cell") (.k (.int 1872 0))) (.k (.int 25 0)))))) (.k (.int 26 0)))) "_law_k" (.u CK (.b zB (.k (.int 1 0)) (.b yj (.b yQ (.loc "_law_cell") (.k (.int 9 0))) (.k (.int 8 0))))) none])]
noncomputable def lets (c:Int)(n:Nat):List Nat:=(dw n).map λ(j:Nat)=>97+((c/72+(j:Int)*(1+c/1872%25))%26).toNat
theorem amm {c:Int}{q:QS}{x:XS}(g1:l "_law_cell" = some (.int c 0))(g2:l "_law_letters" = some (.str LET 0))(hq:∀ x l' H',Good x->Kp [] H H'->q (.ret (.str x 0)) l' H'):wM G nb3 l H q x:=by
 have m8:=mod_lt (c/9) (b:=8) (by decide)
 obtain⟨n,hn⟩:=gY (Int.add_nonneg (by decide:(0:Int)<=1) m8.1)
 have hn:1+c/9%8=(n:Int):=hn
 have n1:1<=n:=dD.1 (hn▸mU m8.1)
 have n8:n<=8:=dD.1 (hn▸mF (Int.le_sub_one_of_lt m8.2) 1)
 have ln:(lets c n).length=n:=by unfold lets;rw[aA,eN]
 refine zm (wI _ _ ⟨⟨_,rfl,trivial⟩,xW (amj (n:=n) (λj=>.str (zM (97+((c/72+(j:Int)*(1+c/1872%25))%26).toNat)) 0) (KH (Bw wI (Aq (Ce (wH g1) (by decide)) (by decide))) (by rw[hn])) (aj n8 (by decide)) (λr hr i hi=>?_) λr d hr hd=>?_)⟩)
 ·exact aez (wH (v:=.str LET 0) g2) (Aq (Bw (Ce (wH (v:=.int c 0) g1) (by decide)) (Ej (wH rfl) (Bw wI (Aq (Ce (wH (v:=.int c 0) g1) (by decide)) (by decide))) (.inl (aB hi (aj n8 (by decide)))))) (by decide))
 ·refine yR ⟨_,rfl,_,rfl,yr (Hp.wQ _ _ _) ⟨(lets c n).map zM,?_,amb (by rw[ln];exact aj n8 (by decide)),hq _ _ _ ⟨by rw[Z1,ln];exact n1,by rw[Z1,ln];exact n8,λd hd=>?_⟩ ((wW hr _).trans (wW hd _))⟩⟩
  ·skip;rw[bY,bY];rfl
  ·rw[Z1] at hd
   obtain⟨j,_,rfl⟩:=aO.1 hd
   exact aey _
theorem amn {c:Int}(q:∀ x H',Good x->Kp [] H H'->Q (.str x 0) H'):yq G ["_law_cell"] Vk [.int c 0] H Q X:=by
 refine yC rfl (Gi (v:=.str LET 0) wI (CV (b:=decide (c%3<2)) (Ca (Aq (wH rfl) (by decide)) wI rfl) (λuu=>?_) λuu=>zG ?_))
 ·have m4:=mod_lt (c/3) (b:=4) (by decide)
  obtain⟨d,h1,h2⟩:=amh (c/3%4).toNat ((nZ m4.1).2 m4.2)
  exact zT (S8 wI (Aq (Ce (wH rfl) (by decide)) (by decide)) m4.1 (by decide +kernel) h1) (q _ _ (amd h2) (Kp.refl _ _))
 ·refine CV (b:=decide (c/3%3=0)) (Ca (Aq (Ce (wH rfl) (by decide)) (by decide)) wI rfl) (λuu=>?_) λuu=>zG ?_
  ·exact aml rfl rfl λx uu H' hg k=>q x H' hg k
  ·exact amm rfl rfl λx uu H' hg k=>q x H' hg k
noncomputable def sizes (c:Int):List Value:=[.int 1 0,.int 1 0,.int 2 0,.int 2 0,.int 3 0,.int 4 0,.int (5+c/8%3) 0,.int 8 0]
theorem N6 {x:Int}(h1:1<=x)(h8:x<=8):∃ n:Nat,cL x 0=.int (n:Int) 0/\1<=n/\n<=8:=by
 obtain⟨n,rfl⟩:=gY (iD (by decide) h1)
 exact⟨n,rfl,dD.1 h1,dD.1 h8⟩
theorem amo (c:Int):∀ v∈sizes c,∃ n:Nat,v=.int (n:Int) 0/\1<=n/\n<=8:=by
 have m3:=mod_lt (c/8) (b:=3) (by decide)
 have h1:=N6 (x:=1) (by decide) (by decide)
 have h2:=N6 (x:=2) (by decide) (by decide)
 exact fX.2 ⟨h1,fX.2 ⟨h1,fX.2 ⟨h2,fX.2 ⟨h2,fX.2 ⟨N6 (x:=3) (by decide) (by decide),fX.2 ⟨N6 (x:=4) (by decide) (by decide),fX.2 ⟨(N6 (iD (by decide:(1:Int)<=5) (mU m3.1)) (iD (mF (iG m3.2) 5) (by decide))),fX.2 ⟨N6 (x:=8) (by decide) (by decide),λuu h=>absurd h aH⟩⟩⟩⟩⟩⟩⟩⟩
def aeD (G:Gx)(A:Ad):Prop:=∀ ⦃H:Hp⦄ ⦃c:Int⦄ ⦃Q:QV⦄ ⦃X:XV⦄,(∀ a xs H',zZ H' a xs->xs≠[]->Kp [] H H'->Q (.ref a) H')->G.fn (A "_law_path_by" "") [.int c 0] H Q X
structure PbI (H0:Hp)(i:Nat)(acc:List Value)(H:Hp):Prop where
 k:Kp [] H0 H
 x:∃ xs:List Str,acc=xs.map (λx=>bR x 0)/\(∀ x∈xs,Good x)/\xs.length=i
theorem amq (F:zx G A fs)(hf:has "_law_name_by" fs=true)(N:aeC G A){c:Int}(q:∀ a xs H',zZ H' a xs->xs≠[]->Kp [] H H'->Q (.ref a) H'):yq G ["_law_cell"] Vl [.int c 0] H Q X:=by
 have m8:=mod_lt c (b:=8) (by decide)
 obtain⟨v,hv,hm⟩:=Vo (xs:=sizes c) m8.1 m8.2
 obtain⟨n,rfl,n1,n8⟩:=amo c v hm
 refine yC rfl (xX (zf (Di (vs:=sizes c) (w6 wI (w6 wI (w6 wI (w6 wI (w6 wI (w6 wI (w6 (Bw wI (Aq (Ce (wH rfl) (by decide)) (by decide))) (w6 wI xM)))))))) (ao rfl) λa ha=>xO (Aq (wH rfl) (by decide)) (Fe (Hp.wQ _ _ _) m8.1 hv ?_))))
 refine zm (amk (n:=n) (PbI H) (wH rfl) (aj n8 (by decide)) (λi hi acc H' I K hK=>?_) (λr hr=>⟨(wW ha _).trans (wW hr _),[],rfl,λx hx=>absurd hx aH,rfl⟩) λacc H' I d hd=>?_)
 ·obtain⟨k,xs,rfl,hg,hl⟩:=I
  refine w_call (Am (F.fn hf).1) (F.fn hf).2 (w6 (Aq (Ej (Bw (Ce (wH rfl) (by decide)) (Ej (wH rfl) wI (.inr (by decide)))) wI (.inr (by decide))) (by decide)) xM) (N λx H2 hx k2=>hK _ _ ⟨k.trans k2,xs++[x],by rw[aX];rfl,λy hy=>(aR.1 hy).elim (hg y) λhy=>aC.1 hy▸hx,by rw[aG,hl];rfl⟩)
 ·obtain⟨k,xs,rfl,hg,hl⟩:=I
  exact q _ xs _ ⟨Hp.wQ _ _ _,hg,by rw[hl];exact n8⟩ (λe=>by rw[e] at hl;rw[<-hl] at n1;exact absurd n1 (by decide)) (k.trans (wW hd _))
end
noncomputable def Vp:List Sm:=[.ite (.b Df (.loc "box") (.k .none)) [.ret (.n zu [.k .none,.n yu []])] [],.asg "what" (.meth (.attr (.loc "self") "pile") "content" [.loc "box"]),.ite (.b FZ (.b wR (.loc "what") (.k (.int 0 0))) (.k (.str "leaf" 0))) [.ret (.n zu [.b wR (.loc "what") (.k (.int 1 0)),.n yu []])] [],.ret (.n zu [.k .none,.b wR (.loc "what") (.k (.int 1 0))])]
noncomputable def Vq:List Sm:=[.asg "waiting" (.n yu [.n zu [.n yu [],.meth (.loc "self") "top" [.loc "one"],.meth (.loc "self") "top" [.loc "other"]]]),.asg "found" (.n yu []),.asg "looked" (.k (.int 0 0)),.Hj (.b neN (.loc "waiting") (.n yu [])) [.asg "place" (.m (yc .list) Gw (.loc "waiting") []),.ite (.b O5 (.b wR (.loc "place") (.k (.int 1 0))) (.b wR (.loc "place") (.k (.int 2 0)))) [.cont] [],.asg "looked" (.b zB (.loc "looked") (.k (.int 1 0))),.asg "left" (.meth (.loc "self") "both" [.b wR (.loc "place") (.k (.int 1 0))]),.asg "right" (.meth (.loc "self") "both" [.b wR (.loc "place") (.k (.int 2 0))]),.ite (.b Ip (.b wR (.loc "left") (.k (.int 0 0))) (.b wR (.loc "right") (.k (.int 0 0)))) [.expr (.m (yc .list) Aw (.loc "found") [.n zu [.b wR (.loc "place") (.k (.int 0 0)),.b wR (.loc "left") (.k (.int 0 0)),.b wR (.loc "right") (.k (.int 0 0))]])] [],.for_ yO "name" (.u MK (.comp yO (.b wR (.loc "row") (.k (.int 0 0))) "row" (.b BX (.b wR (.loc "left") (.k (.int 1 0))) (.b wR (.loc "right") (.k (.int 1 0)))) none)) [.expr (.m (yc .list) Aw (.loc "waiting") [.n zu [.b BX (.b wR (.loc "place") (.k (.int 0 0))) (.n yu [.loc "name"]),.call (.glob "box_of") [.b wR (.loc "left") (.k (.int 1 0)),.loc "name"],.call (.glob "box_of") [.b wR (.loc "right") (.k (.int 1 0)),.loc "name"]]])]],.ret (.n zu [.u Yp (.loc "found"),.loc "looked"])]
section
variable {A:Ad}{G:Gx}{l:Loc}{H H':Hp}{σ:SA}{s:w7}{Q:QV}{X:XV}
theorem aeE (p:List Str)(n:Str):sV p++[.str n 0]=sV (p++[n]):=(aX (f:=λx=>bR x 0) (l₁:=p) (l₂:=[n])).symm
theorem amr (rows:List (Str×Int)):rows.map (λr=>bR r.1 0)=sV (rows.map λr=>r.1):=(bY (g:=λx=>bR x 0) (f:=λr:Str×Int=>r.1) (l:=rows)).symm
abbrev Bt (w:Addr)(H H':Hp):Prop:=∀ a o,a≠w->H a=some o->H' a=some o
theorem Kp.bt {w:Addr}(k:Kp [] H H'):Bt w H H':=λa o uu h=>k a o h (.inr aH)
theorem HN {w:Addr}(o:xH):Bt w H (H.upd w o):=λa o' h e=>(Hp.xJ _ _ h).trans e
theorem ams {elt src:Ex}{x:Str}(q:src G l H (λv H1=>yO v H1 λguard items=>items.length<=sizeLine/\Hh guard (Il G elt none l x) items [] H1 λus H'=>newV (.list us) H' Q) X):Ex.comp yO elt x src none G l H Q X:=q
theorem amt {c:Ex}{body r:List Sm}{Q:QS}{X:XS}(M:Nat->Loc->Hp->Prop)(hs:∀ m l H,M m l H->∀ K:Loc->Hp->Prop,(∀ m' l' H',m'<m->M m' l' H'->K l' H')->c G l H (λv H1=>zL v λb=>if b then wM G body l H1 (λf l' H'=>match f with | .next | .cont=>K l' H' | .ret v=>Q (.ret v) l' H') X else wM G r l H1 Q X) (λC H'=>X C l H'))
  {m:Nat} (h:M m l H):wM G (.Hj c body::r) l H Q X:=by
 have key:∀ n m l H,m<n->M m l H->Lp (λl' H' K=>c G l' H' (λv H1=>zL v λb=>K b H1) (λC H'=>X C l' H')) (λl' H' K=>wM G body l' H' K X) (sq G r Q X) n l H:=λn=>by
  induction n with
  | zero=>exact λm l H hm uu=>absurd hm (iW m)
  | succ n ih=>exact λm l H hm h=>hs m l H h _ λm' l' H' hm' h'=>ih m' l' H' (aB hm' (bU hm)) h'
 exact acP (m+1) (key _ m l H (bV m) h)
def There (bs:List (Int×Ct))(a:Option Int):Prop:=∀ b,a=some b->∃ c,get bs b=some c
def Vr (G:Gx)(A:Ad):Prop:=∀ ⦃H:Hp⦄ ⦃σ:SA⦄ ⦃s:w7⦄,wX A H σ s->Short s.bs->∀ ⦃a:Option Int⦄,There s.bs a->∀ ⦃Q:QV⦄ ⦃X:XV⦄,(∀ t rl ys H',Kp [] H H'->H' t=some (.tup [oI (xq s.bs a),.ref rl])->H' rl=some (.list ys)->wK (yD H') ys (yh s.bs a)->H rl=none->Q (.ref t) H')->G.fn (A "Store" "both") [.ref σ.sx,oI a] H Q X
theorem Ju {bs:List (Int×Ct)}{b:Int}{c:Ct}(h:get bs b=some c):xq bs (some b)=NK (some c)/\yh bs (some b)=Fv (some c):=by
 unfold xq yh
 rw[show(some b).bind (get bs)=get bs b from rfl,h]
 exact⟨rfl,rfl⟩
theorem amu (F:xu G A)(N:GF G A)(h:wX A H σ s)(hs:Short s.bs){a:Option Int}(ha:There s.bs a)(q:∀ t rl ys H',Kp [] H H'->H' t=some (.tup [oI (xq s.bs a),.ref rl])->H' rl=some (.list ys)->wK (yD H') ys (yh s.bs a)->H rl=none->Q (.ref t) H'):yq G ["self","box"] Vp [.ref σ.sx,oI a] H Q X:=by
 refine yC rfl ?_
 cases a with
 | none =>
  refine Dk (GC (v:=.none) (wH rfl) rfl) (zm (Ay (xW (xO (v:=.none) wI (xW (Di xM (ao rfl) λc hc=>yR ⟨ao rfl,λt ht=>?_⟩))))))
  exact q t c [] _ ((wW hc _).trans (wW ht _)) (Hp.wQ _ _ _) (Hp.Fg (Hp.wQ _ _ _) ht) .nil hc
 | some b =>
  obtain⟨c,hc⟩:=ha b rfl
  obtain⟨e1,e2⟩:=Ju hc
  rw[e1,e2] at q
  obtain⟨bvs,p,-⟩:=id h.p.ex
  refine zW (GC (v:=.int b 0) (wH rfl) rfl) (xX (yx (by mem_news) p.i p.n (by nest_cls) (by rfl) (w6 (wH (v:=.int b 0) rfl) xM) (N h.p hc (λrows e=>by cases e;exact zy (hs _ _ hc)) λv H1 hv k1 hnew=>?_)))
  cases c with
  | leaf m =>
   obtain⟨t0,rfl,h0⟩:=hv
   refine Dk (Hx (xQ (wH rfl) wI h0 (by decide) rfl) wI (decide_eq_true rfl)) (zm (Ay (xW (xO (xQ (wH rfl) wI h0 (by decide) rfl) (xW (Di xM (ao rfl) λc hc=>yR ⟨ao rfl,λt ht=>?_⟩))))))
   exact q t c [] _ (k1.trans ((wW hc _).trans (wW ht _))) (Hp.wQ _ _ _) (Hp.Fg (Hp.wQ _ _ _) ht) .nil (k1.Az hc)
  | br rows =>
   obtain⟨t0,rl,xs,rfl,h0,h1,h2⟩:=hv
   refine zW (Hx (xQ (wH rfl) wI h0 (by decide) rfl) wI (by decide +kernel)) (zm (Ay (xW (xO (v:=.none) wI (xW (xO (xQ (wH rfl) wI h0 (by decide) rfl) (yR ⟨ao rfl,λt ht=>?_⟩)))))))
   have k2:Kp [] H1 (H1.upd t (.tup [.none,.ref rl])):=wW ht _
   exact q t rl xs _ (k1.trans k2) (Hp.wQ _ _ _) (k2.list h1) (xU (λuu uu z=>yD.kp k2 z) h2) (hnew t0 rl _ rfl h0)
def z6 (ok:Addr->Prop)(H:Hp)(v:Value)(e:Vt):Prop:=∃ t pl,v=.ref t/\H t=some (.tup [.ref pl,oI e.2.1,oI e.2.2])/\H pl=some (.list (sV e.1))/\ok pl
section
variable {ok ok':Addr->Prop}{v:Value}{e:Vt}
theorem z6.kp {M:List Addr}(k:Kp M H H')(h:z6 ok H v e):z6 ok H' v e:=by
 obtain⟨t,pl,h1,h2,h3,h4⟩:=h;exact⟨t,pl,h1,k.tup h2,k.list h3,h4⟩
theorem z6.imp (h:z6 ok H v e)(f:∀ p,ok p->ok' p):z6 ok' H v e:=by
 obtain⟨t,pl,h1,h2,h3,h4⟩:=h;exact⟨t,pl,h1,h2,h3,f pl h4⟩
theorem z6.upd (h:z6 ok H v e){w:Addr}{xs:List Value}(hw:H w=some (.list xs))(ho:∀ p,ok p->p≠w)(o:xH):z6 ok (H.upd w o) v e:=by
 obtain⟨t,pl,h1,h2,h3,h4⟩:=h
 exact⟨t,pl,h1,(Hp.xJ _ _ λz=>by rw[z,hw] at h2;cases h2).trans h2,(Hp.xJ _ _ (ho pl h4)).trans h3,h4⟩
end
def Jv (H0:Hp)(wl fl p:Addr):Prop:=p≠wl/\p≠fl/\H0 p=none
structure zj (σ:SA)(s:w7)(H0:Hp)(a b:Option Int)(wl fl:Addr)(L D:List Vt)(n:Nat)(l:Loc)(H:Hp):Prop where
 k:Kp [] H0 H
 g1:l "self" = some (.ref σ.sx)
 g2:l "waiting" = some (.ref wl)
 g3:l "found" = some (.ref fl)
 g4:l "looked" = some (.int (n:Int) 0)
 w:∃ ws,H wl=some (.list ws)/\wK (z6 (Jv H0 wl fl) H) ws L
 f:∃ fs,H fl=some (.list fs)/\wK (z6 (Jv H0 wl fl) H) fs D
 at_:∀ e∈L,e.2.1=wO s.bs a e.1/\e.2.2=wO s.bs b e.1
section
variable {H0:Hp}{a b:Option Int}{wl fl:Addr}{L D:List Vt}{n:Nat}{e:Vt}
theorem zj.kp (I:zj σ s H0 a b wl fl L D n l H)(k:Kp [] H H'):zj σ s H0 a b wl fl L D n l H':=by
 obtain⟨ws,w1,w2⟩:=I.w
 obtain⟨fs,f1,f2⟩:=I.f
 exact⟨I.k.trans k,I.g1,I.g2,I.g3,I.g4,⟨ws,k.list w1,xU (λuu uu z=>z.kp k) w2⟩,⟨fs,k.list f1,xU (λuu uu z=>z.kp k) f2⟩,I.at_⟩
noncomputable def chN:List Sm:=[.expr (.m (yc .list) Aw (.loc "waiting") [.n zu [.b BX (.b wR (.loc "place") (.k (.int 0 0))) (.n yu [.loc "name"]),.call (.glob "box_of") [.b wR (.loc "left") (.k (.int 1 0)),.loc "name"],.call (.glob "box_of") [.b wR (.loc "right") (.k (.int 1 0)),.loc "name"]]])]
structure DQ (wl:Addr)(bs:List (Int×Ct))(e:Vt)(t pl tl r1 tr r2:Addr)(y1 y2:List Value)(l:Loc)(H:Hp):Prop where
 g1:l "place" = some (.ref t)
 g2:l "left" = some (.ref tl)
 g3:l "right" = some (.ref tr)
 ht:H t=some (.tup [.ref pl,oI e.2.1,oI e.2.2])
 hpl:H pl=some (.list (sV e.1))
 htl:H tl=some (.tup [oI (xq bs e.2.1),.ref r1])
 hr1:H r1=some (.list y1)
 hy1:wK (yD H) y1 (yh bs e.2.1)
 htr:H tr=some (.tup [oI (xq bs e.2.2),.ref r2])
 hr2:H r2=some (.list y2)
 hy2:wK (yD H) y2 (yh bs e.2.2)
 n0:pl≠wl
 n1:r1≠wl
 n2:r2≠wl
section
variable {t pl tl r1 tr r2:Addr}{y1 y2:List Value}{nm:Str}
theorem DQ.mv (T:DQ wl s.bs e t pl tl r1 tr r2 y1 y2 l H)(tu:∀ c ys,H c=some (.tup ys)->H' c=some (.tup ys))(h0:H' pl=H pl)(h1:H' r1=H r1)(h2:H' r2=H r2):DQ wl s.bs e t pl tl r1 tr r2 y1 y2 l H':=by
 have ro:∀ v r,yD H v r->yD H' v r:=λv r h=>by obtain⟨c,h1,h2⟩:=h;exact⟨c,h1,tu _ _ h2⟩
 exact⟨T.g1,T.g2,T.g3,tu _ _ T.ht,h0.trans T.hpl,tu _ _ T.htl,h1.trans T.hr1,xU ro T.hy1,tu _ _ T.htr,h2.trans T.hr2,xU ro T.hy2,T.n0,T.n1,T.n2⟩
theorem DQ.bt (T:DQ wl s.bs e t pl tl r1 tr r2 y1 y2 l H){xs:List Value}(hw:H wl=some (.list xs))(k:Bt wl H H'):DQ wl s.bs e t pl tl r1 tr r2 y1 y2 l H' :=
 T.mv (λc ys h=>k c _ (λz=>by rw[z,hw] at h;cases h) h) ((k _ _ T.n0 T.hpl).trans T.hpl.symm) ((k _ _ T.n1 T.hr1).trans T.hr1.symm) ((k _ _ T.n2 T.hr2).trans T.hr2.symm)
noncomputable def Vu (bs:List (Int×Ct))(e:Vt)(n:Str):Vt:=(e.1++[n],Bc bs e.2.1 n,Bc bs e.2.2 n)
theorem zj.push (I:zj σ s H0 a b wl fl L D n l H)(h0:H0 wl=none)(hne:wl≠fl){v:Value}{e:Vt}(he:z6 (Jv H0 wl fl) H v e)(ha:e.2.1=wO s.bs a e.1/\e.2.2=wO s.bs b e.1){ws:List Value}(hw:H wl=some (.list ws)) :
  zj σ s H0 a b wl fl (L++[e]) D n l (H.upd wl (.list (ws++[v]))):=by
 obtain⟨ws',w1,w2⟩:=I.w
 cases hw.symm.trans w1
 obtain⟨fs,f1,f2⟩:=I.f
 have up:∀ v e,z6 (Jv H0 wl fl) H v e->z6 (Jv H0 wl fl) (H.upd wl (.list (ws++[v]))) v e:=λv e z=>z.upd hw (λp hp=>hp.1) _
 refine⟨I.k.fresh h0 _,I.g1,I.g2,I.g3,I.g4,⟨_,Hp.wQ _ _ _,Ek (xU (λuu uu z=>z.upd hw (λp hp=>hp.1) _) w2) (.cons (he.upd hw (λp hp=>hp.1) _) .nil)⟩,⟨fs,(Hp.xJ _ _ (cH hne)).trans f1,xU (λuu uu z=>z.upd hw (λp hp=>hp.1) _) f2⟩,λe' he'=>?_⟩
 rcases aR.1 he' with q | q
 ·exact I.at_ e' q
 ·rw[aC.1 q];exact ha
theorem zj.loc (I:zj σ s H0 a b wl fl L D n l H){l':Loc}(g1:l' "self" = l "self")(g2:l' "waiting" = l "waiting")(g3:l' "found" = l "found")(g4:l' "looked" = l "looked"):zj σ s H0 a b wl fl L D n l' H :=
 ⟨I.k,g1.trans I.g1,g2.trans I.g2,g3.trans I.g3,g4.trans I.g4,I.w,I.f,I.at_⟩
theorem DQ.loc (T:DQ wl s.bs e t pl tl r1 tr r2 y1 y2 l H){l':Loc}(g1:l' "place" = l "place")(g2:l' "left" = l "left")(g3:l' "right" = l "right"):DQ wl s.bs e t pl tl r1 tr r2 y1 y2 l' H :=
 ⟨g1.trans T.g1,g2.trans T.g2,g3.trans T.g3,T.ht,T.hpl,T.htl,T.hr1,T.hy1,T.htr,T.hr2,T.hy2,T.n0,T.n1,T.n2⟩
theorem amv (F:xu G A)(B:KN G A)(I:zj σ s H0 a b wl fl L D n l H)(T:DQ wl s.bs e t pl tl r1 tr r2 y1 y2 l H)(h0:H0 wl=none)(hne:wl≠fl)(gn:l "name" = some (.str nm 0))(ha:e.2.1=wO s.bs a e.1/\e.2.2=wO s.bs b e.1)(hz:e.1.length<=8)(hL:L.length<=2^20){K:QS}{XX:XS}
  (q:∀ H',zj σ s H0 a b wl fl (L++[Vu s.bs e nm]) D n l H'->Bt wl H H'->K .next l H'):wM G chN l H K XX:=by
 obtain⟨ws,w1,w2⟩:=I.w
 obtain⟨fs,f1,-⟩:=I.f
 refine Ao (Mv (wH I.g2) w1 (Ay (xW (zf (xO (xQ (wH T.g1) wI T.ht (by decide) rfl) (Di (w6 (wH gn) xM) (ao rfl) λc1 hc1=>Hy (Hp.Fg T.hpl hc1) (Hp.wQ _ _ _) ?_ λc2 hc2=>?_))))))
 ·rw[aA];exact aj (bw hz 1) (by decide)
 have k2:Kp [] H ((H.upd c1 (.list [.str nm 0])).upd c2 (.list (sV e.1++[.str nm 0]))):=(wW hc1 _).trans (wW hc2 _)
 have e2:((H.upd c1 (.list [.str nm 0])).upd c2 (.list (sV e.1++[.str nm 0]))) c2=some (.list (sV (e.1++[nm]))):=by rw[Hp.wQ,aeE]
 have n2:H c2=none:=(wW (M:=[]) hc1 _).Az hc2
 generalize (H.upd c1 (.list [.str nm 0])).upd c2 (.list (sV e.1++[.str nm 0]))=H2 at k2 e2 ⊢
 have T2:=T.bt w1 k2.bt
 refine xW (w_call (Am (by nest_cls)) (by nest_cls) (w6 (xQ (wH T.g2) wI T2.htl (by decide) rfl) (w6 (wH gn) xM)) (B T2.hr1 T2.hy1 (xW (w_call (Am (by nest_cls)) (by nest_cls) (w6 (xQ (wH T.g3) wI T2.htr (by decide) rfl) (w6 (wH gn) xM)) (B T2.hr2 T2.hy2 (yR ⟨ao rfl,λt3 ht3=>?_⟩))))))
 have k3:=k2.trans (wW (M:=[]) ht3 (.tup [.ref c2,oI (Bc s.bs e.2.1 nm),oI (Bc s.bs e.2.2 nm)]))
 refine Kq (k3.list w1) (zy (by rw[zp w2];exact hL)) (yZ (q _ ((I.kp k3).push h0 hne ⟨t3,c2,rfl,(Hp.wQ H2 t3 (.tup [.ref c2,oI (Bc s.bs e.2.1 nm),oI (Bc s.bs e.2.2 nm)])),(Hp.Fg (o':=.tup [.ref c2,oI (Bc s.bs e.2.1 nm),oI (Bc s.bs e.2.2 nm)]) e2 ht3),λz=>xr w1 (z▸n2),λz=>xr f1 (z▸n2),I.k.Az n2⟩ ?_ (k3.list w1)) λc o hc h=>HN _ c o hc (k3.bt c o hc h)))
 show Bc s.bs e.2.1 nm=wO s.bs a (e.1++[nm])/\Bc s.bs e.2.2 nm=wO s.bs b (e.1++[nm])
 rw[Jq,Jq,<-ha.1,<-ha.2]
 exact⟨rfl,rfl⟩
structure NmI (σ:SA)(s:w7)(H0 H1:Hp)(a b:Option Int)(wl fl:Addr)(L D:List Vt)(n:Nat)(e:Vt)(l1:Loc)(ns:List Str)(d r:List Str)(rs:List Value)(l:Loc)(H:Hp):Prop where
 e1:ns=d++r
 e2:rs=sV r
 I:zj σ s H0 a b wl fl (L++d.map (Vu s.bs e)) D n l H
 k:Bt wl H1 H
 gl:∀ x:Str,x≠"name"->l x=l1 x
theorem aeF {a b:Str}(h:ac7 a b):yS a b=true:=by unfold yS;exact decide_eq_true h
noncomputable def chF:Sm:=.for_ yO "name" (.u MK (.comp yO (.b wR (.loc "row") (.k (.int 0 0))) "row" (.b BX (.b wR (.loc "left") (.k (.int 1 0))) (.b wR (.loc "right") (.k (.int 1 0)))) none)) chN
theorem Z4 (bs:List (Int×Ct))(a b:Option Int):(nms bs a b).length<=(yh bs a).length+(yh bs b).length:=by
 have:=Vd (λx:Str=>x) (l:=nms bs a b) (U:=(yh bs a++yh bs b).map (·.1)) ((Vc _).imp λh z=>by rw[z] at h;exact QF _ _ h h) λx hx=>(Vb ((yh bs a++yh bs b).map λr=>r.1)).1 hx
 rw[aA,aG] at this
 exact this
theorem amw (F:xu G A)(B:KN G A)(I:zj σ s H0 a b wl fl L D n l H)(T:DQ wl s.bs e t pl tl r1 tr r2 y1 y2 l H)(h0:H0 wl=none)(hne:wl≠fl)(ha:e.2.1=wO s.bs a e.1/\e.2.2=wO s.bs b e.1)(hz:e.1.length<=8)(hL:L.length<=2^19){R:Nat}(hR:∀ a,(yh s.bs a).length<=R)(Bp:R<=2000){K:QS}{XX:XS}
  (q:∀ l' H',zj σ s H0 a b wl fl (L++Bo s.bs e) D n l' H'->K .next l' H'):wM G [chF] l H K XX:=by
 obtain⟨ws,w1,w2⟩:=I.w
 have z1:y1.length<=2000:=by rw[zp T.hy1];exact aj (hR _) Bp
 have z2:y2.length<=2000:=by rw[zp T.hy2];exact aj (hR _) Bp
 refine Mz (Dj (ams (zf (xO (xQ (wH T.g2) wI T.htl (by decide) rfl) (xO (xQ (wH T.g3) wI T.htr (by decide) rfl) (Hy T.hr1 T.hr2 (aj (cI z1 z2) (by decide)) λc hc=>?_))))))
 have k1:Kp [] H (H.upd c (.list (y1++y2))):=wW hc _
 have e1:(H.upd c (.list (y1++y2))) c=some (.list (y1++y2)):=Hp.wQ _ _ _
 generalize H.upd c (.list (y1++y2))=H1 at k1 e1 ⊢
 refine GD e1 ⟨by rw[aG];exact aj (cI z1 z2) (by decide),Yj (R:=yD H1) (f:=λr:Str×Int=>bR r.1 0) e1 (Ek (xU (λuu uu z=>yD.kp k1 z) T.hy1) (xU (λuu uu z=>yD.kp k1 z) T.hy2)) (λv y hv uu k' hk=>?_) λc2 hc2=>?_⟩
 ·obtain⟨p,rfl,hp⟩:=hv
  exact xQ (G:=G) (x:=.loc "row") (wH rfl) wI hp (by decide) rfl _ (λuu uu=>False) hk
 rw[rN]
 refine yr (Hp.wQ _ _ _) ⟨(yh s.bs e.2.1++yh s.bs e.2.2).map (·.1),amr _,?_,λts hp hm c3 hc3=>?_⟩
 ·rw[aA,aG];exact aj (cI (aj (hR _) Bp) (aj (hR _) Bp)) (by decide)
 obtain rfl:ts=nms s.bs e.2.1 e.2.2:=Lf (hp.imp aeF) hm
 have k3:=k1.trans ((wW (M:=[]) hc2 _).trans (wW hc3 (.list (sV (nms s.bs e.2.1 e.2.2)))))
 have e3:=Hp.wQ (H1.upd c2 (.list (nC (λr:Str×Int=>bR r.1 0) (yh s.bs e.2.1++yh s.bs e.2.2)))) c3 (.list (sV (nms s.bs e.2.1 e.2.2)))
 generalize (H1.upd c2 (.list (nC (λr:Str×Int=>bR r.1 0) (yh s.bs e.2.1++yh s.bs e.2.2)))).upd c3 (.list (sV (nms s.bs e.2.1 e.2.2)))=H3 at k3 e3 ⊢
 have nw:c3≠wl:=λz=>xr w1 (k1.Az ((wW (M:=[]) hc2 _).Az (z▸hc3)))
 refine GD e3 (Ku (λrs l' H'=>∃ d r,NmI σ s H0 H3 a b wl fl L D n e l (nms s.bs e.2.1 e.2.2) d r rs l' H') (λrs l' H' h=>?_) (λv rs l' H' h K' hK=>?_) (λl' H' h=>?_) ⟨[],_,rfl,rfl,by rw[gq,aY];exact I.kp k3,λuu uu uu h=>h,λuu uu=>rfl⟩)
 ·obtain⟨d,r,J⟩:=h
  exact J.k _ _ nw e3
 ·obtain⟨d,r,J⟩:=h
  cases r with
  | nil=>exact absurd J.e2 (λzz=>by cases zz)
  | cons m r =>
   have e2:=J.e2
   cases e2
   have gl:∀ x:Str,x≠"name"->(l'.upd "name" (.str m 0)) x=l x:=λx hx=>(if_neg hx).trans (J.gl x hx)
   have lz:(L++d.map (Vu s.bs e)).length<=2^20:=by
    rw[aG,aA]
    exact aj (cI hL (aj (aj (aF _ _) (bI ((aG (as:=d) (bs:=m::r)).symm.trans (congrArg m7 J.e1.symm)))) (aj (Z4 ..) (cI (aj (hR _) Bp) (aj (hR _) Bp))))) (by decide)
   refine amv F B (J.I.loc (gl _ (by decide +kernel) |>.trans (J.gl _ (by decide +kernel)).symm) (gl _ (by decide +kernel) |>.trans (J.gl _ (by decide +kernel)).symm) (gl _ (by decide +kernel) |>.trans (J.gl _ (by decide +kernel)).symm) (gl _ (by decide +kernel) |>.trans (J.gl _ (by decide +kernel)).symm)) (((T.bt w1 k3.bt).bt (k3.list w1) J.k).loc (gl _ (by decide +kernel)) (gl _ (by decide +kernel)) (gl _ (by decide +kernel))) h0 hne rfl ha hz lz λH2 J2 b2=>hK.nx _ _ ⟨d++[m],r,by rw[aP];exact J.e1,rfl,?_,λc o hc h=>b2 c o hc (J.k c o hc h),gl⟩
   rw[aX,<-aP]
   exact J2
 ·obtain⟨d,r,J⟩:=h
  have e1:=J.e1
  rw[(bZ.1 J.e2.symm:r=[]),aY] at e1
  have JI:=J.I
  rw[<-e1] at JI
  exact q _ _ JI
noncomputable def chG:Sm:=.ite (.b Ip (.b wR (.loc "left") (.k (.int 0 0))) (.b wR (.loc "right") (.k (.int 0 0)))) [.expr (.m (yc .list) Aw (.loc "found") [.n zu [.b wR (.loc "place") (.k (.int 0 0)),.b wR (.loc "left") (.k (.int 0 0)),.b wR (.loc "right") (.k (.int 0 0))]])] []
theorem zj.find (I:zj σ s H0 a b wl fl L D n l H)(h0:H0 fl=none)(hne:wl≠fl){v:Value}{e:Vt}(he:z6 (Jv H0 wl fl) H v e){fs:List Value}(hf:H fl=some (.list fs)):zj σ s H0 a b wl fl L (D++[e]) n l (H.upd fl (.list (fs++[v]))):=by
 obtain⟨ws,w1,w2⟩:=I.w
 obtain⟨fs',f1,f2⟩:=I.f
 cases hf.symm.trans f1
 exact⟨I.k.fresh h0 _,I.g1,I.g2,I.g3,I.g4,⟨ws,(Hp.xJ _ _ hne).trans w1,xU (λuu uu z=>z.upd hf (λp hp=>hp.2.1) _) w2⟩,⟨_,Hp.wQ _ _ _,Ek (xU (λuu uu z=>z.upd hf (λp hp=>hp.2.1) _) f2) (.cons (he.upd hf (λp hp=>hp.2.1) _) .nil)⟩,I.at_⟩
theorem amx (I:zj σ s H0 a b wl fl L D n l H)(T:DQ wl s.bs e t pl tl r1 tr r2 y1 y2 l H)(h0:H0 fl=none)(hne:wl≠fl)(hpl:Jv H0 wl fl pl)(n1:r1≠fl)(n2:r2≠fl)(hD:D.length<=2^20){r:List Sm}{Q:QS}{XX:XS}
  (q:∀ H',zj σ s H0 a b wl fl L (D++(Gj s.bs e).toList) n l H'->DQ wl s.bs e t pl tl r1 tr r2 y1 y2 l H'->wM G r l H' Q XX):wM G (chG::r) l H Q XX:=by
 obtain⟨fs,f1,f2⟩:=I.f
 refine CV (b:=!decide (xq s.bs e.2.1=xq s.bs e.2.2)) (SX (xQ (wH T.g2) wI T.htl (by decide) rfl) (xQ (wH T.g3) wI T.htr (by decide) rfl) rfl) (λhb=>?_) λhb=>zG ?_
 ·have hb:¬xq s.bs e.2.1=xq s.bs e.2.2:=of_decide_eq_false ((gV _).mp hb)
  refine Ao (Mv (wH I.g3) f1 (Ay (xW (xO (xQ (wH T.g1) wI T.ht (by decide) rfl) (xW (xO (xQ (wH T.g2) wI T.htl (by decide) rfl) (xW (xO (xQ (wH T.g3) wI T.htr (by decide) rfl) (yR ⟨ao rfl,λt4 Z5=>?_⟩)))))))))
  have k4:Kp [] H (H.upd t4 (.tup [.ref pl,oI (xq s.bs e.2.1),oI (xq s.bs e.2.2)])):=wW Z5 _
  have e4:=Hp.wQ H t4 (.tup [.ref pl,oI (xq s.bs e.2.1),oI (xq s.bs e.2.2)])
  generalize H.upd t4 (.tup [.ref pl,oI (xq s.bs e.2.1),oI (xq s.bs e.2.2)])=H4 at k4 e4 ⊢
  have f4:=k4.list f1
  obtain⟨ws,w1,-⟩:=I.w
  refine Kq f4 (zy (by rw[zp f2];exact hD)) (zG (q _ ?_ ((T.bt w1 k4.bt).mv (λc ys h=>(Hp.xJ _ _ λz=>by rw[z,f4] at h;cases h).trans h) (Hp.xJ _ _ hpl.2.1) (Hp.xJ _ _ n1) (Hp.xJ _ _ n2))))
  have:=(I.kp k4).find h0 hne (e:=(e.1,xq s.bs e.2.1,xq s.bs e.2.2)) ⟨t4,pl,rfl,e4,k4.list T.hpl,hpl⟩ f4
  unfold Gj
  rw[if_neg hb]
  exact this
 ·have hb:xq s.bs e.2.1=xq s.bs e.2.2:=of_decide_eq_true (by rw[<-qu];exact hb)
  have:=q H
  unfold Gj at this
  rw[if_pos hb,pW,aY] at this
  exact this I T
noncomputable def chB:List Sm:=[.asg "place" (.m (yc .list) Gw (.loc "waiting") []),.ite (.b O5 (.b wR (.loc "place") (.k (.int 1 0))) (.b wR (.loc "place") (.k (.int 2 0)))) [.cont] [],.asg "looked" (.b zB (.loc "looked") (.k (.int 1 0))),.asg "left" (.meth (.loc "self") "both" [.b wR (.loc "place") (.k (.int 1 0))]),.asg "right" (.meth (.loc "self") "both" [.b wR (.loc "place") (.k (.int 2 0))]),chG,chF]
theorem Vv {α β:Type}{R:α->β->Prop}{ys:List β}:∀ {xs:List α} {y:β},wK R xs (ys++[y])->∃ xs' x,xs=xs'++[x]/\wK R xs' ys/\R x y:=by
 induction ys with
 | nil =>
  intro xs y h
  cases h with
  | cons h1 h2=>cases h2;exact⟨[],_,rfl,.nil,h1⟩
 | cons z ys ih =>
  intro xs y h
  cases h with
  | cons h1 h2 =>
   obtain⟨xs',x,rfl,h3,h4⟩:=ih h2
   exact⟨_::xs',x,rfl,.cons h1 h3,h4⟩
theorem zj.pop (I:zj σ s H0 a b wl fl (L++[e]) D n l H)(h0:H0 wl=none)(hne:wl≠fl):∃ ws v,H wl=some (.list (ws++[v]))/\ws.length=L.length/\z6 (Jv H0 wl fl) (H.upd wl (.list ws)) v e/\zj σ s H0 a b wl fl L D n l (H.upd wl (.list ws)):=by
 obtain⟨ws,w1,w2⟩:=I.w
 obtain⟨ws,v,rfl,w2,w3⟩:=Vv w2
 obtain⟨fs,f1,f2⟩:=I.f
 exact⟨ws,v,w1,zp w2,w3.upd w1 (λp hp=>hp.1) _,I.k.fresh h0 _,I.g1,I.g2,I.g3,I.g4,⟨ws,Hp.wQ _ _ _,xU (λuu uu z=>z.upd w1 (λp hp=>hp.1) _) w2⟩,⟨fs,(Hp.xJ _ _ (cH hne)).trans f1,xU (λuu uu z=>z.upd w1 (λp hp=>hp.1) _) f2⟩,λe' he'=>I.at_ e' (aZ _ he')⟩
theorem amy (F:xu G A)(B:KN G A)(C:Vr G A)(h:wX A H0 σ s)(hs:Short s.bs)(hm:G.meth (A "Store" "") "both" = some (A "Store" "both"))(I:zj σ s H0 a b wl fl (L++[e]) D n l H)(h0:H0 wl=none)(f0:H0 fl=none)(hne:wl≠fl)(ht:∀ e':Vt,e'.2.1=wO s.bs a e'.1/\e'.2.2=wO s.bs b e'.1->There s.bs e'.2.1/\There s.bs e'.2.2/\(e'.2.1≠e'.2.2->e'.1.length<=8))(hL:L.length<=2^19)(hD:D.length<=2^20){R:Nat}(hR:∀ a,(yh s.bs a).length<=R)(Bp:R<=2000){K:QS}{XX:XS}
  (q1:e.2.1=e.2.2->∀ l' H',zj σ s H0 a b wl fl L D n l' H'->K .cont l' H') (q2:e.2.1≠e.2.2->∀ l' H',zj σ s H0 a b wl fl (L++Bo s.bs e) (D++(Gj s.bs e).toList) (n+1) l' H'->K .next l' H'):wM G chB l H K XX:=by
 have ha:=I.at_ e (aN _ (.head _))
 obtain⟨t1,t2,t8⟩:=ht e ha
 obtain⟨ws,v,w1,wz,⟨t,pl,rfl,et,ep,ok⟩,J⟩:=I.pop h0 hne
 refine xX (Tc (wH (I.g2)) w1 (by rw[aG,wz];exact aj (bw hL 1) (by decide)) jH ?_)
 rw[lR]
 have J:=J.loc (l':=l.upd "place" (.ref t)) rfl rfl rfl rfl
 generalize H.upd wl (.list ws)=H1 at J et ep ⊢
 refine CV (b:=decide (e.2.1=e.2.2)) (X6 (xQ (wH rfl) wI et (by decide) rfl) (xQ (wH rfl) wI et (by decide) rfl) rfl) (λhb=>acM (q1 (of_decide_eq_true hb) _ _ J)) λhb=>zG ?_
 have hb:=of_decide_eq_false hb
 have h1:=h.yp J.k
 obtain⟨ws,w1,-⟩:=J.w
 obtain⟨fs,f1,-⟩:=J.f
 refine Gi (v:=.int ((n+1:Nat):Int) 0) (Bw (wH J.g4) wI) (xX (yx (wH J.g1) h1.i h1.n hm (by rfl) (w6 (xQ (wH rfl) wI et (by decide) rfl) xM) (C h1 hs t1 λtl r1 y1 H2 k2 a1 a2 a3 n1=>?_)))
 have h2:=h1.yp k2
 refine xX (yx (wH J.g1) h2.i h2.n hm (by rfl) (w6 (xQ (wH rfl) wI (k2.tup et) (by decide) rfl) xM) (C h2 hs t2 λtr r2 y2 H3 k3 b1 b2 b3 n2=>?_))
 have KQ:=k2.trans k3
 have J3:zj σ s H0 a b wl fl L D (n+1) ((((l.upd "place" (.ref t)).upd "looked" (.int ((n+1:Nat):Int) 0)).upd "left" (.ref tl)).upd "right" (.ref tr)) H3 :=
  have J2:=J.kp KQ
  ⟨J2.k,J.g1,J.g2,J.g3,rfl,J2.w,J2.f,J.at_⟩
 have n2:=k2.Az n2
 have T:DQ wl s.bs e t pl tl r1 tr r2 y1 y2 ((((l.upd "place" (.ref t)).upd "looked" (.int ((n+1:Nat):Int) 0)).upd "left" (.ref tl)).upd "right" (.ref tr)) H3 :=
  ⟨rfl,rfl,rfl,KQ.tup et,KQ.list ep,k3.tup a1,k3.list a2,xU (λuu uu z=>yD.kp k3 z) a3,b1,b2,b3,ok.1,λz=>xr w1 (z▸n1),λz=>xr w1 (z▸n2)⟩
 exact amx J3 T f0 hne ok (λz=>xr f1 (z▸n1)) (λz=>xr f1 (z▸n2)) hD λH4 J4 T4=>amw F B J4 T4 h0 hne ha (t8 hb) hL hR Bp λl' H' J5=>q2 hb l' H' J5
end
theorem Z6 {α β:Type}(f:α->Option β)(l:List α)(x:α):(l++[x]).filterMap f=l.filterMap f++(f x).toList:=by
 rw[List.filterMap_append,pY]
 cases f x <;> rfl
theorem amA {bs:List (Int×Ct)}{R:Nat}(hR:∀ a,(yh bs a).length<=R)(e:Vt):(Bo bs e).length<=2*R:=by
 unfold Bo
 rw[aA,Nat.two_mul]
 exact aj (Z4 ..) (cI (hR _) (hR _))
theorem amB {r k x:Nat}:r*k+x<r*k+(x+1):=bV _
theorem amC {r k x y:Nat}(h:y<=k):r*(k+1)+(x+y)<(r+1)*(k+1)+(x+1):=by
 rw[Nat.succ_mul,dW]
 refine cN ?_ _
 rw[dH x y,<-dW]
 exact gA (aj (bw h x) (bw (dX k) x))
structure Stk (bs:List (Int×Ct))(R:Nat)(I:List Vt->List Vt->Loc->Hp->Prop)(Vt':List Vt)(L V:List Vt)(m:Nat)(l:Loc)(H:Hp):Prop where
 I:I L V l H
 v:V++Cd bs L=Vt'
 m:m=(Cd bs L).length*(2*R+1)+L.length
theorem Z7 {bs:List (Int×Ct)}{c:Ex}{body r:List Sm}{Q:QS}{X:XS}(I:List Vt->List Vt->Loc->Hp->Prop){R:Nat}(hR:∀ a,(yh bs a).length<=R)(Bp:R<=100){Vf:List Vt}(hV:Vf.length<=900)
  (test:∀ L V l H,I L V l H->∀ K:Bool->Hp->Prop,(∀ H1,I L V l H1->K (!L.isEmpty) H1)->c G l H (λv H1=>zL v λb=>K b H1) (λC H'=>X C l H')) (h8:∀ L e V l H,I (L++[e]) V l H->e.2.1≠e.2.2->e.1.length<=8)
  (turn:∀ L e V l H,I (L++[e]) V l H->L.length<=2^19->V.length<=900->(∃ V',Vf=V++V'/\(e.2.1≠e.2.2->∃ V'',V'=e::V''))->∀ K:QS,(e.2.1=e.2.2->∀ l' H',I L V l' H'->K .next l' H'/\K .cont l' H')->(e.2.1≠e.2.2->∀ l' H',I (L++Bo bs e) (V++[e]) l' H'->K .next l' H')->wM G body l H K X)
  (q:∀ l' H',I [] Vf l' H'->wM G r l' H' Q X) {e0:Vt} (he:Vf=Cd bs [e0]) (h:I [e0] [] l H):wM G (.Hj c body::r) l H Q X:=by
 refine amt (λm l H=>m<=2^19/\∃ L V,Stk bs R I Vf L V m l H) (λm l H hM K hK=>?_) (m:=Vf.length*(2*R+1)+1) ⟨aj (bw (pI hV (bw (fM 2 Bp) 1)) 1) (by decide),[e0],[],h,he.symm,by rw[<-he];rfl⟩
 obtain⟨mz,L,V,S⟩:=hM
 have lz:L.length<=2^19:=aj (by rw[S.m];exact eF _ _) mz
 refine test L V l H S.I _ λH1 J=>?_
 refine Dr λgg kk=>?_
 rcases oN L with e | ⟨L',e,eq⟩ <;> (refine kk ?_;clear kk gg)
 ·subst e
  have ed:V=Vf:=by have:=S.v;rw[show Cd bs []=[] from rfl,aY] at this;exact this
  exact q _ _ (ed▸J)
 ·rw[oV] at eq
  subst eq
  rw[show(!(L'++[e]).isEmpty)=true by cases L' <;> rfl]
  refine turn L' e V l H1 J (show L'.length<=2^19 from by rw[aG] at lz;exact dU lz) (aj (by rw[<-S.v,aG];exact aF _ _) hV:V.length<=900) ⟨_,S.v.symm,λhb=>⟨_,aek hb (h8 _ _ _ _ _ J hb)⟩⟩ _ (λhb l' H' J'=>?_) λhb l' H' J'=>?_
  ·have er:=alT (bs:=bs) (L:=L') hb
   have lt:(Cd bs L').length*(2*R+1)+L'.length<m:=by rw[S.m,er,aG];exact amB
   have:=hK _ l' H' lt ⟨aj (aQ lt) mz,L',V,J',er▸S.v,rfl⟩
   exact⟨this,this⟩
  ·have er:=aek (bs:=bs) (L:=L') hb (h8 _ _ _ _ _ J hb)
   have lt:(Cd bs (L'++Bo bs e)).length*(2*R+1)+(L'++Bo bs e).length<m:=by
    rw[S.m,er,dF,aG,aG];exact amC (amA hR e)
   refine hK _ l' H' lt ⟨aj (aQ lt) mz,_,_,J',?_,rfl⟩
   rw[aP,oG,<-er];exact S.v
theorem amD (I:zj σ s H0 a b wl fl L D n l H){K:Bool->Hp->Prop}{X:XV}(q:∀ H1,zj σ s H0 a b wl fl L D n l H1->K (!L.isEmpty) H1):Ex.b neN (.loc "waiting") (.n yu []) G l H (λv H1=>zL v λb=>K b H1) X:=by
 obtain⟨ws,w1,w2⟩:=I.w
 refine Qa (wH I.g2) w1 λd hd=>?_
 have:=q _ (I.kp (wW hd (.list [])))
 cases w2 with
 | nil=>exact this
 | cons _ _=>exact this
theorem amE (F:xu G A)(B:KN G A)(C:Vr G A)(h:wX A H0 σ s)(hs:Short s.bs)(hm:G.meth (A "Store" "") "both" = some (A "Store" "both"))(h0:H0 wl=none)(f0:H0 fl=none)(hne:wl≠fl)(ht:∀ e':Vt,e'.2.1=wO s.bs a e'.1/\e'.2.2=wO s.bs b e'.1->There s.bs e'.2.1/\There s.bs e'.2.2/\(e'.2.1≠e'.2.2->e'.1.length<=8)){R:Nat}(hR:∀ a,(yh s.bs a).length<=R)(Bp:R<=100){Vf:List Vt}(hV:Vf.length<=900){r:List Sm}{Q:QS}{XX:XS}
  (q:∀ l' H',zj σ s H0 a b wl fl [] (Vf.filterMap (Gj s.bs)) Vf.length l' H'->wM G r l' H' Q XX) {e0:Vt} (he:Vf=Cd s.bs [e0]) (I:zj σ s H0 a b wl fl [e0] [] 0 l H):wM G (.Hj (.b neN (.loc "waiting") (.n yu [])) chB::r) l H Q XX:=by
 refine Z7 (λL V l H=>zj σ s H0 a b wl fl L (V.filterMap (Gj s.bs)) V.length l H) hR Bp hV (λL V l H I K hK=>amD I hK) (λL e V l H I hb=>(ht e (I.at_ e (aN _ (.head _)))).2.2 hb) (λL e V l H I lz vz uu K k1 k2=>?_) q he I
 refine amy F B C h hs hm I h0 f0 hne ht lz (aj (iY ..) (aj vz (by decide))) hR (aj Bp (by decide)) (λhb l' H' J=>(k1 hb l' H' J).2) λhb l' H' J=>k2 hb l' H' ?_
 rw[Z6,aG]
 exact J
end
section
variable {R:Nat}{Ps:List (List Str)}{a b:Option Int}{p:List Str}{x t T:Addr}
theorem SW.aeG (w:SW R s)(ra:Root s a){x:Int}(h:wO s.bs a p=some x):∃ c,get s.bs x=some c:=by
 cases a with
 | none=>rw[Fw] at h;cases h
 | some t=>exact Ba (ZJ (B:=s.bs) (bs:=s.bs) (K:=s.bs.map (·.1)) (λuu uu uu e=>e) (λi uu c e k hk=>w.pw.clo k (aZ _ (Qt e hk))) p (w.pw.clo t (aN _ (ra t rfl))) h).2
theorem SW.Vw (w:SW R s)(a:Option Int):(yh s.bs a).length<=R:=by
 unfold yh
 cases e:a.bind (get s.bs) with
 | none=>exact bL _
 | some c =>
  cases c with
  | leaf m=>exact bL _
  | br rows =>
   obtain⟨i,-,e⟩:=je.1 e
   exact(w.ro i rows e).1
theorem Z8 (w:SW R s)(U:UP Ps s)(ra:Root s a)(rb:Root s b)(e:Vt)(h:e.2.1=wO s.bs a e.1/\e.2.2=wO s.bs b e.1):There s.bs e.2.1/\There s.bs e.2.2/\(e.2.1≠e.2.2->e.1.length<=8) :=
 ⟨λx hx=>SW.aeG w ra (h.1.symm.trans hx),λx hx=>SW.aeG w rb (h.2.symm.trans hx),λhne=>(aer hne).elim (λz=>z.elim λx hx=>U.NT ra (h.1.symm.trans hx)) λz=>z.elim λx hx=>U.NT rb (h.2.symm.trans hx)⟩
theorem GK {v:Option Int}{b:Int}(h:Af s v=some b):b∈s.roots:=by
 cases v with
 | none=>cases h;exact .head _
 | some n=>exact .tail _ (aO.2 ⟨_,Ji h,rfl⟩)
theorem Bd {b:Int}(h:b∈s.roots):Root s (some b):=λt e=>jh e▸h
theorem TabAt.yp (h:TabAt T H)(k:Kp [] H H'):TabAt T H':=by
 obtain⟨ks,h1,h2⟩:=h
 exact⟨ks,k _ _ h1 (.inr aH),λc hc=>k _ _ (h2 c hc) (.inr aH)⟩
theorem z6.bt {ok:Addr->Prop}{v:Value}{e:Vt}(h:z6 ok H v e)(hT:TabAt T H)(k:Bt T H H'):z6 ok H' v e:=by
 obtain⟨ks,hT,-⟩:=hT
 obtain⟨t,pl,h1,h2,h3,h4⟩:=h
 exact⟨t,pl,h1,k _ _ (λz=>by rw[z,hT] at h2;cases h2) h2,k _ _ (λz=>by rw[z,hT] at h3;cases h3) h3,h4⟩
theorem amF {α β:Type}{g:α->β}{ps:List β}{M:List β}(h:ps.Perm M):∀ {L:List α},M=L.map g->∃ qs:List α,ps=qs.map g/\qs.Perm L:=by
 induction h with
 | nil=>intro L e;cases bZ.1 e.symm;exact⟨[],rfl,.nil⟩
 | cons x _ ih =>
  intro L e
  obtain⟨y,L,rfl,rfl,e2⟩:=bH.1 e.symm
  obtain⟨qs,rfl,hq⟩:=ih e2.symm
  exact⟨y::qs,rfl,hq.cons y⟩
 | swap x y l =>
  intro L e
  obtain⟨u,L,rfl,rfl,e2⟩:=bH.1 e.symm
  obtain⟨v,L,rfl,rfl,e3⟩:=bH.1 e2
  exact⟨v::u::L,by rw[bJ,bJ,e3],.swap ..⟩
 | trans _ _ ih1 ih2 =>
  intro L e
  obtain⟨qs,h1,h2⟩:=ih2 e
  obtain⟨rs,h3,h4⟩:=ih1 h1
  exact⟨rs,h3,h4.trans h2⟩
theorem amG {α β:Type}{R:α->β->Prop}{xs:List α}{ys:List β}(h:wK R xs ys):(∀ q∈xs.zip ys,R q.1 q.2)/\(xs.zip ys).map (·.2)=ys:=by
 induction h with
 | nil=>exact⟨λq hq=>absurd hq aH,rfl⟩
 | cons h1 _ ih=>exact⟨λq hq=>(aM.1 hq).elim (λe=>e▸h1) (ih.1 q),congrArg _ ih.2⟩
theorem amH {α β:Type}{R:α->β->Prop}{qs:List (α×β)}(h:∀ q∈qs,R q.1 q.2):wK R (qs.map (·.1)) (qs.map (·.2)):=by
 induction qs with
 | nil=>exact .nil
 | cons q qs ih=>exact .cons (h q (.head _)) (ih λx hx=>h x (.tail _ hx))
theorem amI {ok:Addr->Prop}{xs:List Value}{D:List Vt}(h:wK (z6 ok H) xs D){ps:List (Value×List Str)}(hp:ps.Perm (xs.zip (D.map (·.1))))(hs:ps.Pairwise λp q=>¬Bl q.2 p.2):∃ D',D'.Perm D/\(D'.Pairwise λx y=>¬Bl y.1 x.1)/\wK (z6 ok H) (ps.map (·.1)) D':=by
 obtain⟨h1,h2⟩:=amG h
 obtain⟨qs,rfl,hq⟩:=amF (g:=λq:Value×Vt=>(q.1,q.2.1)) hp (L:=xs.zip D) (by rw[List.zip_map_right];rfl)
 refine⟨qs.map (·.2),h2▸hq.map _,dh.2 (dh.1 hs),?_⟩
 have:=amH (R:=z6 ok H) λq m=>h1 q (hq.mem_iff.1 m)
 rw[bY]
 exact this
theorem amJ {ok:Addr->Prop}{xs:List Value}{D:List Vt}(h:wK (z6 ok H) xs D):wK (Kw H) xs (D.map (·.1)):=by
 induction h with
 | nil=>exact .nil
 | cons h1 _ ih=>exact .cons (by obtain⟨t,pl,h1,h2,h3,-⟩:=h1;exact⟨t,pl,_,h1,h2,h3⟩) ih
structure Vx (s:w7)(b c:Int)(H H':Hp)(T t sl:Addr)(zs:List Value)(D:List Vt):Prop where
 k:Bt T H H'
 tb:TabAt T H'
 ht:H' t=some (.tup [.ref sl,.int ((vis s.bs 9 ([],some b,some c)).length:Int) 0])
 hsl:H' sl=some (.list zs)
 r:wK (z6 (λp=>H p=none/\p≠sl) H') zs D
 d:Due s.bs (some b) (some c) D
 s0:H sl=none
def aeH (G:Gx)(A:Ad):Prop:=∀ ⦃H:Hp⦄ ⦃σ:SA⦄ ⦃s:w7⦄,wX A H σ s->∀ ⦃R:Nat⦄ ⦃Ps:List (List Str)⦄,SW R s->UP Ps s->R<=100->Ps.length<=100->∀ ⦃T:Addr⦄,TabAt T H->∀ ⦃v w:Option Int⦄ ⦃b c:Int⦄,Af s v=some b->Af s w=some c->∀ ⦃Q:QV⦄ ⦃X:XV⦄,(∀ t sl zs D H',Vx s b c H H' T t sl zs D->Q (.ref t) H')->G.fn (A "Store" "changes") [.ref σ.sx,oI v,oI w] H Q X
theorem amK {H0:Hp}{b c:Int}{wl fl:Addr}{nt:Nat}{Dt:List Vt}(U:UP Ps s)(rb:b∈s.roots)(rc:c∈s.roots)(hT:TabAt T H0)(I:zj σ s H0 (some b) (some c) wl fl [] Dt nt l H)(hD:Dt=(vis s.bs 9 ([],some b,some c)).filterMap (Gj s.bs))(hn:nt=(vis s.bs 9 ([],some b,some c)).length)(hz:Dt.length<=2^20)
  (q:∀ t sl zs D H',Vx s b c H0 H' T t sl zs D->Q (.ref t) H'):wM G [.ret (.n zu [.u Yp (.loc "found"),.loc "looked"])] l H (fq Q) (fx X):=by
 obtain⟨fs,f1,f2⟩:=I.f
 have hT1:=TabAt.yp hT I.k
 refine zm (Ay (xW (Dj (xO (wH I.g3) (yr f1 ⟨T,hT1,zy (by rw[zp f2];exact hz),_,amJ f2,λH1 ps lam hp hs sl hsl=>xW (xO (wH I.g4) (yR ⟨ao rfl,λt ht=>?_⟩))⟩)))))
 obtain⟨D,d1,d2,d3⟩:=amI f2 hp hs
 have k1:Kp [] H1 ((H1.upd sl (.list (ps.map (·.1)))).upd t (.tup [.ref sl,.int (nt:Int) 0])):=(wW hsl _).trans (wW ht _)
 have kb:Bt T H0 H1:=λa o hne h=>lam.2 a o hne (I.k a o h (.inr aH))
 have nl:∀ a,H1 a=none->H0 a=none:=λa ha=>none_of λo e=>by
  by_cases z:a=T
  ·obtain⟨ks,e2,-⟩:=lam.1
   exact xr e2 (z▸ha)
  ·exact xr (kb a o z e) ha
 refine q t sl _ D _ ⟨λa o hne h=>k1 a o (kb a o hne h) (.inr aH),TabAt.yp lam.1 k1,by rw[Hp.wQ,hn],Hp.Fg (Hp.wQ _ _ _) ht,xU (λv e z=>?_) d3,al1 (U.or8 (Bd rb) (Bd rc)) (hD▸d1) d2,nl sl hsl⟩
 obtain⟨t',pl,h1,h2,h3,h4⟩:=((z.bt hT1 lam.2))
 exact⟨t',pl,h1,k1.tup h2,k1.list h3,h4.2.2,λe=>xr h3 (e▸hsl)⟩
theorem amL (F:xu G A)(hm:G.meth (A "Store" "") "both" = some (A "Store" "both"))(TP:Nq G A)(B:KN G A)(C:Vr G A)(h:wX A H σ s)(w:SW R s)(U:UP Ps s)(hR:R<=100)(hP:Ps.length<=100)(hT:TabAt T H){v w':Option Int}{b c:Int}(hv:Af s v=some b)(hw:Af s w'=some c)
  (q:∀ t sl zs D H',Vx s b c H H' T t sl zs D->Q (.ref t) H'):yq G ["self","one","other"] Vq [.ref σ.sx,oI v,oI w'] H Q X:=by
 have rb:=GK hv
 have rc:=GK hw
 have vl:=U.Vh (Bd rb) (Bd rc)
 have vl:(vis s.bs 9 ([],some b,some c)).length<=900:=aj vl (dg 9 hP)
 have e0:Cd s.bs [([],some b,some c)]=vis s.bs 9 ([],some b,some c):=(QH [] _).trans (aY _)
 refine yC rfl (xX (Ay (xW (Ay (xW (Di xM (ao rfl) λpl hpl=>xW ?_))))))
 have k1:Kp [] H (H.upd pl (.list [])):=wW hpl _
 have e1:(H.upd pl (.list [])) pl=some (.list []):=Hp.wQ _ _ _
 generalize H.upd pl (.list [])=H1 at k1 e1 ⊢
 have h1:=h.yp k1
 refine yx (wH rfl) h1.i h1.n (by nest_cls) (by rfl) (w6 (wH rfl) xM) (TP h1 hv (xW (yx (wH rfl) h1.i h1.n (by nest_cls) (by rfl) (w6 (wH rfl) xM) (TP h1 hw (yR ⟨ao rfl,λt ht=>yR ⟨ao rfl,λwl hwl=>?_⟩⟩)))))
 have k2:Kp [] H1 (H1.upd t (.tup [.ref pl,.int b 0,.int c 0])):=wW ht _
 have e2:(H1.upd t (.tup [.ref pl,.int b 0,.int c 0])) t=some (.tup [.ref pl,.int b 0,.int c 0]):=Hp.wQ _ _ _
 have e1:=k2.list e1
 generalize H1.upd t (.tup [.ref pl,.int b 0,.int c 0])=H2 at k2 e1 e2 hwl ⊢
 have k3:Kp [] H2 (H2.upd wl (.list [.ref t])):=wW hwl _
 have e3:(H2.upd wl (.list [.ref t])) wl=some (.list [.ref t]):=Hp.wQ _ _ _
 have nw:pl≠wl:=λz=>xr e1 (z▸hwl)
 have e1:=k3.list e1
 have e2:=k3.tup e2
 generalize H2.upd wl (.list [.ref t])=H3 at k3 e1 e2 e3 ⊢
 refine xX (Di xM (ao rfl) λfl hfl=>Gi wI ?_)
 have k4:Kp [] H3 (H3.upd fl (.list [])):=wW hfl _
 refine amE F B C h (w.short (aj hR (by decide))) hm (wl:=wl) (fl:=fl) ((k1.trans k2).Az hwl:H wl=none) ((k1.trans k2).Az (k3.Az hfl)) (λz=>xr e3 (z▸hfl)) (Z8 w U (Bd rb) (Bd rc)) (SW.Vw w) hR (Vf:=vis s.bs 9 ([],some b,some c)) vl (λl' H' I=>amK U rb rc hT I rfl rfl (aj (iY ..) (aj vl (by decide)):((vis s.bs 9 ([],some b,some c)).filterMap (Gj s.bs)).length<=2^20) q) (e0:=([],some b,some c)) e0.symm ⟨((k1.trans k2).trans (k3.trans k4)),rfl,rfl,rfl,rfl,⟨_,k4.list e3,.cons ⟨t,pl,rfl,k4.tup e2,k4.list e1,nw,λz=>xr e1 (z▸hfl),hpl⟩ .nil⟩,⟨[],Hp.wQ _ _ _,.nil⟩,λe he=>?_⟩
 rw[aC.1 he];exact⟨rfl,rfl⟩
end
end
noncomputable def Vy:List Sm:=[.ite (.or (.b Df (.loc "_law_box") (.k .none)) (.b FZ (.b wR (.meth (.loc "_law_pile") "content" [.loc "_law_box"]) (.k (.int 0 0))) (.k (.str "leaf" 0)))) [.ret (.n acV [])] [],.ret (.u ac6 (.b wR (.meth (.loc "_law_pile") "content" [.loc "_law_box"]) (.k (.int 1 0))))]
noncomputable def Vz:List Sm:=[.asg "_law_waiting" (.n yu [.n yu [.loc "_law_one",.loc "_law_other"]]),.asg "_law_many" (.k (.int 0 0)),.Hj (.b neN (.loc "_law_waiting") (.n yu [])) [.asg "_law_step" (.m (yc .list) Gw (.loc "_law_waiting") []),.ite (.b Ip (.b yw (.loc "_law_step") (.k (.int 0 0))) (.b yw (.loc "_law_step") (.k (.int 1 0)))) [.asg "_law_many" (.b zB (.loc "_law_many") (.k (.int 1 0))),.asg "_law_left" (.call (.glob "_law_rows") [.loc "_law_pile",.b yw (.loc "_law_step") (.k (.int 0 0))]),.asg "_law_right" (.call (.glob "_law_rows") [.loc "_law_pile",.b yw (.loc "_law_step") (.k (.int 1 0))]),.for_ yO "_law_name" (.u MK (.b BX (.u Qj (.loc "_law_left")) (.u Qj (.loc "_law_right")))) [.expr (.m (yc .list) Aw (.loc "_law_waiting") [.n yu [.m (yc .Ah) MJ (.loc "_law_left") [.loc "_law_name",.k .none],.m (yc .Ah) MJ (.loc "_law_right") [.loc "_law_name",.k .none]]])]] []],.ret (.loc "_law_many")]
noncomputable def VB:List Sm:=[.asg "_law_waiting" (.n yu [.n zu [.n zu [],.loc "_law_top"]]),.asg "_law_seen" (.n acW []),.Hj (.b neN (.loc "_law_waiting") (.n yu [])) [.asg "_law_step" (.m (yc .list) Gw (.loc "_law_waiting") []),.asg "_law_inside" (.meth (.loc "_law_pile") "content" [.b wR (.loc "_law_step") (.k (.int 1 0))]),.ite (.b FZ (.b wR (.loc "_law_inside") (.k (.int 0 0))) (.k (.str "leaf" 0))) [.Eu Ti (.loc "_law_seen") (.b wR (.loc "_law_step") (.k (.int 0 0))) (.b wR (.loc "_law_inside") (.k (.int 1 0)))] [.asg "_law_waiting" (.b BX (.loc "_law_waiting") (.comp yO (.n zu [.b RW (.b wR (.loc "_law_step") (.k (.int 0 0))) (.n zu [.b wR (.loc "_law_pair") (.k (.int 0 0))]),.b wR (.loc "_law_pair") (.k (.int 1 0))]) "_law_pair" (.b wR (.loc "_law_inside") (.k (.int 1 0))) none))]],.ret (.loc "_law_seen")]
section
variable {A:Ad}{G:Gx}{l:Loc}{H H':Hp}{σ:SA}{s:w7}{Q:QV}{X:XV}{R:Nat}{fs:List Str}
theorem aeI {p r:Str}{t:Bool}(h:decide (p=r)=t)(q:Q (.bool t) H):FZ (.str p 0) (.str r 0) H Q:=acA trivial (h▸q)
noncomputable def Cg (rows:List (Str×Int)):List (Str×Value):=rows.map λr=>(r.1,.int r.2 0)
def Z9 (G:Gx)(A:Ad):Prop:=∀ ⦃H:Hp⦄ ⦃σ:SA⦄ ⦃s:w7⦄,wX A H σ s->∀ ⦃R:Nat⦄,SW R s->R<=100->∀ ⦃a:Option Int⦄,There s.bs a->∀ ⦃Q:QV⦄ ⦃X:XV⦄,(∀ c H',Kp [] H H'->H' c=some (.Ah (Cg (yh s.bs a)))->Q (.ref c) H')->G.fn (A "_law_rows" "") [.ref σ.π.x,oI a] H Q X
theorem amM {xs:List Value}{rows:List (Str×Int)}(h:wK (yD H) xs rows):wK (Yo H) xs (Cg rows):=by
 induction h with
 | nil=>exact .nil
 | cons h1 _ ih=>exact .cons h1 ih
theorem amN {rows:List (Str×Int)}(h:rows.Pairwise λa b=>yS a.1 b.1=true):((Cg rows).map (·.1)).Nodup:=by
 rw[bY]
 exact dh.2 (h.imp λ{a b} q z=>by
  have z:a.1=b.1:=z
  rw[z] at q
  exact QF _ _ q q)
theorem amO (F:xu G A)(N:GF G A)(h:wX A H σ s)(w:SW R s)(hR:R<=100){a:Option Int}(ha:There s.bs a)(q:∀ c H',Kp [] H H'->H' c=some (.Ah (Cg (yh s.bs a)))->Q (.ref c) H'):yq G ["_law_pile","_law_box"] Vy [.ref σ.π.x,oI a] H Q X:=by
 refine yC rfl ?_
 cases a with
 | none=>exact Dk (acF (GC (v:=.none) (wH rfl) rfl)) (zm (Ay (yR λc hc=>q c _ (wW hc _) (Hp.wQ _ _ _))))
 | some b =>
  obtain⟨c,hc⟩:=ha b rfl
  rw[(Ju hc).2] at q
  obtain⟨bvs,p,-⟩:=id h.p.ex
  have hz:∀ rows,c=.br rows->rows.length<=sizeLine:=λrows e=>by cases e;exact zy ((w.short (aj hR (by decide))) _ _ hc)
  refine Fi (GC (v:=.int b 0) (t:=false) (wH rfl) rfl _ _ (Hz (zf (zf (yx (wH rfl) p.i p.n (by nest_cls) (by rfl) (w6 (wH (v:=.int b 0) rfl) xM) (N h.p hc hz λv H1 hv k1 uu=>xO wI ?_))))))
  cases c with
  | leaf m =>
   obtain⟨t0,rfl,h0⟩:=hv
   exact Fe (o:=.tup) h0 (by decide) rfl (xO wI (aeI (decide_eq_true rfl) (Mw (zm (Ay (yR λc hc=>q c _ (k1.trans (wW hc _)) (Hp.wQ _ _ _)))))))
  | br rows =>
   obtain⟨t0,rl,xs,rfl,h0,h1,h2⟩:=hv
   refine Fe (o:=.tup) h0 (by decide) rfl (xO wI (aeI (t:=false) (by decide +kernel) (Hz (zG ?_))))
   have h':=h.yp k1
   obtain⟨bvs,p,-⟩:=id h'.p.ex
   refine zm (Dj (zf (yx (wH rfl) p.i p.n (by nest_cls) (by rfl) (w6 (wH (v:=.int b 0) rfl) xM) (N h'.p hc hz λv H2 hv k2 uu=>?_))))
   obtain⟨t1,rl,xs,rfl,h0,h1,h2⟩:=hv
   refine xO wI (Fe (o:=.tup) h0 (by decide) rfl (yr h1 ⟨Cg rows,amM h2,amN (w.ro _ _ hc).2.1,?_,λc hc=>q c _ ((k1.trans k2).trans (wW hc _)) (Hp.wQ _ _ _)⟩))
   rw[show(Cg rows).length=rows.length from aA ..]
   exact hz rows rfl
theorem aeJ {rows:List (Str×Int)}{n:Str}:(valueAt (Cg rows) n).getD j5=oI (rowOf rows n):=by
 unfold valueAt Cg rowOf
 rw[pF]
 show(jY _ (jY _ (rows.find? λr=>decide (r.1=n)))).getD j5=_
 cases rows.find? λr=>decide (r.1=n) <;> rfl
def QL (wl:Addr)(H:Hp)(v:Value)(e:Vt):Prop:=∃ t,v=.ref t/\H t=some (.list [oI e.2.1,oI e.2.2])/\t≠wl
structure Cw (σ:SA)(s:w7)(H0:Hp)(a b:Option Int)(wl:Addr)(L:List Vt)(n:Nat)(l:Loc)(H:Hp):Prop where
 k:Kp [] H0 H
 g1:l "_law_pile" = some (.ref σ.π.x)
 g2:l "_law_waiting" = some (.ref wl)
 g3:l "_law_many" = some (.int (n:Int) 0)
 w:∃ ws,H wl=some (.list ws)/\wK (QL wl H) ws L
 at_:∀ e∈L,e.2.1=wO s.bs a e.1/\e.2.2=wO s.bs b e.1
section
variable {H0:Hp}{a b:Option Int}{wl:Addr}{L:List Vt}{n:Nat}{e:Vt}
theorem QL.bt {v:Value}(h:QL wl H v e)(k:Bt wl H H'):QL wl H' v e:=by
 obtain⟨t,h1,h2,h3⟩:=h;exact⟨t,h1,k _ _ h3 h2,h3⟩
theorem Cw.kp (I:Cw σ s H0 a b wl L n l H)(k:Kp [] H H'):Cw σ s H0 a b wl L n l H':=by
 obtain⟨ws,w1,w2⟩:=I.w
 exact⟨I.k.trans k,I.g1,I.g2,I.g3,⟨ws,k.list w1,xU (λuu uu z=>z.bt k.bt) w2⟩,I.at_⟩
theorem Cw.push (I:Cw σ s H0 a b wl L n l H)(h0:H0 wl=none){v:Value}(he:QL wl H v e)(ha:e.2.1=wO s.bs a e.1/\e.2.2=wO s.bs b e.1){ws:List Value}(hw:H wl=some (.list ws)):Cw σ s H0 a b wl (L++[e]) n l (H.upd wl (.list (ws++[v]))):=by
 obtain⟨ws',w1,w2⟩:=I.w
 cases hw.symm.trans w1
 refine⟨I.k.fresh h0 _,I.g1,I.g2,I.g3,⟨_,Hp.wQ _ _ _,Ek (xU (λuu uu z=>z.bt (HN _)) w2) (.cons (he.bt (HN _)) .nil)⟩,λe' he'=>?_⟩
 rcases aR.1 he' with q | q
 ·exact I.at_ e' q
 ·rw[aC.1 q];exact ha
theorem Cw.loc (I:Cw σ s H0 a b wl L n l H){l':Loc}(g1:l' "_law_pile" = l "_law_pile")(g2:l' "_law_waiting" = l "_law_waiting")(g3:l' "_law_many" = l "_law_many"):Cw σ s H0 a b wl L n l' H:=⟨I.k,g1.trans I.g1,g2.trans I.g2,g3.trans I.g3,I.w,I.at_⟩
noncomputable def lkN:List Sm:=[.expr (.m (yc .list) Aw (.loc "_law_waiting") [.n yu [.m (yc .Ah) MJ (.loc "_law_left") [.loc "_law_name",.k .none],.m (yc .Ah) MJ (.loc "_law_right") [.loc "_law_name",.k .none]]])]
theorem w_getS {x y:Ex}{c:Addr}{kvs:List (Str×Value)}{n:Str}(hx:Ev G x l H (.ref c))(hy:Ev G y l H (.str n 0))(hc:H c=some (.Ah kvs))(q:Q ((valueAt kvs n).getD .none) H):Ex.m (yc .Ah) MJ x [y,.k .none] G l H Q X :=
 hx _ _ ⟨yr hc trivial,hy _ _ (show Cz G [.k .none] l H _ _ from yr hc ⟨_,_,rfl,n,rfl,q⟩)⟩
structure LnI (σ:SA)(s:w7)(H0 H1:Hp)(a b:Option Int)(wl:Addr)(L:List Vt)(n:Nat)(e:Vt)(l1:Loc)(ns d r:List Str)(rs:List Value)(l:Loc)(H:Hp):Prop where
 e1:ns=d++r
 e2:rs=sV r
 I:Cw σ s H0 a b wl (L++d.map (Vu s.bs e)) n l H
 k:Bt wl H1 H
 gl:∀ x:Str,x≠"_law_name"->l x=l1 x
noncomputable def lkF:Sm:=.for_ yO "_law_name" (.u MK (.b BX (.u Qj (.loc "_law_left")) (.u Qj (.loc "_law_right")))) lkN
theorem aeK {w c:Addr}{xs:List Value}{kvs:List (Str×Value)}(hw:H w=some (.list xs))(k:Bt w H H')(h:H c=some (.Ah kvs)):H' c=some (.Ah kvs):=k c _ (λz=>by rw[z,hw] at h;cases h) h
theorem Kp.all (k:Kp [] H H'){c:Addr}{o:xH}(h:H c=Option.some o):H' c=Option.some o:=k c o h (.inr aH)
theorem amP (I:Cw σ s H0 a b wl L n l H)(h0:H0 wl=none)(ha:e.2.1=wO s.bs a e.1/\e.2.2=wO s.bs b e.1){c1 c2:Addr}(g1:l "_law_left" = some (.ref c1))(g2:l "_law_right" = some (.ref c2))(h1:H c1=some (.Ah (Cg (yh s.bs e.2.1))))(h2:H c2=some (.Ah (Cg (yh s.bs e.2.2))))(hL:L.length<=2^19)(hR:∀ a,(yh s.bs a).length<=R)(Bp:R<=2000){K:QS}{XX:XS}
  (q:∀ l' H',Cw σ s H0 a b wl (L++Bo s.bs e) n l' H'->K .next l' H'):wM G [lkF] l H K XX:=by
 obtain⟨ws,w1,w2⟩:=I.w
 have dl:∀ rows,(Cg rows).length=rows.length:=λrows=>aA ..
 have km:∀ rows,(Cg rows).map (·.1)=rows.map (·.1):=λrows=>bY ..
 have z1:=aj (hR e.2.1) Bp
 have z2:=aj (hR e.2.2) Bp
 refine Mz (Dj (zf (Dj (xO (wH g1) (yr h1 ⟨by rw[dl];exact aj z1 (by decide),λd1 hd1=>Dj (xO (wH g2) (yr (Hp.Fg h2 hd1) ⟨by rw[dl];exact aj z2 (by decide),λd2 hd2=>Hy (Hp.Fg (Hp.wQ _ _ _) hd2) (Hp.wQ _ _ _) ?_ λd3 hd3=>yr (Hp.wQ _ _ _) ⟨(yh s.bs e.2.1++yh s.bs e.2.2).map (·.1),?_,?_,λts hp hm c3 hc3=>?_⟩⟩))⟩)))))
 ·rw[aA,aA,aA,aA,dl,dl];exact aj (cI z1 z2) (by decide)
 ·rw[km,km,<-aX,<-aX]
 ·rw[aA,aG];exact aj (cI z1 z2) (by decide)
 obtain rfl:ts=nms s.bs e.2.1 e.2.2:=Lf (hp.imp aeF) hm
 have kd:=(wW (M:=[]) hd1 _).trans ((wW (M:=[]) hd2 _).trans (wW (M:=[]) hd3 (.list (sV ((Cg (yh s.bs e.2.1)).map (·.1))++sV ((Cg (yh s.bs e.2.2)).map (·.1))))))
 generalize Hp.upd (Hp.upd (Hp.upd H d1 (.list (sV ((Cg (yh s.bs e.2.1)).map (·.1))))) d2 (.list (sV ((Cg (yh s.bs e.2.2)).map (·.1))))) d3 (.list (sV ((Cg (yh s.bs e.2.1)).map (·.1))++sV ((Cg (yh s.bs e.2.2)).map (·.1))))=H2 at kd hc3 ⊢
 have k3:=kd.trans (wW (M:=[]) hc3 (.list (sV (nms s.bs e.2.1 e.2.2))))
 have e3:=Hp.wQ H2 c3 (.list (sV (nms s.bs e.2.1 e.2.2)))
 generalize H2.upd c3 (.list (sV (nms s.bs e.2.1 e.2.2)))=H3 at k3 e3 ⊢
 have w3:=k3.list w1
 have nw:c3≠wl:=λz=>xr (kd.list w1) (z▸hc3)
 refine GD e3 (Ku (λrs l' H'=>∃ d r,LnI σ s H0 H3 a b wl L n e l (nms s.bs e.2.1 e.2.2) d r rs l' H') (λrs l' H' h=>?_) (λv rs l' H' h K' hK=>?_) (λl' H' h=>?_) ⟨[],_,rfl,rfl,by rw[gq,aY];exact I.kp k3,λuu uu uu h=>h,λuu uu=>rfl⟩)
 ·obtain⟨d,r,J⟩:=h
  exact J.k _ _ nw e3
 ·obtain⟨d,r,J⟩:=h
  cases r with
  | nil=>exact absurd J.e2 (λzz=>by cases zz)
  | cons m r =>
   have e2:=J.e2
   cases e2
   have gl:∀ x:Str,x≠"_law_name"->(l'.upd "_law_name" (.str m 0)) x=l x:=λx hx=>(if_neg hx).trans (J.gl x hx)
   obtain⟨ws',v1,v2⟩:=J.I.w
   have lz:ws'.length<=2^20:=by
    rw[zp v2,aG,aA]
    exact aj (cI hL (aj (aj (aF _ _) (bI ((aG (as:=d) (bs:=m::r)).symm.trans (congrArg m7 J.e1.symm)))) (aj (Z4 ..) (cI z1 z2)))) (by decide)
   have JI:=J.I.loc (l':=l'.upd "_law_name" (.str m 0)) ((gl _ (by decide +kernel)).trans (J.gl _ (by decide +kernel)).symm) ((gl _ (by decide +kernel)).trans (J.gl _ (by decide +kernel)).symm) ((gl _ (by decide +kernel)).trans (J.gl _ (by decide +kernel)).symm)
   refine Ao (Mv (wH JI.g2) v1 (Ay (xW (w_getS (wH ((gl _ (by decide +kernel)).trans g1)) (wH rfl) (aeK w3 J.k (k3.all h1)) (xW (w_getS (wH ((gl _ (by decide +kernel)).trans g2)) (wH rfl) (aeK w3 J.k (k3.all h2)) (yR ⟨ao rfl,λt ht=>?_⟩)))))))
   rw[aeJ,aeJ]
   have kt:Kp [] H' (H'.upd t (.list [oI (Bc s.bs e.2.1 m),oI (Bc s.bs e.2.2 m)])):=wW ht _
   refine Kq (kt.list v1) (zy lz) (yZ (hK.nx _ _ ⟨d++[m],r,by rw[aP];exact J.e1,rfl,?_,λc o hc h=>HN _ c o hc (kt.bt c o hc (J.k c o hc h)),gl⟩))
   rw[aX,<-aP]
   refine(JI.kp kt).push h0 ⟨t,rfl,Hp.wQ _ _ _,λz=>xr v1 (z▸ht)⟩ ?_ (kt.list v1)
   show Bc s.bs e.2.1 m=wO s.bs a (e.1++[m])/\Bc s.bs e.2.2 m=wO s.bs b (e.1++[m])
   rw[Jq,Jq,<-ha.1,<-ha.2]
   exact⟨rfl,rfl⟩
 ·obtain⟨d,r,J⟩:=h
  have e1:=J.e1
  rw[(bZ.1 J.e2.symm:r=[]),aY] at e1
  have JI:=J.I
  rw[<-e1] at JI
  exact q _ _ JI
noncomputable def lkB:List Sm:=[.asg "_law_step" (.m (yc .list) Gw (.loc "_law_waiting") []),.ite (.b Ip (.b yw (.loc "_law_step") (.k (.int 0 0))) (.b yw (.loc "_law_step") (.k (.int 1 0)))) [.asg "_law_many" (.b zB (.loc "_law_many") (.k (.int 1 0))),.asg "_law_left" (.call (.glob "_law_rows") [.loc "_law_pile",.b yw (.loc "_law_step") (.k (.int 0 0))]),.asg "_law_right" (.call (.glob "_law_rows") [.loc "_law_pile",.b yw (.loc "_law_step") (.k (.int 1 0))]),lkF] []]
theorem amQ (F:zx G A fs)(hf:has "_law_rows" fs=true)(C:Z9 G A)(h:wX A H0 σ s)(w:SW R s)(Bp:R<=100)(I:Cw σ s H0 a b wl (L++[e]) n l H)(h0:H0 wl=none)(ht:∀ e':Vt,e'.2.1=wO s.bs a e'.1/\e'.2.2=wO s.bs b e'.1->There s.bs e'.2.1/\There s.bs e'.2.2/\(e'.2.1≠e'.2.2->e'.1.length<=8))(hL:L.length<=2^19){K:QS}{XX:XS}
  (q1:e.2.1=e.2.2->∀ l' H',Cw σ s H0 a b wl L n l' H'->K .next l' H') (q2:e.2.1≠e.2.2->∀ l' H',Cw σ s H0 a b wl (L++Bo s.bs e) (n+1) l' H'->K .next l' H'):wM G lkB l H K XX:=by
 have ha:=I.at_ e (aN _ (.head _))
 obtain⟨t1,t2,-⟩:=ht e ha
 obtain⟨ws,w1,w20⟩:=I.w
 obtain⟨ws,v,rfl,w2,⟨t,rfl,et,nt⟩⟩:=Vv w20
 refine xX (Tc (wH I.g2) w1 (by rw[aG,zp w2];exact aj (bw hL 1) (by decide)) jH ?_)
 rw[lR]
 have J:Cw σ s H0 a b wl L n (l.upd "_law_step" (.ref t)) (H.upd wl (.list ws)):=⟨I.k.fresh h0 _,I.g1,I.g2,I.g3,⟨ws,Hp.wQ _ _ _,xU (λuu uu z=>z.bt (HN _)) w2⟩,λe' he'=>I.at_ e' (aZ _ he')⟩
 have et:=HN (w:=wl) (.list ws) t _ nt et
 generalize H.upd wl (.list ws)=H1 at J et ⊢
 refine CV (b:=!decide (e.2.1=e.2.2)) (SX (xQ (wH rfl) wI et (by decide) rfl) (xQ (wH rfl) wI et (by decide) rfl) rfl) (λhb=>?_) λhb=>zG (yZ (q1 (of_decide_eq_true (by rw[<-qu];exact hb)) _ _ J))
 refine Gi (v:=.int ((n+1:Nat):Int) 0) (Bw (wH J.g3) wI) ?_
 refine xX (w_call (Am (F.fn hf).1) (F.fn hf).2 (w6 (wH J.g1) (w6 (xQ (wH rfl) wI et (by decide) rfl) xM)) (C (h.yp J.k) w Bp t1 λc1 H2 k2 a1=>?_))
 refine xX (w_call (Am (F.fn hf).1) (F.fn hf).2 (w6 (wH J.g1) (w6 (xQ (wH rfl) wI (k2.list et) (by decide) rfl) xM)) (C ((h.yp J.k).yp k2) w Bp t2 λc2 H3 k3 a2=>?_))
 have J2:=J.kp (k2.trans k3)
 exact amP (n:=n+1) (H0:=H0) (l:=(((l.upd "_law_step" (.ref t)).upd "_law_many" (.int ((n+1:Nat):Int) 0)).upd "_law_left" (.ref c1)).upd "_law_right" (.ref c2)) ⟨J2.k,J.g1,J.g2,rfl,J2.w,J2.at_⟩ h0 ha rfl rfl (k3.all a1) a2 hL (SW.Vw w) (aj Bp (by decide)) λl' H' J3=>zG (yZ (q2 (of_decide_eq_false ((gV _).mp hb):¬e.2.1=e.2.2) l' H' J3))
end
def aeL (G:Gx)(A:Ad):Prop:=∀ ⦃H:Hp⦄ ⦃σ:SA⦄ ⦃s:w7⦄,wX A H σ s->∀ ⦃R:Nat⦄ ⦃Ps:List (List Str)⦄,SW R s->UP Ps s->R<=100->Ps.length<=100->∀ ⦃b c:Int⦄,b∈s.roots->c∈s.roots->∀ ⦃Q:QV⦄ ⦃X:XV⦄,(∀ H',Kp [] H H'->Q (.int ((vis s.bs 9 ([],some b,some c)).length:Int) 0) H')->G.fn (A "_law_looked" "") [.ref σ.π.x,.int b 0,.int c 0] H Q X
theorem amR (F:zx G A fs)(hf:has "_law_rows" fs=true)(C:Z9 G A)(h:wX A H σ s){Ps:List (List Str)}(w:SW R s)(U:UP Ps s)(hR:R<=100)(hP:Ps.length<=100){b c:Int}(rb:b∈s.roots)(rc:c∈s.roots)(q:∀ H',Kp [] H H'->Q (.int ((vis s.bs 9 ([],some b,some c)).length:Int) 0) H'):yq G ["_law_pile","_law_one","_law_other"] Vz [.ref σ.π.x,.int b 0,.int c 0] H Q X:=by
 have e0:Cd s.bs [([],some b,some c)]=vis s.bs 9 ([],some b,some c):=(QH [] _).trans (aY _)
 refine yC rfl (xX (Ay (xW (Di (w6 (wH rfl) (w6 (wH rfl) xM)) (ao rfl) λt ht=>yR ⟨ao rfl,λwl hwl=>Gi wI ?_⟩))))
 have k1:Kp [] H (H.upd t (.list [.int b 0,.int c 0])):=wW ht _
 have e1:(H.upd t (.list [.int b 0,.int c 0])) t=some (.list [.int b 0,.int c 0]):=Hp.wQ _ _ _
 generalize H.upd t (.list [.int b 0,.int c 0])=H1 at k1 e1 hwl ⊢
 have k2:Kp [] H1 (H1.upd wl (.list [.ref t])):=wW hwl _
 have w0:=k1.Az hwl
 have th:=Z8 w U (Bd rb) (Bd rc)
 refine Z7 (λL V l H'=>Cw σ s H (some b) (some c) wl L V.length l H') (SW.Vw w) hR (aj (U.Vh (Bd rb) (Bd rc)) (dg 9 hP):(vis s.bs 9 ([],some b,some c)).length<=900) (λL V l H' I K hK=>?_) (λL e V l H' I hb=>(th e (I.at_ e (aN _ (.head _)))).2.2 hb) (λL e V l H' I lz vz uu K k1 k2=>?_) (λl' H' I=>zT (wH I.g3) (q _ I.k)) (e0:=([],some b,some c)) e0.symm ⟨k1.trans k2,rfl,rfl,rfl,⟨_,Hp.wQ _ _ _,.cons ⟨t,rfl,k2.list e1,λz=>xr e1 (z▸hwl)⟩ .nil⟩,λe he=>?_⟩
 ·obtain⟨ws,w1,w2⟩:=I.w
  refine Qa (wH I.g2) w1 λd hd=>?_
  have:=hK _ (I.kp (wW hd (.list [])))
  cases w2 with
  | nil=>exact this
  | cons _ _=>exact this
 ·refine amQ F hf C h w hR I w0 th lz (λhb l' H' J=>(k1 hb l' H' J).1) λhb l' H' J=>k2 hb l' H' ?_
  rw[aG];exact J
 ·rw[aC.1 he];exact⟨rfl,rfl⟩
def Jw (H:Hp)(v:Value)(e:Vt):Prop:=∃ t p b,v=.ref t/\H t=some (.tup [.ref p,.int b 0])/\H p=some (.tup (sV e.1))/\e.2=(some b,none)
structure Ab (H:Hp)(c:Addr)(F:List (List Str×Int))(kvs:Fj):Prop where
 at_:H c=some (.Ai kvs)
 k:Qi H kvs
 f:kvs.map (λx=>(x.1,x.2.2))=F.map λx=>(x.1,cL x.2 0)
structure Fx (σ:SA)(s:w7)(H0:Hp)(b:Int)(c:Addr)(L:List Vt)(F:List (List Str×Int))(l:Loc)(H:Hp):Prop where
 k:Kp [] H0 H
 g1:l "_law_pile" = some (.ref σ.π.x)
 g3:l "_law_seen" = some (.ref c)
 w:∃ wl ws,l "_law_waiting" = some (.ref wl)/\H wl=some (.list ws)/\H0 wl=none/\wK (Jw H) ws L
 d:∃ kvs,Ab H c F kvs
 at_:∀ e∈L,e.2.1=wO s.bs (some b) e.1/\e.2.2=wO s.bs none e.1
section
variable {H0:Hp}{b:Int}{c:Addr}{L:List Vt}{F:List (List Str×Int)}{e:Vt}
theorem Jw.kp {M:List Addr}{v:Value}(k:Kp M H H')(h:Jw H v e):Jw H' v e:=by
 obtain⟨t,p,b,h1,h2,h3,h4⟩:=h;exact⟨t,p,b,h1,k.tup h2,k.tup h3,h4⟩
theorem Ab.kp {kvs:Fj}(k:Kp [] H H')(h:Ab H c F kvs):Ab H' c F kvs:=⟨k.all h.at_,λx hx=>k.tup (h.k x hx),h.f⟩
theorem Fx.kp (I:Fx σ s H0 b c L F l H)(k:Kp [] H H'):Fx σ s H0 b c L F l H':=by
 obtain⟨wl,ws,w0,w1,w2,w3⟩:=I.w
 obtain⟨kvs,d⟩:=I.d
 exact⟨I.k.trans k,I.g1,I.g3,⟨wl,ws,w0,k.list w1,w2,xU (λuu uu z=>z.kp k) w3⟩,⟨kvs,d.kp k⟩,I.at_⟩
noncomputable def lvB:List Sm:=[.asg "_law_step" (.m (yc .list) Gw (.loc "_law_waiting") []),.asg "_law_inside" (.meth (.loc "_law_pile") "content" [.b wR (.loc "_law_step") (.k (.int 1 0))]),.ite (.b FZ (.b wR (.loc "_law_inside") (.k (.int 0 0))) (.k (.str "leaf" 0))) [.Eu Ti (.loc "_law_seen") (.b wR (.loc "_law_step") (.k (.int 0 0))) (.b wR (.loc "_law_inside") (.k (.int 1 0)))] [.asg "_law_waiting" (.b BX (.loc "_law_waiting") (.comp yO (.n zu [.b RW (.b wR (.loc "_law_step") (.k (.int 0 0))) (.n zu [.b wR (.loc "_law_pair") (.k (.int 0 0))]),.b wR (.loc "_law_pair") (.k (.int 1 0))]) "_law_pair" (.b wR (.loc "_law_inside") (.k (.int 1 0))) none))]]
theorem Ab.none {kvs:Fj}(h:Ab H c F kvs){p:List Str}(hp:∀ x∈F,x.1≠p):atKey kvs p=oE:=by
 unfold atKey
 rw[jr,kE]
 intro x hx e
 obtain⟨y,hy,q⟩:=aO.1 (h.f▸aO.2 ⟨x,hx,rfl⟩:(x.1,x.2.2)∈F.map λx=>(x.1,cL x.2 0))
 injection q with q1 _
 exact hp y hy (q1.trans (of_decide_eq_true e))
theorem Ab.get {kvs:Fj}(h:Ab H c F kvs)(p:List Str):((atKey kvs p).map (·.2)).getD j5=oI ((F.find? λx=>decide (x.1=p)).map (·.2)):=by
 have f:=h.f
 clear h
 unfold atKey
 induction kvs generalizing F with
 | nil=>cases F with
  | nil=>rfl
  | cons y F=>cases f
 | cons x kvs ih =>
  cases F with
  | nil=>cases f
  | cons y F =>
   rw[bJ,bJ] at f
   injection f with f1 f2
   injection f1 with f3 f4
   rw[jA,jA]
   by_cases e:y.1=p
   ·rw[decide_eq_true e,decide_eq_true (show x.1=p from f3.trans e)];exact f4
   ·rw[decide_eq_false e,decide_eq_false (show ¬x.1=p from λz=>e (f3.symm.trans z))];exact ih f2
theorem amS {f:Lq}{o i e:Ex}{ov iv v:Value}{r:List Sm}{Q:QS}{X:XS}(he:Ev G e l H v)(ho:Ev G o l H ov)(hi:Ev G i l H iv)(q:f ov iv v H λH'=>wM G r l H' Q X):wM G (.Eu f o i e::r) l H Q X:=he _ _ (ho _ _ (hi _ _ q))
theorem Ab.upd {kvs:Fj}(h:Ab H c F kvs){w:Addr}{xs:List Value}(hw:H w=some (.list xs))(o:xH):Ab (H.upd w o) c F kvs :=
 ⟨(Hp.xJ _ _ λz=>by have:=h.at_;rw[z,hw] at this;cases this).trans h.at_,λx hx=>(Hp.xJ _ _ λz=>by have:=h.k x hx;rw[z,hw] at this;cases this).trans (h.k x hx),h.f⟩
theorem Jw.upd {v:Value}(h:Jw H v e){w:Addr}{o':xH}(hw:H w=some o')(hn:∀ xs,o'≠.tup xs)(o:xH):Jw (H.upd w o) v e:=by
 obtain⟨t,p,b,h1,h2,h3,h4⟩:=h
 exact⟨t,p,b,h1,(Hp.xJ _ _ (yK h2 hw λz=>hn _ z.symm)).trans h2,(Hp.xJ _ _ (yK h3 hw λz=>hn _ z.symm)).trans h3,h4⟩
theorem amT (I:Fx σ s H0 b c L F l H)(c0:H0 c=none){t p t1:Addr}{b' m:Int}(g1:l "_law_step" = some (.ref t))(g2:l "_law_inside" = some (.ref t1))(et:H t=some (.tup [.ref p,.int b' 0]))(ep:H p=some (.tup (sV e.1)))(e1:H t1=some (.tup [.str (eO "leaf") 0,.int m 0]))(hd:∀ x∈F,x.1≠e.1)(hF:F.length<=900){K:QS}{XX:XS}
  (q:∀ H',Fx σ s H0 b c L (F++[(e.1,m)]) l H'->K .next l H'):wM G [.Eu Ti (.loc "_law_seen") (.b wR (.loc "_law_step") (.k (.int 0 0))) (.b wR (.loc "_law_inside") (.k (.int 1 0)))] l H K XX:=by
 obtain⟨kvs,d⟩:=I.d
 obtain⟨wl,ws,w0,w1,w2,w3⟩:=I.w
 have kl:kvs.length<=sizeLine:=by
  have:=congrArg m7 d.f
  rw[aA,aA] at this
  rw[this];exact aj hF (by decide)
 refine amS (xQ (wH g2) wI e1 (by decide) rfl) (wH I.g3) (xQ (wH g1) wI et (by decide) rfl) (yr d.at_ ⟨p,e.1,rfl,ep,d.k,d.none hd,kl,yZ (q _ ⟨I.k.fresh c0 _,I.g1,I.g3,⟨wl,ws,w0,(Hp.xJ _ _ (yK w1 d.at_ (λzz=>by cases zz))).trans w1,w2,xU (λuu uu z=>z.upd d.at_ (λuu zz=>by cases zz) _) w3⟩,⟨_,Hp.wQ _ _ _,λx hx=>?_,?_⟩,I.at_⟩)⟩)
 ·have tp:∀ {a xs},H a=some (.tup xs)->(H.upd c (.Ai (kvs++[(e.1,p,.int m 0)]))) a=some (.tup xs):=λ{a xs} h=>(Hp.xJ _ _ (yK h d.at_ (λzz=>by cases zz))).trans h
  rcases aR.1 hx with hx | hx
  ·exact tp (d.k x hx)
  ·rw[aC.1 hx];exact tp ep
 ·rw[aX,aX,d.f];rfl
structure LcI (H0:Hp)(p:List Str)(rs acc:List Value)(H:Hp)(done rest:List (Str×Int)):Prop where
 k:Kp [] H0 H
 r:wK (yD H) rs rest
 a:wK (Jw H) acc (done.map λr=>(p++[r.1],some r.2,none))
theorem amU (I:Fx σ s H0 b c L F l H){t p t1 rl:Addr}{b':Int}{rows:List (Str×Int)}{xs:List Value}(g1:l "_law_step" = some (.ref t))(g2:l "_law_inside" = some (.ref t1))(et:H t=some (.tup [.ref p,.int b' 0]))(ep:H p=some (.tup (sV e.1)))(e1:H t1=some (.tup [.str (eO "branch") 0,.ref rl]))(e2:H rl=some (.list xs))(hr:wK (yD H) xs rows)(hz:rows.length<=100)(h8:e.1.length<=8)(hL:L.length<=2^19)
  (hat:∀ r∈rows,some r.2=wO s.bs (some b) (e.1++[r.1])) {K:QS} {XX:XS}
  (q:∀ l' H',Fx σ s H0 b c (L++rows.map λr=>(e.1++[r.1],some r.2,none)) F l' H'->K .next l' H'):wM G [.asg "_law_waiting" (.b BX (.loc "_law_waiting") (.comp yO (.n zu [.b RW (.b wR (.loc "_law_step") (.k (.int 0 0))) (.n zu [.b wR (.loc "_law_pair") (.k (.int 0 0))]),.b wR (.loc "_law_pair") (.k (.int 1 0))]) "_law_pair" (.b wR (.loc "_law_inside") (.k (.int 1 0))) none))] l H K XX:=by
 obtain⟨wl,ws,w0,w1,w2,w3⟩:=I.w
 refine xX (zf (xO (wH w0) (Yk (λrs acc H'=>∃ done rest,rows=done++rest/\LcI H e.1 rs acc H' done rest) (xQ (wH g2) wI e1 (by decide) rfl) e2 (by rw[zp hr];exact aj hz (by decide)) (λrs acc H' h=>?_) (λv rs acc H' h K' hK=>?_) ⟨[],rows,rfl,Kp.refl _ _,hr,.nil⟩ λacc H' h c2 hc2=>?_)))
 ·obtain⟨_,_,_,J⟩:=h
  exact J.k.list e2
 ·obtain⟨done,rest,er,J⟩:=h
  have Jr:=J.r
  cases Jr with
  | @cons _ row _ rest hv hrs =>
  obtain⟨a,rfl,ha⟩:=hv
  refine Ay (xW (zf (xO (xQ (wH g1) wI (J.k.tup et) (by decide) rfl) (Mu (w6 (xQ (wH rfl) wI ha (by decide) rfl) xM) (ao rfl) λc1 hc1=>yr (Hp.Fg (J.k.tup ep) hc1) (yr (Hp.wQ _ _ _) ⟨?_,?_⟩)))))
  ·rw[aA];exact aj (bw h8 1) (by decide)
  have k1:Kp [] H' (H'.upd c1 (.tup [.str row.1 0])):=wW hc1 _
  rw[aeE]
  generalize H'.upd c1 (.tup [.str row.1 0])=H1 at k1 ⊢
  have fin:∀ c3 H3,Kp [] H1 H3->H3 c3=some (.tup (sV (e.1++[row.1])))->Cz G [.b wR (.loc "_law_pair") (.k (.int 1 0))] (ca l "_law_pair" (.ref a)) H3 (λvs H2=>zu (.ref c3::vs) H2 K') (λuu uu=>False):=λc3 H3 k3 e3=>by
   have k13:=k1.trans k3
   refine xW (xO (xQ (wH rfl) wI (k13.tup ha) (by decide) rfl) (yR ⟨ao rfl,λc4 hc4=>hK _ _ ⟨done++[row],rest,by rw[aP];exact er,?_⟩⟩))
   have k4:Kp [] H3 (H3.upd c4 (.tup [.ref c3,.int row.2 0])):=wW hc4 _
   have k14:=k13.trans k4
   refine⟨J.k.trans k14,xU (λuu uu z=>yD.kp k14 z) hrs,?_⟩
   rw[aX]
   exact Ek (xU (λuu uu z=>z.kp k14) J.a) (.cons ⟨c4,c3,row.2,rfl,Hp.wQ _ _ _,k4.tup e3,rfl⟩ .nil)
  exact⟨λc3 hc3=>fin c3 _ (wW hc3 _) (Hp.wQ _ _ _),λc3 hc3=>fin c3 _ (Kp.refl _ _) hc3⟩
 ·obtain⟨done,rest,er,J⟩:=h
  have Jr:=J.r
  cases Jr
  rw[aY] at er
  subst er
  have k2:Kp [] H' (H'.upd c2 (.list acc)):=wW hc2 _
  have k02:=J.k.trans k2
  refine Hy (k02.list w1) (Hp.wQ _ _ _) ?_ λw4 hw4=>yZ (q _ _ ?_)
  ·rw[zp w3];exact aj (cI hL (show acc.length<=100 from by rw[zp J.a,aA];exact hz)) (by decide)
  ·have k4:=k2.trans (wW (M:=[]) hw4 (.list (ws++acc)))
   have I4:=I.kp (J.k.trans k4)
   exact⟨I4.k,I.g1,I.g3,⟨w4,_,rfl,Hp.wQ _ _ _,I.k.Az (k02.Az hw4),Ek (xU (λuu uu z=>z.kp (J.k.trans k4)) w3) (xU (λuu uu z=>z.kp k4) J.a)⟩,I4.d,λe' he'=>by
    rcases aR.1 he' with z | z
    ·exact I.at_ e' z
    ·obtain⟨r,hr,rfl⟩:=aO.1 z
     exact⟨hat r hr,(Fw _).symm⟩⟩
theorem amV {p:List Str}{b' m:Int}(h:get s.bs b'=some (.leaf m)):Bo s.bs (p,some b',none)=[]:=by
 unfold Bo nms
 rw[show yh s.bs (some b')=[] from(Ju h).2,show yh s.bs none=[] from rfl]
 rfl
theorem amW (FE:xu G A)(N:GF G A)(h:wX A H0 σ s)(w:SW R s)(hR:R<=100)(I:Fx σ s H0 b c (L++[e]) F l H)(c0:H0 c=none)(hth:There s.bs e.2.1)(h8:e.1.length<=8)(hd:∀ x∈F,x.1≠e.1)(hL:L.length<=2^19)(hF:F.length<=900){K:QS}{XX:XS}
  (q:∀ l' H',Fx σ s H0 b c (L++Bo s.bs e) (F++(K4 s.bs e).toList) l' H'->K .next l' H'):wM G lvB l H K XX:=by
 obtain⟨wl,ws,w0,w1,w2,w30⟩:=I.w
 obtain⟨ws,v,rfl,w3,⟨t,p,b',rfl,et,ep,e2⟩⟩:=Vv w30
 obtain⟨kvs,d⟩:=I.d
 have ha:=I.at_ e (aN _ (.head _))
 refine xX (Tc (wH w0) w1 (by rw[aG,zp w3];exact aj (bw hL 1) (by decide)) jH ?_)
 rw[lR]
 have J:Fx σ s H0 b c L F (l.upd "_law_step" (.ref t)) (H.upd wl (.list ws)):=⟨I.k.fresh w2 _,I.g1,I.g3,⟨wl,ws,w0,Hp.wQ _ _ _,w2,xU (λuu uu z=>z.upd w1 (λuu zz=>by cases zz) _) w3⟩,⟨kvs,d.upd w1 _⟩,λe' he'=>I.at_ e' (aZ _ he')⟩
 have et:=(Hp.xJ H (.list ws) (yK et w1 (λzz=>by cases zz))).trans et
 have ep:=(Hp.xJ H (.list ws) (yK ep w1 (λzz=>by cases zz))).trans ep
 generalize H.upd wl (.list ws)=H1 at J et ep ⊢
 obtain⟨p0,e3⟩:=e
 cases (show e3=_ from e2)
 obtain⟨ct,hc⟩:=hth b' rfl
 have h1:=h.yp J.k
 obtain⟨bvs,pp,-⟩:=id h1.p.ex
 refine xX (yx (wH J.g1) pp.i pp.n (by nest_cls) (by rfl) (w6 (xQ (wH rfl) wI et (by decide) rfl) xM) (N h1.p hc (λrows z=>by cases z;exact aj (w.ro _ _ hc).1 (aj hR (by decide))) λv H2 hv k2 uu=>?_))
 have J2:Fx σ s H0 b c L F ((l.upd "_law_step" (.ref t)).upd "_law_inside" v) H2:=have z:=J.kp k2;⟨z.k,J.g1,J.g3,z.w,z.d,z.at_⟩
 cases ct with
 | leaf m =>
  obtain⟨t1,rfl,e1⟩:=hv
  refine Dk (Hx (xQ (wH rfl) wI e1 (by decide) rfl) wI (decide_eq_true rfl)) (amT (e:=(p0,some b',none)) J2 c0 rfl rfl (k2.tup et) (k2.tup ep) e1 hd hF λH' J3=>zG (yZ (q _ _ ?_)))
  rw[amV hc,aY,show K4 s.bs (p0,some b',none)=some (p0,m) from by unfold K4;rw[show xq s.bs (some b')=some m from(Ju hc).1];rfl]
  exact J3
 | br rows =>
  obtain⟨t1,rl,xs,rfl,e1,e4,hr⟩:=hv
  have rs:=(w.ro _ _ hc).2.1
  refine acL (Hx (xQ (wH rfl) wI e1 (by decide) rfl) wI (by decide +kernel)) (amU (e:=(p0,some b',none)) J2 rfl rfl (k2.tup et) (k2.tup ep) e1 e4 hr (aj (w.ro _ _ hc).1 hR) h8 hL (λr hm=>?_) λl' H' J3=>zG (yZ (q _ _ ?_)))
  ·rw[Jq,<-show some b'=wO s.bs (some b) p0 from ha.1]
   show some r.2=rowOf (yh s.bs (some b')) r.1
   rw[show yh s.bs (some b')=rows from(Ju hc).2,ZP rs hm]
  ·rw[al5 hc rs,show K4 s.bs (p0,some b',none)=none from by unfold K4;rw[show xq s.bs (some b')=none from(Ju hc).1];rfl,pW,aY]
   exact J3
end
def aeM (G:Gx)(A:Ad):Prop:=∀ ⦃H:Hp⦄ ⦃σ:SA⦄ ⦃s:w7⦄,wX A H σ s->∀ ⦃R:Nat⦄ ⦃Ps:List (List Str)⦄,SW R s->UP Ps s->R<=100->Ps.length<=100->∀ ⦃b:Int⦄,b∈s.roots->∀ ⦃Q:QV⦄ ⦃X:XV⦄,(∀ c kvs H',Kp [] H H'->Ab H' c (Jt s.bs (vis s.bs 9 ([],some b,none))) kvs->Q (.ref c) H')->G.fn (A "_law_leaves" "") [.ref σ.π.x,.int b 0] H Q X
theorem amX (FE:xu G A)(N:GF G A)(h:wX A H σ s){Ps:List (List Str)}(w:SW R s)(U:UP Ps s)(hR:R<=100)(hP:Ps.length<=100){b:Int}(rb:b∈s.roots)(q:∀ c kvs H',Kp [] H H'->Ab H' c (Jt s.bs (vis s.bs 9 ([],some b,none))) kvs->Q (.ref c) H'):yq G ["_law_pile","_law_top"] VB [.ref σ.π.x,.int b 0] H Q X:=by
 have rn:Root s none:=λuu z=>(by cases z)
 have e0:Cd s.bs [([],some b,none)]=vis s.bs 9 ([],some b,none):=(QH [] _).trans (aY _)
 have th:=Z8 w U (Bd rb) rn
 refine yC rfl (xX (Ay (xW (Ay (xW (Mu xM (ao rfl) λp hp=>xW (xO (wH rfl) (yR ⟨ao rfl,λt ht=>yR ⟨ao rfl,λwl hwl=>?_⟩⟩))))))))
 have k1:Kp [] H (H.upd p (.tup [])):=wW hp _
 have e1:(H.upd p (.tup [])) p=some (.tup (sV [])):=Hp.wQ _ _ _
 generalize H.upd p (.tup [])=H1 at k1 e1 ht hwl ⊢
 have k2:Kp [] H1 (H1.upd t (.tup [.ref p,.int b 0])):=wW ht _
 have e2:(H1.upd t (.tup [.ref p,.int b 0])) t=some (.tup [.ref p,.int b 0]):=Hp.wQ _ _ _
 have e1:=k2.tup e1
 generalize H1.upd t (.tup [.ref p,.int b 0])=H2 at k2 e1 e2 hwl ⊢
 have k3:Kp [] H2 (H2.upd wl (.list [.ref t])):=wW hwl _
 have e3:(H2.upd wl (.list [.ref t])) wl=some (.list [.ref t]):=Hp.wQ _ _ _
 have e1:=k3.tup e1
 have e2:=k3.tup e2
 generalize H2.upd wl (.list [.ref t])=H3 at k3 e1 e2 e3 ⊢
 refine xX (Ay (yR λc hc=>?_))
 have k4:Kp [] H3 (H3.upd c (.Ai [])):=wW hc _
 have c0:=(k1.trans k2).Az (k3.Az hc)
 refine Z7 (λL V l H'=>Fx σ s H b c L (Jt s.bs V) l H') (SW.Vw w) hR (aj (U.Vh (Bd rb) rn) (dg 9 hP):(vis s.bs 9 ([],some b,none)).length<=900) (λL V l H' I K hK=>?_) (λL e V l H' I hb=>(th e (I.at_ e (aN _ (.head _)))).2.2 hb) (λL e V l H' I lz vz hV K k1 k2=>?_) (λl' H' I=>?_) (e0:=([],some b,none)) e0.symm ⟨(k1.trans k2).trans (k3.trans k4),rfl,rfl,⟨wl,_,rfl,k4.list e3,(k1.trans k2).Az hwl,.cons ⟨t,p,b,rfl,k4.tup e2,k4.tup e1,rfl⟩ .nil⟩,⟨[],Hp.wQ _ _ _,λx hx=>absurd hx aH,rfl⟩,λe he=>?_⟩
 ·obtain⟨wl,ws,w0,w1,w2,w3⟩:=I.w
  refine Qa (wH w0) w1 λd hd=>?_
  have:=hK _ (I.kp (wW hd (.list [])))
  cases w3 with
  | nil=>exact this
  | cons _ _=>exact this
 ·skip
  have hb:e.2.1≠e.2.2:=by
   obtain⟨wl,ws,_,_,_,w3⟩:=I.w
   obtain⟨_,_,_,_,⟨_,_,b',_,_,_,z⟩⟩:=Vv w3
   rw[z];exact(λzz=>by cases zz)
  obtain⟨t1,-,t3⟩:=th e (I.at_ e (aN _ (.head _)))
  obtain⟨V',eV,hV'⟩:=hV
  obtain⟨V'',rfl⟩:=hV' hb
  refine amW FE N h w hR I c0 t1 (t3 hb) (λx hx z=>?_) lz (aj (iY ..) vz) λl' H' J=>k2 hb l' H' ?_
  ·obtain⟨y,hy,e'⟩:=kj.1 hx
   have nd:=ZG (bs:=s.bs) (d:=9) (e:=([],some b,none))
   rw[eV] at nd
   exact(bN.1 nd).2.2 y hy e (.head _) ((aes e').1.symm.trans z)
  ·unfold Jt;rw[Z6];exact J
 ·obtain⟨kvs,d⟩:=I.d
  exact zT (wH I.g3) (q c kvs _ I.k d)
 ·rw[aC.1 he];exact⟨rfl,rfl⟩
end
noncomputable def QM:List Sm:=[.ite (.or (.not (.u (Ge .tup) (.loc "_law_seen"))) (.or (.b O4 (.u R0 (.loc "_law_seen")) (.k (.int 2 0))) (.not (.call (.glob "_law_count") [.b wR (.loc "_law_seen") (.k (.int 1 0)),.loc "_law_looked_here"])))) [.ret (.k (.bool false))] [],.ite (.or (.not (.u (Ge .list) (.b wR (.loc "_law_seen") (.k (.int 0 0))))) (.b O4 (.u CJ (.b wR (.loc "_law_seen") (.k (.int 0 0)))) (.u CJ (.loc "_law_due")))) [.ret (.k (.bool false))] [],.for_ itR "_law_k" (.u CK (.u CJ (.loc "_law_due"))) [.asg "_law_row" (.b yw (.b wR (.loc "_law_seen") (.k (.int 0 0))) (.loc "_law_k")),.ite (.or (.not (.u (Ge .tup) (.loc "_law_row"))) (.or (.b O4 (.u R0 (.loc "_law_row")) (.k (.int 3 0))) (.or (.not (.u (Ge .list) (.b wR (.loc "_law_row") (.k (.int 0 0))))) (.b neT (.u W5 (.b wR (.loc "_law_row") (.k (.int 0 0)))) (.b wR (.b yw (.loc "_law_due") (.loc "_law_k")) (.k (.int 0 0))))))) [.ret (.k (.bool false))] [],.for_ yO "_law_at" (.n yu [.k (.int 1 0),.k (.int 2 0)]) [.ite (.and (.b Df (.b wR (.b yw (.loc "_law_due") (.loc "_law_k")) (.loc "_law_at")) (.k .none)) (.b LC (.b wR (.loc "_law_row") (.loc "_law_at")) (.k .none))) [.ret (.k (.bool false))] [],.ite (.and (.b LC (.b wR (.b yw (.loc "_law_due") (.loc "_law_k")) (.loc "_law_at")) (.k .none)) (.not (.call (.glob "_law_count") [.b wR (.loc "_law_row") (.loc "_law_at"),.b wR (.b yw (.loc "_law_due") (.loc "_law_k")) (.loc "_law_at")]))) [.ret (.k (.bool false))] []]],.ret (.k (.bool true))]
section
variable {A:Ad}{G:Gx}{l:Loc}{H H':Hp}{Q:QV}{X:XV}{fs:List Str}
theorem amY {t f:Prop}(q:f):zL (.bool true) λb=>zL (.bool (!b)) λb=>if b=true then t else f:=q
theorem QT {x y:Ex}(hx:Ev G x l H (.bool false))(q:y G l H Q X):Ex.or x y G l H Q X:=hx _ X q
def Bx (H:Hp)(v:Value)(e:Vt):Prop:=∃ a p,v=.ref a/\H a=some (.tup [.ref p,oI e.2.1,oI e.2.2])/\H p=some (.tup (sV e.1))
theorem Bx.kp {M:List Addr}{v:Value}{e:Vt}(k:Kp M H H')(h:Bx H v e):Bx H' v e:=by
 obtain⟨a,p,h1,h2,h3⟩:=h;exact⟨a,p,h1,k.tup h2,k.tup h3⟩
structure HS (H:Hp)(t sl dl:Addr)(n:Nat)(zs ys:List Value)(D:List Vt):Prop where
 ht:H t=some (.tup [.ref sl,.int (n:Int) 0])
 hs:H sl=some (.list zs)
 hd:H dl=some (.list ys)
 z:wK (z6 (λuu=>True) H) zs D
 y:wK (Bx H) ys D
theorem HS.kp {t sl dl:Addr}{n:Nat}{zs ys:List Value}{D:List Vt}(T:HS H t sl dl n zs ys D)(k:Kp [] H H'):HS H' t sl dl n zs ys D :=
 ⟨k.tup T.ht,k.list T.hs,k.list T.hd,xU (λuu uu z=>z.kp k) T.z,xU (λuu uu z=>z.kp k) T.y⟩
noncomputable def VD:Ex:=.b wR (.b yw (.loc "_law_due") (.loc "_law_k")) (.loc "_law_at")
noncomputable def rAt:Ex:=.b wR (.loc "_law_row") (.loc "_law_at")
noncomputable def toA:List Sm:=[.ite (.and (.b Df VD (.k .none)) (.b LC rAt (.k .none))) [.ret (.k (.bool false))] [],.ite (.and (.b LC VD (.k .none)) (.not (.call (.glob "_law_count") [rAt,VD]))) [.ret (.k (.bool false))] []]
theorem aeN (F:zx G A fs)(hf:has "_law_count" fs=true)(C:QJ G A){x:Option Int}(hd:Ev G VD l H (oI x))(hr:Ev G rAt l H (oI x)){K:QS}{XX:XS}(q:K .next l H):wM G toA l H K XX:=by
 cases x with
 | none=>exact zW (acE (GC hd rfl) (SQ (t:=true) hr rfl rfl)) (zW (S9 (SQ (t:=true) hd rfl rfl)) (yZ q))
 | some i=>exact zW (S9 (GC (t:=false) hd rfl)) (Fi (Yb (SQ (t:=false) hd rfl rfl) (X8 (w_call (Am (F.fn hf).1) (F.fn hf).2 (w6 hr (w6 hd xM)) (C q)))))
noncomputable def toB:List Sm:=[.asg "_law_row" (.b yw (.b wR (.loc "_law_seen") (.k (.int 0 0))) (.loc "_law_k")),.ite (.or (.not (.u (Ge .tup) (.loc "_law_row"))) (.or (.b O4 (.u R0 (.loc "_law_row")) (.k (.int 3 0))) (.or (.not (.u (Ge .list) (.b wR (.loc "_law_row") (.k (.int 0 0))))) (.b neT (.u W5 (.b wR (.loc "_law_row") (.k (.int 0 0)))) (.b wR (.b yw (.loc "_law_due") (.loc "_law_k")) (.k (.int 0 0))))))) [.ret (.k (.bool false))] [],.for_ yO "_law_at" (.n yu [.k (.int 1 0),.k (.int 2 0)]) toA]
theorem amZ {α β γ:Type}{R:α->γ->Prop}{S:β->γ->Prop}{zs:List γ}{xs:List α}{ys:List β}(h1:wK R xs zs)(h2:wK S ys zs){i:Nat}(hi:i<ys.length):∃ x y z,xs[i]?=some x/\ys[i]?=some y/\R x z/\S y z/\z∈zs:=by
 have hi':i<zs.length:=by rw[<-zp h2];exact hi
 have hz:zs[i]?=some (zs[i]'hi'):=cB hi'
 obtain⟨x,a1,a2⟩:=U0 h1 hz
 obtain⟨y,b1,b2⟩:=U0 h2 hz
 exact⟨x,y,_,a1,b1,a2,b2,jP hi'⟩
structure AtI (H0:Hp)(l0:Loc)(rs:List Value)(l:Loc)(H:Hp):Prop where
 k:Kp [] H0 H
 gl:∀ x:Str,x≠"_law_at"->l x=l0 x
 v:∀ v∈rs,v=.int 1 0\/v=.int 2 0
theorem am0 (F:zx G A fs)(hf:has "_law_count" fs=true)(C:QJ G A){t sl dl:Addr}{n i:Nat}{zs ys:List Value}{D:List Vt}(T:HS H t sl dl n zs ys D)(hi:i<ys.length)(h8:∀ e∈D,e.1.length<=8)(g1:l "_law_seen" = some (.ref t))(g2:l "_law_due" = some (.ref dl))(g3:l "_law_k" = some (.int (i:Int) 0)){K:QS}{XX:XS}(q:∀ l' H',Kp [] H H'->l' "_law_seen" = some (.ref t)->l' "_law_due" = some (.ref dl)->K .next l' H'):wM G toB l H K XX:=by
 obtain⟨x,y,e,hx,hy,⟨r,pl,rfl,hr,hp,-⟩,⟨a,p,rfl,ha,hq⟩,he⟩:=amZ T.z T.y hi
 refine Gi (v:=.ref r) (xQ (xQ (wH g1) wI T.ht (by decide) rfl) (wH g3) T.hs (cR _) (by rw[cG];exact hx)) ?_
 have dz:∀ {l':Loc} {H1:Hp},l' "_law_due" = some (.ref dl)->l' "_law_k" = some (.int (i:Int) 0)->Kp [] H H1->Ev G (.b yw (.loc "_law_due") (.loc "_law_k")) l' H1 (.ref a):=λa1 a2 k=>xQ (wH a1) (wH a2) (k.list T.hd) (cR _) (by rw[cG];exact hy)
 refine Fi (QT (Ko (t:=true) (P0 (wH rfl) hr) rfl) (QT (Ca (Fd (wH rfl) hr) wI rfl) (QT (Ko (t:=true) (P0 (xQ (wH rfl) wI hr (by decide) rfl) hp) rfl) (zf (Dj (xO (xQ (wH rfl) wI hr (by decide) rfl) (yr hp ⟨by rw[aA];exact aj (h8 e he) (by decide),λc hc=>?_⟩)))))))
 have k1:Kp [] H (H.upd c (.tup (sV e.1))):=wW hc _
 refine xO (xQ (dz (l':=l.upd "_law_row" (.ref r)) g2 g3 k1) wI (k1.tup ha) (by decide) rfl) (yr (Hp.wQ _ _ _) (yr (k1.tup hq) ⟨e.1,rfl,rfl,Hz (zG ?_)⟩))
 generalize H.upd c (.tup (sV e.1))=H1 at k1 ⊢
 refine Mz (Di (w6 wI (w6 wI xM)) (ao rfl) λc2 hc2=>GD (Hp.wQ _ _ _) (Ku (AtI (H1.upd c2 (.list [.int 1 0,.int 2 0])) (l.upd "_law_row" (.ref r))) (λrs l' H' J=>J.k.list (Hp.wQ _ _ _)) (λv rs l' H' J K' hK=>?_) (λl' H' J=>?_) ⟨Kp.refl _ _,λuu uu=>rfl,λv hv=>(aM.1 hv).imp id λhv=>aC.1 hv⟩))
 ·have kk:=k1.trans ((wW (M:=[]) hc2 _).trans J.k)
  have gl:∀ x:Str,x≠"_law_at"->(l'.upd "_law_at" v) x=(l.upd "_law_row" (.ref r)) x:=λx hx=>(if_neg hx).trans (J.gl x hx)
  have nx:K' .next (l'.upd "_law_at" v) H':=hK.nx _ _ ⟨J.k,gl,λw hw=>J.v w (.tail _ hw)⟩
  have d1:=dz (l':=l'.upd "_law_at" v) ((gl _ (by decide +kernel)).trans g2) ((gl _ (by decide +kernel)).trans g3) kk
  have r1:Ev G (.loc "_law_row") (l'.upd "_law_at" v) H' (.ref r):=wH (gl _ (by decide +kernel))
  rcases J.v v (.head _) with rfl | rfl
  ·exact aeN F hf C (x:=e.2.1) (xQ d1 (wH rfl) (kk.tup ha) (by decide) rfl) (xQ r1 (wH rfl) (kk.tup hr) (by decide) rfl) nx
  ·exact aeN F hf C (x:=e.2.2) (xQ d1 (wH rfl) (kk.tup ha) (by decide) rfl) (xQ r1 (wH rfl) (kk.tup hr) (by decide) rfl) nx
 ·exact q _ _ (k1.trans ((wW (M:=[]) hc2 _).trans J.k)) ((J.gl _ (by decide +kernel)).trans g1) ((J.gl _ (by decide +kernel)).trans g2)
def aeO (G:Gx)(A:Ad):Prop:=∀ ⦃H:Hp⦄ ⦃t sl dl:Addr⦄ ⦃n:Nat⦄ ⦃zs ys:List Value⦄ ⦃D:List Vt⦄,HS H t sl dl n zs ys D->(∀ e∈D,e.1.length<=8)->D.length<=2000->∀ ⦃Q:QV⦄ ⦃X:XV⦄,(∀ H',Kp [] H H'->Q (.bool true) H')->G.fn (A "_law_told" "") [.ref t,.ref dl,.int (n:Int) 0] H Q X
structure TlI (H0:Hp)(t dl:Addr)(l:Loc)(H:Hp):Prop where
 k:Kp [] H0 H
 g1:l "_law_seen" = some (.ref t)
 g2:l "_law_due" = some (.ref dl)
theorem am1 (F:zx G A fs)(hf:has "_law_count" fs=true)(C:QJ G A){t sl dl:Addr}{n:Nat}{zs ys:List Value}{D:List Vt}(T:HS H t sl dl n zs ys D)(h8:∀ e∈D,e.1.length<=8)(hz:D.length<=2000)(g1:l "_law_seen" = some (.ref t))(g2:l "_law_due" = some (.ref dl))(q:∀ H',Kp [] H H'->Q (.bool true) H'):wM G (QM.drop 1) l H (fq Q) (fx X):=by
 refine zW (Ms (Ko (t:=true) (P0 (xQ (wH g1) wI T.ht (by decide) rfl) T.hs) rfl) (Ca (Fd (xQ (wH g1) wI T.ht (by decide) rfl) T.hs) (Fd (wH g2) T.hd) ?_)) ?_
 ·rw[((zp T.z).trans (zp T.y).symm:zs.length=ys.length),decide_eq_true rfl];rfl
 refine Qh (n:=ys.length) (λuu l' H'=>TlI H t dl l' H') (Fd (wH g2) T.hd) (by rw[zp T.y];exact aK hz (by decide)) (λi hi l' H' J K hK=>?_) (λc hc=>⟨wW hc _,g1,g2⟩) λl' H' J=>zT (v:=.bool true) wI (q _ J.k)
 exact am0 F hf C (T.kp J.k) hi h8 (l:=l'.upd "_law_k" (.int (i:Int) 0)) J.g1 J.g2 rfl λl2 H2 k2 a1 a2=>hK.nx _ _ ⟨J.k.trans k2,a1,a2⟩
theorem am2 (F:zx G A fs)(hf:has "_law_count" fs=true)(C:QJ G A){t sl dl:Addr}{n:Nat}{zs ys:List Value}{D:List Vt}(T:HS H t sl dl n zs ys D)(h8:∀ e∈D,e.1.length<=8)(hz:D.length<=2000)(q:∀ H',Kp [] H H'->Q (.bool true) H'):yq G ["_law_seen","_law_due","_law_looked_here"] QM [.ref t,.ref dl,.int (n:Int) 0] H Q X :=
 yC rfl (Fi (QT (Ko (t:=true) (P0 (wH rfl) T.ht) rfl) (QT (Ca (Fd (wH rfl) T.ht) wI rfl) (X8 (w_call (Am (F.fn hf).1) (F.fn hf).2 (w6 (xQ (wH rfl) wI T.ht (by decide) rfl) (w6 (wH rfl) xM)) (C (amY (zG (am1 F hf C T h8 hz rfl rfl q)))))))))
end
noncomputable def N7:List Sm:=[.asg "_law_way" (.b yj (.loc "_law_cell") (.k (.int 8 0))),.asg "_law_path" (.call (.glob "_law_path_by") [.b yQ (.loc "_law_cell") (.k (.int 8 0))]),.asg "_law_shots" (.meth (.loc "_law_store") "shot_numbers" []),.ite (.b ltI (.loc "_law_way") (.k (.int 4 0))) [.ret (.meth (.loc "_law_store") "put" [.loc "_law_path",.call (.glob "_law_number_by") [.loc "_law_more"]])] [],.ite (.b BW (.loc "_law_way") (.k (.int 4 0))) [.ret (.meth (.loc "_law_store") "cut" [.loc "_law_path"])] [],.ite (.b BW (.loc "_law_way") (.k (.int 5 0))) [.for_ itR "_law_k" (.u CK (.b zB (.k (.int 1 0)) (.b Bu (.u J6 (.b BW (.b yj (.b yQ (.loc "_law_cell") (.k (.int 8 0))) (.k (.int 16 0))) (.k (.int 3 0)))) (.b yj (.loc "_law_more") (.k (.int 33 0)))))) [.expr (.meth (.loc "_law_store") "snap" [])],.ret (.k (.int 0 0))] [],.ite (.or (.b Pa (.loc "_law_shots") (.n yu [])) (.b BW (.b yj (.loc "_law_more") (.k (.int 5 0))) (.k (.int 0 0)))) [.ret (.meth (.loc "_law_store") "put" [.loc "_law_path",.call (.glob "_law_number_by") [.loc "_law_more"]])] [],.ite (.b BW (.loc "_law_way") (.k (.int 6 0))) [.ret (.meth (.loc "_law_store") "drop" [.b yw (.loc "_law_shots") (.b yj (.b yQ (.loc "_law_more") (.k (.int 5 0))) (.u CJ (.loc "_law_shots")))])] [],.ret (.meth (.loc "_law_store") "back" [.b yw (.loc "_law_shots") (.b yj (.b yQ (.loc "_law_more") (.k (.int 5 0))) (.u CJ (.loc "_law_shots")))])]
noncomputable def VF:List Sm:=[.try_ [.ret (.call (.glob "_law_asked") [.loc "_law_store",.loc "_law_cell",.loc "_law_more"])] [("SnapError",.int 0 0)]]
section
variable {A:Ad}{G:Gx}{l:Loc}{H H':Hp}{Q:QV}{X:XV}{fs:List Str}{σ:SA}{s s':w7}{T:Addr}{k j:Nat}{Ps:List (List Str)}
structure xR (A:Ad)(σ:SA)(T:Addr)(k j:Nat)(H:Hp)(s:w7)(Ps:List (List Str)):Prop where
 st:wX A H σ s
 sw:SW k s
 up:UP Ps s
 pl:Ps.length<=k+1
 md:s.made.toNat<=9*k+1
 sh:s.wL.length<=j
 tb:TabAt T H
theorem aeP {a b c d e f:Addr}(h1:a≠b)(h2:a≠c)(h3:a≠d)(h4:a≠e)(h5:a≠f):a∉[b,c,d,e,f]:=λh=>(aM.1 h).elim h1 λh=>(aM.1 h).elim h2 (Zd h3 h4 h5)
theorem xR.kp (I:xR A σ T k j H s Ps){s':w7}{Ps':List (List Str)}{k' j':Nat}(kp:Kp σ.M H H')(st:wX A H' σ s')(sw:SW k' s')(up:UP Ps' s')(pl:Ps'.length<=k'+1)(mk:s'.made.toNat<=9*k'+1)(sh:s'.wL.length<=j'):xR A σ T k' j' H' s' Ps':=by
 refine⟨st,sw,up,pl,mk,sh,?_⟩
 obtain⟨ks,h1,h2⟩:=I.tb
 obtain⟨bvs,p,-⟩:=id I.st.p.ex
 exact⟨ks,kp _ _ h1 (.inr (aeP (yK h1 I.st.n (λzz=>by cases zz)) (yK h1 I.st.st (λzz=>by cases zz)) (yK h1 p.n (λzz=>by cases zz)) (yK h1 p.b (λzz=>by cases zz)) (yK h1 p.c (λzz=>by cases zz)):T∉σ.M)),λc hc=>kp _ _ (h2 c hc) (.inl rfl)⟩
theorem xR.stay (I:xR A σ T k j H s Ps){k' j':Nat}(hk:k<=k')(hj:j<=j')(kp:Kp [] H H'):xR A σ T k' j' H' s Ps :=
 I.kp kp.up (I.st.yp kp) (I.sw.mono hk) I.up (aj I.pl (aU hk)) (aj I.md (aU (fM 9 hk))) (aj I.sh hj)
theorem xR.room (I:xR A σ T k j H s Ps)(hk:k<=70):(s.made.toNat+9)*(k+2)+2<=2^20 :=
 aj (bw (pI (bw (aj I.md (aU (fM 9 hk))) 9) (bw hk 2)) 2) (by decide)
theorem xR.aeQ (I:xR A σ T k j H s Ps)(hk:k<=70):s.made.toNat*(k+1)+2<=2^20 :=
 aj (bw (pI (aF _ 9) (dX (k+1))) 2) (I.room hk)
theorem aeR {a b:Int}{n m:Nat}(h:a.toNat<=m)(h0:0<=a)(e:b=a+n):b.toNat<=m+n:=by
 rw[e,Int.toNat_add h0 (cR n),cG]
 exact bw h n
theorem xR.put (I:xR A σ T k j H s Ps){xs:List Str}{m g:Int}(N:U4 s xs m s' g)(w:SW (k+1) s')(st:wX A H' σ s')(kp:Kp σ.M H H')(h8:xs.length<=8):xR A σ T (k+1) j H' s' (xs::Ps):=by
 obtain⟨W,Nm,n1,n2,n3⟩:=N.bs
 refine I.kp kp st w (I.up.put I.sw h8 n1 n2 n3 (N.tree.trans N.made) N.wL) (aU I.pl) ?_ (N.wL▸I.sh)
 refine aj (aeR (n:=1+xs.length) I.md I.sw.Qw (by rw[N.made,j7];rfl)) ?_
 rw[Nat.mul_succ,cA]
 exact bw (aL (aL h8 1) (9*k)) 1
theorem xR.cut (I:xR A σ T k j H s Ps){xs:List Str}{g b:Int}(hf:find s.bs s.tree xs=some (some b))(hne:xs≠[])(N:Zu s xs s' g)(w:SW (k+1) s')(st:wX A H' σ s')(kp:Kp σ.M H H')(h8:xs.length<=8):xR A σ T (k+1) j H' s' Ps:=by
 obtain⟨W,Nm,n1,n2,n3⟩:=N.bs
 have h0:=pX.2 hne
 refine I.kp kp st w (I.up.cut I.sw hf (cU h0 cO) (λr hr=>(cY.1 hr).1) n1 n2 n3 (N.tree.trans (show s'.made=s.made+1+((xs.length-1:Nat):Int) from by rw[N.made,j7,mK 1,<-Int.natCast_add_one,(gM h0:xs.length-1+1=xs.length)])) N.wL) (dR I.pl) ?_ (N.wL▸I.sh)
 refine aj (aeR (n:=xs.length) I.md I.sw.Qw N.made) ?_
 rw[Nat.mul_succ,cA]
 exact bw (aL (dR h8) (9*k)) 1
theorem am3 {α:Type}{l:List (Int×α)}{i:Int}{a:α}{p:Int×α}(h:p∈wC.put l i a):p.2=a\/p∈l:=by
 unfold wC.put at h
 by_cases q:(l.any λp=>decide (p.1=i))=true
 ·rw[if_pos q] at h
  obtain⟨x,hx,rfl⟩:=aO.1 h
  by_cases e:x.1=i
  ·rw[if_pos e];exact .inl rfl
  ·rw[if_neg e];exact .inr hx
 ·rw[if_neg q] at h
  exact(aR.1 h).elim .inr λh=>.inl (by rw[aC.1 h])
theorem am4 {α:Type}(l:List (Int×α))(i:Int)(a:α):(wC.put l i a).length<=l.length+1:=by
 unfold wC.put
 by_cases q:(l.any λp=>decide (p.1=i))=true
 ·rw[if_pos q,aA];exact dX _
 ·rw[if_neg q,aG];exact aD _
theorem xR.snap (I:xR A σ T k j H s Ps){c:Int}(w:SW k { s with cs:=wC.put s.cs s.tree (c+1),wL:=wC.put s.wL (s.last+1) s.tree,last:=s.last+1 })(st:wX A H' σ { s with cs:=wC.put s.cs s.tree (c+1),wL:=wC.put s.wL (s.last+1) s.tree,last:=s.last+1 })(kp:Kp σ.M H H') :
  xR A σ T k (j+1) H' { s with cs:=wC.put s.cs s.tree (c+1),wL:=wC.put s.wL (s.last+1) s.tree,last:=s.last+1 } Ps:=by
 refine I.kp kp st w (I.up.sub I.sw (tM _) λt ht=>?_) I.pl I.md (aj (am4 ..) (aU I.sh))
 rcases aM.1 ht with e | h
 ·rw[e];exact .head _
 ·obtain⟨p,hp,rfl⟩:=aO.1 h
  rcases am3 hp with e | hp
  ·rw[e];exact .head _
  ·exact .tail _ (aO.2 ⟨p,hp,rfl⟩)
theorem xR.drop (I:xR A σ T k j H s Ps){bs':List (Int×Ct)}{cs':List (Int×Int)}{n:Int}(w:SW k { s with bs:=bs',cs:=cs',wL:=del s.wL n })(sb:bs'.Sublist s.bs)(st:wX A H' σ { s with bs:=bs',cs:=cs',wL:=del s.wL n })(kp:Kp σ.M H H'):xR A σ T k j H' { s with bs:=bs',cs:=cs',wL:=del s.wL n } Ps:=by
 refine I.kp kp st w (I.up.sub I.sw sb λt ht=>?_) I.pl I.md (aj (oH ..) I.sh)
 rcases aM.1 ht with e | h
 ·rw[e];exact .head _
 ·obtain⟨p,hp,rfl⟩:=aO.1 h
  exact .tail _ (aO.2 ⟨p,(akQ.1 hp).1,rfl⟩)
theorem xR.back (I:xR A σ T k j H s Ps){bs':List (Int×Ct)}{cs':List (Int×Int)}{n b:Int}(hn:get s.wL n=some b)(w:SW k { s with bs:=bs',cs:=cs',tree:=b })(sb:bs'.Sublist s.bs)(st:wX A H' σ { s with bs:=bs',cs:=cs',tree:=b })(kp:Kp σ.M H H'):xR A σ T k j H' { s with bs:=bs',cs:=cs',tree:=b } Ps:=by
 refine I.kp kp st w (I.up.sub I.sw sb λt ht=>?_) I.pl I.md I.sh
 rcases aM.1 ht with e | h
 ·rw[e];exact .tail _ (aO.2 ⟨_,Ji hn,rfl⟩)
 ·exact .tail _ h
noncomputable def aac:List Str:=["LeafThere","BranchThere","Nothing"]
structure Gk (A:Ad)(σ:SA)(T:Addr)(k j:Nat)(H:Hp)(K:QS)(XX:XS):Prop where
 q:∀ v l' H' s' Ps',xR A σ T k j H' s' Ps'->Kp σ.M H H'->K (.ret v) l' H'
 x:∀ c l' H' s' Ps',has c aac=true->xR A σ T k j H' s' Ps'->Kp σ.M H H'->XX (A c "") l' H'
noncomputable def asP:List Sm:=[.ret (.meth (.loc "_law_store") "put" [.loc "_law_path",.call (.glob "_law_number_by") [.loc "_law_more"]])]
theorem aad (F:xu G A)(E:zx G A fs)(hf:has "_law_number_by" fs=true)(P:U5 G A)(N:Z0 G A){H0:Hp}(I:xR A σ T k j H s Ps)(hk:k<=70){j':Nat}(hj:j<=j')(k0:Kp σ.M H0 H){p:Addr}{xs:List Str}{m:Int}(hp:zZ H p xs)(hne:xs≠[])(g1:l "_law_store" = some (.ref σ.sx))(g2:l "_law_path" = some (.ref p))(g3:l "_law_more" = some (.int m 0)){K:QS}{XX:XS}(D:Gk A σ T (k+1) j' H0 K XX):wM G asP l H K XX:=by
 refine zm (Dy (wH g1) I.st.i I.st.n (by nest_cls) (by rfl) (xW (xO (wH g2) (xW (w_call (Am (E.fn hf).1) (E.fn hf).2 (w6 (wH g3) xM) (N λn n1 n2=>yR (P I.st I.sw (I.room hk) hp hne n1 n2 (λb uu uu H' uu kp=>?_) (λs' g uu PN w H' st kp=>?_) (λuu H' uu kp=>?_) λuu uu H' uu kp=>?_)))))))
 ·exact D.q _ _ _ _ _ (I.stay (dX k) hj kp) (k0.trans kp.up)
 ·exact D.q _ _ _ _ _ ((I.put PN w st kp hp.len).stay (aD _) hj (Kp.refl _ _)) (k0.trans kp)
 ·exact D.x _ _ _ _ _ (by decide +kernel) (I.stay (dX k) hj kp) (k0.trans kp.up)
 ·exact D.x _ _ _ _ _ (by decide +kernel) (I.stay (dX k) hj kp) (k0.trans kp.up)
noncomputable def asC:List Sm:=[.ret (.meth (.loc "_law_store") "cut" [.loc "_law_path"])]
theorem am5 (F:xu G A)(hm:G.meth (A "Store" "") "cut" = some (A "Store" "cut"))(C:Zv G A){H0:Hp}(I:xR A σ T k j H s Ps)(hk:k<=70){j':Nat}(hj:j<=j')(k0:Kp σ.M H0 H){p:Addr}{xs:List Str}(hp:zZ H p xs)(hne:xs≠[])(g1:l "_law_store" = some (.ref σ.sx))(g2:l "_law_path" = some (.ref p)){K:QS}{XX:XS}(D:Gk A σ T (k+1) j' H0 K XX):wM G asC l H K XX:=by
 refine zm (yx (wH g1) I.st.i I.st.n hm (by rfl) (w6 (wH g2) xM) (C I.st I.sw (I.room hk) hp hne (λs' g hf CN w H' st kp=>?_) λuu H' uu kp=>?_))
 ·obtain⟨b,hf⟩:=hf
  exact D.q _ _ _ _ _ ((I.cut hf hne CN w st kp hp.len).stay (aD _) hj (Kp.refl _ _)) (k0.trans kp)
 ·exact D.x _ _ _ _ _ (by decide +kernel) (I.stay (dX k) hj kp) (k0.trans kp.up)
noncomputable def asN:Ex:=.b zB (.k (.int 1 0)) (.b Bu (.u J6 (.b BW (.b yj (.b yQ (.loc "_law_cell") (.k (.int 8 0))) (.k (.int 16 0))) (.k (.int 3 0)))) (.b yj (.loc "_law_more") (.k (.int 33 0))))
noncomputable def asS:List Sm:=[.for_ itR "_law_k" (.u CK asN) [.expr (.meth (.loc "_law_store") "snap" [])],.ret (.k (.int 0 0))]
theorem am6 {c m:Int}(g1:l "_law_cell" = some (.int c 0))(g2:l "_law_more" = some (.int m 0)):∃ n:Nat,n<=33/\Ev G asN l H (.int (n:Int) 0):=by
 have m33:=mod_lt m (b:=33) (by decide)
 have ev:∀ t:Bool,decide (c/8%16=3)=t->Ev G asN l H (.int (1+(if t then 1 else 0)*(m%33)) 0):=λt ht=>Bw wI (Ej (acD (Ca (Aq (Ce (wH g1) (by decide)) (by decide)) wI ht)) (Aq (wH g2) (by decide)) (.inl (by cases t <;> decide)))
 cases e:decide (c/8%16=3) with
 | false=>exact⟨1,by decide,by have:=ev false e;rw[if_neg (by decide),uN] at this;exact this⟩
 | true =>
  obtain⟨n,hn⟩:=gY m33.1
  have hn:m%33=(n:Int):=hn
  refine⟨n+1,iC.1 (hn▸m33.2),?_⟩
  have:=ev true e
  rw[if_pos rfl,Int.one_mul,hn,mK] at this
  exact this
structure SnI (A:Ad)(σ:SA)(T:Addr)(k j:Nat)(H0:Hp)(Ps:List (List Str))(l:Loc)(H:Hp):Prop where
 I:∃ s,xR A σ T k j H s Ps
 k:Kp σ.M H0 H
 g:l "_law_store" = some (.ref σ.sx)
theorem aeS (F:xu G A)(hm:G.meth (A "Store" "") "snap" = some (A "Store" "snap"))(C:QB G A){H0:Hp}(I:xR A σ T k j H s Ps)(hk:k<=70)(hj:j<=2^20)(g:l "_law_store" = some (.ref σ.sx)){r:List Sm}{Q:QS}{XX:XS}(q:∀ H' s',xR A σ T k (j+1) H' s' Ps->Kp σ.M H H'->wM G r l H' Q XX):wM G (.expr (.meth (.loc "_law_store") "snap" [])::r) l H Q XX :=
 Ao (yx (wH g) I.st.i I.st.n hm (by rfl) xM (C I.st I.sw (aj I.sw.Qx (aj I.md (aj (aU (fM 9 hk)) (by decide)))) (aj I.sh hj) λc uu w H' st kp=>q H' _ (I.snap w st kp) kp))
theorem am7 (F:xu G A)(hm:G.meth (A "Store" "") "snap" = some (A "Store" "snap"))(C:QB G A){H0:Hp}(I:xR A σ T k j H s Ps)(hk:k<=70)(hj:j<=4000)(k0:Kp σ.M H0 H){c m:Int}(g1:l "_law_store" = some (.ref σ.sx))(g2:l "_law_cell" = some (.int c 0))(g3:l "_law_more" = some (.int m 0)){K:QS}{XX:XS}(D:Gk A σ T (k+1) (j+33) H0 K XX):wM G asS l H K XX:=by
 obtain⟨n,hn,he⟩:=am6 (G:=G) (H:=H) g2 g3
 refine Qh (n:=n) (λi l' H'=>SnI A σ T k (j+i) H0 Ps l' H') he (aK hn (by decide)) (λi hi l' H' J K' hK=>?_) (λr hr=>?_) λl' H' J=>?_
 ·obtain⟨⟨s,J⟩,jk,jg⟩:=J
  exact aeS (H0:=H0) F hm C J hk (aj (cI hj (aj (aQ hi) hn)) (by decide)) (l:=l'.upd "_law_k" (.int (i:Int) 0)) jg λH2 s2 J2 k2=>yZ (hK.nx _ _ ⟨⟨s2,J2⟩,jk.trans k2,jg⟩)
 ·have kr:Kp [] H (H.upd r (.range 0 n 1)):=wW hr _
  exact⟨⟨s,I.stay (aD _) (aD _) kr⟩,k0.trans kr.up,g1⟩
 ·obtain⟨⟨s,J⟩,jk,jg⟩:=J
  exact zT (v:=.int 0 0) wI (D.q _ _ _ _ _ (J.stay (dX k) (aL hn j) (Kp.refl _ _)) jk)
noncomputable abbrev iV (ns:List Int):List Value:=ns.map λn=>.int n 0
noncomputable def asI:Ex:=.b yw (.loc "_law_shots") (.b yj (.b yQ (.loc "_law_more") (.k (.int 5 0))) (.u CJ (.loc "_law_shots")))
theorem aeT (hne:s.wL≠[]){c:Addr}(hc:H c=some (.list (iV (s.wL.map (·.1))))){e:Ex}{i:Int}(g:l "_law_shots" = some (.ref c))(he:Ev G e l H (.int i 0)):∃ n b,get s.wL n=some b/\Ev G (.b yw (.loc "_law_shots") (.b yj e (.u CJ (.loc "_law_shots")))) l H (.int n 0):=by
 have pos:(0:Int)<((iV (s.wL.map (·.1))).length:Nat):=by rw[(show(iV (s.wL.map (·.1))).length=s.wL.length from by rw[aA,aA])];exact iC.2 (pX.2 hne)
 have m:=mod_lt i pos
 obtain⟨v,hv,hm⟩:=Vo m.1 m.2
 obtain⟨n,hn,rfl⟩:=aO.1 hm
 obtain⟨b,hb⟩:=Ba hn
 exact⟨n,b,hb,xQ (wH g) (ZW he (Fd (wH g) hc) pos) hc m.1 hv⟩
theorem am8 (F:xu G A)(hm:G.meth (A "Store" "") "drop" = some (A "Store" "drop"))(C:Zq G A){H0:Hp}(I:xR A σ T k j H s Ps)(hk:k<=70)(hj:j<=4000){j':Nat}(hj':j<=j')(k0:Kp σ.M H0 H){c:Addr}{m:Int}(hne:s.wL≠[])(hc:H c=some (.list (iV (s.wL.map (·.1)))))(g1:l "_law_store" = some (.ref σ.sx))(g2:l "_law_shots" = some (.ref c))(g3:l "_law_more" = some (.int m 0)){K:QS}{XX:XS}(D:Gk A σ T (k+1) j' H0 K XX):wM G [.ret (.meth (.loc "_law_store") "drop" [asI])] l H K XX:=by
 obtain⟨n,b,hb,he⟩:=aeT (G:=G) hne hc g2 (Ce (wH g3) (by decide:(0:Int)<5/\(5:Int)<2^63))
 exact zm (yx (wH g1) I.st.i I.st.n hm (by rfl) (w6 he xM) (C I.st I.sw (I.aeQ hk) (aj I.sh (aj hj (by decide))) hb λbs' cs' w sb H' st kp=>D.q _ _ _ _ _ ((I.drop w sb st kp).stay (dX k) hj' (Kp.refl _ _)) (k0.trans kp)))
theorem am9 (F:xu G A)(hm:G.meth (A "Store" "") "back" = some (A "Store" "back"))(C:Zr G A){H0:Hp}(I:xR A σ T k j H s Ps)(hk:k<=70){j':Nat}(hj':j<=j')(k0:Kp σ.M H0 H){c:Addr}{m:Int}(hne:s.wL≠[])(hc:H c=some (.list (iV (s.wL.map (·.1)))))(g1:l "_law_store" = some (.ref σ.sx))(g2:l "_law_shots" = some (.ref c))(g3:l "_law_more" = some (.int m 0)){K:QS}{XX:XS}(D:Gk A σ T (k+1) j' H0 K XX):wM G [.ret (.meth (.loc "_law_store") "back" [asI])] l H K XX:=by
 obtain⟨n,b,hb,he⟩:=aeT (G:=G) hne hc g2 (Ce (wH g3) (by decide:(0:Int)<5/\(5:Int)<2^63))
 exact zm (yx (wH g1) I.st.i I.st.n hm (by rfl) (w6 he xM) (C I.st I.sw (I.aeQ hk) hb λbs' cs' w sb H' st kp=>D.q _ _ _ _ _ ((I.back hb w sb st kp).stay (dX k) hj' (Kp.refl _ _)) (k0.trans kp)))
theorem Gk.sq {H0:Hp}{K:QS}{XX:XS}{r:List Sm}(D:Gk A σ T k j H0 K XX):Gk A σ T k j H0 (sq G r K XX) XX:=⟨D.q,D.x⟩
def aeU (G:Gx)(A:Ad):Prop:=∀ ⦃H:Hp⦄ ⦃σ:SA⦄ ⦃s:w7⦄ ⦃T:Addr⦄ ⦃k j:Nat⦄ ⦃Ps:List (List Str)⦄,xR A σ T k j H s Ps->k<=70->j<=4000->∀ ⦃c m:Int⦄ ⦃Q:QV⦄ ⦃X:XV⦄,Gk A σ T (k+1) (j+33) H (fq Q) (fx X)->G.fn (A "_law_asked" "") [.ref σ.sx,.int c 0,.int m 0] H Q X
structure AsC (G:Gx)(A:Ad):Prop where
 put:U5 G A
 cut:Zv G A
 snap:QB G A
 drop:Zq G A
 back:Zr G A
 num:Z0 G A
 path:aeD G A
 wL:Zn G A
 mc:G.meth (A "Store" "") "cut" = some (A "Store" "cut")
 ms:G.meth (A "Store" "") "snap" = some (A "Store" "snap")
 md:G.meth (A "Store" "") "drop" = some (A "Store" "drop")
 mb:G.meth (A "Store" "") "back" = some (A "Store" "back")
 mn:G.meth (A "Store" "") "shot_numbers" = some (A "Store" "shot_numbers")
theorem ana (F:xu G A)(E:zx G A fs)(hf:has "_law_number_by" fs=true)(C:AsC G A){H0:Hp}(I:xR A σ T k j H s Ps)(hk:k<=70)(hj:j<=4000)(k0:Kp σ.M H0 H){p c:Addr}{xs:List Str}{m w:Int}(hp:zZ H p xs)(hne:xs≠[])(hc:H c=some (.list (iV (s.wL.map (·.1)))))(g1:l "_law_store" = some (.ref σ.sx))(g2:l "_law_path" = some (.ref p))(g3:l "_law_more" = some (.int m 0))(g4:l "_law_shots" = some (.ref c))(g5:l "_law_way" = some (.int w 0)){K:QS}{XX:XS}(D:Gk A σ T (k+1) (j+33) H0 K XX):wM G (N7.drop 6) l H K XX:=by
 have hj':=aF j 33
 refine Fi (acK (wH g4) hc λd hd=>?_)
 have kd:Kp [] H (H.upd d (.list [])):=wW hd _
 have I:=I.stay (aD _) (aD _) kd
 have hp:=hp.kp kd
 have hc:=kd.list hc
 have k1:=k0.trans kd.up
 generalize H.upd d (.list [])=H1 at I hp hc k1 ⊢
 cases e:s.wL with
 | nil=>exact aad F E hf C.put C.num I hk hj' k1 hp hne g1 g2 g3 D.sq
 | cons x r =>
  have hs:s.wL≠[]:=by rw[e];exact lH _ _
  refine Hz (show wM G (.ite (.b BW (.b yj (.loc "_law_more") (.k (.int 5 0))) (.k (.int 0 0))) asP []::N7.drop 7) l H1 K XX from CV (b:=decide (m%5=0)) (Ca (Aq (wH g3) (by decide)) wI rfl) (λuu=>aad F E hf C.put C.num I hk hj' k1 hp hne g1 g2 g3 D.sq) λuu=>zG ?_)
  exact CV (b:=decide (w=6)) (Ca (wH g5) wI rfl) (λuu=>am8 F C.md C.drop I hk hj hj' k1 hs hc g1 g4 g3 D.sq) λuu=>zG (am9 F C.mb C.back I hk hj' k1 hs hc g1 g4 g3 D)
theorem anb (F:xu G A)(E:zx G A fs)(h1:has "_law_number_by" fs=true)(h2:has "_law_path_by" fs=true)(C:AsC G A)(I:xR A σ T k j H s Ps)(hk:k<=70)(hj:j<=4000){c m:Int}(D:Gk A σ T (k+1) (j+33) H (fq Q) (fx X)):yq G ["_law_store","_law_cell","_law_more"] N7 [.ref σ.sx,.int c 0,.int m 0] H Q X:=by
 have hj':=aF j 33
 refine yC rfl (Gi (Aq (wH rfl) (by decide)) (xX (w_call (Am (E.fn h2).1) (E.fn h2).2 (w6 (Ce (wH rfl) (by decide)) xM) (C.path λp xs H1 hp hne k1=>?_))))
 have I1:=I.stay (aD _) (aD _) k1
 refine xX (yx (wH rfl) I1.st.i I1.st.n C.mn (by rfl) xM (C.wL I1.st (aj I1.sh (aj hj (by decide))) I1.sw.sa λd hd=>?_))
 have kd:Kp [] H1 (H1.upd d (.list (iV (s.wL.map (·.1))))):=wW hd _
 have ed:(H1.upd d (.list (iV (s.wL.map (·.1))))) d=some (.list (iV (s.wL.map (·.1)))):=Hp.wQ _ _ _
 have I2:=I1.stay (aD _) (aD _) kd
 have hp:=hp.kp kd
 have k0:Kp σ.M H (H1.upd d (.list (iV (s.wL.map (·.1))))):=(k1.trans kd).up
 generalize H1.upd d (.list (iV (s.wL.map (·.1))))=H2 at I2 hp ed k0 ⊢
 refine CV (b:=decide (c%8<4)) (Ca (wH rfl) wI rfl) (λuu=>aad F E h1 C.put C.num I2 hk hj' k0 hp hne rfl rfl rfl D.sq) λuu=>zG ?_
 refine CV (b:=decide (c%8=4)) (Ca (wH rfl) wI rfl) (λuu=>am5 F C.mc C.cut I2 hk hj' k0 hp hne rfl rfl D.sq) λuu=>zG ?_
 refine CV (b:=decide (c%8=5)) (Ca (wH rfl) wI rfl) (λuu=>am7 F C.ms C.snap I2 hk hj k0 rfl rfl rfl D.sq) λuu=>zG ?_
 exact ana F E h1 C I2 hk hj k0 hp hne ed rfl rfl rfl rfl rfl D
structure ExE (G:Gx)(A:Ad):Prop where
 g:G.glob "SnapError" = some (.ref (A "SnapError" ""))
 e:G.isExc (A "SnapError" "")=true
 s:∀ {x:Str},has x aac=true->G.isExc (A x "")=true/\G.sub (A x "") (A "SnapError" "")=true
theorem anc {body r:List Sm}{hs:List (Str×Value)}{Q:QS}{X:XS}(q:wM G body l H (sq G r Q X) (λC l' H'=>G.isExc C=true/\hs.foldr (λh r'=>∃ D,G.glob h.1=some (.ref D)/\G.isExc D=true/\if G.sub C D then sq G r Q X (.ret h.2) l' H' else r') (X C l' H'))):wM G (.try_ body hs::r) l H Q X:=q
def aeV (G:Gx)(A:Ad):Prop:=∀ ⦃H:Hp⦄ ⦃σ:SA⦄ ⦃s:w7⦄ ⦃T:Addr⦄ ⦃k j:Nat⦄ ⦃Ps:List (List Str)⦄,xR A σ T k j H s Ps->k<=70->j<=4000->∀ ⦃c m:Int⦄ ⦃Q:QV⦄ ⦃X:XV⦄,(∀ v H' s' Ps',xR A σ T (k+1) (j+33) H' s' Ps'->Kp σ.M H H'->Q v H')->G.fn (A "_law_done" "") [.ref σ.sx,.int c 0,.int m 0] H Q X
theorem ane (E:zx G A fs)(hf:has "_law_asked" fs=true)(S:ExE G A)(C:aeU G A)(I:xR A σ T k j H s Ps)(hk:k<=70)(hj:j<=4000){c m:Int}(q:∀ v H' s' Ps',xR A σ T (k+1) (j+33) H' s' Ps'->Kp σ.M H H'->Q v H'):yq G ["_law_store","_law_cell","_law_more"] VF [.ref σ.sx,.int c 0,.int m 0] H Q X:=by
 refine yC rfl (anc (zm (w_call (Am (E.fn hf).1) (E.fn hf).2 (w6 (wH rfl) (w6 (wH rfl) (w6 (wH rfl) xM))) (C I hk hj (Q:=λv H'=>Q v H') (X:=λC H'=>G.isExc C=true/\[("SnapError",cL 0 0)].foldr (λh r'=>∃ D,G.glob h.1=some (.ref D)/\G.isExc D=true/\if G.sub C D then Q h.2 H' else r') (X C H')) ⟨λv l' H' s' Ps' J kp=>q v H' s' Ps' J kp,λx l' H' s' Ps' hx J kp=>?_⟩))))
 exact⟨(S.s hx).1,_,S.g,S.e,by rw[if_pos (S.s hx).2];exact q _ H' s' Ps' J kp⟩
end
noncomputable def VG:List Sm:=[.asg "_law_store" (.call (.glob "Store") []),.for_ itR "_law_k" (.u CK (.b Bu (.b yj (.b yQ (.call (.glob "_law_cell_at") [.loc "_law_script",.k (.int 0 0)]) (.k (.int 5 0))) (.k (.int 41 0))) (.u J6 (.b BW (.b yj (.call (.glob "_law_cell_at") [.loc "_law_script",.k (.int 0 0)]) (.k (.int 5 0))) (.k (.int 2 0)))))) [.expr (.meth (.loc "_law_store") "put" [.n yu [.k (.str "b" 0),.b JT (.b Ey (.k (.str "cdefgh" 0)) (.b yj (.loc "_law_k") (.k (.int 6 0)))) (.b WT (.b Ey (.k (.str "ijklmno" 0)) (.b yQ (.loc "_law_k") (.k (.int 6 0)))) (.b zB (.k (.int 1 0)) (.b yj (.loc "_law_k") (.k (.int 3 0)))))],.loc "_law_k"]),.ite (.b BW (.b yj (.loc "_law_k") (.k (.int 16 0))) (.k (.int 9 0))) [.expr (.meth (.loc "_law_store") "snap" [])] []],.for_ itR "_law_k" (.u CK (.b Xb (.k (.int 24 0)) (.b yQ (.u RZ (.loc "_law_script")) (.k (.int 2 0))))) [.asg "_law_shots" (.meth (.loc "_law_store") "shot_numbers" []),.ite (.and (.b BW (.b yj (.loc "_law_k") (.k (.int 3 0))) (.k (.int 0 0))) (.b neN (.loc "_law_shots") (.n yu []))) [.expr (.meth (.loc "_law_store") "changes" [.k .none,.b yw (.loc "_law_shots") (.k (.int 0 0))]),.expr (.meth (.loc "_law_store") "changes" [.b LK (.loc "_law_shots") (.k (.int (-1) 0)),.k .none])] [],.expr (.call (.glob "_law_done") [.loc "_law_store",.b Gq (.loc "_law_script") (.b Bu (.k (.int 2 0)) (.loc "_law_k")),.b Gq (.loc "_law_script") (.b zB (.b Bu (.k (.int 2 0)) (.loc "_law_k")) (.k (.int 1 0)))])],.asg "_law_views" (.b BX (.n yu [.k .none]) (.meth (.loc "_law_store") "shot_numbers" [])),.asg "_law_one" (.b yw (.loc "_law_views") (.b yj (.b yQ (.call (.glob "_law_cell_at") [.loc "_law_script",.k (.int 0 0)]) (.k (.int 3 0))) (.u CJ (.loc "_law_views")))),.asg "_law_other" (.b yw (.loc "_law_views") (.b yj (.b yQ (.call (.glob "_law_cell_at") [.loc "_law_script",.k (.int 1 0)]) (.k (.int 7 0))) (.u CJ (.loc "_law_views")))),.asg "_law_tops" (.n yu [.meth (.loc "_law_store") "top" [.loc "_law_one"],.meth (.loc "_law_store") "top" [.loc "_law_other"]]),.asg "_law_left" (.call (.glob "_law_leaves") [.attr (.loc "_law_store") "pile",.b yw (.loc "_law_tops") (.k (.int 0 0))]),.asg "_law_right" (.call (.glob "_law_leaves") [.attr (.loc "_law_store") "pile",.b yw (.loc "_law_tops") (.k (.int 1 0))]),.asg "_law_due" (.n yu []),.for_ yO "_law_path" (.u Tq (.b BX (.u Qk (.loc "_law_left")) (.u Qk (.loc "_law_right")))) [.ite (.b Ip (.m (yc .Ai) Je (.loc "_law_left") [.loc "_law_path",.k .none]) (.m (yc .Ai) Je (.loc "_law_right") [.loc "_law_path",.k .none])) [.expr (.m (yc .list) Aw (.loc "_law_due") [.n zu [.loc "_law_path",.m (yc .Ai) Je (.loc "_law_left") [.loc "_law_path",.k .none],.m (yc .Ai) Je (.loc "_law_right") [.loc "_law_path",.k .none]]])] []],.asg "_law_looked_here" (.call (.glob "_law_looked") [.attr (.loc "_law_store") "pile",.b yw (.loc "_law_tops") (.k (.int 0 0)),.b yw (.loc "_law_tops") (.k (.int 1 0))]),.asg "_law_back" (.comp yO (.n zu [.b wR (.loc "_law_row") (.k (.int 0 0)),.b wR (.loc "_law_row") (.k (.int 2 0)),.b wR (.loc "_law_row") (.k (.int 1 0))]) "_law_row" (.loc "_law_due") none),.for_ yO "_law_row" (.b wR (.meth (.loc "_law_store") "changes" [.loc "_law_one",.loc "_law_other"]) (.k (.int 0 0))) [.expr (.m (yc .list) Aw (.b wR (.loc "_law_row") (.k (.int 0 0))) [.k (.str "zz" 0)])],.expr (.m (yc .list) Aw (.b wR (.meth (.loc "_law_store") "changes" [.loc "_law_one",.loc "_law_other"]) (.k (.int 0 0))) [.k (.int 0 0)]),.asg "_law_first" (.meth (.loc "_law_store") "changes" [.loc "_law_one",.loc "_law_other"]),.asg "_law_second" (.meth (.loc "_law_store") "changes" [.loc "_law_other",.loc "_law_one"]),.ret (.and (.call (.glob "_law_told") [.loc "_law_first",.loc "_law_due",.loc "_law_looked_here"]) (.call (.glob "_law_told") [.loc "_law_second",.loc "_law_back",.loc "_law_looked_here"]))]
section
variable {A:Ad}{G:Gx}{l:Loc}{H H':Hp}{Q:QV}{X:XV}{fs:List Str}{σ:SA}{s s':w7}{T:Addr}{k j:Nat}{Ps:List (List Str)}
theorem xR.bt (I:xR A σ T k j H s Ps)(b:Bt T H H')(t:TabAt T H'):xR A σ T k j H' s Ps:=by
 obtain⟨ks,h1,h2⟩:=I.tb
 obtain⟨bvs,p,-⟩:=id I.st.p.ex
 have kp:Kp [T] H H':=λa o e h=>b a o (λz=>by
  rw[z,h1] at e;cases e
  rcases h with h | h
  ·cases h
  ·exact h (aC.2 z)) e
 have nT:∀ a∈σ.M,a∉[T]:=λa ha hT=>by
  rw[aC.1 hT] at ha
  exact absurd ha (aeP (yK h1 I.st.n (λzz=>by cases zz)) (yK h1 I.st.st (λzz=>by cases zz)) (yK h1 p.n (λzz=>by cases zz)) (yK h1 p.b (λzz=>by cases zz)) (yK h1 p.c (λzz=>by cases zz)))
 exact⟨I.st.kp kp nT,I.sw,I.up,I.pl,I.md,I.sh,t⟩
theorem Jx {a:Addr}{o:xH}(t:TabAt T H)(b:Bt T H H')(h:H a=some o)(hn:∀ ks,o≠.tab ks):H' a=some o:=by
 obtain⟨ks,h1,-⟩:=t
 exact b a o (yK h h1 (hn ks)) h
theorem Bx.bt {v:Value}{e:Vt}(h:Bx H v e)(t:TabAt T H)(b:Bt T H H'):Bx H' v e:=by
 obtain⟨a,p,h1,h2,h3⟩:=h;exact⟨a,p,h1,Jx t b h2 (λuu zz=>by cases zz),Jx t b h3 (λuu zz=>by cases zz)⟩
theorem Bt.trans {w:Addr}{H1 H2:Hp}(a:Bt w H H1)(b:Bt w H1 H2):Bt w H H2:=λx o hx e=>b x o hx (a x o hx e)
theorem Bt.fresh {H1:Hp}(b:Bt T H H1){c:Addr}(hc:H c=none)(o:xH):Bt T H (H1.upd c o):=λx p hx e=>(Hp.xJ _ _ λz:x=c=>xr e (z▸hc)).trans (b x p hx e)
theorem TabAt.upd (t:TabAt T H){c:Addr}{xs:List Value}(hc:H c=some (.list xs))(o:xH):TabAt T (H.upd c o):=by
 obtain⟨ks,h1,h2⟩:=t
 exact⟨ks,(Hp.xJ _ _ (yK h1 hc (λzz=>by cases zz))).trans h1,λa ha=>(Hp.xJ _ _ (yK (h2 a ha) hc (λzz=>by cases zz))).trans (h2 a ha)⟩
section
variable {a b:Option Int}{D:List Vt}
theorem Due.node (h:Due s.bs a b D){e:Vt}(he:e∈D):wO s.bs a e.1≠none\/wO s.bs b e.1≠none:=by
 obtain⟨h1,h2,h3⟩:=(h.mem e).1 he
 apply bA
 intro q
 rw[(bA λz=>q (.inl z):wO s.bs a e.1=none)] at h2;rw[(bA λz=>q (.inr z):wO s.bs b e.1=none)] at h3
 exact h1 (h2.trans h3.symm)
theorem Due.aeW (h:Due s.bs a b D)(U:UP Ps s)(ra:Root s a)(rb:Root s b):∀ e∈D,e.1.length<=8:=λe he=>U.or8 ra rb e.1 (h.node he)
theorem Due.size (h:Due s.bs a b D)(U:UP Ps s)(ra:Root s a)(rb:Root s b):D.length<=Ps.length*9:=by
 rw[<-aep]
 refine Vd (λe:Vt=>e.1) (h.up.imp λq z=>by rw[z] at q;exact ZS _ _ q q) λe he=>?_
 exact(h.node he).elim (λz=>(KZ z).elim λuu q=>U.heads ra q) λz=>(KZ z).elim λuu q=>U.heads rb q
end
structure Fy (G:Gx)(A:Ad):Prop where
 ch:aeH G A
 td:aeO G A
 lv:aeM G A
 lk:aeL G A
 dn:aeV G A
 put:U5 G A
 snap:QB G A
 cell:ZX G A
 wL:Zn G A
 top:Nq G A
 U8:ad4 G A
 mc:G.meth (A "Store" "") "changes" = some (A "Store" "changes")
 ms:G.meth (A "Store" "") "snap" = some (A "Store" "snap")
 mn:G.meth (A "Store" "") "shot_numbers" = some (A "Store" "shot_numbers")
theorem N8 (C:Fy G A)(I:xR A σ T k j H s Ps)(hk:k<=70){v w:Option Int}{b c:Int}(hv:Af s v=some b)(hw:Af s w=some c){x y:Ex}(g:l "_law_store" = some (.ref σ.sx))(hx:Ev G x l H (oI v))(hy:Ev G y l H (oI w))(q:∀ t sl zs D H',Vx s b c H H' T t sl zs D->xR A σ T k j H' s Ps->Q (.ref t) H'):Ex.meth (.loc "_law_store") "changes" [x,y] G l H Q X :=
 yx (wH g) I.st.i I.st.n C.mc (by rfl) (w6 hx (w6 hy xM)) (C.ch I.st I.sw I.up (aj hk (by decide)) (aj I.pl (aj (aU hk) (by decide))) I.tb hv hw λt sl zs D H' R=>q t sl zs D H' R (I.bt R.k R.tb))
structure QW (s:w7)(b c:Int)(dl bl:Addr)(ys zs:List Value)(D:List Vt)(H:Hp):Prop where
 d:Due s.bs (some b) (some c) D
 hd:H dl=some (.list ys)
 y:wK (Bx H) ys D
 hb:H bl=some (.list zs)
 z:wK (Bx H) zs (D.map DP)
theorem QW.bt {b c:Int}{dl bl:Addr}{ys zs:List Value}{D:List Vt}(E:QW s b c dl bl ys zs D H)(t:TabAt T H)(k:Bt T H H'):QW s b c dl bl ys zs D H' :=
 ⟨E.d,Jx t k E.hd (λuu zz=>by cases zz),xU (λuu uu z=>z.bt t k) E.y,Jx t k E.hb (λuu zz=>by cases zz),xU (λuu uu z=>z.bt t k) E.z⟩
noncomputable def enB:List Sm:=[.asg "_law_first" (.meth (.loc "_law_store") "changes" [.loc "_law_one",.loc "_law_other"]),.asg "_law_second" (.meth (.loc "_law_store") "changes" [.loc "_law_other",.loc "_law_one"]),.ret (.and (.call (.glob "_law_told") [.loc "_law_first",.loc "_law_due",.loc "_law_looked_here"]) (.call (.glob "_law_told") [.loc "_law_second",.loc "_law_back",.loc "_law_looked_here"]))]
theorem anf (E:zx G A fs)(hf:has "_law_told" fs=true)(C:Fy G A)(I:xR A σ T k j H s Ps)(hk:k<=70){v w:Option Int}{b c:Int}(hv:Af s v=some b)(hw:Af s w=some c){dl bl:Addr}{ys zs:List Value}{D:List Vt}(N:QW s b c dl bl ys zs D H)(g1:l "_law_store" = some (.ref σ.sx))(g2:l "_law_one" = some (oI v))(g3:l "_law_other" = some (oI w))(g4:l "_law_due" = some (.ref dl))(g5:l "_law_back" = some (.ref bl))(g6:l "_law_looked_here" = some (.int ((vis s.bs 9 ([],some b,some c)).length:Int) 0))
  (q:∀ H',TabAt T H'->Q (.bool true) H'):wM G enB l H (fq Q) (fx X):=by
 have rb:=Bd (GK hv)
 have rc:=Bd (GK hw)
 have d8:=N.d.aeW I.up rb rc
 have dz:D.length<=2000:=aj (N.d.size I.up rb rc) (aj (dg 9 (aj I.pl (aU hk))) (by decide))
 refine xX (N8 C I hk hv hw g1 (wH g2) (wH g3) λt1 sl1 zs1 D1 H1 R1 I1=>?_)
 obtain rfl:=R1.d.eq N.d
 have N1:=N.bt I.tb R1.k
 refine xX (N8 C I1 hk hw hv (l:=l.upd "_law_first" (.ref t1)) g1 (wH g3) (wH g2) λt2 sl2 zs2 D2 H2 R2 I2=>?_)
 obtain rfl:=R2.d.eq N1.d.sw
 have N2:=N1.bt I1.tb R2.k
 have ev:(vis s.bs 9 ([],some c,some b)).length=(vis s.bs 9 ([],some b,some c)).length:=by
  rw[show(([],some c,some b):Vt)=DP ([],some b,some c) from rfl,alW,aA]
 refine zm (w_call (g:=.glob "_law_told") (Am (E.fn hf).1) (E.fn hf).2 (w6 (wH rfl) (w6 (wH g4) (w6 (wH g6) xM))) (C.td (⟨Jx I1.tb R2.k R1.ht (λuu zz=>by cases zz),Jx I1.tb R2.k R1.hsl (λuu zz=>by cases zz),N2.hd,xU (λuu uu z=>(z.imp λuu uu=>trivial).bt I1.tb R2.k) R1.r,N2.y⟩:HS H2 t1 sl1 dl (vis s.bs 9 ([],some b,some c)).length zs1 ys D1) d8 dz λH3 k3=>Mw (w_call (Am (E.fn hf).1) (E.fn hf).2 (w6 (wH rfl) (w6 (wH g5) (w6 (wH g6) xM))) (C.td ((⟨ev▸R2.ht,R2.hsl,N2.hb,xU (λuu uu z=>z.imp λuu uu=>trivial) R2.r,N2.z⟩:HS H2 t2 sl2 bl (vis s.bs 9 ([],some b,some c)).length zs2 zs (D1.map DP)).kp k3) (λe he=>?_) (by rw[aA];exact dz) λH4 k4=>q _ (TabAt.yp I2.tb (k3.trans k4))))))
 obtain⟨x,hx,rfl⟩:=aO.1 he
 exact d8 x hx
noncomputable def z2B:Sm:=.expr (.m (yc .list) Aw (.b wR (.meth (.loc "_law_store") "changes" [.loc "_law_one",.loc "_law_other"]) (.k (.int 0 0))) [.k (.int 0 0)])
theorem ang (C:Fy G A)(I:xR A σ T k j H s Ps)(hk:k<=70){v w:Option Int}{b c:Int}(hv:Af s v=some b)(hw:Af s w=some c)(g1:l "_law_store" = some (.ref σ.sx))(g2:l "_law_one" = some (oI v))(g3:l "_law_other" = some (oI w)){r:List Sm}{Q:QS}{X:XS}(q:∀ H',Bt T H H'->xR A σ T k j H' s Ps->wM G r l H' Q X):wM G (z2B::r) l H Q X:=by
 refine Ao (N8 C I hk hv hw g1 (wH g2) (wH g3) λt sl zs D H1 R I1=>xO wI (Fe (o:=.tup) R.ht (by decide) rfl ⟨yr R.hsl trivial,xW (xO wI (yR (Kq R.hsl ?_ (q _ (R.k.fresh R.s0 _) (I.bt (R.k.fresh R.s0 _) (TabAt.upd R.tb R.hsl _))))))⟩))
 rw[zp R.r]
 exact aj (R.d.size I.up (Bd (GK hv)) (Bd (GK hw))) (aj (dg 9 (aj I.pl (aU hk))) (by decide))
theorem anh {α β:Type}{R:α->β->Prop}{xs:List α}{ys:List β}(h:wK R xs ys){x:α}(hx:x∈xs):∃ y,y∈ys/\R x y:=by
 induction h with
 | nil=>cases hx
 | cons h1 _ ih =>
  rcases aM.1 hx with rfl | hx
  ·exact⟨_,.head _,h1⟩
  ·obtain⟨y,h2,h3⟩:=ih hx
   exact⟨y,.tail _ h2,h3⟩
def ZzR (H0:Hp)(sl:Addr)(n:Nat)(H:Hp)(v:Value):Prop:=∃ t pl xs vs,v=.ref t/\H t=some (.tup (.ref pl::vs))/\H pl=some (.list xs)/\xs.length<=n/\H0 pl=none/\pl≠sl
structure ZzI (H0:Hp)(T sl:Addr)(zs:List Value)(n m:Nat)(rs:List Value)(l0 l:Loc)(H:Hp):Prop where
 k:Bt T H0 H
 t:TabAt T H
 hsl:H sl=some (.list zs)
 z:∀ v∈rs,ZzR H0 sl n H v
 n:n+rs.length=m
 gl:∀ x:Str,x≠"_law_row"->l x=l0 x
noncomputable def z1B:Sm:=.for_ yO "_law_row" (.b wR (.meth (.loc "_law_store") "changes" [.loc "_law_one",.loc "_law_other"]) (.k (.int 0 0))) [.expr (.m (yc .list) Aw (.b wR (.loc "_law_row") (.k (.int 0 0))) [.k (.str "zz" 0)])]
theorem ani (C:Fy G A)(I:xR A σ T k j H s Ps)(hk:k<=70){v w:Option Int}{b c:Int}(hv:Af s v=some b)(hw:Af s w=some c)(g1:l "_law_store" = some (.ref σ.sx))(g2:l "_law_one" = some (oI v))(g3:l "_law_other" = some (oI w)){r:List Sm}{Q:QS}{X:XS}(q:∀ l' H',Bt T H H'->xR A σ T k j H' s Ps->(∀ x:Str,x≠"_law_row"->l' x=l x)->wM G r l' H' Q X):wM G (z1B::r) l H Q X:=by
 refine Mz (zf (N8 C I hk hv hw g1 (wH g2) (wH g3) λt sl zs D H1 R I1=>xO wI (Fe (o:=.tup) R.ht (by decide) rfl (GD R.hsl ?_))))
 have rb:=Bd (GK hv)
 have rc:=Bd (GK hw)
 refine Ku (λrs l' H'=>∃ n,ZzI H T sl zs n (8+zs.length) rs l l' H') (λrs l' H' h=>h.elim λn J=>J.hsl) (λu rs l' H' h K hK=>?_) (λl' H' h=>h.elim λn J=>q l' H' J.k (I.bt J.k J.t) J.gl) ⟨8,R.k,R.tb,R.hsl,λu hu=>?_,rfl,λuu uu=>rfl⟩
 ·obtain⟨n,J⟩:=h
  obtain⟨t1,pl,xs,vs,rfl,h1,h2,h3,h4,h5⟩:=J.z u (.head _)
  refine Ao (ajc (xQ (wH rfl) wI h1 (by decide) rfl) wI h2 (aj h3 (aj (aj (aF _ _) (aj (bI J.n) (aL (show zs.length<=2000 from by rw[zp R.r];exact aj (R.d.size I.up rb rc) (aj (dg 9 (aj I.pl (aU hk))) (by decide))) 8)):n<=2008) (by decide))) (yZ (hK.nx _ _ ⟨n+1,J.k.fresh h4 _,TabAt.upd J.t h2 _,(Hp.xJ _ _ (cH h5)).trans J.hsl,λu hu=>?_,by rw[<-J.n,dF,cA];rfl,λx hx=>(if_neg hx).trans (J.gl x hx)⟩)))
  obtain⟨t2,pl2,xs2,vs2,e1,e2,e3,e4,e5,e6⟩:=J.z u (.tail _ hu)
  have e2:=(Hp.xJ H' (.list (xs++[.str "zz" 0])) (yK e2 h2 (λzz=>by cases zz))).trans e2
  by_cases z:pl2=pl
  ·exact⟨t2,pl2,_,vs2,e1,e2,by rw[z];exact Hp.wQ _ _ _,by rw[aG];exact aU h3,e5,e6⟩
  ·exact⟨t2,pl2,xs2,vs2,e1,e2,(Hp.xJ _ _ z).trans e3,dR e4,e5,e6⟩
 ·obtain⟨e,he,t1,pl,h1,h2,h3,h4,h5⟩:=anh R.r hu
  exact⟨t1,pl,_,_,h1,h2,h3,by rw[aA];exact(R.d.aeW I.up rb rc) e he,h4,h5⟩
end
section
variable {A:Ad}{G:Gx}{l:Loc}{H H':Hp}{Q:QV}{X:XV}{fs:List Str}{σ:SA}{s s':w7}{T:Addr}{k j:Nat}{Ps:List (List Str)}
noncomputable abbrev Jy (s:w7)(b:Int):List (List Str×Int):=Jt s.bs (vis s.bs 9 ([],some b,none))
theorem UP.aeX (U:UP Ps s){b:Int}(hb:b∈s.roots)(p:List Str):((Jy s b).find? λx=>decide (x.1=p)).map (·.2)=xq s.bs (wO s.bs (some b) p):=by
 cases e:(Jy s b).find? λx=>decide (x.1=p) with
 | none =>
  cases q:xq s.bs (wO s.bs (some b) p) with
  | none=>rfl
  | some m =>
   have:=kE.1 e _ ((U.NZ hb).2 q)
   exact absurd (decide_eq_true rfl) this
 | some x =>
  have hp:=rO e
  have hp:x.1=p:=of_decide_eq_true hp
  have:=(U.NZ hb).1 (jU e)
  rw[hp] at this
  exact this.symm
theorem aeY {x y:Ex}{c p:Addr}{F:List (List Str×Int)}{kvs:Fj}{t:List Str}(hx:Ev G x l H (.ref c))(hy:Ev G y l H (.ref p))(d:Ab H c F kvs)(hp:H p=some (.tup (sV t))):Ev G (.m (yc .Ai) Je x [y,.k .none]) l H (oI ((F.find? λx=>decide (x.1=t)).map (·.2))) :=
 λQ X q=>hx _ X ⟨yr d.at_ trivial,hy _ X (show Cz G [.k .none] l H _ _ from yr d.at_ ⟨_,_,rfl,yr hp ⟨t,rfl,d.k,d.get t▸q⟩⟩)⟩
theorem Ab.bt {c w:Addr}{F:List (List Str×Int)}{kvs:Fj}(h:Ab H c F kvs){xs:List Value}(hw:H w=some (.list xs))(k:Bt w H H'):Ab H' c F kvs :=
 ⟨k _ _ (yK h.at_ hw (λzz=>by cases zz)) h.at_,λx hx=>k _ _ (yK (h.k x hx) hw (λzz=>by cases zz)) (h.k x hx),h.f⟩
noncomputable def gL:Ex:=.m (yc .Ai) Je (.loc "_law_left") [.loc "_law_path",.k .none]
noncomputable def gR:Ex:=.m (yc .Ai) Je (.loc "_law_right") [.loc "_law_path",.k .none]
noncomputable def duB:List Sm:=[.ite (.b Ip gL gR) [.expr (.m (yc .list) Aw (.loc "_law_due") [.n zu [.loc "_law_path",gL,gR]])] []]
structure DuI (H1:Hp)(dl:Addr)(D:List Vt)(rs:List Value)(r:List (List Str))(l0 l:Loc)(H:Hp):Prop where
 k:Bt dl H1 H
 w:∃ es,H dl=some (.list es)/\wK (Bx H) es D
 a:wK (TupAt H1) rs r
 gl:∀ x:Str,x≠"_law_path"->l x=l0 x
section
variable {b c:Int}{dl c1 c2:Addr}{k1 k2:Fj}{D:List Vt}
theorem Bx.bt1 {v:Value}{e:Vt}{w:Addr}(h:Bx H v e){xs:List Value}(hw:H w=some (.list xs))(k:Bt w H H'):Bx H' v e:=by
 obtain⟨a,p,h1,h2,h3⟩:=h;exact⟨a,p,h1,k _ _ (yK h2 hw (λzz=>by cases zz)) h2,k _ _ (yK h3 hw (λzz=>by cases zz)) h3⟩
theorem anj (U:UP Ps s)(rb:b∈s.roots)(rc:c∈s.roots){H1:Hp}{l0:Loc}{e0:List Value}(h0:H1 dl=some (.list e0))(d1:Ab H1 c1 (Jy s b) k1)(d2:Ab H1 c2 (Jy s c) k2)(g1:l0 "_law_left" = some (.ref c1))(g2:l0 "_law_right" = some (.ref c2))(g3:l0 "_law_due" = some (.ref dl)){v:Value}{rs:List Value}{t:List Str}{r:List (List Str)}(J:DuI H1 dl D (v::rs) (t::r) l0 l H)(hD:D.length<=2000){K:QS}{XX:XS}
  (q:∀ H',DuI H1 dl (D++(Js s.bs (some b) (some c) t).toList) rs r l0 (l.upd "_law_path" v) H'->K .next (l.upd "_law_path" v) H'):wM G duB (l.upd "_law_path" v) H K XX:=by
 have Ja:=J.a
 cases Ja with
 | cons ha hr =>
 obtain⟨p,rfl,hp0⟩:=ha
 obtain⟨es,w1,w2⟩:=J.w
 have gl:∀ x:Str,x≠"_law_path"->(l.upd "_law_path" (.ref p)) x=l0 x:=λx hx=>(if_neg hx).trans (J.gl x hx)
 have hp:=J.k _ _ (yK hp0 h0 (λzz=>by cases zz)) hp0
 have e1:Ev G gL (l.upd "_law_path" (.ref p)) H (oI (xq s.bs (wO s.bs (some b) t))):=U.aeX rb t▸aeY (wH ((gl _ (by decide +kernel)).trans g1)) (wH rfl) (d1.bt h0 J.k) hp
 have e2:Ev G gR (l.upd "_law_path" (.ref p)) H (oI (xq s.bs (wO s.bs (some c) t))):=U.aeX rc t▸aeY (wH ((gl _ (by decide +kernel)).trans g2)) (wH rfl) (d2.bt h0 J.k) hp
 unfold Js at q
 refine CV (b:=!decide (xq s.bs (wO s.bs (some b) t)=xq s.bs (wO s.bs (some c) t))) (SX e1 e2 rfl) (λhb=>?_) λhb=>zG (yZ (q H ?_))
 ·have hb:¬xq s.bs (wO s.bs (some b) t)=xq s.bs (wO s.bs (some c) t):=of_decide_eq_false ((gV _).mp hb)
  rw[if_neg hb] at q
  refine Ao (Mv (wH ((gl _ (by decide +kernel)).trans g3)) w1 (Mu (w6 (wH rfl) (w6 e1 (w6 e2 xM))) (ao rfl) λt4 Z5=>?_))
  have k4:Kp [] H (H.upd t4 (.tup [.ref p,oI (xq s.bs (wO s.bs (some b) t)),oI (xq s.bs (wO s.bs (some c) t))])):=wW Z5 _
  have e4:=Hp.wQ H t4 (.tup [.ref p,oI (xq s.bs (wO s.bs (some b) t)),oI (xq s.bs (wO s.bs (some c) t))])
  generalize H.upd t4 (.tup [.ref p,oI (xq s.bs (wO s.bs (some b) t)),oI (xq s.bs (wO s.bs (some c) t))])=H4 at k4 e4 ⊢
  have w4:=k4.list w1
  refine Kq w4 (zy (by rw[zp w2];exact aj hD (by decide))) (zG (yZ (q _ ⟨λa o hne h=>HN _ a o hne (k4.bt a o hne (J.k a o hne h)),⟨_,Hp.wQ _ _ _,Ek (xU (λuu uu z=>(z.kp k4).bt1 w4 (HN _)) w2) (.cons (Bx.bt1 (e:=(t,_,_)) ⟨t4,p,rfl,e4,k4.tup hp⟩ w4 (HN _)) .nil)⟩,hr,gl⟩)))
 ·skip
  rw[if_pos (of_decide_eq_true (by rw[<-qu];exact hb):xq s.bs (wO s.bs (some b) t)=xq s.bs (wO s.bs (some c) t)),pW,aY]
  exact⟨J.k,⟨es,w1,w2⟩,hr,gl⟩
theorem aeZ {H:Hp}{kvs:Fj}(h:Qi H kvs):wK (TupAt H) (kvs.map λx=>.ref x.2.1) (kvs.map (·.1)):=by
 induction kvs with
 | nil=>exact .nil
 | cons x kvs ih=>exact .cons ⟨_,rfl,h x (.head _)⟩ (ih λy hy=>h y (.tail _ hy))
theorem Ab.keys {F:List (List Str×Int)}(d:Ab H c1 F k1):k1.map (·.1)=F.map (·.1):=by
 have:=congrArg (nC (·.1)) d.f
 rw[bY,bY] at this
 exact this
theorem TupAt.kp {M:List Addr}{v:Value}{t:List Str}(k:Kp M H H')(h:TupAt H v t):TupAt H' v t:=by
 obtain⟨a,h1,h2⟩:=h;exact⟨a,h1,k.tup h2⟩
noncomputable def duF:Sm:=.for_ yO "_law_path" (.u Tq (.b BX (.u Qk (.loc "_law_left")) (.u Qk (.loc "_law_right")))) duB
theorem VH (w:SW k s)(U:UP Ps s)(rb:b∈s.roots){p:List Str}(hp:p∈(Jy s b).map (·.1)):p≠[]/\p∈Ps:=by
 obtain⟨x,hx,rfl⟩:=aO.1 hp
 have hm:=(U.NZ rb).1 hx
 refine⟨λz=>?_,U.al3 rb x hx⟩
 rw[z] at hm
 obtain⟨rows,hr⟩:=w.rt b rb
 have hm:xq s.bs (some b)=some x.2:=hm
 rw[(Ju hr).1] at hm
 cases hm
theorem ank (w:SW k s)(U:UP Ps s)(hP:Ps.length<=71)(rb:b∈s.roots)(rc:c∈s.roots)(h0:H dl=some (.list []))(d1:Ab H c1 (Jy s b) k1)(d2:Ab H c2 (Jy s c) k2)(g1:l "_law_left" = some (.ref c1))(g2:l "_law_right" = some (.ref c2))(g3:l "_law_due" = some (.ref dl)){r:List Sm}{Q:QS}{XX:XS}
  (q:∀ l' H' es D,Bt dl H H'->H' dl=some (.list es)->wK (Bx H') es D->Due s.bs (some b) (some c) D->(∀ x:Str,x≠"_law_path"->l' x=l x)->wM G r l' H' Q XX):wM G (duF::r) l H Q XX:=by
 have kz:∀ {F kvs c},Ab H c F kvs->F.length<=900->kvs.length<=900:=λ{F kvs c} d hF=>by
  have:=congrArg m7 d.f
  rw[aA,aA] at this
  rw[this];exact hF
 have fz:∀ b∈s.roots,(Jy s b).length<=900:=λb hb=>aj (iY ..) (aj (U.Vh (Bd hb) (λuu z=>(by cases z))) (aj (dg 9 hP) (by decide)))
 have z1:=kz d1 (fz b rb)
 have z2:=kz d2 (fz c rc)
 refine Mz (Dj (zf (Dj (xO (wH g1) (yr d1.at_ ⟨aj z1 (by decide),λx1 hx1=>Dj (xO (wH g2) (yr (Hp.Fg d2.at_ hx1) ⟨aj z2 (by decide),λx2 hx2=>Hy (Hp.Fg (Hp.wQ _ _ _) hx2) (Hp.wQ _ _ _) ?_ λx3 hx3=>yr (Hp.wQ _ _ _) ?_⟩))⟩)))))
 ·rw[aA,aA];exact aj (cI z1 z2) (by decide)
 have kx:=(wW (M:=[]) hx1 _).trans ((wW (M:=[]) hx2 _).trans (wW (M:=[]) hx3 (.list ((k1.map λx=>jz x.2.1)++k2.map λx=>jz x.2.1))))
 generalize Hp.upd (Hp.upd (Hp.upd H x1 (.list (k1.map λx=>jz x.2.1))) x2 (.list (k2.map λx=>jz x.2.1))) x3 (.list ((k1.map λx=>jz x.2.1)++k2.map λx=>jz x.2.1))=H1 at kx ⊢
 refine⟨k1.map (·.1)++k2.map (·.1),Ps,Ek (xU (λuu uu z=>TupAt.kp kx z) (aeZ d1.k)) (xU (λuu uu z=>TupAt.kp kx z) (aeZ d2.k)),λp hp=>?_,aj hP (by decide),?_,λys ts ha hs hm x4 hx4=>?_⟩
 ·rw[d1.keys,d2.keys] at hp
  exact(aR.1 hp).elim (VH w U rb) (VH w U rc)
 ·rw[aG,aA,aA];exact aj (cI z1 z2) (by decide)
 have k4:Kp [] H1 (H1.upd x4 (.list ys)):=wW hx4 _
 have e4:=Hp.wQ H1 x4 (.list ys)
 have ha:=xU (λuu uu z=>TupAt.kp k4 z) ha
 generalize H1.upd x4 (.list ys)=H2 at k4 e4 ha ⊢
 have kk:=kx.trans k4
 have h2:=kk.list h0
 have tz:ts.length<=2000:=aj (Vd (λx:List Str=>x) (l:=ts) (U:=Ps) (hs.imp λq z=>by rw[z] at q;exact ZS _ _ q q) λp hp=>by
  have hp:=(hm p).1 hp
  rw[d1.keys,d2.keys] at hp
  exact((aR.1 hp).elim (VH w U rb) (VH w U rc)).2) (aj hP (by decide))
 have due:Due s.bs (some b) (some c) (ts.filterMap (Js s.bs (some b) (some c))):=al2 hs λp hp=>(hm p).2 (by
  rw[d1.keys,d2.keys]
  exact aR.2 (hp.imp (λz=>(KZ z).elim λm q=>aO.2 ⟨_,(U.NZ rb).2 q,rfl⟩) λz=>(KZ z).elim λm q=>aO.2 ⟨_,(U.NZ rc).2 q,rfl⟩))
 refine GD e4 (Ku (λrs l' H'=>∃ d r,ts=d++r/\DuI H2 dl (d.filterMap (Js s.bs (some b) (some c))) rs r l l' H') (λrs l' H' h=>?_) (λv rs l' H' h K hK=>?_) (λl' H' h=>?_) ⟨[],ts,rfl,λuu uu uu h=>h,⟨[],h2,.nil⟩,ha,λuu uu=>rfl⟩)
 ·obtain⟨d,r,_,J⟩:=h
  exact J.k _ _ (λz=>xr (kx.list h0) (z▸hx4):x4≠dl) e4
 ·obtain⟨d,r,e,J⟩:=h
  cases r with
  | nil=>have Ja:=J.a;cases Ja
  | cons t r =>
   refine anj U rb rc h2 (d1.kp kk) (d2.kp kk) g1 g2 g3 J (aj (iY ..) (aj (aj (aF _ _) (bI ((aG (as:=d) (bs:=t::r)).symm.trans (congrArg m7 e.symm)))) tz)) λH3 J3=>hK.nx _ _ ⟨d++[t],r,by rw[aP];exact e,?_⟩
   rw[Z6];exact J3
 ·obtain⟨d,r,e,J⟩:=h
  have Ja:=J.a
  cases Ja
  rw[aY] at e
  subst e
  obtain⟨es,w1,w2⟩:=J.w
  exact q l' H' es _ (λa o hne h=>J.k a o hne (kk.bt a o hne h)) w1 w2 due J.gl
end
end
section
variable {A:Ad}{G:Gx}{l:Loc}{H H':Hp}{Q:QV}{X:XV}{fs:List Str}{σ:SA}{s s':w7}{T:Addr}{k j:Nat}{Ps:List (List Str)}
structure BkI (H0:Hp)(rs acc:List Value)(H:Hp)(d r:List Vt):Prop where
 k:Kp [] H0 H
 r:wK (Bx H) rs r
 a:wK (Bx H) acc (d.map DP)
theorem anl {dl:Addr}{es:List Value}{D:List Vt}(hd:H dl=some (.list es))(y:wK (Bx H) es D)(hz:D.length<=2000)(g:l "_law_due" = some (.ref dl))(q:∀ bl zs H',Kp [] H H'->H' bl=some (.list zs)->wK (Bx H') zs (D.map DP)->Q (.ref bl) H'):Ex.comp yO (.n zu [.b wR (.loc "_law_row") (.k (.int 0 0)),.b wR (.loc "_law_row") (.k (.int 2 0)),.b wR (.loc "_law_row") (.k (.int 1 0))]) "_law_row" (.loc "_law_due") none G l H Q X:=by
 refine Yk (λrs acc H'=>∃ d r,D=d++r/\BkI H rs acc H' d r) (wH g) hd (by rw[zp y];exact aj hz (by decide)) (λrs acc H' h=>?_) (λv rs acc H' h K hK=>?_) ⟨[],D,rfl,Kp.refl _ _,y,.nil⟩ λacc H' h c hc=>?_
 ·obtain⟨d,r,_,J⟩:=h
  exact J.k.list hd
 ·obtain⟨d,r,e,J⟩:=h
  have Jr:=J.r
  cases Jr with
  | @cons _ x _ r hv hr =>
  obtain⟨a,p,rfl,h1,h2⟩:=hv
  refine Mu (w6 (xQ (wH rfl) wI h1 (by decide) rfl) (w6 (xQ (wH rfl) wI h1 (by decide) rfl) (w6 (xQ (wH rfl) wI h1 (by decide) rfl) xM))) (ao rfl) λt ht=>hK _ _ ⟨d++[x],r,by rw[aP];exact e,?_⟩
  have kt:Kp [] H' (H'.upd t (.tup [.ref p,oI x.2.2,oI x.2.1])):=wW ht _
  refine⟨J.k.trans kt,xU (λuu uu z=>z.kp kt) hr,?_⟩
  rw[aX]
  exact Ek (xU (λuu uu z=>z.kp kt) J.a) (.cons ⟨t,p,rfl,Hp.wQ _ _ _,kt.tup h2⟩ .nil)
 ·obtain⟨d,r,e,J⟩:=h
  have Jr:=J.r
  cases Jr
  rw[aY] at e
  subst e
  have kc:Kp [] H' (H'.upd c (.list acc)):=wW hc _
  exact q c acc _ (J.k.trans kc) (Hp.wQ _ _ _) (xU (λuu uu z=>z.kp kc) J.a)
noncomputable def K5 (s:w7):List Value:=j5::iV (s.wL.map (·.1))
theorem anm {v:Value}(h:v∈K5 s):∃ o b,v=oI o/\Af s o=some b:=by
 rcases aM.1 h with rfl | h
 ·exact⟨none,s.tree,rfl,rfl⟩
 ·obtain⟨n,hn,rfl⟩:=aO.1 h
  obtain⟨b,hb⟩:=Ba hn
  exact⟨some n,b,rfl,hb⟩
theorem ae0 (E:zx G A fs)(hf:has "_law_cell_at" fs=true)(C:ZX G A){a vl:Addr}{ns:List Int}(ha:H a=some (.rlist (ns.map λn=>cL n 0)))(hv:H vl=some (.list (K5 s))){i:Nat}{m:Int}(hm:0<m/\m<2^63)(g1:l "_law_script" = some (.ref a))(g2:l "_law_views" = some (.ref vl))(q:∀ o b,Af s o=some b->Q (oI o) H) :
  Ex.b yw (.loc "_law_views") (.b yj (.b yQ (.call (.glob "_law_cell_at") [.loc "_law_script",.k (.int (i:Int) 0)]) (.k (.int m 0))) (.u CJ (.loc "_law_views"))) G l H Q X:=by
 have pos:(0:Int)<((K5 s).length:Nat):=iC.2 (eU _)
 refine zf (xO (wH g2) (zf (zf (w_call (Am (E.fn hf).1) (E.fn hf).2 (w6 (wH g1) (w6 wI xM)) (C ha λc=>xO wI (Gh hm (xO (Fd (wH g2) hv) (Gh pos ?_))))))))
 have ml:=mod_lt (c/m) pos
 obtain⟨v,h1,h2⟩:=Vo ml.1 ml.2
 obtain⟨o,b,rfl,hb⟩:=anm h2
 exact Fe hv ml.1 h1 (q o b hb)
noncomputable def miB:List Sm:=[.asg "_law_tops" (.n yu [.meth (.loc "_law_store") "top" [.loc "_law_one"],.meth (.loc "_law_store") "top" [.loc "_law_other"]]),.asg "_law_left" (.call (.glob "_law_leaves") [.attr (.loc "_law_store") "pile",.b yw (.loc "_law_tops") (.k (.int 0 0))]),.asg "_law_right" (.call (.glob "_law_leaves") [.attr (.loc "_law_store") "pile",.b yw (.loc "_law_tops") (.k (.int 1 0))]),.asg "_law_due" (.n yu []),duF,.asg "_law_looked_here" (.call (.glob "_law_looked") [.attr (.loc "_law_store") "pile",.b yw (.loc "_law_tops") (.k (.int 0 0)),.b yw (.loc "_law_tops") (.k (.int 1 0))]),.asg "_law_back" (.comp yO (.n zu [.b wR (.loc "_law_row") (.k (.int 0 0)),.b wR (.loc "_law_row") (.k (.int 2 0)),.b wR (.loc "_law_row") (.k (.int 1 0))]) "_law_row" (.loc "_law_due") none)]
theorem ano (F:xu G A)(E:zx G A fs)(h1:has "_law_leaves" fs=true)(h2:has "_law_looked" fs=true)(h3:has "_law_told" fs=true)(C:Fy G A)(I:xR A σ T k j H s Ps)(hk:k<=70){v w:Option Int}{b c:Int}(hv:Af s v=some b)(hw:Af s w=some c)(g1:l "_law_store" = some (.ref σ.sx))(g2:l "_law_one" = some (oI v))(g3:l "_law_other" = some (oI w))(q:∀ H',TabAt T H'->Q (.bool true) H'):wM G (miB++(z1B::z2B::enB)) l H (fq Q) (fx X):=by
 have rb:=GK hv
 have rc:=GK hw
 have aae:k<=100:=aj hk (by decide)
 have p71:Ps.length<=71:=aj I.pl (aU hk)
 have aaf:Ps.length<=100:=aj p71 (by decide)
 have st:=I.st
 refine xX (Ay (xW (yx (wH g1) st.i st.n (by nest_cls) (by rfl) (w6 (wH g2) xM) (C.top st hv (xW (yx (wH g1) st.i st.n (by nest_cls) (by rfl) (w6 (wH g3) xM) (C.top st hw (yR ⟨ao rfl,λtp htp=>?_⟩))))))))
 have kt:Kp [] H (H.upd tp (.list [.int b 0,.int c 0])):=wW htp _
 have et:=Hp.wQ H tp (.list [.int b 0,.int c 0])
 have I:=I.stay (aD _) (aD _) kt
 clear st
 generalize H.upd tp (.list [.int b 0,.int c 0])=H1 at kt et I ⊢
 have st:=I.st
 refine xX (w_call (Am (E.fn h1).1) (E.fn h1).2 (w6 (SM (wH g1) st.i st.n (by nest_cls) rfl rfl) (w6 (xQ (wH rfl) wI et (by decide) rfl) xM)) (C.lv st I.sw I.up aae aaf rb λc1 kv1 H2 k2 d1=>?_))
 have I2:=I.stay (aD _) (aD _) k2
 have VJ:=k2.list et
 have st2:=I2.st
 refine xX (w_call (Am (E.fn h1).1) (E.fn h1).2 (w6 (SM (wH g1) st2.i st2.n (by nest_cls) rfl rfl) (w6 (xQ (wH rfl) wI VJ (by decide) rfl) xM)) (C.lv st2 I.sw I.up aae aaf rc λc2 kv2 H3 k3 d2=>?_))
 refine xX (Di xM (ao rfl) λdl hdl=>?_)
 have k4:Kp [] H3 (H3.upd dl (.list [])):=wW hdl _
 have e4:=Hp.wQ H3 dl (.list [])
 have I4:=I2.stay (aD _) (aD _) (k3.trans k4)
 have et4:=(k3.trans k4).list VJ
 have ntd:tp≠dl:=λz=>xr (k3.list VJ) (z▸hdl)
 have d14:=d1.kp (k3.trans k4)
 have d24:=d2.kp k4
 generalize H3.upd dl (.list [])=H4 at k4 e4 I4 et4 d14 d24 ⊢
 refine ank I.sw I.up p71 rb rc e4 d14 d24 rfl rfl rfl λl5 H5 es D b5 e5 y5 due QX=>?_
 have tb4:=I4.tb
 have kp5:Kp [] H3 H5:=λa o h uu=>b5 a o ((λa o h z=>xr h (z▸hdl):∀ a o,H3 a=some o->a≠dl) a o h) (k4.all h)
 have I5:=I2.stay (aD _) (aD _) (k3.trans kp5)
 have et5:=(k3.trans kp5).list VJ
 have Bf:=I5.st
 have gt:l5 "_law_tops" = some (.ref tp):=QX _ (by decide +kernel)
 have gs:l5 "_law_store" = some (.ref σ.sx):=(QX _ (by decide +kernel)).trans g1
 refine xX (w_call (Am (E.fn h2).1) (E.fn h2).2 (w6 (SM (wH gs) Bf.i Bf.n (by nest_cls) rfl rfl) (w6 (xQ (wH gt) wI et5 (by decide) rfl) (w6 (xQ (wH gt) wI et5 (by decide) rfl) xM))) (C.lk Bf I.sw I.up aae aaf rb rc λH6 k6=>?_))
 have gd:l5 "_law_due" = some (.ref dl):=QX _ (by decide +kernel)
 refine xX (anl (k6.list e5) (xU (λuu uu z=>z.kp k6) y5) (aj (due.size I.up (Bd rb) (Bd rc)) (aj (dg 9 p71) (by decide)):D.length<=2000) (l:=l5.upd "_law_looked_here" (.int ((vis s.bs 9 ([],some b,some c)).length:Int) 0)) gd λbl zs H7 k7 hb hz=>?_)
 have I7:=I5.stay (aD _) (aD _) (k6.trans k7)
 have go:l5 "_law_one" = some (oI v):=(QX _ (by decide +kernel)).trans g2
 have gw:l5 "_law_other" = some (oI w):=(QX _ (by decide +kernel)).trans g3
 refine ani C I7 hk hv hw (l:=(l5.upd "_law_looked_here" (.int ((vis s.bs 9 ([],some b,some c)).length:Int) 0)).upd "_law_back" (.ref bl)) gs go gw λl8 H8 b8 I8 GP=>?_
 have gl:∀ x:Str,x≠"_law_row"->l8 x=_:=GP
 refine ang C I8 hk hv hw ((GP _ (by decide +kernel)).trans gs) ((GP _ (by decide +kernel)).trans go) ((GP _ (by decide +kernel)).trans gw) λH9 b9 I9=>?_
 exact anf E h3 C I9 hk hv hw (((⟨due,(k6.trans k7).list e5,xU (λuu uu z=>z.kp (k6.trans k7)) y5,hb,hz⟩:QW s b c dl bl es zs D H7).bt I7.tb b8).bt I8.tb b9) ((GP _ (by decide +kernel)).trans gs) ((GP _ (by decide +kernel)).trans go) ((GP _ (by decide +kernel)).trans gw) ((GP _ (by decide +kernel)).trans gd) (GP _ (by decide +kernel)) (GP _ (by decide +kernel)) q
end
section
variable {A:Ad}{G:Gx}{l:Loc}{H H':Hp}{Q:QV}{X:XV}{fs:List Str}{σ:SA}{s s':w7}{T:Addr}{k j:Nat}{Ps:List (List Str)}
noncomputable abbrev Oa (ns:List Int):xH:=.rlist (ns.map λn=>cL n 0)
structure K6 (A:Ad)(σ:SA)(T a:Addr)(ns:List Int)(k j:Nat)(l:Loc)(H:Hp):Prop where
 I:∃ s Ps,xR A σ T k j H s Ps
 sc:H a=some (Oa ns)
 g1:l "_law_store" = some (.ref σ.sx)
 g2:l "_law_script" = some (.ref a)
noncomputable def ddC:List Sm:=[.expr (.meth (.loc "_law_store") "changes" [.k .none,.b yw (.loc "_law_shots") (.k (.int 0 0))]),.expr (.meth (.loc "_law_store") "changes" [.b LK (.loc "_law_shots") (.k (.int (-1) 0)),.k .none])]
theorem anp (C:Fy G A)(I:xR A σ T k j H s Ps)(hk:k<=70){c:Addr}(hs:s.wL≠[])(hc:H c=some (.list (iV (s.wL.map (·.1)))))(g1:l "_law_store" = some (.ref σ.sx))(g2:l "_law_shots" = some (.ref c)){K:QS}{XX:XS}(q:∀ H',Bt T H H'->xR A σ T k j H' s Ps->K .next l H'):wM G ddC l H K XX:=by
 obtain⟨n0,b0,h0,e0⟩:∃ n b,get s.wL n=some b/\(iV (s.wL.map (·.1)))[(0:Int).toNat]?=some (.int n 0):=by
  cases e:s.wL with
  | nil=>exact absurd e hs
  | cons p r=>exact⟨p.1,p.2,by rw[Dm,if_pos rfl],rfl⟩
 obtain⟨n1,b1,h1,e1⟩:∃ n b,get s.wL n=some b/\(iV (s.wL.map (·.1))).getLast?=some (.int n 0):=by
  refine Dr λgg kk=>?_
  rcases oN s.wL with e | ⟨r,p,e⟩ <;> (refine kk ?_;clear kk gg)
  ·exact absurd e hs
  ·rw[oV] at e
   obtain⟨b,hb⟩:=Ba (l:=s.wL) (i:=p.1) (by rw[e,aX];exact aN _ (.head _))
   exact⟨p.1,b,hb,by rw[e];show(nC _ (nC _ (r++[p]))).getLast?=_;rw[qG,qG,jH];rfl⟩
 refine Ao (N8 C I hk (v:=none) (w:=some n0) rfl h0 g1 wI (xQ (wH g2) wI hc (jL _) e0) λt sl zs D H1 R I1=>?_)
 refine Ao (N8 C I1 hk (v:=some n1) (w:=none) h1 rfl g1 (X7 (wH g2) (Jx I.tb R.k hc (λuu zz=>by cases zz)) e1) wI λt2 sl2 zs2 D2 H2 R2 I2=>yZ (q _ (Bt.trans R.k R2.k) I2))
noncomputable def ddB:List Sm:=[.asg "_law_shots" (.meth (.loc "_law_store") "shot_numbers" []),.ite (.and (.b BW (.b yj (.loc "_law_k") (.k (.int 3 0))) (.k (.int 0 0))) (.b neN (.loc "_law_shots") (.n yu []))) ddC [],.expr (.call (.glob "_law_done") [.loc "_law_store",.b Gq (.loc "_law_script") (.b Bu (.k (.int 2 0)) (.loc "_law_k")),.b Gq (.loc "_law_script") (.b zB (.b Bu (.k (.int 2 0)) (.loc "_law_k")) (.k (.int 1 0)))])]
theorem ae1 {ns:List Int}{i:Nat}(h:i<ns.length):(ns.map λn=>cL n 0)[((i:Nat):Int).toNat]?=some (.int ns[i] 0):=by rw[cG,cD,cB h];rfl
theorem anq (E:zx G A fs)(hf:has "_law_done" fs=true)(C:Fy G A)(I:xR A σ T k j H s Ps)(hk:k<=70)(hj:j<=4000){a:Addr}{ns:List Int}(ha:H a=some (Oa ns)){i:Nat}(hi:2*i+1<ns.length)(g1:l "_law_store" = some (.ref σ.sx))(g2:l "_law_script" = some (.ref a))(g3:l "_law_k" = some (.int (i:Int) 0)){K:QS}{XX:XS}(q:∀ H',K6 A σ T a ns (k+1) (j+33) l H'->K .next l H'):wM G [.expr (.call (.glob "_law_done") [.loc "_law_store",.b Gq (.loc "_law_script") (.b Bu (.k (.int 2 0)) (.loc "_law_k")),.b Gq (.loc "_law_script") (.b zB (.b Bu (.k (.int 2 0)) (.loc "_law_k")) (.k (.int 1 0)))])] l H K XX:=by
 have m2:Ev G (.b Bu (.k (.int 2 0)) (.loc "_law_k")) l H (.int ((2*i:Nat):Int) 0):=Ej (g:=λx y=>vI (x*y)) wI (wH g3) (.inl (by decide))
 refine Ao (w_call (Am (E.fn hf).1) (E.fn hf).2 (w6 (wH g1) (w6 (xQ (wH g2) m2 ha (cR _) (ae1 (cF hi))) (w6 (xQ (a:=((2*i+1:Nat):Int)) (wH g2) (Bw m2 wI) ha (cR _) (ae1 hi)) xM))) (C.dn I hk hj λv H' s' Ps' J kp=>yZ (q H' ⟨⟨s',Ps',J⟩,kp.rlist ha,g1,g2⟩)))
theorem anr (E:zx G A fs)(hf:has "_law_done" fs=true)(C:Fy G A){a:Addr}{ns:List Int}(D:K6 A σ T a ns k j l H)(hk:k<=70)(hj:j<=4000){i:Nat}(hi:2*i+1<ns.length)(g3:l "_law_k" = some (.int (i:Int) 0)){K:QS}{XX:XS}(q:∀ l' H',K6 A σ T a ns (k+1) (j+33) l' H'->K .next l' H'):wM G ddB l H K XX:=by
 obtain⟨⟨s,Ps,I⟩,ha,g1,g2⟩:=D
 refine xX (yx (wH g1) I.st.i I.st.n C.mn (by rfl) xM (C.wL I.st (aj I.sh (aj hj (by decide))) I.sw.sa λd hd=>?_))
 have kd:Kp [] H (H.upd d (.list (iV (s.wL.map (·.1))))):=wW hd _
 have ed:(H.upd d (.list (iV (s.wL.map (·.1))))) d=some (.list (iV (s.wL.map (·.1)))):=Hp.wQ _ _ _
 have I:=I.stay (aD _) (aD _) kd
 have ha:=kd.rlist ha
 generalize H.upd d (.list (iV (s.wL.map (·.1))))=H1 at I ed ha ⊢
 have fin:∀ H2,xR A σ T k j H2 s Ps->H2 a=some (Oa ns)->wM G [.expr (.call (.glob "_law_done") [.loc "_law_store",.b Gq (.loc "_law_script") (.b Bu (.k (.int 2 0)) (.loc "_law_k")),.b Gq (.loc "_law_script") (.b zB (.b Bu (.k (.int 2 0)) (.loc "_law_k")) (.k (.int 1 0)))])] (l.upd "_law_shots" (.ref d)) H2 K XX:=λH2 I2 a2=>anq (l:=l.upd "_law_shots" (.ref d)) E hf C I2 hk hj a2 hi g1 g2 g3 λH' J=>q _ H' J
 cases e3:decide ((i:Int)%3=0) with
 | false=>exact zW (S9 (Ca (Aq (wH g3) (by decide)) wI e3)) (fin H1 I ha)
 | true =>
  refine Fi (Yb (Ca (Aq (wH g3) (by decide)) wI e3) (Qa (wH rfl) ed λe he=>?_))
  have ke:Kp [] H1 (H1.upd e (.list [])):=wW he _
  have I2:=I.stay (aD _) (aD _) ke
  have a2:=ke.rlist ha
  have d2:=ke.list ed
  generalize H1.upd e (.list [])=H2 at I2 a2 d2 ⊢
  cases es:s.wL with
  | nil=>exact fin H2 I2 a2
  | cons p r=>exact anp (l:=l.upd "_law_shots" (.ref d)) C I2 hk (by rw[es];exact lH _ _) d2 g1 rfl λH3 b3 I3=>fin H3 I3 (Jx I2.tb b3 a2 (λuu zz=>by cases zz))
theorem ant (len:Nat):∃ n:Nat,min 24 ((len:Int)/2)=(n:Int)/\n<=24/\2*n<=len:=by
 refine⟨min 24 (len/2),?_,j9 _ _,?_⟩
 ·skip
  rcases uJ 24 (len/2) with h | h
  ·rw[dG h];exact su (dD.2 h)
  ·rw[jR h];exact rD (dD.2 h)
 ·exact aj (fM 2 (lM _ _)) (Nat.mul_div_le len 2)
noncomputable def ddF:Sm:=.for_ itR "_law_k" (.u CK (.b Xb (.k (.int 24 0)) (.b yQ (.u RZ (.loc "_law_script")) (.k (.int 2 0))))) ddB
theorem anu (E:zx G A fs)(hf:has "_law_done" fs=true)(C:Fy G A){a:Addr}{ns:List Int}(D:K6 A σ T a ns 40 40 l H){r:List Sm}{Q:QS}{XX:XS}(q:∀ l' H',K6 A σ T a ns 64 832 l' H'->wM G r l' H' Q XX):wM G (ddF::r) l H Q XX:=by
 obtain⟨n,hn,n24,n2⟩:=ant ns.length
 refine Qh (n:=n) (λi l' H'=>K6 A σ T a ns (40+i) (40+33*i) l' H') (KH (Bw (f:=min) wI (Ce (Fd (wH D.g2) D.sc) (by decide))) (by rw[aA,hn])) (aK n24 (by decide)) (λi hi l' H' J K hK=>?_) (λc hc=>?_) λl' H' J=>?_
 ·have i24:=aj (aQ hi) n24
  exact anr E hf C (l:=l'.upd "_law_k" (.int (i:Int) 0)) ⟨J.I,J.sc,J.g1,J.g2⟩ (aj (aL i24 40) (by decide)) (aj (aL (fM 33 i24) 40) (by decide)) (aB (Nat.succ_lt_succ (bV (2*i))) (aj (fM 2 hi) n2)) rfl λl2 H2 J2=>hK.nx _ _ J2
 ·obtain⟨⟨s,Ps,I⟩,ha,g1,g2⟩:=D
  have kc:Kp [] H (H.upd c (.range 0 n 1)):=wW hc _
  exact⟨⟨s,Ps,I.stay (aD _) (aD _) kc⟩,kc.rlist ha,g1,g2⟩
 ·obtain⟨⟨s,Ps,I⟩,ha,g1,g2⟩:=J
  exact q _ _ ⟨⟨s,Ps,I.stay (aL n24 40) (aL (fM 33 n24) 40) (Kp.refl _ _)⟩,ha,g1,g2⟩
noncomputable def Fz (i:Nat):Str:=zM (99+i%6)++Txt.mul (zM (105+i/6)) (1+(i:Int)%3)
theorem anv:∀ i<41,1<=(Fz i).cps.toList.length/\(Fz i).cps.toList.length<=8/\∀ c∈(Fz i).cps.toList,ABC c:=by unfold Fz;decide +kernel
theorem anw:∀ i<41,∀ m<i,Fz m≠Fz i:=by unfold Fz;decide +kernel
theorem anx:∀ i:Nat,i<41->(eO "cdefgh").cps[((i:Int)%6).toNat]?=some (99+i%6)/\(eO "ijklmno").cps[((i:Int)/6).toNat]?=some (105+i/6):=by decide +kernel
theorem anz:∀ i:Nat,i<41->(zM (99+i%6)).length+(Txt.mul (zM (105+i/6)) (1+(i:Int)%3)).length<=100:=by decide +kernel
noncomputable def nmE:Ex:=.b JT (.b Ey (.k (.str "cdefgh" 0)) (.b yj (.loc "_law_k") (.k (.int 6 0)))) (.b WT (.b Ey (.k (.str "ijklmno" 0)) (.b yQ (.loc "_law_k") (.k (.int 6 0)))) (.b zB (.k (.int 1 0)) (.b yj (.loc "_law_k") (.k (.int 3 0)))))
theorem anA {i:Nat}(hi:i<41)(g:l "_law_k" = some (.int (i:Int) 0)):Ev G nmE l H (.str (Fz i) 0):=by
 have m3:=mod_lt (i:Int) (b:=3) (by decide)
 have n:=anx i hi
 exact SN (S8 wI (Aq (wH g) (by decide)) (mod_lt _ (by decide)).1 (by decide +kernel) n.1) (Dh (S8 wI (Ce (wH g) (by decide)) (Int.ediv_nonneg (cR i) (by decide)) (by decide +kernel) n.2) (Bw wI (Aq (wH g) (by decide))) λuu q=>⟨_,rfl,_,rfl,⟨aD 1,mU m3.1,mF (vm (show(i:Int)%3<2+1 from m3.2)) 1⟩,q⟩) (QK (anz i hi) (aD 100))
noncomputable def bk (i:Nat):List Str:=["b",Fz i]
noncomputable def P1:Nat->List (List Str)
 | 0=>[[]]
 | i+1=>bk i::P1 i
theorem ae2 {i:Nat}{p:List Str}(h:p∈P1 i):p=[]\/∃ m,m<i/\p=bk m:=by
 induction i with
 | zero=>exact .inl (aC.1 h)
 | succ i ih =>
  rcases aM.1 h with e | h
  ·exact .inr ⟨i,bV i,e⟩
  ·exact(ih h).imp id λz=>z.elim λm z=>⟨m,eZ z.1,z.2⟩
theorem anB {i:Nat}(hi:i<41){q:List Str}(h:q∈P1 i):¬bk i <+: q:=λhp=>by
 rcases ae2 h with rfl | ⟨m,hm,rfl⟩
 ·exact absurd (List.prefix_nil.1 hp) (lH _ _)
 ·have:=(oR.1 (oR.1 hp).2).1
  exact anw i hi m hm this.symm
theorem anC:Good "b" := ⟨by decide +kernel,by decide +kernel,by decide +kernel⟩
structure VK (A:Ad)(σ:SA)(T a:Addr)(ns:List Int)(i:Nat)(l:Loc)(H:Hp):Prop where
 I:∃ s,xR A σ T i i H s (P1 i)
 sc:H a=some (Oa ns)
 g1:l "_law_store" = some (.ref σ.sx)
 g2:l "_law_script" = some (.ref a)
noncomputable def l1B:List Sm:=[.expr (.meth (.loc "_law_store") "put" [.n yu [.k (.str "b" 0),nmE],.loc "_law_k"]),.ite (.b BW (.b yj (.loc "_law_k") (.k (.int 16 0))) (.k (.int 9 0))) [.expr (.meth (.loc "_law_store") "snap" [])] []]
theorem anD (F:xu G A)(C:Fy G A){a:Addr}{ns:List Int}{i:Nat}(D:VK A σ T a ns i l H)(hi:i<40)(g3:l "_law_k" = some (.int (i:Int) 0)){K:QS}{XX:XS}(q:∀ H',VK A σ T a ns (i+1) l H'->K .next l H'):wM G l1B l H K XX:=by
 obtain⟨⟨s,I⟩,ha,g1,g2⟩:=D
 have VL:i<41:=eZ hi
 have ng:=anv i VL
 have no:∀ {b},find s.bs s.tree (bk i)=some (some b)->False:=λ{b} hf=>by
  obtain⟨p,h1,h2⟩:=I.up.nd s.tree (.head _) _ _ (Ve _ hf)
  exact anB VL h1 h2
 refine Ao (Dy (wH g1) I.st.i I.st.n (by nest_cls) (by rfl) (xW (Di (w6 wI (w6 (anA VL g3) xM)) (ao rfl) λp hp=>xW (xO (wH g3) (yR ?_)))))
 have yp:Kp [] H (H.upd p (.list [.str "b" 0,.str (Fz i) 0])):=wW hp _
 have ep:(H.upd p (.list [.str "b" 0,.str (Fz i) 0])) p=some (.list ((bk i).map λx=>bR x 0)):=Hp.wQ _ _ _
 have I:=I.stay (aD _) (aD _) yp
 have ha:=yp.rlist ha
 generalize H.upd p (.list [.str "b" 0,.str (Fz i) 0])=H1 at I ep ha ⊢
 refine C.put I.st I.sw (I.room (aj (aQ hi) (by decide):i<=70)) (xs:=bk i) ⟨ep,λx hx=>?_,ao rfl⟩ (lH _ _) (jx (by decide) (cR i)) (jx (iC.2 VL) (by decide)) (λb hf uu uu uu uu=>(no hf).elim) (λs' g uu PN w H2 st kp=>?_) (λz uu uu uu=>?_) λuu z uu uu uu=>by obtain⟨b,_,hf,_⟩:=z;exact(no hf).elim
 ·rcases aM.1 hx with rfl | hx
  ·exact anC
  ·rw[aC.1 hx];exact⟨ng.1,ng.2.1,ng.2.2⟩
 ·have J:=I.put PN w st kp (ao rfl)
  have ha:=kp.rlist ha
  refine CV (b:=decide ((i:Int)%16=9)) (Ca (Aq (wH g3) (by decide)) wI rfl) (λuu=>?_) λuu=>zG (yZ (q _ ⟨⟨s',J.stay (aD _) (dX i) (Kp.refl _ _)⟩,ha,g1,g2⟩))
  exact aeS (H0:=H2) F C.ms C.snap J (aj hi (by decide)) (aj (aQ hi) (by decide)) g1 λH3 s3 J3 k3=>zG (yZ (q _ ⟨⟨s3,J3⟩,k3.rlist ha,g1,g2⟩))
 ·obtain⟨q,q1,q2,b,m,hf,hl⟩:=z
  have:q=1:=cM (bU q2) q1
  subst this
  rcases ae2 (I.up.lf s.tree (.head _) ["b"] m (by rw[Ve _ (hf:find s.bs s.tree ["b"]=some (some b))];exact(Ju hl).1)) with e | ⟨m,_,e⟩ <;> cases e
end
section
variable {A:Ad}{G:Gx}{l:Loc}{H H':Hp}{Q:QV}{X:XV}{σ:SA}{s s':w7}{T:Addr}{k j:Nat}{Ps:List (List Str)}
theorem ae3 {p:List Str}{x:Int}(h:wO Nz.bs (some 1) p=some x):p=[]:=by
 cases p with
 | nil=>rfl
 | cons n p=>exact absurd ((Fw p).symm.trans (show wO Nz.bs none p=some x from h)) (λzz=>by cases zz)
theorem up0:UP [[]] Nz where
 len:=λq hq=>by rw[aC.1 hq];exact bL _
 nd:=λt ht p x h=>by
  rw[aC.1 ht] at h
  exact⟨[],.head _,by rw[ae3 h];exact qZ _⟩
 lf:=λt ht p m h=>by
  rw[aC.1 ht] at h
  obtain⟨x,hx⟩:=Vg h
  rw[ae3 hx]
  exact .head _
noncomputable def FS:List Str:=["_law_whole","_law_cell_at","_law_name_by","_law_path_by","_law_number_by","_law_count","_law_asked","_law_done","_law_rows","_law_leaves","_law_looked","_law_told"]
theorem anE {x:Str}{body r:List Sm}{n:Nat}{Q:QS}{X:XS}(I:Nat->Loc->Hp->Prop)(hz:n<2^60)(hb:∀ i,i<n->∀ l' H',I i l' H'->∀ K:QS,Ks (I (i+1)) (sq G r Q X) K->wM G body (l'.upd x (.int (i:Int) 0)) H' K X)
  (h0:∀ c,H c=none->I 0 l (H.upd c (.range 0 n 1))) (hq:∀ l' H',I n l' H'->wM G r l' H' Q X):CK (.int (n:Int) 0) H λv H1=>itR v H1 λguard items=>Hi guard x (λl' H' K=>wM G body l' H' K X) items l H1 (sq G r Q X) :=
 Qh (e:=.k (.int (n:Int) 0)) I wI hz hb h0 hq
theorem anF {t:Bool}(q:Q (.int (if t then 1 else 0) 0) H):J6 (.bool t) H Q:=q
theorem anG (c c':Int):∃ n:Nat,n<=40/\c/5%41*(if decide (c'%5=2) then 1 else 0)=(n:Int):=by
 have m:=mod_lt (c/5) (b:=41) (by decide)
 obtain⟨n,hn⟩:=gY m.1
 have hn:c/5%41=(n:Int):=hn
 cases decide (c'%5=2) with
 | true=>exact⟨n,bU (iC.1 (hn▸m.2)),by rw[if_pos rfl,vh,hn]⟩
 | false=>exact⟨0,by decide,by rw[if_neg (by decide),Int.mul_zero];rfl⟩
noncomputable def l1F:Sm:=.for_ itR "_law_k" (.u CK (.b Bu (.b yj (.b yQ (.call (.glob "_law_cell_at") [.loc "_law_script",.k (.int 0 0)]) (.k (.int 5 0))) (.k (.int 41 0))) (.u J6 (.b BW (.b yj (.call (.glob "_law_cell_at") [.loc "_law_script",.k (.int 0 0)]) (.k (.int 5 0))) (.k (.int 2 0)))))) l1B
theorem anH (F:xu G A)(E:zx G A FS)(C:Fy G A){a:Addr}{ns:List Int}(D:VK A σ T a ns 0 l H){r:List Sm}{Q:QS}{XX:XS}(q:∀ l' H',K6 A σ T a ns 40 40 l' H'->wM G r l' H' Q XX):wM G (l1F::r) l H Q XX:=by
 have ec:=E.fn (x := "_law_cell_at") rfl
 have ce:∀ {Q:QV} {X:XV},(∀ c,Q (.int c 0) H)->Ex.call (.glob "_law_cell_at") [.loc "_law_script",.k (.int 0 0)] G l H Q X:=λ{Q X} hq=>w_call (Am ec.1) ec.2 (w6 (wH D.g2) (w6 wI xM)) (C.cell (k:=0) D.sc hq)
 refine Mz (Dj (zf (zf (zf (ce λc=>xO wI (Gh (by decide) (xO wI (Gh (by decide:(0:Int)<41) (Dj (zf (zf (ce λc'=>xO wI (Gh (by decide:(0:Int)<5) (xO wI (Gh trivial ?_)))))))))))))))
 obtain⟨n,n40,hn⟩:=anG c c'
 refine anF (Gh (Or.inr (by cases decide (c'%5=2) <;> decide)) ?_)
 rw[hn]
 refine anE (n:=n) (λi l' H'=>VK A σ T a ns i l' H') (aK n40 (by decide)) (λi hi l' H' J K hK=>?_) (λd hd=>?_) λl' H' J=>?_
 ·exact anD F C (l:=l'.upd "_law_k" (.int (i:Int) 0)) ⟨J.I,J.sc,J.g1,J.g2⟩ (aB hi n40) rfl λH2 J2=>hK.nx _ _ J2
 ·obtain⟨⟨s,I⟩,ha,g1,g2⟩:=D
  have kc:Kp [] H (H.upd d (.range 0 n 1)):=wW hd _
  exact⟨⟨s,I.stay (aD _) (aD _) kc⟩,kc.rlist ha,g1,g2⟩
 ·obtain⟨⟨s,I⟩,ha,g1,g2⟩:=J
  exact q _ _ ⟨⟨s,_,I.stay n40 n40 (Kp.refl _ _)⟩,ha,g1,g2⟩
theorem anI (F:xu G A)(E:zx G A FS)(C:Fy G A){a:Addr}{ns:List Int}(ha:H a=some (Oa ns))(hT:TabAt T H)(q:∀ H',TabAt T H'->Q (.bool true) H'):yq G ["_law_script"] VG [.ref a] H Q X:=by
 refine yC rfl (xX (acH (Am F.store) F.Uw xM λsd sx hsd hsx hne=>C.U8 hsd hsx hne λH1 σ hσ st k1 _=>⟨rfl,?_⟩))
 subst hσ
 refine anH F E C (T:=T) (a:=a) (ns:=ns) ⟨⟨Nz,st,ak5,up0,by decide,by decide,by decide,TabAt.yp hT k1⟩,k1.rlist ha,rfl,rfl⟩ λl2 H2 J2=>?_
 refine anu E rfl C J2 λl3 H3 J3=>?_
 obtain⟨⟨s,Ps,I⟩,ha,g1,g2⟩:=J3
 refine xX (zf (Di (w6 wI xM) (ao rfl) λd hd=>?_))
 have kd:Kp [] H3 (H3.upd d (.list [.none])):=wW hd _
 have ed:=Hp.wQ H3 d (.list [.none])
 have I:=I.stay (aD _) (aD _) kd
 have ha:=kd.rlist ha
 generalize H3.upd d (.list [.none])=H4 at I ed ha ⊢
 refine yx (wH g1) I.st.i I.st.n C.mn (by rfl) xM (C.wL I.st (aj I.sh (by decide)) I.sw.sa λc hc=>?_)
 have kc:Kp [] H4 (H4.upd c (.list (iV (s.wL.map (·.1))))):=wW hc _
 have ec:(H4.upd c (.list (iV (s.wL.map (·.1))))) c=some (.list (iV (s.wL.map (·.1)))):=Hp.wQ _ _ _
 have I:=I.stay (aD _) (aD _) kc
 have ha:=kc.rlist ha
 have ed:=kc.list ed
 generalize H4.upd c (.list (iV (s.wL.map (·.1))))=H5 at I ed ec ha ⊢
 refine Hy ed ec ?_ λvl hvl=>?_
 ·rw[aA,aA];exact aj (aL I.sh 1) (by decide)
 have kv:Kp [] H5 (H5.upd vl (.list (K5 s))):=wW hvl _
 have ev:=Hp.wQ H5 vl (.list (K5 s))
 have I:=I.stay (aD _) (aD _) kv
 have ha:=kv.rlist ha
 show wM G _ _ (H5.upd vl (.list (K5 s))) _ _
 generalize H5.upd vl (.list (K5 s))=H6 at I ev ha ⊢
 refine xX (ae0 E rfl C.cell ha ev (i:=0) (by decide) (l:=l3.upd "_law_views" (.ref vl)) g2 rfl λo b hb=>?_)
 refine xX (ae0 E rfl C.cell ha ev (i:=1) (by decide) (l:=(l3.upd "_law_views" (.ref vl)).upd "_law_one" (oI o)) g2 rfl λo' b' hb'=>?_)
 exact ano F E rfl rfl rfl C I (by decide) hb hb' (l:=((l3.upd "_law_views" (.ref vl)).upd "_law_one" (oI o)).upd "_law_other" (oI o')) g1 rfl rfl q
end
section
variable {A:Ad}
structure ae4 (tab:Tab)(A:Ad):Prop where
 s:ad5 tab A
 without:w5 tab (A "without" "") ["rows","name"] Ud
 cut:w5 tab (A "Store" "cut") ["self","path"] Qn
 snap:w5 tab (A "Store" "snap") ["self"] Un
 shot:w5 tab (A "Store" "shot") ["self","number"] Uo
 drop:w5 tab (A "Store" "drop") ["self","shot"] Uq
 back:w5 tab (A "Store" "back") ["self","shot"] Ur
 ae5:w5 tab (A "Store" "shot_numbers") ["self"] Us
 both:w5 tab (A "Store" "both") ["self","box"] Vp
 changes:w5 tab (A "Store" "changes") ["self","one","other"] Vq
 whole:w5 tab (A "_law_whole" "") ["_law_seen"] Vi
 ae6:w5 tab (A "_law_cell_at" "") ["_law_script","_law_k"] Vj
 ae7:w5 tab (A "_law_name_by" "") ["_law_cell"] Vk
 ae8:w5 tab (A "_law_path_by" "") ["_law_cell"] Vl
 ae9:w5 tab (A "_law_number_by" "") ["_law_cell"] Vm
 count:w5 tab (A "_law_count" "") ["_law_seen","_law_due"] Vn
 asked:w5 tab (A "_law_asked" "") ["_law_store","_law_cell","_law_more"] N7
 done:w5 tab (A "_law_done" "") ["_law_store","_law_cell","_law_more"] VF
 rows:w5 tab (A "_law_rows" "") ["_law_pile","_law_box"] Vy
 leaves:w5 tab (A "_law_leaves" "") ["_law_pile","_law_top"] VB
 looked:w5 tab (A "_law_looked" "") ["_law_pile","_law_one","_law_other"] Vz
 told:w5 tab (A "_law_told" "") ["_law_seen","_law_due","_law_looked_here"] QM
 law:w5 tab (A "law" "") ["_law_script"] VG
structure EL (G:Gx)(A:Ad):Prop where
 s:xu G A
 l:zx G A FS
 u:∀ {x:Str},has x aac=true->G.isExc (A x "")=true/\G.sub (A x "") (A "SnapError" "")=true
 w:G.glob "without" = some (.ref (A "without" ""))/\G.init (A "without" "")=none
theorem EL.gg {g:Gx}(f:EL g A)(tab:Tab)(n:Nat):EL (GG g tab n) A:=⟨f.s.gg tab n,f.l.gg tab n,by cases n <;> exact f.u,by cases n <;> exact f.w⟩
section
variable {g:Gx}{tab:Tab}(f:EL g A)(t:ae4 tab A)(n:Nat)
include f t
theorem afa:Zn (GG g tab (n+1)) A:=λuu uu uu h hz ha uu uu q=>yE t.ae5 (aly (f.s.gg tab _) h hz ha q)
theorem afb:QB (GG g tab (n+3)) A:=λuu uu uu h uu w z1 z2 uu uu q=>yE t.snap (alz (f.s.gg tab _) (UG f.s.p t.s.p n) h w z1 z2 q)
theorem afc:Zo (GG g tab (n+2)) A:=λuu uu uu h uu uu e uu uu q=>yE t.shot (alA (f.s.gg tab _) (QD f.s t.s n) h e q)
theorem GZ:Zq (GG g tab (n+3)) A:=λuu uu uu h uu w z1 z2 uu uu e uu uu q=>yE t.drop (alB (f.s.gg tab _) (afc f t n) (adF f.s.p t.s.p n) h w z1 z2 e q)
theorem anJ:Zr (GG g tab (n+4)) A:=λuu uu uu h uu w z1 uu uu e uu uu q=>yE t.back (alC (f.s.gg tab _) (afc f t (n+1)) (ZD f.s t.s n) h w z1 e q)
omit f in
theorem anK:Zt (GG g tab (n+1)) A:=λuu uu uu uu uu h1 h2 h3 uu uu q=>yE t.without (alD h1 h2 h3 q)
theorem anL:Zv (GG g tab (n+5)) A:=λuu uu uu h uu w hz uu uu hp hne uu uu q qN=>yE t.cut (alH (f.s.gg tab _) ((f.gg tab _).w) (aeb f.s t.s (n+1)) (U9 f.s t.s (n+1)) (anK t (n+3)) (aef f.s t.s n) (YM f.s.p t.s.p (n+1)) (aed t.s (n+3)) (ZD f.s t.s (n+1)) h w hz hp hne q qN)
omit f in
theorem anM:aeu (GG g tab (n+1)) A:=λuu uu uu uu q=>yE t.whole (al6 q)
theorem count_at:QJ (GG g tab (n+2)) A:=λuu uu uu uu q=>yE t.count (al7 (f.l.gg tab _) rfl (anM t n) q)
omit f in
theorem anN:ZX (GG g tab (n+1)) A:=λuu uu uu h uu uu uu q=>yE t.ae6 (al8 h q)
omit f in
theorem anO:Z0 (GG g tab (n+1)) A:=λuu uu uu uu q=>yE t.ae9 (al9 q)
omit f in
theorem anP:aeC (GG g tab (n+1)) A:=λuu uu uu uu q=>yE t.ae7 (amn q)
theorem anQ:aeD (GG g tab (n+2)) A:=λuu uu uu uu q=>yE t.ae8 (amq (f.l.gg tab _) rfl (anP t n) q)
theorem anR:aeU (GG g tab (n+7)) A:=λuu uu uu uu uu uu uu I hk hj uu uu uu uu D=>yE t.asked (anb (f.s.gg tab _) (f.l.gg tab _) rfl rfl ⟨aeg f.s t.s n,anL f t (n+1),afb f t (n+3),GZ f t (n+3),anJ f t (n+2),anO t (n+5),anQ f t (n+4),afa f t (n+5),(f.s.gg tab _).sm rfl,(f.s.gg tab _).sm rfl,(f.s.gg tab _).sm rfl,(f.s.gg tab _).sm rfl,(f.s.gg tab _).sm rfl⟩ I hk hj D)
theorem anS:aeV (GG g tab (n+8)) A:=λuu uu uu uu uu uu uu I hk hj uu uu uu uu q=>yE t.done (ane (f.l.gg tab _) rfl ⟨((f.s.gg tab _).ex rfl).1,((f.s.gg tab _).ex rfl).2,(f.gg tab _).u⟩ (anR f t n) I hk hj q)
theorem anT:Vr (GG g tab (n+3)) A:=λuu uu uu h hs uu ha uu uu q=>yE t.both (amu (f.s.gg tab _) (KJ f.s.p t.s.p n) h hs ha q)
theorem anU:aeH (GG g tab (n+4)) A:=λuu uu uu h uu uu w U hR hP uu hT uu uu uu uu hv hw uu uu q=>yE t.changes (amL (f.s.gg tab _) ((f.s.gg tab _).sm rfl) (QD f.s t.s (n+2)) (aec t.s (n+2)) (anT f t n) h w U hR hP hT hv hw q)
theorem anV:Z9 (GG g tab (n+3)) A:=λuu uu uu h uu w hR uu ha uu uu q=>yE t.rows (amO (f.s.gg tab _) (KJ f.s.p t.s.p n) h w hR ha q)
theorem anW:aeL (GG g tab (n+4)) A:=λuu uu uu h uu uu w U hR hP uu uu rb rc uu uu q=>yE t.looked (amR (f.l.gg tab _) rfl (anV f t n) h w U hR hP rb rc q)
theorem anY:aeM (GG g tab (n+3)) A:=λuu uu uu h uu uu w U hR hP uu rb uu uu q=>yE t.leaves (amX (f.s.gg tab _) (KJ f.s.p t.s.p n) h w U hR hP rb q)
theorem anZ:aeO (GG g tab (n+3)) A:=λuu uu uu uu uu uu uu uu T h8 hz uu uu q=>yE t.told (am2 (f.l.gg tab _) rfl (count_at f t n) T h8 hz q)
theorem an0 {a T:Addr}{ns:List Int}{H:Hp}(hs:H a=some (Oa ns))(hT:H T=some (.tab [])):(GG g tab 13).fn (A "law" "") [.ref a] H (λv H=>v=.bool true/\∃ ks,H T=some (.tab ks)) (λuu uu=>False) :=
 yE t.law (anI (T:=T) (f.s.gg tab 12) (f.l.gg tab 12) ⟨anU f t 8,anZ f t 9,anY f t 9,anW f t 8,anS f t 4,aeg f.s t.s 6,afb f t 9,anN t 11,afa f t 11,QD f.s t.s 11,alP f.s t.s 8,(f.s.gg tab _).sm rfl,(f.s.gg tab _).sm rfl,(f.s.gg tab _).sm rfl⟩ hs ⟨[],hT,λuu h=>absurd h aH⟩ λH' h=>⟨rfl,h.elim λks z=>⟨ks,z.1⟩⟩)
end
end
end wC
end
end
section
open PySem PyProof.Rows PySem.Calls
set_option maxHeartbeats 4000000
namespace Gl
section
variable {P:Pm}{G:Gx}{n:Nat}{sc:Scope}{x a:Str}{p q pos:Pos}{e c:Expr}{e' c':Ex}{es:List Expr}{es':List Ex}{st t f:List Stmt}{st' t' f':List Sm}
noncomputable def Oc (sc:Scope)(x:Str):Bool:=zK sc x==some true&&Ef x
theorem kl (h:Oc sc x=true):SE P G n sc (.Name x p) (.loc x):=ahL (cP (bf.1 h).1) (bf.1 h).2
theorem ka (h:Oc sc x=true):CP P G n sc [.Name x p] [.loc x]:=wJ (kl h) wU
theorem kh (h:Oc sc x=true)(r:CP P G n sc es es'):CP P G n sc (.Name x p::es) (.loc x::es'):=wJ (kl h) r
theorem kb {i:Int}{kk:Nat}(h:Oc sc x=true):SE P G n sc (.Subscript (.Name x p) (.Constant (.int i) kk q) pos) (.b wR (.loc x) (.k (.int i 0))):=xZ Dg (kl h) wN
theorem kc (h:Oc sc x=true):SE P G n sc (.Attribute (.Name x p) a pos) (.attr (.loc x) a):=ahM (kl h)
theorem km (h:((q.endLine==pos.line)&&(Nat.ble (es.length+1) 29&&Oc sc x))=true)(r:CP P G n sc es es'):SE P G n sc (.Call (.Attribute (.Name x p) a q) es [] pos) (.meth (.loc x) a es'):=CQ (bf.1 h).1 (ao (bf.1 (bf.1 h).2).1) (kl (bf.1 (bf.1 h).2).2) r
theorem kg (h:((x != "super")&&(zK sc x==some false&&Ef x))=true)(r:CP P G n sc es es'):SE P G n sc (.Call (.Name x p) es [] pos) (.call (.glob x) es'):=ahT (bf.1 h).1 (Ma (cP (bf.1 (bf.1 h).2).1) (bf.1 (bf.1 h).2).2) r
theorem kr (h:SE P G n sc e e'):SS P G n sc [.Return (some e) pos] [.ret e']:=xP (ah9 h) wY
theorem ke (hx:sc.names.lookup x=some .local)(hc:J7 e=true)(h:SE P G n sc e e')(r:SS P G n sc st st'):SS P G n sc (.Assign [.Name x p] e pos::st) (.asg x e'::st'):=xP (Xv (.inl hx) hc h) r
theorem kf (hc:ST P G n sc c c')(ht:SS P G n sc t t')(hf:SS P G n sc f f')(r:SS P G n sc st st'):SS P G n sc (.If c t f pos::st) (.ite c' t' f'::st'):=xP (aia hc ht hf) r
theorem kx (hc:J7 e=true)(h:SE P G n sc e e')(r:SS P G n sc st st'):SS P G n sc (.Expr e pos::st) (.expr e'::st'):=xP (ah8 hc h) r
end
def ZZ (P:Pm):Prop:=zY P/\P.K=KK P.w.params/\P.lam=LAM
section
variable {P:Pm}(Z:ZZ P){f:Addr}{b:List Sm}{x y z:Str}(st:Stmt)(q:String)(m:Value)(c:Nat)(h1:(KK P.w.params).lookup f=some (fn (fo st q m c)))
include Z h1
theorem r1 (h3:Kh (KK P.w.params) LAM f (fo st q m c) [x]=true)(d:∀ (G:Gx) (n:Nat),SS P G n (dr st).scope (dr st).body b)(h8:∀ a,bindArgs (fo st q m c) ⟨[a],[]⟩=pure [(x,a)]):xK P (f,([x],b)):=aiZ Z.1 Z.2.1 Z.2.2 h1 rfl h3 ⟨rfl,rfl,rfl⟩ d h8
theorem r2 (h3:Kh (KK P.w.params) LAM f (fo st q m c) [x,y]=true)(d:∀ (G:Gx) (n:Nat),SS P G n (dr st).scope (dr st).body b)(h8:∀ a c',bindArgs (fo st q m c) ⟨[a,c'],[]⟩=pure [(x,a),(y,c')]):xK P (f,([x,y],b)):=row2 Z.1 Z.2.1 Z.2.2 h1 rfl h3 ⟨rfl,rfl,rfl⟩ d h8
theorem r3 (h3:Kh (KK P.w.params) LAM f (fo st q m c) [x,y,z]=true)(d:∀ (G:Gx) (n:Nat),SS P G n (dr st).scope (dr st).body b)(h8:∀ a c' e,bindArgs (fo st q m c) ⟨[a,c',e],[]⟩=pure [(x,a),(y,c'),(z,e)]):xK P (f,([x,y,z],b)):=ai0 Z.1 Z.2.1 Z.2.2 h1 rfl h3 ⟨rfl,rfl,rfl⟩ d h8
end
variable {P:Pm}(Z:ZZ P)
include Z
theorem an1:xK P (123,(["thing"],wC.TX)) :=
 r1 Z (yF 13) "is_name" Q0 122 (by kernel_rfl) (by kernel_rfl) (λG n=>(kf (Gv (.more (Dw (SE.test (Eh ah0 rfl rfl rfl rfl (kl rfl)) rfl)) (.one (Dw (abP abm abm wN (yJ abB rfl zR rfl rfl (kl rfl)) (Ma rfl rfl) rfl))))) (kr J8) wY (kr (yJ abD rfl zR rfl rfl (Jc aif rfl (kl rfl) (R5 aho (kl rfl) (Ma rfl rfl) rfl) .nil))))) (λuu=>rfl)
theorem an2:xK P (128,(["path"],wC.TY)) :=
 r1 Z (yF 14) "checked" Q0 127 (by kernel_rfl) (by kernel_rfl) (λG n=>(kf (Gv (.more (Dw (SE.test (ah2 rfl rfl rfl (kl rfl)) rfl)) (.one (xT ahk (yJ EY rfl zR rfl rfl (kl rfl)) (Ma rfl rfl) rfl)))) (xP (Fb rfl rfl) wY) wY (kf (Dw (SE.test (yJ abD rfl zR rfl rfl (Jc Cr rfl (kl rfl) (kg rfl (ka rfl)) .nil)) rfl)) (xP (Fb rfl rfl) wY) wY (kr (yJ W6 rfl Ak rfl rfl (kl rfl)))))) (λuu=>rfl)
theorem an3:xK P (142,(["self"],wC.T5)) :=
 r1 Z (yd 16 0) "Pile.__init__" BJ 141 (by kernel_rfl) (by kernel_rfl) (λG n=>(xP (Gy rfl (kl rfl) Xu) (xP (Gy rfl (kl rfl) Xu) (xP (Gy rfl (kl rfl) wN) wY)))) (λuu=>rfl)
theorem an4:xK P (149,(["self","box"],wC.T6)) :=
 r2 Z (yd 16 1) "Pile.need" BJ 148 (by kernel_rfl) (by kernel_rfl) (λG n=>(kf (Gv (.more (SE.test (Eh Sg rfl rfl rfl rfl (kl rfl)) rfl) (.more (Dw (SE.test (Eh Sd rfl rfl rfl rfl (kl rfl)) rfl)) (.one (xT W3 (kl rfl) (kc rfl) rfl))))) (xP (Fb rfl rfl) wY) wY (kr (kl rfl)))) (λuu uu=>rfl)
theorem an5:xK P (156,(["self","what"],wC.T7)) :=
 r2 Z (yd 16 2) "Pile.fresh" BJ 155 (by kernel_rfl) (by kernel_rfl) (λG n=>(xP (Gy rfl (kl rfl) (wZ CG (kc rfl) wN)) (xP (Ml Pz rfl (kc rfl) (kc rfl) (kl rfl)) (xP (Ml Pz rfl (kc rfl) (kc rfl) wN) (kr (kc rfl)))))) (λuu uu=>rfl)
theorem an6:xK P (163,(["self","number"],wC.T8)) :=
 r2 Z (yd 16 3) "Pile.leaf" BJ 162 (by kernel_rfl) (by kernel_rfl) (λG n=>(kr (km rfl (wJ (Cq (wJ zV (ka rfl))) wU)))) (λuu uu=>rfl)
theorem an7:xK P (170,(["self","rows"],wC.MP)) :=
 r2 Z (yd 16 4) "Pile.branch" BJ 169 (by kernel_rfl) (by kernel_rfl) (λG n=>(xP (Cu Cr (.inl rfl) (kl rfl) (kx rfl (km rfl (wJ (kb rfl) wU)) wY)) (xP (Cu Cr (.inl rfl) (kl rfl) (kx rfl (km rfl (wJ (kb rfl) wU)) wY)) (kr (km rfl (wJ (Cq (wJ zV (wJ (yJ W6 rfl Ak rfl rfl (kl rfl)) wU))) wU)))))) (λuu uu=>rfl)
theorem an8:xK P (177,(["self","box"],wC.T9)) :=
 r2 Z (yd 16 5) "Pile.content" BJ 176 (by kernel_rfl) (by kernel_rfl) (λG n=>(ke rfl rfl (xZ O9 (kc rfl) (km rfl (ka rfl))) (kf (xT JV (kb rfl) zV rfl) (kr (Cq (wJ zV (wJ (yJ W6 rfl Ak rfl rfl (kb rfl)) wU)))) wY (kr (kl rfl))))) (λuu uu=>rfl)
theorem an9:xK P (184,(["self","box"],wC.Ua)) :=
 r2 Z (yd 16 6) "Pile.hold" BJ 183 (by kernel_rfl) (by kernel_rfl) (λG n=>(kx rfl (km rfl (ka rfl)) (xP (Ml Pz rfl (kc rfl) (kl rfl) (wZ CG (xZ O9 (kc rfl) (kl rfl)) wN)) wY))) (λuu uu=>rfl)
theorem aoa:xK P (196,(["self","box"],wC.Ub)) :=
 r2 Z (yd 16 8) "Pile.let_go" BJ 195 (by kernel_rfl) (by kernel_rfl) (λG n=>(ke rfl rfl (zF (wJ (km rfl (ka rfl)) wU)) (ke rfl rfl wN (xP (Sq (xT Pb (kl rfl) (zF wU) rfl) (ke rfl rfl (Al R7 R9 rfl (ao rfl) (kl rfl) wU) (kf (xT W3 (kl rfl) (kc rfl) rfl) (xP abZ wY) wY (xP (Ml Pz rfl (kc rfl) (kl rfl) (Xh ahv rfl zR rfl rfl wN (wZ Ls (xZ O9 (kc rfl) (kl rfl)) wN))) (kf (xT FT (xZ O9 (kc rfl) (kl rfl)) wN rfl) (ke rfl rfl (Al Xj Xm rfl (ao rfl) (kc rfl) (ka rfl)) (kx rfl (Al Xj Xm rfl (ao rfl) (kc rfl) (ka rfl)) (ke rfl rfl (wZ CG (kl rfl) wN) (kf (xT JV (kb rfl) zV rfl) (ke rfl rfl (wZ Hl (kl rfl) (Jc Cr rfl (kb rfl) (kb rfl) .nil)) wY) wY wY)))) wY wY))))) (kr (kl rfl)))))) (λuu uu=>rfl)
theorem aob:xK P (217,(["rows","name"],wC.Uc)) :=
 r2 Z (yF 18) "box_of" K7 216 (by kernel_rfl) (by kernel_rfl) (λG n=>(xP (Cu Cr (.inl rfl) (kl rfl) (kf (xT JV (kb rfl) (kl rfl) rfl) (kr (kb rfl)) wY wY)) (kr zq))) (λuu uu=>rfl)
theorem aoc:xK P (222,(["rows","name"],wC.Ud)) :=
 r2 Z (yF 19) "without" K7 221 (by kernel_rfl) (by kernel_rfl) (λG n=>(kr (Jc Cr rfl (kl rfl) (kl rfl) (.one (xT ahl (kb rfl) (kl rfl) rfl))))) (λuu uu=>rfl)
theorem aod:xK P (227,(["rows","name","box"],wC.Ue)) :=
 r3 Z (yF 20) "placed" K7 226 (by kernel_rfl) (by kernel_rfl) (λG n=>(xP (XM rfl rfl Cr rfl (kl rfl) (kl rfl) (.one (xT ahm (kb rfl) (kl rfl) rfl))) (xP (XM rfl rfl Cr rfl (kl rfl) (kl rfl) (.one (xT ahn (kb rfl) (kl rfl) rfl))) (kr (wZ Hl (wZ Hl (kl rfl) (zF (wJ (Cq (kh rfl (ka rfl))) wU))) (kl rfl)))))) (λuu uu uu=>rfl)
theorem aoe:xK P (234,(["path"],wC.Ug)) :=
 r1 Z (yF 23) "need_way" yL 233 (by kernel_rfl) (by kernel_rfl) (λG n=>(ke rfl rfl (kg rfl (ka rfl)) (kf (xT abw (kl rfl) (zF wU) rfl) (xP (Fb rfl rfl) wY) wY (kr (kl rfl))))) (λuu=>rfl)
theorem aof:xK P (241,(["number"],wC.Uh)) :=
 r1 Z (yF 24) "need_number" yL 240 (by kernel_rfl) (by kernel_rfl) (λG n=>(kf (Gv (.more (SE.test (Eh Sg rfl rfl rfl rfl (kl rfl)) rfl) (.more (Dw (SE.test (Eh Sd rfl rfl rfl rfl (kl rfl)) rfl)) (.one (Dw (abP Lw Lw (aji (Ma rfl rfl)) (kl rfl) (Ma rfl rfl) rfl)))))) (xP (Fb rfl rfl) wY) wY wY)) (λuu=>rfl)
theorem aog:xK P (255,(["self"],wC.Ui)) :=
 r1 Z (yd 25 0) "Store.__init__" yL 254 (by kernel_rfl) (by kernel_rfl) (λG n=>(xP (Gy rfl (kl rfl) (kg rfl wU)) (xP (Gy rfl (kl rfl) (CQ rfl (ao rfl) (kc rfl) (wJ (zF wU) wU))) (kx rfl (CQ rfl (ao rfl) (kc rfl) (wJ (kc rfl) wU)) (xP (Gy rfl (kl rfl) Xu) (xP (Gy rfl (kl rfl) wN) wY)))))) (λuu=>rfl)
theorem aoh:xK P (262,(["self","view"],wC.Uj)) :=
 r2 Z (yd 25 1) "Store.top" yL 261 (by kernel_rfl) (by kernel_rfl) (λG n=>(kf (xT Gp (kl rfl) zq rfl) (kr (kc rfl)) wY (kf (Gv (.more (SE.test (Eh Sg rfl rfl rfl rfl (kl rfl)) rfl) (.more (Dw (SE.test (Eh Sd rfl rfl rfl rfl (kl rfl)) rfl)) (.one (xT W3 (kl rfl) (kc rfl) rfl))))) (xP (Fb rfl rfl) wY) wY (kr (xZ O9 (kc rfl) (kl rfl)))))) (λuu uu=>rfl)
theorem aoi:xK P (269,(["self","box","names"],wC.Uk)) :=
 r3 Z (yd 25 2) "Store.found" yL 268 (by kernel_rfl) (by kernel_rfl) (λG n=>(xP (Cu Cr (.inl rfl) (kl rfl) (ke rfl rfl (CQ rfl (ao rfl) (kc rfl) (ka rfl)) (kf (xT JV (kb rfl) zV rfl) (kr zq) wY (ke rfl rfl (kg rfl (wJ (kb rfl) (ka rfl))) (kf (xT Gp (kl rfl) zq rfl) (kr zq) wY wY))))) (kr (kl rfl)))) (λuu uu uu=>rfl)
theorem aoj:xK P (276,(["self","names"],wC.Ul)) :=
 r2 Z (yd 25 3) "Store.ways" yL 275 (by kernel_rfl) (by kernel_rfl) (λG n=>(ke rfl rfl (zF wU) (xP (Cu Gz (.inl rfl) (yJ J0 rfl Ak rfl rfl (yJ EY rfl zR rfl rfl (kl rfl))) (ke rfl rfl (km rfl (wJ (kc rfl) (wJ (Xq abX (kl rfl) (kl rfl)) wU))) (kf (xT Gp (kl rfl) zq rfl) (kx rfl (Al Iw Iz rfl (ao rfl) (kl rfl) (wJ (zF wU) wU)) wY) (kx rfl (Al Iw Iz rfl (ao rfl) (kl rfl) (wJ (xZ Dg (CQ rfl (ao rfl) (kc rfl) (ka rfl)) wN) wU)) wY) wY))) (kr (kl rfl))))) (λuu uu=>rfl)
theorem aok:xK P (283,(["self","box"],wC.Um)) :=
 r2 Z (yd 25 4) "Store.changed" yL 282 (by kernel_rfl) (by kernel_rfl) (λG n=>(ke rfl rfl (kc rfl) (kx rfl (CQ rfl (ao rfl) (kc rfl) (ka rfl)) (xP (Gy rfl (kl rfl) (kl rfl)) (kr (CQ rfl (ao rfl) (kc rfl) (ka rfl))))))) (λuu uu=>rfl)
theorem aol:xK P (290,(["self","path","number"],wC.Ky)) :=
 r3 Z (yd 25 5) "Store.put" yL 289 (by kernel_rfl) (by kernel_rfl) (λG n=>(ke rfl rfl (kg rfl (ka rfl)) (kx rfl (kg rfl (ka rfl)) (xP (Cu Gz (.inl rfl) (Xh aht rfl Ak rfl rfl wN (yJ EY rfl zR rfl rfl (kl rfl))) (kf (xT RP (km rfl (wJ zq (wJ (Xq abX (kl rfl) (kl rfl)) wU))) zV rfl) (xP (Fb rfl rfl) wY) wY wY)) (ke rfl rfl (km rfl (wJ zq (ka rfl))) (kf (xT RP (kl rfl) zV rfl) (xP (Fb rfl rfl) wY) wY (kf (R6 (.more (xT RP (kl rfl) zV rfl) (.one (xT FT (km rfl (wJ zq (ka rfl))) (kl rfl) rfl)))) (kr wN) wY (ke rfl rfl (km rfl (ka rfl)) (ke rfl rfl (CQ rfl (ao rfl) (kc rfl) (ka rfl)) (xP (Cu Gz (.inl rfl) (abR abC rfl Ak rfl rfl (wJ (wZ Ls (yJ EY rfl zR rfl rfl (kl rfl)) wN) (wJ J9 (wJ J9 wU)))) (ke rfl rfl (CQ rfl (ao rfl) (kc rfl) (wJ (kg rfl (wJ (xZ Aa (kl rfl) (kl rfl)) (wJ (xZ Aa (kl rfl) (kl rfl)) (ka rfl)))) wU)) wY)) (kr (km rfl (ka rfl))))))))))))) (λuu uu uu=>rfl)
theorem aom:xK P (297,(["self","path"],wC.Qn)) :=
 r2 Z (yd 25 6) "Store.cut" yL 296 (by kernel_rfl) (by kernel_rfl) (λG n=>(ke rfl rfl (kg rfl (ka rfl)) (kf (xT Gp (km rfl (wJ (kc rfl) (ka rfl))) zq rfl) (xP (Fb rfl rfl) wY) wY (ke rfl rfl (km rfl (ka rfl)) (ke rfl rfl (CQ rfl (ao rfl) (kc rfl) (wJ (kg rfl (wJ (xZ W0 (kl rfl) J9) (wJ (xZ W0 (kl rfl) J9) wU))) wU)) (xP (Cu Gz (.inl rfl) (abR abC rfl Ak rfl rfl (wJ (wZ Ls (yJ EY rfl zR rfl rfl (kl rfl)) wN) (wJ J9 (wJ J9 wU)))) (ke rfl rfl (CQ rfl (ao rfl) (kc rfl) (wJ (kg rfl (wJ (xZ Aa (kl rfl) (kl rfl)) (wJ (xZ Aa (kl rfl) (kl rfl)) (ka rfl)))) wU)) wY)) (kr (km rfl (ka rfl))))))))) (λuu uu=>rfl)
theorem aon:xK P (304,(["self"],wC.Un)) :=
 r1 Z (yd 25 7) "Store.snap" yL 303 (by kernel_rfl) (by kernel_rfl) (λG n=>(xP (Gy rfl (kl rfl) (wZ CG (kc rfl) wN)) (xP (Ml Pz rfl (kc rfl) (kc rfl) (kc rfl)) (kx rfl (CQ rfl (ao rfl) (kc rfl) (wJ (kc rfl) wU)) (kr (kc rfl)))))) (λuu=>rfl)
theorem aoo:xK P (311,(["self","number"],wC.Uo)) :=
 r2 Z (yd 25 8) "Store.shot" yL 310 (by kernel_rfl) (by kernel_rfl) (λG n=>(kf (xT Gp (kl rfl) zq rfl) (xP (Fb rfl rfl) wY) wY (kr (km rfl (ka rfl))))) (λuu uu=>rfl)
theorem aop:xK P (318,(["self","shot"],wC.Uq)) :=
 r2 Z (yd 25 9) "Store.drop" yL 317 (by kernel_rfl) (by kernel_rfl) (λG n=>(ke rfl rfl (km rfl (ka rfl)) (kx rfl (Al Xj Xm rfl (ao rfl) (kc rfl) (ka rfl)) (kr (CQ rfl (ao rfl) (kc rfl) (ka rfl)))))) (λuu uu=>rfl)
theorem aoq:xK P (325,(["self","shot"],wC.Ur)) :=
 r2 Z (yd 25 10) "Store.back" yL 324 (by kernel_rfl) (by kernel_rfl) (λG n=>(kr (km rfl (wJ (km rfl (ka rfl)) wU)))) (λuu uu=>rfl)
theorem aor:xK P (332,(["self"],wC.Us)) :=
 r1 Z (yd 25 11) "Store.shot_numbers" yL 331 (by kernel_rfl) (by kernel_rfl) (λG n=>(kr (yJ ajn rfl zR rfl rfl (kc rfl)))) (λuu=>rfl)
theorem aos:xK P (339,(["self","view","path"],wC.Ut)) :=
 r3 Z (yd 25 12) "Store.kind" yL 338 (by kernel_rfl) (by kernel_rfl) (λG n=>(ke rfl rfl (km rfl (wJ (km rfl (ka rfl)) (wJ (kg rfl (ka rfl)) wU))) (kf (xT Gp (kl rfl) zq rfl) (kr zq) wY (kr (xZ Dg (CQ rfl (ao rfl) (kc rfl) (ka rfl)) wN))))) (λuu uu uu=>rfl)
theorem aot:xK P (346,(["self","view","path"],wC.Uu)) :=
 r3 Z (yd 25 13) "Store.value" yL 345 (by kernel_rfl) (by kernel_rfl) (λG n=>(ke rfl rfl (km rfl (kh rfl (ka rfl))) (kf (xT Gp (kl rfl) zq rfl) (xP (Fb rfl rfl) wY) wY (kf (xT RP (kl rfl) zV rfl) (xP (Fb rfl rfl) wY) wY (kr (xZ Dg (CQ rfl (ao rfl) (kc rfl) (wJ (km rfl (wJ (km rfl (ka rfl)) (wJ (kg rfl (ka rfl)) wU))) wU)) wN)))))) (λuu uu uu=>rfl)
theorem aou:xK P (358,(["self","box"],wC.Vp)) :=
 r2 Z (yd 25 15) "Store.both" yL 357 (by kernel_rfl) (by kernel_rfl) (λG n=>(kf (xT Gp (kl rfl) zq rfl) (kr (Cq (wJ zq (wJ (zF wU) wU)))) wY (ke rfl rfl (CQ rfl (ao rfl) (kc rfl) (ka rfl)) (kf (xT JV (kb rfl) zV rfl) (kr (Cq (wJ (kb rfl) (wJ (zF wU) wU)))) wY (kr (Cq (wJ zq (wJ (kb rfl) wU)))))))) (λuu uu=>rfl)
theorem aov:xK P (363,(["self","one","other"],wC.Vq)) :=
 r3 Z (yd 25 16) "Store.changes" yL 362 (by kernel_rfl) (by kernel_rfl) (λG n=>(ke rfl rfl (zF (wJ (Cq (wJ (zF wU) (wJ (km rfl (ka rfl)) (wJ (km rfl (ka rfl)) wU)))) wU)) (ke rfl rfl (zF wU) (ke rfl rfl wN (xP (Sq (xT Pb (kl rfl) (zF wU) rfl) (ke rfl rfl (Al R7 R9 rfl (ao rfl) (kl rfl) wU) (kf (xT abq (kb rfl) (kb rfl) rfl) (xP abZ wY) wY (ke rfl rfl (wZ CG (kl rfl) wN) (ke rfl rfl (km rfl (wJ (kb rfl) wU)) (ke rfl rfl (km rfl (wJ (kb rfl) wU)) (kf (xT WX (kb rfl) (kb rfl) rfl) (kx rfl (Al Iw Iz rfl (ao rfl) (kl rfl) (wJ (Cq (wJ (kb rfl) (wJ (kb rfl) (wJ (kb rfl) wU)))) wU)) wY) wY (xP (Cu Cr (.inl rfl) (adu rfl rfl (Jc Cr rfl (wZ Hl (kb rfl) (kb rfl)) (kb rfl) .nil)) (kx rfl (Al Iw Iz rfl (ao rfl) (kl rfl) (wJ (Cq (wJ (wZ Hl (kb rfl) (zF (ka rfl))) (wJ (kg rfl (wJ (kb rfl) (ka rfl))) (wJ (kg rfl (wJ (kb rfl) (ka rfl))) wU)))) wU)) wY)) wY)))))))) (kr (Cq (wJ (ajY rfl rfl ⟨⟨_,_,_,_,rfl⟩,rfl,rfl,rfl,rfl,by decide +kernel,rfl,rfl,λuu uu uu uu uu uu=>rfl⟩ (λuu=>rfl) (λuu=>rfl) (kl rfl)) (ka rfl))))))))) (λuu uu uu=>rfl)
theorem aow:xK P (377,(["_law_seen"],wC.Vi)) :=
 r1 Z (yF 27) "_law_whole" zU 376 (by kernel_rfl) (by kernel_rfl) (λG n=>(kr (Xf (Eh Sd rfl rfl rfl rfl (kl rfl)) (ahN (Eh Sg rfl rfl rfl rfl (kl rfl)))))) (λuu=>rfl)
theorem aox:xK P (384,(["_law_script","_law_k"],wC.Vj)) :=
 r2 Z (yF 28) "_law_cell_at" zU 383 (by kernel_rfl) (by kernel_rfl) (λG n=>(kf (xT Lw (kl rfl) (yJ abz rfl zR rfl rfl (kl rfl)) rfl) (kr (xZ WY (kl rfl) (kl rfl))) wY (kr wN))) (λuu uu=>rfl)
theorem aoy:xK P (389,(["_law_cell"],wC.Vk)) :=
 r1 Z (yF 29) "_law_name_by" zU 388 (by kernel_rfl) (by kernel_rfl) (λG n=>(xP (Xv (.inr rfl) rfl zV) (kf (xT Lw (wZ zE (kl rfl) wN) wN rfl) (kr (xZ O8 zV (wZ zE (wZ Ar (kl rfl) wN) wN))) wY (kf (xT FT (wZ zE (wZ Ar (kl rfl) wN) wN) wN rfl) (ke rfl rfl (xZ Aa (zF (wJ zV (wJ zV (wJ zV (wJ zV (wJ zV (wJ zV wU))))))) (wZ zE (wZ Ar (kl rfl) wN) wN)) (ke rfl rfl (wZ zE (wZ Ar (kl rfl) wN) (wZ CG (yJ abB rfl zR rfl rfl (kl rfl)) wN)) (kr (wZ WR (wZ WR (Xq ah4 (kl rfl) (kl rfl)) (xZ O8 (kl rfl) (wZ zE (wZ Ar (kl rfl) wN) wN))) (ah6 ah5 (kl rfl) (kl rfl)))))) wY (kr (Al ahW ahZ rfl (ao rfl) zV (wJ (Jc Gz rfl (yJ J0 rfl Ak rfl rfl (wZ CG wN (wZ zE (wZ Ar (kl rfl) wN) wN))) (xZ O8 (kl rfl) (wZ zE (wZ CG (wZ Ar (kl rfl) wN) (wZ Io (kl rfl) (wZ CG wN (wZ zE (wZ Ar (kl rfl) wN) wN)))) wN)) .nil) wU))))))) (λuu=>rfl)
theorem aoz:xK P (394,(["_law_cell"],wC.Vl)) :=
 r1 Z (yF 30) "_law_path_by" zU 393 (by kernel_rfl) (by kernel_rfl) (λG n=>(ke rfl rfl (xZ Aa (zF (wJ wN (wJ wN (wJ wN (wJ wN (wJ wN (wJ wN (wJ (wZ CG wN (wZ zE (wZ Ar (kl rfl) wN) wN)) (wJ wN wU))))))))) (wZ zE (kl rfl) wN)) (kr (Jc Gz rfl (yJ J0 rfl Ak rfl rfl (kl rfl)) (kg rfl (wJ (wZ zE (wZ Io (wZ CG (wZ Ar (kl rfl) wN) (wZ Io (kl rfl) wN)) wN) wN) wU)) .nil)))) (λuu=>rfl)
theorem aoA:xK P (401,(["_law_cell"],wC.Vm)) :=
 r1 Z (yF 31) "_law_number_by" zU 400 (by kernel_rfl) (by kernel_rfl) (λG n=>(kf (xT Lw (wZ zE (kl rfl) wN) wN rfl) (kr (wZ Ls (wZ zE (wZ Ar (kl rfl) wN) wN) wN)) wY (kr (wZ CG (wZ Ls (wZ zE (wZ Ar (kl rfl) wN) (wZ Ls (wZ Io wN (wZ abo wN wN)) wN)) (wZ abo wN wN)) wN)))) (λuu=>rfl)
theorem aoB:xK P (408,(["_law_seen","_law_due"],wC.Vn)) :=
 r2 Z (yF 32) "_law_count" zU 407 (by kernel_rfl) (by kernel_rfl) (λG n=>(kr (Xf (kg rfl (ka rfl)) (R5 abq (kl rfl) (kl rfl) rfl)))) (λuu uu=>rfl)
theorem aoC:xK P (415,(["_law_store","_law_cell","_law_more"],wC.N7)) :=
 r3 Z (yF 33) "_law_asked" zU 414 (by kernel_rfl) (by kernel_rfl) (λG n=>(ke rfl rfl (wZ zE (kl rfl) wN) (ke rfl rfl (kg rfl (wJ (wZ Ar (kl rfl) wN) wU)) (ke rfl rfl (km rfl wU) (kf (xT Lw (kl rfl) wN rfl) (kr (km rfl (kh rfl (wJ (kg rfl (ka rfl)) wU)))) wY (kf (xT FT (kl rfl) wN rfl) (kr (km rfl (ka rfl))) wY (kf (xT FT (kl rfl) wN rfl) (xP (Cu Gz (.inl rfl) (yJ J0 rfl Ak rfl rfl (wZ CG wN (wZ Io (yJ abE rfl Ak rfl rfl (R5 FT (wZ zE (wZ Ar (kl rfl) wN) wN) wN rfl)) (wZ zE (kl rfl) wN)))) (kx rfl (km rfl wU) wY)) (kr wN)) wY (kf (Gv (.more (xT abw (kl rfl) (zF wU) rfl) (.one (xT FT (wZ zE (kl rfl) wN) wN rfl)))) (kr (km rfl (kh rfl (wJ (kg rfl (ka rfl)) wU)))) wY (kf (xT FT (kl rfl) wN rfl) (kr (km rfl (wJ (xZ Aa (kl rfl) (wZ zE (wZ Ar (kl rfl) wN) (yJ EY rfl zR rfl rfl (kl rfl)))) wU))) wY (kr (km rfl (wJ (xZ Aa (kl rfl) (wZ zE (wZ Ar (kl rfl) wN) (yJ EY rfl zR rfl rfl (kl rfl)))) wU)))))))))))) (λuu uu uu=>rfl)
theorem aoD:xK P (422,(["_law_store","_law_cell","_law_more"],wC.VF)) :=
 r3 Z (yF 34) "_law_done" zU 421 (by kernel_rfl) (by kernel_rfl) (λG n=>(xP (aio (kr (kg rfl (kh rfl (kh rfl (ka rfl))))) (.cons rfl rfl rfl .nil)) wY)) (λuu uu uu=>rfl)
theorem aoE:xK P (429,(["_law_pile","_law_box"],wC.Vy)) :=
 r2 Z (yF 35) "_law_rows" zU 428 (by kernel_rfl) (by kernel_rfl) (λG n=>(kf (Gv (.more (xT Gp (kl rfl) zq rfl) (.one (xT JV (xZ Dg (km rfl (ka rfl)) wN) zV rfl)))) (kr ajy) wY (kr (yJ ajC rfl Ak rfl rfl (xZ Dg (km rfl (ka rfl)) wN))))) (λuu uu=>rfl)
theorem aoF:xK P (434,(["_law_pile","_law_top"],wC.VB)) :=
 r2 Z (yF 36) "_law_leaves" zU 433 (by kernel_rfl) (by kernel_rfl) (λG n=>(ke rfl rfl (zF (wJ (Cq (wJ (Cq wU) (ka rfl))) wU)) (ke rfl rfl ajz (xP (Sq (xT Pb (kl rfl) (zF wU) rfl) (xP (Xv (.inr rfl) rfl (Al R7 R9 rfl (ao rfl) (kl rfl) wU)) (ke rfl rfl (km rfl (wJ (kb rfl) wU)) (kf (xT JV (kb rfl) zV rfl) (xP (Ml ajA rfl (kl rfl) (kb rfl) (kb rfl)) wY) (ke rfl rfl (wZ Hl (kl rfl) (Jc Cr rfl (kb rfl) (Cq (wJ (wZ ahr (kb rfl) (Cq (wJ (kb rfl) wU))) (wJ (kb rfl) wU))) .nil)) wY) wY)))) (kr (kl rfl)))))) (λuu uu=>rfl)
theorem aoG:xK P (441,(["_law_pile","_law_one","_law_other"],wC.Vz)) :=
 r3 Z (yF 37) "_law_looked" zU 440 (by kernel_rfl) (by kernel_rfl) (λG n=>(ke rfl rfl (zF (wJ (zF (kh rfl (ka rfl))) wU)) (ke rfl rfl wN (xP (Sq (xT Pb (kl rfl) (zF wU) rfl) (ke rfl rfl (Al R7 R9 rfl (ao rfl) (kl rfl) wU) (kf (xT WX (xZ Aa (kl rfl) wN) (xZ Aa (kl rfl) wN) rfl) (ke rfl rfl (wZ CG (kl rfl) wN) (ke rfl rfl (kg rfl (kh rfl (wJ (xZ Aa (kl rfl) wN) wU))) (ke rfl rfl (kg rfl (kh rfl (wJ (xZ Aa (kl rfl) wN) wU))) (xP (Cu Cr (.inl rfl) (adu rfl rfl (wZ Hl (yJ ac4 rfl Ak rfl rfl (kl rfl)) (yJ ac4 rfl Ak rfl rfl (kl rfl)))) (kx rfl (Al Iw Iz rfl (ao rfl) (kl rfl) (wJ (zF (wJ (Al ac0 ac1 rfl (ao rfl) (kl rfl) (kh rfl (wJ zq wU))) (wJ (Al ac0 ac1 rfl (ao rfl) (kl rfl) (kh rfl (wJ zq wU))) wU))) wU)) wY)) wY)))) wY wY))) (kr (kl rfl)))))) (λuu uu uu=>rfl)
theorem aoH:xK P (448,(["_law_seen","_law_due","_law_looked_here"],wC.QM)) :=
 r3 Z (yF 38) "_law_told" zU 447 (by kernel_rfl) (by kernel_rfl) (λG n=>(kf (Gv (.more (Dw (SE.test (Eh abW rfl rfl rfl rfl (kl rfl)) rfl)) (.more (xT WQ (yJ abA rfl zR rfl rfl (kl rfl)) wN rfl) (.one (Dw (SE.test (kg rfl (wJ (kb rfl) (ka rfl))) rfl)))))) (kr J8) wY (kf (Gv (.more (Dw (SE.test (Eh abV rfl rfl rfl rfl (kb rfl)) rfl)) (.one (xT WQ (yJ EY rfl zR rfl rfl (kb rfl)) (yJ EY rfl zR rfl rfl (kl rfl)) rfl)))) (kr J8) wY (xP (Cu Gz (.inl rfl) (yJ J0 rfl Ak rfl rfl (yJ EY rfl zR rfl rfl (kl rfl))) (ke rfl rfl (xZ Aa (kb rfl) (kl rfl)) (kf (Gv (.more (Dw (SE.test (Eh abW rfl rfl rfl rfl (kl rfl)) rfl)) (.more (xT WQ (yJ abA rfl zR rfl rfl (kl rfl)) wN rfl) (.more (Dw (SE.test (Eh abV rfl rfl rfl rfl (kb rfl)) rfl)) (.one (xT ajD (yJ ahs rfl Ak rfl rfl (kb rfl)) (xZ Dg (xZ Aa (kl rfl) (kl rfl)) wN) rfl)))))) (kr J8) wY (xP (Cu Cr (.inl rfl) (zF (wJ wN (wJ wN wU))) (kf (R6 (.more (xT Gp (xZ Dg (xZ Aa (kl rfl) (kl rfl)) (kl rfl)) zq rfl) (.one (xT abr (xZ Dg (kl rfl) (kl rfl)) zq rfl)))) (kr J8) wY (kf (R6 (.more (xT abr (xZ Dg (xZ Aa (kl rfl) (kl rfl)) (kl rfl)) zq rfl) (.one (Dw (SE.test (kg rfl (wJ (xZ Dg (kl rfl) (kl rfl)) (wJ (xZ Dg (xZ Aa (kl rfl) (kl rfl)) (kl rfl)) wU))) rfl))))) (kr J8) wY wY))) wY)))) (kr J8))))) (λuu uu uu=>rfl)
theorem aoI:xK P (453,(["_law_script"],wC.VG)) :=
 r1 Z (yF 39) "law" zU 452 (by kernel_rfl) (by kernel_rfl) (λG n=>(ke rfl rfl (kg rfl wU) (xP (Cu Gz (.inl rfl) (yJ J0 rfl Ak rfl rfl (wZ Io (wZ zE (wZ Ar (kg rfl (kh rfl (wJ wN wU))) wN) wN) (yJ abE rfl Ak rfl rfl (R5 FT (wZ zE (kg rfl (kh rfl (wJ wN wU))) wN) wN rfl)))) (kx rfl (km rfl (wJ (zF (wJ zV (wJ (wZ WR (xZ O8 zV (wZ zE (kl rfl) wN)) (wZ ahp (xZ O8 zV (wZ Ar (kl rfl) wN)) (wZ CG wN (wZ zE (kl rfl) wN)))) wU))) (ka rfl))) (kf (xT FT (wZ zE (kl rfl) wN) wN rfl) (kx rfl (km rfl wU) wY) wY wY))) (xP (Cu Gz (.inl rfl) (yJ J0 rfl Ak rfl rfl (Xh ahw rfl zR rfl rfl wN (wZ Ar (yJ abz rfl zR rfl rfl (kl rfl)) wN))) (ke rfl rfl (km rfl wU) (kf (R6 (.more (xT FT (wZ zE (kl rfl) wN) wN rfl) (.one (xT Pb (kl rfl) (zF wU) rfl)))) (kx rfl (km rfl (wJ zq (wJ (xZ Aa (kl rfl) wN) wU))) (kx rfl (km rfl (wJ (xZ W0 (kl rfl) J9) (wJ zq wU))) wY)) wY (kx rfl (kg rfl (kh rfl (wJ (xZ WY (kl rfl) (wZ Io wN (kl rfl))) (wJ (xZ WY (kl rfl) (wZ CG (wZ Io wN (kl rfl)) wN)) wU)))) wY)))) (ke rfl rfl (wZ Hl (zF (wJ zq wU)) (km rfl wU)) (ke rfl rfl (xZ Aa (kl rfl) (wZ zE (wZ Ar (kg rfl (kh rfl (wJ wN wU))) wN) (yJ EY rfl zR rfl rfl (kl rfl)))) (ke rfl rfl (xZ Aa (kl rfl) (wZ zE (wZ Ar (kg rfl (kh rfl (wJ wN wU))) wN) (yJ EY rfl zR rfl rfl (kl rfl)))) (ke rfl rfl (zF (wJ (km rfl (ka rfl)) (wJ (km rfl (ka rfl)) wU))) (ke rfl rfl (kg rfl (wJ (kc rfl) (wJ (xZ Aa (kl rfl) wN) wU))) (ke rfl rfl (kg rfl (wJ (kc rfl) (wJ (xZ Aa (kl rfl) wN) wU))) (ke rfl rfl (zF wU) (xP (Cu Cr (.inl rfl) (akg rfl rfl (wZ Hl (yJ ac5 rfl Ak rfl rfl (kl rfl)) (yJ ac5 rfl Ak rfl rfl (kl rfl)))) (kf (xT WX (Al Tj Tn rfl (ao rfl) (kl rfl) (kh rfl (wJ zq wU))) (Al Tj Tn rfl (ao rfl) (kl rfl) (kh rfl (wJ zq wU))) rfl) (kx rfl (Al Iw Iz rfl (ao rfl) (kl rfl) (wJ (Cq (kh rfl (wJ (Al Tj Tn rfl (ao rfl) (kl rfl) (kh rfl (wJ zq wU))) (wJ (Al Tj Tn rfl (ao rfl) (kl rfl) (kh rfl (wJ zq wU))) wU)))) wU)) wY) wY wY)) (ke rfl rfl (kg rfl (wJ (kc rfl) (wJ (xZ Aa (kl rfl) wN) (wJ (xZ Aa (kl rfl) wN) wU)))) (xP (XM rfl rfl Cr rfl (kl rfl) (Cq (wJ (kb rfl) (wJ (kb rfl) (wJ (kb rfl) wU)))) .nil) (xP (Cu Cr (.inl rfl) (xZ Dg (km rfl (kh rfl (ka rfl))) wN) (kx rfl (Al Iw Iz rfl (ao rfl) (kb rfl) (wJ zV wU)) wY)) (kx rfl (Al Iw Iz rfl (ao rfl) (xZ Dg (km rfl (kh rfl (ka rfl))) wN) (wJ wN wU)) (ke rfl rfl (km rfl (kh rfl (ka rfl))) (ke rfl rfl (km rfl (kh rfl (ka rfl))) (kr (Xf (kg rfl (kh rfl (kh rfl (ka rfl)))) (kg rfl (kh rfl (kh rfl (ka rfl)))))))))))))))))))))))) (λuu=>rfl)
noncomputable def afd:List (Addr×(List Str×List Sm)):=[((123:Addr),((["thing"]:List Str),wC.TX)),((128:Addr),((["path"]:List Str),wC.TY)),((142:Addr),((["self"]:List Str),wC.T5)),((149:Addr),((["self","box"]:List Str),wC.T6)),((156:Addr),((["self","what"]:List Str),wC.T7)),((163:Addr),((["self","number"]:List Str),wC.T8)),((170:Addr),((["self","rows"]:List Str),wC.MP)),((177:Addr),((["self","box"]:List Str),wC.T9)),((184:Addr),((["self","box"]:List Str),wC.Ua)),((196:Addr),((["self","box"]:List Str),wC.Ub)),((217:Addr),((["rows","name"]:List Str),wC.Uc)),((222:Addr),((["rows","name"]:List Str),wC.Ud)),((227:Addr),((["rows","name","box"]:List Str),wC.Ue)),((234:Addr),((["path"]:List Str),wC.Ug)),((241:Addr),((["number"]:List Str),wC.Uh)),((255:Addr),((["self"]:List Str),wC.Ui)),((262:Addr),((["self","view"]:List Str),wC.Uj)),((269:Addr),((["self","box","names"]:List Str),wC.Uk)),((276:Addr),((["self","names"]:List Str),wC.Ul)),((283:Addr),((["self","box"]:List Str),wC.Um)),((290:Addr),((["self","path","number"]:List Str),wC.Ky)),((297:Addr),((["self","path"]:List Str),wC.Qn)),((304:Addr),((["self"]:List Str),wC.Un)),((311:Addr),((["self","number"]:List Str),wC.Uo)),((318:Addr),((["self","shot"]:List Str),wC.Uq)),((325:Addr),((["self","shot"]:List Str),wC.Ur)),((332:Addr),((["self"]:List Str),wC.Us)),((339:Addr),((["self","view","path"]:List Str),wC.Ut)),((346:Addr),((["self","view","path"]:List Str),wC.Uu)),((358:Addr),((["self","box"]:List Str),wC.Vp)),((363:Addr),((["self","one","other"]:List Str),wC.Vq)),((377:Addr),((["_law_seen"]:List Str),wC.Vi)),((384:Addr),((["_law_script","_law_k"]:List Str),wC.Vj)),((389:Addr),((["_law_cell"]:List Str),wC.Vk)),((394:Addr),((["_law_cell"]:List Str),wC.Vl)),((401:Addr),((["_law_cell"]:List Str),wC.Vm)),((408:Addr),((["_law_seen","_law_due"]:List Str),wC.Vn)),((415:Addr),((["_law_store","_law_cell","_law_more"]:List Str),wC.N7)),((422:Addr),((["_law_store","_law_cell","_law_more"]:List Str),wC.VF)),((429:Addr),((["_law_pile","_law_box"]:List Str),wC.Vy)),((434:Addr),((["_law_pile","_law_top"]:List Str),wC.VB)),((441:Addr),((["_law_pile","_law_one","_law_other"]:List Str),wC.Vz)),((448:Addr),((["_law_seen","_law_due","_law_looked_here"]:List Str),wC.QM)),((453:Addr),((["_law_script"]:List Str),wC.VG))]
noncomputable def tab:Tab:=λf=>afd.lookup f
omit Z in
theorem aoJ (Y:zY P)(hK:P.K=KK P.w.params)(hl:P.lam=LAM):TabOk P tab:=by
 have Z:ZZ P:=⟨Y,hK,hl⟩
 exact tab_of (L:=afd) (.cons (an1 Z) (.cons (an2 Z) (.cons (an3 Z) (.cons (an4 Z) (.cons (an5 Z) (.cons (an6 Z) (.cons (an7 Z) (.cons (an8 Z) (.cons (an9 Z) (.cons (aoa Z) (.cons (aob Z) (.cons (aoc Z) (.cons (aod Z) (.cons (aoe Z) (.cons (aof Z) (.cons (aog Z) (.cons (aoh Z) (.cons (aoi Z) (.cons (aoj Z) (.cons (aok Z) (.cons (aol Z) (.cons (aom Z) (.cons (aon Z) (.cons (aoo Z) (.cons (aop Z) (.cons (aoq Z) (.cons (aor Z) (.cons (aos Z) (.cons (aot Z) (.cons (aou Z) (.cons (aov Z) (.cons (aow Z) (.cons (aox Z) (.cons (aoy Z) (.cons (aoz Z) (.cons (aoA Z) (.cons (aoB Z) (.cons (aoC Z) (.cons (aoD Z) (.cons (aoE Z) (.cons (aoF Z) (.cons (aoG Z) (.cons (aoH Z) (.cons (aoI Z) .nil))))))))))))))))))))))))))))))))))))))))))))
end Gl
end
section
open PySem PySem.W PyProof.Rows PySem.Challenge
set_option maxHeartbeats 0
namespace Gl
set_option tactic.hygienic true in
theorem holds_of {names:List Str}(h:acv KK names tab 453 360):rw_uf040010_12.Holds :=
 holds_law said λsaid=>holds_open (q:=view) (d:=afk) (kwd:=[]) left (Hook.of hook) (Hook.keeps hook) (λs e=>xl_of s (Bool.and_eq_true_iff.mp e).1) XL.keeps (by kernel_rfl) (by kernel_rfl) (by kernel_rfl) (λs e=>recFacts_of (Bool.and_eq_true_iff.mp e).2) (by rfl) said (by decide +kernel) ⟨rfl,rfl,rfl,rfl,rfl,by decide +kernel⟩ (by w_witness2) (by
 intro w s₀ s₁ mg mb G Y fa o pm cd doc dV kV ho hd hcd hD hmg hg args vals as hpre hlay hrd hwl hlo
 have KX:=km_in_of Y
 have hT:=km_tabs_of Y 360 (.head _)
 clear ho hd hcd hD
 refine Ground.open G ?_
 intro T B D TE TW
 wrow_args hpre hlay hrd hwl hlo
 rename_i hL ra w1 r0 hI hr hc hc'
 have hcd:codeHdIn (KK w.params) 362 360=true:=by kernel_rfl
 refine ai2 (K:=KK) (names:=names) (tab:=tab) (c:=362) (T:=360) (lq := "Store.changes.<locals>.<lambda>") KX T hT hcd (by kernel_rfl) hmg rfl (by kernel_rfl) aoJ hL hI hc h λs' h1 h2 h3 h4=>⟨.inl ⟨.bool true,.bool true,[],rfl,λuu=>rfl,.bool true,by kernel_rfl,λuu=>⟨.nil,λuu h=>(nomatch h)⟩⟩,⟨λb o e=>?_,λb o e=>?_⟩,h2,.of_eq (h1.trans hg)⟩
 ·by_cases hb:b=360
  ·subst hb
   rw[hT] at e
   cases e
   obtain⟨ps,hP⟩:=h4
   exact .inr (.inl ⟨(((codeHd_of_K KX hcd).tab hT).isCodeTable),rfl,#[],ps,rfl,by rw[Array.empty_append];exact hP⟩)
  ·exact .inl (h3 b o hb e)
 ·by_cases hb:b=360
  ·subst hb
   obtain⟨ps,hP⟩:=h4
   exact⟨_,hP⟩
  ·exact⟨o,h3 b o hb e⟩)
end Gl
end
section
open PySem PyProof.Rows
set_option maxHeartbeats 0
namespace Gl
open wC
noncomputable def ae (c m:Str)(a:Addr):(Str×Str)×Addr:=((c,m),a)
noncomputable def adL:List ((Str×Str)×Addr):=[ae "SnapError" "" 31,ae "BadPath" "" 44,ae "BadNumber" "" 56,ae "Nothing" "" 68,ae "LeafThere" "" 80,ae "BranchThere" "" 92,ae "NoShot" "" 104,ae "NoBox" "" 116,ae "Pile" "" 206,ae "Store" "" 366,ae "is_name" "" 123,ae "checked" "" 128,ae "Pile" "__init__" 142,ae "Pile" "need" 149,ae "Pile" "fresh" 156,ae "Pile" "leaf" 163,ae "Pile" "branch" 170,ae "Pile" "content" 177,ae "Pile" "hold" 184,ae "Pile" "holders" 191,ae "Pile" "let_go" 196,ae "Pile" "kept" 203,ae "box_of" "" 217,ae "without" "" 222,ae "placed" "" 227,ae "need_way" "" 234,ae "need_number" "" 241,ae "Store" "__init__" 255,ae "Store" "top" 262,ae "Store" "found" 269,ae "Store" "ways" 276,ae "Store" "changed" 283,ae "Store" "put" 290,ae "Store" "cut" 297,ae "Store" "snap" 304,ae "Store" "shot" 311,ae "Store" "drop" 318,ae "Store" "back" 325,ae "Store" "shot_numbers" 332,ae "Store" "kind" 339,ae "Store" "value" 346,ae "Store" "names" 351,ae "Store" "both" 358,ae "Store" "changes" 363,ae "_law_whole" "" 377,ae "_law_cell_at" "" 384,ae "_law_name_by" "" 389,ae "_law_path_by" "" 394,ae "_law_number_by" "" 401,ae "_law_count" "" 408,ae "_law_asked" "" 415,ae "_law_done" "" 422,ae "_law_rows" "" 429,ae "_law_leaves" "" 434,ae "_law_looked" "" 441,ae "_law_told" "" 448,ae "law" "" 453]
noncomputable def ad:Ad:=λc m=>(adL.lookup (c,m)).getD 0
noncomputable def names:List Str:=["SnapError","BadPath","BadNumber","Nothing","LeafThere","BranchThere","NoShot","NoBox"]
theorem Jz {P:Str->Bool}{m:Str}{L:List Str}(h:has m L=true)(q:L.all P=true):P m=true:=by
 induction L with
 | nil=>cases h
 | cons x r ih =>
  obtain⟨h1,h2⟩:=zN q
  exact((mj.1 h).elim (λe=>of_decide_eq_true e▸h1) λe=>ih e h2)
theorem two {p q:Prop}[Decidable p][Decidable q](h:(decide p&&decide q)=true):p/\q:=(zN h).imp of_decide_eq_true of_decide_eq_true
theorem el (p:Params):EL (CT (KK p) names) ad where
 s:={
  p:=⟨by kernel_rfl,by kernel_rfl,λh=>of_decide_eq_true (Jz (P:=λm=>decide ((CT (KK p) names).meth (ad "Pile" "") m=some (ad "Pile" m))) h (by kernel_rfl)),λh=>Jz (P:=(CT (KK p) names).fld (ad "Pile" "")) h (by kernel_rfl)⟩
  ex:=λh=>two (Jz (P:=λx=>decide ((CT (KK p) names).glob x=some (.ref (ad x "")))&&decide ((CT (KK p) names).isExc (ad x "")=true)) h (by kernel_rfl))
  fn:=λh=>two (Jz (P:=λx=>decide ((CT (KK p) names).glob x=some (.ref (ad x "")))&&decide ((CT (KK p) names).init (ad x "")=none)) h (by kernel_rfl))
  letters:=by kernel_rfl
  most:=by kernel_rfl
  bound:=by kernel_rfl
  pile:=by kernel_rfl
  YC:=by kernel_rfl
  store:=by kernel_rfl
  Uw:=by kernel_rfl
  sm:=λh=>of_decide_eq_true (Jz (P:=λm=>decide ((CT (KK p) names).meth (ad "Store" "") m=some (ad "Store" m))) h (by kernel_rfl))
  sf:=λh=>Jz (P:=(CT (KK p) names).fld (ad "Store" "")) h (by kernel_rfl) }
 l:=⟨λh=>two (Jz (P:=λx=>decide ((CT (KK p) names).glob x=some (.ref (ad x "")))&&decide ((CT (KK p) names).init (ad x "")=none)) h (by kernel_rfl))⟩
 u:=λh=>zN (Jz (P:=λx=>(CT (KK p) names).isExc (ad x "")&&(CT (KK p) names).sub (ad x "") (ad "SnapError" "")) h (by kernel_rfl))
 w:=⟨by kernel_rfl,by kernel_rfl⟩
theorem tl:ae4 tab ad where
 s:={
  p:=⟨by unfold w5;kernel_rfl,by unfold w5;kernel_rfl,by unfold w5;kernel_rfl,by unfold w5;kernel_rfl,by unfold w5;kernel_rfl,by unfold w5;kernel_rfl,by unfold w5;kernel_rfl⟩
  ad6:=by unfold w5;kernel_rfl
  checked:=by unfold w5;kernel_rfl
  ad7:=by unfold w5;kernel_rfl
  placed:=by unfold w5;kernel_rfl
  ad8:=by unfold w5;kernel_rfl
  ad9:=by unfold w5;kernel_rfl
  aea:=by unfold w5;kernel_rfl
  U8:=by unfold w5;kernel_rfl
  top:=by unfold w5;kernel_rfl
  found:=by unfold w5;kernel_rfl
  ways:=by unfold w5;kernel_rfl
  changed:=by unfold w5;kernel_rfl
  put:=by unfold w5;kernel_rfl
  kind:=by unfold w5;kernel_rfl
  value:=by unfold w5;kernel_rfl }
 without:=by unfold w5;kernel_rfl
 cut:=by unfold w5;kernel_rfl
 snap:=by unfold w5;kernel_rfl
 shot:=by unfold w5;kernel_rfl
 drop:=by unfold w5;kernel_rfl
 back:=by unfold w5;kernel_rfl
 ae5:=by unfold w5;kernel_rfl
 both:=by unfold w5;kernel_rfl
 changes:=by unfold w5;kernel_rfl
 whole:=by unfold w5;kernel_rfl
 ae6:=by unfold w5;kernel_rfl
 ae7:=by unfold w5;kernel_rfl
 ae8:=by unfold w5;kernel_rfl
 ae9:=by unfold w5;kernel_rfl
 count:=by unfold w5;kernel_rfl
 asked:=by unfold w5;kernel_rfl
 done:=by unfold w5;kernel_rfl
 rows:=by unfold w5;kernel_rfl
 leaves:=by unfold w5;kernel_rfl
 looked:=by unfold w5;kernel_rfl
 told:=by unfold w5;kernel_rfl
 law:=by unfold w5;kernel_rfl
end Gl
end
end HW.Internal
theorem PySem.Challenge.cw_uf040010_12_holds : PySem.Challenge.rw_uf040010_12.Holds :=
 HW.Internal.Gl.holds_of λp a ns hn _=>HW.Internal.wC.an0 (HW.Internal.Gl.el p) HW.Internal.Gl.tl (H:=HW.Internal.Mr a 360 ns) (by unfold HW.Internal.Mr;exact if_pos rfl) (by unfold HW.Internal.Mr;exact(if_neg hn.symm).trans (if_pos rfl))