import PyProof.Rows.All
import Wide.All
import Open.Line
import Wide.FinOn
import Open.Tree
import PyProof.ExcClsAt2
import PyProof.Cells
import PyProof.CompFree
import PyProof.Rows.Globals
import PyProof.Rows.TupSub
import PyProof.Rows.TupAssign
import PyProof.Rows.Own
import PyProof.DictStraight
import PyProof.RaisesMany
import PyProof.PureInt
import PyProof.AutoIntOps
import PyProof.Rules2
import PyProof.Rules3
import PyProof.Rows.Nodes
import PyProof.Rows.Chain
import PyProof.IsRules
import PyProof.NoPylong
import PyProof.Calls
import PyProof.ListCopy
import PyProof.Rows.Lst
import PyProof.Rows.Tup
import PyProof.Rows.StrTemp
import PyProof.IsiPairs
import PyProof.IsiHeapPairs
import PyProof.Conv_int_bool
import PyProof.Rows.Exc
import PyProof.DictTruth
import PyProof.ListOps
import PyProof.SliceList
import PyProof.SliceMore
import PyProof.SeqI
import PyProof.IsiNone
import PyProof.Rows.SeqMore
import PyProof.ForAppend
import PyProof.DictDisplay
import PyProof.DictRoads
import PyProof.ListMulRoad
import PyProof.Rows.ListMulArg
import PyProof.WalksMore
import PyProof.ConsumeWalk
import PyProof.ForAny
import PyProof.RangeFor
import PyProof.WalksPairs
import PyProof.TupleIter
import PyProof.Raises
import PyProof.ListIndex
import PyProof.CompMap
import PyProof.CompUse
import PyProof.RulesMatch
import PyProof.Rows.CellsNews
import PyProof.EqLayable
import PyProof.WalkInts
import PyProof.P3In
import PyProof.SeqI3
import PyProof.ExcClass3
import PyProof.ExcBaseAll.ValueError
import PyProof.RulesAs
import PyProof.IsiBase
import PyProof.ExcAttrAll.ValueError
import PyProof.IsInstance
import PyProof.CallTypeRange
import PyProof.FactsAll.range_2
import PyProof.RangeIter
import PyProof.EnumFor
import PyProof.EnumStmt
import PyProof.EnumMake
import KE.KDictOf
import PyProof.DictUpdate
import PyProof.Rows.SortWalk
import PyProof.Rows.SetFrom
import PyProof.MeetsSeq
import PyProof.TupleOfSeq
import PyProof.ListRange
import PyProof.EqKinds
import PyProof.Rows.TupMore
import PyProof.FitsBits
import PySem.Challenge.RW_uf020031_14
set_option Elab.async false
set_option linter.unusedVariables false
set_option linter.unusedSectionVars false
set_option linter.unusedSimpArgs false
set_option compiler.extract_closed false
set_option bootstrap.genMatcherCode false
set_option genSizeOf false
set_option genSizeOfSpec false
noncomputable section
open PySem.Challenge renaming pw_uf020031_14->kaa
open List renaming range->kab,mem_singleton->kac,mem_cons->kad,getElem?_eq_getElem->kae,getElem?_eq_some_iff->kah,length_cons->kaj,mem_range->kam,mem_of_getElem?->kao,mem_append->kaq,mem_cons_of_mem->kar,length_append->kas,mem_map->kau,not_mem_nil->kay,eq_nil_of_length_eq_zero->kaz,length_nil->kaD,replicate->kaE,mem_cons_self->kaG,cons_append->kaI,length_map->kaK,nodup_cons->kaM,take_add_one->kaN,getElem_of_mem->kaO,getElem?_map->kaP,append_assoc->kaQ,getD_eq_getElem?_getD->kaS,all_eq_true->kaX,mem_append_left->kaZ,range_succ->ka4,append_nil->ka5,filter_append->ka8,map_append->ka9,take_length->kba,nodup_append->kbc,length_range->kbg,contains_iff_mem->kbh,mem_filter->kbi,nodup_iff_pairwise_ne->kbk,contains_cons->kbl,nodup_range->kbn,getElem_mem->kbo,map_cons->kbq,replicate_succ->kbt,getElem?_eq_none->kbw,mem_of_mem_take->kbB,length_eq_zero_iff->kbF,lookup_cons->kbI,length_drop->kbJ,nil_append->kbM,mem_append_right->kbN,length_filter_le->kbO,getElem?_of_mem->kbR,drop_eq_getElem_cons->kbT,map_congr_left->kbW,filterMap_cons->kbX,length_set->kb2,getD->kb3,pairwise_map->kb4,nodup_nil->kb5,take_append_drop->kb7,singleton_append->kb8,any_eq_true->kcd,mem_of_mem_drop->kce,append_of_mem->kcj,getElem?_append_left->kcl,filterMap->kcm,getElem?_take_of_lt->kcs,length_take->kcw,filter_cons->kcx,take_of_length_le->kcD,foldl_cons->kcE,filter_sublist->kcJ,getElem?_set->kcP,flatten_cons->kcQ,ext_getElem?->kcR,map_map->kcS,getElem_inj->kcY,drop_length->kcZ,forIn_cons->kc3,getElem?_append_right->kc6,forIn_nil->kc7,take_nil->kdb,drop_nil->kdc,map_set->kdi,length_singleton->kdj,any_map->kdk,length_take_le'->kdm,rec->kdv,mem_filterMap->kdw,filterMap_map->kdx,take_sublist->kdB,reverse_cons->kdC,getElem_drop->kdD,foldl->kdE,flatMap_cons->kdF,filter_congr->kdG,take_left->kdM,map_drop->kdR,any_cons->kdS,all_cons->kdT,Pairwise->kdU
open Int renaming toNat_natCast->kaf,ofNat_lt->kaw,eq_ofNat_of_zero_le->kax,le_of_lt->kaA,le_antisymm->kaH,fmod_nonneg_of_pos->kaR,zero_add->kaV,le_refl->kaW,lt_toNat->ka0,fmod_lt_of_pos->ka2,add_zero->kbb,mul_le_mul_of_nonneg_left->kbf,sub_nonneg_of_le->kbp,mul_comm->kbr,fmod_eq_emod_of_nonneg->kbv,lt_of_le_of_lt->kbz,le_trans->kbA,ne_of_gt->kbG,lt_irrefl->kbH,natCast_nonneg->kbL,one_mul->kbP,lt_of_mul_lt_mul_left->kbU,add_le_add_left->kbY,not_lt->kb0,mul_zero->kb1,mul_nonneg->kb9,mul_fdiv_add_fmod->kcc,zero_mul->kcn,lt_of_lt_of_le->kco,emod_lt_of_pos->kcp,self_le_toNat->kcu,ofNat_inj->kcy,mul_sub->kcz,mul_one->kcA,sub_zero->kcH,pow_succ->kcI,mul_add->kcL,toNat->kcO,sub_pos_of_lt->kcT,not_le->kcU,emod_eq_of_lt->kcV,ofNat_le->kc0,mul_le_mul_of_nonneg_right->kc1,le_add_of_nonneg_right->kc8,eq_of_mul_eq_mul_left->kc9,add_nonneg->kda,mul_assoc->kdg,sub_self->kdn,le_of_eq->kdo,eq_of_sub_eq_zero->kdp,le_of_neg_le_neg->kdr,le_of_lt_add_one->kds,add_one_le_of_lt->kdt,neg_mul->kdy,add_mul->kdz,sub_le_self->kdN,natCast_inj->kdO,emod_nonneg->kdP
open PySem renaming wpAny_bind->kag,wpAny_mono->kat,wpAny_pure->kaC,mainGlobals->kaL,wpAny_truthy_bool->kaY,sizeLine->kdQ
open Nat renaming le_trans->kai,le_of_ble_eq_true->kal,le_refl->kaB,lt_succ_self->ka1,ne_of_lt->kbd,lt_irrefl->kbe,lt_of_lt_of_le->kbm,le_of_lt_succ->kbs,lt_of_le_of_lt->kbx,le_of_lt->kby,pow_le_pow_right->kbC,lt_succ_of_lt->kbE,succ_le_succ->kbV,not_lt->kbZ,ne_of_gt->kcb,zero_le->kch,le_succ->kci,le_of_eq->kck,le_add_right->kcC,not_lt_zero->kcF,noConfusion->kcG,sub_lt_sub_left->kcK,lt_or_eq_of_le->kcM,lt_of_le_of_ne->kcN,zero_add->kcW,lt_trans->kcX,min_eq_left->kc4,le_antisymm->kc5,le_of_succ_le_succ->kdh,eq_of_beq_eq_true->kdl,add_le_add_right->kdq,pos_of_ne_zero->kdA,sub_le->kdH,lt_trichotomy->kdI,lt_succ_of_le->kdJ,succ_ne_zero->kdL
open Bool renaming false_eq_true->kak,false_ne_true->kan,and_eq_true->kaJ,and_eq_true_iff->kaT,eq_iff_iff->ka6,not_true->kbj,or_eq_true->kbu,not_eq_true'->kbD,not_false->kb6,true_and->kcf,false_and->kcq,eq_false_iff->kct,or_false->kde,false_or->kdf
open PySem.Heap renaming get?_push_of_some->kap,get?_push_size->kaF,get?_update_other->kaU,lt_size->ka3,SameBut->ka7,size_push->kbK,get?_none_of_le->kbS,get?_update_self->kca,dictOf_iff->kcg,mk->kdd,ExtBut->kdu
open Classical renaming byContradiction->kav,propDecidable->kc2
open Array renaming getElem?_eq_some_iff->kbQ
open Option renaming bind_eq_some_iff->kcr,map_eq_some_iff->kcv,map_some->kcB,isSome->kdK
section
open PySem
namespace Mine
open PySem.W PySem.Calls PyProof.Rows
noncomputable def zf1(p:Program)(w:World)(nA:Nat)(ann:Option Value):Nat->SharedT->Thread->Option SharedT
 | 0,_,_=>none
 | n+1,s,t=>match through t with
  | true=>some s
  | false=>match stepOk nA ann t with
   | false=>none
   | true=>match stepT (denote treeTable) p w s t with
    | some (s',t')=>zf1 p w nA ann n s' t'
    | none=>none
theorem znn{p:Program}{w:World}{nA:Nat}{ann:Option Value}{n:Nat}:∀ {s s':SharedT} {t:Thread},zf1 p w nA ann n s t=some s'->topRun treeTable p w nA ann n s.abs t=some s'.abs:=by
 induction n with
 | zero=>intro s s' t h;cases h
 | succ n ih =>
  intro s s' t h
  unfold zf1 at h
  unfold topRun
  cases ht:through t with
  | true=>rw [ht] at h;cases h;rfl
  | false =>
   rw [ht] at h
   cases hk:stepOk nA ann t with
   | false=>rw [hk] at h;cases h
   | true =>
    rw [hk] at h
    cases hs:stepT (denote treeTable) p w s t with
    | none=>rw [hs] at h;cases h
    | some r=>obtain ⟨sM,tc⟩:=r;rw [hs] at h;rw [stepT_spec hs];exact ih h
noncomputable def zjA:List Obj->BT->Nat->Option BT
 | [],t,_=>some t
 | o::r,t,n=>match ((t.ins n o).get n).isSome with
  | true=>zjA r (t.ins n o) (n+1)
  | false=>none
theorem zn9{life:Life}{l:List Obj}:∀ {t t':BT} {n:Nat},zjA l t n=some t'->absHeap t' (n+l.length) life=⟨(absHeap t n life).objs++l.toArray,life⟩:=by
 induction l with
 | nil =>
  intro t t' n h
  cases h
  show kdd _ _=kdd _ _
  simp [absHeap]
 | cons o r ih =>
  intro t t' n h
  unfold zjA at h
  cases hg:((t.ins n o).get n).isSome with
  | false=>rw [hg] at h;cases h
  | true =>
   rw [hg] at h
   have:=ih h
   rw [absHeap_ins hg,show n+1+r.length=n+(o::r).length by simp;omega] at this
   rw [this]
   show kdd _ _=kdd _ _
   simp [Heap.push]
noncomputable def zlH(p:Program)(w:World)(N:Nat):Option SharedT:=(fencedOpening treeTable p w N).bind fun sa=>match sa.heap.isNs kaL && sa.gens.size==0 with
 | true=>(zjA sa.heap.objs.toList .nil 0).bind fun tA=>(zf1 p w sa.heap.objs.size (sa.heap.nsMap kaL "__annotations__") N ⟨tA,sa.heap.objs.size,sa.heap.life,sa.gens,sa.drawn,sa.toks,sa.os⟩ (topStub p)).bind fun sB =>
   match staticsOk (importedModules p.main.body) sa.heap sB.abs.heap && namesBound p sB.abs.heap && gensDone sB.abs && laidKept sa.heap sB.abs.heap with
   | true=>some sB
   | false=>none
 | false=>none
theorem zj7{p:Program}{w:World}{N:Nat}{s:SharedT}(h:zlH p w N=some s):openEnds treeTable p w N=some s.abs:=by
 obtain ⟨sa,h0,h⟩:=kcr.mp h
 unfold openEnds
 rw [h0]
 show topFrom treeTable p w N sa=_
 unfold topFrom
 cases hb:sa.heap.isNs kaL && sa.gens.size==0 with
 | false=>rw [hb] at h;cases h
 | true =>
  rw [hb] at h
  obtain ⟨tA,h1,h⟩:=kcr.mp h
  obtain ⟨sB,h2,h⟩:=kcr.mp h
  have e:(⟨tA,sa.heap.objs.size,sa.heap.life,sa.gens,sa.drawn,sa.toks,sa.os⟩:SharedT).abs=sa:=by
   have:=zn9 (life:=sa.heap.life) h1
   obtain ⟨⟨objs,life⟩,gens,drawn,toks,os⟩:=sa
   show Shared.mk (absHeap tA objs.size life) _ _ _ _=_
   have e:absHeap tA objs.size life=⟨objs,life⟩:=by
    rw [kcW,Array.length_toList] at this
    rw [this]
    show kdd _ _=kdd _ _
    simp [absHeap,BT.list]
   rw [e]
  have h3:=znn h2
  rw [e] at h3
  show (topRun treeTable p w sa.heap.objs.size _ N sa (topStub p)).bind _=_
  rw [h3]
  show (match staticsOk (importedModules p.main.body) sa.heap sB.abs.heap && namesBound p sB.abs.heap && gensDone sB.abs && laidKept sa.heap sB.abs.heap with | true=>some sB.abs | false=>none)=_
  split at h
  ·cases h;rfl
  ·cases h
theorem zo2{p q:Program}{loose:List Str}{Xt:Shared->Bool}{α:Type}{Yf:Shared->α}{Ya:World->α}{N:Nat}(h:∀ w,(zlH p w N).map (fun s=>(openSeen q loose (importedModules p.main.body) Xt true s.abs,Yf s.abs))=some (openGood q loose,Ya w)):LeftO p q loose Xt Yf Ya N:=fun w=>by
 obtain ⟨s,h1,h2⟩:=kcv.mp (h w)
 rw [zj7 h1]
 exact congrArg some h2
theorem zk6{A A1 A2:Type}{x:Option SharedT}{f1:SharedT->A}{f2:SharedT->A1}{f3:SharedT->Bool}{f4:SharedT->A2}{y:SharedT->Bool}{a1:A}{a2:A1}{a4:A2}
  (h1:x.map (fun s=>(f1 s,f2 s,y s))=some (a1,a2,true)) (h2:x.map f3=some true) (h3:x.map f4=some a4):x.map (fun s=>((f1 s,f2 s,f3 s,f4 s),y s))=some ((a1,a2,true,a4),true):=by
 cases x with
 | none=>cases h1
 | some s =>
  have e1:=Prod.mk.inj (Option.some.inj h1)
  have e2:=Prod.mk.inj e1.2
  exact congrArg some (Prod.ext (Prod.ext e1.1 (Prod.ext e2.1 (Prod.ext (Option.some.inj h2) (Option.some.inj h3)))) e2.2)
noncomputable def exN(x:Nat):Str:=(["YardError","NoNet","NoHeap","NoPlace","NoTree","TooLittle","NotAgain"]:List Str).getD x ""
noncomputable def chN(x:Nat):List Str:=if x=0 then [] else ["YardError"]
noncomputable def huN(h:Heap)(name:Str):Bool:=match h.clsAt kaL name with
 | some (_,_,cd)=>(["__init__","__getattribute__","__getattr__","__class__"]:List Str).all fun n=>(h.nsMap cd.ns n).isNone
 | none=>false
noncomputable def xsN(xs:List Nat)(h:Heap):Bool:=h.isNs kaL && xs.contains 0 && xs.all fun x=>h.ownExcOk (exN x) (chN x) [.type "ValueError", .type "Exception", .type "BaseException", .type "object"] "ValueError.__new__" && huN h (exN x) && xs.all fun y=>decide (h.nsMap kaL (exN x)=h.nsMap kaL (exN y))==(x==y)
end Mine
end
section
open PySem
set_option maxRecDepth 100000
namespace Mine
open PySem.W PySem.Calls PyProof.Rows
noncomputable abbrev pW:Program:=kaa
noncomputable def vW:Program:=PySem.W.view pW [1,2,3,4,5,6,7,9,10,11,12,13,14,15,16,17,18,20,21,22,23,24,26,27,28,29,31,32,33,34,35,36,37,39,40,41,42,43,44,45,46,47,49,50,51,53,54,55,56,57,58,60,61,62,63,64,65,66,67,68,69,70,71,72,73,74,75,76,77,78]
noncomputable def xtW(s:Shared):Bool:=xlAt vW [] s && recOk (RowW.records (OpenRow.toRowW PySem.Challenge.rw_uf020031_14.row)) s
theorem ztj(w:World):(zlH pW w 6858).map (fun s=>(seen ((recsOf vW).map (·.name)) (ownsOf vW) [] {s.abs with gens:=#[]},s.abs.heap.bltView,xsN [0,1,2,3,4,5,6] s.abs.heap))=some (expectedOf vW,bltViewBooted,true):=by kernel_rfl
theorem zti(w:World):(zlH pW w 6858).map (fun s=>s.abs.heap.keysOk (looseW vW []) ((recsOf vW).map (·.name)) ((litsOf vW).map (·.1)) ((clssOf vW (looseW vW [])).map (·.name)) && s.abs.heap.accountedOkI (importedModules pW.main.body) && s.abs.heap.isNs kaL && s.abs.heap.isNs builtinsNs && tablesOk vW s.abs.heap && xtW s.abs && (if true then s.abs.gens.size==0 else !leftWithCleanup s.abs.gens))=some true:=by kernel_rfl
theorem zth(w:World):(zlH pW w 6858).map (fun s=>(tabsOk vW s.abs,pinSeenD vW (drecsOf vW) s.abs,plainSeenE vW (looseW vW []) s.abs,plainSeenD vW [] s.abs,wideSeen vW s.abs,clsSeenW vW [] s.abs))=some (true,pinGoodD (drecsOf vW),plainGoodE vW (looseW vW []),plainGoodD vW [],wideGood vW,clsGoodW vW []):=by kernel_rfl
theorem zst:LeftO pW vW [] xtW (fun s=>xsN [0,1,2,3,4,5,6] s.heap) (fun _=>true) 6858:=zo2 fun w=>zk6 (ztj w) (zti w) (zth w)
noncomputable def dW:DefRec × List (Str × Expr):=(defOf vW "law").get (by kernel_rfl)
theorem ztL:PySem.Challenge.rw_uf020031_14.wellSaid=true:=by kernel_rfl
end Mine
end
section
namespace Mine
open Int.Internal.Linear (Expr Context Poly)
noncomputable abbrev Lc:=Nat × Int × Expr × Expr
def Ld(x:Context)(c:Lc)(G:Prop):Prop:=Nat.rec (c.2.2.1.denote x<=c.2.2.2.denote x->G) (fun n _=>Nat.rec (c.2.2.1.denote x<c.2.2.2.denote x->G) (fun n _=>Nat.rec (c.2.2.1.denote x=c.2.2.2.denote x->G) (fun n _=>Nat.rec (¬ c.2.2.1.denote x<=c.2.2.2.denote x->G) (fun _ _=>¬ c.2.2.1.denote x<c.2.2.2.denote x->G) n) n) n) c.1
noncomputable def Lv(c:Lc):Expr:=.mulL c.2.1 (Nat.rec (.sub c.2.2.2 c.2.2.1) (fun n _=>Nat.rec (.sub (.sub c.2.2.2 c.2.2.1) (.num 1)) (fun n _=>Nat.rec (.sub c.2.2.2 c.2.2.1) (fun n _=>Nat.rec (.sub (.sub c.2.2.1 c.2.2.2) (.num 1)) (fun _ _=>.sub c.2.2.1 c.2.2.2) n) n) n) c.1)
def zqb(x:Context)(G:Prop)(cs:List Lc):Prop:=kdv G (fun c _ r=>Ld x c r) cs
noncomputable def zjj(e:Expr)(cs:List Lc):Expr:=kdv e (fun c _ r=>.sub r (Lv c)) cs
noncomputable def Lnn(k:Int):Bool:=Int.rec (fun _=>true) (fun _=>false) k
noncomputable def Lok(cs:List Lc):Bool:=kdv true (fun c _ r=>((c.1.beq 2).or (Lnn c.2.1)).and r) cs
noncomputable def zrX(k:Int)(p:Poly):Bool:=Poly.rec (fun c=>Lnn (k.add c)) (fun _ _ _ _=>false) p
theorem zl6{k:Int}(h:Lnn k=true):0<=k:=by
 cases k with
 | ofNat k=>exact kbL k
 | negSucc k=>cases h
theorem ztU{x:Context}{c:Lc}{G:Prop}(hk:((c.1.beq 2).or (Lnn c.2.1))=true)(h:0<=(Lv c).denote x->G):Ld x c G:=by
 obtain ⟨t,k,a,b⟩:=c
 cases t with
 | zero=>exact fun e=>h (kb9 (zl6 hk) (kbp e))
 | succ t =>
  cases t with
  | zero=>exact fun e=>h (kb9 (zl6 hk) (kbp (kdt (kcT e))))
  | succ t =>
   cases t with
   | zero=>exact fun e=>h (kdo ((congrArg (k * ·) (Int.sub_eq_zero.mpr (Eq.symm e))).trans (kb1 k)).symm)
   | succ t =>
    cases t with
    | zero=>exact fun e=>h (kb9 (zl6 hk) (kbp (kdt (kcT (kcU.mp e)))))
    | succ t=>exact fun e=>h (kb9 (zl6 hk) (kbp (kb0.mp e)))
theorem zms{x:Context}{G:Prop}{k:Int}{e:Expr}(cs:List Lc)(h:((Lok cs).and (zrX k (zjj e cs).norm))=true)(hG:0<=k+e.denote x->G):zqb x G cs:=by
 have h2:0<=k+(zjj e cs).denote x:=by
  rw [<-Expr.denote_norm]
  cases hp:(zjj e cs).norm with
  | num c=>rw [hp] at h;exact zl6 (kaT.mp h).2
  | add a b c=>rw [hp] at h;exact Bool.noConfusion (kaT.mp h).2
 have h1:=(kaT.mp h).1
 clear h
 revert h1 h2
 induction cs generalizing G with
 | nil=>exact fun h2 _=>hG h2
 | cons c cs ih =>
  intro h2 h1
  have h1:=kaT.mp h1
  refine ztU h1.1 fun h3=>ih hG (kbA h2 ?_) h1.2
  exact kbY (kdN _ h3) k
theorem lin(x:Context)(a b:Expr)(cs:List Lc)(h:((Lok cs).and (zrX 0 (zjj (.sub b a) cs).norm))=true):zqb x (a.denote x<=b.denote x) cs :=
 zms cs h fun h=>Int.le_of_sub_nonneg (by rw [kaV] at h;exact h)
theorem lit(x:Context)(a b:Expr)(cs:List Lc)(h:((Lok cs).and (zrX (-1) (zjj (.sub b a) cs).norm))=true):zqb x (a.denote x<b.denote x) cs :=
 zms cs h fun h=>by have h:=kbY h 1;rw [Int.add_neg_cancel_left] at h;exact Int.lt_of_sub_pos h
theorem lif{G:Prop}(x:Context)(cs:List Lc)(h:((Lok cs).and (zrX (-1) (zjj (.num 0) cs).norm))=true):zqb x G cs :=
 zms cs h fun h=>absurd (show (0:Int)<=-1+0 from h) (by decide)
noncomputable def Lqs(cs:List Lc):Bool:=kdv true (fun c _ r=>(c.1.beq 2).and r) cs
noncomputable def Lz(p:Poly):Bool:=Poly.rec (fun c=>Int.rec (fun n=>n.beq 0) (fun _=>false) c) (fun _ _ _ _=>false) p
theorem ztT{x:Context}{c:Lc}{G:Prop}(hk:c.1.beq 2=true)(h:(Lv c).denote x=0->G):Ld x c G:=by
 obtain ⟨t,k,a,b⟩:=c
 cases (kdl hk:t=2)
 exact fun e=>h (by show k*(b.denote x - a.denote x)=0;rw [show a.denote x=b.denote x from e,kdn,kb1])
theorem zsK{x:Context}{G:Prop}{e:Expr}(cs:List Lc)(h:((Lqs cs).and (Lz (zjj e cs).norm))=true)(hG:e.denote x=0->G):zqb x G cs:=by
 have h2:(zjj e cs).denote x=0:=by
  rw [<-Expr.denote_norm]
  cases hp:(zjj e cs).norm with
  | num c =>
   rw [hp] at h
   cases c with
   | ofNat n=>exact congrArg Int.ofNat (kdl (kaT.mp h).2)
   | negSucc n=>exact Bool.noConfusion (kaT.mp h).2
  | add a b c=>rw [hp] at h;exact Bool.noConfusion (kaT.mp h).2
 have h1:=(kaT.mp h).1
 clear h
 revert h1 h2
 induction cs generalizing G with
 | nil=>exact fun h2 _=>hG h2
 | cons c cs ih =>
  intro h2 h1
  have h1:=kaT.mp h1
  refine ztT h1.1 fun h3=>ih hG ?_ h1.2
  have:(zjj e cs).denote x - (Lv c).denote x=0:=h2
  rw [h3,kcH] at this;exact this
theorem liq(x:Context)(a b:Expr)(cs:List Lc)(h:((Lqs cs).and (Lz (zjj (.sub b a) cs).norm))=true):zqb x (a.denote x=b.denote x) cs :=
 zsK cs h fun h=>(kdp h).symm
theorem leI{a b:Nat}(h:a<=b):(a:Int)<=b:=kc0.mpr h
theorem ltI{a b:Nat}(h:a<b):(a:Int)<b:=kaw.mpr h
theorem eqI{a b:Nat}(h:a=b):(a:Int)=b:=congrArg Nat.cast h
theorem noI{a b:Nat}(h:¬ a<=b):(b:Int)<a:=kaw.mpr (Nat.not_le.mp h)
theorem nuI{a b:Nat}(h:¬ a<b):(b:Int)<=a:=kc0.mpr (kbZ.mp h)
theorem leN{a b:Nat}(h:(a:Int)<=b):a<=b:=kc0.mp h
theorem ltN{a b:Nat}(h:(a:Int)<b):a<b:=kaw.mp h
theorem eqN{a b:Nat}(h:(a:Int)=b):a=b:=kcy.mp h
theorem yN{a b:Int}(h:a<=b)(h':a≠b):a<b:=Int.lt_iff_le_and_ne.mpr ⟨h,h'⟩
theorem zaG{a b:Nat}(h:(a:Int)<=b)(h':a≠b):(a:Int)<b:=yN h fun e=>h' (kcy.mp e)
theorem nnI(a:Nat):(0:Int)<=a:=kbL a
noncomputable def r1{a:Int}:Context:=.leaf a
noncomputable def r2{a b:Int}:Context:=.branch 1 (.leaf a) (.leaf b)
noncomputable def r3{a b c:Int}:Context:=.branch 1 (.leaf a) (.branch 2 (.leaf b) (.leaf c))
noncomputable def r4{a b c d:Int}:Context:=.branch 2 (.branch 1 (.leaf a) (.leaf b)) (.branch 3 (.leaf c) (.leaf d))
noncomputable def r5{a b c d e:Int}:Context:=.branch 2 (.branch 1 (.leaf a) (.leaf b)) (.branch 3 (.leaf c) (.branch 4 (.leaf d) (.leaf e)))
noncomputable def r6{a b c d e f:Int}:Context:=.branch 3 (.branch 1 (.leaf a) (.branch 2 (.leaf b) (.leaf c))) (.branch 4 (.leaf d) (.branch 5 (.leaf e) (.leaf f)))
noncomputable def r7{a b c d e f g:Int}:Context:=.branch 6 (@r6 a b c d e f) (.leaf g)
noncomputable def r8{a b c d e f g h:Int}:Context:=.branch 6 (@r6 a b c d e f) (.branch 7 (.leaf g) (.leaf h))
theorem rn(x:Lean.RArray Int)(a b:Lean.Grind.CommRing.Expr)(h:a.toPoly_k.beq' b.toPoly_k=true):a.denote x=b.denote x:=by
 rw [Lean.Grind.CommRing.Poly.beq'_eq] at h
 rw [<-a.denote_toPoly,<-b.denote_toPoly,<-a.toPoly_k_eq_toPoly,<-b.toPoly_k_eq_toPoly,h]
noncomputable abbrev V0:Expr:=Expr.var 0
noncomputable abbrev V1:Expr:=Expr.var 1
noncomputable abbrev V2:Expr:=Expr.var 2
noncomputable abbrev V3:Expr:=Expr.var 3
noncomputable abbrev V4:Expr:=Expr.var 4
noncomputable abbrev V5:Expr:=Expr.var 5
noncomputable abbrev V6:Expr:=Expr.var 6
noncomputable abbrev V7:Expr:=Expr.var 7
noncomputable abbrev N0:Expr:=Expr.num 0
noncomputable abbrev N1:Expr:=Expr.num 1
theorem tnn{a:Int}(h:0<=a):(a.toNat:Int)=a:=Int.toNat_of_nonneg h
end Mine
end
section
open PySem
namespace Mine
inductive X2{t0 t1:Type}(p:t0->t1->Prop):Prop | mk (x0:t0) (x1:t1) (h:p x0 x1):X2 p
inductive X3{t0 t1 t2:Type}(p:t0->t1->t2->Prop):Prop | mk (x0:t0) (x1:t1) (x2:t2) (h:p x0 x1 x2):X3 p
inductive X4{t0 t1 t2 t3:Type}(p:t0->t1->t2->t3->Prop):Prop | mk (x0:t0) (x1:t1) (x2:t2) (x3:t3) (h:p x0 x1 x2 x3):X4 p
inductive X5{t0 t1 t2 t3 t4:Type}(p:t0->t1->t2->t3->t4->Prop):Prop | mk (x0:t0) (x1:t1) (x2:t2) (x3:t3) (x4:t4) (h:p x0 x1 x2 x3 x4):X5 p
inductive X6{t0 t1 t2 t3 t4 t5:Type}(p:t0->t1->t2->t3->t4->t5->Prop):Prop | mk (x0:t0) (x1:t1) (x2:t2) (x3:t3) (x4:t4) (x5:t5) (h:p x0 x1 x2 x3 x4 x5):X6 p
inductive X12{t0 t1 t2 t3 t4 t5 t6 t7 t8 t9 t10 t11:Type}(p:t0->t1->t2->t3->t4->t5->t6->t7->t8->t9->t10->t11->Prop):Prop | mk (x0:t0) (x1:t1) (x2:t2) (x3:t3) (x4:t4) (x5:t5) (x6:t6) (x7:t7) (x8:t8) (x9:t9) (x10:t10) (x11:t11) (h:p x0 x1 x2 x3 x4 x5 x6 x7 x8 x9 x10 x11):X12 p
inductive X13{t0 t1 t2 t3 t4 t5 t6 t7 t8 t9 t10 t11 t12:Type}(p:t0->t1->t2->t3->t4->t5->t6->t7->t8->t9->t10->t11->t12->Prop):Prop | mk (x0:t0) (x1:t1) (x2:t2) (x3:t3) (x4:t4) (x5:t5) (x6:t6) (x7:t7) (x8:t8) (x9:t9) (x10:t10) (x11:t11) (x12:t12) (h:p x0 x1 x2 x3 x4 x5 x6 x7 x8 x9 x10 x11 x12):X13 p
inductive A3(a0 a1 a2:Prop):Prop | mk (h0:a0) (h1:a1) (h2:a2):A3 a0 a1 a2
inductive A4(a0 a1 a2 a3:Prop):Prop | mk (h0:a0) (h1:a1) (h2:a2) (h3:a3):A4 a0 a1 a2 a3
inductive A5(a0 a1 a2 a3 a4:Prop):Prop | mk (h0:a0) (h1:a1) (h2:a2) (h3:a3) (h4:a4):A5 a0 a1 a2 a3 a4
inductive A8(a0 a1 a2 a3 a4 a5 a6 a7:Prop):Prop | mk (h0:a0) (h1:a1) (h2:a2) (h3:a3) (h4:a4) (h5:a5) (h6:a6) (h7:a7):A8 a0 a1 a2 a3 a4 a5 a6 a7
inductive A9(a0 a1 a2 a3 a4 a5 a6 a7 a8:Prop):Prop | mk (h0:a0) (h1:a1) (h2:a2) (h3:a3) (h4:a4) (h5:a5) (h6:a6) (h7:a7) (h8:a8):A9 a0 a1 a2 a3 a4 a5 a6 a7 a8
inductive A10(a0 a1 a2 a3 a4 a5 a6 a7 a8 a9:Prop):Prop | mk (h0:a0) (h1:a1) (h2:a2) (h3:a3) (h4:a4) (h5:a5) (h6:a6) (h7:a7) (h8:a8) (h9:a9):A10 a0 a1 a2 a3 a4 a5 a6 a7 a8 a9
inductive E2{α:Type}(p q:α->Prop):Prop | mk (x) (h1:p x) (h2:q x):E2 p q
inductive E3{α:Type}(p q r:α->Prop):Prop | mk (x) (h1:p x) (h2:q x) (h3:r x):E3 p q r
inductive E4{α:Type}(p q r s:α->Prop):Prop | mk (x) (h1:p x) (h2:q x) (h3:r x) (h4:s x):E4 p q r s

theorem qE{α:Type}{x:Option α}{a:α}{p:Prop}(h:x=none)(h':x=some a):p:=by cases h.symm.trans h'
theorem wz{α:Type}{x:Option α}(h:∀ a,x=some a->False):x=none:=by
 cases x with
 | none=>rfl
 | some a=>exact (h a rfl).elim
theorem zaM{α:Type}{x:Option α}{a:α}(h:x=some a):x.isSome=true:=h▸rfl
theorem zsb{α:Type}{x:Option α}{p:Prop}(h:x=none)(h':x.isSome=true):p:=by rw [h] at h';cases h'
theorem zdV{α:Type}{x:Option α}{a b:α}(h:x=some a)(h':x=some b):a=b:=Option.some.inj (h.symm.trans h')

inductive V where
 | none
 | bool (b:Bool)
 | int (i:Int)
 | str (x:Str)
 | ref (a:Addr)

inductive O where
 | list (xs:List V)
 | tup (xs:List V)
 | dict (kvs:List (Int × V))
 | ro (xs:List V)
 | exc (x:Nat)

noncomputable abbrev zc:=Addr->Option O
noncomputable def put(J:zc)(a:Addr)(o:O):zc:=fun b=>if b=a then some o else J b
theorem zB(J:zc)(a:Addr)(o:O):put J a o a=some o:=by simp [put]
theorem zO{J:zc}{a b:Addr}(o:O)(h:b≠a):put J a o b=J b:=by simp [put,h]
theorem zfe{J:zc}{a b:Addr}{o:O}(h:b≠a)(e:(put J a o b).isSome=true):(J b).isSome=true:=(congrArg kdK (zO o h)).symm.trans e
theorem zmf{J:zc}{a b:Addr}{o:O}(h:b≠a)(e:(J b).isSome=true):(put J a o b).isSome=true:=(congrArg kdK (zO o h)).trans e
inductive VIs:V->Value->Prop
 | none:VIs .none .none
 | bool (b):VIs (.bool b) (.bool b)
 | int (i t):VIs (.int i) (.int i t)
 | str (x t):VIs (.str x) (.str x t)
 | ref (a):VIs (.ref a) (.ref a)

inductive yf:List V->List Value->Prop
 | nil:yf [] []
 | cons {v vs u us}:VIs v u->yf vs us->yf (v::vs) (u::us)

theorem yf.length{vs us}(h:yf vs us):us.length=vs.length:=by
 induction h with
 | nil=>rfl
 | cons _ _ ih=>exact congrArg Nat.succ ih
theorem yf.get{vs us}(h:yf vs us):∀ {i:Nat} {v:V},vs[i]?=some v->∃ u,us[i]?=some u/\VIs v u:=by
 induction h with
 | nil=>exact fun e=>qE rfl e
 | @cons v vs u us h _ ih=>exact fun {i w}=>Nat.casesOn i (fun e=>⟨u,rfl,Option.some.inj e▸h⟩) fun i e=>ih (i:=i) e
theorem yf.getR{vs us}(h:yf vs us):∀ {i:Nat} {u:Value},us[i]?=some u->∃ v,vs[i]?=some v/\VIs v u:=by
 induction h with
 | nil=>exact fun e=>qE rfl e
 | @cons v vs u us h _ ih=>exact fun {i w}=>Nat.casesOn i (fun e=>⟨v,rfl,Option.some.inj e▸h⟩) fun i e=>ih (i:=i) e
theorem yf.append{vs us vs' us'}(h:yf vs us)(h':yf vs' us'):yf (vs++vs') (us++us'):=by
 induction h with
 | nil=>exact h'
 | cons h _ ih=>exact .cons h ih
theorem yf.set{vs us}(h:yf vs us)(i:Nat){v:V}{u:Value}(h':VIs v u):yf (vs.set i v) (us.set i u):=by
 induction h generalizing i with
 | nil=>exact .nil
 | cons h r ih=>exact Nat.casesOn i (.cons h' r) fun i=>.cons h (ih i)
theorem yf.take{vs us}(h:yf vs us)(i:Nat):yf (vs.take i) (us.take i):=by
 induction h generalizing i with
 | nil=>rw [kdb,kdb];exact .nil
 | cons h r ih=>exact Nat.casesOn i .nil fun i=>.cons h (ih i)
theorem yf.drop{vs us}(h:yf vs us)(i:Nat):yf (vs.drop i) (us.drop i):=by
 induction h generalizing i with
 | nil=>rw [kdc,kdc];exact .nil
 | cons h r ih=>exact Nat.casesOn i (.cons h r) fun i=>ih i

inductive KVs:List (Int × V)->List (Int × Value)->Prop
 | nil:KVs [] []
 | cons {k v u r s}:VIs v u->KVs r s->KVs ((k,v)::r) ((k,u)::s)

structure TC where
 prog:Program
 w:World
 s0:Shared
 hb:Heap
 scr:Addr
 mg:Str->Option Value
 mb:Str->Option Value
 gl:∃ o,hb.get? kaL=some o
 fr:List Env
 calm:Option Addr
noncomputable def frs(T:TC):List Addr:=T.fr.filterMap (·.frame)
inductive IsD(h:Heap)(L:Addr):Prop | mk (o es ep) (h1:h.get? L=some o) (h2:o.data=.dict es ep):IsD h L
theorem IsD.keeps{h h':Heap}{L:Addr}(x:IsD h L)(hk:∀ b o,h.get? b=some o->h'.get? b=some o):IsD h' L:=let ⟨o,es,ep,e,d⟩:=x;⟨o,es,ep,hk _ _ e,d⟩
theorem IsD.imp'{h h':Heap}{L:Addr}(x:IsD h L)(e:h'.get? L=h.get? L):IsD h' L:=let ⟨o,es,ep,e',d⟩:=x;⟨o,es,ep,e.trans e',d⟩
theorem IsD.some{h:Heap}{L:Addr}(x:IsD h L)(e:h.get? L=none):False:=let ⟨o,es,ep,e',_⟩:=x;qE e e'

structure TC.Ok(T:TC):Prop where
 g:T.hb.Ns kaL T.mg
 b:T.hb.Ns builtinsNs T.mb
 nolimit:T.hb.NoLimit
 builtins:∀ x:Str,x ≠ "__name__" -> T.mb x=bootBuiltins x
 sysm:∃ o,T.hb.get? sysModules=some o

noncomputable def qO(x:Nat):Str:=(["YardError","NoNet","NoHeap","NoPlace","NoTree","TooLittle","NotAgain"]:List Str).getD x ""
noncomputable def lim:Nat:=1000000
noncomputable def OIs(T:TC):O->Obj->Prop
 | .list xs,o=>xs.length<=lim/\∃ vs n,o={cls:=.type "list", dict:=none,data:=.seq vs n,slots:=#[]}/\yf xs vs.toList
 | .tup xs,o=>xs.length<=lim/\∃ vs n,o={cls:=.type "tuple", dict:=none,data:=.seq vs n,slots:=#[]}/\yf xs vs.toList
 | .ro xs,o=>xs.length<=lim/\o.cls=.type "list" /\ ∃ vs n,o.data=.seq vs n/\yf xs vs.toList
 | .dict kvs,o=>kvs.length<=lim/\∃ us,o.IsDictOf (intKind T.prog T.w) us/\KVs kvs us
 | .exc x,o=>∃ C vs,T.mg (qO x)=some (.ref C)/\o.cls=.ref C/\o.data=.fields vs/\vs[2]?=some .none

noncomputable abbrev TC.M(T:TC):Model:=model T.prog T.w

def zrZ(T:TC)(J:zc)(b:Addr):Prop:=J b=none\/b=T.scr

inductive zrW(P:Obj->Prop)(h:Heap)(a:Addr):Prop | mk (o) (h1:h.get? a=some o) (h2:P o):zrW P h a
inductive zow(hb:Heap)(J:zc)(h:Heap)(env:Env):Prop | mk (h0:env.scope.kind≠.module) (L) (h1:env.frame=some L) (h2:hb.get? L=none) (h3:J L=none) (h4:IsD h L):zow hb J h env
structure St(T:TC)(J:zc)(s:Shared):Prop where
 rest:∃ h tk,s={T.s0 with heap:=h,toks:=tk}
 base:∀ b o,T.hb.get? b=some o->s.heap.get? b=some o
 objs:∀ a so,J a=some so->zrW (OIs T so) s.heap a
 fresh:∀ a,(J a).isSome->a≠T.scr->T.hb.get? a=none
 sysm:∀ a,(J a).isSome->a≠T.scr->(a==sysModules)=false
 ro:∃ xs,J T.scr=some (.ro xs)
 frames:∀ env∈T.fr,zow T.hb J s.heap env
theorem St.fr{T J s}(st:St T J s){L:Addr}(h:L∈frs T):T.hb.get? L=none/\J L=none/\IsD s.heap L:=by
 obtain ⟨env,he,hf⟩:=kdw.mp h
 obtain ⟨_,L',e,h1,h2,h3⟩:=st.frames env he
 exact zdV e hf▸⟨h1,h2,h3⟩
theorem St.notFr{T J s}(st:St T J s){b:Addr}(h:s.heap.get? b=none):b∉frs T:=fun hb=>(st.fr hb).2.2.some h
theorem St.notFrJ{T J s}(st:St T J s){b:Addr}{so:O}(h:J b=some so):b∉frs T:=fun hb=>qE (st.fr hb).2.1 h
theorem zsT{T:TC}{c L:Addr}(hc:c∉frs T)(hL:L∈frs T):L≠c:=fun q=>hc (q▸hL)
theorem zon{T:TC}{J:zc}{c:Addr}{so:O}(hc:c∉frs T):∀ L∈frs T,J L=none->put J c so L=none:=fun L hL h=>(zO _ (zsT hc hL)).trans h
theorem St.framesOf{T J s}(st:St T J s){J':zc}{h':Heap}(hσ:∀ L∈frs T,J L=none->J' L=none)(hh:∀ L∈frs T,IsD s.heap L->IsD h' L):∀ env∈T.fr,zow T.hb J' h' env:=fun env he=>by
 obtain ⟨hk,L,e,h1,h2,h3⟩:=st.frames env he
 have hL:L∈frs T:=kdw.mpr ⟨env,he,e⟩
 exact ⟨hk,L,e,h1,hσ L hL h2,hh L hL h3⟩

def zgL(F:List Addr)(x:Addr)(o o':Obj):Prop:=x∈F/\∃ sl,o'={o with slots:=sl}
inductive zqc(F:List Addr)(h:Heap)(b:Addr)(o:Obj):Prop | mk (o') (h1:h.get? b=some o') (h2:o'=o\/zgL F b o o'):zqc F h b o
structure zV(T:TC)(X:List Addr)(J:zc)(s:Shared)(J':zc)(s':Shared):Prop where
 keep:∀ b o,zrZ T J b->b∉X->s.heap.get? b=some o->zqc (frs T) s'.heap b o
 live:∀ b o,s.heap.get? b=some o->∃ o',s'.heap.get? b=some o'
 mono:∀ a,(J a).isSome->(J' a).isSome
 new:∀ a,J a=none->(J' a).isSome->s.heap.get? a=none

theorem zV.keepX{T X J s J' s'}(a:zV T X J s J' s'){b:Addr}{o:Obj}(hf:zrZ T J b)(hx:b∉X)(hn:b∉frs T)(e:s.heap.get? b=some o):s'.heap.get? b=some o:=by
 obtain ⟨o',h,r⟩:=a.keep b o hf hx e
 exact r.elim (fun r=>r▸h) fun r=>absurd r.1 hn
theorem zV.keepD{T X J s J' s'}(a:zV T X J s J' s'){b:Addr}{o:Obj}(hf:zrZ T J b)(hx:b∉X)(e:s.heap.get? b=some o):∃ o',s'.heap.get? b=some o'/\o'.data=o.data:=by
 obtain ⟨o',h,r⟩:=a.keep b o hf hx e
 exact ⟨o',h,r.elim (congrArg _) fun ⟨_,sl,r⟩=>r▸rfl⟩
theorem zV.dead{T X J s J' s'}(a:zV T X J s J' s'){b:Addr}(h:s'.heap.get? b=none):s.heap.get? b=none :=
 wz fun o e=>let ⟨o',h'⟩:=a.live b o e;qE h h'
theorem zV.refl{T X J s}:zV T X J s J s :=
 ⟨fun _ o _ _ e=>⟨o,e,.inl rfl⟩,fun _ o e=>⟨o,e⟩,fun _ h=>h,fun a h h'=>zsb h h'⟩
theorem zqH{F:List Addr}{x:Addr}{o o1 o2:Obj}(r1:o1=o\/zgL F x o o1)(r2:o2=o1\/zgL F x o1 o2):o2=o\/zgL F x o o2 :=
 r2.elim (fun r2=>r2▸r1) fun r2=>r1.elim (fun r1=>.inr (r1▸r2)) fun ⟨m,sl,e⟩=>.inr ⟨m,let ⟨_,sl',e'⟩:=r2;⟨sl',e'.trans (e▸rfl)⟩⟩
theorem zV.trans{T X J s J1 sB J2 sM}(a:zV T X J s J1 sB)(b:zV T X J1 sB J2 sM):zV T X J s J2 sM:=by
 refine ⟨fun x o hf hx e=>?_,fun x o e=>let ⟨o1,e1⟩:=a.live x o e;b.live x o1 e1,fun x h=>b.mono x (a.mono x h),fun x h h'=>?_⟩
 ·obtain ⟨o1,h1,r1⟩:=a.keep x o hf hx e
  obtain ⟨o2,h2,r2⟩:=b.keep x o1 (hf.elim (fun hf=>.inl (wz fun o1 h1=>qE (a.new x hf (zaM h1)) e)) .inr) hx h1
  exact ⟨o2,h2,zqH r1 r2⟩
 ·exact wz fun o3 h3=>by
   cases h1:J1 x with
   | some o1=>exact qE (a.new x h (zaM h1)) h3
   | none=>obtain ⟨o',h4⟩:=a.live x o3 h3;exact qE (b.new x h1 h') h4
theorem zV.weaken{T X Y J s J' s'}(a:zV T X J s J' s')(h:∀ x∈X,x∈Y):zV T Y J s J' s' :=
 ⟨fun b o hf hb e=>a.keep b o hf (fun hx=>hb (h b hx)) e,a.live,a.mono,a.new⟩
theorem zV.any{T Y J s J' s'}(a:zV T [] J s J' s'):zV T Y J s J' s':=a.weaken (by simp)
theorem zV.free{T X J s J' s'}(a:zV T X J s J' s'){b:Addr}{o:Obj}(hb:J b=none)(e:s.heap.get? b=some o):J' b=none :=
 wz fun o1 h1=>qE (a.new b hb (zaM h1)) e

noncomputable abbrev zK:=List (Option V)
noncomputable def qz:zK->Nat->Option V
 | [],_=>none
 | o::_,0=>o
 | _::r,i+1=>qz r i
noncomputable def jP:zK->Nat->V->zK
 | [],_,_=>[]
 | _::r,0,v=>some v::r
 | o::r,i+1,v=>o::jP r i v
theorem zeC(Z:zK)(i j:Nat)(v u:V):qz (jP Z i v) j=some u->(j=i/\u=v)\/(j≠i/\qz Z j=some u):=by
 induction Z generalizing i j with
 | nil=>exact fun h=>qE rfl h
 | cons o r ih =>
  cases i with
  | zero=>exact Nat.casesOn j (fun h=>.inl ⟨rfl,(Option.some.inj h).symm⟩) fun j h=>.inr ⟨kdL j,h⟩
  | succ i=>exact Nat.casesOn j (fun h=>.inr ⟨kcG,h⟩) fun j h=>(ih i j h).imp (fun h=>⟨congrArg Nat.succ h.1,h.2⟩) fun h=>⟨fun e=>h.1 (Nat.succ.inj e),h.2⟩

noncomputable def own(env:Env):List Addr:=env.locals::env.cells.map (·.2)

structure jm(sc:Scope)(env:Env):Prop where
 scope:env.scope=sc
 kind:sc.kind=.function
 globals:env.globals=kaL
 builtins:env.builtins=builtinsNs

theorem jm.kindOf{sc env}(h:jm sc env)(x:Str):env.kindOf x=sc.names.lookup x:=by unfold Env.kindOf;rw [h.scope]

inductive ztH(env:Env)(ctx:List Str)(Z:zK)(h:Heap):Prop | mk (m) (h1:h.Ns env.locals m) (h2:∀ i x v,ctx[i]?=some x->env.kindOf x=some .local->qz Z i=some v->∃ u,m x=some u/\VIs v u):ztH env ctx Z h
inductive zqd(env:Env)(Z:zK)(h:Heap)(i:Nat)(x:Str):Prop | mk (c o) (h1:env.cells.lookup x=some c) (h2:h.IsCell c o) (h3:∀ v,qz Z i=some v->∃ u,o=some u/\VIs v u):zqd env Z h i x
structure qR(T:TC)(env:Env)(ctx:List Str)(Z:zK)(J:zc)(h:Heap):Prop where
 nd:ctx.Nodup
 ns:ztH env ctx Z h
 cell:∀ i x,ctx[i]?=some x->(env.kindOf x=some .cell\/env.kindOf x=some .free)->zqd env Z h i x
 loneM:∀ x y c,(x,c)∈env.cells->(y,c)∈env.cells->x=y
 apartM:∀ x c,(x,c)∈env.cells->c≠env.locals
 lfree:J env.locals=none
 cfreeM:∀ x c,(x,c)∈env.cells->J c=none/\(∃ o,h.IsCell c o)
 lbase:T.hb.get? env.locals=none
 cbaseM:∀ x c,(x,c)∈env.cells->T.hb.get? c=none

theorem qR.lone{T env ctx Z J h}(F:qR T env ctx Z J h)(x y c)(hx:env.cells.lookup x=some c)(hy:env.cells.lookup y=some c):x=y:=F.loneM x y c (mem_of_lookup hx) (mem_of_lookup hy)
theorem qR.apart{T env ctx Z J h}(F:qR T env ctx Z J h)(x c)(hx:env.cells.lookup x=some c):c≠env.locals:=F.apartM x c (mem_of_lookup hx)
theorem qR.cfree{T env ctx Z J h}(F:qR T env ctx Z J h)(x c)(hx:env.cells.lookup x=some c):J c=none/\(∃ o,h.IsCell c o):=F.cfreeM x c (mem_of_lookup hx)
theorem qR.cbase{T env ctx Z J h}(F:qR T env ctx Z J h)(x c)(hx:env.cells.lookup x=some c):T.hb.get? c=none:=F.cbaseM x c (mem_of_lookup hx)

theorem zta{h h':Heap}{a:Addr}{m}(k:∀ o,h.get? a=some o->∃ o',h'.get? a=some o'/\o'.data=o.data)(n:h.Ns a m):h'.Ns a m :=
 let ⟨o,es,ep,ho,hd,r⟩:=n;let ⟨o',e',d'⟩:=k o ho;⟨o',es,ep,e',d'.trans hd,r⟩
theorem ztb{h:Heap}{a:Addr}{m}(n:h.Ns a m):∃ o,h.get? a=some o:=let ⟨o,_,_,ho,_⟩:=n;⟨o,ho⟩
theorem znc{h h':Heap}{a:Addr}{v}(k:∀ o,h.get? a=some o->∃ o',h'.get? a=some o'/\o'.data=o.data)(n:h.IsCell a v):h'.IsCell a v :=
 let ⟨o,ho,hd⟩:=n;let ⟨o',e',d'⟩:=k o ho;⟨o',e',d'.trans hd⟩
theorem zrs{h:Heap}{a:Addr}{v}(n:h.IsCell a v):∃ o,h.get? a=some o:=let ⟨o,ho,_⟩:=n;⟨o,ho⟩
theorem qR.step{T env ctx Z J J' s s'}(F:qR T env ctx Z J s.heap)(a:zV T [] J s J' s'):qR T env ctx Z J' s'.heap :=
 have kp:∀ b,J b=none->∀ o,s.heap.get? b=some o->∃ o',s'.heap.get? b=some o'/\o'.data=o.data:=fun b hb o e=>a.keepD (.inl hb) kay e
 {F with
  ns:=let ⟨m,h1,h2⟩:=F.ns;⟨m,zta (kp _ F.lfree) h1,h2⟩
  cell:=fun i x hi hk=>let ⟨c,o,h1,h2,h3⟩:=F.cell i x hi hk;⟨c,o,h1,znc (kp c (F.cfree x c h1).1) h2,h3⟩
  lfree:=let ⟨m,h1,_⟩:=F.ns;(ztb h1).elim fun o ho=>a.free F.lfree ho
  cfreeM:=fun x c hx=>⟨(F.cfreeM x c hx).2.elim fun o h=>(zrs h).elim fun _ e=>a.free (F.cfreeM x c hx).1 e,(F.cfreeM x c hx).2.imp fun o h=>znc (kp c (F.cfreeM x c hx).1) h⟩}

noncomputable abbrev EW:=zK->zc->(V->zc->Prop)->(Nat->zc->Prop)->Prop
inductive Out where
 | next
 | ret (v:V)
noncomputable abbrev SW:=zK->zc->(Out->zK->zc->Prop)->(Nat->zc->Prop)->Prop

inductive ztJ(T:TC)(a:Addr)(vs:Array Value)(s s':Shared)(J':zc):Prop | mk (tb oT ts) (k1:vs[1]?=some (.ref tb)) (k2:tb≠a) (k3:s.heap.get? tb=none/\T.hb.get? tb=none/\J' tb=none) (k4:s'.heap.get? tb=some oT) (k5:oT.data=.fields ts) (k6:ts[3]?=some .none):ztJ T a vs s s' J'
inductive zl8(T:TC)(x:Nat)(e:Value)(s s':Shared)(J':zc):Prop
 | mk (a C:Addr) (oe:Obj) (vs) (h1:e=.ref a) (h2:T.mg (qO x)=some (.ref C)) (h3:s.heap.get? a=none/\T.hb.get? a=none/\J' a=none) (h4:s'.heap.get? a=some oe) (h5:oe.cls=.ref C) (h6:oe.data=.fields vs)
  (h7:vs[1]?=some .none\/ztJ T a vs s s' J') (h8:vs[2]?=some .none):zl8 T x e s s' J'

inductive zhD(T:TC)(J:zc)(s:Shared)(Q:V->zc->Prop)(v:Value)(s':Shared):Prop
 | mk (v' J') (h1:VIs v' v) (h2:St T J' s') (h3:zV T [] J s J' s') (h4:Q v' J'):zhD T J s Q v s'
inductive jL(T:TC)(X:List Addr)(J:zc)(s:Shared)(P:Nat->zc->Prop)(e:Value)(s':Shared):Prop
 | mk (x J') (h1:St T J' s') (h2:zV T X J s J' s') (h3:zl8 T x e s s' J') (h4:P x J'):jL T X J s P e s'
inductive zmu:Out->Flow->Prop
 | next:zmu .next .next
 | ret {v u}:VIs v u->zmu (.ret v) (.ret u)
inductive wS(T:TC)(env:Env)(ctx:List Str)(J:zc)(s:Shared)(K:Out->zK->zc->Prop)(f:Flow)(s':Shared):Prop
 | mk (o Z' J') (h1:zmu o f) (h2:St T J' s') (h3:qR T env ctx Z' J' s'.heap) (h4:zV T (own env) J s J' s') (h5:K o Z' J'):wS T env ctx J s K f s'

structure zag(T:TC)(A:Around)(d:Nat):Prop where
 hnd:A.handled=T.calm.map .ref
 frames:A.frames=some T.fr
 depth:A.depth+d<recursionLimit
 units:A.units+4*d+100<cLine

theorem zag.handled{T A d}(ro:zag T A d)(C:T.calm=none):A.handled=none:=ro.hnd.trans (C▸rfl)

def zG(T:TC)(d:Nat)(sc:Scope)(ctx:List Str)(pe:Expr)(w:EW):Prop :=
 ∀ A env Z J s Q P,jm sc env->zag T A d->St T J s->qR T env ctx Z J s.heap->w Z J Q P ->
  wpAny T.M A (eval pe env) (zhD T J s Q) (jL T [] J s P) s
def qP(T:TC)(d:Nat)(sc:Scope)(ctx:List Str)(ps:List Stmt)(w:SW):Prop :=
 ∀ A env Z J s K P,jm sc env->zag T A d->St T J s->qR T env ctx Z J s.heap->w Z J K P ->
  wpAny T.M A (execs ps env) (wS T env ctx J s K) (jL T (own env) J s P) s

theorem zhD.step{T J s J1 sB Q v s'}(a:zV T [] J s J1 sB)(h:zhD T J1 sB Q v s'):zhD T J s Q v s' :=
 let ⟨v',J',h1,h2,h3,h4⟩:=h;⟨v',J',h1,h2,a.trans h3,h4⟩
theorem zl8.back{T x e s sB s' J'}(hd:∀ b,sB.heap.get? b=none->s.heap.get? b=none)(h:zl8 T x e sB s' J'):zl8 T x e s s' J' :=
 let ⟨a,C,oe,vs,h1,h2,h3,h6,h7,h8,h9,h10⟩:=h
 ⟨a,C,oe,vs,h1,h2,⟨hd _ h3.1,h3.2⟩,h6,h7,h8,h9.imp_right fun ⟨tb,oT,ts,k1,k2,k3,k4,k5,k6⟩=>⟨tb,oT,ts,k1,k2,⟨hd _ k3.1,k3.2⟩,k4,k5,k6⟩,h10⟩
theorem jL.step{T X J s J1 sB P v s'}(a:zV T X J s J1 sB)(h:jL T X J1 sB P v s'):jL T X J s P v s' :=
 let ⟨v',J',h2,h3,h4,h5⟩:=h;⟨v',J',h2,a.trans h3,h4.back (fun _=>a.dead),h5⟩
theorem jL.any{T X J s P v s'}(h:jL T [] J s P v s'):jL T X J s P v s' :=
 let ⟨v',J',h2,h3,h4,h5⟩:=h;⟨v',J',h2,h3.any,h4,h5⟩

theorem zG.run{T d sc ctx pe w}(h:zG T d sc ctx pe w){A env Z J s Q P}(eo:jm sc env)(ro:zag T A d)(st:St T J s)(fr:qR T env ctx Z J s.heap)(hw:w Z J Q P){Q'}
  (k:∀ v' v J' s',VIs v' v->St T J' s'->zV T [] J s J' s'->qR T env ctx Z J' s'.heap->Q v' J'->Q' v s') :
  wpAny T.M A (eval pe env) Q' (jL T [] J s P) s :=
 kat (h A env Z J s Q P eo ro st fr hw) (fun _ _ ⟨v',J',h1,h2,h3,h4⟩=>k v' _ J' _ h1 h2 h3 (fr.step h3) h4) fun _ _ x=>x

theorem zG.then{T d sc ctx pe w}(h:zG T d sc ctx pe w){A env Z J0 sa J s Q P}(eo:jm sc env)(ro:zag T A d)(a:zV T [] J0 sa J s)(st:St T J s)(fr:qR T env ctx Z J s.heap)(hw:w Z J Q P){Q'}
  (k:∀ v' v J' s',VIs v' v->St T J' s'->zV T [] J0 sa J' s'->qR T env ctx Z J' s'.heap->Q v' J'->Q' v s') :
  wpAny T.M A (eval pe env) Q' (jL T [] J0 sa P) s :=
 kat (h.run eo ro st fr hw (Q':=Q') fun v' v J' s' h1 h2 h3 h4 h5=>k v' v J' s' h1 h2 (a.trans h3) h4 h5) (fun _ _ x=>x) fun _ _ x=>x.step a

theorem St.tok{T J s}(st:St T J s)(n:Nat):St T J {s with toks:=n} :=
 let ⟨h,_,e⟩:=st.rest;⟨⟨h,n,by rw [e]⟩,st.base,st.objs,st.fresh,st.sysm,st.ro,st.frames⟩
theorem zV.tok{T X J sa J0 s}(a:zV T X J0 sa J s)(n:Nat):zV T X J0 sa J {s with toks:=n}:=⟨a.keep,a.live,a.mono,a.new⟩

theorem St.push{T J s}(st:St T J s)(o:Obj)(tk:Nat):St T J {s with heap:=s.heap.push o,toks:=tk} :=
 let ⟨h,_,e⟩:=st.rest
 ⟨⟨h.push o,tk,by rw [e]⟩,fun b ob hb=>kap _ (st.base b ob hb),
  fun a so ha=>let ⟨ob,h1,h2⟩:=st.objs a so ha;⟨ob,kap _ h1,h2⟩,st.fresh,st.sysm,st.ro,st.framesOf (fun _ _ h=>h) fun _ _ h=>h.keeps fun _ _ e=>kap _ e⟩
theorem zV.push{T X J0 sa J s}(a:zV T X J0 sa J s)(o:Obj)(tk:Nat):zV T X J0 sa J {s with heap:=s.heap.push o,toks:=tk} :=
 ⟨fun b ob hf hb e=>let ⟨o',h,r⟩:=a.keep b ob hf hb e;⟨o',kap _ h,r⟩,fun b ob e=>let ⟨o',h⟩:=a.live b ob e;⟨o',kap _ h⟩,a.mono,a.new⟩
theorem St.lt{T J s}(st:St T J s){a so}(h:J a=some so):a<s.heap.objs.size:=let ⟨_,e,_⟩:=st.objs a so h;ka3 e
theorem St.sizeFree{T J s}(st:St T J s):J s.heap.objs.size=none :=
 wz fun so h=>absurd (st.lt h) (kbe _)
theorem St.big{T J s}(st:St T J s):(s.heap.objs.size==sysModules)=false:=by
 obtain ⟨o,ho⟩:=T.gl
 have h:kaL<s.heap.objs.size:=ka3 (st.base _ _ ho)
 refine beq_eq_false_iff_ne.mpr fun e=>?_
 rw [e] at h
 exact absurd h (by decide)
theorem get?_size(h:Heap):h.get? h.objs.size=none :=
 wz fun o e=>absurd (ka3 e) (kbe _)
theorem St.roPut{T J s}(st:St T J s)(c:Addr)(so:O)(hc:J c=none):∃ xs,put J c so T.scr=some (.ro xs):=by
 exact st.ro.imp fun xs h=>(zO _ fun e=>qE hc (e▸h)).trans h
theorem St.notScr{T J s}(st:St T J s){a so}(h:J a=some so)(hs:∀ xs,so≠.ro xs):a≠T.scr:=by
 rintro rfl
 obtain ⟨xs,e⟩:=st.ro
 exact hs xs (zdV h e)
theorem St.alloc{T J s}(st:St T J s){o:Obj}{so:O}(ho:OIs T so o)(tk:Nat)(hf:o.isFreed=false):St T (put J s.heap.objs.size so) {s with heap:=s.heap.push o,toks:=tk}:=by
 have st':=st.push o tk
 refine ⟨st'.rest,st'.base,fun a so' ha=>?_,fun a ha hn=>?_,fun a ha hn=>?_,st.roPut _ _ st.sizeFree,st'.framesOf (zon (st.notFr (get?_size _))) fun _ _ h=>h⟩
 ·by_cases h:a=s.heap.objs.size
  ·subst h;exact ⟨o,kaF _ hf,Option.some.inj ((zB _ _ _).symm.trans ha)▸ho⟩
  ·exact st'.objs a so' ((zO _ h).symm.trans ha)
 ·by_cases h:a=s.heap.objs.size
  ·subst h
   exact wz fun ob e=>qE (get?_size _) (st.base _ _ e)
  ·exact st.fresh a (zfe h ha) hn
 ·by_cases h:a=s.heap.objs.size
  ·subst h;exact st.big
  ·exact st.sysm a (zfe h ha) hn
theorem zV.alloc{T X J0 sa J s}(a:zV T X J0 sa J s)(st:St T J s)(o:Obj)(so:O)(tk:Nat):zV T X J0 sa (put J s.heap.objs.size so) {s with heap:=s.heap.push o,toks:=tk}:=by
 have a':=a.push o tk
 refine ⟨a'.keep,a'.live,fun b hb=>?_,fun b hb hb'=>?_⟩
 ·by_cases h:b=s.heap.objs.size
  ·subst h;exact zaM (zB _ _ _)
  ·exact zmf h (a.mono b hb)
 ·by_cases h:b=s.heap.objs.size
  ·subst h
   exact wz fun ob e=>let ⟨o',h'⟩:=a.live _ _ e;qE (get?_size _) h'
  ·exact a.new b hb (zfe h hb')
theorem St.grow{T J s}(st:St T J s){h':Heap}(hk:∀ b o,s.heap.get? b=some o->h'.get? b=some o)(tk:Nat):St T J {s with heap:=h',toks:=tk} :=
 let ⟨h,_,e⟩:=st.rest
 ⟨⟨h',tk,by rw [e]⟩,fun b ob hb=>hk b ob (st.base b ob hb),fun a so ha=>let ⟨ob,h1,h2⟩:=st.objs a so ha;⟨ob,hk _ _ h1,h2⟩,st.fresh,st.sysm,st.ro,st.framesOf (fun _ _ h=>h) fun _ _ h=>h.keeps hk⟩
theorem zV.grow{T X J0 sa J s}(a:zV T X J0 sa J s){h':Heap}(hk:∀ b o,s.heap.get? b=some o->h'.get? b=some o)(tk:Nat):zV T X J0 sa J {s with heap:=h',toks:=tk} :=
 ⟨fun b ob hf hb e=>let ⟨o',h,r⟩:=a.keep b ob hf hb e;⟨o',hk _ _ h,r⟩,fun b ob e=>let ⟨o',h⟩:=a.live b ob e;⟨o',hk _ _ h⟩,a.mono,a.new⟩
theorem St.lay{T J s}(st:St T J s){h':Heap}(hk:∀ b o,s.heap.get? b=some o->h'.get? b=some o){o:Obj}{so:O}(hn:h'.get? s.heap.objs.size=some o)(ho:OIs T so o)(tk:Nat) :
  St T (put J s.heap.objs.size so) {s with heap:=h',toks:=tk}:=by
 have st':=st.grow hk tk
 refine ⟨st'.rest,st'.base,fun a so' ha=>?_,fun a ha hne=>?_,fun a ha hne=>?_,st.roPut _ _ st.sizeFree,st'.framesOf (zon (st.notFr (get?_size _))) fun _ _ h=>h⟩
 ·by_cases h:a=s.heap.objs.size
  ·subst h;exact ⟨o,hn,Option.some.inj ((zB _ _ _).symm.trans ha)▸ho⟩
  ·exact st'.objs a so' ((zO _ h).symm.trans ha)
 ·by_cases h:a=s.heap.objs.size
  ·subst h
   exact wz fun ob e=>qE (get?_size _) (st.base _ _ e)
  ·exact st.fresh a (zfe h ha) hne
 ·by_cases h:a=s.heap.objs.size
  ·subst h;exact st.big
  ·exact st.sysm a (zfe h ha) hne
theorem zV.lay{T X J0 sa J s}(a:zV T X J0 sa J s){h':Heap}(hk:∀ b o,s.heap.get? b=some o->h'.get? b=some o)(so:O)(tk:Nat) :
  zV T X J0 sa (put J s.heap.objs.size so) {s with heap:=h',toks:=tk}:=by
 have a':=a.grow hk tk
 refine ⟨a'.keep,a'.live,fun b hb=>?_,fun b hb hb'=>?_⟩
 ·by_cases h:b=s.heap.objs.size
  ·subst h;exact zaM (zB _ _ _)
  ·exact zmf h (a.mono b hb)
 ·by_cases h:b=s.heap.objs.size
  ·subst h
   exact wz fun ob e=>let ⟨o',h'⟩:=a.live _ _ e;qE (get?_size _) h'
  ·exact a.new b hb (zfe h hb')
theorem St.noneFree{T J s}(st:St T J s){c:Addr}(h:s.heap.get? c=none):J c=none :=
 wz fun so e=>let ⟨o,h1,_⟩:=st.objs c so e;qE h h1
theorem St.turn{T J s}(st:St T J s){a:Addr}{so so':O}(ha:J a=some so)(hn:a≠T.scr){h':Heap}(hs:ka7 a s.heap h'){o':Obj}(ho':h'.get? a=some o')(hi:OIs T so' o')(tk:Nat) :
  St T (put J a so') {s with heap:=h',toks:=tk}:=by
 obtain ⟨h,t,e⟩:=st.rest
 refine ⟨⟨h',tk,by rw [e]⟩,fun b o hb=>?_,fun b sb hb=>?_,fun b hb hne=>?_,fun b hb hne=>?_,st.ro.imp fun xs h=>(zO _ (Ne.symm hn)).trans h,st.framesOf (zon (st.notFrJ ha)) fun L hL h=>h.imp' (hs.2 L (zsT (st.notFrJ ha) hL))⟩
 ·have hne:b≠a:=fun q=>by subst q;exact qE (st.fresh b (zaM ha) hn) hb
  exact (hs.2 b hne).trans (st.base b o hb)
 ·by_cases h:b=a
  ·subst h;exact ⟨o',ho',Option.some.inj ((zB _ _ _).symm.trans hb)▸hi⟩
  ·obtain ⟨o,h1,h2⟩:=st.objs b sb ((zO _ h).symm.trans hb);exact ⟨o,(hs.2 b h).trans h1,h2⟩
 ·by_cases h:b=a
  ·subst h;exact st.fresh b (zaM ha) hne
  ·exact st.fresh b (zfe h hb) hne
 ·by_cases h:b=a
  ·subst h;exact st.sysm b (zaM ha) hne
  ·exact st.sysm b (zfe h hb) hne
theorem zV.turn{T X J0 sa J s}(a:zV T X J0 sa J s){b:Addr}{so so':O}(hb:J b=some so)(hn:b≠T.scr){h':Heap}(hs:ka7 b s.heap h'){o':Obj}(ho':h'.get? b=some o')(tk:Nat) :
  zV T X J0 sa (put J b so') {s with heap:=h',toks:=tk}:=by
 refine ⟨fun c o hf hc e=>?_,fun c o e=>?_,fun c hc=>?_,fun c hc hc'=>?_⟩
 ·obtain ⟨o1,h1,r1⟩:=a.keep c o hf hc e
  have hne:c≠b:=by
   rintro rfl
   rcases hf with hf | hf
   ·exact qE (a.new c hf (zaM hb)) e
   ·exact hn hf
  exact ⟨o1,(hs.2 c hne).trans h1,r1⟩
 ·obtain ⟨o1,h1⟩:=a.live c o e
  by_cases h:c=b
  ·subst h;exact ⟨o',ho'⟩
  ·exact ⟨o1,(hs.2 c h).trans h1⟩
 ·by_cases h:c=b
  ·subst h;exact zaM (zB _ _ _)
  ·exact zmf h (a.mono c hc)
 ·by_cases h:c=b
  ·subst h;exact a.new c hc (zaM hb)
  ·exact a.new c hc (zfe h hc')


def V.asInt(v:V)(k:Int->Prop):Prop:=match v with | .int i=>k i | _=>False
def V.asBool(v:V)(k:Bool->Prop):Prop:=match v with | .bool b=>k b | _=>False
def V.asRef(v:V)(k:Addr->Prop):Prop:=match v with | .ref a=>k a | _=>False
@[simp] theorem ze (i:Int) (k):(V.int i).asInt k=k i:=rfl
@[simp] theorem zn (b:Bool) (k):(V.bool b).asBool k=k b:=rfl
@[simp] theorem zg (a:Addr) (k):(V.ref a).asRef k=k a:=rfl
inductive GI(k:Int->Prop):V->Value->Prop | mk (i t) (h:k i):GI k (.int i) (.int i t)
inductive GB(k:Bool->Prop):V->Value->Prop | mk (b) (h:k b):GB k (.bool b) (.bool b)
inductive GR(k:Addr->Prop):V->Value->Prop | mk (a) (h:k a):GR k (.ref a) (.ref a)
theorem V.asInt.get{v:V}{k:Int->Prop}{u:Value}(h:v.asInt k)(hv:VIs v u):GI k v u:=by
 cases hv<;>first | exact ⟨_,_,h⟩ | exact h.elim
theorem V.asBool.get{v:V}{k:Bool->Prop}{u:Value}(h:v.asBool k)(hv:VIs v u):GB k v u:=by
 cases hv<;>first | exact ⟨_,h⟩ | exact h.elim
theorem V.asRef.get{v:V}{k:Addr->Prop}{u:Value}(h:v.asRef k)(hv:VIs v u):GR k v u:=by
 cases hv<;>first | exact ⟨_,h⟩ | exact h.elim

def val(v:V):EW:=fun _ J Q _=>Q v J
def loc(i:Nat):EW:=fun Z J Q _=>match qz Z i with | some v=>Q v J | none=>False

section
variable {T:TC} {d:Nat} {sc:Scope} {ctx:List Str}

theorem wy{k pos}:zG T d sc ctx (.Constant .none k pos) (val .none) :=
 fun _ _ _ _ _ _ _ _ _ st _ hw=>wpAny_Constant_none ⟨_,_,.none,st,.refl,hw⟩
theorem ql{b k pos}:zG T d sc ctx (.Constant (.bool b) k pos) (val (.bool b)) :=
 fun _ _ _ _ _ _ _ _ _ st _ hw=>wpAny_Constant_bool ⟨_,_,.bool b,st,.refl,hw⟩
theorem zf{i k pos}:zG T d sc ctx (.Constant (.int i) k pos) (val (.int i)) :=
 fun _ _ _ _ _ _ _ _ _ st _ hw=>wpAny_Constant_int ⟨_,_,.int i _,st.tok _,.tok .refl _,hw⟩
theorem zhb{x k pos}:zG T d sc ctx (.Constant (.str x) k pos) (val (.str x)) :=
 fun _ _ _ _ _ _ _ _ _ st _ hw=>wpAny_Constant_str ⟨_,_,.str x _,st.tok _,.tok .refl _,hw⟩

noncomputable def zhH:Option NameKind->Bool
 | some .local | some .cell | some .free=>true
 | _=>false
noncomputable def zrR(sc:Scope)(ctx:List Str)(i:Nat)(x:Str):Bool:=(ctx[i]?==some x) && (zhH (sc.names.lookup x) && (!(x==("__debug__" : Str)) && !(x==("__classdict__" : Str))))
theorem za{x pos}(i:Nat)(h:zrR sc ctx i x=true:=by kernel_rfl) :
  zG T d sc ctx (.Name x pos) (loc i):=by
 unfold zrR at h
 rw [kaJ,kaJ,kaJ,beq_iff_eq,kbD,kbD] at h
 obtain ⟨hx,hk,hd,hc⟩:=h
 intro A env Z J s Q P eo ro st fr hw
 unfold loc at hw
 cases hv:qz Z i with
 | none=>rw [hv] at hw;exact hw.elim
 | some v =>
  rw [hv] at hw
  have hkf:env.scope.kind=.function:=by rw [eo.scope];exact eo.kind
  refine wpAny_Name ?_ hd
  rw [<-eo.kindOf] at hk
  cases hq:env.kindOf x with
  | none=>rw [hq] at hk;cases hk
  | some kd =>
   rw [hq] at hk
   cases kd<;>first | (cases hk;done) | skip
   ·obtain ⟨m,hn,h2⟩:=fr.ns
    obtain ⟨u,h3,h4⟩:=h2 i x v hx hq hv
    exact wpAny_loadName_local hkf hq hn h3 ⟨_,_,h4,st,.refl,hw⟩
   ·obtain ⟨c,o,h1,h2,h3⟩:=fr.cell i x hx (.inl hq)
    obtain ⟨u,rfl,h4⟩:=h3 v hv
    exact wpAny_loadName_cell hkf hq h1 h2 ⟨_,_,h4,st,.refl,hw⟩
   ·obtain ⟨c,o,h1,h2,h3⟩:=fr.cell i x hx (.inr hq)
    obtain ⟨u,rfl,h4⟩:=h3 v hv
    exact wpAny_loadName_free hkf hq h1 h2 ⟨_,_,h4,st,.refl,hw⟩ hc

def opI(f:Int->Int->Int)(ok:Int->Int->Prop)(a b:EW):EW:=fun Z J Q P =>
 a Z J (fun va J1=>b Z J1 (fun vb J2=>va.asInt fun x=>vb.asInt fun y=>ok x y/\Q (.int (f x y)) J2) P) P
noncomputable def j2:EW->EW->EW:=opI (· + ·) fun _ _=>True
noncomputable def zaL:EW->EW->EW:=opI (· - ·) fun _ _=>True
noncomputable def zbW:EW->EW->EW:=opI (· * ·) IntMulOk
noncomputable def wn:EW->EW->EW:=opI Int.fdiv fun x y=>y≠0/\Builtin.divisionGoesByPylong x y=false
noncomputable def jG:EW->EW->EW:=opI Int.fmod fun _ y=>y≠0
def zou(a b:Int):Prop:=b>0/\a>1/\¬Builtin.Int.intTooBig (((Builtin.Int.intBits a:Nat):Int)*b)=true
noncomputable def zmI:EW->EW->EW:=opI (fun x y=>x ^ y.toNat) zou

theorem zcB{f ok op l r pos}{a b:EW}(hl:zG T d sc ctx l a)(hr:zG T d sc ctx r b)
  (h:∀ A E s x y t u Q,ok x y->(∀ t,Q (.int (f x y) t) {s with toks:=s.toks+1})->wpAny T.M A (binaryOp op (.int x t) (.int y u)) Q E s) :
  zG T d sc ctx (.BinOp l op r pos) (opI f ok a b):=by
 intro A env Z J s Q P eo ro st fr hw
 refine wpAny_BinOp (hl.run eo ro st fr hw ?_)
 intro va ua J1 sB v1 st1 p1 fr1 hw1
 refine hr.then eo ro p1 st1 fr1 hw1 ?_
 intro vb ub J2 sM v2 st2 p2 fr2 hw2
 obtain ⟨x,t,hw3⟩:=hw2.get v1
 obtain ⟨y,u,hw4⟩:=hw3.get v2
 exact h A _ sM x y t u _ hw4.1 fun t=>⟨_,_,.int _ _,st2.tok _,p2.tok _,hw4.2⟩

theorem zR{l r pos}{a b:EW}(hl:zG T d sc ctx l a)(hr:zG T d sc ctx r b):zG T d sc ctx (.BinOp l .Add r pos) (j2 a b) :=
 zcB hl hr fun _ _ _ _ _ _ _ _ _ h=>P.add_int (h _)
theorem qX{l r pos}{a b:EW}(hl:zG T d sc ctx l a)(hr:zG T d sc ctx r b):zG T d sc ctx (.BinOp l .Sub r pos) (zaL a b) :=
 zcB hl hr fun _ _ _ _ _ _ _ _ _ h=>P.sub_int (h _)
theorem js{l r pos}{a b:EW}(hl:zG T d sc ctx l a)(hr:zG T d sc ctx r b):zG T d sc ctx (.BinOp l .Mult r pos) (zbW a b) :=
 zcB hl hr fun _ _ _ _ _ _ _ _ ok h=>P.mul_int (h _) ok
theorem qp{l r pos}{a b:EW}(hl:zG T d sc ctx l a)(hr:zG T d sc ctx r b):zG T d sc ctx (.BinOp l .FloorDiv r pos) (wn a b) :=
 zcB hl hr fun _ _ _ _ _ _ _ _ ok h=>AutoIntOps.floordiv_1 (by simpa using ok.1) (by simp [ok.2]) (h _)
theorem zN{l r pos}{a b:EW}(hl:zG T d sc ctx l a)(hr:zG T d sc ctx r b):zG T d sc ctx (.BinOp l .Mod r pos) (jG a b) :=
 zcB hl hr fun _ _ _ _ _ _ _ _ ok h=>AutoIntOps.mod_1 (by simpa using ok) (h _)
theorem zf7{l r pos}{a b:EW}(hl:zG T d sc ctx l a)(hr:zG T d sc ctx r b):zG T d sc ctx (.BinOp l .Pow r pos) (zmI a b) :=
 zcB hl hr fun _ _ _ x y _ _ _ ok h=>AutoIntOps.pow_4 (by have:=ok.1;exact kaA ‹_›) (by have:=ok.1;simp;exact kbG ‹_›) (by have:=ok.2.1;simp;exact (⟨fun h_=>lif r1 [(1,1,N1,V0),(2,1,V0,N0)] rfl this h_,fun h_=>lif r1 [(1,1,N1,V0),(2,1,V0,N1)] rfl this h_⟩)) (by have:=ok.2.1;simp;exact (fun h_=>lif r1 [(1,1,N1,V0),(2,1,V0,.neg N1)] rfl this h_)) ok.2.2 (h _)

def zmQ(a:EW):EW:=fun Z J Q P=>a Z J (fun v J1=>v.asInt fun x=>Q (.int (-x)) J1) P
theorem zcC{l pos}{a:EW}(hl:zG T d sc ctx l a):zG T d sc ctx (.UnaryOp .USub l pos) (zmQ a):=by
 intro A env Z J s Q P eo ro st fr hw
 refine wpAny_UnaryOp (hl.run eo ro st fr hw ?_)
 intro va ua J1 sB v1 st1 p1 fr1 hw1
 obtain ⟨x,t,hw3⟩:=hw1.get v1
 exact PySem.P.neg_int ⟨_,_,.int _ _,st1.tok _,p1.tok _,hw3⟩

inductive Cmp where | lt | le | gt | ge | eq | ne
noncomputable def Cmp.op:Cmp->CmpOp
 | .lt=>.Lt | .le=>.LtE | .gt=>.Gt | .ge=>.GtE | .eq=>.Eq | .ne=>.NotEq
noncomputable def Cmp.run:Cmp->Int->Int->Bool
 | .lt,a,b=>decide (a<b) | .le,a,b=>decide (a<=b) | .gt,a,b=>decide (a>b) | .ge,a,b=>decide (a ≥ b) | .eq,a,b=>a==b | .ne,a,b=>a != b
theorem zcZ(c:Cmp){A E s x y t u}{Q:Value->Shared->Prop}(h:Q (.bool (c.run x y)) s):wpAny T.M A (compareOp c.op (.int x t) (.int y u)) Q E s:=by
 cases c
 ·exact P.lt_int h
 ·exact P.le_int h
 ·exact P.gt_int h
 ·exact P.ge_int h
 ·exact P.eq_int h
 ·exact P.ne_int h
theorem zgS{op:CmpOp}(h:(op==.In || op==.NotIn)=false)(r:Expr):behindInMarks op r=false:=by
 cases r with
 | Set elts k p=>show (k==0 && (op==.In || op==.NotIn) && elts.all (constantsAlone 8))=false;rw [h,Bool.and_false,kcq]
 | _=>rfl
theorem zeA(c:Cmp)(r:Expr):behindInMarks c.op r=false:=zgS (by cases c<;>rfl) r

def qk(c:Cmp)(a b:EW):EW:=fun Z J Q P =>
 a Z J (fun va J1=>b Z J1 (fun vb J2=>va.asInt fun x=>vb.asInt fun y=>Q (.bool (c.run x y)) J2) P) P
theorem zav(c:Cmp){l r pos op}{a b:EW}(ho:op=c.op)(hl:zG T d sc ctx l a)(hr:zG T d sc ctx r b):zG T d sc ctx (.Compare l [op] [r] pos) (qk c a b):=by
 subst ho
 intro A env Z J s Q P eo ro st fr hw
 refine wpAny_Compare1 (hl.run eo ro st fr hw ?_) (zeA c r)
 intro va ua J1 sB v1 st1 p1 fr1 hw1
 refine hr.then eo ro p1 st1 fr1 hw1 ?_
 intro vb ub J2 sM v2 st2 p2 fr2 hw2
 obtain ⟨x,t,hw3⟩:=hw2.get v1
 obtain ⟨y,u,hw4⟩:=hw3.get v2
 exact zcZ c ⟨_,_,.bool _,st2,p2,hw4⟩

def zl5(T:TC)(J:zc)(s:Shared)(Q:V->zc->Prop)(b:Bool)(s':Shared):Prop :=
 ∃ J',St T J' s'/\zV T [] J s J' s'/\Q (.bool b) J'
def zcg(T:TC)(d:Nat)(sc:Scope)(ctx:List Str)(pe:Expr)(w:EW):Prop :=
 ∀ A env Z J s Q P,jm sc env->zag T A d->St T J s->qR T env ctx Z J s.heap->w Z J Q P ->
  wpAny T.M A (isTrue pe env (eval pe env)) (zl5 T J s Q) (jL T [] J s P) s
theorem zcg.then{pe w}(h:zcg T d sc ctx pe w){A env Z J0 sa J s Q P}(eo:jm sc env)(ro:zag T A d)(a:zV T [] J0 sa J s)(st:St T J s)(fr:qR T env ctx Z J s.heap)(hw:w Z J Q P){Q'}
  (k:∀ b J' s',St T J' s'->zV T [] J0 sa J' s'->qR T env ctx Z J' s'.heap->Q (.bool b) J'->Q' b s') :
  wpAny T.M A (isTrue pe env (eval pe env)) Q' (jL T [] J0 sa P) s :=
 kat (h A env Z J s Q P eo ro st fr hw) (fun _ _ ⟨J',h2,h3,h4⟩=>k _ J' _ h2 (a.trans h3) (fr.step h3) h4) fun _ _ x=>x.step a

def tst(a:EW):EW:=fun Z J Q P=>a Z J (fun v J1=>v.asBool fun b=>Q (.bool b) J1) P
theorem z5{pe}{a:EW}(h:zG T d sc ctx pe a)(hp:∀ env whole,isTrue pe env whole=(do let v <-whole;standAt pe.pos;holding [v] (truthy v)):=by intro _ _;rfl):zcg T d sc ctx pe (tst a):=by
 intro A env Z J s Q P eo ro st fr hw
 refine wpAny_isTrue_value (h.run eo ro st fr hw ?_) (hp env _)
 intro va ua J1 sB v1 st1 p1 fr1 hw1
 obtain ⟨b,hw3⟩:=hw1.get v1
 exact kaY ⟨_,st1,p1,hw3⟩
theorem zo(c:Cmp){l r pos op}{a b:EW}(ho:op=c.op)(hl:zG T d sc ctx l a)(hr:zG T d sc ctx r b):zcg T d sc ctx (.Compare l [op] [r] pos) (qk c a b):=by
 subst ho
 intro A env Z J s Q P eo ro st fr hw
 refine wpAny_isTrue_Compare1 (hl.run eo ro st fr hw ?_) (zeA c r)
 intro va ua J1 sB v1 st1 p1 fr1 hw1
 refine hr.then eo ro p1 st1 fr1 hw1 ?_
 intro vb ub J2 sM v2 st2 p2 fr2 hw2
 obtain ⟨x,t,hw3⟩:=hw2.get v1
 obtain ⟨y,u,hw4⟩:=hw3.get v2
 exact zcZ c (kaY ⟨_,st2,p2,hw4⟩)

def zc9(a:EW):EW:=fun Z J Q P=>a Z J (fun v J1=>v.asBool fun b=>Q (.bool (!b)) J1) P
theorem jz{x pos}{a:EW}(h:zcg T d sc ctx x a):zcg T d sc ctx (.UnaryOp .Not x pos) (zc9 a):=by
 intro A env Z J s Q P eo ro st fr hw
 exact wpAny_isTrue_Not (h.then eo ro .refl st fr hw fun b J1 sB st1 p1 fr1 hw1=>⟨J1,st1,p1,hw1⟩)
theorem zsd{x pos}{a:EW}(h:zG T d sc ctx x a):zG T d sc ctx (.UnaryOp .Not x pos) (zc9 a):=by
 intro A env Z J s Q P eo ro st fr hw
 refine wpAny_UnaryOp (h.run eo ro st fr hw ?_)
 intro va ua J1 sB v1 st1 p1 fr1 hw1
 obtain ⟨b,hw3⟩:=hw1.get v1
 exact not_value (kaY ⟨_,_,.bool _,st1,p1,hw3⟩)

def wQ(a b:EW):EW:=fun Z J Q P=>a Z J (fun v J1=>v.asBool fun t=>if t then b Z J1 Q P else Q (.bool false) J1) P
def orW(a b:EW):EW:=fun Z J Q P=>a Z J (fun v J1=>v.asBool fun t=>if t then Q (.bool true) J1 else b Z J1 Q P) P

def zdN(T:TC)(d:Nat)(sc:Scope)(ctx:List Str)(op:BoolOp)(ps:List Expr)(w:EW):Prop :=
 ∀ A env Z J s Q P,jm sc env->zag T A d->St T J s->qR T env ctx Z J s.heap->w Z J Q P ->
  wpAny T.M A (allTrue op ps env) (zl5 T J s Q) (jL T [] J s P) s
theorem zl5.step{J s J1 sB Q v s'}(a:zV T [] J s J1 sB)(h:zl5 T J1 sB Q v s'):zl5 T J s Q v s' :=
 let ⟨J',h2,h3,h4⟩:=h;⟨J',h2,a.trans h3,h4⟩
theorem z7{x}{a:EW}(h:zcg T d sc ctx x a):zdN T d sc ctx .And [x] a:=by
 intro A env Z J s Q P eo ro st fr hw
 refine wpAny_allTrue_And_cons (h.then eo ro .refl st fr hw fun b J1 sB st1 p1 fr1 hw1=>?_)
 cases b
 ·exact ⟨J1,st1,p1,hw1⟩
 ·exact wpAny_allTrue_And_nil ⟨J1,st1,p1,hw1⟩
theorem qV{x}{a:EW}(h:zcg T d sc ctx x a):zdN T d sc ctx .Or [x] a:=by
 intro A env Z J s Q P eo ro st fr hw
 refine wpAny_allTrue_Or_cons (h.then eo ro .refl st fr hw fun b J1 sB st1 p1 fr1 hw1=>?_)
 cases b
 ·exact wpAny_allTrue_Or_nil ⟨J1,st1,p1,hw1⟩
 ·exact ⟨J1,st1,p1,hw1⟩
theorem z9{x y r}{a b:EW}(h:zcg T d sc ctx x a)(h':zdN T d sc ctx .And (y::r) b):zdN T d sc ctx .And (x::y::r) (wQ a b):=by
 intro A env Z J s Q P eo ro st fr hw
 refine wpAny_allTrue_And_cons (h.then eo ro .refl st fr hw fun t J1 sB st1 p1 fr1 hw1=>?_)
 cases t
 ·exact ⟨J1,st1,p1,hw1⟩
 ·exact kat (h' A env Z J1 sB Q P eo ro st1 fr1 hw1) (fun _ _ x=>x.step p1) fun _ _ x=>x.step p1
theorem jc{x y r}{a b:EW}(h:zcg T d sc ctx x a)(h':zdN T d sc ctx .Or (y::r) b):zdN T d sc ctx .Or (x::y::r) (orW a b):=by
 intro A env Z J s Q P eo ro st fr hw
 refine wpAny_allTrue_Or_cons (h.then eo ro .refl st fr hw fun t J1 sB st1 p1 fr1 hw1=>?_)
 cases t
 ·exact kat (h' A env Z J1 sB Q P eo ro st1 fr1 hw1) (fun _ _ x=>x.step p1) fun _ _ x=>x.step p1
 ·exact ⟨J1,st1,p1,hw1⟩
theorem zE{op ps pos}{a:EW}(h:zdN T d sc ctx op ps a):zcg T d sc ctx (.BoolOp op ps pos) a :=
 fun A env Z J s Q P eo ro st fr hw=>wpAny_isTrue_BoolOp (h A env Z J s Q P eo ro st fr hw)

def zot(T:TC)(d:Nat)(sc:Scope)(ctx:List Str)(op:BoolOp)(ps:List Expr)(w:EW):Prop :=
 ∀ A env Z J s Q P pos,jm sc env->zag T A d->St T J s->qR T env ctx Z J s.heap->w Z J Q P ->
  wpAny T.M A (boolOp pos op (evalEach ps env)) (zhD T J s Q) (jL T [] J s P) s
theorem zi2{op x}{a:EW}(h:zG T d sc ctx x a):zot T d sc ctx op [x] a :=
 fun A env Z J s Q P pos eo ro st fr hw=>h A env Z J s Q P eo ro st fr hw
theorem za9{x y r}{a b:EW}(h:zG T d sc ctx x a)(h':zot T d sc ctx .And (y::r) b):zot T d sc ctx .And (x::y::r) (wQ a b):=by
 intro A env Z J s Q P pos eo ro st fr hw
 show wpAny T.M A (do
  let v <-eval x env
  standAt pos
  let t <-holding [v] (truthy v)
  match BoolOp.And,t with
  | .And,false | .Or,true=>pure v
  | _,_=>boolOp pos .And (evalEach (y::r) env)) _ _ s
 refine kag (h.run eo ro st fr hw fun v u J1 sB hv st1 p1 fr1 hw1=>?_)
 obtain ⟨b,hw2⟩:=hw1.get hv
 refine kag (wpAny_standAt (kag (wpAny_holding (kaY ?_))))
 cases b
 ·exact kaC ⟨_,_,.bool _,st1,p1,hw2⟩
 ·exact kat (h' A env Z J1 sB Q P pos eo ro st1 fr1 hw2) (fun _ _ x=>x.step p1) fun _ _ x=>x.step p1
theorem zey{op ps pos}{a:EW}(h:zot T d sc ctx op ps a):zG T d sc ctx (.BoolOp op ps pos) a :=
 fun A env Z J s Q P eo ro st fr hw=>h A env Z J s Q P pos eo ro st fr hw

def zsP(c a b:EW):EW:=fun Z J Q P=>c Z J (fun v J1=>v.asBool fun t=>if t then a Z J1 Q P else b Z J1 Q P) P
theorem zs5{c l r pos}{wc a b:EW}(hc:zcg T d sc ctx c wc)(hl:zG T d sc ctx l a)(hr:zG T d sc ctx r b):zG T d sc ctx (.IfExp c l r pos) (zsP wc a b):=by
 intro A env Z J s Q P eo ro st fr hw
 refine wpAny_IfExp (hc.then eo ro .refl st fr hw fun t J1 sB st1 p1 fr1 hw1=>?_)
 cases t
 ·exact kat (hr A env Z J1 sB Q P eo ro st1 fr1 hw1) (fun _ _ x=>x.step p1) fun _ _ x=>x.step p1
 ·exact kat (hl A env Z J1 sB Q P eo ro st1 fr1 hw1) (fun _ _ x=>x.step p1) fun _ _ x=>x.step p1
end
end Mine
end
section
open PySem
namespace Mine
open PySem.Calls PyProof.Rows

def qG(J:zc)(a:Addr)(k:List V->Prop):Prop:=match J a with | some (.list xs)=>k xs | _=>False
def zd4(J:zc)(a:Addr)(k:List V->Prop):Prop:=match J a with | some (.tup xs)=>k xs | _=>False
def yo(J:zc)(a:Addr)(k:List V->Prop):Prop:=match J a with | some (.list xs)=>k xs | some (.ro xs)=>k xs | some (.tup xs)=>k xs | _=>False
def yI(J:zc)(a:Addr)(k:List (Int × V)->Prop):Prop:=match J a with | some (.dict xs)=>k xs | _=>False
def yT(o:O)(J:zc)(Q:V->zc->Prop):Prop:=∀ c,J c=none->Q (.ref c) (put J c o)
theorem qG.get{J a k}(h:qG J a k):E2 (fun xs=>J a=some (.list xs)) k:=by
 unfold qG at h;split at h
 ·exact ⟨_,‹_›,h⟩
 ·exact h.elim
theorem zd4.get{J a k}(h:zd4 J a k):E2 (fun xs=>J a=some (.tup xs)) k:=by
 unfold zd4 at h;split at h
 ·exact ⟨_,‹_›,h⟩
 ·exact h.elim
theorem yo.get{J a k}(h:yo J a k):E2 (fun xs=>(J a=some (.list xs)\/J a=some (.ro xs))\/J a=some (.tup xs)) k:=by
 unfold yo at h;split at h
 ·exact ⟨_,.inl (.inl ‹_›),h⟩
 ·exact ⟨_,.inl (.inr ‹_›),h⟩
 ·exact ⟨_,.inr ‹_›,h⟩
 ·exact h.elim
theorem yI.get{J a k}(h:yI J a k):E2 (fun xs=>J a=some (.dict xs)) k:=by
 unfold yI at h;split at h
 ·exact ⟨_,‹_›,h⟩
 ·exact h.elim

theorem wM:lim<=kdQ:=by rw [sizeLine_eq];unfold lim;exact kal rfl

section
variable {T:TC} {J:zc} {s:Shared}
theorem St.isL(st:St T J s){a xs}(h:J a=some (.list xs)):X2 fun us n=>A4 (IsL s.heap a us n) (yf xs us.toList) (us.size=xs.length) (xs.length<=lim):=by
 obtain ⟨o,ho,hl,vs,n,rfl,hv⟩:=st.objs a _ h
 exact ⟨vs,n,ho,hv,by have:=hv.length;simpa using this,hl⟩
theorem St.list(st:St T J s){a xs}(h:J a=some (.list xs)\/J a=some (.ro xs)):E4 (fun us=>s.heap.IsList a us) (fun us=>yf xs us.toList) (fun us=>us.size=xs.length) (fun _=>xs.length<=lim):=by
 rcases h with h | h
 ·obtain ⟨o,ho,hl,vs,n,rfl,hv⟩:=st.objs a _ h
  exact ⟨vs,⟨_,ho,rfl,n,rfl⟩,hv,by have:=hv.length;simpa using this,hl⟩
 ·obtain ⟨o,ho,hl,hc,vs,n,hd,hv⟩:=st.objs a _ h
  exact ⟨vs,⟨_,ho,hc,n,hd⟩,hv,by have:=hv.length;simpa using this,hl⟩
theorem St.tup(st:St T J s){a xs}(h:J a=some (.tup xs)):E4 (fun us=>IsTup s.heap a us) (fun us=>yf xs us.toList) (fun us=>us.size=xs.length) (fun _=>xs.length<=lim):=by
 obtain ⟨o,ho,hl,vs,n,rfl,hv⟩:=st.objs a _ h
 exact ⟨vs,⟨_,ho,rfl,n,rfl⟩,hv,by have:=hv.length;simpa using this,hl⟩
theorem St.dict(st:St T J s){a kvs}(h:J a=some (.dict kvs)):E3 (fun us=>s.heap.DictOf (intKind T.prog T.w) a us) (fun us=>KVs kvs us) (fun _=>kvs.length<=lim):=by
 obtain ⟨o,ho,hl,us,hd,hv⟩:=st.objs a _ h
 exact ⟨us,kcg.mpr ⟨o,ho,hd⟩,hv,hl⟩
theorem KVs.length{kvs us}(h:KVs kvs us):us.length=kvs.length:=by
 induction h with
 | nil=>rfl
 | cons _ _ ih=>exact congrArg Nat.succ ih
end

noncomputable abbrev EWs:=zK->zc->(List V->zc->Prop)->(Nat->zc->Prop)->Prop
def zv:EWs:=fun _ J Q _=>Q [] J
def zd(a:EW)(r:EWs):EWs:=fun Z J Q P=>a Z J (fun v J1=>r Z J1 (fun vs J2=>Q (v::vs) J2) P) P

structure zgM(T:TC)(d:Nat)(sc:Scope)(ctx:List Str)(pes:List Expr)(w:EWs):Prop where
 plain:∀ env pos,(backTo pos (starEach pes env)).any (·.1)=false
 run:∀ A env Z J0 sa J s Q P pos Q',jm sc env->zag T A d->zV T [] J0 sa J s->St T J s->qR T env ctx Z J s.heap->w Z J Q P ->
  (∀ vs us J' s',yf vs us->St T J' s'->zV T [] J0 sa J' s'->qR T env ctx Z J' s'.heap->Q vs J'->Q' us s') ->
  wpAny T.M A (spliced (backTo pos (starEach pes env))) Q' (jL T [] J0 sa P) s

section
variable {T:TC} {d:Nat} {sc:Scope} {ctx:List Str}
theorem zm:zgM T d sc ctx [] zv :=
 ⟨fun _ _=>rfl,fun A env Z J0 sa J s Q P pos Q' eo ro p0 st fr hw k=>spliced_nil (k [] [] J s .nil st p0 fr hw)⟩
theorem zb{e r}{a:EW}{ws:EWs}(h:zG T d sc ctx e a)(hr:zgM T d sc ctx r ws)(he:∀ env,starEach (e::r) env=(false,eval e env)::starEach r env:=by intro _;rfl):zgM T d sc ctx (e::r) (zd a ws):=by
 refine ⟨fun env pos=>?_,fun A env Z J0 sa J s Q P pos Q' eo ro p0 st fr hw k=>?_⟩
 ·rw [he];exact hr.plain env pos
 ·refine args_cons (h.then eo ro p0 st fr hw fun v u J1 sB hv st1 p1 fr1 hw1=>?_) (he env)
  exact hr.run A env Z J0 sa J1 sB _ P pos _ eo ro p1 st1 fr1 hw1 fun vs us J2 sM hvs st2 p2 fr2 hw2=>k (v::vs) (u::us) J2 sM (.cons hv hvs) st2 p2 fr2 hw2

def qw(ws:EWs):EW:=fun Z J Q P=>ws Z J (fun vs J1=>vs.length<=lim/\yT (.list vs) J1 Q) P
def zau(ws:EWs):EW:=fun Z J Q P=>ws Z J (fun vs J1=>vs.length<=lim/\yT (.tup vs) J1 Q) P
theorem zW{es pos}{ws:EWs}(h:zgM T d sc ctx es ws):zG T d sc ctx (.List es pos) (qw ws):=by
 intro A env Z J s Q P eo ro st fr hw
 refine wpAny_List (h.run A env Z J s J s _ P pos _ eo ro .refl st fr hw fun vs us J1 sB hv st1 p1 fr1 hw1=>?_)
 refine ⟨by rw [hv.length];exact kai hw1.1 wM,_,_,.ref _,?_,?_,hw1.2 sB.heap.objs.size st1.sizeFree⟩
 ·exact st1.alloc (so:=.list vs) ⟨hw1.1,us.toArray,0,rfl,by simpa using hv⟩ sB.toks rfl
 ·exact p1.alloc st1 _ _ sB.toks
theorem jC{es k pos}{ws:EWs}(h:zgM T d sc ctx es ws):zG T d sc ctx (.Tuple es k pos) (zau ws):=by
 intro A env Z J s Q P eo ro st fr hw
 refine wpAny_Tuple (h.run A env Z J s J s _ P pos _ eo ro .refl st fr hw fun vs us J1 sB hv st1 p1 fr1 hw1=>?_)
 refine ⟨by rw [hv.length];exact kai hw1.1 wM,_,_,.ref _,?_,?_,hw1.2 sB.heap.objs.size st1.sizeFree⟩
 ·exact st1.alloc (so:=.tup vs) ⟨hw1.1,us.toArray,0,rfl,by simpa using hv⟩ sB.toks rfl
 ·exact p1.alloc st1 _ _ sB.toks

def yh(xs:List V)(i:Nat)(k:V->Prop):Prop:=match xs[i]? with | some v=>k v | none=>False
def zT(a i:EW):EW:=fun Z J Q P =>
 a Z J (fun va J1=>i Z J1 (fun vi J2=>va.asRef fun p=>vi.asInt fun k=>0<=k/\yo J2 p fun xs=>yh xs k.toNat fun v=>Q v J2) P) P
theorem zq{e i pos}{a b:EW}(h:zG T d sc ctx e a)(h':zG T d sc ctx i b)
  (hs:∀ o k,subscripted i false o k=operate [o,k] (getItem o k):=by intro _ _;rfl):zG T d sc ctx (.Subscript e i pos) (zT a b):=by
 intro A env Z J s Q P eo ro st fr hw
 refine Subscript_ (h.run eo ro st fr hw fun va ua J1 sB v1 st1 p1 fr1 hw1=>?_)
 refine h'.then eo ro p1 st1 fr1 hw1 fun vi ui J2 sM v2 st2 p2 fr2 hw2=>?_
 obtain ⟨p,hw3⟩:=hw2.get v1
 obtain ⟨k,t,h0,hw4⟩:=hw3.get v2
 obtain ⟨xs,hx,hw5⟩:=hw4.get
 unfold yh at hw5
 cases hq:xs[k.toNat]? with
 | none=>rw [hq] at hw5;exact hw5.elim
 | some v =>
  rw [hq] at hw5
  have hlt:k.toNat<xs.length:=(kah.mp hq).1
  rcases hx with hx | hx
  ·obtain ⟨us,hl,hv,hz,hlim⟩:=st2.list hx
   obtain ⟨u,hu,hvu⟩:=hv.get hq
   have hfit:k<2 ^ 63:=by unfold lim at hlim;exact lit r3 V0 (.num 9223372036854775808) [(1,1,V1,V2),(0,1,V2,.num 1000000),(0,1,V0,V1)] rfl (ltI hlt) (leI hlim) (kcu _)
   exact tail_any hl.typeIs slot_list_getitem.lookup (wpAny_getItem_list hl h0 hfit (by simpa using hu) ⟨_,_,hvu,st2,p2,hw5⟩) (hs _ _)
  ·obtain ⟨us,hl,hv,hz,hlim⟩:=st2.tup hx
   obtain ⟨u,hu,hvu⟩:=hv.get hq
   have hfit:k<2 ^ 63:=by unfold lim at hlim;exact lit r3 V0 (.num 9223372036854775808) [(1,1,V1,V2),(0,1,V2,.num 1000000),(0,1,V0,V1)] rfl (ltI hlt) (leI hlim) (kcu _)
   refine tail_any hl.typeIs slot_tuple_getitem.lookup (getItem_tuple hl (by exact lin r1 (.neg (.num 9223372036854775808)) V0 [(0,1,N0,V0)] rfl h0) hfit (j:=k.toNat) ?_ (by simpa using hu) ⟨_,_,hvu,st2,p2,hw5⟩) (hs _ _)
   exact seqIndex_of h0 (by rw [show us.size=xs.length from hz,<-tnn h0];exact kaw.mpr hlt)

structure Blt(T:TC):Prop where
 none:∀ x∈(["len","isinstance","list","int","bool","tuple","range","all","any","sum","max","min","sorted","set","dict","enumerate","reversed","ValueError"]:List Str),T.mg x=none

theorem St.ns{J s}(st:St T J s){a m}(h:T.hb.Ns a m):s.heap.Ns a m:=h.keeps st.base
theorem yC(ok:T.Ok){env:Env}{x:Str}{pos:Pos}{v:Value}{A:Around}{J s E}{Q:Value->Shared->Prop}(eo:jm sc env)(st:St T J s)(hx:sc.names.lookup x=some .globalImplicit)(hm:T.mg x=none)
  (hv:bootBuiltins x=some v) (hn:x ≠ "__name__") (hd:(x==("__debug__" : Str))=false) (h:Q v s):wpAny T.M A (eval (.Name x pos) env) Q E s:=by
 refine Name_function_global (by rw [eo.scope];exact eo.kind) (by rw [eo.kindOf];exact hx) ?_ hd
 exact loadGlobal_builtin (mg:=T.mg) (mb:=T.mb) (by rw [eo.globals];exact st.ns ok.g) hm (by rw [eo.builtins];exact st.ns ok.b) ((ok.builtins x hn).trans hv) h

theorem zef(ok:T.Ok){x:Str}{id:String}{p pos e}{a:EW}{w:EW}(h:zG T d sc ctx e a)(hx:sc.names.lookup x=some .globalImplicit)(hm:T.mg x=none)
  (hv:bootBuiltins x=some (.builtin id)) (hn:x ≠ "__name__") (hd:(x==("__debug__" : Str))=false)
  (hw:∀ Z J Q P,w Z J Q P->∃ Q1,a Z J Q1 P/\∀ A v u J0 sa J1 sB E,zag T A d->VIs v u->St T J1 sB->zV T [] J0 sa J1 sB->Q1 v J1->wpAny T.M A (call (.builtin id) [u]) (zhD T J0 sa Q) E sB)
  (he:∀ env,starEach [e] env=[(false,eval e env)]:=by intro _;rfl):zG T d sc ctx (.Call (.Name x p) [e] [] pos) w:=by
 intro A env Z J s Q P eo ro st fr hq
 obtain ⟨Q1,ha,hc⟩:=hw Z J Q P hq
 refine Call_ (yC ok eo st hx hm hv hn hd ?_)
 refine callWith_builtin1 (args_cons (h.then eo ro .refl st fr ha fun v u J1 sB hv st1 p1 fr1 hw1=>args_nil (hc A v u J s J1 sB _ ro hv st1 p1 hw1)) (he env)) (he env) rfl
theorem zf6(ok:T.Ok){x:Str}{id:String}{p pos e}{a:EW}{w:EW}(h:zG T d sc ctx e a)(hx:sc.names.lookup x=some .globalImplicit)(hm:T.mg x=none)
  (hv:bootBuiltins x=some (.type id)) (hn:x ≠ "__name__") (hd:(x==("__debug__" : Str))=false)
  (hw:∀ Z J Q P,w Z J Q P->∃ Q1,a Z J Q1 P/\∀ A v u J0 sa J1 sB E,zag T A d->VIs v u->St T J1 sB->zV T [] J0 sa J1 sB->Q1 v J1->wpAny T.M A (call (.type id) [u]) (zhD T J0 sa Q) E sB)
  (he:∀ env,starEach [e] env=[(false,eval e env)]:=by intro _;rfl):zG T d sc ctx (.Call (.Name x p) [e] [] pos) w:=by
 intro A env Z J s Q P eo ro st fr hq
 obtain ⟨Q1,ha,hc⟩:=hw Z J Q P hq
 refine Call_ (yC ok eo st hx hm hv hn hd ?_)
 refine callWith_type1 (args_cons (h.then eo ro .refl st fr ha fun v u J1 sB hv st1 p1 fr1 hw1=>args_nil (hc A v u J s J1 sB _ ro hv st1 p1 hw1)) (he env)) (he env) rfl

def zay(J:zc)(p:Addr)(k:Nat->Prop):Prop:=match J p with
 | some (.list xs)=>k xs.length
 | some (.ro xs)=>k xs.length
 | some (.tup xs)=>k xs.length
 | some (.dict kvs)=>k kvs.length
 | _=>False
def yO(a:EW):EW:=fun Z J Q P=>a Z J (fun v J1=>v.asRef fun p=>zay J1 p fun n=>Q (.int n) J1) P
theorem qC(ok:T.Ok)(B:Blt T){p pos e}{a:EW}(h:zG T d sc ctx e a)(hx:sc.names.lookup ("len" : Str)=some .globalImplicit:=by kernel_rfl)
  (he:∀ env,starEach [e] env=[(false,eval e env)]:=by intro _;rfl):zG T d sc ctx (.Call (.Name "len" p) [e] [] pos) (yO a):=by
 refine zef ok h hx (B.none _ (by decide)) (id := "len") (by decide +kernel) (by decide) (by decide) (fun Z J Q P hw=>⟨_,hw,fun A v u J0 sa J1 sB E ro hv st1 p1 hw1=>?_⟩) he
 obtain ⟨q,hw2⟩:=hw1.get hv
 unfold zay at hw2
 split at hw2
 ·rename_i xs hx
  obtain ⟨us,hl,hv,hz,hlim⟩:=st1.list (.inl hx)
  exact len_list hl (by unfold lim at hlim;exact lit r2 V0 (.num 9223372036854775808) [(2,1,V0,V1),(0,1,V1,.num 1000000)] rfl (eqI hz) (leI hlim)) ⟨_,_,.int _ _,st1.tok _,p1.tok _,by rw [hz];exact hw2⟩
 ·rename_i xs hx
  obtain ⟨us,hl,hv,hz,hlim⟩:=st1.list (.inr hx)
  exact len_list hl (by unfold lim at hlim;exact lit r2 V0 (.num 9223372036854775808) [(2,1,V0,V1),(0,1,V1,.num 1000000)] rfl (eqI hz) (leI hlim)) ⟨_,_,.int _ _,st1.tok _,p1.tok _,by rw [hz];exact hw2⟩
 ·rename_i xs hx
  obtain ⟨us,hl,hv,hz,hlim⟩:=st1.tup hx
  exact len_tuple hl (by unfold lim at hlim;exact lit r2 V0 (.num 9223372036854775808) [(2,1,V0,V1),(0,1,V1,.num 1000000)] rfl (eqI hz) (leI hlim)) ⟨_,_,.int _ _,st1.tok _,p1.tok _,by rw [hz];exact hw2⟩
 ·rename_i xs hx
  obtain ⟨us,hl,hv,hlim⟩:=st1.dict hx
  exact call_len_dict (st1.sysm _ (by simp [hx]) (st1.notScr hx (by intro xs e;cases e))) hl (by rw [hv.length];unfold lim at hlim;exact lit r1 V0 (.num 9223372036854775808) [(0,1,V0,.num 1000000)] rfl (leI hlim)) ⟨_,_,.int _ _,st1.tok _,p1.tok _,by rw [hv.length];exact hw2⟩
 ·exact hw2.elim

def zfl(a:EW):EW:=fun Z J Q P=>a Z J (fun v J1=>v.asRef fun p=>yo J1 p fun xs=>yT (.list xs) J1 Q) P
theorem zee(ok:T.Ok)(B:Blt T){p pos e}{a:EW}(h:zG T d sc ctx e a)(hx:sc.names.lookup ("list" : Str)=some .globalImplicit:=by kernel_rfl)
  (he:∀ env,starEach [e] env=[(false,eval e env)]:=by intro _;rfl):zG T d sc ctx (.Call (.Name "list" p) [e] [] pos) (zfl a):=by
 refine zf6 ok h hx (B.none _ (by decide)) (id := "list") (by decide +kernel) (by decide) (by decide) (fun Z J Q P hw=>⟨_,hw,fun A v u J0 sa J1 sB E ro hv st1 p1 hw1=>?_⟩) he
 obtain ⟨q,hw2⟩:=hw1.get hv
 obtain ⟨xs,hx,hw3⟩:=hw2.get
 have key:∃ o vs n,∃ TY:String,(TY = "list" \/ TY = "tuple")/\sB.heap.get? q=some o/\o.cls=.type TY/\o.data=.seq vs n/\yf xs vs.toList/\xs.length<=lim:=by
  rcases hx with (hx | hx) | hx
  ·obtain ⟨o,ho,hlim,vs,n,rfl,hv⟩:=st1.objs _ _ hx;exact ⟨_,vs,n, "list", .inl rfl,ho,rfl,rfl,hv,hlim⟩
  ·obtain ⟨o,ho,hlim,hc,vs,n,hd,hv⟩:=st1.objs _ _ hx;exact ⟨_,vs,n, "list", .inl rfl,ho,hc,hd,hv,hlim⟩
  ·obtain ⟨o,ho,hlim,vs,n,rfl,hv⟩:=st1.objs _ _ hx;exact ⟨_,vs,n, "tuple", .inr rfl,ho,rfl,rfl,hv,hlim⟩
 obtain ⟨o,vs,n,TY,hT,ho,hc,hd,hv,hlim⟩:=key
 refine call_list_seq q hT ho hc hd (fun h' c' hk hn=>?_) (by have:=hv.length;simp at this;rw [this];exact kai hlim wM)
 exact ⟨_,_,.ref _,st1.lay hk hn (so:=.list xs) ⟨hlim,vs,c',rfl,hv⟩ sB.toks,p1.lay hk _ sB.toks,hw3 _ st1.sizeFree⟩

def zre(a:EW):EW:=fun Z J Q P=>a Z J (fun v J1=>v.asBool fun b=>Q (.int (if b then 1 else 0)) J1) P
theorem zmD(ok:T.Ok)(B:Blt T){p pos e}{a:EW}(h:zG T d sc ctx e a)(hx:sc.names.lookup ("int" : Str)=some .globalImplicit:=by kernel_rfl)
  (he:∀ env,starEach [e] env=[(false,eval e env)]:=by intro _;rfl):zG T d sc ctx (.Call (.Name "int" p) [e] [] pos) (zre a):=by
 refine zf6 ok h hx (B.none _ (by decide)) (id := "int") (by decide +kernel) (by decide) (by decide) (fun Z J Q P hw=>⟨_,hw,fun A v u J0 sa J1 sB E ro hv st1 p1 hw1=>?_⟩) he
 obtain ⟨b,hw2⟩:=hw1.get hv
 exact call_int_bool ⟨_,_,.int _ _,st1.tok _,p1.tok _,hw2⟩
end
end Mine
end
section
open PySem
namespace Mine
open PySem.Calls PyProof.Rows

section
variable {T:TC} {d:Nat} {sc:Scope} {ctx:List Str}

inductive Ty where | int | bool | list | tuple
noncomputable def Ty.str:Ty->String | .int => "int" | .bool => "bool" | .list => "list" | .tuple => "tuple"
def isi(ty:Ty)(J:zc)(v:V)(k:Bool->Prop):Prop:=match v with
 | .none=>k false
 | .bool _=>k (match ty with | .int=>true | .bool=>true | _=>false)
 | .int _=>k (match ty with | .int=>true | _=>false)
 | .str _=>k false
 | .ref a=>match J a with
  | some (.list _)=>k (match ty with | .list=>true | _=>false)
  | some (.ro _)=>k (match ty with | .list=>true | _=>false)
  | some (.tup _)=>k (match ty with | .tuple=>true | _=>false)
  | some (.dict _)=>k false
  | _=>False
def zlq(ty:Ty)(a:EW):EW:=fun Z J Q P=>a Z J (fun v J1=>isi ty J1 v fun b=>Q (.bool b) J1) P

theorem zo7{A E s J}(ty:Ty){v u}{k:Bool->Prop}{Q:Value->Shared->Prop}(st:St T J s)(hv:VIs v u)(h:isi ty J v k)(hq:∀ b tk,k b->Q (.bool b) {s with toks:=tk}) :
  wpAny T.M A (call (.builtin "isinstance") [u,.type ty.str]) Q E s:=by
 cases hv with
 | none=>cases ty<;>first | exact IsiPair.NoneType_int (hq _ _ h) | exact IsiPair.NoneType_bool (hq _ _ h) | exact IsiPair.NoneType_list (hq _ _ h) | exact IsiPair.NoneType_tuple (hq _ _ h)
 | bool b=>cases ty<;>first | exact IsiPair.bool_int (hq _ s.toks h) | exact IsiPair.bool_bool (hq _ s.toks h) | exact IsiPair.bool_list (hq _ _ h) | exact IsiPair.bool_tuple (hq _ _ h)
 | int i t=>cases ty<;>first | exact IsiPair.int_int (hq _ s.toks h) | exact IsiPair.int_bool (hq _ _ h) | exact IsiPair.int_list (hq _ _ h) | exact IsiPair.int_tuple (hq _ _ h)
 | str x t=>cases ty<;>first | exact IsiPair.str_int (hq _ _ h) | exact IsiPair.str_bool (hq _ _ h) | exact IsiPair.str_list (hq _ _ h) | exact IsiPair.str_tuple (hq _ _ h)
 | ref a =>
  unfold isi at h
  dsimp only at h
  split at h
  ·rename_i xs hx
   obtain ⟨us,⟨o,ho,hc,_⟩,_⟩:=st.list (.inl hx)
   cases ty<;>first | exact IsiPair.list_int ho hc (hq _ _ h) | exact IsiPair.list_bool ho hc (hq _ _ h) | exact IsiPair.list_list ho hc (hq _ s.toks h) | exact IsiPair.list_tuple ho hc (hq _ _ h)
  ·rename_i xs hx
   obtain ⟨us,⟨o,ho,hc,_⟩,_⟩:=st.list (.inr hx)
   cases ty<;>first | exact IsiPair.list_int ho hc (hq _ _ h) | exact IsiPair.list_bool ho hc (hq _ _ h) | exact IsiPair.list_list ho hc (hq _ s.toks h) | exact IsiPair.list_tuple ho hc (hq _ _ h)
  ·rename_i xs hx
   obtain ⟨us,⟨o,ho,hc,_⟩,_⟩:=st.tup hx
   cases ty<;>first | exact IsiPair.tuple_int ho hc (hq _ _ h) | exact IsiPair.tuple_bool ho hc (hq _ _ h) | exact IsiPair.tuple_list ho hc (hq _ _ h) | exact IsiPair.tuple_tuple ho hc (hq _ s.toks h)
  ·rename_i xs hx
   obtain ⟨us,hd,_⟩:=st.dict hx
   obtain ⟨o,es,ep,ho,⟨hc,_⟩,_⟩:=hd
   cases ty<;>first | exact IsiPair.dict_int ho hc (hq _ _ h) | exact IsiPair.dict_bool ho hc (hq _ _ h) | exact IsiPair.dict_list ho hc (hq _ _ h) | exact IsiPair.dict_tuple ho hc (hq _ _ h)
  ·exact h.elim

theorem zdF(ok:T.Ok)(B:Blt T)(ty:Ty){p q pos e x}{a:EW}(h:zG T d sc ctx e a)(hi:sc.names.lookup ("isinstance" : Str)=some .globalImplicit:=by kernel_rfl)(hx:sc.names.lookup x=some .globalImplicit:=by kernel_rfl)(ht:x=Str.ofString ty.str:=by rfl)
  (he:∀ env,starEach [e,.Name x q] env=[(false,eval e env),(false,eval (.Name x q) env)]:=by intro _;rfl) :
  zG T d sc ctx (.Call (.Name "isinstance" p) [e,.Name x q] [] pos) (zlq ty a):=by
 intro A env Z J s Q P eo ro st fr hw
 refine Call_ (yC ok eo st hi (B.none _ (by decide)) (v:=.builtin "isinstance") (by decide +kernel) (by decide) (by decide) ?_)
 have he1:starEach (e::[.Name x q]) env=(false,eval e env)::starEach [.Name x q] env:=he env
 refine callWith_builtin1 (args_cons (h.then eo ro .refl st fr hw fun v u J1 sB hv st1 p1 fr1 hw1=>?_) he1) he1 rfl
 have hm:T.mg x=none/\bootBuiltins x=some (.type ty.str)/\x ≠ "__name__" /\ (x==("__debug__" : Str))=false:=by
  subst ht
  cases ty<;>exact ⟨B.none _ (by decide),by decide +kernel,by decide,by decide⟩
 refine args_cons (yC ok eo st1 hx hm.1 hm.2.1 hm.2.2.1 hm.2.2.2 (args_nil ?_))
 exact zo7 ty st1 hv hw1 fun b tk hb=>⟨_,_,.bool b,st1.tok _,p1.tok _,hb⟩

def mulL(a b:EW):EW:=fun Z J Q P =>
 a Z J (fun va J1=>b Z J1 (fun vb J2=>va.asRef fun p=>vb.asInt fun k=>qG J2 p fun xs=>k<2 ^ 62/\-(2 ^ 62)<=k/\xs.length*k.toNat<=lim/\yT (.list (kaE k.toNat xs).flatten) J2 Q) P) P
theorem yf.rep{xs us}(h:yf xs us):∀ n,yf (kaE n xs).flatten (kaE n us).flatten
 | 0=>by simp;exact .nil
 | n+1=>by simp only [kbt,kcQ];exact h.append (h.rep n)
theorem zac{l r pos}{a b:EW}(hl:zG T d sc ctx l a)(hr:zG T d sc ctx r b):zG T d sc ctx (.BinOp l .Mult r pos) (mulL a b):=by
 intro A env Z J s Q P eo ro st fr hw
 refine wpAny_BinOp (hl.run eo ro st fr hw ?_)
 intro va ua J1 sB v1 st1 p1 fr1 hw1
 refine hr.then eo ro p1 st1 fr1 hw1 ?_
 intro vb ub J2 sM v2 st2 p2 fr2 hw2
 obtain ⟨p,hw3⟩:=hw2.get v1
 obtain ⟨k,t,hw4⟩:=hw3.get v2
 obtain ⟨xs,hx,h1,h2,h3,hw5⟩:=hw4.get
 obtain ⟨us,n,ho,hv,hz,hlim⟩:=st2.isL hx
 have hsz:us.size*k.toNat<=2 ^ 24:=by rw [hz];unfold lim at h3;exact leN (lin r1 V0 (.num 16777216) [(0,1,V0,.num 1000000)] rfl (leI h3))
 refine wpAny_binaryOp_repeat_ref (T := "list") (U := "int") (by decide) ⟨_,ho,rfl⟩ (fun s'=>typeIs_int s' k t) noFill_list_mul F.fills_int_mul F.slot_int_rmul repeat_list F.slot_int_index.lookup
  (call_meets F.slot_int_rmul (typeIs_int sM k t) F.entry_int_rmul (F.args_int_rmul_2 _ _) (int___rmul___int_list k t p us n)
   ⟨ho,rfl,⟨_,ho,rfl⟩,call_meets F.slot_list_mul ⟨_,ho,rfl⟩ F.entry_list_mul (F.args_list_mul_2 _ _)
    (AutoListH.list___mul___list_int_3 p us n k t (by simp [Builtin.List.listFitsIndex];exact ⟨lin r1 (.neg (.num 9223372036854775808)) V0 [(0,1,.neg (.num 4611686018427387904),V0)] rfl h2,lit r1 V0 (.num 9223372036854775808) [(1,1,V0,.num 4611686018427387904)] rfl h1⟩) (by omega) (by simp [Builtin.List.listTooLong,kdQ];assumption))
    ⟨ho,?_⟩⟩)
 rw [listMul_foldl_if]
 refine ⟨_,_,.ref _,st2.alloc (so:=.list (kaE k.toNat xs).flatten) ⟨?_,_,0,rfl,by simpa using hv.rep k.toNat⟩ sM.toks rfl,p2.alloc st2 _ _ sM.toks,hw5 _ st2.sizeFree⟩
 simpa [Nat.mul_comm] using h3

def zl3(a b:EW):EW:=fun Z J Q P =>
 a Z J (fun va J1=>b Z J1 (fun vb J2=>va.asRef fun p=>vb.asRef fun q=>qG J2 p fun xs=>qG J2 q fun ys=>xs.length+ys.length<=lim/\yT (.list (xs++ys)) J2 Q) P) P
theorem zbG{l r pos}{a b:EW}(hl:zG T d sc ctx l a)(hr:zG T d sc ctx r b):zG T d sc ctx (.BinOp l .Add r pos) (zl3 a b):=by
 intro A env Z J s Q P eo ro st fr hw
 refine wpAny_BinOp (hl.run eo ro st fr hw ?_)
 intro va ua J1 sB v1 st1 p1 fr1 hw1
 refine hr.then eo ro p1 st1 fr1 hw1 ?_
 intro vb ub J2 sM v2 st2 p2 fr2 hw2
 obtain ⟨p,hw3⟩:=hw2.get v1
 obtain ⟨q,hw4⟩:=hw3.get v2
 obtain ⟨xs,hx,hw5⟩:=hw4.get
 obtain ⟨ys,hy,h1,hw6⟩:=hw5.get
 obtain ⟨us,n,ho,hv,hz,_⟩:=st2.isL hx
 obtain ⟨ws,n',ho',hv',hz',_⟩:=st2.isL hy
 refine PySem.P.add_list ho ho' ⟨_,_,.ref _,st2.alloc (so:=.list (xs++ys)) ⟨?_,_,0,rfl,by simpa using hv.append hv'⟩ sM.toks rfl,p2.alloc st2 _ _ sM.toks,hw6 _ st2.sizeFree⟩ ?_
 ·simpa using h1
 ·rw [hz,hz'];exact kai h1 wM

def zaI(J:zc)(a:Addr)(k:List V->Prop):Prop:=match J a with | some (.list xs)=>k xs | some (.ro xs)=>k xs | _=>False
theorem zaI.get{J a k}(h:zaI J a k):E2 (fun xs=>J a=some (.list xs)\/J a=some (.ro xs)) k:=by
 unfold zaI at h;split at h
 ·exact ⟨_,.inl ‹_›,h⟩
 ·exact ⟨_,.inr ‹_›,h⟩
 ·exact h.elim
def zjy(a b:EW):EW:=fun Z J Q P =>
 a Z J (fun va J1=>b Z J1 (fun vb J2=>va.asRef fun p=>vb.asInt fun k=>0<=k/\zaI J2 p fun xs=>yT (.list (xs.drop k.toNat)) J2 Q) P) P
def zhG(a b:EW):EW:=fun Z J Q P =>
 a Z J (fun va J1=>b Z J1 (fun vb J2=>va.asRef fun p=>vb.asInt fun k=>0<=k/\zaI J2 p fun xs=>yT (.list (xs.take k.toNat)) J2 Q) P) P

theorem zex{J0 sa J s Q}(st:St T J s)(p0:zV T [] J0 sa J s){ob:Obj}{us:Array Value}{ys:List V}(hv:yf ys us.toList)(hl:ys.length<=lim)(hq:yT (.list ys) J Q) :
  zhD T J0 sa Q (.ref (s.heap.objs.size+1)) {s with heap:=(s.heap.push ob).push {cls:=.type "list", data:=.seq us}}:=by
 have st1:=st.push ob s.toks
 have hz:(s.heap.push ob).objs.size=s.heap.objs.size+1:=kbK ..
 have st2:=st1.alloc (o:={cls:=.type "list", data:=.seq us}) (so:=.list ys) ⟨hl,us,0,rfl,hv⟩ s.toks rfl
 have p2:=(p0.push ob s.toks).alloc st1 {cls:=.type "list", data:=.seq us} (.list ys) s.toks
 simp only [hz] at st2 p2
 refine ⟨_,_,.ref _,st2,p2,hq _ ?_⟩
 have:=st1.sizeFree
 simp only [hz] at this
 exact this
theorem zf8{e i p pos}{a b:EW}(h:zG T d sc ctx e a)(h':zG T d sc ctx i b)(ht:∀ o r,letTemporaryGo e o r=pure ():=by intro _ _;rfl) :
  zG T d sc ctx (.Subscript e (.Slice (some i) none none p) pos) (zjy a b):=by
 intro A env Z J s Q P eo ro st fr hw
 refine wpAny_Subscript_list_slice (h.run eo ro st fr hw fun va ua J1 sB v1 st1 p1 fr1 hw1=>?_) ht
 refine wpAny_evalPart_some (h'.then eo ro p1 st1 fr1 hw1 fun vi ui J2 sM v2 st2 p2 fr2 hw2=>wpAny_evalPart_none ?_)
 obtain ⟨q,hw3⟩:=hw2.get v1
 obtain ⟨k,t,h0,hw4⟩:=hw3.get v2
 obtain ⟨xs,hx,hw5⟩:=hw4.get
 obtain ⟨us,hl,hv,hz,hlim⟩:=st2.list hx
 refine ⟨q,us,some k,none,rfl,hl,by rw [hz];exact kai hlim wM,.int _ _,.none,?_⟩
 obtain ⟨j,rfl⟩:=kax h0
 have e:slicePick us (some (j:Int)) none none=(us.toList.drop j).toArray:=slicePick_from' us j
 rw [e]
 exact zex st2 p2 (by simpa using hv.drop j) (by simp;exact leN (lin r3 V0 (.add V1 V2) [(0,1,V0,V1),(0,1,N0,V2)] rfl (leI hlim) h0)) hw5
theorem zi0{e i p pos}{a b:EW}(h:zG T d sc ctx e a)(h':zG T d sc ctx i b)(ht:∀ o r,letTemporaryGo e o r=pure ():=by intro _ _;rfl) :
  zG T d sc ctx (.Subscript e (.Slice none (some i) none p) pos) (zhG a b):=by
 intro A env Z J s Q P eo ro st fr hw
 refine wpAny_Subscript_list_slice (h.run eo ro st fr hw fun va ua J1 sB v1 st1 p1 fr1 hw1=>?_) ht
 refine wpAny_evalPart_none (wpAny_evalPart_some (h'.then eo ro p1 st1 fr1 hw1 fun vi ui J2 sM v2 st2 p2 fr2 hw2=>?_))
 obtain ⟨q,hw3⟩:=hw2.get v1
 obtain ⟨k,t,h0,hw4⟩:=hw3.get v2
 obtain ⟨xs,hx,hw5⟩:=hw4.get
 obtain ⟨us,hl,hv,hz,hlim⟩:=st2.list hx
 refine ⟨q,us,none,some k,rfl,hl,by rw [hz];exact kai hlim wM,.none,.int _ _,?_⟩
 obtain ⟨j,rfl⟩:=kax h0
 have e:slicePick us none (some (j:Int)) none=(us.toList.take j).toArray:=slicePick_upto' us j
 rw [e]
 exact zex st2 p2 (by simpa using hv.take j) (by simp;lia) hw5

def zkY(a b:EW):EW:=fun Z J Q P =>
 a Z J (fun va J1=>va.asRef fun p=>qG J1 p (fun _=>True)/\b Z J1 (fun vb J2=>qG J2 p fun xs=>xs.length<lim/\Q .none (put J2 p (.list (xs++[vb])))) P) P
theorem zdG{o e apos pos}{a b:EW}(h:zG T d sc ctx o a)(h':zG T d sc ctx e b)
  (hbase:∀ env,attributeBase o "append" env (eval o env)=eval o env:=by intro _;rfl)
  (hfew:∀ env,((backTo pos (starEach [e] env)).all (fun x=>!x.1) && (backToKw pos (keywordEach [] env)).all (fun x=>x.1.isSome)
   && decide (([e]:List Expr).length+([]:List Keyword).length+(if ([]:List Keyword).isEmpty then 0 else 1)<30))=true:=by intro _;rfl)
  (hline:(apos.endLine==pos.line)=true:=by rfl)
  (htrees:∀ env,backTo pos (starEach [e] env)=[(false,eval e env)]:=by intro _;rfl) :
  zG T d sc ctx (.Call (.Attribute o "append" apos) [e] [] pos) (zkY a b):=by
 intro A env Z J s Q P eo ro st fr hw
 refine wpAny_Call_append (hbase env) (hfew env) hline (htrees env) (h.run eo ro st fr hw fun va ua J1 sB v1 st1 p1 fr1 hw1=>?_)
 obtain ⟨p,hw2,hw3⟩:=hw1.get v1
 obtain ⟨xs1,hxB,_⟩:=hw2.get
 obtain ⟨us1,nB,ho1,_⟩:=st1.isL hxB
 refine ⟨p,us1,rfl,⟨_,nB,ho1,rfl,rfl,rfl⟩,h'.then eo ro p1 st1 fr1 hw3 fun vb ub J2 sM v2 st2 p2 fr2 hw4=>?_⟩
 obtain ⟨xs,hx,h1,hw5⟩:=hw4.get
 obtain ⟨us,n,ho,hv,hz,_⟩:=st2.isL hx
 refine call_meets F.slot_list_append ⟨_,ho,rfl⟩ F.entry_list_append (F.args_list_append_2 _ _) (AutoListH.list_append_list_val_0 p us n ub (by rw [hz];exact kai (kby h1) wM)) ⟨ho,?_⟩
 have hn:=st2.notScr hx (by intro _ e;cases e)
 have ho':=IsL.update ho (fun x=>x.push ub)
 refine ⟨_,_,.none,st2.turn hx hn (ka7.update ..) ho' (so':=.list (xs++[vb])) ⟨by simp;assumption,_,_,rfl,by simpa using hv.append (.cons v2 .nil)⟩ sM.toks,p2.turn hx hn (ka7.update ..) ho' sM.toks,hw5⟩

noncomputable def zje(kvs:List (Int × V))(k:Int):Bool:=kvs.any fun kv=>decide (kv.1=k)
noncomputable def zho(kvs:List (Int × V))(k:Int)(v:V):List (Int × V) :=
 if kvs.any (fun kv=>decide (kv.1=k)) then kvs.map (fun kv=>if kv.1=k then (kv.1,v) else kv) else kvs++[(k,v)]
theorem KVs.has{kvs us}(h:KVs kvs us)(k:Int):(valueAt us k).isSome=zje kvs k:=by
 induction h with
 | nil=>rfl
 | @cons k' v u r s h _ this =>
  unfold valueAt zje at *
  rw [List.find?_cons,kdS]
  by_cases e:k'=k
  ·rw [decide_eq_true e];rfl
  ·rw [decide_eq_false e,kdf];exact this
theorem KVs.any{kvs us}(h:KVs kvs us)(k:Int):(us.any fun kv=>decide (kv.1=k))=kvs.any fun kv=>decide (kv.1=k):=by
 induction h with
 | nil=>rfl
 | cons _ _ ih=>simp only [kdS,ih]
theorem KVs.append{kvs us kvs' us'}(h:KVs kvs us)(h':KVs kvs' us'):KVs (kvs++kvs') (us++us'):=by
 induction h with
 | nil=>exact h'
 | cons h _ ih=>exact .cons h ih
theorem KVs.map{kvs us}(h:KVs kvs us)(k:Int){v u}(hv:VIs v u):KVs (kvs.map fun kv=>if kv.1=k then (kv.1,v) else kv) (us.map fun kv=>if kv.1=k then (kv.1,u) else kv):=by
 induction h with
 | nil=>exact .nil
 | cons h _ ih =>
  simp only [kbq]
  split
  ·exact .cons hv ih
  ·exact .cons h ih
theorem KVs.put{kvs us}(h:KVs kvs us)(k:Int){v u}(hv:VIs v u):KVs (zho kvs k v) (stored us k u):=by
 unfold zho stored
 rw [h.any]
 split
 ·exact h.map k hv
 ·exact h.append (.cons hv .nil)
theorem zkQ(kvs:List (Int × V))(k:Int)(v:V):(zho kvs k v).length<=kvs.length+1:=by
 unfold zho;split<;>simp

def inD(neg:Bool)(a b:EW):EW:=fun Z J Q P =>
 a Z J (fun va J1=>b Z J1 (fun vb J2=>va.asInt fun k=>vb.asRef fun p=>yI J2 p fun kvs=>Q (.bool (if neg then !zje kvs k else zje kvs k)) J2) P) P
noncomputable def zpX(neg:Bool):CmpOp:=if neg then .NotIn else .In
theorem zm2(neg:Bool){A E s J k t p kvs}{Q:Value->Shared->Prop}(st:St T J s)(hx:J p=some (.dict kvs))(h:∀ tk,Q (.bool (if neg then !zje kvs k else zje kvs k)) {s with toks:=tk}) :
  wpAny T.M A (compareOp (zpX neg) (.int k t) (.ref p)) Q E s:=by
 obtain ⟨us,hd,hv,_⟩:=st.dict hx
 have hs:=st.sysm p (by simp [hx]) (st.notScr hx (by intro xs e;cases e))
 cases neg
 ·refine wpAny_in_of (intKind_is T.prog T.w k t) hs hd.mapOf ?_
  rw [hv.has];exact h _
 ·refine wpAny_notIn_of (intKind_is T.prog T.w k t) hs hd.mapOf ?_
  rw [hv.has];exact h _
theorem zjp(neg:Bool){l r pos op}{a b:EW}(ho:op=zpX neg)(hl:zG T d sc ctx l a)(hr:zG T d sc ctx r b)(hm:behindInMarks op r=false:=by rfl):zG T d sc ctx (.Compare l [op] [r] pos) (inD neg a b):=by
 subst ho
 intro A env Z J s Q P eo ro st fr hw
 refine wpAny_Compare1 (hl.run eo ro st fr hw ?_) hm
 intro va ua J1 sB v1 st1 p1 fr1 hw1
 refine hr.then eo ro p1 st1 fr1 hw1 ?_
 intro vb ub J2 sM v2 st2 p2 fr2 hw2
 obtain ⟨k,t,hw3⟩:=hw2.get v1
 obtain ⟨p,hw4⟩:=hw3.get v2
 obtain ⟨kvs,hx,hw5⟩:=hw4.get
 exact zm2 neg st2 hx fun tk=>⟨_,_,.bool _,st2.tok _,p2.tok _,hw5⟩
theorem zbd(neg:Bool){l r pos op}{a b:EW}(ho:op=zpX neg)(hl:zG T d sc ctx l a)(hr:zG T d sc ctx r b)(hm:behindInMarks op r=false:=by rfl):zcg T d sc ctx (.Compare l [op] [r] pos) (inD neg a b):=by
 subst ho
 intro A env Z J s Q P eo ro st fr hw
 refine wpAny_isTrue_Compare1 (hl.run eo ro st fr hw ?_) hm
 intro va ua J1 sB v1 st1 p1 fr1 hw1
 refine hr.then eo ro p1 st1 fr1 hw1 ?_
 intro vb ub J2 sM v2 st2 p2 fr2 hw2
 obtain ⟨k,t,hw3⟩:=hw2.get v1
 obtain ⟨p,hw4⟩:=hw3.get v2
 obtain ⟨kvs,hx,hw5⟩:=hw4.get
 exact zm2 neg st2 hx fun tk=>kaY ⟨_,st2.tok _,p2.tok _,hw5⟩

theorem St.adopt{J s}(st:St T J s){D:Addr}(hF:D∉frs T)(hD:J D=none)(hb:T.hb.get? D=none)(hm:(D==sysModules)=false){h':Heap}(hs:ka7 D s.heap h'){o:Obj}{so:O}(ho:h'.get? D=some o)(hi:OIs T so o)(tk:Nat) :
  St T (put J D so) {s with heap:=h',toks:=tk}:=by
 obtain ⟨h,t,e⟩:=st.rest
 refine ⟨⟨h',tk,by rw [e]⟩,fun b o hb'=>?_,fun b sb hb'=>?_,fun b hb' hne=>?_,fun b hb' hne=>?_,st.roPut _ _ hD,st.framesOf (zon hF) fun L hL ⟨o,es,ep,e,d⟩=>⟨o,es,ep,(hs.2 L (zsT hF hL)).trans e,d⟩⟩
 ·have hne:b≠D:=fun q=>by subst q;rw [hb] at hb';cases hb'
  exact (hs.2 b hne).trans (st.base b o hb')
 ·by_cases h:b=D
  ·subst h;rw [zB] at hb';cases hb';exact ⟨o,ho,hi⟩
  ·rw [zO _ h] at hb';obtain ⟨o,h1,h2⟩:=st.objs b sb hb';exact ⟨o,(hs.2 b h).trans h1,h2⟩
 ·by_cases h:b=D
  ·subst h;exact hb
  ·rw [zO _ h] at hb';exact st.fresh b hb' hne
 ·by_cases h:b=D
  ·subst h;exact hm
  ·rw [zO _ h] at hb';exact st.sysm b hb' hne
theorem zV.adopt{X J0 sa J s}(a:zV T X J0 sa J s){D:Addr}(hD:sa.heap.get? D=none){h':Heap}(hs:ka7 D s.heap h'){o:Obj}(ho:h'.get? D=some o)(so:O)(tk:Nat) :
  zV T X J0 sa (put J D so) {s with heap:=h',toks:=tk}:=by
 refine ⟨fun c o hf hc e=>?_,fun c o e=>?_,fun c hc=>?_,fun c hc hc'=>?_⟩
 ·have hne:c≠D:=by rintro rfl;rw [hD] at e;cases e
  obtain ⟨o',h',r⟩:=a.keep c o hf hc e
  exact ⟨o',(hs.2 c hne).trans h',r⟩
 ·obtain ⟨o1,h1⟩:=a.live c o e
  by_cases h:c=D
  ·subst h;exact ⟨_,ho⟩
  ·exact ⟨o1,(hs.2 c h).trans h1⟩
 ·by_cases h:c=D
  ·subst h;simp [zB]
  ·rw [zO _ h];exact a.mono c hc
 ·by_cases h:c=D
  ·subst h;exact hD
  ·rw [zO _ h] at hc';exact a.new c hc hc'
theorem St.hbSize{J s}(st:St T J s):T.hb.get? s.heap.objs.size=none:=by
 cases e:T.hb.get? s.heap.objs.size with
 | none=>rfl
 | some ob=>have:=st.base _ _ e;rw [get?_size] at this;cases this

def zdK(a b:EW):EW:=fun Z J Q P=>a Z J (fun va J1=>b Z J1 (fun vb J2=>va.asInt fun k=>yT (.dict [(k,vb)]) J2 Q) P) P
theorem zca{k v pos}{a b:EW}(hk:zG T d sc ctx k a)(hv:zG T d sc ctx v b):zG T d sc ctx (.Dict [some k] [v] pos) (zdK a b):=by
 intro A env Z J s Q P eo ro st fr hw
 refine wpAny_Dict_pairs (knd:=intKind T.prog T.w) (pairs:=[(eval k env,do let x <-eval v env;standAt pos;pure x)]) rfl (by simp) (by simp) ?_
 have st0:=st.push {cls:=.type "dict", data:=.dict #[]} s.toks
 have p0:zV T [] J s J {s with heap:=s.heap.push {cls:=.type "dict", data:=.dict #[]},toks:=s.toks}:=zV.refl.push _ _
 have fr0:=fr.step p0
 show wpAny T.M A (do
  let kv <-eval k env
  let vv <-holding [kv] (do let x <-eval v env;standAt pos;pure x)
  return (kv,vv)::(<- holding [kv,vv] (evalPairs []))) _ _ _
 refine kag (kat (hk.run eo ro st0 fr0 hw (Q':=fun ua sB=>_) fun va ua J1 sB v1 st1 q1 fr1 hw1=>?_) (fun _ _ x=>x) fun _ _ x=>x.step p0)
 refine kag (wpAny_holding (kag (kat (hv.then eo ro q1 st1 fr1 hw1 (Q':=fun ub sM=>_) fun vb ub J2 sM v2 st2 hp2 fr2 hw2=>?_) (fun _ _ x=>x) fun _ _ x=>x.step p0)))
 have p2:=p0.trans hp2
 refine kag (wpAny_standAt (kaC (kag (wpAny_holding (evalPairs_nil (kaC ?_))))))
 obtain ⟨n,t,hw3⟩:=hw2.get v1
 have p2':zV T [] J {s with heap:=s.heap.push {cls:=.type "dict", data:=.dict #[]}} J2 sM:=hp2
 have hob:(s.heap.push {cls:=.type "dict", data:=.dict #[]}).get? s.heap.objs.size=some {cls:=.type "dict", data:=.dict #[]}:=kaF _ rfl
 have hF:=st.notFr (get?_size s.heap)
 have hD2:=p2'.keepX (.inl st.sizeFree) (by simp) hF hob
 refine ⟨[(n,ub)],⟨intKind_is ..,rfl,trivial⟩,⟨_,#[],0,hD2,⟨rfl,rfl,rfl⟩,rfl,fun _ he=>by simp at he,Pairs.nil,kb5⟩,fun h' hd hs=>?_⟩
 obtain ⟨o,ho,hd'⟩:=kcg.mp hd
 refine ⟨_,_,.ref _,st2.adopt hF (p2'.free st.sizeFree hob) st.hbSize st.big hs ho (so:=.dict [(n,vb)]) ⟨?_,_,hd',?_⟩ _,p2.adopt (get?_size _) hs ho _ _,hw3 _ (p2'.free st.sizeFree hob)⟩
 ·simp [lim]
 ·exact .cons v2 .nil
end
end Mine
end
section
open PySem
namespace Mine
open PySem.Calls PyProof.Rows

section
variable {T:TC} {d:Nat} {sc:Scope} {ctx:List Str}

theorem zbm{Z:zK}{i j:Nat}{v u:V}(h:qz (jP Z i v) j=some u)(hne:j≠i):qz Z j=some u:=by
 rcases zeC Z i j v u h with ⟨a,_⟩ | ⟨_,b⟩
 ·exact absurd a hne
 ·exact b
theorem zgy{ctx:List Str}(nd:ctx.Nodup){i j:Nat}{x:Str}(hi:ctx[i]?=some x)(hj:ctx[j]?=some x):i=j:=by
 have hi1:=(kah.mp hi).1
 exact (List.getElem?_inj hi1 nd).mp (hi.trans hj.symm)

theorem zV.own{J s}{a:Addr}{h':Heap}(hs:ka7 a s.heap h'){o:Obj}(ho:h'.get? a=some o)(tk:Nat):zV T [a] J s J {s with heap:=h',toks:=tk}:=by
 refine ⟨fun b o hf hb e=>⟨o,(hs.2 b (by simpa using hb)).trans e,.inl rfl⟩,fun b ob e=>?_,fun _ h=>h,fun x h1 h2=>by simp [h1] at h2⟩
 by_cases h:b=a
 ·subst h;exact ⟨o,ho⟩
 ·exact ⟨ob,(hs.2 b h).trans e⟩
theorem St.own{J s}(st:St T J s){a:Addr}(ha:J a=none)(hb:T.hb.get? a=none){h':Heap}(hs:ka7 a s.heap h')(hd:a∈frs T->IsD h' a)(tk:Nat):St T J {s with heap:=h',toks:=tk}:=by
 obtain ⟨h,t,e⟩:=st.rest
 refine ⟨⟨h',tk,by rw [e]⟩,fun b o e=>?_,fun b sb hb'=>?_,st.fresh,st.sysm,st.ro,st.framesOf (fun _ _ h=>h) fun L hL h=>?_⟩
 ·exact (hs.2 b (by rintro rfl;rw [hb] at e;cases e)).trans (st.base b o e)
 ·obtain ⟨o,h1,h2⟩:=st.objs b sb hb'
  exact ⟨o,(hs.2 b (by rintro rfl;rw [ha] at hb';cases hb')).trans h1,h2⟩
 ·by_cases e:L=a
  ·subst e;exact hd hL
  ·obtain ⟨o,es,ep,h1,h2⟩:=h;exact ⟨o,es,ep,(hs.2 L e).trans h1,h2⟩

noncomputable def zcu:Option NameKind->Bool
 | some .local | some .cell=>true
 | _=>false
theorem zfs{A E env Z J s}{x:Str}{i:Nat}{v:V}{u:Value}{Q:Unit->Shared->Prop}(eo:jm sc env)(st:St T J s)(fr:qR T env ctx Z J s.heap)(hx:ctx[i]?=some x)(hk:zcu (sc.names.lookup x)=true)(hv:VIs v u)
  (h:∀ s' a,a∈own env->((sc.names.lookup x=some .local->a=env.locals)/\(sc.names.lookup x=some .cell->env.cells.lookup x=some a))->St T J s'->qR T env ctx (jP Z i v) J s'.heap->zV T [a] J s J s'->Q () s'):wpAny T.M A (storeName env x u) Q E s:=by
 have hkf:env.scope.kind=.function:=by rw [eo.scope];exact eo.kind
 have hko:=hk
 rw [<-eo.kindOf] at hk
 cases hq:env.kindOf x with
 | none=>rw [hq] at hk;cases hk
 | some kd =>
  rw [hq] at hk
  cases kd<;>first | (cases hk;done) | skip
  ·-- a local
   obtain ⟨m,hn,h2⟩:=fr.ns
   refine wpAny_storeName_local hq hn (fun h' hn' hs=>?_) (by rw [hkf];rfl)
   obtain ⟨o',es,ep,ho',hd',_⟩:=id hn'
   refine h _ env.locals (by simp [own]) ⟨fun _=>rfl,fun e=>(by rw [<-eo.kindOf,hq] at e;cases e)⟩ (st.own fr.lfree fr.lbase hs (fun _=>⟨o',es,ep,ho',hd'⟩) _) ?_ (zV.own hs ho' _)
   have hc:∀ y c,env.cells.lookup y=some c->∀ o,s.heap.IsCell c o->h'.IsCell c o:=fun y c hy o ho=>ho.sameBut hs (fr.apart y c hy)
   refine ⟨fr.nd,⟨_,hn',fun j y w hj hy hw=>?_⟩,fun j y hj hy=>?_,fr.loneM,fr.apartM,fr.lfree,fun y c hy=>⟨(fr.cfreeM y c hy).1,let ⟨o,ho⟩:=(fr.cfreeM y c hy).2;⟨o,ho.sameBut hs (fr.apartM y c hy)⟩⟩,fr.lbase,fr.cbaseM⟩
   ·rcases zeC Z i j v w hw with ⟨e1,e2⟩ | ⟨e1,e2⟩
    ·subst e1 e2;rw [hx] at hj;cases hj;exact ⟨u,by simp,hv⟩
    ·have hne:y≠x:=fun q=>e1 (zgy fr.nd (q▸hj) hx)
     simp only [hne,if_false];exact h2 j y w hj hy e2
   ·obtain ⟨c,o,h3,h4,h5⟩:=fr.cell j y hj hy
    refine ⟨c,o,h3,hc y c h3 o h4,fun w hw=>?_⟩
    have hne:j≠i:=by rintro rfl;rw [hx] at hj;cases hj;rw [hq] at hy;rcases hy with hy | hy<;>cases hy
    exact h5 w (zbm hw hne)
  ·-- a cell
   obtain ⟨c,o,h1,h2,h3⟩:=fr.cell i x hx (.inl hq)
   refine wpAny_storeName_cell hkf hq h1 h2 fun h' hc' hs=>?_
   obtain ⟨o',ho',hd'⟩:=id hc'
   refine h _ c (by simp only [own,kad,kau];exact .inr ⟨(x,c),mem_of_lookup h1,rfl⟩) ⟨fun e=>(by rw [<-eo.kindOf,hq] at e;cases e),fun _=>h1⟩ (st.own (fr.cfree x c h1).1 (fr.cbase x c h1) hs (fun hF=>by
    obtain ⟨o1,es,ep,e1,d1⟩:=(st.fr hF).2.2
    obtain ⟨o2,e2,d2⟩:=h2
    rw [e1] at e2;cases e2;rw [d1] at d2;cases d2) s.toks) ?_ (zV.own hs ho' s.toks)
   have hoth:∀ y c',env.cells.lookup y=some c'->y≠x->c'≠c:=fun y c' hy hne e=>hne (fr.lone y x c (e▸hy) h1)
   refine ⟨fr.nd,?_,fun j y hj hy=>?_,fr.loneM,fr.apartM,fr.lfree,fun y c' hy=>⟨(fr.cfreeM y c' hy).1,?_⟩,fr.lbase,fr.cbaseM⟩
   ·obtain ⟨m,hn,h4⟩:=fr.ns
    refine ⟨m,hn.sameBut hs (Ne.symm (fr.apart x c h1)),fun j y w hj hy hw=>?_⟩
    have hne:j≠i:=by rintro rfl;rw [hx] at hj;cases hj;rw [hq] at hy;cases hy
    exact h4 j y w hj hy (zbm hw hne)
   ·by_cases e:j=i
    ·subst e;rw [hx] at hj;cases hj
     refine ⟨c,some u,h1,hc',fun w hw=>?_⟩
     rcases zeC Z j j v w hw with ⟨_,e2⟩ | ⟨e1,_⟩
     ·subst e2;exact ⟨u,rfl,hv⟩
     ·exact absurd rfl e1
    ·obtain ⟨c',o',h5,h6,h7⟩:=fr.cell j y hj hy
     have hne:y≠x:=fun q=>e (zgy fr.nd (q▸hj) hx)
     exact ⟨c',o',h5,h6.sameBut hs (hoth y c' h5 hne),fun w hw=>h7 w (zbm hw e)⟩
   ·by_cases e:c'=c
    ·subst e;exact ⟨_,hc'⟩
    ·obtain ⟨o'',ho''⟩:=(fr.cfreeM y c' hy).2
     exact ⟨o'',ho''.sameBut hs e⟩

def za0(T:TC)(d:Nat)(sc:Scope)(ctx:List Str)(ps:Stmt)(w:SW):Prop :=
 ∀ A env Z J s K P,jm sc env->zag T A d->St T J s->qR T env ctx Z J s.heap->w Z J K P ->
  wpAny T.M A (exec ps env) (wS T env ctx J s K) (jL T (own env) J s P) s

def zP:SW:=fun Z J K _=>K .next Z J
def zt(a b:SW):SW:=fun Z J K P=>a Z J (fun o Z1 J1=>match o with | .next=>b Z1 J1 K P | .ret v=>K (.ret v) Z1 J1) P
theorem zy:qP T d sc ctx [] zP :=
 fun A env Z J s K P eo ro st fr hw=>wpAny_execs_nil ⟨_,Z,J,.next,st,fr,.refl,hw⟩
theorem wS.step{env J s J1 sB K f s'}(a:zV T (own env) J s J1 sB)(h:wS T env ctx J1 sB K f s'):wS T env ctx J s K f s' :=
 let ⟨o,Z',J',h1,h2,h3,h4,h5⟩:=h;⟨o,Z',J',h1,h2,h3,a.trans h4,h5⟩
theorem zh{st1 rest}{a b:SW}(h:za0 T d sc ctx st1 a)(h':qP T d sc ctx rest b):qP T d sc ctx (st1::rest) (zt a b):=by
 intro A env Z J s K P eo ro st fr hw
 refine wpAny_execs_cons (kat (h A env Z J s _ P eo ro st fr hw) (fun f sB hf=>?_) fun _ _ x=>x)
 obtain ⟨o,Z1,J1,h1,h2,h3,h4,h5⟩:=hf
 cases h1 with
 | next=>exact kat (h' A env Z1 J1 sB K P eo ro h2 h3 h5) (fun _ _ x=>x.step h4) fun _ _ x=>x.step h4
 | ret hv=>exact ⟨_,Z1,J1,.ret hv,h2,h3,h4,h5⟩
theorem zl{st1}{a:SW}(h:za0 T d sc ctx st1 a):qP T d sc ctx [st1] a:=by
 intro A env Z J s K P eo ro st fr hw
 refine wpAny_execs_cons (kat (h A env Z J s _ P eo ro st fr hw) (fun f sB hf=>?_) fun _ _ x=>x)
 obtain ⟨o,Z1,J1,h1,h2,h3,h4,h5⟩:=hf
 cases h1 with
 | next=>exact wpAny_execs_nil ⟨_,Z1,J1,.next,h2,h3,h4,h5⟩
 | ret hv=>exact ⟨_,Z1,J1,.ret hv,h2,h3,h4,h5⟩

def qi(a:EW):SW:=fun Z J K P=>a Z J (fun v J1=>K (.ret v) Z J1) P
theorem zA{e pos}{a:EW}(h:zG T d sc ctx e a):za0 T d sc ctx (.Return (some e) pos) (qi a):=by
 intro A env Z J s K P eo ro st fr hw
 exact kat (wpAny_Return_some (h.run eo ro st fr hw fun v u J1 sB hv st1 p1 fr1 hw1=>(⟨_,Z,J1,.ret hv,st1,fr1,p1.any,hw1⟩:wS T env ctx J s K (.ret u) sB))) (fun _ _ x=>x) fun _ _ x=>x.any

def zY(i:Nat)(a:EW):SW:=fun Z J K P=>a Z J (fun v J1=>K .next (jP Z i v) J1) P
theorem zei{env:Env}{a:Addr}{J s J' s'}(h:zV T [a] J s J' s')(ha:a∈own env):zV T (own env) J s J' s':=h.weaken (by simpa using ha)
theorem zpL{x e p pos}{a:EW}(i:Nat)(hx:ctx[i]?=some x)(hk:zcu (sc.names.lookup x)=true)(h:zG T d sc ctx e a)
  (hs:∀ env,swapsWith e (some (.Name x p)) pos.line env=pure false:=by intro _;rfl):za0 T d sc ctx (.Assign [.Name x p] e pos) (zY i a):=by
 intro A env Z J s K P eo ro st fr hw
 refine kat (wpAny_Assign_Name (Q:=wS T env ctx J s K) (h.run eo ro st fr hw fun v u J1 sB hv st1 p1 fr1 hw1=>?_) (hs env)) (fun _ _ x=>x) fun _ _ x=>x.any
 refine zfs eo st1 fr1 hx hk hv fun sM b hb _ st2 fr2 p2=>⟨_,_,J1,.next,st2,fr2,p1.any.trans (zei p2 hb),hw1⟩

def qt(a:EW):SW:=fun Z J K P=>a Z J (fun _ J1=>K .next Z J1) P
theorem z2{e pos}{a:EW}(h:zG T d sc ctx e a)(hs:∀ env,swapsWith e none pos.line env=pure false:=by intro _;rfl):za0 T d sc ctx (.Expr e pos) (qt a):=by
 intro A env Z J s K P eo ro st fr hw
 have hi:interactive env=false:=by unfold interactive;rw [eo.scope,eo.kind];rfl
 exact kat (wpAny_Expr_any (Q:=wS T env ctx J s K) (h.run eo ro st fr hw fun v u J1 sB hv st1 p1 fr1 hw1=>⟨_,Z,J1,.next,st1,fr1,p1.any,hw1⟩) hi (hs env)) (fun _ _ x=>x) fun _ _ x=>x.any

def qy(c:EW)(a b:SW):SW:=fun Z J K P=>c Z J (fun v J1=>v.asBool fun t=>if t then a Z J1 K P else b Z J1 K P) P
theorem zH{c t e pos}{wc:EW}{a b:SW}(hc:zcg T d sc ctx c wc)(ha:qP T d sc ctx t a)(hb:qP T d sc ctx e b):za0 T d sc ctx (.If c t e pos) (qy wc a b):=by
 intro A env Z J s K P eo ro st fr hw
 refine wpAny_If ?_
 refine kat (hc.then eo ro .refl st fr hw (Q':=fun t sB=>∃ J1,St T J1 sB/\zV T [] J s J1 sB/\qR T env ctx Z J1 sB.heap/\if t then a Z J1 K P else b Z J1 K P) fun t J1 sB st1 p1 fr1 hw1=>⟨J1,st1,p1,fr1,hw1⟩) (fun t sB h1=>?_) fun _ _ x=>x.any
 obtain ⟨J1,st1,p1,fr1,hw1⟩:=h1
 cases t
 ·exact kat (hb A env Z J1 sB K P eo ro st1 fr1 hw1) (fun _ _ x=>x.step p1.any) fun _ _ x=>x.step p1.any
 ·exact kat (ha A env Z J1 sB K P eo ro st1 fr1 hw1) (fun _ _ x=>x.step p1.any) fun _ _ x=>x.step p1.any

def ztm:SW:=fun _ _ _ _=>False
def zd5(J:zc)(p:Addr)(k:Int)(v:V)(K:zc->Prop):Prop:=match J p with
 | some (.list xs)=>0<=k/\k<xs.length/\K (put J p (.list (xs.set k.toNat v)))
 | some (.dict kvs)=>kvs.length<lim/\K (put J p (.dict (zho kvs k v)))
 | _=>False
def zaj(a i e:EW):SW:=fun Z J K P=>e Z J (fun ve J1=>a Z J1 (fun va J2=>i Z J2 (fun vi J3=>va.asRef fun p=>vi.asInt fun k=>zd5 J3 p k ve (K .next Z)) P) P) P
theorem qR.turn{env Z J}{s:Shared}(fr:qR T env ctx Z J s.heap){p:Addr}{so so'}(hp:J p=some so){h':Heap}(hs:ka7 p s.heap h'):qR T env ctx Z (put J p so') h':=by
 have hl:env.locals≠p:=by rintro e;have:=fr.lfree;rw [e,hp] at this;cases this
 have hc:∀ x c,(x,c)∈env.cells->c≠p:=by rintro x c hx rfl;have:=(fr.cfreeM x c hx).1;rw [hp] at this;cases this
 refine ⟨fr.nd,?_,fun i x hi hk=>?_,fr.loneM,fr.apartM,by rw [zO _ hl];exact fr.lfree,fun x c hx=>⟨by rw [zO _ (hc x c hx)];exact (fr.cfreeM x c hx).1,?_⟩,fr.lbase,fr.cbaseM⟩
 ·obtain ⟨m,hn,h2⟩:=fr.ns
  exact ⟨m,hn.sameBut hs hl,h2⟩
 ·obtain ⟨c,o,h1,h2,h3⟩:=fr.cell i x hi hk
  exact ⟨c,o,h1,h2.sameBut hs (hc x c (mem_of_lookup h1)),h3⟩
 ·obtain ⟨o,ho⟩:=(fr.cfreeM x c hx).2
  exact ⟨o,ho.sameBut hs (hc x c hx)⟩
set_option maxRecDepth 100000 in
theorem zeP{prog:Program}{w:World}{A:Around}{E:Value->Shared->Prop}{s:Shared}{a:Addr}{us:Array Value}{n:Nat}{i:Int}{t:Tok}{v:Value}{Q:Unit->Shared->Prop}(ho:IsL s.heap a us n)(h0:0<=i)(hz:i<2 ^ 63)(hj:i<us.size)
  (hq:Q () {s with heap:=s.heap.update a (Obj.mapSeq (·.setIfInBounds i.toNat v))}):wpAny (model prog w) A (setItem (.ref a) (.int i t) v) Q E s:=by
 have ty:=ho.isList.typeIs
 have fit:=fitsIndex_of h0 hz
 clear hz
 unfold setItem
 refine wpAny_holding (kag (wpAny_sequenceKey ty (by decide) (kag ?_)))
 refine wpAny_callSpecial?_slot (name:=Str.ofString "__setitem__") ty slot_list_setitem (wpAny_call_entry slot_list_setitem ty entry_list_setitem ?_ (args_list_setitem _ _ _))
 show wpAny _ _ (Builtin.List.listSubscript? (.int i t) >>= _) _ _ s
 refine kag (wpAny_listSubscript_int fit ?_)
 obtain ⟨j,rfl⟩:=kax h0
 have hj':j<us.size:=by exact kaw.mp ‹_›
 show wpAny _ _ ((seqItemAt a j >>= fun r=>pure (r.map (j,·))) >>= _) _ _ s
 refine kag (kag (wpAny_seqItemAt ho rfl (kaC ?_)))
 rw [Array.getElem?_eq_getElem hj']
 show wpAny _ _ (setSeqItemAt a j v >>= _) _ _ s
 refine kag (wpAny_setSeqItemAt ho rfl ?_)
 first | exact kaC ⟨.none,rfl,kaC hq⟩ | exact kag (kaC (kaC ⟨.none,rfl,kaC hq⟩))
theorem ja{o i e p pos}{wa wi we:EW}(ha:zG T d sc ctx o wa)(hi:zG T d sc ctx i wi)(he:zG T d sc ctx e we)
  (hs:∀ env,swapsWith e (some (.Subscript o i p)) pos.line env=pure false:=by intro _;rfl):za0 T d sc ctx (.Assign [.Subscript o i p] e pos) (zaj wa wi we):=by
 intro A env Z J s K P eo ro st fr hw
 refine kat (wpAny_Assign_Subscript (Q:=wS T env ctx J s K) (he.run eo ro st fr hw fun ve ue J1 sB v1 st1 p1 fr1 hw1=>?_) (hs env)) (fun _ _ x=>x) fun _ _ x=>x.any
 refine ha.then eo ro p1 st1 fr1 hw1 fun va ua J2 sM v2 st2 p2 fr2 hw2=>?_
 refine hi.then eo ro p2 st2 fr2 hw2 fun vi ui J3 sD v3 st3 p3 fr3 hw3=>?_
 obtain ⟨q,hw4⟩:=hw3.get v2
 obtain ⟨k,t,hw5⟩:=hw4.get v3
 unfold zd5 at hw5
 split at hw5
 ·rename_i xs hx
  obtain ⟨h0,h1,hw6⟩:=hw5
  obtain ⟨us,n,ho,hv,hz,hlim⟩:=st3.isL hx
  have hn:=st3.notScr hx (by intro _ e;cases e)
  refine zeP (n:=n) ho h0 (by unfold lim at hlim;exact lit r2 V0 (.num 9223372036854775808) [(1,1,V0,V1),(0,1,V1,.num 1000000)] rfl h1 (leI hlim)) (by rw [hz];exact h1) ?_
  have ho':=IsL.update ho (fun x=>x.setIfInBounds k.toNat ue)
  exact ⟨_,Z,_,.next,st3.turn hx hn (ka7.update ..) ho' (so':=.list (xs.set k.toNat ve)) ⟨by simpa using hlim,_,_,rfl,by simpa using hv.set k.toNat v1⟩ sD.toks,fr3.turn hx (ka7.update ..),p3.any.trans (zV.refl.turn hx hn (ka7.update ..) ho' sD.toks),hw6⟩
 ·rename_i kvs hx
  obtain ⟨h1,hw6⟩:=hw5
  obtain ⟨us,hd,hv,hlim⟩:=st3.dict hx
  have hn:=st3.notScr hx (by intro _ e;cases e)
  refine wpAny_setItem_pairs (intKind_is T.prog T.w k t) hd (fun h' hd' hs'=>?_) (by rw [hv.length];exact kai hlim wM)
  obtain ⟨o',ho',hi'⟩:=kcg.mp hd'
  exact ⟨_,Z,_,.next,st3.turn hx hn hs' ho' (so':=.dict (zho kvs k ve)) ⟨kai (zkQ ..) h1,_,hi',hv.put k v1⟩ _,fr3.turn hx hs',p3.any.trans (zV.refl.turn hx hn hs' ho' _),hw6⟩
 ·exact hw5.elim
end
end Mine
end
section
open PySem
namespace Mine
open PySem.Calls PyProof.Rows

structure zl7(T:TC)(A:Around)(I:Addr)(wr:List Addr)(xs:List V)(chk:zc->Prop)(W:Nat->Heap->Prop):Prop where
 mem:I∈wr
 frame:∀ i h h',W i h->(∀ b∈wr,∀ o,h.get? b=some o->h'.get? b=some o)->W i h'
 item:∀ i x J s (Q:Option Value->Shared->Prop) E,xs[i]?=some x->W i s.heap->St T J s->chk J ->
  (∀ u h' tk,VIs x u->W (i+1) h'->(∀ b o,b∉wr->s.heap.get? b=some o->h'.get? b=some o)->Q (some u) {s with heap:=h',toks:=tk})->wpAny T.M A (pyNext (.ref I)) Q E s
 done:∀ J s (Q:Option Value->Shared->Prop) E,W xs.length s.heap->St T J s->chk J ->
  (∀ h' tk,(∀ b o,b∉wr->s.heap.get? b=some o->h'.get? b=some o)->Q none {s with heap:=h',toks:=tk})->wpAny T.M A (pyNext (.ref I)) Q E s
 self:∀ i s (Q:Value->Shared->Prop) E,W i s.heap->Q (.ref I) s->wpAny T.M A (pyIter (.ref I)) Q E s
 lets:∀ i s (target:Expr) (v:Value) (Q:Unit->Shared->Prop) E,W i s.heap->Q () s->wpAny T.M A (letOwnedTupleGo target (.ref I) v) Q E s
 alive:∀ i h,W i h->∀ b∈wr,∃ o,h.get? b=some o

theorem zgj{T:TC}{A:Around}{s:Shared}{I:Addr}{o:Obj}{n:String}{vs:Array Value}(target:Expr)(v:Value){Q:Unit->Shared->Prop}{E}(ho:s.heap.get? I=some o)(hc:o.cls=.type n)(hd:o.data=.fields vs)
  (hn:["enumerate","zip","dict_itemiterator","dict_reverseitemiterator","odict_iterator","itertools.zip_longest","itertools.pairwise"].contains n=false) (h:Q () s):wpAny T.M A (letOwnedTupleGo target (.ref I) v) Q E s:=by
 have key:wpAny T.M A (do
   let (.ref r,.ref a):=(Value.ref I,v) | return
   let o <-load r
   match o.cls,o.data with
   | .type n,.fields vs =>
    if ["enumerate","zip","dict_itemiterator","dict_reverseitemiterator","odict_iterator","itertools.zip_longest","itertools.pairwise"].contains n && vs[0]?==some (rawInt a) then
     rule "for.unpacks-the-owned-tuple"
     updateField r 0 .none
   | _,_=>pure ()) Q E s:=by
  cases v with
  | ref a =>
   refine kag (wpAny_load ho ?_)
   rw [hc,hd]
   show wpAny _ _ (if (_ && _:Bool)=true then _ else _) _ _ _
   rw [hn,kcq,if_neg kan]
   exact kaC h
  | _=>exact kaC h
 cases target with
 | Tuple=>exact key
 | List=>exact key
 | _=>exact kaC h

section
variable {T:TC} {d:Nat} {sc:Scope} {ctx:List Str}

theorem zh7{A I ax xs}(hh:A.handled=none)(hne:ax≠I):zl7 T A I [I] xs (fun J=>J ax=some (.list xs)\/J ax=some (.ro xs)) (fun i h=>h.IsListIter I ax i) where
 mem:=by simp
 frame:=fun i h h' w hk=>w.at fun o e=>hk I (by simp) o e
 item:=fun i x J s Q E hx w st ck k=>by
  obtain ⟨us,hl,hv,_⟩:=st.list ck
  obtain ⟨u,hu,hvu⟩:=hv.get hx
  exact wpAny_pyNext_list_item w hl (by simpa using hu) fun h' hit' hs'=>k u h' s.toks hvu hit' fun b o hb e=>hs'.extBut b o (by simpa using hb) e
 done:=fun J s Q E w st ck k=>by
  obtain ⟨us,hl,hv,hz,_⟩:=st.list ck
  exact wpAny_pyNext_list_end hh w hl (by simp [hz]) fun h' he'=>k h' s.toks fun b o hb e=>he' b o (by simpa using hb) e
 self:=fun i s Q E w h=>wpAny_pyIter_listiter w h
 lets:=fun i s t v Q E w h=>let ⟨o,ho,hc,hd⟩:=w;zgj t v ho hc hd (by decide) h
 alive:=fun i h w b hb=>by simp at hb;subst hb;obtain ⟨o,ho,_⟩:=w;exact ⟨o,ho⟩
theorem zo6{A I ax xs}(hh:A.handled=none)(hne:ax≠I):zl7 T A I [I] xs (fun J=>J ax=some (.tup xs)) (fun i h=>h.IsTupleIter I ax i) where
 mem:=by simp
 frame:=fun i h h' w hk=>w.at fun o e=>hk I (by simp) o e
 item:=fun i x J s Q E hx w st ck k=>by
  obtain ⟨us,hl,hv,_⟩:=st.tup ck
  obtain ⟨u,hu,hvu⟩:=hv.get hx
  exact wpAny_pyNext_tuple_item w hl (by simpa using hu) fun h' hit' hs'=>k u h' s.toks hvu hit' fun b o hb e=>hs'.extBut b o (by simpa using hb) e
 done:=fun J s Q E w st ck k=>by
  obtain ⟨us,hl,hv,hz,_⟩:=st.tup ck
  exact wpAny_pyNext_tuple_end hh w hl (by simp [hz]) fun h' he'=>k h' s.toks fun b o hb e=>he' b o (by simpa using hb) e
 self:=fun i s Q E w h=>wpAny_pyIter_tupleiter w h
 lets:=fun i s t v Q E w h=>let ⟨o,ho,hc,hd⟩:=w;zgj t v ho hc hd (by decide) h
 alive:=fun i h w b hb=>by simp at hb;subst hb;obtain ⟨o,ho,_⟩:=w;exact ⟨o,ho⟩
noncomputable def rng(a:Int)(n:Nat):List V:=(kab n).map fun i:Nat=>.int (a+(i:Int))
theorem qx(a n):(rng a n).length=n:=by simp [rng]
theorem jh{a n i x}(h:(rng a n)[i]?=some x):i<n/\x=.int (a+i):=by
 unfold rng at h
 rw [kaP] at h
 cases e:(kab n)[i]? with
 | none=>rw [e] at h;cases h
 | some j =>
  rw [e] at h
  obtain ⟨h1,h2⟩:=kah.mp e
  simp at h1 h2 h
  subst h2;exact ⟨h1,h.symm⟩
theorem zlo{A I}(hh:A.handled=none)(a:Int)(n:Nat):zl7 T A I [I] (rng a n) (fun _=>True) (fun i h=>IsRangeIter h I (a+(i:Nat)*1) ((n:Int) - (i:Nat)) 1) where
 mem:=by simp
 frame:=fun i h h' w hk=>hk I (by simp) _ w
 item:=fun i x J s Q E hx w st ck k=>by
  obtain ⟨hi,rfl⟩:=jh hx
  refine (Walks.range (prog:=T.prog) (w:=T.w) hh I a 1 n).item i s Q E hi w fun v h' tk hv w' hk=>?_
  obtain ⟨t,rfl⟩:=hv
  refine k _ h' tk ?_ w' hk
  rw [kcA];exact .int _ _
 done:=fun J s Q E w st ck k=>by
  rw [qx] at w
  exact (Walks.range (prog:=T.prog) (w:=T.w) hh I a 1 n).done s Q E w k
 self:=fun i s Q E w h=>wpAny_pyIter_rangeiter w h
 lets:=fun i s t v Q E w h=>zgj t v w rfl rfl (by decide) h
 alive:=fun i h w b hb=>by simp at hb;subst hb;exact ⟨_,w⟩

noncomputable abbrev zij:=zK->zc->(List V->(zc->Prop)->zc->Prop)->(Nat->zc->Prop)->Prop
inductive zos(T:TC)(A:Around)(J0:zc)(sa:Shared)(Q:List V->(zc->Prop)->zc->Prop)(it:Value)(s:Shared):Prop
 | mk (xs chk J I wr W) (h1:it=.ref I) (h2:zl7 T A I wr xs chk W) (h3:W 0 s.heap) (h4:St T J s) (h5:zV T [] J0 sa J s) (h6:∀ b∈wr,J b=none/\T.hb.get? b=none/\sa.heap.get? b=none) (h7:Q xs chk J):zos T A J0 sa Q it s
def zdM(T:TC)(d:Nat)(sc:Scope)(ctx:List Str)(pe:Expr)(w:zij):Prop :=
 (∀ env x,foldedSetIterable pe env x=pure x) /\
 ∀ A env Z J s Q P,jm sc env->zag T A d->St T J s->qR T env ctx Z J s.heap->w Z J Q P ->
  wpAny T.M A (eval pe env) (fun x sB=>wpAny T.M A (pyIter x) (zos T A J s Q) (jL T [] J s P) sB) (jL T [] J s P) s

def zbh(J:zc)(p:Addr)(k:List V->(zc->Prop)->Prop):Prop:=match J p with
 | some (.list xs)=>k xs (fun J=>J p=some (.list xs)\/J p=some (.ro xs))
 | some (.ro xs)=>k xs (fun J=>J p=some (.list xs)\/J p=some (.ro xs))
 | some (.tup xs)=>k xs (fun J=>J p=some (.tup xs))
 | _=>False
def zai(a:EW):zij:=fun Z J Q P=>a Z J (fun v J1=>v.asRef fun p=>zbh J1 p fun xs chk=>Q xs chk J1) P
theorem zd8{A J0 sa J s xs chk ob W}{Q:List V->(zc->Prop)->zc->Prop}(st:St T J s)(p:zV T [] J0 sa J s)(it:zl7 T A s.heap.objs.size [s.heap.objs.size] xs chk W)(w:W 0 (s.heap.push ob))(hq:Q xs chk J)(tk:Nat) :
  zos T A J0 sa Q (.ref s.heap.objs.size) {s with heap:=s.heap.push ob,toks:=tk}:=by
 refine ⟨xs,chk,J,_,_,W,rfl,it,w,st.push _ _,p.push _ _,fun b hb=>?_,hq⟩
 simp at hb;subst hb
 refine ⟨st.sizeFree,st.hbSize,?_⟩
 cases e:sa.heap.get? s.heap.objs.size with
 | none=>rfl
 | some o=>obtain ⟨o',h'⟩:=p.live _ _ e;rw [get?_size] at h';cases h'
theorem qH{pe}{a:EW}(h:zG T d sc ctx pe a)(hf:∀ env x,foldedSetIterable pe env x=pure x:=by intro _ _;rfl)(C:T.calm=none:=by assumption):zdM T d sc ctx pe (zai a):=by
 refine ⟨hf,fun A env Z J s Q P eo ro st fr hw=>?_⟩
 refine h.run eo ro st fr hw fun v u J1 sB hv st1 p1 fr1 hw1=>?_
 obtain ⟨p,hw2⟩:=hw1.get hv
 unfold zbh at hw2
 split at hw2
 ·rename_i xs hx
  obtain ⟨us,hl,_⟩:=st1.list (.inl hx)
  exact wpAny_pyIter_list hl (zd8 st1 p1 (zh7 (ro.handled C) (kbd (st1.lt hx))) ⟨_,kaF _ rfl,rfl,rfl⟩ hw2 sB.toks)
 ·rename_i xs hx
  obtain ⟨us,hl,_⟩:=st1.list (.inr hx)
  exact wpAny_pyIter_list hl (zd8 st1 p1 (zh7 (ro.handled C) (kbd (st1.lt hx))) ⟨_,kaF _ rfl,rfl,rfl⟩ hw2 sB.toks)
 ·rename_i xs hx
  obtain ⟨us,hl,_⟩:=st1.tup hx
  exact wpAny_pyIter_tuple hl (zd8 st1 p1 (zo6 (ro.handled C) (kbd (st1.lt hx))) ⟨_,kaF _ rfl,rfl,rfl⟩ hw2 sB.toks)
 ·exact hw2.elim

def jJ(a:Int):Prop:=-(2 ^ 62)<=a/\a<2 ^ 62
def jl(a:EW):zij:=fun Z J Q P=>a Z J (fun v J1=>v.asInt fun n=>jJ n/\Q (rng 0 n.toNat) (fun _=>True) J1) P
def zf3(a b:EW):zij:=fun Z J Q P=>a Z J (fun va J1=>b Z J1 (fun vb J2=>va.asInt fun m=>vb.asInt fun n=>jJ m/\jJ n/\Q (rng m (n - m).toNat) (fun _=>True) J2) P) P
theorem zgf{A J0 sa J s r t u v E}{m n:Int}{Q:List V->(zc->Prop)->zc->Prop}(C:T.calm=none)(ro:zag T A d)(st:St T J s)(p:zV T [] J0 sa J s)(hr:IsRange s.heap r m n 1 t u v)(hm:jJ m)(hn:jJ n)(hq:Q (rng m (n - m).toNat) (fun _=>True) J) :
  wpAny T.M A (pyIter (.ref r)) (zos T A J0 sa Q) E s:=by
 refine wpAny_pyIter_range hr (small_one hm.1 hm.2 hn.1 hn.2) ?_
 refine zd8 st p (zlo (ro.handled C) m (n - m).toNat) ?_ hq s.toks
 have e:Builtin.Range.rangeSize m n 1=((n - m).toNat:Int):=by rw [rangeSize_one];split<;>(first | exact liq r3 (.sub V0 V1) V2 [(2,-1,V2,.sub V0 V1)] rfl (tnn (lin r2 N0 (.sub V0 V1) [(1,1,V1,V0)] rfl ‹_›)) | lia)
 show Heap.get? _ _=_
 rw [kaF _ rfl,e]
 simp
theorem qj(ok:T.Ok)(B:Blt T){p pos e}{a:EW}(h:zG T d sc ctx e a)(hx:sc.names.lookup ("range" : Str)=some .globalImplicit:=by kernel_rfl)
  (he:∀ env,starEach [e] env=[(false,eval e env)]:=by intro _;rfl) (C:T.calm=none:=by assumption):zdM T d sc ctx (.Call (.Name "range" p) [e] [] pos) (jl a):=by
 refine ⟨fun _ _=>rfl,fun A env Z J s Q P eo ro st fr hw=>?_⟩
 refine Call_ (yC ok eo st hx (B.none _ (by decide)) (v:=.type "range") (by decide +kernel) (by decide) (by decide) ?_)
 refine callWith_type1 (args_cons (h.then eo ro .refl st fr hw fun v u J1 sB hv st1 p1 fr1 hw1=>args_nil ?_) (he env)) (he env) rfl
 obtain ⟨n,t,hn,hw2⟩:=hw1.get hv
 refine call_range_1 ?_
 refine zgf C ro (st1.push _ _) (p1.push _ _) (IsRange.new ..) ⟨by decide,by decide⟩ hn ?_
 simpa using hw2
theorem zdX(ok:T.Ok)(B:Blt T){p pos e e'}{a b:EW}(h:zG T d sc ctx e a)(h':zG T d sc ctx e' b)(hx:sc.names.lookup ("range" : Str)=some .globalImplicit:=by kernel_rfl)
  (he1:∀ env,starEach [e,e'] env=(false,eval e env)::starEach [e'] env:=by intro _;rfl) (he2:∀ env,starEach [e'] env=[(false,eval e' env)]:=by intro _;rfl) (C:T.calm=none:=by assumption):zdM T d sc ctx (.Call (.Name "range" p) [e,e'] [] pos) (zf3 a b):=by
 refine ⟨fun _ _=>rfl,fun A env Z J s Q P eo ro st fr hw=>?_⟩
 refine Call_ (yC ok eo st hx (B.none _ (by decide)) (v:=.type "range") (by decide +kernel) (by decide) (by decide) ?_)
 refine callWith_type1 (args_cons (h.then eo ro .refl st fr hw fun v u J1 sB hv st1 p1 fr1 hw1=>?_) (he1 env)) (he1 env) (by rw [he2];rfl)
 refine args_cons (h'.then eo ro p1 st1 fr1 hw1 fun v' u' J2 sM hv' st2 p2 fr2 hw2=>args_nil ?_) (he2 env)
 obtain ⟨m,t,hw3⟩:=hw2.get hv
 obtain ⟨n,t',hm,hn,hw4⟩:=hw3.get hv'
 refine call_range_2 ?_
 exact zgf C ro (st2.push _ _) (p2.push _ _) (IsRange.new ..) hm hn hw4
end
end Mine
end
section
open PySem
namespace Mine
open PySem.Calls PyProof.Rows

section
variable {T:TC} {d:Nat} {sc:Scope} {ctx:List Str}

theorem zV.off{X J0 sa J s}(a:zV T X J0 sa J s){wr:List Addr}(hw:∀ b∈wr,sa.heap.get? b=none){h':Heap}(hk:∀ b o,b∉wr->s.heap.get? b=some o->h'.get? b=some o)(tk:Nat):zV T X J0 sa J {s with heap:=h',toks:=tk}:=by
 have nw:∀ b o,sa.heap.get? b=some o->b∉wr:=fun b o e hb=>by rw [hw b hb] at e;cases e
 exact ⟨fun b o hf hb e=>let ⟨o',h,r⟩:=a.keep b o hf hb e;⟨o',hk b o' (nw b o e) h,r⟩,fun b o e=>let ⟨o',h⟩:=a.live b o e;⟨o',hk b o' (nw b o e) h⟩,a.mono,a.new⟩
theorem St.off{J s}(st:St T J s){wr:List Addr}(hw:∀ b∈wr,J b=none/\T.hb.get? b=none/\b∉frs T){h':Heap}(hk:∀ b o,b∉wr->s.heap.get? b=some o->h'.get? b=some o)(tk:Nat):St T J {s with heap:=h',toks:=tk}:=by
 obtain ⟨h,t,e⟩:=st.rest
 refine ⟨⟨h',tk,by rw [e]⟩,fun b o e=>hk b o (fun hb=>by rw [(hw b hb).2.1] at e;cases e) (st.base b o e),fun a so ha=>?_,st.fresh,st.sysm,st.ro,st.framesOf (fun _ _ h=>h) fun L hL ⟨o,es,ep,e,d⟩=>⟨o,es,ep,hk L o (fun hb=>(hw L hb).2.2 hL) e,d⟩⟩
 obtain ⟨o,h1,h2⟩:=st.objs a so ha
 exact ⟨o,hk a o (fun hb=>by rw [(hw a hb).1] at ha;cases ha) h1,h2⟩
theorem qR.off{env Z J}{h h':Heap}(fr:qR T env ctx Z J h){wr:List Addr}(hw:∀ b∈wr,b∉own env)(hk:∀ b o,b∉wr->h.get? b=some o->h'.get? b=some o):qR T env ctx Z J h':=by
 have hl:env.locals∉wr:=fun hb=>hw _ hb (by simp [own])
 have hc:∀ x c,(x,c)∈env.cells->c∉wr:=fun x c hx hb=>hw c hb (by simp only [own,kad,kau];exact .inr ⟨(x,c),hx,rfl⟩)
 refine ⟨fr.nd,?_,fun i x hi hk'=>?_,fr.loneM,fr.apartM,fr.lfree,fun x c hx=>⟨(fr.cfreeM x c hx).1,?_⟩,fr.lbase,fr.cbaseM⟩
 ·obtain ⟨m,⟨o,es,ep,ho,r⟩,h2⟩:=fr.ns
  exact ⟨m,⟨o,es,ep,hk _ _ hl ho,r⟩,h2⟩
 ·obtain ⟨c,o,h1,⟨ob,e,dd⟩,h3⟩:=fr.cell i x hi hk'
  exact ⟨c,o,h1,⟨ob,hk _ _ (hc x c (mem_of_lookup h1)) e,dd⟩,h3⟩
 ·obtain ⟨o,ob,e,dd⟩:=(fr.cfreeM x c hx).2
  exact ⟨o,ob,hk _ _ (hc x c hx) e,dd⟩
theorem qR.forget{env Z Z' J h}(fr:qR T env ctx Z J h)(hZ:∀ i v,qz Z' i=some v->qz Z i=some v):qR T env ctx Z' J h:=by
 refine ⟨fr.nd,?_,fun i x hi hk=>?_,fr.loneM,fr.apartM,fr.lfree,fr.cfreeM,fr.lbase,fr.cbaseM⟩
 ·obtain ⟨m,hn,h2⟩:=fr.ns
  exact ⟨m,hn,fun i x v hi hk hv=>h2 i x v hi hk (hZ i v hv)⟩
 ·obtain ⟨c,o,h1,h2,h3⟩:=fr.cell i x hi hk
  exact ⟨c,o,h1,h2,fun v hv=>h3 v (hZ i v hv)⟩
theorem zkF{env Z J h}(fr:qR T env ctx Z J h):∀ b∈own env,∃ o,h.get? b=some o:=by
 intro b hb
 simp only [own,kad,kau] at hb
 rcases hb with rfl | ⟨⟨x,c⟩,hm,rfl⟩
 ·obtain ⟨m,⟨o,_,_,ho,_⟩,_⟩:=fr.ns;exact ⟨o,ho⟩
 ·obtain ⟨o,ob,e,_⟩:=(fr.cfreeM x c hm).2;exact ⟨ob,e⟩

inductive Tgt where
 | nm (i:Nat)
 | tup (is:List Nat)
noncomputable def zbO:zK->List Nat->List V->zK
 | Z,i::is,v::vs=>zbO (jP Z i v) is vs
 | Z,_,_=>Z
def zgF(t:Tgt)(v:V)(Z:zK)(J:zc)(k:zK->Prop):Prop:=match t with
 | .nm i=>k (jP Z i v)
 | .tup is=>v.asRef fun p=>zd4 J p fun xs=>xs.length=is.length/\k (zbO Z is xs)

inductive j3(sc:Scope)(ctx:List Str)(lo:Bool):List Expr->List Nat->Prop
 | nil:j3 sc ctx lo [] []
 | cons {x p i r is}:ctx[i]?=some x->zcu (sc.names.lookup x)=true->(lo=true->sc.names.lookup x=some .local)->j3 sc ctx lo r is->j3 sc ctx lo (.Name x p::r) (i::is)
theorem j3.length{lo es is}(h:j3 sc ctx lo es is):es.length=is.length:=by
 induction h with
 | nil=>rfl
 | cons _ _ _ _ ih=>exact congrArg Nat.succ ih
theorem j3.each{lo env es is}(h:j3 sc ctx lo es is):(assignEach es env).length=is.length/\(assignEach es env).findIdx? (·.1)=none:=by
 induction h with
 | nil=>exact ⟨rfl,rfl⟩
 | @cons x p i r is _ _ _ _ ih =>
  show ((false,assign (.Name x p) env)::assignEach r env).length=_/\List.findIdx? _ ((false,assign (.Name x p) env)::assignEach r env)=none
  refine ⟨congrArg Nat.succ ih.1,?_⟩
  rw [List.findIdx?_cons,ih.2];rfl
noncomputable def zq1(env:Env)(lo:Bool):List Addr:=if lo then [env.locals] else own env
theorem zmC{lo A E env Z J s}{x:Str}{i:Nat}{v:V}{u:Value}{Q:Unit->Shared->Prop}(eo:jm sc env)(st:St T J s)(fr:qR T env ctx Z J s.heap)(hx:ctx[i]?=some x)(hk:zcu (sc.names.lookup x)=true)(hlo:lo=true->sc.names.lookup x=some .local)(hv:VIs v u)
  (h:∀ s',St T J s'->qR T env ctx (jP Z i v) J s'.heap->zV T (zq1 env lo) J s J s'->Q () s'):wpAny T.M A (storeName env x u) Q E s :=
 zfs eo st fr hx hk hv fun s' a ha hl st' fr' p'=>h s' st' fr' (p'.weaken (by
  intro b hb
  simp at hb;subst hb
  unfold zq1
  cases lo with
  | false=>exact ha
  | true=>simp only [if_true,kac];exact hl.1 (hlo rfl)))
theorem zjg{lo A E env}(eo:jm sc env){es is}(hn:j3 sc ctx lo es is){Z J s vs us}{Q:Unit->Shared->Prop}(st:St T J s)(fr:qR T env ctx Z J s.heap)(hv:yf vs us)(hl:vs.length=is.length)
  (k:∀ s',St T J s'->qR T env ctx (zbO Z is vs) J s'.heap->zV T (zq1 env lo) J s J s'->Q () s'):wpAny T.M A (assignInOrder ((assignEach es env).map (·.2)) us) Q E s:=by
 induction hn generalizing Z s vs us with
 | nil =>
  cases hv with
  | nil=>exact wpAny_assignInOrder_none (k s st fr .refl)
  | cons _ _=>exact kcG hl
 | cons hx hk hlo h ih =>
  cases hv with
  | nil=>exact kcG hl
  | cons h1 h2 =>
   refine wpAny_assignInOrder_more (wpAny_assign_Name (zmC eo st fr hx hk hlo h1 fun sB st1 fr1 p1=>?_))
   exact ih st1 fr1 h2 (Nat.succ.inj hl) fun sM st2 fr2 p2=>k sM st2 fr2 (p1.trans p2)

inductive zl4(sc:Scope)(ctx:List Str)(lo:Bool):Expr->Tgt->Prop
 | nm {x p i}:ctx[i]?=some x->zcu (sc.names.lookup x)=true->(lo=true->sc.names.lookup x=some .local)->zl4 sc ctx lo (.Name x p) (.nm i)
 | tup {es k p is}:j3 sc ctx lo es is->zl4 sc ctx lo (.Tuple es k p) (.tup is)
theorem zne{lo A E env target t Z J s v u}{k:zK->Prop}{Q:Unit->Shared->Prop}(eo:jm sc env)(hh:A.handled=none)(ht:zl4 sc ctx lo target t)(st:St T J s)(fr:qR T env ctx Z J s.heap)(hv:VIs v u)(hw:zgF t v Z J k)
  (h:∀ s' Z',St T J s'->qR T env ctx Z' J s'.heap->zV T (zq1 env lo) J s J s'->k Z'->Q () s'):wpAny T.M A (assign target env u) Q E s:=by
 cases ht with
 | nm hx hk hlo=>exact wpAny_assign_Name (zmC eo st fr hx hk hlo hv fun s' st' fr' p'=>h s' _ st' fr' p' hw)
 | tup hn =>
  obtain ⟨p,hw2⟩:=V.asRef.get hw hv
  obtain ⟨xs,hx,hl,hw3⟩:=hw2.get
  obtain ⟨us,ht,hvs,hz,_⟩:=st.tup hx
  have he:=hn.each (env:=env)
  refine wpAny_assign_Tuple hh ht (by rw [he.1,hz,hl]) he.2 fun h' hx'=>?_
  have hk:∀ b o,s.heap.get? b=some o->h'.get? b=some o:=fun b o e=>hx' b o (kbd (ka3 e)) e
  have p0:zV T (zq1 env lo) J s J {s with heap:=h',toks:=s.toks}:=zV.refl.grow hk _
  refine zjg eo hn (st.grow hk s.toks) (fr.step (zV.refl.grow hk s.toks)) hvs hl fun s' st' fr' p'=>h s' _ st' fr' (p0.trans p') hw3

def zjE(is:List Nat)(a:EW):SW:=fun Z J K P=>a Z J (fun v J1=>zgF (.tup is) v Z J1 fun Z'=>K .next Z' J1) P
theorem zf9{es k tp e pos is}{a:EW}(hn:j3 sc ctx false es is)(h:zG T d sc ctx e a)
  (hs:∀ env,swapsWithSole [.Tuple es k tp] e pos.line env=pure false:=by intro _;rfl) (hw:∀ env,swappedStores [.Tuple es k tp] e env=pure none:=by intro _;rfl) (C:T.calm=none:=by assumption) :
  za0 T d sc ctx (.Assign [.Tuple es k tp] e pos) (zjE is a):=by
 intro A env Z J s K P eo ro st fr hq
 refine kat (Assign_Tuple (Q:=wS T env ctx J s K) (h.run eo ro st fr hq fun v u J1 sB hv st1 p1 fr1 hw1=>?_) (hs env) (hw env)) (fun _ _ x=>x) fun _ _ x=>x.any
 exact zne eo (ro.handled C) (.tup hn) st1 fr1 hv hw1 fun sM Z' st2 fr2 p2 hk=>⟨_,Z',J1,.next,st2,fr2,p1.any.trans p2,hk⟩

noncomputable def noP:Nat->zc->Prop:=fun _ _=>False
theorem jL.no{X J s e s'}(h:jL T X J s noP e s'):False:=let ⟨_,_,_,_,_,f⟩:=h;f
noncomputable def zjw(chk:zc->Prop)(t:Tgt)(b:SW):List V->zK->zc->(Out->zK->zc->Prop)->Prop
 | [],Z,J,K=>chk J/\K .next Z J
 | v::r,Z,J,K=>chk J/\zgF t v Z J fun Z'=>b Z' J (fun o Z'' J''=>match o with | .next=>zjw chk t b r Z'' J'' K | .ret u=>K (.ret u) Z'' J'') noP
def wO(t:Tgt)(src:zij)(b:SW):SW:=fun Z J K P=>src Z J (fun xs chk J1=>zjw chk t b xs Z J1 K) P
theorem zpe{xs:List V}{i:Nat}{x:V}{r:List V}(h:xs.drop i=x::r):xs[i]?=some x/\xs.drop (i+1)=r:=by
 constructor
 ·have:(xs.drop i)[0]?=some x:=by rw [h];rfl
  simpa using this
 ·have:(xs.drop i).drop 1=r:=by rw [h];rfl
  simpa using this
theorem jb{tg it body pos}{t:Tgt}{src:zij}{b:SW}(ht:zl4 sc ctx false tg t)(hs:zdM T d sc ctx it src)(hb:qP T d sc ctx body b)(C:T.calm=none:=by assumption):za0 T d sc ctx (.For tg it body [] pos) (wO t src b):=by
 intro A env Z J s K P eo ro st fr hw
 refine kat (wpAny_For (Q:=wS T env ctx J s K) (E:=jL T [] J s P) ?_ (hs.1 env)) (fun _ _ x=>x) fun _ _ x=>x.any
 refine kat (hs.2 A env Z J s _ P eo ro st fr hw) (fun x sB h₁=>kat h₁ (fun itv sM h₂=>?_) fun _ _ e=>e) fun _ _ e=>e
 obtain ⟨xs,chk,J2,I,wr,W,rfl,ite,w0,st2,p2,hwr,hl⟩:=h₂
 have fr2:=fr.step p2
 have hown:∀ b∈wr,b∉own env:=fun b hb ho=>by obtain ⟨o,e⟩:=zkF fr b ho;rw [(hwr b hb).2.2] at e;cases e
 refine codeAny_forLoop_any (fun n s'=>X3 fun i Z' J'=>A8 (n=xs.length+1 - i) (i<=xs.length) (W i s'.heap) (St T J' s') (qR T env ctx Z' J' s'.heap) (zV T (own env) J s J' s') ((∀ b∈wr,J' b=none)) (zjw chk t b (xs.drop i) Z' J' K)) ?_ (xs.length+1)
  ⟨0,Z,J2,rfl,kch _,w0,st2,fr2,p2.any,fun b hb=>(hwr b hb).1,by simpa using hl⟩
 rintro n s' ⟨i,Z',J',rfl,hi,w,st',fr',p',hf,hl⟩
 have hnf:∀ b∈wr,b∉frs T:=fun b hb=>st.notFr (hwr b hb).2.2
 have hwr':∀ b∈wr,J' b=none/\T.hb.get? b=none/\b∉frs T:=fun b hb=>⟨hf b hb,(hwr b hb).2.1,hnf b hb⟩
 have hs0:∀ b∈wr,s.heap.get? b=none:=fun b hb=>(hwr b hb).2.2
 cases hd:xs.drop i with
 | nil =>
  rw [hd] at hl
  have hlen:i=xs.length:=kc5 ‹_› (List.drop_eq_nil_iff.mp hd)
  subst hlen
  refine ite.done J' s' _ _ w st' hl.1 fun h' tk hk=>?_
  exact wpAny_execs_nil ⟨_,Z',J',.next,st'.off hwr' hk tk,fr'.off hown hk,p'.off hs0 hk tk,hl.2⟩
 | cons v r =>
  rw [hd] at hl
  obtain ⟨hx,hr⟩:=zpe hd
  have hlt:i<xs.length:=(kah.mp hx).1
  refine ite.item i v J' s' _ _ hx w st' hl.1 fun u h' tk hv w1 hk=>?_
  refine ite.lets (i+1) _ tg u _ _ w1 ?_
  refine zne eo (ro.handled C) ht (st'.off hwr' hk tk) (fr'.off hown hk) hv hl.2 fun sD Z3 st3 fr3 p3 hk3=>?_
  have w3:W (i+1) sD.heap:=ite.frame _ _ _ w1 fun b hb o e=>p3.keepX (.inl (hf b hb)) (hown b hb) (hnf b hb) e
  have p3':=(p'.off hs0 hk tk).trans p3
  refine kat (hb A env Z3 J' sD _ noP eo ro st3 fr3 hk3) (fun f sE h₄=>?_) fun _ _ x=>x.no.elim
  obtain ⟨o,Z4,J4,hfl,st4,fr4,p4,hk4⟩:=h₄
  cases hfl with
  | next =>
   refine ⟨xs.length+1 - (i+1),kcK (kbE hlt) (ka1 i),i+1,Z4,J4,rfl,hlt,?_,st4,fr4,p3'.trans p4,fun b hb=>?_,by rw [hr];exact hk4⟩
   ·exact ite.frame _ _ _ w3 fun b hb o e=>p4.keepX (.inl (hf b hb)) (hown b hb) (hnf b hb) e
   ·obtain ⟨o,e⟩:=ite.alive _ _ w3 b hb
    exact p4.free (hf b hb) e
  | ret hv=>exact ⟨_,Z4,J4,.ret hv,st4,fr4,p3'.trans p4,hk4⟩

noncomputable def zbL(c:EW)(b:SW):Nat->zK->zc->(Out->zK->zc->Prop)->Prop
 | 0,_,_,_=>False
 | n+1,Z,J,K=>c Z J (fun v J1=>v.asBool fun t=>if t then b Z J1 (fun o Z' J'=>match o with | .next=>zbL c b n Z' J' K | .ret u=>K (.ret u) Z' J') noP else K .next Z J1) noP
def zfr(c:EW)(b:SW):SW:=fun Z J K _=>∃ n,zbL c b n Z J K
theorem zdW{c body pos}{wc:EW}{b:SW}(hc:zcg T d sc ctx c wc)(hb:qP T d sc ctx body b):za0 T d sc ctx (.While c body [] pos) (zfr wc b):=by
 intro A env Z J s K P eo ro st fr hw
 obtain ⟨n,hw⟩:=hw
 refine wpAny_While ?_
 refine codeAny_whileLoop (fun n s'=>X2 fun Z' J'=>A4 (St T J' s') (qR T env ctx Z' J' s'.heap) (zV T (own env) J s J' s') (zbL wc b n Z' J' K)) ?_ n ⟨Z,J,st,fr,.refl,hw⟩
 rintro n s' ⟨Z',J',st',fr',p',hw⟩
 cases n with
 | zero=>exact hw.elim
 | succ n =>
  refine kat (hc.then eo ro .refl st' fr' hw (Q':=fun t sB=>∃ J1,St T J1 sB/\zV T [] J' s' J1 sB/\qR T env ctx Z' J1 sB.heap/\if t then _ else _) fun t J1 sB st1 p1 fr1 hw1=>⟨J1,st1,p1,fr1,hw1⟩) (fun t sB h1=>?_) fun _ _ x=>x.no.elim
  obtain ⟨J1,st1,p1,fr1,hw1⟩:=h1
  cases t
  ·exact wpAny_execs_nil ⟨_,Z',J1,.next,st1,fr1,p'.trans p1.any,hw1⟩
  ·refine kat (hb A env Z' J1 sB _ noP eo ro st1 fr1 hw1) (fun f sM h₂=>?_) fun _ _ x=>x.no.elim
   obtain ⟨o,Z2,J2,hfl,st2,fr2,p2,hk⟩:=h₂
   cases hfl with
   | next=>exact ⟨n,ka1 _,Z2,J2,st2,fr2,(p'.trans p1.any).trans p2,hk⟩
   | ret hv=>exact ⟨_,Z2,J2,.ret hv,st2,fr2,(p'.trans p1.any).trans p2,hk⟩
end
end Mine
end
section
open PySem
namespace Mine
open PySem.Calls PyProof.Rows

noncomputable def zbN:zK->Nat->zK
 | [],_=>[]
 | _::r,0=>none::r
 | o::r,i+1=>o::zbN r i
theorem w8(Z:zK)(i j:Nat)(u:V):qz (zbN Z i) j=some u->j≠i/\qz Z j=some u:=by
 induction Z generalizing i j with
 | nil=>exact fun h=>qE rfl h
 | cons o r ih =>
  cases i with
  | zero=>exact Nat.casesOn j (fun h=>qE rfl h) fun j h=>⟨kdL j,h⟩
  | succ i=>exact Nat.casesOn j (fun h=>⟨kcG,h⟩) fun j h=>⟨fun e=>(ih i j h).1 (Nat.succ.inj e),(ih i j h).2⟩
theorem zj5(Z:zK)(i:Nat)(v:V):jP (zbN Z i) i v=jP Z i v:=by
 induction Z generalizing i with
 | nil=>rfl
 | cons o r ih=>exact Nat.casesOn i rfl fun i=>congrArg (List.cons o) (ih i)
theorem zbB(Z:zK)(i j:Nat)(v u:V):j≠i->qz Z j=some u->qz (jP Z i v) j=some u:=by
 induction Z generalizing i j with
 | nil=>exact fun _ h=>h
 | cons o r ih =>
  cases i with
  | zero=>exact Nat.casesOn j (fun hn _=>absurd rfl hn) fun j _ h=>h
  | succ i=>exact Nat.casesOn j (fun _ h=>h) fun j hn h=>ih i j (fun e=>hn (congrArg Nat.succ e)) h

noncomputable def zbH(scope sc:Scope):Scope :=
 {scope with names:=scope.names.map fun (n,k)=>if (k==.free && sc.kind==.function && sc.names.lookup n==some .cell) then (n,.cell) else (n,k)}
theorem zmG{scope sc env}(eo:jm sc env):relabel scope env=zbH scope sc:=by
 obtain ⟨h,_,_,_⟩:=eo
 subst h;rfl

structure CompB(sc:Scope)(ctx:List Str)(scope:Scope):Prop where
 kind:scope.kind=.function
 nocell:∀ y∈scope.names,y.2≠.cell
 names:∀ y∈scope.names,y.2=.local->scope.names.lookup y.1=some .local
 free:∀ y∈scope.names,y.2=.free->zhH (sc.names.lookup y.1)=true/\sc.names.lookup y.1≠some .local/\∃ i:Nat,ctx[i]?=some y.1
structure zr3(sc:Scope)(ctx:List Str)(scope:Scope)(j:Nat)(x:Str):Prop extends CompB sc ctx scope where
 tgt:ctx[j]?=some x/\scope.names.lookup x=some .local
 onlyx:∀ y∈ctx,scope.names.lookup y=some .local->y=x

theorem zfh{f:Str->NameKind->NameKind}(l:List (Str × NameKind))(x:Str):(l.map fun (n,k)=>(n,f n k)).lookup x=(l.lookup x).map (f x):=by
 induction l with
 | nil=>rfl
 | cons y r ih =>
  rw [kbq,kbI,kbI,ih]
  by_cases h:x=y.1
  ·subst h;rw [beq_self_eq_true];rfl
  ·rw [beq_eq_false_iff_ne.mpr h]
theorem w7(scope sc:Scope)(x:Str):(zbH scope sc).names.lookup x=(scope.names.lookup x).map fun k=>if (k==.free && sc.kind==.function && sc.names.lookup x==some .cell) then .cell else k:=by
 have e:(zbH scope sc).names=scope.names.map fun (n,k)=>(n,if (k==.free && sc.kind==.function && sc.names.lookup n==some .cell) then NameKind.cell else k):=by
  unfold zbH
  simp only
  apply kbW
  rintro ⟨n,k⟩ _
  simp only
  split<;>rfl
 rw [e]
 exact zfh (f:=fun n k=>if (k==.free && sc.kind==.function && sc.names.lookup n==some .cell) then NameKind.cell else k) scope.names x

theorem zfL{α:Type}{l:List (Str × α)}{x:Str}{a:α}(h:(x,a)∈l):∃ b,l.lookup x=some b:=by
 induction l with
 | nil=>cases h
 | cons y r ih =>
  rw [kbI]
  cases e:x==y.1 with
  | true=>exact ⟨y.2,rfl⟩
  | false=>exact (kad.mp h).elim (fun h=>absurd (h▸rfl) (beq_eq_false_iff_ne.mp e)) ih
theorem ziN(env:Env)(f:Str × NameKind->List (Str × Addr)->Sem (ForInStep (List (Str × Addr))))(hf1:∀ n c r,env.cells.lookup n=some c->f (n,.free) r=pure (.yield ((n,c)::r)))(hf2:∀ n k r,k≠.free->f (n,k) r=pure (.yield r)) :
  ∀ (names:List (Str × NameKind)) (cs:List (Str × Addr)),(∀ y∈names,y.2=.free->∃ c,env.cells.lookup y.1=some c) ->
  ∃ cl,forIn names cs f=pure cl /\
   (∀ x c,(x,c)∈cl->(x,c)∈cs\/env.cells.lookup x=some c)/\(∀ x c,(x,c)∈cs->(x,c)∈cl)/\(∀ y∈names,y.2=.free->∃ c,(y.1,c)∈cl):=by
 intro names
 induction names with
 | nil=>exact fun cs _=>⟨cs,rfl,fun _ _ h=>.inl h,fun _ _ h=>h,fun _ h=>absurd h kay⟩
 | cons nk r ih =>
  obtain ⟨n,k⟩:=nk
  intro cs h
  by_cases hk:k=.free
  ·subst hk
   obtain ⟨c,hc⟩:=h (n,.free) (kaG ..) rfl
   obtain ⟨cl,e,h1,h2,h3⟩:=ih ((n,c)::cs) fun y hy=>h y (kar _ hy)
   refine ⟨cl,?_,fun x c' hx=>?_,fun x c' hx=>h2 x c' (kar _ hx),fun y hy hf=>?_⟩
   ·rw [kc3,hf1 n c cs hc,pure_bind]
    exact e
   ·rcases h1 x c' hx with h4 | h4
    ·rcases kad.mp h4 with h5 | h5
     ·cases h5;exact .inr hc
     ·exact .inl h5
    ·exact .inr h4
   ·rcases kad.mp hy with h4 | h4
    ·subst h4;exact ⟨c,h2 _ _ (kaG ..)⟩
    ·exact h3 y h4 hf
  ·obtain ⟨cl,e,h1,h2,h3⟩:=ih cs fun y hy=>h y (kar _ hy)
   refine ⟨cl,?_,h1,h2,fun y hy hf=>?_⟩
   ·rw [kc3,hf2 n k cs hk,pure_bind]
    exact e
   ·rcases kad.mp hy with h4 | h4
    ·subst h4;exact absurd hf hk
    ·exact h3 y h4 hf
theorem zgC{scope:Scope}{env:Env}(h:∀ y∈scope.names,y.2=.free->∃ c,env.cells.lookup y.1=some c) :
  ∃ cl,closureFor scope env=pure cl/\(∀ x c,(x,c)∈cl->env.cells.lookup x=some c)/\(∀ y∈scope.names,y.2=.free->∃ c,cl.lookup y.1=some c):=by
 obtain ⟨cl,e,h1,h2,h3⟩:=ziN env (fun (x:Str × NameKind) r=>if (x.2==.free)=true then (do let a <-cellOf env x.1;pure (ForInStep.yield ((x.1,a)::r))) else pure (ForInStep.yield r))
  (fun n c r hc=>by simp [cellOf,hc]) (fun n k r hk=>by simp [hk]) scope.names [] h
 refine ⟨cl,?_,fun x c hx=>?_,fun y hy hf=>?_⟩
 ·simp only [closureFor]
  rw [<-e]
  simp only [bind_pure]
 ·rcases h1 x c hx with h4 | h4
  ·simp at h4
  ·exact h4
 ·obtain ⟨c,hc⟩:=h3 y hy hf
  exact zfL hc

section
variable {T:TC} {d:Nat} {sc:Scope} {ctx:List Str}

theorem zgB{env Z Z' J scope cl C}{h:Heap}(eo:jm sc env)(fr:qR T env ctx Z J h)(co:CompB sc ctx scope)(hZ:∀ i y v,ctx[i]?=some y->qz Z' i=some v->qz Z i=some v/\scope.names.lookup y≠some .local)(h1:∀ x c,(x,c)∈cl->env.cells.lookup x=some c)(h2:∀ y∈scope.names,y.2=.free->∃ c,cl.lookup y.1=some c)
  (hC:J C=none) (hCb:T.hb.get? C=none) {h':Heap} (hk:∀ b o,h.get? b=some o->h'.get? b=some o) (hCn:h.get? C=none) (hns:h'.Ns C fun _=>none) :
  qR T (compEnvC scope cl C env) ctx Z' J h'/\jm (zbH scope sc) (compEnvC scope cl C env):=by
 have eo':jm (zbH scope sc) (compEnvC scope cl C env):=⟨zmG eo,co.kind,eo.globals,eo.builtins⟩
 have hcl:∀ y c,(y,c)∈cl->∃ o,h.IsCell c o/\J c=none/\T.hb.get? c=none:=fun y c hy=>by
  have:=h1 y c hy
  obtain ⟨a,o,b⟩:=fr.cfree y c this
  exact ⟨o,b,a,fr.cbase y c this⟩
 refine ⟨⟨fr.nd,⟨_,hns,fun i y v hi hy hv=>?_⟩,fun i y hi hy=>?_,fun y z c hy hz=>fr.lone y z c (h1 y c hy) (h1 z c hz),fun y c hy=>?_,hC,fun y c hy=>?_,hCb,fun y c hy=>?_⟩,eo'⟩
 ·rw [eo'.kindOf,w7] at hy
  cases hq:scope.names.lookup y with
  | none=>rw [hq] at hy;cases hy
  | some kd =>
   rw [hq] at hy
   have hkd:kd=.local:=by
    simp only [kcB,Option.some.injEq] at hy
    split at hy
    ·cases hy
    ·exact hy
   subst hkd
   exact absurd hq (hZ i y v hi hv).2
 ·rw [eo'.kindOf,w7] at hy
  cases hq:scope.names.lookup y with
  | none=>rw [hq] at hy;rcases hy with hy | hy<;>cases hy
  | some kd =>
   rw [hq] at hy
   have hm:(y,kd)∈scope.names:=mem_of_lookup hq
   have hkd:kd=.free:=by
    simp only [kcB,Option.some.injEq] at hy
    split at hy
    ·rename_i hc;simp only [kaJ,beq_iff_eq] at hc;exact hc.1.1
    ·rcases hy with hy | hy
     ·exact absurd hy (co.nocell _ hm)
     ·exact hy
   subst hkd
   obtain ⟨hl,hnl,i',hi'⟩:=co.free _ hm rfl
   have hk0:env.kindOf y=some .cell\/env.kindOf y=some .free:=by
    rw [eo.kindOf]
    cases hz:sc.names.lookup y with
    | none=>rw [hz] at hl;cases hl
    | some kk =>
     rw [hz] at hl hnl
     cases kk<;>first | (cases hl;done) | exact absurd rfl hnl | exact .inl rfl | exact .inr rfl
   obtain ⟨c,o,g1,g2,g3⟩:=fr.cell i y hi hk0
   obtain ⟨c',hc'⟩:=h2 _ hm rfl
   have:=h1 y c' (mem_of_lookup hc')
   rw [g1] at this;cases this
   exact ⟨c,o,hc',g2.keeps hk,fun v hv=>g3 v (hZ i y v hi hv).1⟩
 ·obtain ⟨o,⟨ob,e,_⟩,_⟩:=hcl y c hy
  rintro rfl
  rw [hCn] at e;cases e
 ·obtain ⟨o,a,b,_⟩:=hcl y c hy
  exact ⟨b,o,a.keeps hk⟩
 ·obtain ⟨o,a,b,c'⟩:=hcl y c hy
  exact c'

def zc1(T:TC)(d:Nat)(sc:Scope)(ctx:List Str)(ifs:List Expr)(c:Option EW):Prop :=
 match ifs,c with
 | [],none=>True
 | [e],some w=>zcg T d sc ctx e w
 | _,_=>False
def zgA(c:Option EW)(Z:zK)(J:zc)(k:Bool->zc->Prop):Prop:=match c with
 | none=>k true J
 | some w=>w Z J (fun v J1=>v.asBool fun b=>k b J1) noP
theorem ztP{A E env Z J s ifs c}{k:Bool->zc->Prop}{Q:Bool->Shared->Prop}(hi:zc1 T d sc ctx ifs c)(eo:jm sc env)(ro:zag T A d)(st:St T J s)(fr:qR T env ctx Z J s.heap)(hw:zgA c Z J k)
  (h:∀ b J' s',St T J' s'->zV T [] J s J' s'->qR T env ctx Z J' s'.heap->k b J'->Q b s') :
  wpAny T.M A (forIn ifs true fun c r=>if r=true then do let ok <-isTrue c env (eval c env);pure (ForInStep.yield ok) else pure (ForInStep.yield r)) Q E s:=by
 unfold zc1 at hi
 split at hi
 ·rw [kc7];exact kaC (h true J s st .refl fr hw)
 ·rename_i e w
  rw [kc3]
  refine kag (kag ?_)
  refine kat (hi.then eo ro .refl st fr (P:=noP) hw fun b J' s' st' p' fr' hk=>?_) (fun _ _ x=>x) fun _ _ x=>x.no.elim
  refine kaC ?_
  show wpAny _ _ (forIn [] b _) Q E s'
  rw [kc7]
  exact kaC (h b J' s' st' p' fr' hk)
 ·exact hi.elim

noncomputable def zaZ(chk:zc->Prop)(j:Nat)(c:Option EW)(e:EW)(Z:zK):List V->List V->zc->(V->zc->Prop)->Prop
 | [],acc,J,Q=>chk J/\yT (.list acc) J Q
 | v::r,acc,J,Q=>chk J/\zgA c (jP Z j v) J fun b J1=>if b then e (jP Z j v) J1 (fun u J2=>zaZ chk j c e Z r (acc++[u]) J2 Q) noP else zaZ chk j c e Z r acc J1 Q
def qU(j:Nat)(src:zij)(c:Option EW)(e:EW):EW:=fun Z J Q P=>src Z J (fun xs chk J1=>xs.length<=lim/\zaZ chk j c e Z xs [] J1 Q) P

noncomputable def zaR{α:Type}(chk:zc->Prop)(bd:α->zK)(c:Option EW)(e:EW):List α->List V->zc->(V->zc->Prop)->Prop
 | [],acc,J,Q=>chk J/\yT (.list acc) J Q
 | v::r,acc,J,Q=>chk J/\zgA c (bd v) J fun b J1=>if b then e (bd v) J1 (fun u J2=>zaR chk bd c e r (acc++[u]) J2 Q) noP else zaR chk bd c e r acc J1 Q
theorem zrq(chk:zc->Prop)(j:Nat)(c:Option EW)(e:EW)(Z:zK):∀ (xs acc:List V) (J:zc) (Q:V->zc->Prop),zaZ chk j c e Z xs acc J Q=zaR chk (jP Z j) c e xs acc J Q:=by
 intro r_
 induction r_ with
 | nil =>
  intro _ _ _
  exact rfl
 | cons v r ih_ =>
  intro acc J Q
  show (chk J/\zgA c (jP Z j v) J fun b J1=>if b then e (jP Z j v) J1 (fun u J2=>zaZ chk j c e Z r (acc++[u]) J2 Q) noP else zaZ chk j c e Z r acc J1 Q)=_
  have h:∀ acc J Q,zaZ chk j c e Z r acc J Q=zaR chk (jP Z j) c e r acc J Q:=fun acc J Q=>ih_ acc J Q
  simp only [h]
  rfl
structure zsW{α:Type}(T:TC)(A:Around)(ctx:List Str)(cenv:Env)(Z0:zK)(bd:α->zK)(target:Expr)(xs:List α)(chk:zc->Prop)(I D:Addr)(X:List Addr)(W:Nat->Heap->Prop):Prop where
 item:∀ i a J' s' (K:Shared->Prop) E,xs[i]?=some a->W i s'.heap->St T J' s'->qR T cenv ctx Z0 J' s'.heap->(∀ b∈X,J' b=none)->chk J' ->
  (∀ sD,St T J' sD->qR T cenv ctx (bd a) J' sD.heap->zV T X J' s' J' sD->W (i+1) sD.heap->K sD) ->
  wpAny T.M A (pyNext (.ref I)) (fun r sB=>match r with | none=>False | some v=>wpAny T.M A (letOwnedTupleGo target (.ref I) v) (fun _ sM=>wpAny T.M A (assign target cenv v) (fun _ sD=>K sD) E sM) E sB) E s'
 last:∀ J' s' (K:Shared->Prop) E,W xs.length s'.heap->St T J' s'->qR T cenv ctx Z0 J' s'.heap->(∀ b∈X,J' b=none)->chk J' ->
  (∀ h tk,St T J' {s' with heap:=h,toks:=tk}->qR T cenv ctx Z0 J' h->(∀ b o,b∉X->s'.heap.get? b=some o->h.get? b=some o)->K {s' with heap:=h,toks:=tk})->wpAny T.M A (pyNext (.ref I)) (fun r sB=>match r with | none=>K sB | some _=>False) E s'
 keep:∀ i h h',W i h->(∀ b o,b∈X->h.get? b=some o->h'.get? b=some o)->W i h'
 live:∀ i h,W i h->∀ b∈X,b∉own cenv->∃ o,h.get? b=some o
inductive zr5{α:Type}(T:TC)(ctx:List Str)(cenv:Env)(Z0:zK)(bd:α->zK)(chk:zc->Prop)(c:Option EW)(we:EW)(xs:List α)(D:Addr)(X:List Addr)(W:Nat->Heap->Prop)(J:zc)(s:Shared)(Q:V->zc->Prop)(i:Nat)(s':Shared):Prop
 | mk (J' us nn vs) (h1:W i s'.heap) (h2:St T J' s') (h3:zV T [] J s J' s') (h4:qR T cenv ctx Z0 J' s'.heap) (h5:∀ b∈X,J' b=none/\∃ o,s'.heap.get? b=some o) (h6:J' D=none) (h7:IsL s'.heap D us nn) (h8:yf vs us.toList) (h9:vs.length<=i) (h10:zaR chk bd c we (xs.drop i) vs J' Q):zr5 T ctx cenv Z0 bd chk c we xs D X W J s Q i s'
theorem zid{α:Type}{A:Around}{cenv:Env}{Z0:zK}{bd:α->zK}{J J2:zc}{s sM:Shared}{target iter:Expr}{ifs:List Expr}{scope:Scope}{pos:Pos}{elt:Expr}{xs:List α}{chk:zc->Prop}{I D:Addr}{X:List Addr}{W:Nat->Heap->Prop}{c:Option EW}{we:EW}{Q:V->zc->Prop}{R:Result->Shared->Prop}
  (hif:zc1 T d sc ctx ifs c) (hel:zG T d sc ctx elt we) (eoc:jm sc cenv) (ro:zag T A d) (hd:zsW T A ctx cenv Z0 bd target xs chk I D X W)
  (hforget:∀ a i w,qz Z0 i=some w->qz (bd a) i=some w) (hXs:∀ b∈X,s.heap.get? b=none/\b∉frs T) (hXl:∀ b∈X,∃ o,sM.heap.get? b=some o) (hDX:D∉X) (hDF:D∉frs T) (hDs:s.heap.get? D=none) (hDb:T.hb.get? D=none) (hDsys:(D==sysModules)=false) (hDown:D∉own cenv)
  (st2:St T J2 sM) (p2:zV T [] J s J2 sM) (fr2:qR T cenv ctx Z0 J2 sM.heap) (w0:W 0 sM.heap) (hX2:∀ b∈X,J2 b=none) (hD2:J2 D=none) (hDo:IsL sM.heap D #[] 0) (hlim:xs.length<=lim) (hl:zaR chk bd c we xs [] J2 Q)
  (fin:∀ J' s' m,St T J' s'->zV T [] J s J' s'->s'.heap.Ns cenv.locals m->J' cenv.locals=none->Q (.ref D) J'->R (.ok .next) s') :
  codeAny T.M A (.compLoop (.ListComp elt [⟨target,iter,ifs,0⟩] scope pos) 0 (.ref I) (.ref D) cenv) R sM:=by
 have offX:∀ {J':zc} {s' sD:Shared},zV T [] J s J' s'->zV T X J' s' J' sD->zV T [] J s J' sD:=fun {J' s' sD} p q=>by
  have pc:zV T X J s J' sD:=(p.weaken (by simp)).trans q
  exact ⟨fun b o hf _ e=>pc.keep b o hf (fun hx=>by rw [(hXs b hx).1] at e;cases e) e,pc.live,pc.mono,pc.new⟩
 have keepD:∀ {J':zc} {s' sD:Shared} {us nn},J' D=none->zV T X J' s' J' sD->IsL s'.heap D us nn->IsL sD.heap D us nn:=fun {J' s' sD us nn} h q e=>q.keepX (.inl h) hDX hDF e
 refine codeAny_loop rfl (fun n s'=>∃ i,A3 (n=xs.length+1 - i) (i<=xs.length) (zr5 T ctx cenv Z0 bd chk c we xs D X W J s Q i s')) ?_ (xs.length+1) ⟨0,rfl,kch _,J2,#[],0,[],w0,st2,p2,fr2,fun b hb=>⟨hX2 b hb,hXl b hb⟩,hD2,hDo,.nil,kaB _,by simpa using hl⟩
 rintro n s' ⟨i,rfl,hi,J',us,nn,vs,w,st',p',fr',hX',hDJ,hDo',hvs,hlen,hl'⟩
 show wpAny _ A ((compTurn (.ListComp elt [⟨target,iter,ifs,0⟩] scope pos) 0 (.ref I) (.ref D) cenv).onRaise (fun x=>do noteFrame x cenv;theTreesLotGoes x)) _ _ s'
 refine wpAny_noted ?_
 rw [compTurn_list]
 refine kag (wpAny_standAt (kag ?_))
 cases hdr:xs.drop i with
 | nil =>
  rw [hdr] at hl'
  have hlen':i=xs.length:=by have:=congrArg List.length hdr;simp at this;lia
  subst hlen'
  refine kat (hd.last J' s' (fun sD=>R (.ok .next) sD) _ w st' fr' (fun b hb=>(hX' b hb).1) hl'.1 fun h tk st3 fr3 q3=>?_) (fun r sD h₃=>?_) fun _ _ e=>e
  ·have hDo3:IsL h D us nn:=q3 _ _ hDX hDo'
   have p3:=p'.off (wr:=X) (fun b hb=>(hXs b hb).1) q3 tk
   obtain ⟨m,hn,_⟩:=fr3.ns
   refine fin (put J' D (.list vs)) _ m ?_ ?_ hn ?_ (hl'.2 D hDJ)
   ·exact st3.adopt hDF hDJ hDb hDsys ⟨rfl,fun _ _=>rfl⟩ hDo3 (so:=.list vs) ⟨by exact kai ‹_› ‹_›,us,nn,rfl,hvs⟩ tk
   ·exact p3.adopt hDs ⟨rfl,fun _ _=>rfl⟩ hDo3 (.list vs) tk
   ·rw [zO _ (fun e=>hDown (by rw [<-e];exact kaG ..))];exact fr3.lfree
  ·cases r with
   | none=>exact kaC h₃
   | some _=>exact h₃.elim
 | cons a r =>
  rw [hdr] at hl'
  obtain ⟨hx,hr⟩:xs[i]?=some a/\xs.drop (i+1)=r:=by
   have h1:=List.getElem?_drop (xs:=xs) (i:=i) (j:=0)
   rw [hdr] at h1
   refine ⟨by simpa using h1.symm,?_⟩
   rw [<-List.drop_drop,hdr];rfl
  have hlt:i<xs.length:=(kah.mp hx).1
  refine kat (hd.item i a J' s' (fun sD=>wpAny T.M A (forIn ifs true fun c r=>if r=true then do let ok <-isTrue c cenv (eval c cenv);pure (ForInStep.yield ok) else pure (ForInStep.yield r)) (fun ok sE =>
    if ok=true then wpAny T.M A (eval elt cenv) (fun x s5=>wpAny T.M A (call (.builtin "list.append") [.ref D,x]) (fun _ s6=>zr5 T ctx cenv Z0 bd chk c we xs D X W J s Q (i+1) s6)
     (notedBy T.M A cenv fun e s'=>R (.error e) s') s5) (notedBy T.M A cenv fun e s'=>R (.error e) s') sE
    else zr5 T ctx cenv Z0 bd chk c we xs D X W J s Q (i+1) sE) (notedBy T.M A cenv fun e s'=>R (.error e) s') sD) _ hx w st' fr' (fun b hb=>(hX' b hb).1) hl'.1 fun sD st3 fr3 q3 w3=>?_) (fun r' sB h₁=>?_) fun _ _ e=>e
  ·have hDo3:=keepD hDJ q3 hDo'
   have p3:=offX p' q3
   have hX3:∀ b∈X,J' b=none/\∃ o,sD.heap.get? b=some o:=fun b hb=>⟨(hX' b hb).1,let ⟨o,e⟩:=(hX' b hb).2;q3.live b o e⟩
   have stepX:∀ {J4:zc} {sE:Shared} {J5:zc} {s5:Shared},(∀ b∈X,J4 b=none/\∃ o,sE.heap.get? b=some o)->zV T [] J4 sE J5 s5->(∀ b∈X,J5 b=none/\∃ o,s5.heap.get? b=some o):=fun {J4 sE J5 s5} h q b hb=>by
    obtain ⟨h1,o,e⟩:=h b hb
    exact ⟨q.free h1 e,q.live b o e⟩
   have stepW:∀ {J4:zc} {sE:Shared} {J5:zc} {s5:Shared} {k},(∀ b∈X,J4 b=none/\∃ o,sE.heap.get? b=some o)->zV T [] J4 sE J5 s5->W k sE.heap->W k s5.heap:=fun {J4 sE J5 s5 k} h q w=>hd.keep _ _ _ w fun b o hb e=>q.keepX (.inl (h b hb).1) (by simp) (hXs b hb).2 e
   refine ztP hif eoc ro st3 fr3 hl'.2 fun b J4 sE st4 p4 fr4 hk4=>?_
   have hX4:=stepX hX3 p4
   have w4:=stepW hX3 p4 w3
   have hDo4:IsL sE.heap D us nn:=p4.keepX (.inl hDJ) (by simp) hDF hDo3
   have hD4:J4 D=none:=p4.free hDJ hDo3
   cases b with
   | false =>
    simp only [kak,if_false] at hk4 ⊢
    exact ⟨J4,us,nn,vs,w4,st4,p3.trans p4,fr4.forget (hforget a),hX4,hD4,hDo4,hvs,by exact leN (lin r2 V0 (.add V1 N1) [(0,1,V0,V1)] rfl (leI hlen)),by rw [hr];exact hk4⟩
   | true =>
    simp only [if_true] at hk4 ⊢
    refine kat (hel.run eoc ro st4 fr4 hk4 (Q':=fun y s5=>∃ v' J5,VIs v' y/\St T J5 s5/\zV T [] J4 sE J5 s5/\qR T cenv ctx (bd a) J5 s5.heap/\zaR chk bd c we r (vs++[v']) J5 Q) fun v' y J5 s5 hv' st5 p5 fr5 hk5=>⟨v',J5,hv',st5,p5,fr5,hk5⟩) (fun y s5 h₅=>?_) fun _ _ x=>x.no.elim
    obtain ⟨v',J5,hv',st5,p5,fr5,hk5⟩:=h₅
    have hDo5:IsL s5.heap D us nn:=p5.keepX (.inl hD4) (by simp) hDF hDo4
    have hD5:J5 D=none:=p5.free hD4 hDo4
    have hX5:=stepX hX4 p5
    have w5:=stepW hX4 p5 w4
    have hz:us.size=vs.length:=by have:=hvs.length;simpa using this
    refine call_meets F.slot_list_append ⟨_,hDo5,rfl⟩ F.entry_list_append (F.args_list_append_2 _ _) (AutoListH.list_append_list_val_0 D us nn y (by rw [hz];have:=wM;exact leN (lin r5 V0 V1 [(0,1,V2,V3),(0,1,V0,V4),(1,1,V4,V2),(0,1,V3,V1)] rfl (leI hlim) (leI hlen) (ltI hlt) (leI this)))) ⟨hDo5,?_⟩
    have ho':=IsL.update hDo5 (fun x=>x.push y)
    have hoff:∀ b o,b∉[D]->s5.heap.get? b=some o->(s5.heap.update D (Obj.mapSeq fun x=>x.push y)).get? b=some o:=fun b o hb e=>(kaU _ _ (by simp at hb;exact Ne.symm hb)).trans e
    have hneD:∀ b∈X,b∉[D]:=fun b hb h=>hDX (by rw [<-kac.mp h];exact hb)
    refine ⟨J5,us.push y,_,vs++[v'],hd.keep _ _ _ w5 fun b o hb e=>hoff b o (hneD b hb) e,st5.off (wr:=[D]) (by simp;exact ⟨hD5,hDb,hDF⟩) hoff s5.toks,((p3.trans p4).trans p5).off (wr:=[D]) (by simp;exact hDs) hoff s5.toks,
     (fr5.forget (hforget a)).off (wr:=[D]) (by simpa using hDown) hoff,fun b hb=>⟨(hX5 b hb).1,let ⟨o,e⟩:=(hX5 b hb).2;⟨o,hoff b o (hneD b hb) e⟩⟩,hD5,ho',by simpa using hvs.append (.cons hv' .nil),by simp;assumption,by rw [hr];exact hk5⟩
  ·cases r' with
   | none=>exact h₁.elim
   | some v =>
    refine kag (kat h₁ (fun _ sM h₂=>kag (kat h₂ (fun _ sD h₃=>kag (kat h₃ (fun ok sE h₄=>?_) fun _ _ h'=>h')) fun _ _ h'=>h')) fun _ _ h'=>h')
    cases ok with
    | false =>
     exact kaC ⟨rfl,xs.length+1 - (i+1),by lia,i+1,rfl,hlt,h₄⟩
    | true =>
     exact kag (kag (kat h₄ (fun x s5 h₅=>kag (kat h₅ (fun _ s6 h₆=>kaC (kaC ⟨rfl,xs.length+1 - (i+1),by lia,i+1,rfl,hlt,h₆⟩)) fun _ _ h'=>h')) fun _ _ h'=>h'))
theorem znL{A:Around}{cenv:Env}{Z:zK}{j:Nat}{x:Str}{px:Pos}{xs:List V}{chk:zc->Prop}{I D Wa:Addr}{wr:List Addr}{W:Nat->Heap->Prop}(eoc:jm sc cenv)(hx:ctx[j]?=some x)(hk:zcu (sc.names.lookup x)=true)
  (hWa:(sc.names.lookup x=some .local/\Wa=cenv.locals)\/(sc.names.lookup x=some .cell/\cenv.cells.lookup x=some Wa)) (ite:zl7 T A I wr xs chk W) (hwr:∀ b∈wr,T.hb.get? b=none/\b∉frs T) (hown:∀ b∈wr,b∉own cenv) :
  zsW T A ctx cenv (zbN Z j) (jP Z j) (.Name x px) xs chk I D (Wa::wr) W:=by
 have hWo:Wa∈own cenv:=by
  rcases hWa with ⟨_,e⟩ | ⟨_,e⟩
  ·rw [e];exact kaG ..
  ·exact kar _ (kau.mpr ⟨(x,Wa),mem_of_lookup e,rfl⟩)
 have hWw:Wa∉wr:=fun h=>hown _ h hWo
 refine ⟨fun i a J' s' K E hi w st' fr' hX ck k=>?_,fun J' s' K E w st' fr' hX ck k=>?_,fun i h h' w hk=>ite.frame i h h' w fun b hb o e=>hk b o (kar _ hb) e,fun i h w b hb hno=>?_⟩
 ·have hf:∀ b∈wr,J' b=none:=fun b hb=>hX b (kar _ hb)
  refine ite.item i a J' s' _ _ hi w st' ck fun u h' tk hv w1 hk'=>?_
  refine wpAny_of_eq (show letOwnedTupleGo (.Name x px) (.ref I) u=pure () from rfl) ?_
  refine wpAny_assign_Name (zfs eoc (st'.off (fun b hb=>⟨hf b hb,hwr b hb⟩) hk' tk) (fr'.off hown hk') hx hk hv fun sD b hb hl st3 fr3 p3=>?_)
  have hbW:b=Wa:=by
   rcases hWa with ⟨e1,e2⟩ | ⟨e1,e2⟩
   ·rw [hl.1 e1,e2]
   ·have:=hl.2 e1;rw [e2] at this;exact (Option.some.inj this).symm
  subst hbW
  rw [zj5] at fr3
  refine k sD st3 fr3 ?_ (ite.frame _ _ _ w1 fun b' hb' o e=>p3.keepX (.inl (hf b' hb')) (fun h=>hWw (by rw [<-kac.mp h];exact hb')) (hwr b' hb').2 e)
  refine zV.trans (J1:=J') (sB:={s' with heap:=h',toks:=tk}) ⟨fun c o hfc hc e=>⟨o,hk' c o (fun h=>hc (kar _ h)) e,.inl rfl⟩,fun c o e=>?_,fun c h=>h,fun c h h'=>by simp [h] at h'⟩ (p3.weaken (by intro c hc;rw [kac.mp hc];exact kaG ..))
  by_cases hc:c∈wr
  ·exact ite.alive _ _ w1 c hc
  ·exact ⟨o,hk' c o hc e⟩
 ·have hf:∀ b∈wr,J' b=none:=fun b hb=>hX b (kar _ hb)
  exact ite.done J' s' _ _ w st' ck fun h' tk hk'=>k h' tk (st'.off (fun b hb=>⟨hf b hb,hwr b hb⟩) hk' tk) (fr'.off hown hk') fun b o hb e=>hk' b o (fun h=>hb (kar _ h)) e
 ·rcases kad.mp hb with h | h
  ·rw [h] at hno;exact absurd hWo hno
  ·exact ite.alive i _ w b h
structure zjm(sc:Scope)(ctx:List Str)(scope:Scope)(j:Nat)(x:Str):Prop where
 kind:scope.kind=.function
 names:∀ y∈scope.names,y.2=.local->scope.names.lookup y.1=some .local
 one:∀ (L:Addr) (cl:List (Str × Addr)),cellsFrom L scope.names cl=(x,L)::cl
 tgt:ctx[j]?=some x/\scope.names.lookup x=some .cell
 free:∀ y∈scope.names,y.2=.free->y.1≠x/\zhH (sc.names.lookup y.1)=true/\sc.names.lookup y.1≠some .local/\∃ i:Nat,ctx[i]?=some y.1
 other:∀ y∈ctx,∀ k,scope.names.lookup y=some k->k=.free\/y=x/\k=.cell\/(k≠.local/\k≠.cell/\k≠.free)
abbrev yX(sc:Scope)(ctx:List Str)(scope:Scope)(j:Nat)(x:Str):Prop:=zr3 sc ctx scope j x\/zjm sc ctx scope j x
theorem yX.kind{sc ctx scope j x}:yX sc ctx scope j x->scope.kind=.function
 | .inl h=>h.kind
 | .inr h=>h.kind
theorem yX.names{sc ctx scope j x}:yX sc ctx scope j x->∀ y∈scope.names,y.2=.local->scope.names.lookup y.1=some .local
 | .inl h=>h.names
 | .inr h=>h.names
theorem yX.free{sc ctx scope j x}:yX sc ctx scope j x->∀ y∈scope.names,y.2=.free->zhH (sc.names.lookup y.1)=true/\sc.names.lookup y.1≠some .local/\∃ i:Nat,ctx[i]?=some y.1
 | .inl h=>h.free
 | .inr h=>fun y hy hf=>(h.free y hy hf).2
theorem zki{env Z J scope j x cl C K}{h:Heap}(eo:jm sc env)(fr:qR T env ctx Z J h)(co:zjm sc ctx scope j x)(h1:∀ x c,(x,c)∈cl->env.cells.lookup x=some c)(h2:∀ y∈scope.names,y.2=.free->∃ c,cl.lookup y.1=some c)
  (hC:J C=none) (hCb:T.hb.get? C=none) (hK:J K=none) (hKb:T.hb.get? K=none) (hKC:K≠C) {h':Heap} (hk:∀ b o,h.get? b=some o->h'.get? b=some o) (hCn:h.get? C=none) (hKn:h.get? K=none) (hns:h'.Ns C fun _=>none) (hcell:h'.IsCell K none) :
  qR T (compEnvC scope ((x,K)::cl) C env) ctx (zbN Z j) J h'/\jm (zbH scope sc) (compEnvC scope ((x,K)::cl) C env):=by
 have eo':jm (zbH scope sc) (compEnvC scope ((x,K)::cl) C env):=⟨zmG eo,co.kind,eo.globals,eo.builtins⟩
 have hcl:∀ y c,(y,c)∈cl->∃ o,h.IsCell c o/\J c=none/\T.hb.get? c=none:=fun y c hy=>by
  have:=h1 y c hy
  obtain ⟨a,o,b⟩:=fr.cfree y c this
  exact ⟨o,b,a,fr.cbase y c this⟩
 have hclK:∀ y c,(y,c)∈cl->c≠K:=fun y c hy e=>by
  obtain ⟨o,⟨ob,e1,_⟩,_⟩:=hcl y c hy
  rw [e,hKn] at e1;cases e1
 have kinds:∀ i y k,ctx[i]?=some y->(compEnvC scope ((x,K)::cl) C env).kindOf y=some k->(k=.local->False)/\(k=.cell\/k=.free->y=x\/y≠x/\(y,NameKind.free)∈scope.names):=fun i y k hi hy=>by
  rw [eo'.kindOf,w7] at hy
  cases hq:scope.names.lookup y with
  | none=>rw [hq] at hy;cases hy
  | some kd =>
   rw [hq] at hy
   simp only [kcB,Option.some.injEq] at hy
   have ho:=co.other y (kao hi) kd hq
   rcases ho with e | ⟨e1,e2⟩ | ⟨e1,e2,e3⟩
   ·subst e
    refine ⟨fun hl=>?_,fun _=>.inr ⟨(co.free (y,.free) (mem_of_lookup hq) rfl).1,mem_of_lookup hq⟩⟩
    split at hy
    ·rw [hl] at hy;cases hy
    ·rw [hl] at hy;cases hy
   ·subst e2
    refine ⟨fun hl=>?_,fun _=>.inl e1⟩
    rw [hl] at hy;simp at hy
   ·have hy':kd=k:=by
     have:(kd==NameKind.free)=false:=by cases kd<;>first | rfl | exact absurd rfl e3
     rw [this] at hy;simpa using hy
    subst hy'
    exact ⟨fun hl=>e1 hl,fun h=>by rcases h with h | h;exact absurd h e2;exact absurd h e3⟩
 refine ⟨⟨fr.nd,⟨_,hns,fun i y v hi hy hv=>((kinds i y _ hi hy).1 rfl).elim⟩,fun i y hi hy=>?_,fun y z c hy hz=>?_,fun y c hy=>?_,hC,fun y c hy=>?_,hCb,fun y c hy=>?_⟩,eo'⟩
 ·have hor:y=x\/y≠x/\(y,NameKind.free)∈scope.names:=by
   rcases hy with hy | hy
   ·exact (kinds i y _ hi hy).2 (.inl rfl)
   ·exact (kinds i y _ hi hy).2 (.inr rfl)
  rcases hor with rfl | ⟨hne,hm⟩
  ·refine ⟨K,none,by show List.lookup y ((y,K)::cl)=_;simp [kbI],hcell,fun v hv=>?_⟩
   have:=(w8 _ _ _ _ hv).1
   exact absurd (zgy fr.nd hi co.tgt.1) this
  ·obtain ⟨_,hl,hnl,i',hi'⟩:=co.free _ hm rfl
   have hk0:env.kindOf y=some .cell\/env.kindOf y=some .free:=by
    rw [eo.kindOf]
    cases hz:sc.names.lookup y with
    | none=>rw [hz] at hl;cases hl
    | some kk =>
     rw [hz] at hl hnl
     cases kk<;>first | (cases hl;done) | exact absurd rfl hnl | exact .inl rfl | exact .inr rfl
   obtain ⟨c,o,g1,g2,g3⟩:=fr.cell i y hi hk0
   obtain ⟨c',hc'⟩:=h2 _ hm rfl
   have:=h1 y c' (mem_of_lookup hc')
   rw [g1] at this;cases this
   have hb:(y==x)=false:=beq_eq_false_iff_ne.mpr hne
   refine ⟨c,o,?_,g2.keeps hk,fun v hv=>g3 v (w8 _ _ _ _ hv).2⟩
   show List.lookup y ((x,K)::cl)=_
   rw [kbI,hb];exact hc'
 ·rcases kad.mp hy with e | hy<;>rcases kad.mp hz with e' | hz
  ·cases e;cases e';rfl
  ·cases e;exact absurd rfl (hclK z K hz)
  ·cases e';exact absurd rfl (hclK y K hy)
  ·exact fr.lone y z c (h1 y c hy) (h1 z c hz)
 ·rcases kad.mp hy with e | hy
  ·cases e;exact hKC
  ·obtain ⟨o,⟨ob,e,_⟩,_⟩:=hcl y c hy
   rintro rfl
   rw [hCn] at e;cases e
 ·rcases kad.mp hy with e | hy
  ·cases e;exact ⟨hK,_,hcell⟩
  ·obtain ⟨o,a,b,_⟩:=hcl y c hy
   exact ⟨b,o,a.keeps hk⟩
 ·rcases kad.mp hy with e | hy
  ·cases e;exact hKb
  ·obtain ⟨o,a,b,c'⟩:=hcl y c hy
   exact c'
theorem zkV{A:Around}{env:Env}{Z:zK}{J J2:zc}{s sB:Shared}{x:Str}{px:Pos}{iter elt:Expr}{ifs:List Expr}{scope:Scope}{pos:Pos}{j:Nat}{xs:List V}{chk:zc->Prop}{I D C Wa:Addr}{wr:List Addr}{W:Nat->Heap->Prop}{c:Option EW}{we:EW}{cs:List (Str × Addr)}{Q:V->zc->Prop}{R:Result->Shared->Prop}
  (hif:zc1 T d (zbH scope sc) ctx ifs c) (hel:zG T d (zbH scope sc) ctx elt we) (ro:zag T A d) (frc:qR T (compEnvC scope cs C env) ctx (zbN Z j) J2 sB.heap) (eoc:jm (zbH scope sc) (compEnvC scope cs C env)) (hx:ctx[j]?=some x)
  (hWa:((zbH scope sc).names.lookup x=some .local/\Wa=C)\/((zbH scope sc).names.lookup x=some .cell/\cs.lookup x=some Wa))
  (ite:zl7 T A I wr xs chk W) (w1:W 0 sB.heap) (st1:St T J2 sB) (p1:zV T [] J s J2 sB) (hwr:∀ b∈wr,J2 b=none/\T.hb.get? b=none/\s.heap.get? b=none) (nf:∀ b,s.heap.get? b=none->b∉frs T) (hlim:xs.length<=lim) (hw:zaZ chk j c we Z xs [] J2 Q)
  (hWs:s.heap.get? Wa=none) (hcs:∀ y c',(y,c')∈cs->c'=Wa\/∃ o,s.heap.get? c'=some o) (hCs:s.heap.get? C=none) (hCw:C∉wr) (hWw:Wa∉wr) (hDs:s.heap.get? D=none) (hDC:D≠C) (hDW:D≠Wa) (hDw:D∉wr) (hDJ:J2 D=none) (hDb:T.hb.get? D=none) (hDsys:(D==sysModules)=false) (hDo:IsL sB.heap D #[] 0)
  (fin:∀ J' s' m,St T J' s'->zV T [] J s J' s'->s'.heap.Ns C m->J' C=none->Q (.ref D) J'->R (.ok .next) s') :
  codeAny T.M A (.compStart (.ListComp elt [⟨.Name x px,iter,ifs,0⟩] scope pos) 0 (.ref I) (.ref D) (compEnvC scope cs C env)) R sB:=by
 have hno:∀ b,s.heap.get? b=none->b≠C->b≠Wa->b∉own (compEnvC scope cs C env):=fun b hb h1 h2 ho=>by
  simp only [own,compEnvC,kad,kau] at ho
  rcases ho with h | ⟨⟨y,c'⟩,hm,rfl⟩
  ·exact h1 h
  ·rcases hcs y c' hm with h | ⟨o,e⟩
   ·exact h2 h
   ·rw [hb] at e;cases e
 have hown:∀ b∈wr,b∉own (compEnvC scope cs C env):=fun b hb=>hno b (hwr b hb).2.2 (fun e=>hCw (e▸hb)) fun e=>hWw (e▸hb)
 have hWo:J2 Wa=none/\(∃ o,sB.heap.get? Wa=some o)/\T.hb.get? Wa=none:=by
  rcases hWa with ⟨_,e⟩ | ⟨_,e⟩
  ·obtain ⟨m,⟨o,es,ep,ho,_⟩,_⟩:=frc.ns
   subst e
   exact ⟨frc.lfree,⟨o,ho⟩,frc.lbase⟩
  ·obtain ⟨a,o,ob,b,_⟩:=frc.cfree x Wa e
   exact ⟨a,⟨ob,b⟩,frc.cbase x Wa e⟩
 have hd:=znL (D:=D) (px:=px) (Z:=Z) eoc hx (by rcases hWa with ⟨e,_⟩ | ⟨e,_⟩<;>rw [e]<;>rfl) hWa ite (fun b hb=>⟨(hwr b hb).2.1,nf b (hwr b hb).2.2⟩) hown
 have loop:codeAny T.M A (.compLoop (.ListComp elt [⟨.Name x px,iter,ifs,0⟩] scope pos) 0 (.ref I) (.ref D) (compEnvC scope cs C env)) R sB:=by
  refine zid hif hel eoc ro hd (fun a i w hw'=>?_) (fun b hb=>?_) (fun b hb=>?_) ?_ (nf D hDs) hDs hDb hDsys (hno D hDs hDC hDW) st1 p1 frc w1 (fun b hb=>?_) hDJ hDo hlim (by rw [<-zrq];exact hw) fin
  ·obtain ⟨hne,hg⟩:=w8 _ _ _ _ hw'
   exact zbB Z j i a w hne hg
  ·rcases kad.mp hb with rfl | h
   ·exact ⟨hWs,nf _ hWs⟩
   ·exact ⟨(hwr b h).2.2,nf b (hwr b h).2.2⟩
  ·rcases kad.mp hb with rfl | h
   ·exact hWo.2.1
   ·exact ite.alive 0 _ w1 b h
  ·exact fun h=>by
    rcases kad.mp h with h | h
    ·exact hDW h
    ·exact hDw h
  ·rcases kad.mp hb with rfl | h
   ·exact hWo.1
   ·exact (hwr b h).1
 exact codeAny_compStart_list loop (ite.self 0 _ _ _ w1 loop)
theorem zic{A env Z J s J2 sM x px iter ifs scope pos elt j xs chk I wr W c}{we:EW}{Q:V->zc->Prop}{RR:Addr->Addr->Result->Shared->Prop}{E:Value->Shared->Prop}
  (co:yX sc ctx scope j x) (hif:zc1 T d (zbH scope sc) ctx ifs c) (hel:zG T d (zbH scope sc) ctx elt we) (eo:jm sc env) (ro:zag T A d) (fr:qR T env ctx Z J s.heap)
  (ite:zl7 T A I wr xs chk W) (w0:W 0 sM.heap) (st2:St T J2 sM) (p2:zV T [] J s J2 sM) (hwr:∀ b∈wr,J2 b=none/\T.hb.get? b=none/\s.heap.get? b=none) (nf:∀ b,s.heap.get? b=none->b∉frs T) (hlim:xs.length<=lim) (hw:zaZ chk j c we Z xs [] J2 Q)
  {cl:List (Str × Addr)} (h1:∀ x c,(x,c)∈cl->env.cells.lookup x=some c) (h2:∀ y∈scope.names,y.2=.free->∃ c,cl.lookup y.1=some c)
  (hRR:∀ D C J' s' m,s.heap.get? C=none->J' C=none->T.hb.get? C=none->s'.heap.Ns C m->St T J' s'->zV T [] J s J' s'->Q (.ref D) J'->RR D C (.ok .next) s') :
  wpAny T.M A (newList []) (fun acc sD=>wpAny T.M A (newFunctionEnv scope env.globals cl [] env.qual none .none (some env)) (fun cenv sE=>∃ D,acc=.ref D /\
   codeAny T.M A (.compStart (.ListComp elt [⟨.Name x px,iter,ifs,0⟩] scope pos) 0 (.ref I) acc {cenv with scope:=relabel scope env}) (RR D cenv.locals) sE) E sD) E sM:=by
 have fr2:=fr.step p2
 refine wpAny_newObj_type ?_
 generalize hD:sM.heap.objs.size=D
 generalize hH2:sM.heap.push {cls:=.type "list", dict:=none,data:=.seq ([]:List Value).toArray}=H2
 have hC:H2.objs.size=D+1:=by rw [<-hH2,kbK,hD]
 have hHD:IsL H2 D #[] 0:=by rw [<-hH2,<-hD];exact kaF _ rfl
 have e2:∀ b o,sM.heap.get? b=some o->H2.get? b=some o:=fun b o e=>hH2▸kap _ e
 have n2:∀ b,D<=b->sM.heap.get? b=none:=fun b hb=>kbS (by rw [hD];exact hb)
 have n0:∀ b,D<=b->s.heap.get? b=none:=fun b hb=>by
  cases e:s.heap.get? b with
  | none=>rfl
  | some o=>obtain ⟨o',h'⟩:=p2.live b o e;rw [n2 b hb] at h';cases h'
 have nb:∀ b,D<=b->T.hb.get? b=none:=fun b hb=>by
  cases e:T.hb.get? b with
  | none=>rfl
  | some o=>have:=st2.base b o e;rw [n2 b hb] at this;cases this
 have nJ:∀ b,D<=b->J2 b=none:=fun b hb=>st2.noneFree (n2 b hb)
 have nw:∀ b,D<=b->b∉wr:=fun b h hb=>by obtain ⟨o,e⟩:=ite.alive 0 _ w0 b hb;rw [n2 b h] at e;cases e
 have hDsys:(D==sysModules)=false:=by rw [<-hD];exact st2.big
 have hcl:∀ y c',(y,c')∈cl->∃ o,s.heap.get? c'=some o:=fun y c' hm=>by
  obtain ⟨o,ob,e,_⟩:=(fr.cfree y c' (h1 y c' hm)).2
  exact ⟨ob,e⟩
 have fin:∀ C,D<C->∀ J' s' m,St T J' s'->zV T [] J s J' s'->s'.heap.Ns C m->J' C=none->Q (.ref D) J'->RR D C (.ok .next) s':=fun C h J' s' m a b c' e f=>hRR D C J' s' m (n0 C (by exact kby ‹_›)) e (nb C (by exact kby ‹_›)) c' a b f
 rcases co with co | co
 ·refine wpAny_newFunctionEnv co.nocell (by intro y hy;simp at hy) (fun h₁ hns1 hsb1=>?_) co.kind
  dsimp only at hns1 hsb1 ⊢
  refine ⟨_,rfl,?_⟩
  generalize hCe:H2.objs.size=C at hns1 hsb1 hC ⊢
  have up:∀ b o,H2.get? b=some o->h₁.get? b=some o:=fun b o e=>hsb1.extBut b o (kbd (hCe▸ka3 e)) (kap _ e)
  have old:∀ b o,sM.heap.get? b=some o->h₁.get? b=some o:=fun b o e=>up b o (e2 b o e)
  have hDC:D≠C:=by exact (fun h_=>lif (@r2 (↑(C)) (↑(D))) [(2,-1,V0,.add V1 N1),(2,-1,V1,V0)] rfl (eqI hC) (eqI h_))
  obtain ⟨frc,eoc⟩:=zgB (Z':=zbN Z j) (C:=C) (h':=h₁) eo fr2 co.toCompB (fun i y v hi hv=>by
   obtain ⟨hne,hv'⟩:=w8 _ _ _ _ hv
   exact ⟨hv',fun hq=>hne (zgy fr.nd hi (by rw [co.onlyx y (kao hi) hq];exact co.tgt.1))⟩) h1 h2 (nJ C (by exact leN (lin r2 V0 V1 [(2,-1,V1,.add V0 N1)] rfl (eqI hC)))) (nb C (by exact leN (lin r2 V0 V1 [(2,-1,V1,.add V0 N1)] rfl (eqI hC)))) old (n2 C (by exact leN (lin r2 V0 V1 [(2,-1,V1,.add V0 N1)] rfl (eqI hC)))) (by simpa using hns1)
  exact zkV (Wa:=C) hif hel ro frc eoc co.tgt.1 (.inl ⟨by rw [w7,co.tgt.2];rfl,rfl⟩) ite (ite.frame _ _ _ w0 fun b _ o e=>old b o e) (st2.grow old _) (p2.grow old _) hwr nf hlim hw (n0 C (by exact leN (lin r2 V0 V1 [(2,-1,V1,.add V0 N1)] rfl (eqI hC)))) (fun y c' hm=>.inr (hcl y c' hm)) (n0 C (by exact leN (lin r2 V0 V1 [(2,-1,V1,.add V0 N1)] rfl (eqI hC)))) (nw C (by exact leN (lin r2 V0 V1 [(2,-1,V1,.add V0 N1)] rfl (eqI hC)))) (nw C (by exact leN (lin r2 V0 V1 [(2,-1,V1,.add V0 N1)] rfl (eqI hC)))) (n0 D (kaB _)) hDC hDC (nw D (kaB _)) (nJ D (kaB _)) (nb D (kaB _)) hDsys (up _ _ hHD) (fin C (by exact ltN (lit r2 V0 V1 [(2,-1,V1,.add V0 N1)] rfl (eqI hC))))
 ·simp only [newFunctionEnv,Option.isSome_some,if_true]
  refine kag (wpAny_alloc (kag (wpAny_layCells _ (fun name kind cells=>by cases hkc:kind==NameKind.cell<;>simp [hkc]) _ _ _ _ ?_)))
  have hsz:(H2.push {cls:=.type "dict", data:=.dict #[]}).objs.size=D+2:=by rw [kbK,hC]
  have ok:=cellsFrom_ok scope.names (H2.push {cls:=.type "dict", data:=.dict #[]}) 0 [] ⟨fun _ _ hm=>(nomatch hm),kdU.nil⟩ (kch _)
  rw [hsz,co.one] at ok
  have hup:∀ b o,(H2.push {cls:=.type "dict", data:=.dict #[]}).get? b=some o->(pushCells (H2.push {cls:=.type "dict", data:=.dict #[]}) scope.names).get? b=some o:=pushCells_keeps _ _
  dsimp only
  rw [hsz,co.one,hC]
  have hns:=(Heap.Ns.new H2 (.type "dict")).keeps hup
  rw [hC] at hns
  generalize pushCells (H2.push {cls:=.type "dict", data:=.dict #[]}) scope.names=h₁ at hup hns ok ⊢
  refine kag ?_
  rw [kc7]
  refine kaC (kaC ⟨D,rfl,?_⟩)
  have up:∀ b o,H2.get? b=some o->h₁.get? b=some o:=fun b o e=>hup b o (kap _ e)
  have old:∀ b o,sM.heap.get? b=some o->h₁.get? b=some o:=fun b o e=>up b o (e2 b o e)
  have a1:D<=D+1:=by exact kci _
  have a2:D<=D+2:=by exact leN (lin r1 V0 (.add V0 (.num 2)) [] rfl)
  have b1:D≠D+1:=by exact (fun h_=>lif r1 [(2,-1,V0,.add V0 N1)] rfl (eqI h_))
  have b2:D≠D+2:=by exact (fun h_=>lif r1 [(2,-1,V0,.add V0 (.num 2))] rfl (eqI h_))
  have b3:D+2≠D+1:=by exact (fun h_=>lif (@r1 (↑(D))) [(2,1,.add V0 (.num 2),.add V0 N1)] rfl (eqI h_))
  obtain ⟨frc,eoc⟩:=zki (C:=D+1) (K:=D+2) (h':=h₁) eo fr2 co h1 h2 (nJ _ a1) (nb _ a1) (nJ _ a2) (nb _ a2) b3 old (n2 _ a1) (n2 _ a2) hns (ok.empty x (D+2) (by simp)).1
  exact zkV (sB:={sM with heap:=h₁}) (Wa:=D+2) hif hel ro frc eoc co.tgt.1 (.inr ⟨by rw [w7,co.tgt.2];rfl,by simp [kbI]⟩) ite (ite.frame _ _ _ w0 fun b _ o e=>old b o e) (st2.grow old sM.toks) (p2.grow old sM.toks) hwr nf hlim hw (n0 _ a2) (fun y c' hm=>by
    rcases kad.mp hm with h | h
    ·cases h;exact .inl rfl
    ·exact .inr (hcl y c' h)) (n0 _ a1) (nw _ a1) (nw _ a2) (n0 D (kaB _)) b1 b2 (nw D (kaB _)) (nJ D (kaB _)) (nb D (kaB _)) hDsys (up _ _ hHD) (fin _ (ka1 _))

theorem zdA{env Z J h scope j x}(eo:jm sc env)(fr:qR T env ctx Z J h)(co:yX sc ctx scope j x) :
  ∃ cl,closureFor scope env=pure cl/\(∀ x c,(x,c)∈cl->env.cells.lookup x=some c)/\(∀ y∈scope.names,y.2=.free->∃ c,cl.lookup y.1=some c):=by
 refine zgC fun y hy hf=>?_
 obtain ⟨hl,hnl,i,hi⟩:=yX.free co y hy hf
 have hk0:env.kindOf y.1=some .cell\/env.kindOf y.1=some .free:=by
  rw [eo.kindOf]
  cases hz:sc.names.lookup y.1 with
  | none=>rw [hz] at hl;cases hl
  | some kk =>
   rw [hz] at hl hnl
   cases kk<;>first | (cases hl;done) | exact absurd rfl hnl | exact .inl rfl | exact .inr rfl
 obtain ⟨c,o,g1,_⟩:=fr.cell i y.1 hi hk0
 exact ⟨c,g1⟩

theorem jt{elt x px iter ifs scope pos j}{src:zij}{c:Option EW}{we:EW}(co:yX sc ctx scope j x)(hs:zdM T d sc ctx iter src)(hif:zc1 T d (zbH scope sc) ctx ifs c)(hel:zG T d (zbH scope sc) ctx elt we) :
  zG T d sc ctx (.ListComp elt [⟨.Name x px,iter,ifs,0⟩] scope pos) (qU j src c we):=by
 intro A env Z J s Q P eo ro st fr hw
 rw [eval_ListComp]
 obtain ⟨cl,hcl,h1,h2⟩:=zdA eo fr co
 refine wpAny_comprehension_free (use:=none) rfl (hs.1 env) hcl (yX.kind co) (yX.names co) ?_
 refine kat (hs.2 A env Z J s _ P eo ro st fr hw) (fun xv sB h₁=>kat h₁ (fun itv sM h₂=>?_) fun _ _ e=>e) fun _ _ e=>e
 obtain ⟨xs,chk,J2,I,wr,W,rfl,ite,w0,st2,p2,hwr,hlim,hl⟩:=h₂
 refine kat (zic (iter:=iter) (px:=px) (pos:=pos) (RR:=fun D C=>compPost T.M A (jL T [] J s P) none (zhD T J s Q) (.ref D) C) (E:=jL T [] J s P) co hif hel eo ro fr ite w0 st2 p2 hwr (fun b hb=>st.notFr hb) hlim hl h1 h2 ?_)
  (fun acc sD h₃=>kat h₃ (fun cenv sE h₄=>by obtain ⟨D,rfl,h⟩:=h₄;exact h) fun _ _ e=>e) fun _ _ e=>e
 intro D C J' s' m hC hCJ hCb hn st' p' hq
 refine ⟨m,hn,fun h' hs'=>⟨_,J',.ref D,?_,?_,hq⟩⟩
 ·exact st'.off (wr:=[C]) (by simp;exact ⟨hCJ,hCb,st.notFr hC⟩) (fun b o hb e=>hs'.extBut b o (by simpa using hb) e) s'.toks
 ·exact p'.off (wr:=[C]) (by simpa using hC) (fun b o hb e=>hs'.extBut b o (by simpa using hb) e) s'.toks

noncomputable def zqk(sc scope:Scope)(t:Str)(tp vp:Pos):Bool:=sc.names.lookup t==some .local && tp.line==vp.line && !(scope.names.any fun (n,k)=>n==t && (k==.local || k==.cell))
theorem ju{y py elt x px iter ifs scope pos spos j i}{src:zij}{c:Option EW}{we:EW}(hy:ctx[i]?=some y)(hk:zcu (sc.names.lookup y)=true)(co:yX sc ctx scope j x)(hs:zdM T d sc ctx iter src)(hif:zc1 T d (zbH scope sc) ctx ifs c)(hel:zG T d (zbH scope sc) ctx elt we) :
  za0 T d sc ctx (.Assign [.Name y py] (.ListComp elt [⟨.Name x px,iter,ifs,0⟩] scope pos) spos) (zY i (qU j src c we)):=by
 intro A env Z J s K P eo ro st fr hw
 have hsw:swapsWith (.ListComp elt [⟨.Name x px,iter,ifs,0⟩] scope pos) (some (.Name y py)) spos.line env=pure (zqk sc scope y py pos):=by
  show pure (env.blockKind==.function && env.kindOf y==some .local && py.line==pos.line && !(scope.names.any fun (n,k)=>n==y && (k==.local || k==.cell)))=_
  have hb:env.blockKind=.function:=by unfold Env.blockKind;rw [eo.scope,eo.kind];rfl
  rw [hb,eo.kindOf]
  unfold zqk
  simp
 cases hb:zqk sc scope y py pos with
 | false =>
  rw [hb] at hsw
  refine kat (wpAny_Assign_Name (Q:=wS T env ctx J s K) ((jt (pos:=pos) (px:=px) co hs hif hel).run eo ro st fr hw fun v u J1 sB hv st1 p1 fr1 hw1=>?_) hsw) (fun _ _ x=>x) fun _ _ x=>x.any
  refine zfs eo st1 fr1 hy hk hv fun sM b hb _ st2 fr2 p2=>⟨_,_,J1,.next,st2,fr2,p1.any.trans (zei p2 hb),hw1⟩
 | true =>
  rw [hb] at hsw
  rw [exec_Assign_Name_used _ _ _ _ hsw]
  refine kag (wpAny_standAt ?_)
  obtain ⟨cl,hcl,h1,h2⟩:=zdA eo fr co
  have key:wpAny T.M A (comprehension (.ListComp elt [⟨.Name x px,iter,ifs,0⟩] scope pos) scope env (firstIterPos [⟨.Name x px,iter,ifs,0⟩] pos) (newList []) false (eval iter env) (some (assign (.Name y py) env)))
    (fun _ s'=>wS T env ctx J s K .next s') (jL T [] J s P) s:=by
   refine wpAny_comprehension_free (E:=jL T [] J s P) (Q:=fun _ s'=>wS T env ctx J s K .next s') rfl (hs.1 env) hcl (yX.kind co) (yX.names co) ?_
   refine kat (hs.2 A env Z J s _ P eo ro st fr hw) (fun xv sB h₁=>kat h₁ (fun itv sM h₂=>?_) fun _ _ e=>e) fun _ _ e=>e
   obtain ⟨xs,chk,J2,I,wr,W,rfl,ite,w0,st2,p2,hwr,hlim,hl⟩:=h₂
   refine kat (zic (iter:=iter) (px:=px) (pos:=pos) (RR:=fun D C=>compPost T.M A (jL T [] J s P) (some (assign (.Name y py) env)) (fun _ s'=>wS T env ctx J s K .next s') (.ref D) C) (E:=jL T [] J s P) co hif hel eo ro fr ite w0 st2 p2 hwr (fun b hb=>st.notFr hb) hlim hl h1 h2 ?_)
    (fun acc sD h₃=>kat h₃ (fun cenv sE h₄=>by obtain ⟨D,rfl,h⟩:=h₄;exact h) fun _ _ e=>e) fun _ _ e=>e
   intro D C J' s' m hC hCJ hCb hn st' p' hq
   have fr':=fr.step p'
   have hCown:C∉own env:=fun ho=>by obtain ⟨o,e⟩:=zkF fr C ho;rw [hC] at e;cases e
   refine wpAny_assign_Name (zfs eo st' fr' hy hk (.ref D) fun s5 b hb' _ st5 fr5 p5=>?_)
   have hn5:∃ m,s5.heap.Ns C m:=by
    obtain ⟨o,es,ep,ho,r⟩:=hn
    exact ⟨m,o,es,ep,p5.keepX (.inl hCJ) (by simp;rintro rfl;exact hCown hb') (st.notFr hC) ho,r⟩
   obtain ⟨m5,hn5⟩:=hn5
   refine ⟨m5,hn5,fun h' hs'=>?_⟩
   have hoff:∀ b o,b∉[C]->s5.heap.get? b=some o->h'.get? b=some o:=fun b o hb e=>hs'.extBut b o (by simpa using hb) e
   refine ⟨_,jP Z i (.ref D),J',.next,st5.off (wr:=[C]) (by simp;exact ⟨hCJ,hCb,st.notFr hC⟩) hoff s5.toks,fr5.off (wr:=[C]) (by simpa using hCown) hoff,?_,hq⟩
   exact (p'.any.trans (zei p5 hb')).off (wr:=[C]) (by simpa using hC) hoff s5.toks
  refine kag ?_
  show wpAny T.M A (comprehension (.ListComp elt [⟨.Name x px,iter,ifs,0⟩] scope pos) scope env (firstIterPos [⟨.Name x px,iter,ifs,0⟩] pos) (newList []) (firstAsync [⟨.Name x px,iter,ifs,0⟩]) (firstIter [⟨.Name x px,iter,ifs,0⟩] env) (some (assign (.Name y py) env)) >>= fun _=>pure ()) _ _ s
  exact kag (kat key (fun _ s' h'=>kaC (kaC h')) fun _ _ x=>x.any)
end
end Mine
end
section
open PySem
namespace Mine
open PySem.Calls PyProof.Rows
theorem St.funFrames{T J s}(st:St T J s):s.heap.FunFrames T.hb T.fr:=by
 have key:∀ l:List Env,(∀ env∈l,zow T.hb J s.heap env)->s.heap.FunFrames T.hb l:=by
  intro l
  induction l with
  | nil=>intro _;trivial
  | cons env r ih =>
   intro h
   obtain ⟨hk,L,e,h1,_,o,es,ep,h2,h3⟩:=h env (kaG ..)
   exact ⟨hk,⟨L,o,e,h1,h2,fun vs q=>by rw [h3] at q;cases q⟩,ih fun x hx=>h x (kar _ hx)⟩
 exact key T.fr st.frames
inductive NTb(a:Addr)(c:Value)(h h':Heap):Prop | mk (t oT ts oe vs) (n1:h.get? t=none) (n2:h'.get? a=some oe) (n3:oe.cls=c) (n4:oe.data=.fields vs) (n5:vs[1]?=some (.ref t)) (n6:t≠a) (n7:h'.get? t=some oT) (n8:oT.data=.fields ts) (n9:ts[3]?=some .none) (n10:vs[2]?=some .none):NTb a c h h'
inductive Tb1(a:Addr)(vs:Array Value)(h:Heap):Prop | mk (tb oT ts) (k1:vs[1]?=some (.ref tb)) (k2:tb≠a) (k3:h.get? tb=some oT) (k4:oT.data=.fields ts) (k5:ts[3]?=some .none):Tb1 a vs h
structure zqt(a:Addr)(c:Value)(h h':Heap):Prop where
 tb:NTb a c h h'
structure zhB(T:TC)(a:Addr)(tb:Option Addr)(h h':Heap):Prop where
 old:∀ b o,h.get? b=some o->b∉frs T->b≠a->tb≠some b->h'.get? b=some o
 fr:∀ b o,h.get? b=some o->b∈frs T->∃ sl,h'.get? b=some {o with slots:=sl}
section
variable {T:TC} {A:Around} {E:Value->Shared->Prop} {s:Shared}
theorem zp0{env:Env}{outer:List Env}{L a:Addr}{oe:Obj}{vs:Array Value}{head:Value}{hadNext:Bool}{Q:Unit->Shared->Prop}
  (hT:T.fr=env::outer) (hfr:A.frames=some T.fr) (hl:s.heap.FunFrames T.hb T.fr) (hf:env.frame=some L) (he:s.heap.get? a=some oe) (hd:oe.data=.fields vs) (hsz:1<vs.size) (h2:vs[2]?=some .none) (ha:a∉frs T)
  (h:∀ h',zhB T a none s.heap h'->zqt a oe.cls s.heap h'->Q () {s with heap:=h'}) :
  wpAny T.M A (do let x <-frameOf env;let pl <-entryPlaceOf L hadNext;let b <-EntryCells.newEntry head x .none (rawInt L) .none pl;setField (.ref a) 1 b) (fun _ s'=>wpAny T.M A (setFlight (.ref a) none) Q E s') E s:=by
 rw [hT] at hfr hl
 refine kag (wpAny_frameOf_fun hfr hl hf fun h₁ hsB=>?_)
 have hfe:(env::outer).filterMap (·.frame)=frs T:=by unfold frs;rw [hT]
 rw [hfe] at hsB
 refine kag (wpAny_entryPlaceOf fun pl hpl=>?_)
 unfold EntryCells.newEntry newFields
 refine kag (wpAny_newObj_type ?_ (hpl.sizeOk5 _ _ _ _ _))
 generalize hob:({cls:=.type "traceback", dict:=none,data:=.fields ([head,.ref L,.none,rawInt L,.none]++(if pl.isEmpty then kaE 6 Value.none else pl)).toArray}:Obj)=ob
 have hobd:ob.data=.fields ([head,.ref L,.none,rawInt L,.none]++(if pl.isEmpty then kaE 6 Value.none else pl)).toArray:=by rw [<-hob]
 have heB:h₁.get? a=some oe:=(hsB.2.1 a ha).trans he
 have heC:=kap ob heB
 refine wpAny_setField heC hd hsz ?_
 have hta:h₁.objs.size≠a:=kcb (ka3 heB)
 have hd3:=Obj.data_mapFields hd (·.setIfInBounds 1 (Value.ref h₁.objs.size))
 have he3:=kca (Obj.mapFields (·.setIfInBounds 1 (Value.ref h₁.objs.size))) heC (Obj.isFreed_of_fields hd3)
 have htD:=(kaU (h₁.push ob) (Obj.mapFields (·.setIfInBounds 1 (Value.ref h₁.objs.size))) (Ne.symm hta)).trans (kaF h₁ (Obj.isFreed_of_fields hobd))
 unfold setFlight
 refine kag (wpAny_field he3 hd3 (x:=.ref h₁.objs.size) (by simp [hsz]) ?_)
 rw [if_pos (show (Value.ref h₁.objs.size != Value.none)=true from by simp)]
 have hlen:3<([head,.ref L,.none,rawInt L,.none]++(if pl.isEmpty then kaE 6 Value.none else pl)).toArray.size:=by
  simp only [List.size_toArray,kas,kaj,kaD];exact ltN (lit r1 (.num 3) (.add (.add (.add (.add (.add (.add N0 N1) N1) N1) N1) N1) V0) [(0,1,N0,V0)] rfl (nnI _))
 refine wpAny_setField htD hobd hlen (h _ ⟨fun b o hb hbf hba _=>?_,fun b o hb hbf=>?_⟩ ⟨h₁.objs.size,_,_,_,_,?_,?_,Obj.cls_mapFields _ _,hd3,by simp [hsz],hta,kca _ htD (Obj.isFreed_of_fields (Obj.data_mapFields hobd _)),Obj.data_mapFields hobd _,?_,by simp [h2]⟩)
 ·have h1:h₁.get? b=some o:=(hsB.2.1 b hbf).trans hb
  rw [kaU _ _ (kcb (ka3 h1)),kaU _ _ (Ne.symm hba)]
  exact kap _ h1
 ·obtain ⟨sl,h1⟩:=hsB.2.2 b o hb
  refine ⟨sl,?_⟩
  rw [kaU _ _ (kcb (ka3 h1)),kaU _ _ (fun q:a=b=>ha (by rw [q];exact hbf))]
  exact kap _ h1
 ·exact kbS (by rw [hsB.1];exact kaB _)
 ·rw [kaU _ _ hta];exact he3
 ·rw [Array.getElem?_setIfInBounds];simp [hlen]
theorem zrP{J:zc}{env:Env}{outer:List Env}{L a:Addr}{oe:Obj}{vs:Array Value}{Q:Unit->Shared->Prop}(st:St T J s)(hT:T.fr=env::outer)(hfr:A.frames=some T.fr)(hf:env.frame=some L)(he:s.heap.get? a=some oe)(hd:oe.data=.fields vs)
  (h1:vs[1]?=some .none\/Tb1 a vs s.heap) (h2:vs[2]?=some .none)
  (hq:∀ h' tb,(∀ t,tb=some t->vs[1]?=some (.ref t))->zhB T a tb s.heap h'->zqt a oe.cls s.heap h'->Q () {s with heap:=h'}):wpAny T.M A (noteFrame (.ref a) env) (fun _ sM=>wpAny T.M A (setFlight (.ref a) none) Q E sM) E s:=by
 have nof:∀ {b:Addr} {o:Obj} {xs:Array Value},s.heap.get? b=some o->o.data=.fields xs->b∉frs T:=fun e d hF=>by
  obtain ⟨o',es,ep,e',d'⟩:=(st.fr hF).2.2
  rw [zdV e e',d'] at d;cases d
 have ha:=nof he hd
 unfold noteFrame
 simp only [hf]
 rcases h1 with h1 | ⟨tb,oT,ts,h1,hta,ht,hdt,h3⟩
 ·refine kag (wpAny_field he hd h1 ?_)
  rw [if_neg (by decide)]
  exact zp0 hT hfr st.funFrames hf he hd (kbQ.mp h1).1 h2 ha fun h' t n=>hq h' none (fun _ e=>by cases e) t n
 ·refine kag (wpAny_field he hd h1 ?_)
  rw [if_pos (show (Value.ref tb != Value.none)=true from by simp)]
  refine kag (wpAny_field ht hdt h3 ?_)
  rw [if_neg (show ¬ ((Value.none==rawInt L)=true) from by simp [rawInt])]
  refine kag (wpAny_setField ht hdt (kbQ.mp h3).1 ?_)
  have htf:=nof ht hdt
  have other:∀ b,b≠tb->(s.heap.update tb (Obj.mapFields (·.setIfInBounds 3 Value.none))).get? b=s.heap.get? b:=fun b hb=>kaU _ _ (Ne.symm hb)
  have dead:∀ b,(s.heap.update tb (Obj.mapFields (·.setIfInBounds 3 Value.none))).get? b=none->s.heap.get? b=none:=fun b e=>by
   by_cases q:b=tb
   ·rw [q,kca _ ht (Obj.isFreed_of_fields (Obj.data_mapFields hdt _))] at e;cases e
   ·rw [other b q] at e;exact e
  refine zp0 hT hfr (st.funFrames.of_keeps fun b o hb hnf=>⟨o,(other b fun q=>by subst q;rw [ht] at hb;cases hb;exact hnf _ hdt).trans hb,rfl⟩) hf ((other a (Ne.symm hta)).trans he) hd (kbQ.mp h1).1 h2 ha fun h' t n=>hq h' (some tb) (fun _ e=>by cases e;exact h1) ⟨fun b o hb hbf hba hbt=>?_,fun b o hb hbf=>?_⟩ ?_
  ·exact t.old b o ((other b fun q=>hbt (by rw [q])).trans hb) hbf hba (by simp)
  ·exact t.fr b o ((other b fun q=>htf (q▸hbf)).trans hb) hbf
  ·obtain ⟨t',oT',ts',oe',vs',k1,k2,k3,k4,k5,k6,k7,k8,k9,k10⟩:=n.tb
   exact ⟨t',oT',ts',oe',vs',dead _ k1,k2,k3,k4,k5,k6,k7,k8,k9,k10⟩
theorem zsu{J:zc}{env:Env}{outer:List Env}{L a:Addr}{oe:Obj}{vs:Array Value}{Q:Unit->Shared->Prop}(st:St T J s)(hT:T.fr=env::outer)(hfr:A.frames=some T.fr)(hf:env.frame=some L)(he:s.heap.get? a=some oe)(hd:oe.data=.fields vs)
  (h1:vs[1]?=some .none\/Tb1 a vs s.heap) (h2:vs[2]?=some .none)
  (hq:∀ h' tb,(∀ t,tb=some t->vs[1]?=some (.ref t))->zhB T a tb s.heap h'->zqt a oe.cls s.heap h'->Q () {s with heap:=h'}):wpAny T.M A (leaving env (.ref a)) Q E s:=by
 unfold leaving
 exact kag (zrP st hT hfr hf he hd h1 h2 hq)
end
end Mine
end
section
open PySem
namespace Mine
open PySem.Calls PyProof.Rows

theorem zgG(kindOf:Str->Option NameKind):∀ (names:List Str) (us:List Value) (m:Str->Option Value) (x:Str),x∉names->bindL kindOf (names.zip us) m x=m x
 | [],_,m,x,_=>by simp [bindL]
 | n::r,[],m,x,_=>by simp [bindL]
 | n::r,u::us,m,x,h=>by
  have hn:x≠n:=fun e=>h (by simp [e])
  show bindL kindOf (r.zip us) _ x=_
  rw [zgG kindOf r us _ x (fun hm=>h (by simp [hm]))]
  split
  ·simp [hn]
  ·rfl
theorem zoa(kindOf:Str->Option NameKind)(names:List Str)(us:List Value)(m:Str->Option Value)(i:Nat)(x:Str)(u:Value)(nd:names.Nodup)(h1:names[i]?=some x)(h2:us[i]?=some u)(hk:kindOf x=some .local):bindL kindOf (names.zip us) m x=some u:=by
 induction names generalizing us m i with
 | nil=>exact qE rfl h1
 | cons n r ih=>cases us with
  | nil=>exact qE rfl h2
  | cons v us=>cases i with
   | zero =>
    cases h1;cases h2
    show bindL kindOf (r.zip us) _ x=_
    rw [zgG kindOf r us _ x (kaM.mp nd).1]
    simp [hk]
   | succ i=>exact ih us _ i (kaM.mp nd).2 h1 h2
theorem zgH(kindOf:Str->Option NameKind):∀ (names:List Str) (us:List Value) (m:Str->Option Value) (x:Str),x∉names->bindC kindOf (names.zip us) m x=m x
 | [],_,m,x,_=>by simp [bindC]
 | n::r,[],m,x,_=>by simp [bindC]
 | n::r,u::us,m,x,h=>by
  have hn:x≠n:=fun e=>h (by simp [e])
  show bindC kindOf (r.zip us) _ x=_
  rw [zgH kindOf r us _ x (fun hm=>h (by simp [hm]))]
  split
  ·rfl
  ·simp [hn]
theorem zob(kindOf:Str->Option NameKind)(names:List Str)(us:List Value)(m:Str->Option Value)(i:Nat)(x:Str)(u:Value)(nd:names.Nodup)(h1:names[i]?=some x)(h2:us[i]?=some u)(hk:kindOf x≠some .local):bindC kindOf (names.zip us) m x=some u:=by
 induction names generalizing us m i with
 | nil=>exact qE rfl h1
 | cons n r ih=>cases us with
  | nil=>exact qE rfl h2
  | cons v us=>cases i with
   | zero =>
    cases h1;cases h2
    show bindC kindOf (r.zip us) _ x=_
    rw [zgH kindOf r us _ x (kaM.mp nd).1]
    simp [hk]
   | succ i=>exact ih us _ i (kaM.mp nd).2 h1 h2
theorem zhq{x:Str}:∀ (names:List (Str × NameKind)) (n:Nat) (acc:List (Str × Addr)),((x,NameKind.cell)∈names\/x∈acc.map (·.1))->x∈(cellsFrom n names acc).map (·.1):=by
 intro r_
 induction r_ with
 | nil =>
  intro _ _ h
  rcases h with h | h
  ·cases h
  ·exact h
 | cons y r ih_ =>
  intro n acc h
  obtain ⟨y,k⟩:=y
  simp only [cellsFrom]
  split
  ·refine ih_ _ _ ?_
   rcases h with h | h
   ·rcases kad.mp h with e | h
    ·cases e;exact .inr (by simp)
    ·exact .inl h
   ·exact .inr (by simp [h])
  ·rename_i hk
   refine ih_ _ _ ?_
   rcases h with h | h
   ·rcases kad.mp h with e | h
    ·cases e;exact absurd rfl hk
    ·exact .inl h
   ·exact .inr h
theorem zeS{x:Str}:∀ {l:List (Str × Addr)},x∈l.map (·.1)->(l.lookup x).isSome=true
 | [],h=>by cases h
 | (y,c)::r,h=>by
  rw [kbI]
  cases hy:x==y with
  | true=>rfl
  | false =>
   have hne:x≠y:=by simpa using hy
   exact zeS (by simpa [hne] using h)
theorem zgD{x:Str}(names:List (Str × NameKind))(n:Nat)(h:names.lookup x=some .cell):((cellsFrom n names []).lookup x).isSome=true:=zeS (zhq names n [] (.inl (mem_of_lookup h)))

noncomputable abbrev TC.at(T:TC)(fr:List Env):TC:={T with fr:=fr}
inductive zp(T:TC)(d:Nat)(f:Str)(vs:List V)(J:zc)(Q:V->zc->Prop)(P:Nat->zc->Prop):Prop
 | mk (fa:Addr) (o:Obj) (fd) (h1:T.mg f=some (.ref fa)) (h2:T.hb.get? fa=some o) (h3:o.data=.func fd)
  (h4:∀ fr A s us,zag (T.at fr) A d->St (T.at fr) J s->yf vs us->wpAny T.M A (call (.ref fa) us) (zhD (T.at fr) J s Q) (jL (T.at fr) [] J s P) s):zp T d f vs J Q P
def zr(T:TC)(d:Nat)(f:Str)(ws:EWs):EW:=fun Z J Q P=>ws Z J (fun vs J1=>zp T d f vs J1 Q P) P

structure zoz(T:TC)(f:Str)(params:Arguments)(body:List Stmt)(scope:Scope):Prop where
 here:∃ a o fd,T.mg f=some (.ref a)/\T.hb.get? a=some o/\o.data=.func fd/\fd.params=params/\fd.body=.stmts body/\fd.scope=scope/\fd.closure=[]/\fd.globals=kaL/\fd.builtins=builtinsNs /\
  fd.defaults=.none/\fd.kwdefaults=.none/\T.hb.CodeRec fd.code fd.qualname

structure ztI(params:Arguments)(scope:Scope)(ctx:List Str)(n:Nat):Prop where
 kind:scope.kind=.function
 co:scope.isCoroutine=false
 gen:scope.isGenerator=false
 nofree:∀ y∈scope.names,y.2≠.free
 nd:ctx.Nodup
 hnd:((cellsFrom 0 scope.names []).map (·.1)).Nodup
 par:params.args.map (·.arg)=ctx.take n
 kinds:∀ x∈ctx.take n,zcu (scope.names.lookup x)=true

noncomputable def zdg(vs:List V)(k:Nat):zK:=vs.map some++kaE k none
theorem zeD:∀ (vs:List V) (k i:Nat) (v:V),qz (zdg vs k) i=some v->vs[i]?=some v
 | [],k,i,v,h=>by
  exfalso
  induction k generalizing i with
  | zero=>simp [zdg,qz] at h
  | succ k ih=>cases i with
   | zero=>simp [zdg,qz,kbt] at h
   | succ i=>exact ih i (by simpa [zdg,qz,kbt] using h)
 | u::r,k,0,v,h=>by simpa [zdg,qz] using h
 | u::r,k,i+1,v,h=>by simpa using zeD r k i v (by simpa [zdg,qz] using h)

section
variable {T:TC} {d:Nat} {sc:Scope} {ctx:List Str}
theorem zag.deeper{A:Around}{fr:List Env}(ro:zag (T.at fr) A (d+1))(env:Env):zag (T.at (env::fr)) (A.deeper env) d:=by
 refine ⟨ro.hnd,Around.frames_deeper ro.frames,?_,?_⟩
 ·show A.depth+1+d<recursionLimit
  have:=ro.depth;exact ltN (lit (@r3 (↑(A.depth)) (↑(d)) (↑(recursionLimit))) (.add (.add V0 N1) V1) V2 [(1,1,.add V0 (.add V1 N1),V2)] rfl (ltI this))
 ·show A.units+3+4*d+100<cLine
  have:=ro.units;omega
theorem zsw{fr:List Env}{env:Env}{L b:Addr}(hf:env.frame=some L)(h:b∈frs (T.at (env::fr))):b=L\/b∈frs (T.at fr):=by
 unfold frs at h
 rw [kbX,hf] at h
 exact kad.mp h
theorem zV.frame{fr env L X J s sB J' s'}(hf:env.frame=some L)(hL:s.heap.get? L=none)(p:zV (T.at (env::fr)) X J sB J' s')(hk:∀ b o,s.heap.get? b=some o->sB.heap.get? b=some o)(hX:∀ b∈X,s.heap.get? b=none):zV (T.at fr) [] J s J' s':=by
 refine ⟨fun b o hfr _ e=>?_,fun b o e=>p.live b o (hk b o e),p.mono,fun a ha ha'=>?_⟩
 ·obtain ⟨o',h1,h2⟩:=p.keep b o hfr (fun hb=>by rw [hX b hb] at e;cases e) (hk b o e)
  refine ⟨o',h1,h2.imp id fun ⟨h3,h4⟩=>⟨?_,h4⟩⟩
  rcases zsw hf h3 with rfl | h3
  ·rw [hL] at e;cases e
  ·exact h3
 ·have h:=p.new a ha ha'
  cases e:s.heap.get? a with
  | none=>rfl
  | some o=>rw [hk a o e] at h;cases h
theorem St.up{fr env J s}(st:St (T.at (env::fr)) J s):St (T.at fr) J s:=⟨st.rest,st.base,st.objs,st.fresh,st.sysm,st.ro,fun e he=>st.frames e (kar _ he)⟩
theorem zV.noted{fr:List Env}{X J s J' s' a tb h'}(p:zV (T.at fr) X J s J' s')(ha:s.heap.get? a=none)(ht:∀ t,tb=some t->s.heap.get? t=none)(t:zhB (T.at fr) a tb s'.heap h'):zV (T.at fr) X J s J' {s' with heap:=h'}:=by
 refine ⟨fun b o hf hx e=>?_,fun b o e=>?_,p.mono,p.new⟩
 ·obtain ⟨o1,h1,r⟩:=p.keep b o hf hx e
  have hba:b≠a:=fun q=>by rw [q,ha] at e;cases e
  have hbt:tb≠some b:=fun q=>by rw [ht b q] at e;cases e
  by_cases hF:b∈frs (T.at fr)
  ·obtain ⟨sl,h2⟩:=t.fr b o1 h1 hF
   refine ⟨_,h2,.inr ⟨hF,sl,?_⟩⟩
   rcases r with rfl | ⟨_,sl',rfl⟩<;>rfl
  ·exact ⟨o1,t.old b o1 h1 hF hba hbt,r⟩
 ·obtain ⟨o1,h1⟩:=p.live b o e
  have hba:b≠a:=fun q=>by rw [q,ha] at e;cases e
  have hbt:tb≠some b:=fun q=>by rw [ht b q] at e;cases e
  by_cases hF:b∈frs (T.at fr)
  ·obtain ⟨sl,h2⟩:=t.fr b o1 h1 hF;exact ⟨_,h2⟩
  ·exact ⟨o1,t.old b o1 h1 hF hba hbt⟩
theorem St.noted{fr:List Env}{J s a tb h'}(st:St (T.at fr) J s)(ha:T.hb.get? a=none/\J a=none)(ht:∀ t,tb=some t->T.hb.get? t=none/\J t=none)(t:zhB (T.at fr) a tb s.heap h'):St (T.at fr) J {s with heap:=h'}:=by
 obtain ⟨h,tk,e⟩:=st.rest
 refine ⟨⟨h',tk,by rw [e]⟩,fun b o hb=>?_,fun b so hb=>?_,st.fresh,st.sysm,st.ro,st.framesOf (fun _ _ h=>h) fun L hL ⟨o,es,ep,e1,d⟩=>?_⟩
 ·refine t.old b o (st.base b o hb) (fun hF=>by rw [(st.fr hF).1] at hb;cases hb) (fun q=>by rw [q,ha.1] at hb;cases hb) fun q=>by rw [(ht b q).1] at hb;cases hb
 ·obtain ⟨o,h1,h2⟩:=st.objs b so hb
  exact ⟨o,t.old b o h1 (fun hF=>by rw [(st.fr hF).2.1] at hb;cases hb) (fun q=>by rw [q,ha.2] at hb;cases hb) (fun q=>by rw [(ht b q).2] at hb;cases hb),h2⟩
 ·obtain ⟨sl,h2⟩:=t.fr L o e1 hL
  exact ⟨_,es,ep,h2,d⟩

def zrC(T:TC)(d:Nat)(sc:Scope)(ctx:List Str)(ps:List Stmt)(w:SW):Prop :=
 ∀ A env Z J s K P outer L,T.fr=env::outer->env.frame=some L->jm sc env->zag T A d->St T J s->qR T env ctx Z J s.heap->w Z J K P ->
  wpAny T.M A (execs ps env) (wS T env ctx J s K) (jL T (own env) J s P) s
theorem qP.own{ps w}(h:qP T d sc ctx ps w):zrC T d sc ctx ps w:=fun A env Z J s K P _ _ _ _=>h A env Z J s K P
theorem zm5(ok:T.Ok){f params body scope n vs J}{w:SW}{Q:V->zc->Prop}{P:Nat->zc->Prop}(fa:zoz T f params body scope)(fo:ztI params scope ctx n)
  (hb:∀ fd us,fd.params=params->fd.defaults=.none->fd.kwdefaults=.none->us.length=n->bindArgs fd ⟨us,[]⟩=pure ((params.args.map (·.arg)).zip us))
  (hs:∀ fr,zrC (T.at fr) d scope ctx body w) (hn:vs.length=n) (hw:w (zdg vs (ctx.length - n)) J (fun o _ J'=>Q (match o with | .ret v=>v | .next=>.none) J') P):zp T (d+1) f vs J Q P:=by
 obtain ⟨a,o,fd,h1,h2,h3,h4,h5,h6,h7,h8,h9,h10,h11,h12⟩:=fa.here
 refine ⟨a,o,fd,h1,h2,h3,fun fr A s us ro st hv=>?_⟩
 subst h6
 have hus:us.length=n:=by rw [hv.length,hn]
 have hbind:=hb fd us h4 h10 h11 hus
 rw [fo.par] at hbind
 have hmemz:∀ x∈(ctx.take n).zip us,x.1∈ctx.take n:=fun x hx=>(List.of_mem_zip (a:=x.1) (b:=x.2) hx).1
 refine wpAny_call (codeAny_call_cells (by have:=ro.depth;exact ltN (lit (@r3 (↑(A.depth)) (↑(recursionLimit)) (↑(d))) V0 V1 [(1,1,.add V0 (.add V2 N1),V1),(0,1,N0,V2)] rfl (ltI this) (nnI _))) (st.base a o h2) h3 (ok.nolimit.keeps st.base) (h12.keeps st.base) h5 hbind h7 (fun x hx=>?_) (fun sB ic=>?_) fo.co fo.gen fo.kind)
 ·have:=fo.kinds x.1 (hmemz x hx)
  cases hq:fd.scope.names.lookup x.1 with
  | none=>rw [hq] at this;cases this
  | some kd =>
   rw [hq] at this
   cases kd<;>first | (cases this;done) | exact .inl rfl | exact .inr ⟨rfl,zgD _ _ hq⟩
 ·obtain ⟨h',tk,rfl,hk⟩:=ic.done
  generalize hL:s.heap.objs.size=L at ic ⊢
  have hdead:∀ b,L<=b->s.heap.get? b=none:=fun b hb=>kbS (by rw [hL];exact hb)
  have hdeadJ:∀ b,L<=b->J b=none:=fun b hb=>st.noneFree (hdead b hb)
  have hdeadb:∀ b,L<=b->T.hb.get? b=none:=fun b hb=>by
   cases e:T.hb.get? b with
   | none=>rfl
   | some ob=>have:=st.base b ob e;rw [hdead b hb] at this;cases this
  have habove:∀ x c,(x,c)∈(callEnvC fd L a).cells->L<=c:=fun x c hm=>kby (ic.above x c hm)
  have hnames:((cellsFrom (L+1) fd.scope.names []).map (·.1)).Nodup:=by
   exact cellsFrom_names fd.scope.names 0 (L+1) [] [] rfl▸fo.hnd
  have eo:jm fd.scope (callEnvC fd L a):=⟨rfl,fo.kind,h8,h9⟩
  have hfs:(callEnvC fd L a).frame=some L:=rfl
  have fis:qR (T.at (callEnvC fd L a::fr)) (callEnvC fd L a) ctx (zdg vs (ctx.length - n)) J h':=by
   refine ⟨fo.nd,⟨_,ic.toInCall.ns,fun i x v hi hx hv'=>?_⟩,fun i x hi hx=>?_,fun x y c hx hy=>name_of_addr ic.apart hx hy,fun x c hm=>kcb (ic.above x c hm),hdeadJ L (kaB _),fun x c hm=>⟨hdeadJ c (habove x c hm),?_⟩,hdeadb L (kaB _),fun x c hm=>hdeadb c (habove x c hm)⟩
   ·have hvi:=zeD _ _ _ _ hv'
    obtain ⟨u,hu,hvu⟩:=hv.get hvi
    have hlt:i<n:=by have:=(kah.mp hvi).1;exact ltN (lit r3 V0 V1 [(2,1,V2,V1),(1,1,V0,V2)] rfl (eqI hn) (ltI this))
    exact ⟨u,zoa _ _ _ _ i x u (fo.nd.sublist (kdB _ _)) (by rw [kcs hlt];exact hi) hu hx,hvu⟩
   ·have hx':fd.scope.names.lookup x=some .cell:=by
     rw [eo.kindOf] at hx
     rcases hx with hx | hx
     ·exact hx
     ·exact absurd rfl (fo.nofree _ (mem_of_lookup hx))
    have:=zgD (x:=x) fd.scope.names (L+1) hx'
    obtain ⟨c,hc⟩:=Option.isSome_iff_exists.mp this
    refine ⟨c,_,hc,ic.cell x c hc,fun v hv'=>?_⟩
    have hvi:=zeD _ _ _ _ hv'
    obtain ⟨u,hu,hvu⟩:=hv.get hvi
    have hlt:i<n:=by have:=(kah.mp hvi).1;exact ltN (lit r3 V0 V1 [(2,1,V2,V1),(1,1,V0,V2)] rfl (eqI hn) (ltI this))
    refine ⟨u,zob _ _ _ _ i x u (fo.nd.sublist (kdB _ _)) (by rw [kcs hlt];exact hi) hu ?_,hvu⟩
    rw [eo.kindOf,hx'];intro e;cases e
   ·exact ⟨_,ic.cell x c (lookup_of_mem_nodup hnames hm)⟩
  have st0:St (T.at fr) J {s with heap:=h',toks:=tk}:=st.grow hk tk
  have st1:St (T.at (callEnvC fd L a::fr)) J {s with heap:=h',toks:=tk}:=by
   refine ⟨st0.rest,st0.base,st0.objs,st0.fresh,st0.sysm,st0.ro,fun e he=>?_⟩
   rcases kad.mp he with rfl | he
   ·obtain ⟨o1,es,ep,e1,d1,_⟩:=ic.toInCall.ns
    refine ⟨?_,L,hfs,hdeadb L (kaB _),hdeadJ L (kaB _),o1,es,ep,e1,d1⟩
    rw [eo.scope,fo.kind];intro q;cases q
   ·exact st0.frames e he
  have hX:∀ b∈own (callEnvC fd L a),s.heap.get? b=none:=fun b hb=>by
   simp only [own,kad,kau] at hb
   rcases hb with hb | ⟨⟨x,c⟩,hm,rfl⟩
   ·exact hdead b (by rw [hb];exact kaB _)
   ·exact hdead _ (habove x c hm)
  refine kat (hs (callEnvC fd L a::fr) (A.deeper _) (callEnvC fd L a) _ J _ _ P fr L rfl hfs eo (ro.deeper _) st1 fis hw) (fun fl s' hp=>?_) fun e s' hp=>?_
  ·obtain ⟨o',Z',J',hfl,st',fr',p',hq⟩:=hp
   have p:=p'.frame hfs (hdead L (kaB _)) hk hX
   cases hfl with
   | next=>exact ⟨_,J',.none,st'.up,p,hq⟩
   | ret hv=>exact ⟨_,J',hv,st'.up,p,hq⟩
  ·obtain ⟨x,J',st',p',hE,hP⟩:=hp
   obtain ⟨ax,C,oe,xs,rfl,hC,⟨q1,q2,q3⟩,q4,q5,q6,q7,q8⟩:=hE
   have hd1:∀ b,h'.get? b=none->s.heap.get? b=none:=fun b e=>by
    cases e':s.heap.get? b with
    | none=>rfl
    | some o=>rw [hk b o e'] at e;cases e
   refine zsu (T:=T.at (callEnvC fd L a::fr)) (L:=L) st' rfl (ro.deeper _).frames hfs q4 q6 (q7.imp id fun ⟨tb,oT,ts,k1,k2,_,k4,k5,k6⟩=>⟨tb,oT,ts,k1,k2,k4,k5,k6⟩) q8 fun h'' tb htb tu nt=>?_
   have htb':∀ t,tb=some t->h'.get? t=none/\T.hb.get? t=none/\J' t=none:=fun t e=>by
    have e1:=htb t e
    rcases q7 with q7 | ⟨tb',oT,ts,k1,k2,k3,k4⟩
    ·rw [q7] at e1;cases e1
    ·rw [k1] at e1;cases e1;exact k3
   have st2:=st'.noted ⟨q2,q3⟩ (fun t e=>(htb' t e).2) tu
   have p2:=p'.noted q1 (fun t e=>(htb' t e).1) tu
   have p3:=p2.frame hfs (hdead L (kaB _)) hk hX
   obtain ⟨t,oT,ts,oe',vs',n1,n2,n3,n4,n5,n6,n7,n8,n9,n10⟩:=nt.tb
   have hs't:s.heap.get? t=none:=hd1 _ (p'.dead n1)
   refine ⟨x,J',st2.up,p3,⟨ax,C,oe',vs',rfl,hC,⟨hd1 _ q1,q2,q3⟩,n2,n3.trans q5,n4,.inr ⟨t,oT,ts,n5,n6,⟨hs't,?_,st'.noneFree n1⟩,n7,n8,n9⟩,n10⟩,hP⟩
   cases e:T.hb.get? t with
   | none=>rfl
   | some ob=>have:=st'.base t ob e;rw [n1] at this;cases this

theorem zqS{fr:List Env}(ok:(T.at fr).Ok){f:Str}{p pos e r}{ws:EWs}(h:zgM (T.at fr) d sc ctx (e::r) ws)(hx:sc.names.lookup f=some .globalImplicit)(hd:(f==("__debug__" : Str))=false:=by kernel_rfl)
  (he:∀ env,starEach (e::r) env=(false,eval e env)::starEach r env:=by intro _;rfl) (hf:∃ a,T.mg f=some (.ref a)/\∃ o fd,T.hb.get? a=some o/\o.data=.func fd):zG (T.at fr) d sc ctx (.Call (.Name f p) (e::r) [] pos) (zr T d f ws):=by
 intro A env Z J s Q P eo ro st fis hw
 obtain ⟨a,hm,o,fd,ho,hdat⟩:=hf
 refine Call_ (Name_function_global (by rw [eo.scope];exact eo.kind) (by rw [eo.kindOf];exact hx) (loadGlobal_global (mg:=T.mg) (by rw [eo.globals];exact st.ns ok.g) hm ?_) hd)
 refine callWith_def hdat ?_ (he env)
 refine h.run A env Z J s J s _ P pos _ eo ro .refl st fis hw fun vs us J1 sB hv st1 p1 fr1 hw1=>⟨st1.base _ _ ho,?_⟩
 obtain ⟨fa,o',fd',g1,g2,g3,g4⟩:=hw1
 rw [hm] at g1;cases g1
 exact kat (g4 fr A sB us ro st1 hv) (fun _ _ x=>x.step p1) fun _ _ x=>x.step p1

end
end Mine
end
section
open PySem
namespace Mine
open PySem.Calls PyProof.Rows

mutual
inductive Rd(J:zc):V->PyData->Prop
 | none:Rd J .none .none
 | bool (b):Rd J (.bool b) (.bool b)
 | int (i):Rd J (.int i) (.int i)
 | str (x):Rd J (.str x) (.str x)
 | list {a xs ds}:J a=some (.list xs)->Rds J xs ds->Rd J (.ref a) (.list ds)
 | ro {a xs ds}:J a=some (.ro xs)->Rds J xs ds->Rd J (.ref a) (.list ds)
 | tup {a xs ds}:J a=some (.tup xs)->Rds J xs ds->Rd J (.ref a) (.tuple ds)
inductive Rds(J:zc):List V->List PyData->Prop
 | nil:Rds J [] []
 | cons {v vs d ds}:Rd J v d->Rds J vs ds->Rds J (v::vs) (d::ds)
end
section
variable {T:TC} {d:Nat} {sc:Scope} {ctx:List Str}
theorem znA{J s}(st:St T J s){v d}(h:Rd J v d):∀ u,VIs v u->∃ as,Reads s.heap u d as:=by
 refine Rd.rec (motive_1:=fun v d _=>∀ u,VIs v u->∃ as,Reads s.heap u d as) (motive_2:=fun vs ds _=>∀ us,yf vs us->∃ as,ReadsAll s.heap us ds as) ?_ ?_ ?_ ?_ ?_ ?_ ?_ ?_ ?_ h
 ·intro u h;cases h;exact ⟨_,.none⟩
 ·intro b u h;cases h;exact ⟨_,.bool b⟩
 ·intro i u h;cases h;exact ⟨_,.int i _⟩
 ·intro x u h;cases h;exact ⟨_,.str x _⟩
 ·intro a xs ds hx _ ih u h
  cases h
  obtain ⟨o,ho,hl,vs,n,rfl,hv⟩:=st.objs a _ hx
  obtain ⟨as,h⟩:=ih _ hv
  exact ⟨_,.list ho rfl rfl h⟩
 ·intro a xs ds hx _ ih u h
  cases h
  obtain ⟨o,ho,hl,hc,vs,n,hd,hv⟩:=st.objs a _ hx
  obtain ⟨as,h⟩:=ih _ hv
  exact ⟨_,.list ho hc hd h⟩
 ·intro a xs ds hx _ ih u h
  cases h
  obtain ⟨o,ho,hl,vs,n,rfl,hv⟩:=st.objs a _ hx
  obtain ⟨as,h⟩:=ih _ hv
  exact ⟨_,.tuple ho rfl rfl h⟩
 ·intro us h;cases h;exact ⟨_,.nil⟩
 ·intro v vs d ds _ _ ih ihs us h
  cases h with
  | cons hv hvs =>
   obtain ⟨as,h1⟩:=ih _ hv
   obtain ⟨bs,h2⟩:=ihs _ hvs
   exact ⟨_,.cons h1 h2⟩
theorem Rd.reads{J s}(st:St T J s){v d u}(h:Rd J v d)(hv:VIs v u):∃ as,Reads s.heap u d as:=znA st h u hv

inductive Eqv(J:zc)(va vb:V)(k:Bool->Prop):Prop | mk (da db) (h1:Rd J va da) (h2:Rd J vb db) (h3:SeqAt.shaped da=true) (h4:SeqAt.shaped db=true) (h5:k (PyData.eqv da db)):Eqv J va vb k
def eqW(neg:Bool)(a b:EW):EW:=fun Z J Q P=>a Z J (fun va J1=>b Z J1 (fun vb J2=>Eqv J2 va vb fun t=>Q (.bool (if neg then !t else t)) J2) P) P
noncomputable def zpZ(neg:Bool):CmpOp:=if neg then .NotEq else .Eq
theorem zi9(neg:Bool){A E s J va vb ua ub}{k:Bool->Prop}{Q:Value->Shared->Prop}(ro:zag T A d)(st:St T J s)(h:Eqv J va vb k)(ha:VIs va ua)(hb:VIs vb ub)(hq:∀ t,k t->Q (.bool (if neg then !t else t)) s) :
  wpAny T.M A (compareOp (zpZ neg) ua ub) Q E s:=by
 obtain ⟨da,db,r1,r2,s1,s2,hk⟩:=h
 obtain ⟨as,h1⟩:=r1.reads st ha
 obtain ⟨bs,h2⟩:=r2.reads st hb
 have hu:A.units+64<cLine:=by have:=ro.units;omega
 cases neg
 ·exact SeqAt.compareEq_shaped h1 h2 s1 s2 hu (hq _ hk)
 ·exact SeqAt.compareNe_shaped h1 h2 s1 s2 hu (hq _ hk)
theorem zgT(neg:Bool)(r:Expr):behindInMarks (zpZ neg) r=false:=zgS (by cases neg<;>rfl) r
theorem zs6(neg:Bool){l r pos op}{a b:EW}(ho:op=zpZ neg)(hl:zG T d sc ctx l a)(hr:zG T d sc ctx r b):zG T d sc ctx (.Compare l [op] [r] pos) (eqW neg a b):=by
 subst ho
 intro A env Z J s Q P eo ro st fr hw
 refine wpAny_Compare1 (hl.run eo ro st fr hw ?_) (zgT neg r)
 intro va ua J1 sB v1 st1 p1 fr1 hw1
 refine hr.then eo ro p1 st1 fr1 hw1 ?_
 intro vb ub J2 sM v2 st2 p2 fr2 hw2
 exact zi9 neg ro st2 hw2 v1 v2 fun t ht=>⟨_,_,.bool _,st2,p2,ht⟩
theorem zbF(neg:Bool){l r pos op}{a b:EW}(ho:op=zpZ neg)(hl:zG T d sc ctx l a)(hr:zG T d sc ctx r b):zcg T d sc ctx (.Compare l [op] [r] pos) (eqW neg a b):=by
 subst ho
 intro A env Z J s Q P eo ro st fr hw
 refine wpAny_isTrue_Compare1 (hl.run eo ro st fr hw ?_) (zgT neg r)
 intro va ua J1 sB v1 st1 p1 fr1 hw1
 refine hr.then eo ro p1 st1 fr1 hw1 ?_
 intro vb ub J2 sM v2 st2 p2 fr2 hw2
 exact zi9 neg ro st2 hw2 v1 v2 fun t ht=>kaY ⟨_,st2,p2,ht⟩

def eqB(neg:Bool)(a b:EW):EW:=fun Z J Q P=>a Z J (fun va J1=>b Z J1 (fun vb J2=>va.asBool fun x=>vb.asBool fun y=>Q (.bool (if neg then x != y else x==y)) J2) P) P
theorem ztD(neg:Bool){A E s}{J:zc}(ro:zag T A d)(st:St T J s){x y:Bool}{Q:Value->Shared->Prop}(h:Q (.bool (if neg then x != y else x==y)) s):wpAny T.M A (compareOp (zpZ neg) (.bool x) (.bool y)) Q E s:=by
 refine zi9 neg ro st (va:=.bool x) (vb:=.bool y) (k:=fun t=>t=(x==y)) ⟨_,_,.bool x,.bool y,by rfl,by rfl,rfl⟩ (.bool _) (.bool _) fun t ht=>?_
 subst ht
 cases neg
 ·exact h
 ·exact h
theorem zgP(neg:Bool){l r pos op}{a b:EW}(ho:op=zpZ neg)(hl:zG T d sc ctx l a)(hr:zG T d sc ctx r b):zcg T d sc ctx (.Compare l [op] [r] pos) (eqB neg a b):=by
 subst ho
 intro A env Z J s Q P eo ro st fr hw
 refine wpAny_isTrue_Compare1 (hl.run eo ro st fr hw ?_) (zgT neg r)
 intro va ua J1 sB v1 st1 p1 fr1 hw1
 refine hr.then eo ro p1 st1 fr1 hw1 ?_
 intro vb ub J2 sM v2 st2 p2 fr2 hw2
 obtain ⟨x,hw3⟩:=hw2.get v1
 obtain ⟨y,hw4⟩:=hw3.get v2
 exact ztD neg ro st2 (kaY ⟨_,st2,p2,hw4⟩)

def zbg(cB cC:Cmp)(a b e:EW):EW:=fun Z J Q P =>
 a Z J (fun va J1=>b Z J1 (fun vb J2=>va.asInt fun x=>vb.asInt fun y=>if cB.run x y then e Z J2 (fun ve J3=>ve.asInt fun z=>Q (.bool (cC.run y z)) J3) P else Q (.bool false) J2) P) P
theorem zgk(cB cC:Cmp)(rB rC:Expr):lastMarks [cB.op,cC.op] [rB,rC]=false:=by
 show lastMarks [cC.op] [rC]=false
 exact zeA cC rC
theorem zoL(cB cC:Cmp){l rB rC pos oB oC}{a b e:EW}(h₁:oB=cB.op)(h₂:oC=cC.op)(hl:zG T d sc ctx l a)(hr:zG T d sc ctx rB b)(he:zG T d sc ctx rC e):zG T d sc ctx (.Compare l [oB,oC] [rB,rC] pos) (zbg cB cC a b e):=by
 subst h₁ h₂
 intro A env Z J s Q P eo ro st fr hw
 refine Compare_chain (rs:=[]) (hl.run eo ro st fr hw fun va ua J1 sB v1 st1 p1 fr1 hw1=>?_) (zgk cB cC rB rC)
 refine chain_link (hr.then eo ro p1 st1 fr1 hw1 fun vb ub J2 sM v2 st2 p2 fr2 hw2=>?_)
 obtain ⟨x,t,hw3⟩:=hw2.get v1
 obtain ⟨y,u,hw4⟩:=hw3.get v2
 refine zcZ cB (kaY ?_)
 cases hc:cB.run x y with
 | false=>rw [hc] at hw4;exact ⟨_,_,.bool _,st2,p2,hw4⟩
 | true =>
  rw [hc] at hw4
  refine chain_last (he.then eo ro p2 st2 fr2 hw4 fun ve ue J3 sD v3 st3 p3 fr3 hw5=>?_)
  obtain ⟨z,t',hw6⟩:=hw5.get v3
  exact zcZ cC ⟨_,_,.bool _,st3,p3,hw6⟩
theorem zbv(cB cC:Cmp){l rB rC pos oB oC}{a b e:EW}(h₁:oB=cB.op)(h₂:oC=cC.op)(hl:zG T d sc ctx l a)(hr:zG T d sc ctx rB b)(he:zG T d sc ctx rC e):zcg T d sc ctx (.Compare l [oB,oC] [rB,rC] pos) (zbg cB cC a b e):=by
 subst h₁ h₂
 intro A env Z J s Q P eo ro st fr hw
 refine isTrue_chain (rs:=[]) (hl.run eo ro st fr hw fun va ua J1 sB v1 st1 p1 fr1 hw1=>?_) (zgk cB cC rB rC)
 refine test_link (hr.then eo ro p1 st1 fr1 hw1 fun vb ub J2 sM v2 st2 p2 fr2 hw2=>?_)
 obtain ⟨x,t,hw3⟩:=hw2.get v1
 obtain ⟨y,u,hw4⟩:=hw3.get v2
 refine zcZ cB (kaY ?_)
 cases hc:cB.run x y with
 | false=>rw [hc] at hw4;exact ⟨_,st2,p2,hw4⟩
 | true =>
  rw [hc] at hw4
  refine test_last (he.then eo ro p2 st2 fr2 hw4 fun ve ue J3 sD v3 st3 p3 fr3 hw5=>?_)
  obtain ⟨z,t',hw6⟩:=hw5.get v3
  exact zcZ cC (kaY ⟨_,st3,p3,hw6⟩)

def zlV(xs:List V)(k:List Bool->Prop):Prop:=∃ bs:List Bool,xs=bs.map .bool/\k bs
def zoy(a:EW):EW:=fun Z J Q P=>a Z J (fun v J1=>v.asRef fun p=>qG J1 p fun xs=>zlV xs fun bs=>Q (.bool (bs.all id)) J1) P
def zsU(a:EW):EW:=fun Z J Q P=>a Z J (fun v J1=>v.asRef fun p=>qG J1 p fun xs=>zlV xs fun bs=>Q (.bool (bs.any id)) J1) P
theorem zif{bs:List Bool}{us:List Value}(h:yf (bs.map .bool) us):us=bs.map .bool:=by
 induction bs generalizing us with
 | nil=>cases h;rfl
 | cons b r ih=>cases h with | cons h1 h2=>cases h1;rw [ih h2];rfl
theorem znC(bs:List Bool)(f:Bool->Bool):(kab bs.length).all (fun i=>f (bs.getD i false))=bs.all f:=by
 rw [ka6]
 simp only [kaX,kam]
 constructor
 ·intro h x hx
  obtain ⟨i,hi,rfl⟩:=kaO hx
  have:=h i hi
  simpa [kb3,hi] using this
 ·intro h i hi
  have:=h bs[i] (kbo hi)
  simpa [kb3,hi] using this
theorem znB(bs:List Bool)(f:Bool->Bool):(kab bs.length).any (fun i=>f (bs.getD i false))=bs.any f:=by
 rw [ka6]
 simp only [kcd,kam]
 constructor
 ·rintro ⟨i,hi,h⟩
  exact ⟨bs[i],kbo hi,by simpa [kb3,hi] using h⟩
 ·rintro ⟨x,hx,h⟩
  obtain ⟨i,hi,rfl⟩:=kaO hx
  exact ⟨i,hi,by simpa [kb3,hi] using h⟩
theorem zga(ok:T.Ok)(B:Blt T){p pos e}{a:EW}(h:zG T d sc ctx e a)(hx:sc.names.lookup ("all" : Str)=some .globalImplicit:=by kernel_rfl)
  (he:∀ env,starEach [e] env=[(false,eval e env)]:=by intro _;rfl) (C:T.calm=none:=by assumption):zG T d sc ctx (.Call (.Name "all" p) [e] [] pos) (zoy a):=by
 refine zef ok h hx (B.none _ (by decide)) (id := "all") (by decide +kernel) (by decide) (by decide) (fun Z J Q P hw=>⟨_,hw,fun A v u J0 sa J1 sB E ro hv st1 p1 hw1=>?_⟩) he
 obtain ⟨q,hw2⟩:=hw1.get hv
 obtain ⟨xs,hx,bs,rfl,hw3⟩:=hw2.get
 obtain ⟨us,hl,hv,hz,_⟩:=st1.list (.inl hx)
 have hu:=zif hv
 refine call_all_walk (wpAny_pyIter_list hl ?_)
 refine ⟨_,_,_,_,_,_,fun i=>bs.getD i false,rfl,Walks.list (A:=A.in1) (ro.handled C) _ q (kbd (st1.lt hx)) us,⟨⟨_,kaF _ rfl,rfl,rfl⟩,hl.push _⟩,fun i v s' Q' E' hP hQ=>?_,fun h' tk hk=>?_⟩
 ·have hP':us.toList[i]?=some v:=by simpa using hP
  rw [hu,kaP] at hP'
  cases hb:bs[i]? with
  | none=>rw [hb] at hP';cases hP'
  | some b =>
   rw [hb] at hP';cases hP'
   refine kaY ?_
   simpa [kb3,hb] using hQ
 ·have hlen:us.size=bs.length:=by rw [hz];simp
  have hall:((kab bs.length).all fun i=>bs.getD i false)=bs.all id:=znC bs id
  rw [hlen,hall]
  have st2:=(st1.push {cls:=.type "list_iterator", data:=.fields #[.ref q,.int 0 0]} sB.toks).off (wr:=[sB.heap.objs.size]) (by simp;exact ⟨st1.sizeFree,st1.hbSize,st1.notFr (get?_size _)⟩) hk tk
  have dead:sa.heap.get? sB.heap.objs.size=none:=by
   cases e:sa.heap.get? sB.heap.objs.size with
   | none=>rfl
   | some o=>obtain ⟨o',h'⟩:=p1.live _ _ e;rw [get?_size] at h';cases h'
  exact ⟨_,_,.bool _,st2,(p1.push {cls:=.type "list_iterator", data:=.fields #[.ref q,.int 0 0]} sB.toks).off (wr:=[sB.heap.objs.size]) (by simpa using dead) hk tk,hw3⟩
theorem zqU(ok:T.Ok)(B:Blt T){p pos e}{a:EW}(h:zG T d sc ctx e a)(hx:sc.names.lookup ("any" : Str)=some .globalImplicit:=by kernel_rfl)
  (he:∀ env,starEach [e] env=[(false,eval e env)]:=by intro _;rfl) (C:T.calm=none:=by assumption):zG T d sc ctx (.Call (.Name "any" p) [e] [] pos) (zsU a):=by
 refine zef ok h hx (B.none _ (by decide)) (id := "any") (by decide +kernel) (by decide) (by decide) (fun Z J Q P hw=>⟨_,hw,fun A v u J0 sa J1 sB E ro hv st1 p1 hw1=>?_⟩) he
 obtain ⟨q,hw2⟩:=hw1.get hv
 obtain ⟨xs,hx,bs,rfl,hw3⟩:=hw2.get
 obtain ⟨us,hl,hv,hz,_⟩:=st1.list (.inl hx)
 have hu:=zif hv
 refine call_any_walk (wpAny_pyIter_list hl ?_)
 refine ⟨_,_,_,_,_,_,fun i=>bs.getD i false,rfl,Walks.list (A:=A.in1) (ro.handled C) _ q (kbd (st1.lt hx)) us,⟨⟨_,kaF _ rfl,rfl,rfl⟩,hl.push _⟩,fun i v s' Q' E' hP hQ=>?_,fun h' tk hk=>?_⟩
 ·have hP':us.toList[i]?=some v:=by simpa using hP
  rw [hu,kaP] at hP'
  cases hb:bs[i]? with
  | none=>rw [hb] at hP';cases hP'
  | some b =>
   rw [hb] at hP';cases hP'
   refine kaY ?_
   simpa [kb3,hb] using hQ
 ·have hlen:us.size=bs.length:=by rw [hz];simp
  have hany:((kab bs.length).any fun i=>bs.getD i false)=bs.any id:=znB bs id
  rw [hlen,hany]
  have st2:=(st1.push {cls:=.type "list_iterator", data:=.fields #[.ref q,.int 0 0]} sB.toks).off (wr:=[sB.heap.objs.size]) (by simp;exact ⟨st1.sizeFree,st1.hbSize,st1.notFr (get?_size _)⟩) hk tk
  have dead:sa.heap.get? sB.heap.objs.size=none:=by
   cases e:sa.heap.get? sB.heap.objs.size with
   | none=>rfl
   | some o=>obtain ⟨o',h'⟩:=p1.live _ _ e;rw [get?_size] at h';cases h'
  exact ⟨_,_,.bool _,st2,(p1.push {cls:=.type "list_iterator", data:=.fields #[.ref q,.int 0 0]} sB.toks).off (wr:=[sB.heap.objs.size]) (by simpa using dead) hk tk,hw3⟩
end
end Mine
end
section
open PySem
namespace Mine
open PySem.Calls PyProof.Rows

noncomputable def zJ:Stmt->List Stmt
 | .FunctionDef _ _ b _ _ _ _ _ _ _=>b
 | _=>[]
noncomputable def zz:Stmt->Scope
 | .FunctionDef _ _ _ _ _ _ sc _ _ _=>sc
 | _=>default
noncomputable def jA:Stmt->Arguments
 | .FunctionDef _ a _ _ _ _ _ _ _ _=>a
 | _=>default
noncomputable def zF(p:Program)(i:Nat):Stmt:=p.main.body.getD i (.Pass default)

noncomputable def zmo(sc:Scope)(ctx:List Str)(scope:Scope)(j:Nat)(x:Str):Bool :=
 scope.kind==.function && scope.names.all (fun y=>y.2 != .cell) && scope.names.all (fun y=>y.2 != .local || scope.names.lookup y.1==some .local) && (ctx[j]?==some x && scope.names.lookup x==some .local) &&
 scope.names.all (fun y=>y.2 != .free || (zhH (sc.names.lookup y.1) && sc.names.lookup y.1 != some .local && ctx.contains y.1)) && ctx.all fun y=>scope.names.lookup y != some .local || y==x
theorem zpm{sc ctx scope j x}(h:zmo sc ctx scope j x=true):zr3 sc ctx scope j x:=by
 unfold zmo at h
 simp only [kaJ,kaX,kbu,bne_iff_ne,ne_eq,beq_iff_eq] at h
 obtain ⟨⟨⟨⟨⟨h1,h2⟩,h3⟩,h4⟩,h5⟩,h6⟩:=h
 refine ⟨⟨h1,h2,fun y hy hl=>?_,fun y hy hf=>?_⟩,h4,fun y hy hl=>?_⟩
 ·rcases h3 y hy with h | h
  ·exact absurd hl h
  ·exact h
 ·rcases h5 y hy with h | h
  ·exact absurd hf h
  ·refine ⟨h.1.1,h.1.2,?_⟩
   have:=kbh.mp h.2
   exact kbR this
 ·rcases h6 y hy with h | h
  ·exact absurd hl h
  ·exact h

noncomputable def zmp(sc:Scope)(ctx:List Str)(scope:Scope)(j:Nat)(x:Str):Bool :=
 scope.kind==.function && scope.names.all (fun y=>y.2 != .local || scope.names.lookup y.1==some .local) && (scope.names.filterMap (fun y=>if y.2==.cell then some y.1 else none)==[x]) && (ctx[j]?==some x && scope.names.lookup x==some .cell) &&
 scope.names.all (fun y=>y.2 != .free || (y.1 != x && zhH (sc.names.lookup y.1) && sc.names.lookup y.1 != some .local && ctx.contains y.1)) &&
 ctx.all fun y=>match scope.names.lookup y with | some .local=>false | some .cell=>y==x | _=>true
theorem wD:∀ (names:List (Str × NameKind)) (L:Addr) (cl:List (Str × Addr)),(∀ x,names.filterMap (fun y=>if y.2==.cell then some y.1 else none)=[x]->cellsFrom L names cl=(x,L)::cl)/\(names.filterMap (fun y=>if y.2==.cell then some y.1 else none)=[]->cellsFrom L names cl=cl)
 | [],_,_=>⟨fun _ h=>(by simp at h),fun _=>rfl⟩
 | (n,k)::r,L,cl=>by
  unfold cellsFrom
  by_cases hk:(k==NameKind.cell)=true
  ·simp only [kbX,hk,if_true]
   refine ⟨fun x h=>?_,fun h=>by simp at h⟩
   simp only [List.cons.injEq] at h
   rw [(wD r (L+1) ((n,L)::cl)).2 h.2,h.1]
  ·simp only [kbX,hk]
   exact wD r L cl
theorem zpo{sc ctx scope j x}(h:zmp sc ctx scope j x=true):zjm sc ctx scope j x:=by
 unfold zmp at h
 simp only [kaJ,kaX,kbu,bne_iff_ne,ne_eq,beq_iff_eq] at h
 obtain ⟨⟨⟨⟨⟨h1,h3⟩,h2⟩,h4⟩,h5⟩,h6⟩:=h
 refine ⟨h1,fun y hy hl=>?_,fun L cl=>(wD _ L cl).1 x (by simpa using h2),h4,fun y hy hf=>?_,fun y hy k hk=>?_⟩
 ·rcases h3 y hy with h | h
  ·exact absurd hl h
  ·exact h
 ·rcases h5 y hy with h | h
  ·exact absurd hf h
  ·exact ⟨h.1.1.1,h.1.1.2,h.1.2,kbR (kbh.mp h.2)⟩
 ·have:=h6 y hy
  rw [hk] at this
  cases k<;>simp_all
noncomputable def zrp(sc:Scope)(ctx:List Str)(scope:Scope)(j:Nat)(x:Str):Bool:=zmo sc ctx scope j x || zmp sc ctx scope j x
theorem zU{sc ctx scope j x}(h:zrp sc ctx scope j x=true:=by kernel_rfl):yX sc ctx scope j x:=by
 rcases (kbu ..).mp h with h | h
 ·exact .inl (zpm h)
 ·exact .inr (zpo h)

noncomputable def zlG(params:Arguments)(scope:Scope)(ctx:List Str)(n:Nat):Bool :=
 scope.kind==.function && !scope.isCoroutine && !scope.isGenerator && scope.names.all (fun y=>y.2 != .free) && decide ctx.Nodup && decide ((cellsFrom 0 scope.names []).map (·.1)).Nodup &&
 (params.args.map (·.arg)==ctx.take n) && (ctx.take n).all fun x=>zcu (scope.names.lookup x)
theorem zm4{params scope ctx n}(h:zlG params scope ctx n=true):ztI params scope ctx n:=by
 unfold zlG at h
 simp only [kaJ,kaX,bne_iff_ne,ne_eq,beq_iff_eq,kbD,decide_eq_true_eq] at h
 obtain ⟨⟨⟨⟨⟨⟨⟨h1,h2⟩,h3⟩,h4⟩,h5⟩,h6⟩,h7⟩,h8⟩:=h
 exact ⟨h1,h2,h3,h4,h5,h6,h7,h8⟩

section
variable {T:TC} {d:Nat} {sc:Scope} {ctx:List Str}
theorem zed(ok:T.Ok){x:Str}{i:Int}{pos}(hm:∃ t,T.mg x=some (.int i t))(hx:sc.names.lookup x=some .globalImplicit:=by kernel_rfl)(hd:(x==("__debug__" : Str))=false:=by kernel_rfl):zG T d sc ctx (.Name x pos) (val (.int i)):=by
 intro A env Z J s Q P eo ro st fr hw
 obtain ⟨t,hm⟩:=hm
 exact Name_function_global (by rw [eo.scope];exact eo.kind) (by rw [eo.kindOf];exact hx) (loadGlobal_global (mg:=T.mg) (by rw [eo.globals];exact st.ns ok.g) hm ⟨_,_,.int i t,st,.refl,hw⟩) hd
def zc3(T:TC)(f:Str):Prop:=∃ a,T.mg f=some (.ref a)/\∃ o fd,T.hb.get? a=some o/\o.data=.func fd
theorem zoz.known{f params body scope}(h:zoz T f params body scope):zc3 T f :=
 let ⟨a,o,fd,h1,h2,h3,_⟩:=h.here;⟨a,h1,o,fd,h2,h3⟩
end
end Mine
end
section
open PySem
namespace Mine

section
variable (Z:zK) (J:zc) (Q:V->zc->Prop) (K:Out->zK->zc->Prop) (P:Nat->zc->Prop)
@[simp] theorem z1 (v):val v Z J Q P=Q v J:=rfl
@[simp] theorem zu (i):loc i Z J Q P=match qz Z i with | some v=>Q v J | none=>False:=rfl
@[simp] theorem q9 (a b:EW):j2 a b Z J Q P=a Z J (fun va J1=>b Z J1 (fun vb J2=>va.asInt fun x=>vb.asInt fun y=>Q (.int (x+y)) J2) P) P:=by simp [j2,opI]
@[simp] theorem yK (a b:EW):zaL a b Z J Q P=a Z J (fun va J1=>b Z J1 (fun vb J2=>va.asInt fun x=>vb.asInt fun y=>Q (.int (x - y)) J2) P) P:=by simp [zaL,opI]
@[simp] theorem zd1 (a b:EW):zbW a b Z J Q P=a Z J (fun va J1=>b Z J1 (fun vb J2=>va.asInt fun x=>vb.asInt fun y=>IntMulOk x y/\Q (.int (x*y)) J2) P) P:=rfl
@[simp] theorem yy (a b:EW):wn a b Z J Q P=a Z J (fun va J1=>b Z J1 (fun vb J2=>va.asInt fun x=>vb.asInt fun y=>(y≠0/\Builtin.divisionGoesByPylong x y=false)/\Q (.int (x.fdiv y)) J2) P) P:=rfl
@[simp] theorem jv (a b:EW):jG a b Z J Q P=a Z J (fun va J1=>b Z J1 (fun vb J2=>va.asInt fun x=>vb.asInt fun y=>y≠0/\Q (.int (x.fmod y)) J2) P) P:=rfl
@[simp] theorem zqm (a b:EW):zmI a b Z J Q P=a Z J (fun va J1=>b Z J1 (fun vb J2=>va.asInt fun x=>vb.asInt fun y=>zou x y/\Q (.int (x ^ y.toNat)) J2) P) P:=rfl
@[simp] theorem zlj (a:EW):zmQ a Z J Q P=a Z J (fun v J1=>v.asInt fun x=>Q (.int (-x)) J1) P:=rfl
@[simp] theorem qA (c) (a b:EW):qk c a b Z J Q P=a Z J (fun va J1=>b Z J1 (fun vb J2=>va.asInt fun x=>vb.asInt fun y=>Q (.bool (c.run x y)) J2) P) P:=rfl
@[simp] theorem zaU (a:EW):tst a Z J Q P=a Z J (fun v J1=>v.asBool fun b=>Q (.bool b) J1) P:=rfl
@[simp] theorem wK (a:EW):zc9 a Z J Q P=a Z J (fun v J1=>v.asBool fun b=>Q (.bool (!b)) J1) P:=rfl
@[simp] theorem zam (a b:EW):wQ a b Z J Q P=a Z J (fun v J1=>v.asBool fun t=>if t then b Z J1 Q P else Q (.bool false) J1) P:=rfl
@[simp] theorem zej (a b:EW):orW a b Z J Q P=a Z J (fun v J1=>v.asBool fun t=>if t then Q (.bool true) J1 else b Z J1 Q P) P:=rfl
@[simp] theorem zom (c a b:EW):zsP c a b Z J Q P=c Z J (fun v J1=>v.asBool fun t=>if t then a Z J1 Q P else b Z J1 Q P) P:=rfl
@[simp] theorem zM (Q:List V->zc->Prop):zv Z J Q P=Q [] J:=rfl
@[simp] theorem zC (a:EW) (r:EWs) (Q:List V->zc->Prop):zd a r Z J Q P=a Z J (fun v J1=>r Z J1 (fun vs J2=>Q (v::vs) J2) P) P:=rfl
@[simp] theorem jp (ws:EWs):qw ws Z J Q P=ws Z J (fun vs J1=>vs.length<=lim/\yT (.list vs) J1 Q) P:=rfl
@[simp] theorem zaY (ws:EWs):zau ws Z J Q P=ws Z J (fun vs J1=>vs.length<=lim/\yT (.tup vs) J1 Q) P:=rfl
@[simp] theorem qv (a i:EW):zT a i Z J Q P=a Z J (fun va J1=>i Z J1 (fun vi J2=>va.asRef fun p=>vi.asInt fun k=>0<=k/\yo J2 p fun xs=>yh xs k.toNat fun v=>Q v J2) P) P:=rfl
@[simp] theorem jw (a:EW):yO a Z J Q P=a Z J (fun v J1=>v.asRef fun p=>zay J1 p fun n=>Q (.int n) J1) P:=rfl
@[simp] theorem zfw (a:EW):zfl a Z J Q P=a Z J (fun v J1=>v.asRef fun p=>yo J1 p fun xs=>yT (.list xs) J1 Q) P:=rfl
@[simp] theorem zls (a:EW):zre a Z J Q P=a Z J (fun v J1=>v.asBool fun b=>Q (.int (if b then 1 else 0)) J1) P:=rfl
@[simp] theorem zdc (ty) (a:EW):zlq ty a Z J Q P=a Z J (fun v J1=>isi ty J1 v fun b=>Q (.bool b) J1) P:=rfl
@[simp] theorem zju (a b:EW):mulL a b Z J Q P=a Z J (fun va J1=>b Z J1 (fun vb J2=>va.asRef fun p=>vb.asInt fun k=>qG J2 p fun xs=>k<2 ^ 62/\-(2 ^ 62)<=k/\xs.length*k.toNat<=lim/\yT (.list (kaE k.toNat xs).flatten) J2 Q) P) P:=rfl
@[simp] theorem zgK (a b:EW):zl3 a b Z J Q P=a Z J (fun va J1=>b Z J1 (fun vb J2=>va.asRef fun p=>vb.asRef fun q=>qG J2 p fun xs=>qG J2 q fun ys=>xs.length+ys.length<=lim/\yT (.list (xs++ys)) J2 Q) P) P:=rfl
@[simp] theorem zfu (a b:EW):zjy a b Z J Q P=a Z J (fun va J1=>b Z J1 (fun vb J2=>va.asRef fun p=>vb.asInt fun k=>0<=k/\zaI J2 p fun xs=>yT (.list (xs.drop k.toNat)) J2 Q) P) P:=rfl
@[simp] theorem zgZ (a b:EW):zhG a b Z J Q P=a Z J (fun va J1=>b Z J1 (fun vb J2=>va.asRef fun p=>vb.asInt fun k=>0<=k/\zaI J2 p fun xs=>yT (.list (xs.take k.toNat)) J2 Q) P) P:=rfl
@[simp] theorem zgI (a b:EW):zkY a b Z J Q P=a Z J (fun va J1=>va.asRef fun p=>qG J1 p (fun _=>True)/\b Z J1 (fun vb J2=>qG J2 p fun xs=>xs.length<lim/\Q .none (put J2 p (.list (xs++[vb])))) P) P:=rfl
@[simp] theorem zlt (neg) (a b:EW):inD neg a b Z J Q P=a Z J (fun va J1=>b Z J1 (fun vb J2=>va.asInt fun k=>vb.asRef fun p=>yI J2 p fun kvs=>Q (.bool (if neg then !zje kvs k else zje kvs k)) J2) P) P:=rfl
@[simp] theorem zaW (a b:EW):zdK a b Z J Q P=a Z J (fun va J1=>b Z J1 (fun vb J2=>va.asInt fun k=>yT (.dict [(k,vb)]) J2 Q) P) P:=rfl
@[simp] theorem zm6 (neg) (a b:EW):eqW neg a b Z J Q P=a Z J (fun va J1=>b Z J1 (fun vb J2=>Eqv J2 va vb fun t=>Q (.bool (if neg then !t else t)) J2) P) P:=rfl
@[simp] theorem zoo (neg) (a b:EW):eqB neg a b Z J Q P=a Z J (fun va J1=>b Z J1 (fun vb J2=>va.asBool fun x=>vb.asBool fun y=>Q (.bool (if neg then x != y else x==y)) J2) P) P:=rfl
@[simp] theorem zet (cB cC) (a b e:EW):zbg cB cC a b e Z J Q P=a Z J (fun va J1=>b Z J1 (fun vb J2=>va.asInt fun x=>vb.asInt fun y=>if cB.run x y then e Z J2 (fun ve J3=>ve.asInt fun z=>Q (.bool (cC.run y z)) J3) P else Q (.bool false) J2) P) P:=rfl
@[simp] theorem zl1 (a:EW):zoy a Z J Q P=a Z J (fun v J1=>v.asRef fun p=>qG J1 p fun xs=>zlV xs fun bs=>Q (.bool (bs.all id)) J1) P:=rfl
@[simp] theorem zor (a:EW):zsU a Z J Q P=a Z J (fun v J1=>v.asRef fun p=>qG J1 p fun xs=>zlV xs fun bs=>Q (.bool (bs.any id)) J1) P:=rfl
@[simp] theorem zL (T d f) (ws:EWs):zr T d f ws Z J Q P=ws Z J (fun vs J1=>zp T d f vs J1 Q P) P:=rfl
@[simp] theorem yH (j) (src:zij) (c) (e:EW):qU j src c e Z J Q P=src Z J (fun xs chk J1=>xs.length<=lim/\zaZ chk j c e Z xs [] J1 Q) P:=rfl
@[simp] theorem zak (a:EW) (Q):zai a Z J Q P=a Z J (fun v J1=>v.asRef fun p=>zbh J1 p fun xs chk=>Q xs chk J1) P:=rfl
@[simp] theorem yu (a:EW) (Q):jl a Z J Q P=a Z J (fun v J1=>v.asInt fun n=>jJ n/\Q (rng 0 n.toNat) (fun _=>True) J1) P:=rfl
@[simp] theorem zdE (a b:EW) (Q):zf3 a b Z J Q P=a Z J (fun va J1=>b Z J1 (fun vb J2=>va.asInt fun m=>vb.asInt fun n=>jJ m/\jJ n/\Q (rng m (n - m).toNat) (fun _=>True) J2) P) P:=rfl
@[simp] theorem qQ:zP Z J K P=K .next Z J:=rfl
@[simp] theorem zD (a b:SW):zt a b Z J K P=a Z J (fun o Z1 J1=>match o with | .next=>b Z1 J1 K P | .ret v=>K (.ret v) Z1 J1) P:=rfl
@[simp] theorem jQ (a:EW):qi a Z J K P=a Z J (fun v J1=>K (.ret v) Z J1) P:=rfl
@[simp] theorem qh (i) (a:EW):zY i a Z J K P=a Z J (fun v J1=>K .next (jP Z i v) J1) P:=rfl
@[simp] theorem zjD (is) (a:EW):zjE is a Z J K P=a Z J (fun v J1=>zgF (.tup is) v Z J1 fun Z'=>K .next Z' J1) P:=rfl
@[simp] theorem jD (a:EW):qt a Z J K P=a Z J (fun _ J1=>K .next Z J1) P:=rfl
@[simp] theorem qr (c:EW) (a b:SW):qy c a b Z J K P=c Z J (fun v J1=>v.asBool fun t=>if t then a Z J1 K P else b Z J1 K P) P:=rfl
@[simp] theorem zml:ztm Z J K P=False:=rfl
@[simp] theorem wo (a i e:EW):zaj a i e Z J K P=e Z J (fun ve J1=>a Z J1 (fun va J2=>i Z J2 (fun vi J3=>va.asRef fun p=>vi.asInt fun k=>zd5 J3 p k ve (K .next Z)) P) P) P:=rfl
@[simp] theorem yL (t) (src:zij) (b:SW):wO t src b Z J K P=src Z J (fun xs chk J1=>zjw chk t b xs Z J1 K) P:=rfl
@[simp] theorem zfU (c:EW) (b:SW):zfr c b Z J K P=∃ n,zbL c b n Z J K:=rfl
@[simp] theorem jR (i) (v:V) (k):zgF (.nm i) v Z J k=k (jP Z i v):=rfl
@[simp] theorem wY (is) (v:V) (k):zgF (.tup is) v Z J k=v.asRef fun p=>zd4 J p fun xs=>xs.length=is.length/\k (zbO Z is xs):=rfl
@[simp] theorem yn (k):zgA none Z J k=k true J:=rfl
@[simp] theorem j7 (w:EW) (k):zgA (some w) Z J k=w Z J (fun v J1=>v.asBool fun b=>k b J1) noP:=rfl
end
@[simp] theorem zj (o:Option V) (r:zK):qz (o::r) 0=o:=rfl
@[simp] theorem zk (o:Option V) (r:zK) (i:Nat):qz (o::r) (i+1)=qz r i:=rfl
@[simp] theorem zw (o:Option V) (r:zK) (v:V):jP (o::r) 0 v=some v::r:=rfl
@[simp] theorem zx (o:Option V) (r:zK) (i:Nat) (v:V):jP (o::r) (i+1) v=o::jP r i v:=rfl
@[simp] theorem zax (Z:zK) (i:Nat) (is:List Nat) (v:V) (vs:List V):zbO Z (i::is) (v::vs)=zbO (jP Z i v) is vs:=rfl
@[simp] theorem zaw (Z:zK) (vs:List V):zbO Z [] vs=Z:=by cases vs<;>rfl

theorem zcx{J:zc}{a xs k}(h:J a=some (.list xs)):qG J a k=k xs:=by simp [qG,h]
theorem zpt{J:zc}{a xs k}(h:J a=some (.tup xs)):zd4 J a k=k xs:=by simp [zd4,h]
theorem zii{J:zc}{a xs k}(h:J a=some (.dict xs)):yI J a k=k xs:=by simp [yI,h]
theorem zbD{J:zc}{a xs k}(h:J a=some (.list xs)):yo J a k=k xs:=by simp [yo,h]
theorem zih{J:zc}{a xs k}(h:J a=some (.tup xs)):yo J a k=k xs:=by simp [yo,h]
theorem zpu{J:zc}{a xs k}(h:J a=some (.ro xs)):yo J a k=k xs:=by simp [yo,h]
theorem zlX{J:zc}{a xs k}(h:J a=some (.list xs)):zaI J a k=k xs:=by simp [zaI,h]
theorem zkt{J:zc}{a xs k}(h:J a=some (.list xs)):zbh J a k=k xs (fun J=>J a=some (.list xs)\/J a=some (.ro xs)):=by simp [zbh,h]
theorem zl0{J:zc}{a xs k}(h:J a=some (.tup xs)):zbh J a k=k xs (fun J=>J a=some (.tup xs)):=by simp [zbh,h]
theorem zlY{J:zc}{a xs k}(h:J a=some (.list xs)):zay J a k=k xs.length:=by simp [zay,h]
theorem zoc{J:zc}{a xs k}(h:J a=some (.tup xs)):zay J a k=k xs.length:=by simp [zay,h]
theorem zpw{J:zc}{a xs k}(h:J a=some (.ro xs)):zay J a k=k xs.length:=by simp [zay,h]
theorem zlZ{J:zc}{a xs k}(h:J a=some (.dict xs)):zay J a k=k xs.length:=by simp [zay,h]
theorem j8{J:zc}{a xs i v k}(h:J a=some (.list xs)):zd5 J a i v k=(0<=i/\i<xs.length/\k (put J a (.list (xs.set i.toNat v)))):=by simp [zd5,h]
theorem j9{J:zc}{a kvs i v k}(h:J a=some (.dict kvs)):zd5 J a i v k=(kvs.length<lim/\k (put J a (.dict (zho kvs i v)))):=by simp [zd5,h]
theorem yx{xs:List V}{i v k}(h:xs[i]?=some v):yh xs i k=k v:=by simp [yh,h]

theorem qg{chk t}{b:SW}{xs:List V}{Z J K}(I:Nat->zK->zc->Prop)(h0:I 0 Z J)
  (step:∀ i v Z J (K':Out->zK->zc->Prop),xs[i]?=some v->I i Z J->(∀ o Z' J',(match o with | .next=>I (i+1) Z' J' | .ret u=>K (.ret u) Z' J')->K' o Z' J')->chk J/\zgF t v Z J fun Z'=>b Z' J K' noP)
  (fin:∀ Z J,I xs.length Z J->chk J/\K .next Z J):zjw chk t b xs Z J K:=by
 have key:∀ (n i:Nat) (Z:zK) (J:zc),i+n=xs.length->I i Z J->zjw chk t b (xs.drop i) Z J K:=by
  intro n
  induction n with
  | zero =>
   intro i Z J hi hI
   have hi':i=xs.length:=by assumption
   subst hi'
   rw [kcZ]
   exact fin Z J hI
  | succ n ih =>
   intro i Z J hi hI
   have hlt:i<xs.length:=by exact ltN (lit (@r3 (↑(i)) (↑(xs.length)) (↑(n))) V0 V1 [(2,1,.add V0 (.add V2 N1),V1),(0,1,N0,V2)] rfl (eqI hi) (nnI _))
   rw [kbT hlt]
   refine step i xs[i] Z J _ (by simp [hlt]) hI fun o Z' J' h=>?_
   cases o with
   | next=>exact ih (i+1) Z' J' (by exact eqN (liq (@r3 (↑(i)) (↑(n)) (↑(xs.length))) (.add (.add V0 N1) V1) V2 [(2,1,.add V0 (.add V1 N1),V2)] rfl (eqI hi))) h
   | ret u=>exact h
 have:=key xs.length 0 Z J (by exact eqN (liq (@r1 (↑(xs.length))) (.add N0 V0) V0 [] rfl)) h0
 simpa using this
theorem qT{chk j c}{e:EW}{Z:zK}{xs acc:List V}{J Q}(I:Nat->List V->zc->Prop)(h0:I 0 acc J)
  (step:∀ i v acc J (K':List V->zc->Prop),xs[i]?=some v->I i acc J->(∀ acc' J',I (i+1) acc' J'->K' acc' J')->chk J/\zgA c (jP Z j v) J fun b J1=>if b then e (jP Z j v) J1 (fun u J2=>K' (acc++[u]) J2) noP else K' acc J1)
  (fin:∀ acc J,I xs.length acc J->chk J/\yT (.list acc) J Q):zaZ chk j c e Z xs acc J Q:=by
 have key:∀ (n i:Nat) (acc:List V) (J:zc),i+n=xs.length->I i acc J->zaZ chk j c e Z (xs.drop i) acc J Q:=by
  intro n
  induction n with
  | zero =>
   intro i acc J hi hI
   have hi':i=xs.length:=by assumption
   subst hi'
   rw [kcZ]
   exact fin acc J hI
  | succ n ih =>
   intro i acc J hi hI
   have hlt:i<xs.length:=by exact ltN (lit (@r3 (↑(i)) (↑(xs.length)) (↑(n))) V0 V1 [(2,1,.add V0 (.add V2 N1),V1),(0,1,N0,V2)] rfl (eqI hi) (nnI _))
   rw [kbT hlt]
   exact step i xs[i] acc J (fun acc' J'=>zaZ chk j c e Z (xs.drop (i+1)) acc' J' Q) (by simp [hlt]) hI fun acc' J' h=>ih (i+1) acc' J' (by exact eqN (liq (@r3 (↑(i)) (↑(n)) (↑(xs.length))) (.add (.add V0 N1) V1) V2 [(2,1,.add V0 (.add V1 N1),V2)] rfl (eqI hi))) h
 have:=key xs.length 0 acc J (by exact eqN (liq (@r1 (↑(xs.length))) (.add N0 V0) V0 [] rfl)) h0
 simpa using this
theorem zfV{c:EW}{b:SW}{Z J K}(I:zK->zc->Prop)(m:zK->zc->Nat)(h0:I Z J)
  (step:∀ Z J n (K':Out->zK->zc->Prop),I Z J->m Z J=n->(∀ o Z' J',(match o with | .next=>I Z' J'/\m Z' J'<n | .ret u=>K (.ret u) Z' J')->K' o Z' J') ->
   c Z J (fun v J1=>v.asBool fun t=>if t then b Z J1 K' noP else K .next Z J1) noP):∃ n,zbL c b n Z J K:=by
 refine ⟨m Z J+1,?_⟩
 have key:∀ (N:Nat) (Z:zK) (J:zc),I Z J->m Z J<N->zbL c b N Z J K:=by
  intro N
  induction N with
  | zero=>intro Z J _ h;exact lif r1 [(1,1,V0,N0),(0,1,N0,V0)] rfl (ltI h) (nnI _)
  | succ N ih =>
   intro Z J hI hm
   refine step Z J (m Z J) _ hI rfl fun o Z' J' h=>?_
   cases o with
   | next=>exact ih Z' J' h.1 (by have:=h.2;exact ltN (lit r3 V0 V1 [(1,1,V2,.add V1 N1),(1,1,V0,V2)] rfl (ltI hm) (ltI h.2)))
   | ret u=>exact h
 exact key _ Z J h0 (ka1 _)

def Ext(J J':zc):Prop:=∀ a o,J a=some o->J' a=some o
theorem Ext.refl{J}:Ext J J:=fun _ _ h=>h
theorem Ext.trans{a b c}(h:Ext a b)(h':Ext b c):Ext a c:=fun x o e=>h' x o (h x o e)
theorem Ext.put{J0 J:zc}(h:Ext J0 J){c:Addr}(hc:J0 c=none)(o:O):Ext J0 (put J c o):=fun a o' e=>by
 rw [zO _ (by rintro rfl;rw [hc] at e;cases e)];exact h a o' e
theorem Ext.none{J J':zc}(h:Ext J J'){c:Addr}(hc:J' c=none):J c=none:=by
 cases e:J c with
 | none=>rfl
 | some o=>rw [h c o e] at hc;cases hc
theorem Ext.new{J0 J:zc}(h:Ext J0 J){c:Addr}(hc:J c=.none)(o:O):Ext J0 (Mine.put J c o):=h.put (h.none hc) o

theorem zi{o:O}{J:zc}{Q:V->zc->Prop}(h:∀ c J',J c=none->Ext J J'->J' c=some o->Q (.ref c) J'):yT o J Q :=
 fun c hc=>h c _ hc (Ext.refl.new hc o) (zB _ _ _)
theorem jV{J:zc}{a b:Addr}{o:O}(h:J a=some o)(h':J b=none):a≠b:=by rintro rfl;rw [h] at h';cases h'

noncomputable def zs(ns:List Int):List V:=ns.map .int
theorem qb(ns):(zs ns).length=ns.length:=by simp [zs]
theorem zbb{ns:List Int}{i:Nat}{n:Int}(h:ns[i]?=some n):(zs ns)[i]?=some (.int n):=by simp [zs,h]
theorem zl9(ns:List Int)(i:Nat)(n:Int):(zs ns).set i (.int n)=zs (ns.set i n):=by simp [zs,kdi]
theorem zdC(ns ms:List Int):zs ns++zs ms=zs (ns++ms):=by simp [zs]
theorem zma{ns:List Int}{i:Nat}{v:V}(h:(zs ns)[i]?=some v):∃ n,ns[i]?=some n/\v=.int n:=by
 unfold zs at h;rw [kaP] at h
 cases e:ns[i]? with
 | none=>rw [e] at h;cases h
 | some n=>rw [e] at h;cases h;exact ⟨n,rfl,rfl⟩
def qJ(J:zc)(a:Addr)(ns:List Int):Prop:=J a=some (.list (zs ns))
theorem qJ.ext{J J' a ns}(h:qJ J a ns)(e:Ext J J'):qJ J' a ns:=e _ _ h

inductive Prs(J:zc):List V->List (Int × Int)->Prop
 | nil:Prs J [] []
 | cons {t a b vs rs}:J t=some (.tup [.int a,.int b])->Prs J vs rs->Prs J (.ref t::vs) ((a,b)::rs)
theorem Prs.ext{J J' vs rs}(h:Prs J vs rs)(e:Ext J J'):Prs J' vs rs:=by
 induction h with
 | nil=>exact .nil
 | cons h _ ih=>exact .cons (e _ _ h) ih
theorem Prs.length{J vs rs}(h:Prs J vs rs):vs.length=rs.length:=by
 induction h with
 | nil=>rfl
 | cons _ _ ih=>simp [ih]
inductive PrG(J:zc)(v:V)(o:Option (Int × Int)):Prop | mk (t a b) (h1:v=.ref t) (h2:o=some (a,b)) (h3:J t=some (.tup [.int a,.int b])):PrG J v o
theorem Prs.get{J vs rs}(h:Prs J vs rs){i:Nat}{v:V}:vs[i]?=some v->PrG J v rs[i]?:=by
 induction h generalizing i with
 | nil=>exact fun e=>qE rfl e
 | @cons t a b vs rs h _ ih=>exact Nat.casesOn i (fun e=>⟨t,a,b,(Option.some.inj e).symm,rfl,h⟩) fun i e=>ih (i:=i) e
theorem Prs.append{J vs rs vs' rs'}(h:Prs J vs rs)(h':Prs J vs' rs'):Prs J (vs++vs') (rs++rs'):=by
 induction h with
 | nil=>exact h'
 | cons h _ ih=>exact .cons h ih
theorem Prs.take{J vs rs}(h:Prs J vs rs)(i:Nat):Prs J (vs.take i) (rs.take i):=by
 induction h generalizing i with
 | nil=>simp;exact .nil
 | cons h _ ih=>cases i with
  | zero=>exact .nil
  | succ i=>exact .cons h (ih i)
theorem Prs.drop{J vs rs}(h:Prs J vs rs)(i:Nat):Prs J (vs.drop i) (rs.drop i):=by
 induction h generalizing i with
 | nil=>simp;exact .nil
 | cons h r ih=>cases i with
  | zero=>exact .cons h r
  | succ i=>exact ih i
inductive zS(J:zc)(a:Addr)(rs:List (Int × Int)):Prop | mk (vs) (h1:J a=some (.list vs)) (h2:Prs J vs rs):zS J a rs
theorem zS.ext{J J' a rs}(h:zS J a rs)(e:Ext J J'):zS J' a rs:=let ⟨vs,h1,h2⟩:=h;⟨vs,e _ _ h1,h2.ext e⟩

theorem zcb(J:zc):∀ ns:List Int,Rds J (zs ns) (ns.map .int):=by
 intro r_
 induction r_ with
 | nil =>
  exact .nil
 | cons n r ih_ =>
  exact .cons (.int n) (ih_)
theorem qJ.rd{J a ns}(h:qJ J a ns):Rd J (.ref a) (.list (ns.map .int)):=.list h (zcb J ns)
theorem zb9:∀ ns ms:List Int,PyData.eqvAll (ns.map .int) (ms.map .int)=decide (ns=ms)
 | [],[]=>rfl
 | [],_::_=>rfl
 | _::_,[]=>rfl
 | n::r,m::q=>by
  simp only [kbq,PyData.eqvAll,PyData.eqv,zb9 r q]
  by_cases h:n=m<;>by_cases h':r=q<;>simp [h,h']
theorem zkj:∀ ns:List Int,PyData.canLayAll0 (ns.map .int)=true:=by
 intro r_
 induction r_ with
 | nil =>
  exact rfl
 | cons n r ih_ =>
  simp [PyData.canLayAll0,PyData.canLay0,ih_]
theorem zlJ:∀ ns:List Int,PyData.depthAll (ns.map .int)=0:=by
 intro r_
 induction r_ with
 | nil =>
  exact rfl
 | cons n r ih_ =>
  simp [PyData.depthAll,PyData.depth,ih_]
theorem zaF(ns:List Int):SeqAt.shaped (.list (ns.map .int))=true:=by
 simp [SeqAt.shaped,PyData.canLay0,PyData.depth,zkj,zlJ]
theorem Eqv.zs{J a b ns ms}{k:Bool->Prop}(ha:qJ J a ns)(hb:qJ J b ms)(hk:k (decide (ns=ms))):Eqv J (.ref a) (.ref b) k :=
 ⟨_,_,ha.rd,hb.rd,zaF _,zaF _,by simpa [PyData.eqv,zb9] using hk⟩
def FnW(T:TC)(f:Str)(n k:Nat)(w:Nat->SW):Prop :=
 ∀ d vs J Q P,vs.length=n->w d (zdg vs k) J (fun o _ J'=>Q (match o with | .ret v=>v | .next=>.none) J') P->zp T (d+1) f vs J Q P
@[simp] theorem qd (v:V) (vs:List V) (k:Nat):zdg (v::vs) k=some v::zdg vs k:=rfl
@[simp] theorem qc:zdg [] 0=[]:=rfl
@[simp] theorem qf (k:Nat):zdg [] (k+1)=none::zdg [] k:=rfl
theorem zI{J:zc}{a xs}{k:List V->Prop}(h:J a=some (.list xs))(hk:k xs):qG J a k:=by rw [zcx h];exact hk
theorem wE{J:zc}{a xs}{k:List V->Prop}(h:J a=some (.tup xs))(hk:k xs):zd4 J a k:=by rw [zpt h];exact hk
theorem jY{J:zc}{a xs}{k:List (Int × V)->Prop}(h:J a=some (.dict xs))(hk:k xs):yI J a k:=by rw [zii h];exact hk
theorem qm{J:zc}{a xs}{k:List V->Prop}(h:J a=some (.list xs))(hk:k xs):yo J a k:=by rw [zbD h];exact hk
theorem jS{J:zc}{a xs}{k:List V->Prop}(h:J a=some (.tup xs))(hk:k xs):yo J a k:=by rw [zih h];exact hk
theorem qa{J:zc}{a}{xs:List V}{k:Nat->Prop}(h:J a=some (.list xs))(hk:k xs.length):zay J a k:=by rw [zlY h];exact hk
theorem zpv{J:zc}{a}{xs:List V}{k:Nat->Prop}(h:J a=some (.tup xs))(hk:k xs.length):zay J a k:=by rw [zoc h];exact hk
theorem zpx{J:zc}{a}{xs:List V}{k:Nat->Prop}(h:J a=some (.ro xs))(hk:k xs.length):zay J a k:=by rw [zpw h];exact hk
theorem zcf{J:zc}{a}{xs:List (Int × V)}{k:Nat->Prop}(h:J a=some (.dict xs))(hk:k xs.length):zay J a k:=by rw [zlZ h];exact hk
theorem jX{J:zc}{a xs}{k:List V->Prop}(h:J a=some (.list xs))(hk:k xs):zaI J a k:=by rw [zlX h];exact hk
theorem qq{xs:List V}{i v}{k:V->Prop}(h:xs[i]?=some v)(hk:k v):yh xs i k:=by rw [yx h];exact hk
theorem qI{J:zc}{a xs}{k:List V->(zc->Prop)->Prop}(h:J a=some (.list xs))(hk:k xs fun J=>J a=some (.list xs)\/J a=some (.ro xs)):zbh J a k:=by rw [zkt h];exact hk
theorem zZ{b:Bool}{A B:Prop}(h:b=true)(ha:A):if b=true then A else B:=by rw [if_pos h];exact ha
theorem zQ{b:Bool}{A B:Prop}(h:b=false)(hb:B):if b=true then A else B:=by rw [h,if_neg kan];exact hb
theorem zjs{p:Prop}[Decidable p](h:p):(!decide p)=false:=by rw [decide_eq_true h];rfl
theorem zmi{p:Prop}[Decidable p](h:¬ p):(!decide p)=true:=by rw [decide_eq_false h];rfl
end Mine
end
section
open PySem
namespace Mine
open PySem.Calls PyProof.Rows
section
variable {T:TC} {d:Nat} {sc:Scope} {ctx:List Str}
noncomputable def zsR(neg:Bool):CmpOp:=if neg then .IsNot else .Is
theorem zoZ(neg:Bool)(r:Expr):behindInMarks (zsR neg) r=false:=zgS (by cases neg<;>rfl) r
noncomputable def V.isNone:V->Bool
 | .none=>true
 | _=>false
noncomputable def V.isTrue:V->Bool
 | .bool true=>true
 | _=>false
def isNone(neg:Bool)(a:EW):EW:=fun Z J Q P=>a Z J (fun v J1=>Q (.bool (if neg then !v.isNone else v.isNone)) J1) P
def zrd(neg:Bool)(a:EW):EW:=fun Z J Q P=>a Z J (fun v J1=>Q (.bool (if neg then !v.isTrue else v.isTrue)) J1) P
theorem zrc(neg:Bool){A E s v u}{Q:Value->Shared->Prop}(hv:VIs v u)(h:Q (.bool (if neg then !v.isNone else v.isNone)) s):wpAny T.M A (compareOp (zsR neg) u .none) Q E s:=by
 cases neg
 ·cases hv<;>exact wpAny_is_plain (by rfl) h
 ·cases hv<;>exact wpAny_isNot_plain (by rfl) h
theorem zj4(neg:Bool){l r pos op}{a:EW}(ho:op=zsR neg)(hl:zG T d sc ctx l a)(hr:zG T d sc ctx r (val .none):=by exact wy):zcg T d sc ctx (.Compare l [op] [r] pos) (isNone neg a):=by
 subst ho
 intro A env Z J s Q P eo ro st fr hw
 refine wpAny_isTrue_Compare1 (hl.run eo ro st fr hw ?_) (zoZ neg r)
 intro va ua J1 sB v1 st1 p1 fr1 hw1
 refine hr.then eo ro p1 st1 fr1 (Q:=fun v J2=>v=.none/\Q (.bool (if neg then !va.isNone else va.isNone)) J2) ⟨rfl,hw1⟩ ?_
 intro vb ub J2 sM v2 st2 p2 fr2 hw2
 obtain ⟨rfl,hw3⟩:=hw2
 cases v2
 exact zrc neg v1 (kaY ⟨_,st2,p2,hw3⟩)
def zlm(a b:EW):EW:=fun Z J Q P=>a Z J (fun va J1=>b Z J1 (fun vb J2=>va.asInt fun x=>vb.asInt fun y=>Q (.int (if y>x then y else x)) J2) P) P
def ztg(a b:EW):EW:=fun Z J Q P=>a Z J (fun va J1=>b Z J1 (fun vb J2=>va.asInt fun x=>vb.asInt fun y=>Q (.int (if y<x then y else x)) J2) P) P
theorem zi1(ok:T.Ok)(B:Blt T){p pos e f}{a b:EW}(h:zG T d sc ctx e a)(h':zG T d sc ctx f b)(hx:sc.names.lookup ("max" : Str)=some .globalImplicit:=by kernel_rfl)
  (he1:∀ env,starEach (e::[f]) env=(false,eval e env)::starEach [f] env:=by intro _;rfl) (he2:∀ env,starEach [f] env=[(false,eval f env)]:=by intro _;rfl) (C:T.calm=none:=by assumption) :
  zG T d sc ctx (.Call (.Name "max" p) [e,f] [] pos) (zlm a b):=by
 intro A env Z J s Q P eo ro st fr hw
 refine Call_ (yC ok eo st hx (B.none _ (by decide)) (v:=.builtin "max") (by decide +kernel) (by decide) (by decide) ?_)
 refine callWith_builtin1 (args_cons (h.then eo ro .refl st fr hw fun v u J1 sB hv st1 p1 fr1 hw1=>?_) (he1 env)) (he1 env) (by rw [he2 env];rfl)
 refine args_cons (h'.then eo ro p1 st1 fr1 hw1 fun v' u' J2 sM hv' st2 p2 fr2 hw2=>args_nil ?_) (he2 env)
 obtain ⟨x,t,hw3⟩:=hw2.get hv
 obtain ⟨y,t',hw4⟩:=hw3.get hv'
 refine max_two_ints (ro.handled C) fun h' tk hk=>?_
 split
 ·rename_i hgt
  simp only [hgt,if_true] at hw4
  exact ⟨_,_,.int _ _,st2.grow hk tk,p2.grow hk tk,hw4⟩
 ·rename_i hgt
  simp only [hgt,if_false] at hw4
  exact ⟨_,_,.int _ _,st2.grow hk tk,p2.grow hk tk,hw4⟩
end
section
variable (Z:zK) (J:zc) (Q:V->zc->Prop) (P:Nat->zc->Prop)
@[simp] theorem zgs (neg) (a:EW):isNone neg a Z J Q P=a Z J (fun v J1=>Q (.bool (if neg then !v.isNone else v.isNone)) J1) P:=rfl
@[simp] theorem zgU (neg) (a:EW):zrd neg a Z J Q P=a Z J (fun v J1=>Q (.bool (if neg then !v.isTrue else v.isTrue)) J1) P:=rfl
@[simp] theorem zhe (a b:EW):zlm a b Z J Q P=a Z J (fun va J1=>b Z J1 (fun vb J2=>va.asInt fun x=>vb.asInt fun y=>Q (.int (if y>x then y else x)) J2) P) P:=rfl
@[simp] theorem zmk (a b:EW):ztg a b Z J Q P=a Z J (fun va J1=>b Z J1 (fun vb J2=>va.asInt fun x=>vb.asInt fun y=>Q (.int (if y<x then y else x)) J2) P) P:=rfl
end
end Mine
end
section
open PySem
namespace Mine
open PySem.Calls PyProof.Rows
section
variable {T:TC} {d:Nat} {sc:Scope} {ctx:List Str}
def zpV(xs:List V)(k:List Int->Prop):Prop:=∃ ns:List Int,xs=ns.map .int/\k ns
theorem zlr{ns:List Int}{us:List Value}(h:yf (ns.map .int) us):∃ xs:List (Int × Tok),us=xs.map (fun p=>Value.int p.1 p.2)/\xs.map (·.1)=ns:=by
 induction ns generalizing us with
 | nil=>cases h;exact ⟨[],rfl,rfl⟩
 | cons x r ih =>
  cases h with
  | cons h1 h2 =>
   cases h1 with
   | int _ t =>
    obtain ⟨xs,rfl,rfl⟩:=ih h2
    exact ⟨(x,t)::xs,rfl,rfl⟩
inductive InV(J:zc)(va vb:V)(k:Bool->Prop):Prop | mk (da:PyData) (xs:List PyData) (h1:Rd J va da) (h2:Rd J vb (.list xs)\/Rd J vb (.tuple xs)) (h3:PyData.canLayAll0 xs=true) (h4:da.canLay0=true) (h5:min (PyData.depthAll xs) da.depth<=60) (h6:k (xs.any fun y=>PyData.eqv y da)):InV J va vb k
def inL(neg:Bool)(a b:EW):EW:=fun Z J Q P=>a Z J (fun va J1=>b Z J1 (fun vb J2=>InV J2 va vb fun t=>Q (.bool (if neg then !t else t)) J2) P) P
theorem zm3(neg:Bool){A E s J va vb ua ub}{k:Bool->Prop}{Q:Value->Shared->Prop}(ro:zag T A d)(st:St T J s)(h:InV J va vb k)(ha:VIs va ua)(hb:VIs vb ub)(hq:∀ t,k t->Q (.bool (if neg then !t else t)) s) :
  wpAny T.M A (compareOp (zpX neg) ua ub) Q E s:=by
 obtain ⟨da,xs,r1,r2,s1,s2,hd,hk⟩:=h
 obtain ⟨as,h1⟩:=r1.reads st ha
 have hu:A.units+1+min (PyData.depthAll xs) da.depth<cLine:=by have:=ro.units;omega
 rcases r2 with r2 | r2
 ·obtain ⟨bs,h2⟩:=r2.reads st hb
  cases neg
  ·exact SeqAt.in_list_reads h2 h1 s1 s2 hu (hq _ hk)
  ·exact SeqAt.notIn_list_reads h2 h1 s1 s2 hu (hq _ hk)
 ·obtain ⟨bs,h2⟩:=r2.reads st hb
  cases neg
  ·exact SeqAt.in_tuple_reads h2 h1 s1 s2 hu (hq _ hk)
  ·exact SeqAt.notIn_tuple_reads h2 h1 s1 s2 hu (hq _ hk)
theorem zpK(neg:Bool){l r pos op}{a b:EW}(ho:op=zpX neg)(hl:zG T d sc ctx l a)(hr:zG T d sc ctx r b)(hm:behindInMarks op r=false:=by rfl):zG T d sc ctx (.Compare l [op] [r] pos) (inL neg a b):=by
 subst ho
 intro A env Z J s Q P eo ro st fr hw
 refine wpAny_Compare1 (hl.run eo ro st fr hw ?_) hm
 intro va ua J1 sB v1 st1 p1 fr1 hw1
 refine hr.then eo ro p1 st1 fr1 hw1 ?_
 intro vb ub J2 sM v2 st2 p2 fr2 hw2
 exact zm3 neg ro st2 hw2 v1 v2 fun t ht=>⟨_,_,.bool _,st2,p2,ht⟩
theorem zdY(neg:Bool){l r pos op}{a b:EW}(ho:op=zpX neg)(hl:zG T d sc ctx l a)(hr:zG T d sc ctx r b)(hm:behindInMarks op r=false:=by rfl):zcg T d sc ctx (.Compare l [op] [r] pos) (inL neg a b):=by
 subst ho
 intro A env Z J s Q P eo ro st fr hw
 refine wpAny_isTrue_Compare1 (hl.run eo ro st fr hw ?_) hm
 intro va ua J1 sB v1 st1 p1 fr1 hw1
 refine hr.then eo ro p1 st1 fr1 hw1 ?_
 intro vb ub J2 sM v2 st2 p2 fr2 hw2
 exact zm3 neg ro st2 hw2 v1 v2 fun t ht=>kaY ⟨_,st2,p2,ht⟩
end
section
variable (Z:zK) (J:zc) (Q:V->zc->Prop) (P:Nat->zc->Prop)
@[simp] theorem ztC (neg) (a b:EW):inL neg a b Z J Q P=a Z J (fun va J1=>b Z J1 (fun vb J2=>InV J2 va vb fun t=>Q (.bool (if neg then !t else t)) J2) P) P:=rfl
end
theorem InV.tup{J:zc}{t:Addr}{ns:List Int}{x:Int}{k:Bool->Prop}(ht:J t=some (.tup (ns.map .int)))(hk:k (decide (x∈ns))):InV J (.int x) (.ref t) k:=by
 refine ⟨.int x,ns.map .int,.int x,.inr (.tup ht (zcb J ns)),?_,by rfl,by simp [PyData.depth],?_⟩
 ·clear ht hk;induction ns with
  | nil=>rfl
  | cons a r ih=>simp [PyData.canLayAll0,PyData.canLay0,ih]
 ·have:((ns.map PyData.int).any fun y=>PyData.eqv y (.int x))=decide (x∈ns):=by
   rw [ka6,kdk,kcd,decide_eq_true_eq]
   constructor
   ·intro hI0a
    obtain ⟨y,hy,h⟩:=hI0a
    simp only [Function.comp,PyData.eqv] at h
    have:y=x:=by simpa using h
    exact this▸hy
   ·intro h;exact ⟨x,h,by simp [PyData.eqv]⟩
  rw [this];exact hk
end Mine
namespace Mine
theorem lt_toNat{x m:Int}(h:x<m):x<(m.toNat:Int):=kco h (kcu m)
theorem jW{i:Nat}{m:Int}(h:(i:Int)<m):i<m.toNat:=ka0.mpr h
theorem qD{i:Nat}{m:Int}(hm:0<=m)(h:i<m.toNat):(i:Int)<m:=ka0.mp h
theorem jg{m:Int}(h:0<=m)(h':m<=10):jJ m:=by unfold jJ;exact ⟨lin r1 (.neg (.num 4611686018427387904)) V0 [(0,1,N0,V0)] rfl h,lit r1 V0 (.num 4611686018427387904) [(0,1,V0,.num 10)] rfl h'⟩
theorem zeg{m:Int}(h':m<=10):(rng 0 m.toNat).length<=lim:=by rw [qx];exact kai (Int.toNat_le.mpr h') (by decide)
theorem zsp{v:Nat}{m:Int}(hm:0<=m)(h:v∈kab m.toNat):(v:Int)<m:=qD hm (kam.mp h)
theorem zqy{α:Type}{a b v:α}{j:Nat}(h:[a,b][j]?=some v):(j=0/\a=v)\/(j=1/\b=v):=by
 cases j with
 | zero=>exact .inl ⟨rfl,Option.some.inj h⟩
 | succ j=>cases j with
  | zero=>exact .inr ⟨rfl,Option.some.inj h⟩
  | succ j=>cases h
theorem ji{x:Int}(h:0<x):x≠0:=kbG h
end Mine
end
open PySem Mine
section
open PySem
namespace Mine
section
variable (Z:zK) (J:zc) (Q:V->zc->Prop) (P:Nat->zc->Prop) (K:Out->zK->zc->Prop)
theorem zbM(v):val v Z J Q P=Q v J:=(rfl)
theorem zbP(i):loc i Z J Q P=match qz Z i with | some v=>Q v J | none=>False:=(rfl)
theorem zjv(a b:EW):zbW a b Z J Q P=a Z J (fun va J1=>b Z J1 (fun vb J2=>va.asInt fun x=>vb.asInt fun y=>IntMulOk x y/\Q (.int (x*y)) J2) P) P:=(rfl)
theorem zmm(a b:EW):wn a b Z J Q P=a Z J (fun va J1=>b Z J1 (fun vb J2=>va.asInt fun x=>vb.asInt fun y=>(y≠0/\Builtin.divisionGoesByPylong x y=false)/\Q (.int (x.fdiv y)) J2) P) P:=(rfl)
theorem zcI(a b:EW):jG a b Z J Q P=a Z J (fun va J1=>b Z J1 (fun vb J2=>va.asInt fun x=>vb.asInt fun y=>y≠0/\Q (.int (x.fmod y)) J2) P) P:=(rfl)
theorem zpO(a b:EW):zmI a b Z J Q P=a Z J (fun va J1=>b Z J1 (fun vb J2=>va.asInt fun x=>vb.asInt fun y=>zou x y/\Q (.int (x ^ y.toNat)) J2) P) P:=(rfl)
theorem zsn(a:EW):zmQ a Z J Q P=a Z J (fun v J1=>v.asInt fun x=>Q (.int (-x)) J1) P:=(rfl)
theorem zp6(c)(a b:EW):qk c a b Z J Q P=a Z J (fun va J1=>b Z J1 (fun vb J2=>va.asInt fun x=>vb.asInt fun y=>Q (.bool (c.run x y)) J2) P) P:=(rfl)
theorem zsI(a b:EW):wQ a b Z J Q P=a Z J (fun v J1=>v.asBool fun t=>if t then b Z J1 Q P else Q (.bool false) J1) P:=(rfl)
theorem zs8(a b:EW):orW a b Z J Q P=a Z J (fun v J1=>v.asBool fun t=>if t then Q (.bool true) J1 else b Z J1 Q P) P:=(rfl)
theorem zpR(Q:List V->zc->Prop):zv Z J Q P=Q [] J:=(rfl)
theorem zm9(a:EW)(r:EWs)(Q:List V->zc->Prop):zd a r Z J Q P=a Z J (fun v J1=>r Z J1 (fun vs J2=>Q (v::vs) J2) P) P:=(rfl)
theorem zq4(ws:EWs):qw ws Z J Q P=ws Z J (fun vs J1=>vs.length<=lim/\yT (.list vs) J1 Q) P:=(rfl)
theorem zr7(ws:EWs):zau ws Z J Q P=ws Z J (fun vs J1=>vs.length<=lim/\yT (.tup vs) J1 Q) P:=(rfl)
theorem zmb(a i:EW):zT a i Z J Q P=a Z J (fun va J1=>i Z J1 (fun vi J2=>va.asRef fun p=>vi.asInt fun k=>0<=k/\yo J2 p fun xs=>yh xs k.toNat fun v=>Q v J2) P) P:=(rfl)
theorem zpT(a:EW):yO a Z J Q P=a Z J (fun v J1=>v.asRef fun p=>zay J1 p fun n=>Q (.int n) J1) P:=(rfl)
theorem zrt(T d f)(ws:EWs):zr T d f ws Z J Q P=ws Z J (fun vs J1=>zp T d f vs J1 Q P) P:=(rfl)
theorem ziZ:zP Z J K P=K .next Z J:=(rfl)
theorem zmd(a b:SW):zt a b Z J K P=a Z J (fun o Z1 J1=>match o with | .next=>b Z1 J1 K P | .ret v=>K (.ret v) Z1 J1) P:=(rfl)
theorem zjq(a:EW):qi a Z J K P=a Z J (fun v J1=>K (.ret v) Z J1) P:=(rfl)
theorem zjC(i)(a:EW):zY i a Z J K P=a Z J (fun v J1=>K .next (jP Z i v) J1) P:=(rfl)
theorem zpU(c:EW)(a b:SW):qy c a b Z J K P=c Z J (fun v J1=>v.asBool fun t=>if t then a Z J1 K P else b Z J1 K P) P:=(rfl)
theorem zsf(a i e:EW):zaj a i e Z J K P=e Z J (fun ve J1=>a Z J1 (fun va J2=>i Z J2 (fun vi J3=>va.asRef fun p=>vi.asInt fun k=>zd5 J3 p k ve (K .next Z)) P) P) P:=(rfl)
theorem yF(o:Option V)(r:zK):qz (o::r) 0=o:=(rfl)
theorem yZ(o:Option V)(r:zK)(i:Nat):qz (o::r) (i+1)=qz r i:=(rfl)
theorem zgb(o:Option V)(r:zK)(v:V):jP (o::r) 0 v=some v::r:=(rfl)
theorem zgc(o:Option V)(r:zK)(i:Nat)(v:V):jP (o::r) (i+1) v=o::jP r i v:=(rfl)
theorem zjc(v:V)(vs:List V)(k:Nat):zdg (v::vs) k=some v::zdg vs k:=(rfl)
theorem zja:zdg [] 0=[]:=(rfl)
theorem zjb(k:Nat):zdg [] (k+1)=none::zdg [] k:=(rfl)
theorem je(i:Int)(k):(V.int i).asInt k=k i:=(rfl)
theorem wk(b:Bool)(k):(V.bool b).asBool k=k b:=(rfl)
theorem wP(a:Addr)(k):(V.ref a).asRef k=k a:=(rfl)
end
end Mine
end
section
open PySem
namespace Mine
open PySem.Calls PyProof.Rows
section
variable {T:TC} {d:Nat} {sc:Scope} {ctx:List Str}
def zqo(a:EW):EW:=fun Z J Q P=>a Z J (fun v J1=>v.asRef fun p=>qG J1 p fun xs=>zpV xs fun ns=>ns≠[]/\∀ M,M∈ns->(∀ x∈ns,x<=M)->Q (.int M) J1) P
theorem znD(zs:List (Int × Tok)){i:Nat}(h:i<zs.length):numAt zs.toArray i∈zs.map (·.1):=by
 have:zs.toArray[i]?=some zs[i]:=by simp [h]
 unfold numAt
 rw [this]
 exact kau.mpr ⟨zs[i],kbo h,rfl⟩
theorem zoT(zs:List (Int × Tok)){x:Int}(h:x∈zs.map (·.1)):∃ j,j<zs.length/\numAt zs.toArray j=x:=by
 obtain ⟨p,hp,rfl⟩:=kau.mp h
 obtain ⟨j,hj,rfl⟩:=kaO hp
 have:zs.toArray[j]?=some zs[j]:=by simp [hj]
 exact ⟨j,hj,by unfold numAt;rw [this];rfl⟩
theorem zqP(ok:T.Ok)(B:Blt T){p pos e}{a:EW}(h:zG T d sc ctx e a)(hx:sc.names.lookup ("max" : Str)=some .globalImplicit:=by kernel_rfl)
  (he:∀ env,starEach [e] env=[(false,eval e env)]:=by intro _;rfl) (C:T.calm=none:=by assumption):zG T d sc ctx (.Call (.Name "max" p) [e] [] pos) (zqo a):=by
 refine zef ok h hx (B.none _ (by decide)) (id := "max") (by decide +kernel) (by decide) (by decide) (fun Z J Q P hw=>⟨_,hw,fun A v u J0 sa J1 sB E ro hv st1 p1 hw1=>?_⟩) he
 obtain ⟨q,hw2⟩:=hw1.get hv
 obtain ⟨xs,hx,ns,rfl,hne,hw3⟩:=hw2.get
 obtain ⟨us,hl,hv,hz,_⟩:=st1.list (.inl hx)
 obtain ⟨zs,hzs,rfl⟩:=zlr hv
 have hus:us=intItems zs.toArray:=by
  apply Array.toList_inj.mp
  rw [hzs];simp [intItems]
 subst hus
 have hlen:0<zs.length:=by cases zs with | nil=>exact absurd rfl hne | cons _ _=>simp
 have hsz:zs.toArray.size=zs.length:=by simp
 refine max_intList (ro.handled C) hl ‹_› fun v h' tk hv hk=>?_
 obtain ⟨t,rfl⟩:=intItems_at hv
 obtain ⟨h1,h2⟩:=argBest_gt (numAt zs.toArray) (zs.toArray.size - 1)
 refine ⟨_,_,.int _ _,st1.grow hk tk,p1.grow hk tk,hw3 _ (znD zs (by lia)) fun x hx=>?_⟩
 obtain ⟨j,hj,rfl⟩:=zoT zs hx
 exact h2 j (by lia)
end
section
variable (Z:zK) (J:zc) (Q:V->zc->Prop) (K:Out->zK->zc->Prop) (P:Nat->zc->Prop)
@[simp] theorem zsq (a:EW):zqo a Z J Q P=a Z J (fun v J1=>v.asRef fun p=>qG J1 p fun xs=>zpV xs fun ns=>ns≠[]/\∀ M,M∈ns->(∀ x∈ns,x<=M)->Q (.int M) J1) P:=rfl
end
end Mine
end
section
open PySem
namespace Mine
open PySem.Calls PyProof.Rows
noncomputable def bmV:List Value:=[.type "ValueError", .type "Exception", .type "BaseException", .type "object"]
noncomputable def zfy(x y:Nat):Bool:=x==y || y==0
noncomputable def zgt:List Str:=["__init__","__getattribute__","__getattr__","__class__"]
inductive zdi(h:Heap):List Value->Prop
 | base:zdi h bmV
 | own {A:Addr} {c0:Value} {dd:Option Addr} {cd:ClassData} {sl:Array (Option Value)} {mA:Str->Option Value} {tl:List Value} :
   h.get? A=some {cls:=c0,dict:=dd,data:=.cls cd,slots:=sl}->h.Ns cd.ns mA->(∀ n∈zgt,mA n=none)->zdi h tl->zdi h (.ref A::tl)
theorem zdi.old{h:Heap}{tl:List Value}(T:zdi h tl):OwnTail h bmV tl:=by
 induction T with
 | base=>exact .base
 | own hA hN hq _ ih=>exact .own hA hN (hq _ (.head _)) ih
theorem zdi.keeps{h h':Heap}{tl:List Value}(T:zdi h tl)(hk:∀ b o,h.get? b=some o->h'.get? b=some o):zdi h' tl:=by
 induction T with
 | base=>exact .base
 | own hA hN hq _ ih=>exact .own (hk _ _ hA) (hN.keeps hk) hq ih
structure CP where
 nm:Str
 q:Str
 N:Addr
 bs:List Value
 bm:List Value
 hdct:Bool
 sn:List Str
 sub:List Value
 ab:Bool
 col:Option Bool
 dd:Option Addr
 k0:Option Value
 k1:Option Value
 k2:Option Value
 k3:Option Value
 k5:Option Value
noncomputable abbrev CP.obj(p:CP)(C:Addr)(newId:String):Obj:=excClassObj p.nm p.q C p.N p.bs p.bm p.hdct p.sn p.sub p.ab p.col p.dd p.k0 p.k1 p.k2 p.k3 p.k5 newId
structure XAt(g0:Str->Option Value)(h₀:Heap)(xs:List Nat)(x:Nat)(C:Addr):Prop where
 mg:g0 (qO x)=some (.ref C)
 obj:∃ (p:CP) (mN:Str->Option Value),h₀.get? C=some (p.obj C "ValueError.__new__")/\h₀.Ns p.N mN/\(∀ n∈zgt,mN n=none)/\zdi h₀ p.bm /\
  ∀ y∈xs,∀ Cy,g0 (qO y)=some (.ref Cy)->(Value.ref C::p.bm).contains (.ref Cy)=zfy x y
def XG(mg:Str->Option Value)(hb:Heap)(xs:List Nat):Prop:=∀ x∈xs,∃ C,XAt mg hb xs x C
abbrev XF(T:TC)(xs:List Nat):Prop:=XG T.mg T.hb xs
section
variable {T:TC} {d:Nat} {sc:Scope} {ctx:List Str}
def zaN(x:Nat):SW:=fun _ J _ P=>P x J
theorem yQ(ok:T.Ok){xs:List Nat}(X:XF T xs){x:Nat}(hx:x∈xs){n m:Str}(hn:n=qO x:=by rfl){np cp pos k mp}(hk:sc.names.lookup n=some .globalImplicit:=by kernel_rfl)(hd:(n==("__debug__" : Str))=false:=by kernel_rfl)(C:T.calm=none:=by assumption) :
  za0 T d sc ctx (.Raise (some (.Call (.Name n np) [.Constant (.str m) k mp] [] cp)) none pos) (zaN x):=by
 subst hn
 intro A env Z J s K P eo ro st fr hw
 obtain ⟨Cx,hX⟩:=X x hx
 obtain ⟨p,mN,hC,hN,hni,hT,_⟩:=hX.obj
 refine wpAny_Raise_call_subU (C:=Cx) (nm:=p.nm) (q:=p.q) (N:=p.N) (bs:=p.bs) (bm:=p.bm) (hdct:=p.hdct) (sn:=p.sn) (sub:=p.sub) (ab:=p.ab) (col:=p.col) (dd:=p.dd) (k0:=p.k0) (k1:=p.k1) (k2:=p.k2) (k3:=p.k3) (k5:=p.k5)
  PySem.F.excBase_ValueError (by decide +kernel) PySem.F.excBase_ValueError (mN:=mN) (hT.old.hasType (by decide +kernel)) (ro.handled C) rfl (hni _ (.head _))
  (Name_function_global (by rw [eo.scope];exact eo.kind) (by rw [eo.kindOf];exact hk) (loadGlobal_global (mg:=T.mg) (by rw [eo.globals];exact st.ns ok.g) hX.mg ⟨rfl,?_⟩) hd)
 refine Calls.evalArgs_plain (Calls.spliced_cons (wpAny_Constant_str (k:=k) (pos:=mp) (Calls.spliced_nil ⟨rfl,kal rfl,st.base _ _ hC,st.ns hN,(hT.keeps st.base).old,fun h' e hm=>?_⟩)))
 obtain ⟨t,h1,h2,h3⟩:=hm.there
 have st1:=st.tok (s.toks+1)
 have hb:T.hb.get? e=none:=by
  cases q:T.hb.get? e with
  | none=>rfl
  | some o=>have:=st.base _ _ q;rw [hm.new] at this;cases this
 refine ⟨x,J,st.grow hm.keeps _,(zV.refl (T:=T) (X:=own env) (J:=J) (s:=s)).grow hm.keeps _,⟨e,Cx,_,_,rfl,hX.mg,⟨hm.new,hb,st.noneFree hm.new⟩,h1,rfl,rfl,.inl rfl,rfl⟩,hw⟩
noncomputable abbrev TC.cold(T:TC)(c:Addr):TC:={T with calm:=some c}
theorem St.cold{J s}{c:Addr}(st:St T J s):St (T.cold c) J s:=⟨st.rest,st.base,st.objs,st.fresh,st.sysm,st.ro,st.frames⟩
theorem St.warm{J s}{c:Addr}(st:St (T.cold c) J s):St T J s:=⟨st.rest,st.base,st.objs,st.fresh,st.sysm,st.ro,st.frames⟩
theorem qR.cold{env Z J h}{c:Addr}(f:qR T env ctx Z J h):qR (T.cold c) env ctx Z J h:=⟨f.nd,f.ns,f.cell,f.loneM,f.apartM,f.lfree,f.cfreeM,f.lbase,f.cbaseM⟩
theorem zV.warm{X J s J' s'}{c:Addr}(p:zV (T.cold c) X J s J' s'):zV T X J s J' s':=⟨p.keep,p.live,p.mono,p.new⟩
theorem zrj{M:Model}{A:Around}{E:Value->Shared->Prop}{h:Heap}{g:Array GenState}{dr:Drawn}{t:Nat}{os:OsState}{p:CP}{C:Addr}{newId:String}
  {p':CP} {Y:Addr} {newId':String} {e:Addr} {oe:Obj} {Q:Bool->Shared->Prop}
  (hC:h.get? C=some (p.obj C newId)) (hY:h.get? Y=some (p'.obj Y newId'))
  (he:h.get? e=some oe) (hcls:oe.cls=.ref C) (hbase:p'.bm.contains (.type "BaseException")=true) (hs:(Value.ref C::p.bm).contains (.ref Y)=true)
  (hq:Q true ⟨h,g,dr,t,os⟩):wpAny M A (excMatches (.ref e) (.ref Y)) Q E ⟨h,g,dr,t,os⟩:=by
 have hcB:(Value.ref Y::p'.bm).contains (.type "BaseException")=true:=by rw [kbl,hbase,Bool.or_true]
 have f:=tc_notTuple
 unfold excMatches
 repeat (first | (with_reducible refine wpAny_loadPart_at he ?_;rw [hcls]) | with_reducible refine wpAny_loadPart_at hY ?_ | (with_reducible refine wpAny_isSubtype_exc hY ?_;rw [hcB]) | (with_reducible refine wpAny_isSubtype_exc hC ?_;rw [hs]) | wp_step)
 exact hq
def zsN(xs:List Nat)(a:EW)(i:Nat)(hand:Addr->SW):SW:=fun Z J K P=>a Z J (fun _ J1=>K .next Z J1) (fun x J1=>x∈xs/\∀ c,J1 c=none->hand c (jP Z i (.ref c)) (put J1 c (.exc x)) (fun o _ J2=>K o [] J2) noP)
theorem ztM(ok:T.Ok){xs:List Nat}(X:XF T xs)(h0:0∈xs){outer:List Env}{L:Addr}{env:Env}(hT:T.fr=env::outer)(hf:env.frame=some L){e ep tp bA suite hp pos}{n:Str}{i:Nat}{a:EW}{hand:Addr->SW}(ha:zG T d sc ctx e a)
  (hh:∀ c,qP (T.cold c) d sc ctx (bA::suite) (hand c)) (hi:ctx[i]?=some n) (hl:sc.names.lookup n=some .local) (hk:sc.names.lookup ("YardError" : Str)=some .globalImplicit) (hs:∀ env,swapsWith e none ep.line env=pure false:=by intro _;rfl)
  {A:Around} {Z:zK} {J:zc} {s:Shared} {K:Out->zK->zc->Prop} {P:Nat->zc->Prop} (eo:jm sc env) (ro:zag T A d) (st:St T J s) (fr:qR T env ctx Z J s.heap) (hw:zsN xs a i hand Z J K P) :
  wpAny T.M A (exec (.Try [.Expr e ep] [.ExceptHandler (some (.Name "YardError" tp)) (some n) (bA::suite) hp] [] [] pos) env) (wS T env ctx J s K) (jL T (own env) J s P) s:=by
 have hin:interactive env=false:=by unfold interactive;rw [eo.scope,eo.kind];rfl
 refine wpAny_Try_except (wpAny_execs_cons (wpAny_Expr_any ?_ hin (hs env)))
 refine kat (ha A env Z J s _ _ eo ro st fr hw) (fun v sB hv=>?_) (fun ex sB hx=>?_)
 ·obtain ⟨v',J1,hv',st1,p1,hq⟩:=hv
  exact wpAny_execs_nil (wpAny_execs_nil ⟨_,Z,J1,.next,st1,fr.step p1,p1.any,hq⟩)
 ·obtain ⟨x,J1,st1,p1,hE,hxs,hhand⟩:=hx
  obtain ⟨a,C,oe,vs,rfl,hC,⟨q1,q2,q3⟩,q4,q5,q6,q7,q8⟩:=hE
  obtain ⟨Cx,hX⟩:=X x hxs
  have hCe:Cx=C:=by have:=hX.mg;rw [hC] at this;cases this;rfl
  subst hCe
  obtain ⟨CY,hY⟩:=X 0 h0
  refine zrP (L:=L) st1 hT ro.frames hf q4 q6 (q7.imp id fun ⟨tb,oT,ts,k1,k2,_,k4,k5,k6⟩=>⟨tb,oT,ts,k1,k2,k4,k5,k6⟩) q8 fun h' tb htb tu nt=>?_
  have htb':∀ t,tb=some t->s.heap.get? t=none/\T.hb.get? t=none/\J1 t=none:=fun t e=>by
   have e1:=htb t e
   rcases q7 with q7 | ⟨tb',oT,ts,k1,k2,k3,k4⟩
   ·rw [q7] at e1;cases e1
   ·rw [k1] at e1;cases e1;exact k3
  have st2:St T J1 {sB with heap:=h'}:=St.noted (fr:=T.fr) st1 ⟨q2,q3⟩ (fun t e=>(htb' t e).2) tu
  have p2:zV T [] J s J1 {sB with heap:=h'}:=zV.noted (fr:=T.fr) p1 q1 (fun t e=>(htb' t e).1) tu
  obtain ⟨t,oT,ts,oe',vs',n1,n2,n3,n4,n5,n6,n7,n8,n9,n10⟩:=nt.tb
  have ht0:s.heap.get? t=none:=p1.dead n1
  have htb0:T.hb.get? t=none:=by
   cases e:T.hb.get? t with
   | none=>rfl
   | some ob=>have:=st1.base t ob e;rw [n1] at this;cases this
  have hts:J1 t=none:=st1.noneFree n1
  obtain ⟨p,mN,c1,c2,c3,c4,c5⟩:=hX.obj
  obtain ⟨p',mN',y1,y2,y3,y4,y5⟩:=hY.obj
  have hsub:(Value.ref Cx::p.bm).contains (.ref CY)=true:=(c5 0 h0 CY hY.mg).trans (by simp [zfy])
  refine wpAny_handleBy_cons (codeAny_handlers_test (Name_function_global (by rw [eo.scope];exact eo.kind) (by rw [eo.kindOf];exact hk) (loadGlobal_global (mg:=T.mg) (by rw [eo.globals];exact st2.ns ok.g) hY.mg ?_) (by decide))) (by intro q;cases q)
  refine zrj (st2.base _ _ c1) (st2.base _ _ y1) n2 (n3.trans q5) (y4.old.hasType (by decide +kernel)) hsub ?_
  refine codeAny_handlers_suite_as (wpAny_setFlight_none n2 n4 n5 n7 n8 (kbQ.mp n9).1 ?_)
  have hoff:∀ b o,b∉[t]->h'.get? b=some o->(h'.update t (Obj.mapFields (·.setIfInBounds 3 .none))).get? b=some o:=fun b o hb e=>(kaU _ _ (by simpa using Ne.symm (by simpa using hb))).trans e
  have hnt:t∉frs T:=st1.notFr n1
  have hna:a∉frs T:=fun hF=>by
   obtain ⟨o',es,ep',e',d'⟩:=(st1.fr hF).2.2
   rw [q4] at e';cases e';rw [q6] at d';cases d'
  have st3:=st2.off (wr:=[t]) (by simp;exact ⟨hts,htb0,hnt⟩) hoff sB.toks
  have p3:=p2.off (wr:=[t]) (by simpa using ht0) hoff sB.toks
  have ha3:(h'.update t (Obj.mapFields (·.setIfInBounds 3 .none))).get? a=some oe':=hoff a oe' (by simpa using Ne.symm n6) n2
  have hbig:(a==sysModules)=false:=by
   refine beq_eq_false_iff_ne.mpr fun e=>?_
   obtain ⟨o,ho⟩:=ok.sysm
   rw [e,ho] at q2;cases q2
  have st4:=st3.adopt hna q3 q2 hbig ⟨rfl,fun _ _=>rfl⟩ ha3 (so:=.exc x) ⟨Cx,vs',hX.mg,n3.trans q5,n4,n10⟩ sB.toks
  have p4:=p3.adopt q1 ⟨rfl,fun _ _=>rfl⟩ ha3 (.exc x) sB.toks
  have fr4:=fr.step p4
  refine zfs (T:=T) eo st4 fr4 hi (by rw [hl];rfl) (.ref a) fun s5 c5' hc5 _ st5 fr5 p5=>?_
  have roC:zag (T.cold a) (A.mark (some (.ref a))) d:=⟨rfl,ro.frames,ro.depth,ro.units⟩
  refine kat (hh a (A.mark (some (.ref a))) env _ _ s5 _ noP eo roC st5.cold fr5.cold (hhand a q3)) (fun f s6 h₆=>?_) fun y s6 h₆=>h₆.no.elim
  obtain ⟨o,Z',J2,hfl,st6,fr6,p6,hk6⟩:=h₆
  obtain ⟨m6,hn6,_⟩:=fr6.ns
  have hkf:env.scope.kind=.function:=by rw [eo.scope];exact eo.kind
  refine wpAny_nameGoes (by rw [eo.kindOf];exact hl) hn6 (by rw [hkf];rfl) fun h7 m7 hn7 hs7=>?_
  obtain ⟨o7,es7,ep7,e7,d7,_⟩:=id hn7
  refine ⟨o,[],J2,hfl,st6.warm.own fr6.lfree fr6.lbase hs7 (fun _=>⟨o7,es7,ep7,e7,d7⟩) _,⟨fr6.nd,⟨m7,hn7,fun j y w _ _ hw'=>by cases hw'⟩,fun j y hj hy=>?_,fr6.loneM,fr6.apartM,fr6.lfree,fun y c hy=>⟨(fr6.cfreeM y c hy).1,?_⟩,fr6.lbase,fr6.cbaseM⟩,?_,hk6⟩
  ·obtain ⟨c,o,g1,g2,g3⟩:=fr6.cell j y hj hy
   exact ⟨c,o,g1,g2.sameBut hs7 (fr6.apart y c g1),fun w hw'=>by cases hw'⟩
  ·obtain ⟨o,ho⟩:=(fr6.cfreeM y c hy).2
   exact ⟨o,ho.sameBut hs7 (fr6.apartM y c hy)⟩
  ·exact ((p4.any.trans (zei p5 hc5)).trans p6.warm).trans (zei (zV.own hs7 e7 _) (by simp [own]))
theorem zqK(ok:T.Ok){xs:List Nat}(X:XF T xs)(h0:0∈xs){e ep tp bA suite hp pos rest}{n:Str}(i:Nat){a:EW}{hand:Addr->SW}{b:SW}(ha:zG T d sc ctx e a)
  (hh:∀ c,qP (T.cold c) d sc ctx (bA::suite) (hand c)) (hr:qP T d sc ctx rest b) (hi:ctx[i]?=some n) (hl:sc.names.lookup n=some .local) (hk:sc.names.lookup ("YardError" : Str)=some .globalImplicit) (hs:∀ env,swapsWith e none ep.line env=pure false:=by intro _;rfl) :
  zrC T d sc ctx (.Try [.Expr e ep] [.ExceptHandler (some (.Name "YardError" tp)) (some n) (bA::suite) hp] [] [] pos::rest) (zt (zsN xs a i hand) b):=by
 intro A env Z J s K P outer L hT hf eo ro st fr hw
 refine wpAny_execs_cons (kat (ztM ok X h0 hT hf ha hh hi hl hk hs eo ro st fr hw) (fun f sB hf=>?_) fun _ _ x=>x)
 obtain ⟨o,Z1,J1,h1,h2,h3,h4,h5⟩:=hf
 cases h1 with
 | next=>exact kat (hr A env Z1 J1 sB K P eo ro h2 h3 h5) (fun _ _ x=>x.step h4) fun _ _ x=>x.step h4
 | ret hv=>exact ⟨_,Z1,J1,.ret hv,h2,h3,h4,h5⟩
theorem TC.Ok.cold{c:Addr}(ok:T.Ok):(T.cold c).Ok:=⟨ok.g,ok.b,ok.nolimit,ok.builtins,ok.sysm⟩
theorem Blt.cold{c:Addr}(B:Blt T):Blt (T.cold c):=⟨B.none⟩
end
end Mine
end
section
open PySem
set_option maxRecDepth 100000
namespace Mine
open PySem.Calls PyProof.Rows
section
variable {prog:Program} {w:World} {M:Model} {A:Around} {E:Value->Shared->Prop} {h:Heap} {g:Array GenState} {d:Drawn} {t:Nat} {os:OsState} {a:Addr} {o:Obj}
 {p:CP} {C:Addr} {newId:String} {mN:Str->Option Value}
theorem zk7{tl:List Value}{n:Str}{y:Option Value}{Q:Option Value->Shared->Prop}(hn:n∈zgt)(T:zdi h tl)(hrest:lookupAlong bmV n=pure y)(hq:Q y ⟨h,g,d,t,os⟩) :
  wpAny M A (lookupAlong tl n) Q E ⟨h,g,d,t,os⟩:=by
 induction T with
 | base=>rw [hrest];exact kaC hq
 | own hA hN hni _ ih =>
  rw [lookupAlong_cons]
  refine kag (wpAny_classOwn_cls hA hN ?_)
  rw [hni n hn]
  exact ih
theorem zb6{n:Str}{y:Option Value}{Q:Option Value->Shared->Prop}(hn:n∈zgt)
  (hC:h.get? C=some (p.obj C newId)) (hN:h.Ns p.N mN) (hmN:∀ n∈zgt,mN n=none) (T:zdi h p.bm)
  (hB:typeLookup (.type "ValueError") n=pure y) (hq:Q y ⟨h,g,d,t,os⟩):wpAny M A (typeLookup (.ref C) n) Q E ⟨h,g,d,t,os⟩:=by
 have hrest:lookupAlong bmV n=pure y:=by rw [typeLookup_eq,F.attrBase_ValueError.mro] at hB;exact hB
 rw [typeLookup_eq]
 refine kag (wpAny_mroOf_exc hC ?_)
 rw [lookupAlong_cons]
 refine kag (wpAny_classOwn_exc hC hN ?_)
 rw [hmN n hn]
 exact zk7 hn T hrest hq
theorem zo0:typeLookup (.type "ValueError") "__class__" = pure (some (.builtin "object.__class__")):=by rw [typeLookup_type,builtinLookup_eq_fast];kernel_rfl
theorem zrr{R:Result->Shared->Prop}(hC:h.get? C=some (p.obj C newId))(T:zdi h p.bm)
  (hx:h.get? a=some o) (hc:o.cls=.ref C) (hq:R (.ok (.ret (.ref C))) ⟨h,g,d,t,os⟩) :
  codeAny (model prog w) A (.call (.builtin "getset_descriptor.__get__") ⟨[.builtin "object.__class__", .ref a,.ref C],[]⟩) R ⟨h,g,d,t,os⟩:=by
 have hT5:(⟨h,g,d,t,os⟩:Shared).TypeIs (.builtin "object.__class__") "getset_descriptor" := F.typeOf_object_class
 have hcB:(Value.ref C::p.bm).contains (.type (".".intercalate ("object.__class__".cutAt '.').dropLast))=true:=by
  rw [F.owner_object_class,kbl,T.old.hasType (X := "object") (b:=true) (by decide +kernel)];rfl
 refine codeAny_call_builtin F.slot_gs_get.plain F.entry_gs_get (F.slot_gs_get.check _ _ _ _ _ _ _ _ hT5 (F.args_gs_get _ _ _) ?_)
 repeat (any_goals (first | assumption | (with_reducible refine wpAny_loadPart_at hx ?_;rw [hc]) | (with_reducible refine wpAny_isSubtype_exc hC ?_;rw [hcB]) | wp_step))
 refine ⟨Code.quiet_builtin _ (by decide +kernel),codeAny_builtin F.entry_object_class ?_⟩
 repeat (any_goals (first | assumption | (with_reducible refine wpAny_loadPart_at hx ?_;rw [hc]) | wp_step))
theorem znT{nameV:Value}{Q:Unit->Shared->Prop}(hC:h.get? C=some (p.obj C newId))(T:zdi h p.bm)
  (hx:h.get? a=some o) (hc:o.cls=.ref C) (hq:Q () ⟨h,g,d,t,os⟩):wpAny M A (checkBuiltinCall "BaseException.__getattribute__" ⟨[.ref a,nameV],[]⟩) Q E ⟨h,g,d,t,os⟩:=by
 have hk:builtinKind "BaseException.__getattribute__" = some .slot:=by decide +kernel
 have hsplit:splitId "BaseException.__getattribute__" = some ("BaseException","__getattribute__"):=by decide +kernel
 have hcB:(Value.ref C::p.bm).contains (.type "BaseException")=true:=by rw [kbl,T.old.hasType (X := "BaseException") (b:=true) (by decide +kernel)];rfl
 have ha:=F.args_bexc_ga (.ref a) nameV
 simp only [checkBuiltinCall,hk,hsplit]
 refine kag ?_
 ·unfold isInstance
  repeat (first | (with_reducible refine wpAny_loadPart_at hx ?_;rw [hc]) | (with_reducible refine wpAny_isSubtype_exc hC ?_;rw [hcB]) | wp_step)
  exact hq
theorem znS{tk:Tok}{Q:Fin->Shared->Prop}(hC:h.get? C=some (p.obj C newId))(hN:h.Ns p.N mN)
  (hmN:∀ n∈zgt,mN n=none) (T:zdi h p.bm) (hx:h.get? a=some o) (hc:o.cls=.ref C) (hq:Q (.done (.ret (.ref C))) ⟨h,g,d,t,os⟩) :
  wpAny (model prog w) A (Builtin.«object.__getattribute__» ⟨[.ref a,.str "__class__" tk],[]⟩) Q E ⟨h,g,d,t,os⟩:=by
 have hT5:(⟨h,g,d,t,os⟩:Shared).TypeIs (.builtin "object.__class__") "getset_descriptor" := F.typeOf_object_class
 have f5:=F.typeOf_object_class
 have f6:=F.slot_gs_get.lookup
 have f7:=F.slot_gs_set.lookup
 have hmA:("__class__" : Str)∈zgt:=.tail _ (.tail _ (.tail _ (.head _)))
 repeat (any_goals (first | assumption | (with_reducible refine wpAny_loadPart_at hx ?_;rw [hc]) | with_reducible refine zb6 hmA hC hN hmN T zo0 ?_ | wp_step))
 refine zrr hC T hx hc ?_
 repeat (any_goals (first | assumption | wp_step))
theorem zsE{tk:Tok}{Q:Value->Shared->Prop}(hC:h.get? C=some (p.obj C newId))(hN:h.Ns p.N mN)
  (hmN:∀ n∈zgt,mN n=none) (T:zdi h p.bm) (hx:h.get? a=some o) (hc:o.cls=.ref C) (hq:Q (.ref C) ⟨h,g,d,t,os⟩) :
  wpAny (model prog w) A (getAttrBy (.ref a) (.str "__class__" tk) false) Q E ⟨h,g,d,t,os⟩:=by
 have f3:=F.attrBase_ValueError.ga.bind (.ref a)
 have hx2:(Value.builtin "BaseException.__getattribute__" == Value.builtin "object.__getattribute__")=false:=by decide +kernel
 have hx1:(onTheHeap (Value.ref C) && Value.builtin "BaseException.__getattribute__" == Value.builtin "object.__getattribute__")=false:=by rw [hx2];rfl
 have hm1:("__getattribute__" : Str)∈zgt:=.tail _ (.head _)
 have hm2:("__getattr__" : Str)∈zgt:=.tail _ (.tail _ (.head _))
 repeat (any_goals (first | assumption | (with_reducible refine wpAny_loadPart_at hx ?_;rw [hc]) | with_reducible refine zb6 hm1 hC hN hmN T F.attrBase_ValueError.ga.lookup ?_ | with_reducible refine zb6 hm2 hC hN hmN T F.attrBase_ValueError.noGetattr ?_ | wp_step))
 refine codeAny_call_builtin F.attrBase_ValueError.ga.plain F.entry_bexc_ga (znT hC T hx hc (znS hC hN hmN T hx hc ?_))
 repeat (any_goals (first | assumption | wp_step))
theorem zpp{Q:Option Value->Shared->Prop}(hC:h.get? C=some (p.obj C newId))(hN:h.Ns p.N mN)
  (hmN:∀ n∈zgt,mN n=none) (T:zdi h p.bm) (hx:h.get? a=some o) (hc:o.cls=.ref C) (hq:Q (some (.ref C)) ⟨h,g,d,t+1,os⟩) :
  wpAny (model prog w) A (getAttr? (.ref a) "__class__") Q E ⟨h,g,d,t,os⟩:=by
 unfold getAttr? getAttrBy?
 repeat (any_goals (first | assumption | with_reducible apply zsE hC hN hmN T hx hc | wp_step))
variable {p':CP} {Y:Addr} {newId':String}
theorem znF{dep:Int}{tk:Tok}{Q:Fin->Shared->Prop}(hC:h.get? C=some (p.obj C newId))(hY:h.get? Y=some (p'.obj Y newId'))
  (hx:h.get? a=some o) (hc:o.cls=.ref C) (hs:(Value.ref C::p.bm).contains (.ref Y)=true) (hq:Q (.done (.ret (.bool true))) ⟨h,g,d,t,os⟩) :
  wpAny (model prog w) A (Builtin.«isinstance.nested» ⟨[.ref a,.ref Y,.int dep tk],[]⟩) Q E ⟨h,g,d,t,os⟩:=by
 by_cases he:(Value.ref C==Value.ref Y)=true
 ·repeat (any_goals (first | assumption | (with_reducible refine wpAny_loadPart_at hx ?_;rw [hc]) | with_reducible refine wpAny_loadPart_at hY ?_ | (with_reducible refine wpAny_isSubtype_exc hC ?_;rw [hs]) | wp_step))
 ·have he':(Value.ref C==Value.ref Y)=false:=by simpa using he
  repeat (any_goals (first | assumption | (with_reducible refine wpAny_loadPart_at hx ?_;rw [hc]) | with_reducible refine wpAny_loadPart_at hY ?_ | (with_reducible refine wpAny_isSubtype_exc hC ?_;rw [hs]) | wp_step))
set_option maxHeartbeats 1000000 in
theorem zli{dep:Int}{tk:Tok}{Q:Fin->Shared->Prop}(hC:h.get? C=some (p.obj C newId))(hN:h.Ns p.N mN)
  (hmN:∀ n∈zgt,mN n=none) (T:zdi h p.bm) (hY:h.get? Y=some (p'.obj Y newId'))
  (hx:h.get? a=some o) (hc:o.cls=.ref C) (hs:(Value.ref C::p.bm).contains (.ref Y)=false) (hq:Q (.done (.ret (.bool false))) ⟨h,g,d,t+1,os⟩) :
  wpAny (model prog w) A (Builtin.«isinstance.nested» ⟨[.ref a,.ref Y,.int dep tk],[]⟩) Q E ⟨h,g,d,t,os⟩:=by
 have he':(Value.ref C==Value.ref Y)=false:=by
  refine kct.mpr fun q=>?_
  rw [<-eq_of_beq q,kbl,beq_self_eq_true] at hs
  exact Bool.noConfusion hs
 repeat (any_goals (first | assumption | (with_reducible refine wpAny_loadPart_at hx ?_;rw [hc]) | with_reducible refine wpAny_loadPart_at hY ?_ | with_reducible refine wpAny_loadPart_at hC ?_ | (with_reducible refine wpAny_isSubtype_exc hC ?_;rw [hs]) | with_reducible apply zpp hC hN hmN T hx hc | wp_step))
theorem znG{dep:Int}{tk:Tok}{Q:Fin->Shared->Prop}(hC:h.get? C=some (p.obj C newId))(T:zdi h p.bm)
  (hx:h.get? a=some o) (hc:o.cls=.ref C) (hq:Q (.done (.ret (.bool true))) ⟨h,g,d,t,os⟩) :
  wpAny (model prog w) A (Builtin.«isinstance.nested» ⟨[.ref a,.type "ValueError", .int dep tk],[]⟩) Q E ⟨h,g,d,t,os⟩:=by
 have hs:(Value.ref C::p.bm).contains (.type "ValueError")=true:=by rw [kbl,T.old.hasType (X := "ValueError") (b:=true) (by decide +kernel)];rfl
 have he':(Value.ref C==Value.type "ValueError")=false:=rfl
 have hty:typeOf (.type "ValueError")=pure (.type "type"):=by kernel_rfl
 repeat (any_goals (first | assumption | (with_reducible refine wpAny_loadPart_at hx ?_;rw [hc]) | (with_reducible refine wpAny_isSubtype_exc hC ?_;rw [hs]) | wp_step))
end
section
variable {T:TC} {d:Nat} {sc:Scope} {ctx:List Str}
theorem zrb{A E J s}{xs:List Nat}(X:XF T xs){x y:Nat}(hx:x∈xs)(hy:y∈xs){r Y:Addr}{Q:Value->Shared->Prop}(st:St T J s)(hr:J r=some (.exc x))(hY:T.mg (qO y)=some (.ref Y))(hq:∀ tk,Q (.bool (zfy x y)) {s with toks:=tk}) :
  wpAny T.M A (call (.builtin "isinstance") [.ref r,.ref Y]) Q E s:=by
 obtain ⟨Cx,hX⟩:=X x hx
 obtain ⟨o,ho,C',vs',g1,hc,_⟩:=st.objs r _ hr
 rw [hX.mg] at g1;cases g1
 obtain ⟨Cy,hYy⟩:=X y hy
 have hh:=hYy.mg
 rw [hY] at hh;cases hh
 obtain ⟨p,mN,c1,c2,c3,c4,c5⟩:=hX.obj
 obtain ⟨p',mN',y1,y2,y3,y4,y5⟩:=hYy.obj
 have hs:=c5 y hy Y hY
 refine call_isinstance (S:=fun _ R s=>(s.heap.get? r=some o/\∀ b o,T.hb.get? b=some o->s.heap.get? b=some o)/\∀ tk,R (.ok (.ret (.bool (zfy x y)))) {s with toks:=tk}) (fun _ _ _ _ sB hsB=>isinstance_outer ?_ (by intro e;cases e)) ⟨⟨ho,st.base⟩,hq⟩
 obtain ⟨h,g,d,t,os⟩:=sB
 cases hb:zfy x y with
 | true=>exact znF (hsB.1.2 _ _ c1) (hsB.1.2 _ _ y1) hsB.1.1 hc (hs.trans hb) (hb▸hsB.2 t)
 | false=>exact zli (hsB.1.2 _ _ c1) (c2.keeps hsB.1.2) c3 (c4.keeps hsB.1.2) (hsB.1.2 _ _ y1) hsB.1.1 hc (hs.trans hb) (hb▸hsB.2 (t+1))
theorem zo8{A E J s}{xs:List Nat}(X:XF T xs){x:Nat}(hx:x∈xs){r:Addr}{Q:Value->Shared->Prop}(st:St T J s)(hr:J r=some (.exc x))(hq:∀ tk,Q (.bool true) {s with toks:=tk}) :
  wpAny T.M A (call (.builtin "isinstance") [.ref r,.type "ValueError"]) Q E s:=by
 obtain ⟨Cx,hX⟩:=X x hx
 obtain ⟨o,ho,C',vs',g1,hc,_⟩:=st.objs r _ hr
 rw [hX.mg] at g1;cases g1
 obtain ⟨p,mN,c1,c2,c3,c4,c5⟩:=hX.obj
 refine call_isinstance (S:=fun _ R s=>(s.heap.get? r=some o/\∀ b o,T.hb.get? b=some o->s.heap.get? b=some o)/\∀ tk,R (.ok (.ret (.bool true))) {s with toks:=tk}) (fun _ _ _ _ sB hsB=>isinstance_outer ?_ (by intro e;cases e)) ⟨⟨ho,st.base⟩,hq⟩
 obtain ⟨h,g,d,t,os⟩:=sB
 exact znG (hsB.1.2 _ _ c1) (c4.keeps hsB.1.2) hsB.1.1 hc (hsB.2 t)
def zm0(xs:List Nat)(y:Nat)(a:EW):EW:=fun Z J Q P=>a Z J (fun v J1=>v.asRef fun r=>∃ x∈xs,J1 r=some (.exc x)/\Q (.bool (zfy x y)) J1) P
def zsQ(xs:List Nat)(a:EW):EW:=fun Z J Q P=>a Z J (fun v J1=>v.asRef fun r=>∃ x∈xs,J1 r=some (.exc x)/\Q (.bool true) J1) P
theorem zcD(ok:T.Ok)(B:Blt T){xs:List Nat}(X:XF T xs)(y:Nat)(hy:y∈xs){p q pos e n}{a:EW}(h:zG T d sc ctx e a)(hn:n=qO y:=by rfl)(hd:(n==("__debug__" : Str))=false:=by kernel_rfl)(hi:sc.names.lookup ("isinstance" : Str)=some .globalImplicit:=by kernel_rfl)(hx:sc.names.lookup n=some .globalImplicit:=by kernel_rfl)
  (he:∀ env,starEach [e,.Name n q] env=[(false,eval e env),(false,eval (.Name n q) env)]:=by intro _;rfl) :
  zG T d sc ctx (.Call (.Name "isinstance" p) [e,.Name n q] [] pos) (zm0 xs y a):=by
 intro A env Z J s Q P eo ro st fr hw
 subst hn
 obtain ⟨Y,hY⟩:=X y hy
 refine Call_ (yC ok eo st hi (B.none _ (by decide)) (v:=.builtin "isinstance") (by decide +kernel) (by decide) (by decide) ?_)
 have he1:starEach (e::[.Name (qO y) q]) env=(false,eval e env)::starEach [.Name (qO y) q] env:=he env
 refine callWith_builtin1 (args_cons (h.then eo ro .refl st fr hw fun v u J1 sB hv st1 p1 fr1 hw1=>?_) he1) he1 rfl
 obtain ⟨r,x,hxs,hr,hQ⟩:=hw1.get hv
 refine args_cons (Name_function_global (by rw [eo.scope];exact eo.kind) (by rw [eo.kindOf];exact hx) (loadGlobal_global (mg:=T.mg) (by rw [eo.globals];exact st1.ns ok.g) hY.mg (args_nil ?_)) hd)
 exact zrb X hxs hy st1 hr hY.mg fun tk=>⟨_,_,.bool _,st1.tok _,p1.tok _,hQ⟩
theorem zqQ(ok:T.Ok)(B:Blt T){xs:List Nat}(X:XF T xs){p q pos e}{a:EW}(h:zG T d sc ctx e a)(hi:sc.names.lookup ("isinstance" : Str)=some .globalImplicit:=by kernel_rfl)(hx:sc.names.lookup ("ValueError" : Str)=some .globalImplicit:=by kernel_rfl)
  (he:∀ env,starEach [e,.Name "ValueError" q] env=[(false,eval e env),(false,eval (.Name "ValueError" q) env)]:=by intro _;rfl) :
  zG T d sc ctx (.Call (.Name "isinstance" p) [e,.Name "ValueError" q] [] pos) (zsQ xs a):=by
 intro A env Z J s Q P eo ro st fr hw
 refine Call_ (yC ok eo st hi (B.none _ (by decide)) (v:=.builtin "isinstance") (by decide +kernel) (by decide) (by decide) ?_)
 have he1:starEach (e::[.Name "ValueError" q]) env=(false,eval e env)::starEach [.Name "ValueError" q] env:=he env
 refine callWith_builtin1 (args_cons (h.then eo ro .refl st fr hw fun v u J1 sB hv st1 p1 fr1 hw1=>?_) he1) he1 rfl
 obtain ⟨r,x,hxs,hr,hQ⟩:=hw1.get hv
 refine args_cons (yC ok eo st1 hx (B.none _ (by decide)) (v:=.type "ValueError") (by decide +kernel) (by decide) (by decide) (args_nil ?_))
 exact zo8 X hxs st1 hr fun tk=>⟨_,_,.bool _,st1.tok _,p1.tok _,hQ⟩
end
end Mine
end
section
open PySem
set_option maxRecDepth 100000
namespace Mine
open PySem.Calls PyProof.Rows
section
variable {prog:Program} {w:World} {A:Around} {E:Value->Shared->Prop} {s:Shared}
end
section
variable {T:TC} {d:Nat} {sc:Scope} {ctx:List Str}
end
section
variable {prog:Program} {w:World} {A:Around} {R:Result->Shared->Prop} {I:Addr} {fp wr:List Addr} {n:Nat} {P:Nat->Value->Prop} {St:Nat->Heap->Prop}
end
section
variable {prog:Program} {w:World} {A:Around} {E:Value->Shared->Prop} {s:Shared}
end
section
variable {T:TC} {d:Nat} {sc:Scope} {ctx:List Str}
end
section
variable (Z:zK) (J:zc) (Q:V->zc->Prop) (K:Out->zK->zc->Prop) (P:Nat->zc->Prop)
end
end Mine
end
section
open PySem
namespace Mine
open PySem.Calls PyProof.Rows
section
variable {T:TC} {d:Nat} {sc:Scope} {ctx:List Str}
noncomputable def enm:Nat->List V->List (Nat × V)
 | _,[]=>[]
 | k,v::r=>(k,v)::enm (k+1) r
theorem zgw:∀ (k:Nat) (xs:List V),(enm k xs).length=xs.length
 | _,[]=>rfl
 | k,_::r=>congrArg (· + 1) (zgw (k+1) r)
theorem zjd:∀ (k:Nat) (xs:List V) (i:Nat) (a:Nat × V),(enm k xs)[i]?=some a->xs[i]?=some a.2/\a.1=k+i
 | _,[],i,a,h=>by simp [enm] at h
 | k,v::r,0,a,h=>by simp [enm] at h;subst h;exact ⟨rfl,rfl⟩
 | k,v::r,i+1,a,h=>by
  have:=zjd (k+1) r i a (by simpa [enm] using h)
  exact ⟨by simpa using this.1,by exact eqN (liq (@r3 (↑(a.1)) (↑(k)) (↑(i))) V0 (.add V1 (.add V2 N1)) [(2,1,V0,.add (.add V1 N1) V2)] rfl (eqI this.2))⟩
noncomputable def zf0(Z:zK)(is:List Nat):zK:=is.foldl zbN Z
theorem zdx:∀ (is:List Nat) (Z:zK) (j:Nat) (u:V),qz (zf0 Z is) j=some u->j∉is/\qz Z j=some u:=by
 intro is_
 induction is_ with
 | nil =>
  intro Z j u h
  exact ⟨by simp,h⟩
 | cons i is ih_ =>
  intro Z j u h
  obtain ⟨h1,h2⟩:=ih_ (zbN Z i) j u h
  obtain ⟨h3,h4⟩:=w8 _ _ _ _ h2
  exact ⟨by simp [h1,h3],h4⟩
theorem zcV:∀ (is:List Nat) (vs:List V) (Z:zK) (j:Nat) (u:V),j∉is->qz Z j=some u->qz (zbO Z is vs) j=some u
 | [],_,Z,j,u,_,h=>by simpa [zbO] using h
 | i::is,[],Z,j,u,_,h=>by simpa [zbO] using h
 | i::is,v::vs,Z,j,u,hn,h=>by
  simp only [kad,not_or] at hn
  exact zcV is vs _ j u hn.2 (zbB Z i j v u hn.1 h)
abbrev zhF(e it l:Addr)(i:Nat)(h:Heap):Prop:=(∃ old,IsEnum h e it i old)/\h.IsListIter it l i
theorem znM{A:Around}{cenv:Env}{Z0:zK}{es:List Expr}{is:List Nat}{k:_}{pt:Pos}{xs:List V}{e it l D:Addr}(eoc:jm sc cenv)(hh:A.handled=none)(hn:j3 sc ctx true es is)(hl2:is.length=2)(hei:e≠it)
  (hwr:∀ b∈[e,it],T.hb.get? b=none/\b∉frs T) (hown:∀ b∈[e,it],b∉own cenv) :
  zsW T A ctx cenv Z0 (fun a:Nat × V=>zbO Z0 is [.int a.1,a.2]) (.Tuple es k pt) (enm 0 xs) (fun J=>J l=some (.list xs)\/J l=some (.ro xs)) e D [cenv.locals,e,it] (zhF e it l):=by
 have hX:∀ {J:zc},(∀ b∈[cenv.locals,e,it],J b=none)->∀ b∈[e,it],J b=none:=fun h b hb=>h b (kar _ hb)
 have hLe:∀ b∈[e,it],b≠cenv.locals:=fun b hb h=>hown b hb (by rw [h];exact kaG ..)
 have frm:∀ (i:Nat) (h h':Heap),zhF e it l i h->(∀ b o,b∈[e,it]->h.get? b=some o->h'.get? b=some o)->zhF e it l i h':=fun i h h' w hk=>by
  obtain ⟨⟨old,w1⟩,w2⟩:=w
  exact ⟨⟨old,hk e _ (by simp) w1⟩,w2.at fun o x=>hk it o (by simp) x⟩
 refine ⟨fun i a J' s' K E hi w st' fr' hXs ck kk=>?_,fun J' s' K E w st' fr' hXs ck kk=>?_,fun i h h' w hk=>frm i h h' w fun b o hb x=>hk b o (kar _ hb) x,fun i h w b hb hno=>?_⟩
 ·obtain ⟨hx,ha⟩:=zjd 0 xs i a hi
  rw [kcW] at ha
  obtain ⟨⟨old,he⟩,hit⟩:=w
  obtain ⟨us,hl,hv,_⟩:=st'.list ck
  obtain ⟨u,hu,hvu⟩:=hv.get hx
  refine wpAny_pyNext_enum_item he hit hl (by simpa using hu) hei fun h₁ heo hit1 htL hz1 hkB=>?_
  refine wpAny_letOwnedTupleGo_enum heo fun h₂ heC hs2=>?_
  replace hs2:ka7 e h₁ h₂:=hs2
  have htC:h₂.IsTuple s'.heap.objs.size #[.int i s'.toks,u]:=⟨_,(hs2.2 _ (kcb (ka3 he))).trans htL,rfl,_,rfl⟩
  have hea:=hn.each (env:=cenv)
  refine wpAny_assign_Tuple hh htC (by rw [hea.1,hl2];rfl) hea.2 fun h₃ hx3=>?_
  replace hx3:kdu h₂.objs.size h₂ h₃:=hx3
  have kD:∀ b o,h₂.get? b=some o->h₃.get? b=some o:=fun b o x=>hx3 b o (kbd (ka3 x)) x
  have hk:∀ b o,b∉[e,it]->s'.heap.get? b=some o->h₃.get? b=some o:=fun b o hb x=>by
   simp only [kad,kay,or_false,not_or] at hb
   exact kD b o (hs2.extBut b o hb.1 (hkB b o hb.1 hb.2 x))
  have w3:zhF e it l (i+1) h₃:=by
   refine ⟨⟨u,kD e _ ?_⟩,(hit1.extBut hs2.extBut (Ne.symm hei)).at fun o x=>kD it o x⟩
   have:((i+1:Nat):Int)=(i:Int)+1:=by push_cast;rfl
   rw [this];exact heC
  refine zjg eoc hn (st'.off (wr:=[e,it]) (fun b hb=>⟨hX hXs b hb,hwr b hb⟩) hk (s'.toks+1)) (fr'.off (wr:=[e,it]) hown hk) (vs:=[.int a.1,a.2]) (us:=[.int i s'.toks,u]) ?_ hl2.symm fun sE st4 fr4 p4=>?_
  ·rw [ha];exact .cons (.int _ _) (.cons hvu .nil)
  ·replace p4:zV T [cenv.locals] J' {s' with heap:=h₃,toks:=s'.toks+1} J' sE:=p4
   refine kk sE st4 fr4 (zV.trans (J1:=J') (sB:={s' with heap:=h₃,toks:=s'.toks+1}) ⟨fun c o hfc hc x=>⟨o,hk c o (fun h=>hc (kar _ h)) x,.inl rfl⟩,fun c o x=>?_,fun c h=>h,fun c h h'=>by simp [h] at h'⟩ (p4.weaken (by intro c hc;rw [kac.mp hc];exact kaG ..)))
    (frm _ _ _ w3 fun b o hb x=>p4.keepX (.inl (hX hXs b hb)) (fun h=>hLe b hb (kac.mp h)) (hwr b hb).2 x)
   by_cases hc:c∈[e,it]
   ·obtain ⟨⟨old',w1⟩,⟨o2,w2,_⟩⟩:=w3
    rcases kad.mp hc with rfl | hc
    ·exact ⟨_,w1⟩
    ·rw [kac.mp hc];exact ⟨_,w2⟩
   ·exact ⟨o,hk c o hc x⟩
 ·obtain ⟨⟨old,he⟩,hit⟩:=w
  rw [zgw] at he hit
  obtain ⟨us,hl,hv,hz,_⟩:=st'.list ck
  refine wpAny_pyNext_enum_end hh he hit hl (by simp [hz]) fun h' hx'=>?_
  have hk:∀ b o,b∉[e,it]->s'.heap.get? b=some o->h'.get? b=some o:=fun b o hb x=>hx' b o (fun h=>hb (by simp [h])) x
  exact kk h' s'.toks (st'.off (wr:=[e,it]) (fun b hb=>⟨hX hXs b hb,hwr b hb⟩) hk s'.toks) (fr'.off (wr:=[e,it]) hown hk) fun b o hb x=>hk b o (fun h=>hb (kar _ h)) x
 ·obtain ⟨⟨old',w1⟩,⟨o2,w2,_⟩⟩:=w
  rcases kad.mp hb with rfl | hb
  ·exact absurd (kaG ..) hno
  ·rcases kad.mp hb with rfl | hb
   ·exact ⟨_,w1⟩
   ·rw [kac.mp hb];exact ⟨_,w2⟩
def zrV(p:Addr)(xs:List V)(is:List Nat)(c:Option EW)(e:EW)(Z:zK)(J:zc)(Q:V->zc->Prop):Prop :=
 zaR (fun J=>J p=some (.list xs)\/J p=some (.ro xs)) (fun a:Nat × V=>zbO (zf0 Z is) is [.int a.1,a.2]) c e (enm 0 xs) [] J Q
def zp5(is:List Nat)(a:EW)(c:Option EW)(e:EW):EW:=fun Z J Q P=>a Z J (fun v J1=>v.asRef fun p=>zaI J1 p fun xs=>zrV p xs is c e Z J1 Q) P
structure zr4(sc:Scope)(ctx:List Str)(scope:Scope)(es:List Expr)(is:List Nat):Prop extends CompB sc ctx scope where
 tgts:j3 (zbH scope sc) ctx true es is
 two:is.length=2
 only:∀ i y,ctx[i]?=some y->scope.names.lookup y=some .local->i∈is
theorem zoK(ok:T.Ok)(B:Blt T){elt es k pt p pc pos ie ifs scope is}{a:EW}{c:Option EW}{we:EW}(co:zr4 sc ctx scope es is)(ha:zG T d sc ctx ie a)(hx:sc.names.lookup ("enumerate" : Str)=some .globalImplicit)(hif:zc1 T d (zbH scope sc) ctx ifs c)(hel:zG T d (zbH scope sc) ctx elt we)
  (he:∀ env,starEach [ie] env=[(false,eval ie env)]:=by intro _;rfl) (Cm:T.calm=none:=by assumption) :
  zG T d sc ctx (.ListComp elt [⟨.Tuple es k pt,.Call (.Name "enumerate" p) [ie] [] pc,ifs,0⟩] scope pos) (zp5 is a c we):=by
 intro A env Z J s Q P eo ro st fr hw
 rw [eval_ListComp]
 obtain ⟨cl,hcl,h1,h2⟩:∃ cl,closureFor scope env=pure cl/\(∀ x c,(x,c)∈cl->env.cells.lookup x=some c)/\(∀ y∈scope.names,y.2=.free->∃ c,cl.lookup y.1=some c):=by
  refine zgC fun y hy hf=>?_
  obtain ⟨hl,hnl,i,hi⟩:=co.free y hy hf
  have hk0:env.kindOf y.1=some .cell\/env.kindOf y.1=some .free:=by
   rw [eo.kindOf]
   cases hz:sc.names.lookup y.1 with
   | none=>rw [hz] at hl;cases hl
   | some kk =>
    rw [hz] at hl hnl
    cases kk<;>first | (cases hl;done) | exact absurd rfl hnl | exact .inl rfl | exact .inr rfl
  obtain ⟨c,o,g1,_⟩:=fr.cell i y.1 hi hk0
  exact ⟨c,g1⟩
 refine wpAny_comprehension_free (use:=none) rfl (fun _=>rfl) hcl co.kind co.names ?_
 refine Call_ (yC ok eo st hx (B.none _ (by decide)) (v:=.type "enumerate") (by decide +kernel) (by decide) (by decide) ?_)
 refine callWith_type1 (args_cons (ha.then eo ro .refl st fr hw fun v u J2 sM hv st2 p2 fr2 hw1=>args_nil ?_) (he env)) (he env) rfl
 obtain ⟨l,hw2⟩:=hw1.get hv
 obtain ⟨xs,hl,hw3⟩:=hw2.get
 obtain ⟨us,hL,hvs,hz,hlim⟩:=st2.list hl
 refine call_enumerate_list hL fun h₀ hen hit hsz0 hkA=>?_
 have hlt:l<sM.heap.objs.size:=by obtain ⟨o,e,_⟩:=hL;exact ka3 e
 generalize hN:sM.heap.objs.size=N at hen hit hsz0 hlt ⊢
 refine wpAny_pyIter_enum hen ?_
 have n2:∀ b,N<=b->sM.heap.get? b=none:=fun b hb=>kbS (by rw [hN];exact hb)
 have n0:∀ b,N<=b->s.heap.get? b=none:=fun b hb=>by
  cases e:s.heap.get? b with
  | none=>rfl
  | some o=>obtain ⟨o',h'⟩:=p2.live b o e;rw [n2 b hb] at h';cases h'
 have nb:∀ b,N<=b->T.hb.get? b=none:=fun b hb=>by
  cases e:T.hb.get? b with
  | none=>rfl
  | some o=>have:=st2.base b o e;rw [n2 b hb] at this;cases this
 have nJ:∀ b,N<=b->J2 b=none:=fun b hb=>st2.noneFree (n2 b hb)
 have nf:∀ b,N<=b->b∉frs T:=fun b hb=>st2.notFr (n2 b hb)
 refine wpAny_newObj_type ?_
 generalize hH2:h₀.push {cls:=.type "list", dict:=none,data:=.seq ([]:List Value).toArray}=H2
 have hHD:IsL H2 (N+2) #[] 0:=by rw [<-hH2,<-hsz0];exact kaF _ rfl
 have hC:H2.objs.size=N+3:=by rw [<-hH2,kbK,hsz0]
 have e2:∀ b o,h₀.get? b=some o->H2.get? b=some o:=fun b o e=>hH2▸kap _ e
 refine wpAny_newFunctionEnv co.nocell (by intro y hy;simp at hy) (fun h₁ hns1 hsb1=>?_) co.kind
 dsimp only at hns1 hsb1 ⊢
 rw [hC] at hns1 hsb1 ⊢
 have up:∀ b o,H2.get? b=some o->h₁.get? b=some o:=fun b o e=>hsb1.extBut b o (kbd (hC▸ka3 e)) (kap _ e)
 have old:∀ b o,sM.heap.get? b=some o->h₁.get? b=some o:=fun b o e=>up b o (e2 b o (hkA b o e))
 have a0:N<=N:=kaB _
 have a1:N<=N+1:=by exact kci _
 have a2:N<=N+2:=by exact leN (lin r1 V0 (.add V0 (.num 2)) [] rfl)
 have a3:N<=N+3:=by exact leN (lin r1 V0 (.add V0 (.num 3)) [] rfl)
 obtain ⟨frc,eoc⟩:=zgB (Z':=zf0 Z is) (C:=N+3) (h':=h₁) eo fr2 co.toCompB (fun i y v hi hv=>by
  obtain ⟨hne,hv'⟩:=zdx _ _ _ _ hv
  exact ⟨hv',fun hq=>hne (co.only i y hi hq)⟩) h1 h2 (nJ _ a3) (nb _ a3) old (n2 _ a3) (by simpa using hns1)
 have hcl':∀ y c',(y,c')∈cl->∃ o,s.heap.get? c'=some o:=fun y c' hm=>by
  obtain ⟨o,ob,e,_⟩:=(fr.cfree y c' (h1 y c' hm)).2
  exact ⟨ob,e⟩
 have hno:∀ b,N<=b->b≠N+3->b∉own (compEnvC scope cl (N+3) env):=fun b hb hb3 ho=>by
  simp only [own,compEnvC,kad,kau] at ho
  rcases ho with h | ⟨⟨y,c'⟩,hm,rfl⟩
  ·exact hb3 h
  ·obtain ⟨o,e⟩:=hcl' y c' hm
   rw [n0 _ hb] at e;cases e
 have b01:N+1≠N:=by exact (fun h_=>lif (@r1 (↑(N))) [(2,1,.add V0 N1,V0)] rfl (eqI h_))
 have b03:N≠N+3:=by exact (fun h_=>lif r1 [(2,-1,V0,.add V0 (.num 3))] rfl (eqI h_))
 have b13:N+1≠N+3:=by exact (fun h_=>lif (@r1 (↑(N))) [(2,-1,.add V0 N1,.add V0 (.num 3))] rfl (eqI h_))
 have b23:N+2≠N+3:=by exact (fun h_=>lif (@r1 (↑(N))) [(2,-1,.add V0 (.num 2),.add V0 (.num 3))] rfl (eqI h_))
 have b20:N+2≠N:=by exact (fun h_=>lif (@r1 (↑(N))) [(2,1,.add V0 (.num 2),V0)] rfl (eqI h_))
 have b21:N+2≠N+1:=by exact (fun h_=>lif (@r1 (↑(N))) [(2,1,.add V0 (.num 2),.add V0 N1)] rfl (eqI h_))
 have two:∀ {R:Addr->Prop},R (N+1)->R N->∀ b∈[N+1,N],R b:=fun h1 h2 b hb=>by
  rcases kad.mp hb with rfl | hb
  ·exact h1
  ·rw [kac.mp hb];exact h2
 have zk6:∀ {R:Addr->Prop},R (N+3)->R (N+1)->R N->∀ b∈[N+3,N+1,N],R b:=fun h0 h1 h2 b hb=>by
  rcases kad.mp hb with rfl | hb
  ·exact h0
  ·exact two h1 h2 b hb
 have hd:=znM (T:=T) (A:=A) (Z0:=zf0 Z is) (xs:=xs) (l:=l) (D:=N+2) (k:=k) (pt:=pt) eoc (ro.handled Cm) co.tgts co.two b01 (two ⟨nb _ a1,nf _ a1⟩ ⟨nb _ a0,nf _ a0⟩) (two (hno _ a1 b13) (hno _ a0 b03))
 have w1:zhF (N+1) N l 0 h₁:=⟨⟨_,up _ _ (e2 _ _ hen)⟩,hit.at fun o x=>up _ _ (e2 _ _ x)⟩
 have ex:∀ b,(∃ o,h₀.get? b=some o)->∃ o,h₁.get? b=some o:=fun b h=>let ⟨o,e⟩:=h;⟨o,up _ _ (e2 _ _ e)⟩
 have loop:codeAny T.M A (.compLoop (.ListComp elt [⟨.Tuple es k pt,.Call (.Name "enumerate" p) [ie] [] pc,ifs,0⟩] scope pos) 0 (.ref (N+1)) (.ref (N+2)) (compEnvC scope cl (N+3) env)) (compPost T.M A (jL T [] J s P) none (zhD T J s Q) (.ref (N+2)) (N+3)) {sM with heap:=h₁,toks:=sM.toks+([]:List (Str × Value)).length}:=by
  refine zid hif hel eoc ro hd (fun a i w hw'=>?_) (zk6 ⟨n0 _ a3,nf _ a3⟩ ⟨n0 _ a1,nf _ a1⟩ ⟨n0 _ a0,nf _ a0⟩) (zk6 ?_ (ex _ ⟨_,hen⟩) (ex _ (let ⟨o,e,_⟩:=hit;⟨o,e⟩))) ?_ (nf _ a2) (n0 _ a2) (nb _ a2) ?_ (hno _ a2 b23) (st2.grow old _) (p2.grow old _) frc w1 (zk6 (nJ _ a3) (nJ _ a1) (nJ _ a0)) (nJ _ a2) (up _ _ hHD) (by rw [zgw];exact hlim) hw3 fun J' s' m st' p' hn hCJ hq=>?_
  ·obtain ⟨hne,hg⟩:=zdx _ _ _ _ hw'
   exact zcV is _ _ i w hne hw'
  ·obtain ⟨o,es',ep,ho,_⟩:=hns1;exact ⟨o,ho⟩
  ·intro h
   rcases kad.mp h with h | h
   ·exact b23 h
   ·rcases kad.mp h with h | h
    ·exact b21 h
    ·exact b20 (kac.mp h)
  ·have:=(st2.grow hkA sM.toks).big
   rw [show ({sM with heap:=h₀,toks:=sM.toks}:Shared).heap.objs.size=N+2 from hsz0] at this
   exact this
  ·refine ⟨m,hn,fun h' hs'=>⟨_,J',.ref (N+2),?_,?_,hq⟩⟩
   ·exact st'.off (wr:=[N+3]) (by simp;exact ⟨hCJ,nb _ a3,nf _ a3⟩) (fun b o hb e=>hs'.extBut b o (by simpa using hb) e) s'.toks
   ·exact p'.off (wr:=[N+3]) (by simpa using n0 _ a3) (fun b o hb e=>hs'.extBut b o (by simpa using hb) e) s'.toks
 simp only [hsz0]
 exact codeAny_compStart_list loop (wpAny_pyIter_enum (up _ _ (e2 _ _ hen)) loop)
noncomputable def ztz(e:Expr):Option Str:=match e with
 | .Name x _=>some x
 | _=>none
theorem zsl{e:Expr}{x:Str}(h:ztz e=some x):∃ p,e=.Name x p:=by
 cases e with
 | Name y p=>exact ⟨p,Option.some.inj h▸rfl⟩
 | _=>exact qE rfl h
noncomputable def zkI(sc:Scope)(ctx:List Str)(es:List Expr):List Nat->Bool :=
 es.rec (fun is=>is.isEmpty) fun e _ f is=>is.rec false fun i r _=>(ztz e).any (fun x=>ctx[i]?==some x && sc.names.lookup x==some .local) && f r
theorem zlk{sc:Scope}{ctx:List Str}{es:List Expr}:∀ {is:List Nat},zkI sc ctx es is=true->j3 sc ctx true es is:=by
 induction es with
 | nil =>
  intro is h
  cases is with
  | nil=>exact .nil
  | cons=>cases h
 | cons e r ih =>
  intro is h
  cases is with
  | nil=>cases h
  | cons i is =>
   have h:=kaT.mp h
   obtain ⟨x,hx,h1⟩:=(Option.any_eq_true _ _).mp h.1
   obtain ⟨p,rfl⟩:=zsl hx
   have h1:=kaT.mp h1
   exact .cons (eq_of_beq h1.1) (by rw [eq_of_beq h1.2];rfl) (fun _=>eq_of_beq h1.2) (ih h.2)
noncomputable def zp4(sc:Scope)(ctx:List Str)(scope:Scope)(es:List Expr)(is:List Nat):Bool :=
 scope.kind==.function && scope.names.all (fun y=>y.2 != .cell) && scope.names.all (fun y=>y.2 != .local || scope.names.lookup y.1==some .local) && is.length==2 && zkI (zbH scope sc) ctx es is &&
 scope.names.all (fun y=>y.2 != .free || (zhH (sc.names.lookup y.1) && sc.names.lookup y.1 != some .local && ctx.contains y.1)) && (kab ctx.length).all fun i=>(ctx[i]?).all fun y=>scope.names.lookup y != some .local || is.contains i
theorem zpn{sc ctx scope es is}(h:zp4 sc ctx scope es is=true:=by kernel_rfl):zr4 sc ctx scope es is:=by
 unfold zp4 at h
 simp only [kaJ,kaX,kbu,bne_iff_ne,ne_eq,beq_iff_eq] at h
 obtain ⟨⟨⟨⟨⟨⟨h1,h2⟩,h3⟩,h4⟩,h5⟩,h6⟩,h7⟩:=h
 refine ⟨⟨h1,h2,fun y hy hl=>?_,fun y hy hf=>?_⟩,zlk h5,h4,fun i y hi hl=>?_⟩
 ·rcases h3 y hy with h | h
  ·exact absurd hl h
  ·exact h
 ·rcases h6 y hy with h | h
  ·exact absurd hf h
  ·exact ⟨h.1.1,h.1.2,kbR (kbh.mp h.2)⟩
 ·have:=h7 i (kam.mpr (kah.mp hi).1)
  rw [hi] at this
  simp only [Option.all_some,kbu,bne_iff_ne,ne_eq] at this
  rcases this with h | h
  ·exact absurd hl h
  ·exact kbh.mp h
end
end Mine
end
section
open PySem
namespace Mine
open PySem.Calls PyProof.Rows
section
variable {T:TC} {d:Nat} {sc:Scope} {ctx:List Str}
def zaQ:EW:=fun Z J Q P=>yT (.dict []) J Q
theorem zaz{pos}:zG T d sc ctx (.Dict [] [] pos) zaQ:=by
 intro A env Z J s Q P eo ro st fr hw
 refine wpAny_Dict_empty ?_
 exact ⟨_,_,.ref _,st.lay (fun b o e=>kap _ e) (kaF _ rfl) (so:=.dict []) ⟨by simp,[],⟨#[],0,⟨rfl,rfl,rfl⟩,rfl,fun _ he=>by simp at he,Pairs.nil,kb5⟩,.nil⟩ s.toks,zV.refl.lay (fun b o e=>kap _ e) _ s.toks,hw _ st.sizeFree⟩
def zmn(a:EW):EW:=fun Z J Q P=>a Z J (fun v J1=>v.asRef fun p=>yI J1 p fun kvs=>yT (.dict kvs) J1 Q) P
theorem zoJ(ok:T.Ok)(B:Blt T){p pos e}{a:EW}(h:zG T d sc ctx e a)(hx:sc.names.lookup ("dict" : Str)=some .globalImplicit:=by kernel_rfl)
  (he:∀ env,starEach [e] env=[(false,eval e env)]:=by intro _;rfl):zG T d sc ctx (.Call (.Name "dict" p) [e] [] pos) (zmn a):=by
 refine zf6 ok h hx (B.none _ (by decide)) (id := "dict") (by decide +kernel) (by decide) (by decide) (fun Z J Q P hw=>⟨_,hw,fun A v u J0 sa J1 sB E ro hv st1 p1 hw1=>?_⟩) he
 obtain ⟨q,hw2⟩:=hw1.get hv
 obtain ⟨kvs,hx,hw3⟩:=hw2.get
 obtain ⟨us,hd,hk,hlim⟩:=st1.dict hx
 refine kt_call_dict (knd:=intKind T.prog T.w) (st1.sysm _ (by simp [hx]) (st1.notScr hx (by intro xs e;cases e))) hd (by rw [hk.length];exact kai hlim wM) fun h' hd' hs'=>?_
 have old:∀ b o,sB.heap.get? b=some o->h'.get? b=some o:=fun b o e=>hs'.extBut b o (kbd (ka3 e)) (kap _ e)
 obtain ⟨o,ho,hi⟩:=kcg.mp hd'
 exact ⟨_,_,.ref _,st1.lay old ho (so:=.dict kvs) ⟨hlim,us,hi,hk⟩ sB.toks,p1.lay old _ sB.toks,hw3 _ st1.sizeFree⟩
noncomputable def zbQ(kvs more:List (Int × V)):List (Int × V):=more.foldl (fun acc kv=>zho acc kv.1 kv.2) kvs
theorem KVs.merge{kvs us more ms}(h:KVs kvs us)(h':KVs more ms):KVs (zbQ kvs more) (merged us ms):=by
 induction h' generalizing kvs us with
 | nil=>exact h
 | cons hv _ ih=>exact ih (h.put _ hv)
theorem zlI:∀ (more kvs:List (Int × V)),(zbQ kvs more).length<=kvs.length+more.length:=by
 intro r_
 induction r_ with
 | nil =>
  intro _
  exact kaB _
 | cons kv r ih_ =>
  intro kvs
  have h1:=ih_ (zho kvs kv.1 kv.2)
  have h2:=zkQ kvs kv.1 kv.2
  simp only [zbQ,kcE,kaj] at h1 ⊢
  lia
def zsM(a b:EW):EW:=fun Z J Q P =>
 a Z J (fun va J1=>va.asRef fun p=>yI J1 p (fun _=>True)/\b Z J1 (fun vb J2=>vb.asRef fun q=>p≠q/\yI J2 p fun kvs=>yI J2 q fun more=>kvs.length+more.length<=lim/\Q .none (put J2 p (.dict (zbQ kvs more)))) P) P
theorem zsc{o e apos pos}{a b:EW}(h:zG T d sc ctx o a)(h':zG T d sc ctx e b)
  (hbase:∀ env,attributeBase o "update" env (eval o env)=eval o env:=by intro _;rfl)
  (hline:(apos.endLine==pos.line)=true:=by rfl)
  (htrees:∀ env,backTo pos (starEach [e] env)=[(false,eval e env)]:=by intro _;rfl) :
  zG T d sc ctx (.Call (.Attribute o "update" apos) [e] [] pos) (zsM a b):=by
 intro A env Z J s Q P eo ro st fr hw
 refine wpAny_Call_method1_late (hbase env) hline (htrees env) (h.run eo ro st fr hw fun va ua J1 sB v1 st1 p1 fr1 hw1=>?_)
 obtain ⟨p,hw2,hw3⟩:=hw1.get v1
 obtain ⟨kv1,hxB,_⟩:=hw2.get
 obtain ⟨us1,hdB,_⟩:=st1.dict hxB
 refine ⟨"dict","dict.update", F.plainAttrs_dict,F.slot_dict_update,F.type_dict_update,hdB.typeIs,hdB.mapOf.noDict,?_⟩
 refine Calls.callWith_builtin rfl (Calls.evalArgs_plain (Calls.spliced_cons (h'.then eo ro p1 st1 fr1 hw3 fun vb ub J2 sM v2 st2 p2 fr2 hw4=>Calls.spliced_nil ?_)))
 obtain ⟨q,hne,hw5⟩:=hw4.get v2
 obtain ⟨kvs,hx,hw6⟩:=hw5.get
 obtain ⟨more,hy,hl,hw7⟩:=hw6.get
 obtain ⟨us,hd,hk,hlim⟩:=st2.dict hx
 obtain ⟨ms,hd',hk',hlim'⟩:=st2.dict hy
 refine call_meetsIn F.slot_dict_update hd.typeIs F.entry_dict_update (F.args_dict_update_2 _ _) (meets_dict_update (intKind T.prog T.w) p q hne (st2.sysm _ (by simp [hy]) (st2.notScr hy (by intro xs e;cases e)))) ⟨us,ms,hd,hd',by rw [hk.length,hk'.length];exact kai hl wM,fun hh hdd _ hs=>?_⟩
 have hn:=st2.notScr hx (by intro _ e;cases e)
 obtain ⟨ob,ho,hi⟩:=kcg.mp hdd
 exact ⟨_,_,.none,st2.turn hx hn hs ho (so':=.dict (zbQ kvs more)) ⟨kai (zlI _ _) hl,_,hi,hk.merge hk'⟩ sM.toks,p2.turn hx hn hs ho sM.toks,hw7⟩
theorem zfT:∀ {ns:List Int} {us:List Value},yf (zs ns) us->IntsAre us ns
 | [],_,h=>by cases h;exact .nil
 | n::ns,_,h=>by
  cases h with
  | cons h1 h2=>cases h1;exact .cons n _ (zfT h2)
theorem zm1{ns:List Int}{us:List Value}(h:IntsAre us ns):yf (zs ns) us:=by
 induction h with
 | nil=>exact .nil
 | cons n t _ ih=>exact .cons (.int n t) ih
def zrJ(a:EW):EW:=fun Z J Q P=>a Z J (fun v J1=>v.asRef fun p=>zaI J1 p fun xs=>∃ ns,xs=zs ns/\ns.length<64/\∀ ns':List Int,ns'.Perm ns->ns'.Pairwise (·<=·)->yT (.list (zs ns')) J1 Q) P
theorem zqM(ok:T.Ok)(B:Blt T){p pos e}{a:EW}(h:zG T d sc ctx e a)(hx:sc.names.lookup ("sorted" : Str)=some .globalImplicit:=by kernel_rfl)
  (he:∀ env,starEach [e] env=[(false,eval e env)]:=by intro _;rfl):zG T d sc ctx (.Call (.Name "sorted" p) [e] [] pos) (zrJ a):=by
 refine zef ok h hx (B.none _ (by decide)) (id := "sorted") (by decide +kernel) (by decide) (by decide) (fun Z J Q P hw=>⟨_,hw,fun A v u J0 sa J1 sB E ro hv st1 p1 hw1=>?_⟩) he
 obtain ⟨q,hw2⟩:=hw1.get hv
 obtain ⟨xs,hx,ns,rfl,h64,hw3⟩:=hw2.get
 obtain ⟨us,hl,hvs,hz,hlim⟩:=st1.list hx
 rw [qb] at hz hlim
 refine sorted_ints (vs:=us.toList) (ns:=ns) (by simpa using hl) (zfT hvs) (by simpa [hz] using h64) fun out ns' a1 a2 a3=>?_
 have old:∀ b o,sB.heap.get? b=some o->(sortedAll sB.heap us.toList out).get? b=some o:=fun b o e=>sortedAll_old e
 obtain ⟨c,hat⟩:=sortedAll_at sB.heap us.toList out
 have st2:=st1.grow old sB.toks
 have n1:sB.heap.get? (sB.heap.objs.size+1)=none:=kbS (kci _)
 refine ⟨_,put J1 (sB.heap.objs.size+1) (.list (zs ns')),.ref _,st2.adopt (st1.notFr n1) (st1.noneFree n1) ?_ ?_ (h':=sortedAll sB.heap us.toList out) ⟨rfl,fun _ _=>rfl⟩ hat (so:=.list (zs ns')) ⟨by rw [qb,a2.length_eq];exact hlim,out,c,rfl,zm1 a1⟩ sB.toks,(p1.grow old sB.toks).adopt ?_ (h':=sortedAll sB.heap us.toList out) ⟨rfl,fun _ _=>rfl⟩ hat _ sB.toks,hw3 ns' a2 a3 _ (st1.noneFree n1)⟩
 ·cases e:T.hb.get? (sB.heap.objs.size+1) with
  | none=>rfl
  | some ob=>have:=st1.base _ _ e;rw [n1] at this;cases this
 ·have:=(st1.push {cls:=.type "list", data:=.seq #[]} sB.toks).big
  rw [show ({sB with heap:=sB.heap.push {cls:=.type "list", data:=.seq #[]},toks:=sB.toks}:Shared).heap.objs.size=sB.heap.objs.size+1 from kbK ..] at this
  exact this
 ·cases e:sa.heap.get? (sB.heap.objs.size+1) with
  | none=>rfl
  | some ob=>obtain ⟨o',h'⟩:=p1.live _ _ e;rw [n1] at h';cases h'
noncomputable def zdL(ns:List Int):Nat:=(firstMet (fun i=>ns.getD i 0) ns.length).length
def zi5(a:EW):EW:=fun Z J Q P=>a Z J (fun v J1=>v.asRef fun p=>zaI J1 p fun xs=>∃ ns,xs=zs ns/\ns.length+1<4096/\Q (.int (zdL ns)) J1) P
theorem znx(ok:T.Ok)(B:Blt T){p p' pos pos' e}{a:EW}(h:zG T d sc ctx e a)(hx:sc.names.lookup ("len" : Str)=some .globalImplicit)(hx':sc.names.lookup ("set" : Str)=some .globalImplicit)
  (he:∀ env,starEach [e] env=[(false,eval e env)]:=by intro _;rfl) (C:T.calm=none:=by assumption):zG T d sc ctx (.Call (.Name "len" p) [.Call (.Name "set" p') [e] [] pos'] [] pos) (zi5 a):=by
 intro A env Z J s Q P eo ro st fr hw
 refine Call_ (yC ok eo st hx (B.none _ (by decide)) (v:=.builtin "len") (by decide +kernel) (by decide) (by decide) ?_)
 refine Calls.callWith_builtin rfl (Calls.evalArgs_plain (Calls.spliced_cons ?_))
 refine Call_ (yC ok eo st hx' (B.none _ (by decide)) (v:=.type "set") (by decide +kernel) (by decide) (by decide) ?_)
 refine callWith_type1 (args_cons (h.then eo ro .refl st fr hw fun v u J1 sB hv st1 p1 fr1 hw1=>args_nil ?_) (he env)) (he env) rfl
 obtain ⟨q,hw2⟩:=hw1.get hv
 obtain ⟨xs,hx,ns,rfl,h64,hw3⟩:=hw2.get
 obtain ⟨us,hl,hvs,hz,hlim⟩:=st1.list hx
 rw [qb] at hz hlim
 refine call_set_list (ns:=ns) (ro.handled C) hl (zfT hvs) (by rw [hz];exact h64) fun h' tk hS hk=>Calls.spliced_nil ?_
 obtain ⟨o,es,ep,t,ho,hex,hd,_,_,hb,hf,hn⟩:=hS
 rw [hz] at hn
 refine call_len_set ho hex hd hf (by rw [hn];have:=firstMet_length_le (fun i=>ns.getD i 0) ns.length;omega) ?_
 have old:∀ b o,sB.heap.get? b=some o->h'.get? b=some o:=fun b o e=>hk b o (ka3 e) e
 rw [hn]
 exact ⟨_,_,.int _ _,(st1.grow old tk).tok _,(p1.grow old tk).tok _,hw3⟩
def zsS(a b:EW):EW:=fun Z J Q P =>
 a Z J (fun va J1=>va.asRef fun p=>qG J1 p (fun _=>True)/\b Z J1 (fun vb J2=>vb.asInt fun k=>qG J2 p fun xs=>∃ ns j,xs=zs ns/\ns[j]?=some k/\(∀ m:Nat,m<j->ns[m]?≠some k)/\Q (.int (j:Nat)) J2) P) P
theorem zkO{us:List Value}{ns:List Int}(h:IntsAre us ns){j:Nat}{u:Value}(e:us[j]?=some u):∃ n t,ns[j]?=some n/\u=.int n t:=by
 obtain ⟨v,h1,h2⟩:=(zm1 h).getR e
 unfold zs at h1
 rw [kaP] at h1
 obtain ⟨n,hn,rfl⟩:=kcv.mp h1
 cases h2 with
 | int _ t=>exact ⟨n,t,hn,rfl⟩
theorem zse{o e apos pos}{a b:EW}(h:zG T d sc ctx o a)(h':zG T d sc ctx e b)
  (hbase:∀ env,attributeBase o "index" env (eval o env)=eval o env:=by intro _;rfl)
  (hline:(apos.endLine==pos.line)=true:=by rfl)
  (htrees:∀ env,backTo pos (starEach [e] env)=[(false,eval e env)]:=by intro _;rfl) :
  zG T d sc ctx (.Call (.Attribute o "index" apos) [e] [] pos) (zsS a b):=by
 intro A env Z J s Q P eo ro st fr hw
 refine wpAny_Call_method1_late (hbase env) hline (htrees env) (h.run eo ro st fr hw fun va ua J1 sB v1 st1 p1 fr1 hw1=>?_)
 obtain ⟨p,hw2,hw3⟩:=hw1.get v1
 obtain ⟨xs1,hxB,_⟩:=hw2.get
 obtain ⟨us1,nB,ho1,_⟩:=st1.isL hxB
 refine ⟨"list","list.index", F.plainAttrs_list,F.slot_list_index,F.type_list_index,⟨_,ho1,rfl⟩,(fun a e=>by cases e;exact ⟨_,ho1,rfl⟩),?_⟩
 refine Calls.callWith_builtin rfl (Calls.evalArgs_plain (Calls.spliced_cons (h'.then eo ro p1 st1 fr1 hw3 fun vb ub J2 sM v2 st2 p2 fr2 hw4=>Calls.spliced_nil ?_)))
 obtain ⟨k,tk,hw5⟩:=hw4.get v2
 obtain ⟨xs,hx,ns,j,rfl,hj,hfirst,hw6⟩:=hw5.get
 obtain ⟨us,n,ho,hv,hz,hlim⟩:=st2.isL hx
 have hI:=zfT hv
 have hlen:us.size=ns.length:=by have:=hv.length;simpa [qb] using this
 have hjl:j<us.size:=by rw [hlen];exact (kah.mp hj).1
 refine call_meets F.slot_list_index ⟨_,ho,rfl⟩ F.entry_list_index (F.args_list_index_2 _ _) (MeetsSeq.list_index p us n (.int k tk) (isInt k) (fun y hy=>eq_isInt k tk hI y (by simpa using hy)) j hjl (by rw [qb] at hlim;unfold lim at hlim;exact lit r3 V0 (.sub (.num 9223372036854775808) N1) [(0,1,V1,.num 1000000),(2,1,V2,V1),(1,1,V0,V2)] rfl (leI hlim) (eqI hlen) (ltI hjl)) ?_ fun m hm hmj=>?_) ⟨ho,?_⟩
 ·obtain ⟨m,t,h1,h2⟩:=zkO hI (j:=j) (u:=us[j]) (by simp [hjl])
  rw [h2];rw [hj] at h1;cases h1;simp [isInt]
 ·obtain ⟨m',t,h1,h2⟩:=zkO hI (j:=m) (u:=us[m]) (by simp [hm])
  rw [h2]
  have:=hfirst m hmj
  rw [h1] at this
  simp only [ne_eq,Option.some.injEq] at this
  simp [isInt,this]
 ·exact ⟨_,_,.int _ _,st2.tok _,p2.tok _,hw6⟩
end
end Mine
end
section
open PySem
namespace Mine
open PySem.Calls PyProof.Rows
section
variable {T:TC} {d:Nat} {sc:Scope} {ctx:List Str}
def zdD(a:EW):EW:=fun Z J Q P=>a Z J (fun v J1=>v.asRef fun p=>zaI J1 p fun xs=>yT (.tup xs) J1 Q) P
theorem zc7(ok:T.Ok)(B:Blt T){p pos e}{a:EW}(h:zG T d sc ctx e a)(hx:sc.names.lookup ("tuple" : Str)=some .globalImplicit:=by kernel_rfl)
  (he:∀ env,starEach [e] env=[(false,eval e env)]:=by intro _;rfl):zG T d sc ctx (.Call (.Name "tuple" p) [e] [] pos) (zdD a):=by
 refine zf6 ok h hx (B.none _ (by decide)) (id := "tuple") (by decide +kernel) (by decide) (by decide) (fun Z J Q P hw=>⟨_,hw,fun A v u J0 sa J1 sB E ro hv st1 p1 hw1=>?_⟩) he
 obtain ⟨q,hw2⟩:=hw1.get hv
 obtain ⟨xs,hx,hw3⟩:=hw2.get
 obtain ⟨us,hl,hvs,hz,hlim⟩:=st1.list hx
 refine call_tuple_list hl (fun h' hk=>?_) (by rw [hz];exact kai hlim wM)
 have st2:=st1.grow hk sB.toks
 have p2:=p1.grow hk sB.toks
 exact ⟨_,_,.ref _,st2.lay (fun b o e=>kap _ e) (kaF _ rfl) (so:=.tup xs) ⟨hlim,us,0,rfl,hvs⟩ sB.toks,p2.lay (fun b o e=>kap _ e) _ sB.toks,hw3 _ st2.sizeFree⟩
theorem zoP{α}(us:Array α):((kab us.size).map fun (k:Nat)=>((us.size:Int) - 1+(-1)*(k:Int)).toNat).filterMap (fun x=>us[x]?)=us.toList.reverse:=by
 have h:∀ k∈kab us.size,us[((us.size:Int) - 1+(-1)*(k:Int)).toNat]?=us.toList.reverse[k]?:=by
  intro k hk
  have hk':=kam.mp hk
  have e:((us.size:Int) - 1+(-1)*(k:Int)).toNat=us.size - 1 - k:=by
   obtain ⟨n,hn⟩:∃ n,us.size=n+(k+1):=⟨_,(Nat.sub_add_cancel hk').symm⟩
   rw [hn,show ((n+(k+1):Nat):Int) - 1+(-1)*(k:Int)=(n:Int) from liq (@r2 (↑n) (↑k)) (.add (.sub (.add V0 (.add V1 N1)) N1) (.mulL (-1) V1)) V0 [] rfl]
   exact (Nat.add_sub_cancel ..).symm
  rw [e,List.getElem?_reverse (by simpa using hk')]
  simp
 rw [kdx]
 have h2:kcm ((fun x=>us[x]?)∘fun (k:Nat)=>((us.size:Int) - 1+(-1)*(k:Int)).toNat) (kab us.size)=kcm (fun k=>us.toList.reverse[k]?) (kab us.size):=by
  have g:∀ (l:List Nat),(∀ k∈l,us[((us.size:Int) - 1+(-1)*(k:Int)).toNat]?=us.toList.reverse[k]?)->kcm ((fun x=>us[x]?)∘fun (k:Nat)=>((us.size:Int) - 1+(-1)*(k:Int)).toNat) l=kcm (fun k=>us.toList.reverse[k]?) l:=by
   intro l
   induction l with
   | nil=>intro _;rfl
   | cons k l ih =>
    intro hl
    rw [kbX,kbX,ih fun x hx=>hl x (kar _ hx)]
    have:=hl k (kaG ..)
    simp only [Function.comp]
    rw [this]
  exact g _ h
 rw [h2]
 have:us.size=us.toList.reverse.length:=by simp
 rw [this]
 generalize us.toList.reverse=l
 have key:∀ (n:Nat),n<=l.length->kcm (fun k=>l[k]?) (kab n)=l.take n:=by
  intro n
  induction n with
  | zero=>intro _;simp
  | succ n ih =>
   intro hn
   rw [ka4,List.filterMap_append,ih (by exact kby ‹_›),kaN]
   have:l[n]?=some l[n]:=kae ‹_›
   simp [this]
 rw [key _ (kaB _),kba]
theorem yf.reverse{vs:List V}{us:List Value}(h:yf vs us):yf vs.reverse us.reverse:=by
 induction h with
 | nil=>exact .nil
 | cons h _ ih=>rw [kdC,kdC];exact ih.append (.cons h .nil)
end
end Mine
end
section
open PySem PySem.Calls PyProof.Rows
namespace Mine
section
variable {T:TC} {d:Nat} {sc:Scope} {ctx:List Str}
theorem zoI{e i p pos}{a b:EW}(h:zG T d sc ctx e a)(h':zG T d sc ctx i b)
  (hs:∀ o k,subscripted (.Slice none (some i) none p) false o k=operate [k,o] (getItem o k):=by intro _ _;rfl) :
  zG T d sc ctx (.Subscript e (.Slice none (some i) none p) pos) (zhG a b):=by
 intro A env Z J s Q P eo ro st fr hw
 refine Subscript_ (h.run eo ro st fr hw fun va ua J1 sB v1 st1 p1 fr1 hw1=>?_)
 refine wpAny_Slice (wpAny_evalPart_none (wpAny_evalPart_some (h'.then eo ro p1 st1 fr1 hw1 fun vi ui J2 sM v2 st2 p2 fr2 hw2=>wpAny_evalPart_none ?_)))
 obtain ⟨q,hw3⟩:=hw2.get v1
 obtain ⟨k,t,h0,hw4⟩:=hw3.get v2
 obtain ⟨xs,hx,hw5⟩:=hw4.get
 obtain ⟨us,hl,hv,hz,hlim⟩:=st2.list hx
 obtain ⟨j,rfl⟩:=kax h0
 refine tail_any (hl.push _).typeIs slot_list_getitem.lookup (wpAny_getItem_list_slice (hl.push _) (Heap.IsSliceOf.new ..) .none (.int _ _) .none (by simp) ?_ (by rw [hz];exact kai hlim wM)) (hs _ _)
 have e:slicePick us none (some (j:Int)) none=(us.toList.take j).toArray:=slicePick_upto' us j
 rw [e,kbK]
 exact zex st2 p2 (by simpa using hv.take j) (by simp;lia) hw5
theorem zh9{prog:Program}{w:World}{A:Around}{E:Value->Shared->Prop}{it l:Addr}{items:Array Value}(hne:l≠it):∀ (n i:Nat) (s:Shared) (Q:List Value->Shared->Prop),s.heap.IsListIter it l i->s.heap.IsList l items->i+n<=items.size ->
  (∀ h',h'.IsListIter it l (i+n)->ka7 it s.heap h'->Q ((items.toList.drop i).take n) {s with heap:=h'})->wpAny (model prog w) A (draw (.ref it) n) Q E s
 | 0,i,s,Q,hit,_,_,hQ=>by
  show wpAny _ _ (pure []) Q E s
  exact kaC (by simpa using hQ s.heap hit (ka7.refl ..))
 | n+1,i,s,Q,hit,ht,hle,hQ=>by
  have hlt:i<items.size:=by exact ltN (lit (@r3 (↑(i)) (↑(items.size)) (↑(n))) V0 V1 [(0,1,.add V0 (.add V2 N1),V1),(0,1,N0,V2)] rfl (leI hle) (nnI _))
  show wpAny _ _ (pyNext (.ref it) >>= _) Q E s
  refine kag (wpAny_pyNext_list_item hit ht (x:=items[i]) (by simp [hlt]) fun h₁ hit1 hsB=>?_)
  refine kag (wpAny_holding (zh9 hne n (i+1) _ _ hit1 (ht.extBut hsB.extBut hne) (by exact leN (lin (@r3 (↑(i)) (↑(n)) (↑(items.size))) (.add (.add V0 N1) V1) V2 [(0,1,.add V0 (.add V1 N1),V2)] rfl (leI hle))) fun h₂ hit2 hs2=>kaC ?_))
  have hd:items.toList.drop i=items[i]::items.toList.drop (i+1):=by simp [kbT,hlt]
  have:=hQ h₂ (by rw [show i+(n+1)=i+1+n by exact eqN (liq (@r2 (↑(i)) (↑(n))) (.add V0 (.add V1 N1)) (.add (.add V0 N1) V1) [] rfl)];exact hit2) (hsB.trans hs2)
  rw [hd,List.take_succ_cons] at this
  exact this
theorem zd7{prog:Program}{w:World}{A:Around}{E:Value->Shared->Prop}{s:Shared}{t:Addr}{items:Array Value}{Q:List Value->Shared->Prop}(hh:A.handled=none)(ht:s.heap.IsList t items)
  (hQ:∀ h',kdu s.heap.objs.size s.heap h'->Q items.toList {s with heap:=h'}):wpAny (model prog w) A (unpackItems (.ref t) items.size none) Q E s:=by
 have hlt:t≠s.heap.objs.size:=by obtain ⟨o,ho,_⟩:=ht;exact kbd (ka3 ho)
 unfold unpackItems
 refine kag ?_
 unfold notIterableAtAll
 refine kag (wpAny_specialOf ht.typeIs slot_list_iter.lookup ?_)
 refine kaC ?_
 simp only [kak,if_false]
 refine kag (wpAny_holding (wpAny_pyIter_list ht ?_))
 refine kag (wpAny_holding (zh9 hlt items.size 0 _ _ ⟨_,kaF _ rfl,rfl,rfl⟩ (ht.push _) (by exact leN (lin r1 (.add N0 V0) V0 [] rfl)) fun h₁ hit1 hsB=>?_))
 have hall:List.take items.size (List.drop 0 items.toList)=items.toList:=by
  rw [List.drop_zero];exact kcD (by simp)
 rw [hall]
 rw [if_neg (by simp)]
 have htL:h₁.IsList t items:=(ht.push _).extBut hsB.extBut hlt
 refine kag (wpAny_holding (wpAny_pyNext_list_end hh hit1 htL (by simp) fun h₂ heC=>?_))
 simp only [Option.isSome_none,kak,if_false]
 exact kaC (hQ h₂ fun b o hb e=>heC b o hb (hsB.extBut b o hb (kap _ e)))
def zqr(is:List Nat)(a:EW):SW:=fun Z J K P=>a Z J (fun v J1=>v.asRef fun p=>qG J1 p fun xs=>xs.length=is.length/\K .next (zbO Z is xs) J1) P
theorem zqT{es k tp e pos is}{a:EW}(hn:j3 sc ctx false es is)(h:zG T d sc ctx e a)
  (hs:∀ env,swapsWithSole [.Tuple es k tp] e pos.line env=pure false:=by intro _;rfl) (hw:∀ env,swappedStores [.Tuple es k tp] e env=pure none:=by intro _;rfl) (C:T.calm=none:=by assumption) :
  za0 T d sc ctx (.Assign [.Tuple es k tp] e pos) (zqr is a):=by
 intro A env Z J s K P eo ro st fr hq
 refine kat (Assign_Tuple (Q:=wS T env ctx J s K) (h.run eo ro st fr hq fun v u J1 sB hv st1 p1 fr1 hw1=>?_) (hs env) (hw env)) (fun _ _ x=>x) fun _ _ x=>x.any
 obtain ⟨p,hw2⟩:=hw1.get hv
 obtain ⟨xs,hx,hl,hw3⟩:=hw2.get
 obtain ⟨us,ht,hvs,hz,_⟩:=st1.list (.inl hx)
 have he:=hn.each (env:=env)
 rw [arm_assign_Tuple]
 refine kag (wpAny_standAt ?_)
 unfold unpack
 rw [he.1,he.2,show is.length=us.size by rw [hz,hl]]
 refine kag (wpAny_holding (zd7 (ro.handled C) ht fun h' hx'=>?_))
 have hk:∀ b o,sB.heap.get? b=some o->h'.get? b=some o:=fun b o e=>hx' b o (kbd (ka3 e)) e
 refine zjg (lo:=false) eo hn (st1.grow hk sB.toks) (fr1.step (zV.refl.grow hk sB.toks)) hvs hl fun s' st' fr' p'=>⟨_,_,J1,.next,st',fr',(p1.grow hk sB.toks).any.trans p',hw3⟩
theorem ziW(a b:Bool):MeetsSeq.EqGives (.bool a) (.bool b) (a==b):=fun prog w A E s Q h=>PySem.SeqAt.EqAt.bool_bool a b prog w E Q h
noncomputable def isTrue:Value->Bool | .bool b=>b | _=>false
theorem zgY{us:List Value}{bs:List Bool}(h:yf (bs.map V.bool) us){j:Nat}{u:Value}(e:us[j]?=some u):∃ b,bs[j]?=some b/\u=.bool b:=by
 obtain ⟨v,h1,h2⟩:=h.getR e
 rw [kaP] at h1
 obtain ⟨b,hb,rfl⟩:=kcv.mp h1
 cases h2
 exact ⟨b,hb,rfl⟩
def zrU(a:EW):EW:=fun Z J Q P=>a Z J (fun va J1=>va.asRef fun p=>qG J1 p fun xs=>∃ (bs:List Bool) (j:Nat),xs=bs.map V.bool/\bs[j]?=some true/\(∀ m:Nat,m<j->bs[m]?≠some true)/\Q (.int (j:Nat)) J1) P
theorem zqR{o e apos pos}{a b:EW}(h:zG T d sc ctx o a)(h':zG T d sc ctx e b)(hb:∀ Z J (Q:V->zc->Prop) (P:Nat->zc->Prop),Q (.bool true) J->b Z J Q P)
  (hbase:∀ env,attributeBase o "index" env (eval o env)=eval o env:=by intro _;rfl)
  (hline:(apos.endLine==pos.line)=true:=by rfl)
  (htrees:∀ env,backTo pos (starEach [e] env)=[(false,eval e env)]:=by intro _;rfl) :
  zG T d sc ctx (.Call (.Attribute o "index" apos) [e] [] pos) (zrU a):=by
 intro A env Z J s Q P eo ro st fr hw
 refine wpAny_Call_method1_late (hbase env) hline (htrees env) (h.run eo ro st fr hw fun va ua J1 sB v1 st1 p1 fr1 hw1=>?_)
 obtain ⟨p,hw2⟩:=hw1.get v1
 obtain ⟨xs,hx,bs,j,rfl,hj,hfirst,hw6⟩:=hw2.get
 obtain ⟨us1,nB,ho1,_⟩:=st1.isL hx
 refine ⟨"list","list.index", F.plainAttrs_list,F.slot_list_index,F.type_list_index,⟨_,ho1,rfl⟩,(fun a e=>by cases e;exact ⟨_,ho1,rfl⟩),?_⟩
 refine Calls.callWith_builtin rfl (Calls.evalArgs_plain (Calls.spliced_cons (h'.then eo ro p1 st1 fr1 (hb Z J1 (fun v J2=>v=.bool true/\J2=J1) _ ⟨rfl,rfl⟩) fun vb ub J2 sM v2 st2 p2 fr2 hw4=>Calls.spliced_nil ?_)))
 obtain ⟨rfl,rfl⟩:=hw4
 cases v2
 obtain ⟨us,n,ho,hv,hz,hlim⟩:=st2.isL hx
 have hlen:us.size=bs.length:=by have:=hv.length;simpa using this
 have hjl:j<us.size:=by rw [hlen];exact (kah.mp hj).1
 refine call_meets F.slot_list_index ⟨_,ho,rfl⟩ F.entry_list_index (F.args_list_index_2 _ _) (MeetsSeq.list_index p us n (.bool true) isTrue (fun y hy=>?_) j hjl (by rw [kaK] at hlim;unfold lim at hlim;exact lit r3 V0 (.sub (.num 9223372036854775808) N1) [(0,1,V1,.num 1000000),(2,1,V2,V1),(1,1,V0,V2)] rfl (leI hlim) (eqI hlen) (ltI hjl)) ?_ fun m hm hmj=>?_) ⟨ho,?_⟩
 ·obtain ⟨i,hi,rfl⟩:=Array.getElem_of_mem hy
  obtain ⟨b',_,h2⟩:=zgY hv (j:=i) (u:=us[i]) (by simp [hi])
  rw [h2]
  have:=ziW b' true
  rwa [show (b'==true)=isTrue (.bool b') by cases b'<;>rfl] at this
 ·obtain ⟨b',h1,h2⟩:=zgY hv (j:=j) (u:=us[j]) (by simp [hjl])
  rw [h2];rw [hj] at h1;cases h1;rfl
 ·obtain ⟨b',h1,h2⟩:=zgY hv (j:=m) (u:=us[m]) (by simp [hm])
  rw [h2]
  have:=hfirst m hmj
  rw [h1] at this
  cases b' with
  | false=>rfl
  | true=>exact absurd rfl this
 ·exact ⟨_,_,.int _ _,st2.tok _,p2.tok _,hw6⟩
theorem zd9{prog:Program}{w:World}{A:Around}{E:Value->Shared->Prop}{s:Shared}{sl:Addr}{n:Nat}{u:Tok}{Q:Int × Int × Nat->Shared->Prop}(hs:s.heap.IsSliceOf sl .none .none (.int (-1) u))(h:Q ((n:Int) - 1,-1,n) s) :
  wpAny (model prog w) A (Builtin.Slice.sliceApplied (.ref sl) (pure (n:Int))) Q E s:=by
 obtain ⟨os,hos,hcs,hds⟩:=id hs
 unfold Builtin.Slice.sliceApplied Builtin.Slice.sliceFields
 refine kag (kag (wpAny_field hos hds (x:=.none) rfl (kag (wpAny_field hos hds (x:=.none) rfl (kag (wpAny_field hos hds (x:=.int (-1) u) rfl (kaC ?_)))))))
 refine kag (slicePart_int ?_)
 show wpAny _ _ (if ((-1:Int)==0)=true then _ else _) _ _ s
 rw [if_neg (by decide)]
 refine kag (slicePart_none (kag (slicePart_none (kag (kaC ?_)))))
 have e:Builtin.Slice.slicePlaces ((n:Int) - 1) (-1) (-1)=n:=by
  unfold Builtin.Slice.slicePlaces
  rw [if_neg (by decide)]
  split
  ·rw [show (- (-1:Int))=1 from rfl,Int.ediv_one];exact eqN (liq r2 V0 V1 [(2,1,V0,.add (.sub (.sub (.sub V1 N1) (.neg N1)) N1) N1)] rfl (tnn (lin r1 N0 (.add (.sub (.sub (.sub V0 N1) (.neg N1)) N1) N1) [(1,1,.neg N1,.sub V0 N1)] rfl ‹_›)))
  ·exact eqN (kaH (lin r2 V0 V1 [(0,1,N0,V1),(2,1,V0,N0)] rfl (nnI _) (tnn (lin (@r1 0) N0 N0 [] rfl))) (lin r2 V0 V1 [(4,1,.neg N1,.sub V0 N1),(0,1,N0,V1)] rfl ‹_› (nnI _)))
 show wpAny _ _ (pure ((n:Int) - 1,(-1:Int),Builtin.Slice.slicePlaces ((n:Int) - 1) (-1) (-1))) _ _ s
 rw [e]
 exact kaC h
theorem zdm{prog:Program}{w:World}{A:Around}{E:Value->Shared->Prop}{s:Shared}{t sl:Addr}{items:Array Value}{u:Tok}{Q:Value->Shared->Prop}(ht:IsTup s.heap t items)(hs:s.heap.IsSliceOf sl .none .none (.int (-1) u))
  (h:Q (.ref s.heap.objs.size) {s with heap:=s.heap.push {cls:=.type "tuple", data:=.seq items.toList.reverse.toArray}})
  (hsz:items.size<=kdQ):wpAny (model prog w) A (getItem (.ref t) (.ref sl)) Q E s:=by
 obtain ⟨os,hos,hcs,hds⟩:=id hs
 have hTs:s.TypeIs (.ref sl) "slice" := ⟨os,hos,hcs⟩
 have hsz':sizeOk (.seq items.toList.reverse.toArray):=by
  show items.toList.reverse.toArray.size<=kdQ
  simpa using hsz
 unfold getItem
 refine wpAny_holding ?_
 refine kag (wpAny_sequenceKey ht.typeIs (by decide) ?_)
 refine kag (wpAny_callSpecial?_slot (name:=Str.ofString "__getitem__") ht.typeIs slot_tuple_getitem
  (wpAny_call_entry slot_tuple_getitem ht.typeIs entry_tuple_getitem ?_ (args_tuple_getitem _ _)))
 show wpAny _ _ (Builtin.Tuple.tupleItemsOf (.ref t) >>= _) _ _ s
 refine kag (tupleItemsOf_ ht ?_)
 refine kag (wpAny_typeOf hTs ?_)
 rw [if_pos (by decide)]
 refine kag (zd9 hs ?_)
 show wpAny _ _ (if ((items.size:Int) - 1==0 && (-1:Int)==1 && items.size==items.size)=true then _ else _) _ _ s
 rw [if_neg (by simp)]
 have e:((kab items.size).filterMap fun (k:Nat)=>items[((items.size:Int) - 1+(k:Int) * -1).toNat]?).toArray=items.toList.reverse.toArray:=by
  have:=zoP items
  rw [kdx] at this
  rw [<-this]
  congr 2
  funext k
  show items[((items.size:Int) - 1+(k:Int) * -1).toNat]?=items[((items.size:Int) - 1+(-1)*(k:Int)).toNat]?
  rw [kbr]
 rw [e]
 first
  | exact kag (m:=Builtin.Tuple.tupleExact _) (wpAny_newObj_type (kaC ⟨_,rfl,kaC h⟩) hsz')
  | exact kag (m:=Builtin.Tuple.tupleExact _) (wpAny_newObj_type (kag (kaC (kaC ⟨_,rfl,kaC h⟩))) hsz')
  | exact kag (kag (m:=Builtin.Tuple.tupleExact _) (wpAny_newObj_type (kaC (kaC ⟨_,rfl,kaC h⟩)) hsz'))
  | exact kag (kag (m:=Builtin.Tuple.tupleExact _) (wpAny_newObj_type (kaC ⟨_,rfl,kaC h⟩) hsz'))
def zrL(a:EW):EW:=fun Z J Q P=>a Z J (fun v J1=>v.asRef fun p=>zd4 J1 p fun xs=>yT (.tup xs.reverse) J1 Q) P
theorem zlb{J0 sa J s Q}(st:St T J s)(p0:zV T [] J0 sa J s){ob:Obj}{us:Array Value}{ys:List V}(hv:yf ys us.toList)(hl:ys.length<=lim)(hq:yT (.tup ys) J Q) :
  zhD T J0 sa Q (.ref (s.heap.objs.size+1)) {s with heap:=(s.heap.push ob).push {cls:=.type "tuple", data:=.seq us}}:=by
 have st1:=st.push ob s.toks
 have hz:(s.heap.push ob).objs.size=s.heap.objs.size+1:=kbK ..
 have st2:=st1.alloc (o:={cls:=.type "tuple", data:=.seq us}) (so:=.tup ys) ⟨hl,us,0,rfl,hv⟩ s.toks rfl
 have p2:=(p0.push ob s.toks).alloc st1 {cls:=.type "tuple", data:=.seq us} (.tup ys) s.toks
 simp only [hz] at st2 p2
 refine ⟨_,_,.ref _,st2,p2,hq _ ?_⟩
 have:=st1.sizeFree
 simp only [hz] at this
 exact this
theorem zqO{e st p pos}{a b:EW}(h:zG T d sc ctx e a)(h':zG T d sc ctx st b)(hb:∀ Z J (Q:V->zc->Prop) (P:Nat->zc->Prop),Q (.int (-1)) J->b Z J Q P)(ht:∀ o r,letTemporaryGo e o r=pure ():=by intro _ _;rfl) :
  zG T d sc ctx (.Subscript e (.Slice none none (some st) p) pos) (zrL a):=by
 intro A env Z J s Q P eo ro st' fr hw
 refine wpAny_Subscript_Slice_step slot_tuple_getitem.lookup (h.run eo ro st' fr hw fun va ua J1 sB v1 st1 p1 fr1 hw1=>?_) ht
 obtain ⟨q,hw3⟩:=hw1.get v1
 obtain ⟨xs,hx,hw4⟩:=hw3.get
 refine wpAny_Slice (wpAny_evalPart_none (wpAny_evalPart_none (wpAny_evalPart_some (h'.then eo ro p1 st1 fr1 (hb Z J1 (fun v J2=>v=.int (-1)/\J2=J1) _ ⟨rfl,rfl⟩) fun vi ui J2 sM v2 st2 p2 fr2 hw2=>?_))))
 obtain ⟨rfl,rfl⟩:=hw2
 cases v2 with | int _ t=>?_
 obtain ⟨us,hl,hv,hz,hlim⟩:=st2.tup hx
 have hl':IsTup (sM.heap.push {cls:=.type "slice", data:=.fields #[.none,.none,.int (-1) t]}) q us:=by
  obtain ⟨o,ho,r⟩:=hl;exact ⟨o,kap _ ho,r⟩
 refine ⟨hl'.typeIs,zdm hl' ⟨_,kaF _ rfl,rfl,rfl⟩ ?_ (by rw [hz];exact kai hlim wM)⟩
 have:=zlb st2 p2 (ob:={cls:=.type "slice", data:=.fields #[.none,.none,.int (-1) t]}) (us:=us.toList.reverse.toArray) (ys:=xs.reverse) (by simpa using hv.reverse) (by simpa using hlim) hw4
 have hz':(sM.heap.push {cls:=.type "slice", data:=.fields #[.none,.none,.int (-1) t]}).objs.size=sM.heap.objs.size+1:=kbK ..
 simp only [hz']
 exact this
def zp7(J:zc)(p:Addr)(k:Int)(v:V)(K:zc->Prop):Prop:=qG J p fun xs=>0<=k/\k<xs.length/\K (put J p (.list (xs.set k.toNat v)))
def zoi(a i:EW)(v:V):SW:=fun Z J K P=>a Z J (fun va J2=>i Z J2 (fun vi J3=>va.asRef fun p=>vi.asInt fun k=>zp7 J3 p k v (K .next Z)) P) P
theorem zrK{A env Z J0 sa J s o i p v u}{wa wi:EW}{K:Out->zK->zc->Prop}{P:Nat->zc->Prop}{Q:Unit->Shared->Prop}(ha:zG T d sc ctx o wa)(hi:zG T d sc ctx i wi)(eo:jm sc env)(ro:zag T A d)(p0:zV T [] J0 sa J s)(st:St T J s)(fr:qR T env ctx Z J s.heap)(hv:VIs v u)
  (hw:zoi wa wi v Z J K P) (h:∀ J' s',St T J' s'->qR T env ctx Z J' s'.heap->zV T [] J0 sa J' s'->K .next Z J'->Q () s'):wpAny T.M A (assign (.Subscript o i p) env u) Q (jL T [] J0 sa P) s:=by
 rw [arm_assign_Subscript]
 refine kag (wpAny_holding (ha.then eo ro p0 st fr hw fun va ua J2 sM v2 st2 p2 fr2 hw2=>?_))
 refine kag (wpAny_holding (hi.then eo ro p2 st2 fr2 hw2 fun vi ui J3 sD v3 st3 p3 fr3 hw3=>?_))
 refine kag (wpAny_standAt ?_)
 obtain ⟨q,hw4⟩:=hw3.get v2
 obtain ⟨k,t,hw5⟩:=hw4.get v3
 obtain ⟨xs,hx,h0,h1,hw6⟩:=hw5.get
 obtain ⟨us,n,ho,hvs,hz,hlim⟩:=st3.isL hx
 have hn:=st3.notScr hx (by intro _ e;cases e)
 refine kag (wpAny_holding (zeP (n:=n) ho h0 (by unfold lim at hlim;exact lit r2 V0 (.num 9223372036854775808) [(1,1,V0,V1),(0,1,V1,.num 1000000)] rfl h1 (leI hlim)) (by rw [hz];exact h1) ?_))
 have ho':=IsL.update ho (fun x=>x.setIfInBounds k.toNat u)
 exact wpAny_release (h _ _ (st3.turn hx hn (ka7.update ..) ho' (so':=.list (xs.set k.toNat v)) ⟨by simpa using hlim,_,_,rfl,by simpa using hvs.set k.toNat hv⟩ sD.toks) (fr3.turn hx (ka7.update ..)) (p3.trans (zV.refl.turn hx hn (ka7.update ..) ho' sD.toks)) hw6)
def zql(a i b j e:EW):SW:=fun Z J K P=>e Z J (fun ve J1=>ve.asRef fun q=>zd4 J1 q fun xs=>∃ u w,xs=[u,w]/\zoi a i u Z J1 (fun _ Z' J2=>zoi b j w Z' J2 K P) P) P
theorem zqN{o i p o' i' p' k tp e pos}{wa wi wb wj we:EW}(ha:zG T d sc ctx o wa)(hi:zG T d sc ctx i wi)(hb:zG T d sc ctx o' wb)(hj:zG T d sc ctx i' wj)(he:zG T d sc ctx e we)
  (hs:∀ env,swapsWithSole [.Tuple [.Subscript o i p,.Subscript o' i' p'] k tp] e pos.line env=pure false:=by intro _;rfl) (hw:∀ env,swappedStores [.Tuple [.Subscript o i p,.Subscript o' i' p'] k tp] e env=pure none:=by intro _;rfl) (C:T.calm=none:=by assumption) :
  za0 T d sc ctx (.Assign [.Tuple [.Subscript o i p,.Subscript o' i' p'] k tp] e pos) (zql wa wi wb wj we):=by
 intro A env Z J s K P eo ro st fr hq
 refine kat (Assign_Tuple (Q:=wS T env ctx J s K) (he.run eo ro st fr hq fun v u J1 sB hv st1 p1 fr1 hw1=>?_) (hs env) (hw env)) (fun _ _ x=>x) fun _ _ x=>x.any
 obtain ⟨q,hw2⟩:=hw1.get hv
 obtain ⟨xs,hx,a,b,rfl,hw3⟩:=hw2.get
 obtain ⟨us,ht,hvs,hz,_⟩:=st1.tup hx
 refine wpAny_assign_Tuple (ro.handled C) ht (by rw [hz];rfl) rfl fun h' hx'=>?_
 have hk:∀ b o,sB.heap.get? b=some o->h'.get? b=some o:=fun b o e=>hx' b o (kbd (ka3 e)) e
 generalize hu:us.toList=ul at hvs ⊢
 cases hvs with
 | cons hA hr =>
  cases hr with
  | cons hB hr =>
   cases hr
   refine wpAny_assignInOrder_more (zrK ha hi eo ro (p1.grow hk sB.toks) (st1.grow hk sB.toks) (fr1.step (zV.refl.grow hk sB.toks)) hA hw3 fun J2 sM st2 fr2 p2 hw4=>?_)
   refine wpAny_assignInOrder_more (zrK hb hj eo ro p2 st2 fr2 hB hw4 fun J3 sD st3 fr3 p3 hw5=>?_)
   exact wpAny_assignInOrder_none ⟨_,Z,J3,.next,st3,fr3,p3.any,hw5⟩
end
end Mine
end
section
open PySem
namespace Mine
open PySem.Calls PyProof.Rows
theorem zk5{prog:Program}{w:World}{A:Around}{s:Shared}{c:Addr}{oc:Obj}{vs:Array Value}{e:Value}{R:Result->Shared->Prop}(hc:s.heap.get? c=some oc)(hd:oc.data=.fields vs)(h2:vs[2]?=some .none)(hq:R (.ok (.ret .none)) s) :
  codeAny (model prog w) A (.builtin "proto.unchain" ⟨[e,.ref c,.ref c,.bool false],[]⟩) R s:=by
 refine codeAny_builtin (b:=Builtin.«proto.unchain») (entryFor_of_fast (by kernel_rfl)) ?_
 show wpAny _ _ (field (.ref c) 2 >>= _) _ _ s
 refine kag (wpAny_field hc hd h2 ?_)
 exact kaC hq
theorem zle{prog:Program}{w:World}{A:Around}{E:Value->Shared->Prop}{s:Shared}{α:Type}{Q:α->Shared->Prop}{c e:Addr}{oc oe:Obj}{vs us:Array Value}(hh:A.handled=some (.ref c))(hc:s.heap.get? c=some oc)(hd:oc.data=.fields vs)(h2:vs[2]?=some .none)
  (hne:c≠e) (he:s.heap.get? e=some oe) (hde:oe.data=.fields us) (hsz:2<us.size) (hq:E (.ref e) {s with heap:=s.heap.update e (Obj.mapFields (·.setIfInBounds 2 (.ref c)))}):wpAny (model prog w) A (raiseNew (α:=α) (.ref e)) Q E s:=by
 unfold raiseNew
 refine kag (wpAny_handled ?_)
 rw [hh]
 have hb:(Value.ref c != Value.ref e)=true:=by simp [hne]
 show wpAny _ _ (if (Value.ref c != Value.ref e)=true then _ else _) _ _ s
 rw [if_pos hb]
 refine kag (wpAny_holding (wpAny_runValue (zk5 hc hd h2 ?_)))
 show wpAny _ _ (setField (.ref e) 2 (.ref c) >>= _) _ _ s
 exact kag (wpAny_setField he hde hsz (wpAny_throw hq))
theorem zlg{prog:Program}{w:World}{A:Around}{E:Value->Shared->Prop}{s:Shared}{it l c:Addr}{i:Nat}{items}{oc:Obj}{vs:Array Value}{Q:Option Value->Shared->Prop}(hh:A.handled=some (.ref c))(hc:s.heap.get? c=some oc)(hdc:oc.data=.fields vs)(h2:vs[2]?=some .none)(hne:c≠it)
  (hit:s.heap.IsListIter it l i) (hl:s.heap.IsList l items) (hx:items[i]?=none)
  (hQ:∀ h',kdu it s.heap h'->Q none {s with heap:=h'}):wpAny (model prog w) A (pyNext (.ref it)) Q E s:=by
 obtain ⟨o,ho,_,hd⟩:=id hit
 obtain ⟨ol,hol,_,nl,hdl⟩:=hl
 refine kag (wpAny_attempt (wpAny_callSpecial?_slot (name:=Str.ofString "__next__") hit.typeIs slot_listiter_next (wpAny_call_entry slot_listiter_next hit.typeIs entry_listiter_next ?_ (args_listiter_next _))))
 show wpAny _ _ (field (.ref it) 0 >>= _) _ _ s
 refine kag (wpAny_field ho hd (x:=.ref l) rfl ?_)
 show wpAny _ _ (if (Value.ref l==Value.none)=true then _ else _) _ _ s
 rw [if_neg (show ¬ ((Value.ref l==Value.none)=true) from kan)]
 show wpAny _ _ (field (.ref it) 1 >>= _) _ _ s
 refine kag (wpAny_field ho hd (x:=.int i 0) rfl ?_)
 show wpAny _ _ (seqItems? (.ref l) >>= _) _ _ s
 refine kag (wpAny_seqItems hol hdl ?_)
 simp only [kaf,hx]
 refine kag (wpAny_rule (kag (wpAny_setField ho hd (by simp) ?_)))
 show wpAny _ _ (newExc (.type "StopIteration") [] >>= _) _ _ _
 refine kag ?_
 simp only [newExc,newTuple]
 refine kag (wpAny_newObj_type ?_ (by size_fits))
 refine kag (m:=firstArgMember _ _) (wpAny_of_eq (a:=Value.none) (by first | rfl | (simp only [firstArgMember];rfl)) ?_)
 refine wpAny_newObj_type ?_ (by size_fits)
 dsimp only
 generalize hH:s.heap.update it (Obj.mapFields (·.setIfInBounds 0 .none))=H
 have up:∀ b o,b≠it->s.heap.get? b=some o->H.get? b=some o:=fun b o hb e=>hH▸(kaU s.heap _ (Ne.symm hb)).trans e
 have hc1:=up c oc hne hc
 refine zle (c:=c) (show A.in1.handled=_ from hh) (kap _ (kap _ hc1)) hdc h2 (kbd (ka3 (kap _ hc1))) (kaF _ rfl) rfl (kal rfl) ?_
 refine kag (wpAny_isInstance (T := "StopIteration") (b:=true) ⟨_,kca _ (kaF _ rfl) rfl,rfl⟩ isSubtype_stop ?_)
 refine kaC (hQ _ fun b o hb e=>?_)
 have e1:=fun ob=>kap ob (up b o hb e)
 exact (kaU _ _ (kcb (ka3 (e1 _)))).trans (kap _ (e1 _))
section
variable {T:TC} {d:Nat} {sc:Scope} {ctx:List Str}
theorem zlp{A I ax c xs}(hh:A.handled=some (.ref c)):zl7 T A I [I] xs (fun J=>J ax=some (.list xs)/\∃ x,J c=some (.exc x)) (fun i h=>h.IsListIter I ax i) where
 mem:=by simp
 frame:=fun i h h' w hk=>w.at fun o e=>hk I (by simp) o e
 item:=fun i x J s Q E hx w st ck k=>by
  obtain ⟨us,hl,hv,_⟩:=st.list (.inl ck.1)
  obtain ⟨u,hu,hvu⟩:=hv.get hx
  exact wpAny_pyNext_list_item w hl (by simpa using hu) fun h' hit' hs'=>k u h' s.toks hvu hit' fun b o hb e=>hs'.extBut b o (by simpa using hb) e
 done:=fun J s Q E w st ck k=>by
  obtain ⟨us,hl,hv,hz,_⟩:=st.list (.inl ck.1)
  obtain ⟨x,hx⟩:=ck.2
  obtain ⟨oc,hc,C,vs,_,hcls,hdc,h2⟩:=st.objs c _ hx
  refine zlg hh hc hdc h2 ?_ w hl (by simp [hz]) fun h' he'=>k h' s.toks fun b o hb e=>he' b o (by simpa using hb) e
  rintro rfl
  obtain ⟨o,ho,ho',_⟩:=w
  rw [zdV hc ho,ho'] at hcls
  cases hcls
 self:=fun i s Q E w h=>wpAny_pyIter_listiter w h
 lets:=fun i s t v Q E w h=>let ⟨o,ho,hc,hd⟩:=w;zgj t v ho hc hd (by decide) h
 alive:=fun i h w b hb=>by simp at hb;subst hb;obtain ⟨o,ho,_⟩:=w;exact ⟨o,ho⟩
def zrI(c:Addr)(a:EW):zij:=fun Z J Q P=>a Z J (fun v J1=>v.asRef fun p=>qG J1 p fun xs=>Q xs (fun J=>J p=some (.list xs)/\∃ x,J c=some (.exc x)) J1) P
theorem zqL{pe}{c:Addr}{a:EW}(h:zG T d sc ctx pe a)(hf:∀ env x,foldedSetIterable pe env x=pure x:=by intro _ _;rfl)(C:T.calm=some c):zdM T d sc ctx pe (zrI c a):=by
 refine ⟨hf,fun A env Z J s Q P eo ro st fr hw=>?_⟩
 refine h.run eo ro st fr hw fun v u J1 sB hv st1 p1 fr1 hw1=>?_
 obtain ⟨p,hw2⟩:=hw1.get hv
 unfold qG at hw2
 split at hw2
 ·rename_i xs hx
  obtain ⟨us,hl,_⟩:=st1.list (.inl hx)
  exact wpAny_pyIter_list hl (zd8 st1 p1 (zlp (ro.hnd.trans (C▸rfl))) ⟨_,kaF _ rfl,rfl,rfl⟩ hw2 sB.toks)
 ·exact hw2.elim
inductive zr2:List Expr->EWs->Prop
 | nil:zr2 [] zv
 | cons {i k p r ws}:zr2 r ws->zr2 (.Constant (.int i) k p::r) (zd (val (.int i)) ws)
theorem zqJ{es:List Expr}{ws:EWs}(h:zr2 es ws):zgM T d sc ctx es ws:=by
 induction h with
 | nil=>exact zm
 | cons _ ih=>exact zb zf ih
end
end Mine
end
section
open PySem
namespace Mine
noncomputable def zkq:List Str:=["thing","least","most"]
def qF(T:TC)(d:Nat):SW:=(qi (wQ (zlq .int (loc 0)) (wQ (zc9 (zlq .bool (loc 0))) (zbg .le .le (loc 1) (loc 0) (loc 2)))))
noncomputable def zn4:List Str:=["many","road"]
def za6(T:TC)(d:Nat):SW:=(zt (qy (orW (zc9 (tst (zlq .tuple (loc 1)))) (qk .ne (yO (loc 1)) (val (.int 2)))) (qi (val (.bool false))) zP)
  (qi (wQ (zr T d "is_within" (zd (zT (loc 1) (val (.int 0))) (zd (val (.int 0)) (zd (loc 0) zv)))) (wQ (zr T d "is_within" (zd (zT (loc 1) (val (.int 1))) (zd (val (.int 0)) (zd (loc 0) zv)))) (qk .ne (zT (loc 1) (val (.int 0))) (zT (loc 1) (val (.int 1))))))))
noncomputable def zn7:List Str:=["many","roads","found","more","one","other"]
def za8(T:TC)(d:Nat):SW:=(zt (zY 2 (zdK (loc 0) (val (.bool true))))
  (zt (zY 3 (val (.bool true)))
  (zt (zfr (tst (loc 3)) (zt (zY 3 (val (.bool false)))
  (wO (.tup [4,5]) (zai (loc 1)) (qy (eqB true (inD false (loc 4) (loc 2)) (inD false (loc 5) (loc 2))) (zt (zaj (loc 2) (loc 4) (val (.bool true)))
  (zt (zaj (loc 2) (loc 5) (val (.bool true)))
  (zY 3 (val (.bool true))))) zP))))
  (qi (loc 2)))))
noncomputable def zkr:List Str:=["many","roads","found","road","end"]
def qS(T:TC)(d:Nat):SW:=(zt (zY 2 (mulL (qw (zd (val (.int 0)) zv)) (loc 0)))
  (zt (wO (.nm 3) (zai (loc 1)) (wO (.nm 4) (zai (loc 3)) (qy (qk .lt (loc 4) (loc 0)) (zaj (loc 2) (loc 4) (j2 (zT (loc 2) (loc 4)) (val (.int 1)))) zP)))
  (qi (loc 2))))
noncomputable def zn6:List Str:=["many","roads"]
def zco(T:TC)(d:Nat):SW:=(zt (qt (zr T d "need_net" (zd (loc 0) (zd (loc 1) zv))))
  (qi (zr T d "counts_at" (zd (loc 0) (zd (loc 1) zv)))))
noncomputable def zhu:List Str:=["_law_script","_law_k","_law_mixed_here"]
def jM(T:TC)(d:Nat):SW:=(zt (qy (qk .lt (loc 1) (yO (loc 0))) (qi (zT (loc 0) (loc 1))) zP)
  (zt (qy (eqW false (loc 0) (qw zv)) (qi (val (.int 0))) zP)
  (zt (zY 2 (jG (j2 (zbW (zT (loc 0) (jG (loc 1) (yO (loc 0)))) (val (.int 48271))) (zbW (loc 1) (val (.int 104729)))) (val (.int 2147483647))))
  (qi (jG (j2 (zbW (loc 2) (loc 2)) (zbW (val (.int 48271)) (loc 1))) (val (.int 2147483629)))))))
noncomputable def zkp:List Str:=["_law_cell","_law_k","_law_mixed_here"]
def wZ(T:TC)(d:Nat):SW:=(zt (zY 2 (jG (j2 (zbW (loc 0) (val (.int 48271))) (zbW (zbW (j2 (loc 1) (val (.int 1))) (val (.int 7919))) (j2 (jG (loc 0) (val (.int 9973))) (val (.int 7))))) (val (.int 2147483647))))
  (qi (jG (j2 (zbW (loc 2) (loc 2)) (zbW (val (.int 69621)) (loc 1))) (val (.int 2147483629)))))
noncomputable def ziS:List Str:=["_law_number","_law_many","_law_shift"]
def y8(T:TC)(d:Nat):SW:=(zt (qy (qk .eq (loc 0) (loc 1)) (qi (loc 1)) zP)
  (zt (qy (qk .eq (jG (wn (loc 2) (val (.int 16))) (val (.int 2))) (val (.int 1))) (qi (zaL (zaL (loc 1) (val (.int 1))) (jG (j2 (loc 0) (loc 2)) (loc 1)))) zP)
  (qi (jG (j2 (loc 0) (loc 2)) (loc 1)))))
def zeJ(T:TC)(d:Nat):SW:=(zt (zY 8 (jG (zr T d "_law_cell_at" (zd (loc 0) (zd (val (.int 17)) zv))) (val (.int 32))))
  (zt (zY 9 (jG (zr T d "_law_cell_at" (zd (loc 0) (zd (val (.int 18)) zv))) (j2 (yO (loc 5)) (val (.int 1)))))
  (zt (zY 10 (qw zv))
  (zt (wO (.tup [13,14]) (zai (zl3 (zjy (loc 5) (loc 9)) (zhG (loc 5) (loc 9)))) (zt (zY 15 (zau (zd (zr T d "_law_turned" (zd (loc 13) (zd (loc 3) (zd (loc 8) zv)))) (zd (zr T d "_law_turned" (zd (loc 14) (zd (loc 3) (zd (loc 8) zv)))) zv))))
  (zt (qy (qk .eq (jG (j2 (wn (zr T d "_law_cell_at" (zd (loc 0) (zd (val (.int 18)) zv))) (val (.int 41))) (yO (loc 10))) (val (.int 3))) (val (.int 1))) (zY 15 (zau (zd (zT (loc 15) (val (.int 1))) (zd (zT (loc 15) (val (.int 0))) zv)))) zP)
  (qt (zkY (loc 10) (loc 15))))))
  (qi (zau (zd (loc 3) (zd (loc 10) zv))))))))
def zb3(T:TC)(d:Nat):SW:=(zt (wO (.nm 6) (jl (zbW (loc 7) (zre (qk .gt (loc 3) (val (.int 0)))))) (zt (zY 11 (zr T d "_law_mixed" (zd (zr T d "_law_cell_at" (zd (loc 0) (zd (j2 (val (.int 12)) (jG (loc 6) (val (.int 5)))) zv))) (zd (loc 6) zv))))
  (zt (zY 13 (jG (loc 11) (j2 (loc 3) (val (.int 1)))))
  (qt (zkY (loc 5) (zau (zd (loc 13) (zd (jG (j2 (j2 (loc 13) (val (.int 1))) (jG (wn (loc 11) (val (.int 11))) (loc 3))) (j2 (loc 3) (val (.int 1)))) zv))))))))
  (zeJ T d))
def zb4(T:TC)(d:Nat):SW:=(zt (qy (wQ (qk .eq (jG (wn (zr T d "_law_cell_at" (zd (loc 0) (zd (val (.int 11)) zv))) (val (.int 6))) (val (.int 12))) (val (.int 1))) (orW (qk .lt (loc 3) (val (.int 3))) (qk .eq (loc 1) (val (.int 3))))) (zY 7 (zaL (val (.int 40)) (loc 3))) zP)
  (zb3 T d))
def zb5(T:TC)(d:Nat):SW:=(zt (zY 7 (jG (zr T d "_law_cell_at" (zd (loc 0) (zd (val (.int 11)) zv))) (val (.int 6))))
  (zt (qy (wQ (tst (loc 4)) (qk .lt (loc 1) (val (.int 3)))) (zY 7 (jG (loc 7) (val (.int 3)))) zP)
  (zb4 T d)))
def zaD(T:TC)(d:Nat):SW:=(zt (zY 5 (qw zv))
  (zt (wO (.nm 6) (jl (loc 3)) (zt (zY 11 (zr T d "_law_cell_at" (zd (loc 0) (zd (j2 (val (.int 1)) (loc 6)) zv))))
  (zt (zY 12 (jG (loc 11) (j2 (loc 6) (val (.int 1)))))
  (zt (qy (wQ (tst (loc 4)) (wQ (qk .gt (jG (loc 11) (val (.int 5))) (val (.int 0))) (qk .eq (jG (wn (loc 2) (val (.int 240))) (val (.int 2))) (val (.int 0))))) (zY 12 (loc 6)) zP)
  (qt (zkY (loc 5) (zau (zd (loc 6) (zd (zT (qw (zd (loc 3) (zd (zaL (loc 12) (val (.int 1))) zv))) (zre (qk .gt (loc 12) (val (.int 0))))) zv)))))))))
  (zb5 T d)))
noncomputable def zn1:List Str:=["_law_script","_law_lines","_law_first","_law_many","_law_line","_law_roads","_law_k","_law_size","_law_shift","_law_at","_law_found","_law_cell","_law_ahead","_law_one","_law_other","_law_pair"]
def zcm(T:TC)(d:Nat):SW:=(zt (zY 2 (zr T d "_law_cell_at" (zd (loc 0) (zd (val (.int 0)) zv))))
  (zt (zY 3 (jG (loc 2) (val (.int 6))))
  (zt (zY 4 (wQ (qk .eq (jG (wn (loc 2) (val (.int 6))) (val (.int 8))) (val (.int 1))) (qk .gt (loc 1) (val (.int 0)))))
  (zt (qy (tst (loc 4)) (zY 3 (j2 (val (.int 6)) (jG (wn (loc 2) (val (.int 48))) (zT (qw (zd (val (.int 1)) (zd (val (.int 2)) (zd (val (.int 5)) (zd (val (.int 5)) zv))))) (loc 1))))) zP)
  (zaD T d)))))
noncomputable def zht:List Str:=["_law_many","_law_roads","_law_found","_law_one","_law_other","_law_place"]
def jf(T:TC)(d:Nat):SW:=(zt (zY 2 (mulL (qw (zd (val (.int 0)) zv)) (loc 0)))
  (zt (wO (.tup [3,4]) (zai (loc 1)) (wO (.nm 5) (zai (qw (zd (loc 3) (zd (loc 4) zv)))) (qy (qk .lt (loc 5) (loc 0)) (zaj (loc 2) (loc 5) (j2 (zT (loc 2) (loc 5)) (val (.int 1)))) zP)))
  (qi (loc 2))))
noncomputable def zaX(m:Int)(f:List Int)(e:Int):List Int:=if e<m then f.set e.toNat (f.getD e.toNat 0+1) else f
noncomputable def zce(m:Int)(f:List Int)(rs:List (Int × Int)):List Int:=rs.foldl (fun f p=>zaX m (zaX m f p.1) p.2) f
noncomputable def degs(m:Int)(rs:List (Int × Int)):List Int:=zce m (kaE m.toNat 0) rs
theorem zgX(m f e):(zaX m f e).length=f.length:=by unfold zaX;split<;>simp
theorem zkW(m):∀ (rs f),(zce m f rs).length=f.length:=by
 intro r_
 induction r_ with
 | nil =>
  intro f
  exact rfl
 | cons p r ih_ =>
  intro f
  show (zce m _ r).length=_;rw [ih_];simp [zgX]
theorem zb2(m f)(rs:List (Int × Int))(i:Nat)(p:Int × Int)(h:rs[i]?=some p):zce m f (rs.take (i+1))=zaX m (zaX m (zce m f (rs.take i)) p.1) p.2:=by
 unfold zce;rw [kaN,h];simp

section
variable {T:TC} {d:Nat} {J:zc} {Q:V->zc->Prop} {P:Nat->zc->Prop}
theorem wN(h:FnW T "is_within" 3 0 (qF T)){i lo hi:Int}(hq:Q (.bool (decide (lo<=i/\i<=hi))) J):zp T (d+1) "is_within" [.int i,.int lo,.int hi] J Q P:=by
 refine h d _ _ _ _ rfl ?_
 show (if decide (lo<=i)=true then Q (.bool (decide (i<=hi))) J else Q (.bool false) J)
 by_cases h1:lo<=i
 ·rw [if_pos (decide_eq_true h1),<-decide_eq_decide.mpr (and_iff_right h1)];exact hq
 ·rw [if_neg (kct.mp (decide_eq_false h1)),<-decide_eq_false (fun h:lo<=i/\i<=hi=>h1 h.1)];exact hq
theorem y7(h:FnW T "counts_at" 2 3 (qS T)){m:Int}{r:Addr}{rs:List (Int × Int)}(hm:0<=m)(hm':m<=10)(hr:zS J r rs)(hp:∀ p∈rs,0<=p.1/\0<=p.2)
  (hq:∀ c J',Ext J J'->J c=none->qJ J' c (degs m rs)->Q (.ref c) J'):zp T (d+1) "counts_at" [.int m,.ref r] J Q P:=by
 refine h d _ _ _ _ rfl ?_
 obtain ⟨vs,hr1,hr2⟩:=hr
 simp only [qS,zD,qh,zju,jp,zC,z1,zM,zu,qd,qf,qc,zj,zk,zg,ze,yT,kaj,kaD]
 refine ⟨by first | exact kal rfl | simp [lim],fun c hc=>?_⟩
 refine zI (zB _ _ _) ?_
 refine ⟨by exact lit r1 V0 (.num 4611686018427387904) [(0,1,V0,.num 10)] rfl hm',by exact lin r1 (.neg (.num 4611686018427387904)) V0 [(0,1,N0,V0)] rfl hm,by simp [lim];exact lin r1 V0 (.num 1000000) [(0,1,V0,.num 10)] rfl hm',fun f hf=>?_⟩
 have e1:Ext J (put J c (.list [.int 0])):=Ext.refl.new hc _
 have hfn:=e1.none hf
 simp only [zx,zw,yL,zak,zu,zj,zk,zg]
 have e2:=e1.new hf (.list (kaE m.toNat [.int 0]).flatten)
 refine qI (e2 _ _ hr1) ?_
 refine qg (fun i Z J'=>X2 fun o3 o4=>Z=[some (.int m),some (.ref r),some (.ref f),o3,o4]/\Ext J J'/\qJ J' f (zce m (kaE m.toNat 0) (rs.take i))) ?_ ?_ ?_
 ·refine ⟨none,none,rfl,e2,?_⟩
  show put _ f _ f=_
  rw [zB];simp [zce,zs]
 ·intro i v Z J' K' hv hI6a hK
  obtain ⟨o3,o4,rfl,hcj⟩:=hI6a
  have e:=hcj.1;have hi:=hcj.2;clear hcj
  obtain ⟨t,a,b,rfl,hrs,ht⟩:=hr2.get hv
  have hab:=hp _ (kao hrs)
  refine ⟨.inl (e _ _ hr1),?_⟩
  simp only [jR,zx,zw,yL,zak,zu,zj,zk,zg]
  rw [zl0 (e _ _ ht)]
  refine qg (fun j Z J''=>∃ o4,Z=[some (.int m),some (.ref r),some (.ref f),some (.ref t),o4]/\Ext J J''/\qJ J'' f (([a,b].take j).foldl (zaX m) (zce m (kaE m.toNat 0) (rs.take i)))) ⟨o4,rfl,e,by simpa using hi⟩ ?_ ?_
  ·intro j v Z J'' K'' hv' hI6b hK'
   obtain ⟨o4,rfl,hcj⟩:=hI6b
   have e':=hcj.1;have hi':=hcj.2;clear hcj
   refine ⟨e' _ _ ht,?_⟩
   have hv2:∃ x,[a,b][j]?=some x/\v=.int x/\0<=x:=by
    match j with
    | 0=>simp at hv';exact ⟨a,rfl,hv'.symm,hab.1⟩
    | 1=>simp at hv';exact ⟨b,rfl,hv'.symm,hab.2⟩
    | j+2=>simp at hv'
   obtain ⟨x,hx,rfl,hx0⟩:=hv2
   have hnext:([a,b].take (j+1)).foldl (zaX m) (zce m (kaE m.toNat 0) (rs.take i))=zaX m (([a,b].take j).foldl (zaX m) (zce m (kaE m.toNat 0) (rs.take i))) x:=by
    rw [kaN,hx];simp
   generalize hF:([a,b].take j).foldl (zaX m) (zce m (kaE m.toNat 0) (rs.take i))=F at *
   have hFl:F.length=m.toNat:=by
    rw [<-hF]
    have:∀ (l:List Int) (f:List Int),(l.foldl (zaX m) f).length=f.length:=by
     intro l;induction l with
     | nil=>intro f;rfl
     | cons y l ih=>intro f;rw [kcE,ih,zgX]
    rw [this,zkW];simp
   simp only [jR,zx,zw,qr,qA,zu,zj,zk,ze,zn,Cmp.run,qQ]
   by_cases hlt:x<m
   ·simp only [hlt,decide_true,if_true,wo,q9,qv,zu,zj,zk,z1,zg,ze]
    have hxl:x.toNat<F.length:=by exact ltN (lit r5 V0 V1 [(2,-1,V1,V2),(1,1,V3,V4),(2,1,V0,V3),(2,-1,V2,V4)] rfl (eqI hFl) hlt (tnn (hx0)) (tnn (hm)))
    refine ⟨hx0,?_⟩
    refine qm hi' (qq (zbb (n:=F.getD x.toNat 0) (by simp [kb3,hxl])) ?_)
    refine Eq.mpr (j8 hi') ?_
    rw [qb]
    refine ⟨hx0,by exact lit r3 V0 V1 [(1,1,V2,V1),(2,-1,V2,V0)] rfl (ltI hxl) (tnn (hx0)),hK' .next _ _ ⟨_,rfl,e'.put hfn _,?_⟩⟩
    rw [hnext]
    show put _ f _ f=_
    rw [zB,zl9];simp [zaX,hlt]
   ·refine zQ (decide_eq_false hlt) ?_
    exact hK' .next _ _ ⟨_,rfl,e',by rw [hnext];simpa [zaX,hlt] using hi'⟩
  ·rintro Z J'' ⟨o4,rfl,hcj⟩
   have e':=hcj.1;have hi':=hcj.2;clear hcj
   refine ⟨e' _ _ ht,hK .next _ _ ⟨_,_,rfl,e',?_⟩⟩
   rw [zb2 m _ rs i _ hrs]
   simpa using hi'
 ·rintro Z J' ⟨o3,o4,rfl,hcj⟩
  have e:=hcj.1;have hi:=hcj.2;clear hcj
  refine ⟨.inl (e _ _ hr1),?_⟩
  refine hq f J' e hfn ?_
  rw [hr2.length,kba] at hi
  exact hi
end
end Mine
end
section
open PySem
namespace Mine
inductive yz(rs:List (Int × Int)):Int->Int->Prop
 | refl {a}:yz rs a a
 | fwd {a b c}:yz rs a b->(b,c)∈rs->yz rs a c
 | bwd {a b c}:yz rs a b->(c,b)∈rs->yz rs a c
structure Net(m:Int)(rs:List (Int × Int)):Prop where
 m0:0<=m
 m10:m<=10
 len:rs.length<=40
 ends:∀ p∈rs,(0<=p.1/\p.1<=m)/\(0<=p.2/\p.2<=m)/\p.1≠p.2
 conn:∀ k,0<=k->k<m->yz rs m k
noncomputable def wR(ks:List Int)(k:Int):List Int:=if k∈ks then ks else ks++[k]
noncomputable def dk(ks:List Int):List (Int × V):=ks.map fun k=>(k,.bool true)
theorem wl(ks):(dk ks).length=ks.length:=by simp [dk]
theorem zaf(ks:List Int)(k:Int):zje (dk ks) k=decide (k∈ks):=by
 unfold zje dk
 rw [kdk,ka6]
 simp [kcd]
theorem zae(ks:List Int)(k:Int):zho (dk ks) k (.bool true)=dk (wR ks k):=by
 unfold zho wR
 have:=zaf ks k
 unfold zje at this
 rw [this]
 by_cases h:k∈ks
 ·simp only [h,decide_true,if_true]
  unfold dk
  rw [kcS]
  apply kbW
  intro x _
  simp only [Function.comp]
  split<;>rfl
 ·simp [h,dk]
theorem zgJ{ks:List Int}(h:ks.Nodup)(k:Int):(wR ks k).Nodup:=by
 unfold wR;split
 ·exact h
 ·rename_i hk
  rw [kbc]
  refine ⟨h,by simp,?_⟩
  intro a ha b hb
  simp at hb;subst hb
  rintro rfl;exact hk ha
theorem yS(ks:List Int)(k x:Int):x∈wR ks k ↔ x∈ks\/x=k:=by
 unfold wR;split
 ·rename_i h;exact ⟨.inl,fun h'=>h'.elim id (fun e=>e▸h)⟩
 ·simp
theorem zez:∀ (l m:List Int),l.Nodup->(∀ x∈l,x∈m)->l.length<=m.length:=by
 intro l_
 induction l_ with
 | nil =>
  intro m _ _
  simp
 | cons a l ih_ =>
  intro m nd h
  have ha:=h a (by simp)
  have h1:=ih_ (m.erase a) (kaM.mp nd).2 (fun x hx=>by
   have hne:x≠a:=by rintro rfl;exact (kaM.mp nd).1 hx
   exact (List.mem_erase_of_ne hne).mpr (h x (by simp [hx])))
  rw [List.length_erase_of_mem ha] at h1
  have:0<m.length:=List.length_pos_of_mem ha
  simp only [kaj]
  omega
noncomputable def zmx(n:Nat):List Int:=(kab (n+1)).map fun i:Nat=>(i:Int)
theorem zkJ(n:Nat)(k:Int):k∈zmx n ↔ 0<=k/\k<=(n:Int):=by
 unfold zmx
 simp only [kau,kam]
 constructor
 ·rintro ⟨i,hi,rfl⟩;exact ⟨(nnI _),lin r2 V0 V1 [(1,1,V0,.add V1 N1)] rfl (ltI hi)⟩
 ·intro h;exact ⟨k.toNat,by exact ltN (lit r3 V0 (.add V1 N1) [(0,1,V2,V1),(2,1,V0,V2)] rfl h.2 (tnn (h.1))),by exact (tnn (h.1))⟩
theorem zk4(n:Nat):(zmx n).Nodup:=by
 unfold zmx
 rw [kbk,kb4]
 exact (kbn (n:=n+1)).imp (fun h e=>h (by exact eqN (e)))
theorem yR(n:Nat)(ks:List Int)(nd:ks.Nodup)(h:∀ k∈ks,0<=k/\k<=(n:Int)):ks.length<=n+1:=by
 have:=zez ks (zmx n) nd fun x hx=>(zkJ n x).mpr (h x hx)
 simpa [zmx] using this
theorem zdZ(n:Nat)(ks:List Int)(h:∀ k:Int,0<=k->k<=(n:Int)->k∈ks):n+1<=ks.length:=by
 have:=zez (zmx n) ks (zk4 n) fun x hx=>by have:=(zkJ n x).mp hx;exact h x this.1 this.2
 simpa [zmx] using this

structure zhI(m:Int)(rs:List (Int × Int))(ks:List Int):Prop where
 nd:ks.Nodup
 pit:m∈ks
 rng:∀ k∈ks,0<=k/\k<=m
 reach:∀ k∈ks,yz rs m k
theorem zhI.le{m rs ks}(h:zhI m rs ks):(ks.length:Int)<=m+1:=by
 have h0:=h.rng m h.pit
 have:=yR m.toNat ks h.nd fun k hk=>by have:=h.rng k hk;exact ⟨this.1,lin r3 V0 V1 [(0,1,V0,V2),(2,-1,V1,V2)] rfl this.2 (tnn (h0.1))⟩
 exact lin (@r3 (↑(ks.length)) _ (↑(m.toNat))) V0 (.add V1 N1) [(0,1,V0,.add V2 N1),(2,1,V2,V1)] rfl (leI this) (tnn (h0.1))
def zdP(rs:List (Int × Int))(ks:List Int):Prop:=∀ p∈rs,p.1∈ks ↔ p.2∈ks
theorem zdP.all{rs ks a b}(h:zdP rs ks)(ha:a∈ks)(r:yz rs a b):b∈ks:=by
 induction r with
 | refl=>exact ha
 | fwd _ hm ih=>exact (h _ hm).mp ih
 | bwd _ hm ih=>exact (h _ hm).mpr ih

section
variable {T:TC} {d:Nat} {J:zc} {Q:V->zc->Prop} {P:Nat->zc->Prop}
theorem zdB(h:FnW T "come_to" 2 4 (za8 T)){m:Int}{r:Addr}{rs:List (Int × Int)}(hm:0<=m)(hm':m<=10)(hr:zS J r rs)(hp:∀ p∈rs,(0<=p.1/\p.1<=m)/\(0<=p.2/\p.2<=m))
  (hq:∀ c J' ks,Ext J J'->J c=none->J' c=some (.dict (dk ks))->zhI m rs ks->zdP rs ks->Q (.ref c) J'):zp T (d+1) "come_to" [.int m,.ref r] J Q P:=by
 refine h d _ _ _ _ rfl ?_
 obtain ⟨vs,hr1,hr2⟩:=hr
 simp only [za8,zD,qh,zaW,z1,zu,qd,qf,qc,zj,zk,zg,ze,yT,zx,zw,zfU]
 intro f hf
 have e1:Ext J (put J f (.dict [(m,.bool true)])):=Ext.refl.new hf _
 refine zfV (fun Z J'=>X4 fun b o4 o5 ks=>Z=[some (.int m),some (.ref r),some (.ref f),some (.bool b),o4,o5]/\Ext J J'/\J' f=some (.dict (dk ks))/\zhI m rs ks/\(b=false->zdP rs ks))
  (fun Z J'=>(match J' f with | some (.dict kvs)=>2*(12 - kvs.length) | _=>0)+(match qz Z 3 with | some (.bool true)=>1 | _=>0)) ?_ ?_
 ·exact ⟨true,none,none,[m],rfl,e1,zB _ _ _,⟨by simp,by simp,by simp;assumption,by simp;exact .refl⟩,by simp⟩
 ·intro Z J' n K' hI4a hn hK
  obtain ⟨b,o4,o5,ks,rfl,hcj⟩:=hI4a
  have e:=hcj.1;have hd:=hcj.2.1;have hc:=hcj.2.2.1;have hcl:=hcj.2.2.2;clear hcj
  simp only [zaU,zu,zj,zk,zn]
  cases b with
  | false =>
   exact hq f J' ks e hf hd hc (hcl rfl)
  | true =>
   simp only [if_true,zD,qh,z1,zx,zw,yL,zak,zu,zj,zk,zg]
   refine qI (e _ _ hr1) ?_
   refine qg (fun i Z J''=>X4 fun b o4 o5 ks'=>Z=[some (.int m),some (.ref r),some (.ref f),some (.bool b),o4,o5]/\Ext J J''/\J'' f=some (.dict (dk ks'))/\zhI m rs ks'/\(b=false->ks'=ks/\∀ j p,j<i->rs[j]?=some p->(p.1∈ks ↔ p.2∈ks))/\(b=true->ks.length<ks'.length)) ?_ ?_ ?_
   ·exact ⟨false,o4,o5,ks,rfl,e,hd,hc,fun _=>⟨rfl,fun j p hj=>by exact lif r1 [(1,1,V0,N0),(0,1,N0,V0)] rfl (ltI hj) (nnI _)⟩,by simp⟩
   ·intro i v Z J'' K'' hv hI6b hK''
    obtain ⟨b,o4,o5,ks',rfl,hcj⟩:=hI6b
    have e':=hcj.1;have hd':=hcj.2.1;have hc':=hcj.2.2.1;have hb0:=hcj.2.2.2.1;have hb1:=hcj.2.2.2.2;clear hcj
    obtain ⟨t,x,y,rfl,hrs,ht⟩:=hr2.get hv
    have hxy:=hp _ (kao hrs)
    refine ⟨.inl (e' _ _ hr1),?_⟩
    simp only [wY,zg]
    refine wE (e' _ _ ht) ?_
    refine ⟨rfl,?_⟩
    simp only [zax,zaw,zx,zw,qr,zoo,zlt,zu,zj,zk,ze,zg]
    refine jY hd' ?_
    refine jY hd' ?_
    simp only [zaf,kak,if_false,zn,if_true]
    have hle:=hc'.le
    have hlim:(dk ks').length<lim:=by rw [wl];unfold lim;exact ltN (lit r2 V0 (.num 1000000) [(0,1,V1,.num 10),(0,1,V0,.add V1 N1)] rfl hm' hle)
    by_cases hxk:x∈ks'<;>by_cases hyk:y∈ks'
    ·simp only [hxk,hyk,decide_true,bne_self_eq_false,kak,if_false,qQ]
     refine hK'' .next _ _ ⟨b,_,_,ks',rfl,e',hd',hc',fun hb=>⟨(hb0 hb).1,fun j p hj hjp=>?_⟩,hb1⟩
     by_cases hji:j=i
     ·subst hji;rw [hrs] at hjp;cases hjp;rw [<-(hb0 hb).1];simp [hxk,hyk]
     ·exact (hb0 hb).2 j p (by exact ltN ((zaG (lin r2 V0 V1 [(1,1,V0,.add V1 N1)] rfl (ltI hj)) hji))) hjp
    ·simp only [hxk,hyk,decide_true,decide_false,Bool.true_bne,kb6,if_true,zD,wo,z1,zu,zj,zk,zg,ze]
     refine Eq.mpr (j9 hd') ?_
     rw [zae]
     refine ⟨hlim,?_⟩
     have e1:wR ks' x=ks':=by simp [wR,hxk]
     rw [e1,j9 (zB _ _ _),zae]
     refine ⟨hlim,?_⟩
     simp only [qh,z1,zx,zw]
     refine hK'' .next _ _ ⟨true,_,_,wR ks' y,rfl,(e'.put hf _).put hf _,zB _ _ _,⟨zgJ hc'.nd _,(yS ..).mpr (.inl hc'.pit),fun k hk=>?_,fun k hk=>?_⟩,by simp,fun _=>?_⟩
     ·rcases (yS ..).mp hk with hk | rfl
      ·exact hc'.rng k hk
      ·exact hxy.2
     ·rcases (yS ..).mp hk with hk | rfl
      ·exact hc'.reach k hk
      ·exact .fwd (hc'.reach x hxk) (kao hrs)
     ·have:(wR ks' y).length=ks'.length+1:=by simp [wR,hyk]
      cases b with
      | false=>rw [this,(hb0 rfl).1];exact kaB _
      | true=>have:=hb1 rfl;exact ltN (lit r3 V0 V1 [(2,-1,V1,.add V2 N1),(1,1,V0,V2)] rfl (eqI ‹_›) (ltI this))
    ·simp only [hxk,hyk,decide_true,decide_false,Bool.false_bne,if_true,zD,wo,z1,zu,zj,zk,zg,ze]
     refine Eq.mpr (j9 hd') ?_
     rw [zae]
     refine ⟨hlim,?_⟩
     have e1:wR (wR ks' x) y=wR ks' x:=by rw [wR,if_pos ((yS ..).mpr (.inl hyk))]
     have hlx:(wR ks' x).length=ks'.length+1:=by simp [wR,hxk]
     refine Eq.mpr (j9 (zB _ _ _)) ?_
     rw [zae,e1]
     refine ⟨by rw [wl,hlx];unfold lim;omega,?_⟩
     simp only [qh,z1,zx,zw]
     refine hK'' .next _ _ ⟨true,_,_,wR ks' x,rfl,(e'.put hf _).put hf _,zB _ _ _,⟨zgJ hc'.nd _,(yS ..).mpr (.inl hc'.pit),fun k hk=>?_,fun k hk=>?_⟩,by simp,fun _=>?_⟩
     ·rcases (yS ..).mp hk with hk | rfl
      ·exact hc'.rng k hk
      ·exact hxy.1
     ·rcases (yS ..).mp hk with hk | rfl
      ·exact hc'.reach k hk
      ·exact .bwd (hc'.reach y hyk) (kao hrs)
     ·cases b with
      | false=>rw [hlx,(hb0 rfl).1];exact kaB _
      | true=>have:=hb1 rfl;exact ltN (lit (@r3 (↑(ks.length)) (↑((wR ks' x).length)) (↑(ks'.length))) V0 V1 [(2,-1,V1,.add V2 N1),(1,1,V0,V2)] rfl (eqI hlx) (ltI this))
    ·simp only [hxk,hyk,decide_false,bne_self_eq_false,kak,if_false,qQ]
     refine hK'' .next _ _ ⟨b,_,_,ks',rfl,e',hd',hc',fun hb=>⟨(hb0 hb).1,fun j p hj hjp=>?_⟩,hb1⟩
     by_cases hji:j=i
     ·subst hji;rw [hrs] at hjp;cases hjp;rw [<-(hb0 hb).1];simp [hxk,hyk]
     ·exact (hb0 hb).2 j p (by exact ltN ((zaG (lin r2 V0 V1 [(1,1,V0,.add V1 N1)] rfl (ltI hj)) hji))) hjp
   ·rintro Z J'' ⟨b,o4,o5,ks',rfl,hcj⟩
    have e':=hcj.1;have hd':=hcj.2.1;have hc':=hcj.2.2.1;have hb0:=hcj.2.2.2.1;have hb1:=hcj.2.2.2.2;clear hcj
    refine ⟨.inl (e' _ _ hr1),hK .next _ _ ⟨⟨b,o4,o5,ks',rfl,e',hd',hc',fun hb=>?_⟩,?_⟩⟩
    ·obtain ⟨rfl,h2⟩:=hb0 hb
     intro p hpm
     obtain ⟨j,hj,hjp⟩:=kaO hpm
     exact h2 j p (by rw [hr2.length];exact hj) (by rw [<-hjp];simp [hj])
    ·rw [<-hn,hd,hd']
     have h1:=hc.le;have h2:=hc'.le
     simp only [zj,zk,wl]
     cases b with
     | false=>obtain ⟨rfl,_⟩:=hb0 rfl;simp
     | true=>have:=hb1 rfl;simp;exact kcK (kdJ (kc0.mp (show (ks.length:Int)<=((11:Nat):Int) from kbA h1 (Int.add_le_add_right hm' 1)))) this
structure NetF(T:TC):Prop where
 within:FnW T "is_within" 3 0 (qF T)
 road:FnW T "is_road" 2 0 (za6 T)
 come:FnW T "come_to" 2 4 (za8 T)
structure wT(T:TC):Prop extends NetF T where
 need:∀ {d:Nat} {J:zc} {Q:V->zc->Prop} {P:Nat->zc->Prop} {m:Int} {r:Addr} {rs:List (Int × Int)},Net m rs->zS J r rs->(∀ J',Ext J J'->Q .none J')->zp T (d+3) "need_net" [.int m,.ref r] J Q P

theorem Net.full{m rs ks}(n:Net m rs)(hc:zhI m rs ks)(hcl:zdP rs ks):(ks.length:Int)=m+1:=by
 have h1:=hc.le
 have h3:=n.m0
 have h2:=zdZ m.toNat ks fun k h0 hk=>by
  by_cases e:k=m
  ·subst e;exact hc.pit
  ·exact hcl.all hc.pit (n.conn k h0 (by exact (yN (lin r3 V0 V1 [(0,1,V0,V2),(2,1,V2,V1)] rfl hk (tnn (h3))) e)))
 have:=n.m0
 exact kaH (h1) (lin (@r3 _ (↑(ks.length)) (↑(m.toNat))) (.add V0 N1) V1 [(0,1,.add V2 N1,V1),(2,-1,V2,V0)] rfl (leI h2) (tnn (h3)))

theorem z8(h:wT T){m:Int}{r:Addr}{rs:List (Int × Int)}(n:Net m rs)(hr:zS J r rs)(hq:∀ J',Ext J J'->Q .none J'):zp T (d+3) "need_net" [.int m,.ref r] J Q P:=h.need n hr hq
theorem ziL(h:wT T)(hcn:FnW T "counts_at" 2 3 (qS T))(hd:FnW T "degrees" 2 0 (zco T)){m:Int}{r:Addr}{rs:List (Int × Int)}(n:Net m rs)(hr:zS J r rs)
  (hq:∀ c J',Ext J J'->J c=none->qJ J' c (degs m rs)->Q (.ref c) J'):zp T (d+4) "degrees" [.int m,.ref r] J Q P:=by
 refine hd (d+3) _ _ _ _ rfl ?_
 refine z8 h n hr fun J1 e1=>?_
 refine (y7 (d:=d+2) hcn n.m0 n.m10 (hr.ext e1) (fun p hp=>⟨(n.ends p hp).1.1,(n.ends p hp).2.1.1⟩) fun c J2 e2 hc hi=>?_)
 exact hq c J2 (e1.trans e2) (e1.none hc) hi
end
end Mine
end
section
open PySem
namespace Mine
def jE(J:zc)(a:Addr)(ns:List Int):Prop:=(J a=some (.ro (zs ns))\/J a=some (.list (zs ns)))/\ns.length<=63
theorem jE.ext{J J' a ns}(h:jE J a ns)(e:Ext J J'):jE J' a ns:=⟨h.1.imp (e _ _) (e _ _),h.2⟩
theorem jE.len{J a ns}{k:Nat->Prop}(h:jE J a ns)(hk:k ns.length):zay J a k:=by
 rw [<-qb ns] at hk
 exact h.1.elim (fun h=>zpx h hk) fun h=>qa h hk
theorem jE.seq{J a ns k}(h:jE J a ns):yo J a k=k (zs ns):=h.1.elim zpu zbD
noncomputable def ztO(x k:Int):Int:=(x*48271+k*104729).fmod 2147483647
noncomputable def ztN(x k:Int):Int:=(x*x+48271*k).fmod 2147483629
noncomputable def jq(ns:List Int)(k:Int):Int:=if k<ns.length then ns.getD k.toNat 0 else if ns=[] then 0 else ztN (ztO (ns.getD (k.fmod ns.length).toNat 0) k) k
noncomputable def zpS(c k:Int):Int:=let x:=(c*48271+(k+1)*7919*(c.fmod 9973+7)).fmod 2147483647;(x*x+69621*k).fmod 2147483629
noncomputable def jN(n m s:Int):Int:=if n=m then m else if (s.fdiv 16).fmod 2=1 then m - 1 - (n+s).fmod m else (n+s).fmod m

theorem wA{a b:Int}(h1:-(2 ^ 64)<b)(h2:b<2 ^ 64):IntMulOk a b:=.of_right (intBits_le_64 h1 h2)
theorem zel{a b:Int}(h1:-(2 ^ 64)<a)(h2:a<2 ^ 64):IntMulOk a b:=.of_left (intBits_le_64 h1 h2)
theorem zba{x y:Int}(h:y.natAbs<1073741824):Builtin.divisionGoesByPylong x y=false:=PyProof.noPylong_small h
section
variable {T:TC} {d:Nat} {J:zc} {Q:V->zc->Prop} {P:Nat->zc->Prop}
theorem jE.rd{J a ns}(h:jE J a ns):Rd J (.ref a) (.list (ns.map .int)):=h.1.elim (fun h=>.ro h (zcb J ns)) fun h=>.list h (zcb J ns)
theorem qn(h:FnW T "_law_cell_at" 2 1 (jM T)){ns:List Int}{s:Addr}{k:Int}(hs:jE J s ns)(h0:0<=k)(hk:k<2 ^ 30)(hq:∀ J',Ext J J'->Q (.int (jq ns k)) J'):zp T (d+1) "_law_cell_at" [.ref s,.int k] J Q P:=by
 refine h d _ _ _ _ rfl ?_
 simp only [jM,zmd,zpU,zp6,zpT,zbP,zjc,zjb,zja,yF,yZ,wP]
 refine hs.len ?_
 by_cases h1:k<(ns.length:Int)
 ·refine zZ (decide_eq_true h1) ?_
  refine ⟨h0,?_⟩
  have hlt:k.toNat<ns.length:=by exact ltN (lit r3 V0 V1 [(1,1,V2,V1),(2,1,V0,V2)] rfl h1 (tnn (h0)))
  refine Eq.mpr (hs.seq) ?_
  refine qq (zbb (n:=ns.getD k.toNat 0) (by simp [kb3,hlt])) ?_
  have:=hq J .refl
  simpa only [jq,h1,if_true] using this
 ·refine zQ (decide_eq_false h1) ?_
  refine ⟨by first | exact kal rfl | simp [lim],fun c hc=>?_⟩
  have e1:Ext J (put J c (.list [])):=Ext.refl.new hc _
  have hs1:=hs.ext e1
  have hemp:qJ (put J c (.list [])) c []:=zB _ _ _
  refine ⟨_,_,hs1.rd,hemp.rd,zaF _,zaF _,?_⟩
  have eqv:PyData.eqv (.list (ns.map .int)) (.list (([]:List Int).map .int))=decide (ns=[]):=by simp only [PyData.eqv];exact zb9 ns []
  rw [eqv]
  by_cases h2:ns=[]
  ·simp only [h2,decide_true,kak,if_false,wk,if_true,zjq,zbM]
   have:=hq _ e1
   simp only [jq,h2] at this
   simpa using this
  ·have hpos:0<ns.length:=List.length_pos_iff.mpr h2
   simp only [h2,decide_false,kak,if_false,wk,ziZ,zjC,zcI,q9,zjv,zmb,zpT,zbM,zbP,yF,yZ,wP,je]
   refine hs1.len ?_
   have hn0:(ns.length:Int)≠0:=by exact (fun h_=>lif r1 [(1,1,N0,V0),(2,1,V0,N0)] rfl (ltI hpos) h_)
   have hm0:=kaR k (b:=(ns.length:Int)) (by exact kaw.mpr ‹_›)
   have hm1:=ka2 k (b:=(ns.length:Int)) (by exact kaw.mpr ‹_›)
   refine ⟨hn0,hm0,?_⟩
   rw [hs1.seq,yx (zbb (n:=ns.getD (k.fmod ns.length).toNat 0) (by
    have:(k.fmod ns.length).toNat<ns.length:=kaw.mp (by rw [tnn hm0];exact hm1)
    simp [kb3,this]))]
   refine ⟨wA (by exact nnI _) (by exact nnI _),wA (by exact nnI _) (by exact nnI _),by decide,?_⟩
   simp only [zgc,zgb,zjq,zcI,q9,zjv,zbM,zbP,yF,yZ,je]
   have a0:=kaR (ns.getD (k.fmod ns.length).toNat 0*48271+k*104729) (b:=2147483647) (by exact nnI _)
   have a1:=ka2 (ns.getD (k.fmod ns.length).toNat 0*48271+k*104729) (b:=2147483647) (by exact nnI _)
   refine ⟨wA (by exact lit r1 (.neg (.num 18446744073709551616)) V0 [(0,1,N0,V0)] rfl a0) (by exact lit r1 V0 (.num 18446744073709551616) [(1,1,V0,.num 2147483647)] rfl a1),zel (by exact nnI _) (by exact nnI _),by decide,?_⟩
   have:=hq _ e1
   simp only [jq,h1,h2,if_false] at this
   exact this
theorem zll(h:FnW T "_law_mixed" 2 1 (wZ T)){c k:Int}(h0:0<=k)(hk:k<2 ^ 20)(hq:Q (.int (zpS c k)) J):zp T (d+1) "_law_mixed" [.int c,.int k] J Q P:=by
 refine h d _ _ _ _ rfl ?_
 simp only [wZ,zmd,zjC,zcI,q9,zjv,zbP,zbM,zjc,zjb,zja,yF,yZ,je]
 have a0:=kaR c (b:=9973) (by exact nnI _)
 have a1:=ka2 c (b:=9973) (by exact nnI _)
 refine ⟨wA (by exact nnI _) (by exact nnI _),wA (by exact nnI _) (by exact nnI _),by decide,wA (by exact lit r1 (.neg (.num 18446744073709551616)) (.add V0 (.num 7)) [(0,1,N0,V0)] rfl a0) (by exact lit r1 (.add V0 (.num 7)) (.num 18446744073709551616) [(1,1,V0,.num 9973)] rfl a1),by decide,?_⟩
 simp only [zgc,zgb,zjq,zcI,q9,zjv,zbM,zbP,yF,yZ,je]
 have b0:=kaR (c*48271+(k+1)*7919*(c.fmod 9973+7)) (b:=2147483647) (by exact nnI _)
 have b1:=ka2 (c*48271+(k+1)*7919*(c.fmod 9973+7)) (b:=2147483647) (by exact nnI _)
 exact ⟨wA (by exact lit r1 (.neg (.num 18446744073709551616)) V0 [(0,1,N0,V0)] rfl b0) (by exact lit r1 V0 (.num 18446744073709551616) [(1,1,V0,.num 2147483647)] rfl b1),zel (by exact nnI _) (by exact nnI _),by decide,hq⟩
theorem zeN(h:FnW T "_law_turned" 3 0 (y8 T)){n m s:Int}(hm:n≠m->0<m)(hq:Q (.int (jN n m s)) J):zp T (d+1) "_law_turned" [.int n,.int m,.int s] J Q P:=by
 refine h d _ _ _ _ rfl ?_
 simp only [y8,zD,qr,qA,zu,qd,qc,zj,zk,ze,zn,Cmp.run]
 by_cases h1:n=m
 ·simp only [h1,beq_self_eq_true,if_true,jQ,zu,zj,zk]
  simpa [jN,h1] using hq
 ·have hm':=hm h1
  have hb:(n==m)=false:=by simpa using h1
  simp only [hb,kak,if_false,qQ,jv,yy,zu,z1,zj,zk,ze]
  refine ⟨⟨by decide,zba (by decide)⟩,by decide,?_⟩
  by_cases h2:(s.fdiv 16).fmod 2=1
  ·simp only [h2,beq_self_eq_true,if_true,jQ,yK,jv,q9,zu,z1,zj,zk,ze]
   refine ⟨by exact Mine.ji ‹_›,?_⟩
   simpa [jN,h1,h2] using hq
  ·have hb2:((s.fdiv 16).fmod 2==1)=false:=by simpa using h2
   simp only [hb2,kak,if_false,qQ,jQ,jv,q9,zu,zj,zk,ze]
   refine ⟨by exact Mine.ji ‹_›,?_⟩
   simpa [jN,h1,h2] using hq

theorem yl(h:FnW T "_law_degrees" 2 4 (jf T)){m:Int}{r:Addr}{rs:List (Int × Int)}(hm:0<=m)(hm':m<=10)(hr:zS J r rs)(hp:∀ p∈rs,0<=p.1/\0<=p.2)
  (hq:∀ c J',Ext J J'->J c=none->qJ J' c (degs m rs)->Q (.ref c) J'):zp T (d+1) "_law_degrees" [.int m,.ref r] J Q P:=by
 refine h d _ _ _ _ rfl ?_
 obtain ⟨vs,hr1,hr2⟩:=hr
 simp only [jf,zD,qh,zju,jp,zC,z1,zM,zu,qd,qf,qc,zj,zk,zg,ze,yT,kaj,kaD]
 refine ⟨by first | exact kal rfl | simp [lim],fun c hc=>?_⟩
 refine zI (zB _ _ _) ?_
 refine ⟨by exact lit r1 V0 (.num 4611686018427387904) [(0,1,V0,.num 10)] rfl hm',by exact lin r1 (.neg (.num 4611686018427387904)) V0 [(0,1,N0,V0)] rfl hm,by simp [lim];exact lin r1 V0 (.num 1000000) [(0,1,V0,.num 10)] rfl hm',fun f hf=>?_⟩
 have e1:Ext J (put J c (.list [.int 0])):=Ext.refl.new hc _
 have hfn:=e1.none hf
 simp only [zx,zw,yL,zak,zu,zj,zk,zg]
 have e2:=e1.new hf (.list (kaE m.toNat [.int 0]).flatten)
 refine qI (e2 _ _ hr1) ?_
 refine qg (fun i Z J'=>X3 fun o3 o4 o5=>Z=[some (.int m),some (.ref r),some (.ref f),o3,o4,o5]/\Ext J J'/\qJ J' f (zce m (kaE m.toNat 0) (rs.take i))) ?_ ?_ ?_
 ·refine ⟨none,none,none,rfl,e2,?_⟩
  show put _ f _ f=_
  rw [zB];simp [zce,zs]
 ·intro i v Z J' K' hv hI6a hK
  obtain ⟨o3,o4,o5,rfl,hcj⟩:=hI6a
  have e:=hcj.1;have hi:=hcj.2;clear hcj
  obtain ⟨t,a,b,rfl,hrs,ht⟩:=hr2.get hv
  have hab:=hp _ (kao hrs)
  refine ⟨.inl (e _ _ hr1),?_⟩
  refine wE (e _ _ ht) ?_
  refine ⟨rfl,?_⟩
  simp only [zax,zaw,zx,zw,yL,zak,jp,zC,zM,zu,zj,zk,kaj,kaD,yT]
  refine ⟨by first | exact kal rfl | simp [lim],fun l hl=>?_⟩
  simp only [zg]
  have e':=e.new hl (.list [.int a,.int b])
  have hlf:l≠f:=by rintro rfl;rw [hi] at hl;cases hl
  have hln:=e.none hl
  refine qI (zB _ _ _) ?_
  refine qg (fun j Z J''=>∃ o5,Z=[some (.int m),some (.ref r),some (.ref f),some (.int a),some (.int b),o5]/\Ext J J''/\J'' l=some (.list [.int a,.int b])/\qJ J'' f (([a,b].take j).foldl (zaX m) (zce m (kaE m.toNat 0) (rs.take i)))) ⟨o5,rfl,e',zB _ _ _,?_⟩ ?_ ?_
  ·show put _ l _ f=_
   rw [zO _ (Ne.symm hlf)];exact hi
  ·intro j v Z J'' K'' hv' hI6b hK'
   obtain ⟨o5,rfl,hcj⟩:=hI6b
   have e':=hcj.1;have hl':=hcj.2.1;have hi':=hcj.2.2;clear hcj
   refine ⟨.inl hl',?_⟩
   have hv2:∃ x,[a,b][j]?=some x/\v=.int x/\0<=x:=by
    match j with
    | 0=>simp at hv';exact ⟨a,rfl,hv'.symm,hab.1⟩
    | 1=>simp at hv';exact ⟨b,rfl,hv'.symm,hab.2⟩
    | j+2=>simp at hv'
   obtain ⟨x,hx,rfl,hx0⟩:=hv2
   have hnext:([a,b].take (j+1)).foldl (zaX m) (zce m (kaE m.toNat 0) (rs.take i))=zaX m (([a,b].take j).foldl (zaX m) (zce m (kaE m.toNat 0) (rs.take i))) x:=by
    rw [kaN,hx];simp
   generalize hF:([a,b].take j).foldl (zaX m) (zce m (kaE m.toNat 0) (rs.take i))=F at *
   have hFl:F.length=m.toNat:=by
    rw [<-hF]
    have:∀ (l:List Int) (f:List Int),(l.foldl (zaX m) f).length=f.length:=by
     intro l;induction l with
     | nil=>intro f;rfl
     | cons y l ih=>intro f;rw [kcE,ih,zgX]
    rw [this,zkW];simp
   simp only [jR,zx,zw,qr,qA,zu,zj,zk,ze,zn,Cmp.run,qQ]
   by_cases hlt:x<m
   ·simp only [hlt,decide_true,if_true,wo,q9,qv,zu,zj,zk,z1,zg,ze]
    have hxl:x.toNat<F.length:=by exact ltN (lit r5 V0 V1 [(2,-1,V1,V2),(1,1,V3,V4),(2,1,V0,V3),(2,-1,V2,V4)] rfl (eqI hFl) hlt (tnn (hx0)) (tnn (hm)))
    refine ⟨hx0,?_⟩
    refine qm hi' (qq (zbb (n:=F.getD x.toNat 0) (by simp [kb3,hxl])) ?_)
    refine Eq.mpr (j8 hi') ?_
    rw [qb]
    refine ⟨hx0,by exact lit r3 V0 V1 [(1,1,V2,V1),(2,-1,V2,V0)] rfl (ltI hxl) (tnn (hx0)),hK' .next _ _ ⟨_,rfl,e'.put hfn _,by rw [zO _ hlf];exact hl',?_⟩⟩
    rw [hnext]
    show put _ f _ f=_
    rw [zB,zl9];simp [zaX,hlt]
   ·refine zQ (decide_eq_false hlt) ?_
    exact hK' .next _ _ ⟨_,rfl,e',hl',by rw [hnext];simpa [zaX,hlt] using hi'⟩
  ·rintro Z J'' ⟨o5,rfl,hcj⟩
   have e':=hcj.1;have hl':=hcj.2.1;have hi':=hcj.2.2;clear hcj
   refine ⟨.inl hl',hK .next _ _ ⟨_,_,_,rfl,e',?_⟩⟩
   rw [zb2 m _ rs i _ hrs]
   simpa using hi'
 ·rintro Z J' ⟨o3,o4,o5,rfl,hcj⟩
  have e:=hcj.1;have hi:=hcj.2;clear hcj
  refine ⟨.inl (e _ _ hr1),?_⟩
  refine hq f J' e hfn ?_
  rw [hr2.length,kba] at hi
  exact hi
end
theorem yz.mono{rs qs a b}(h:yz rs a b)(hs:∀ p∈rs,p∈qs):yz qs a b:=by
 induction h with
 | refl=>exact .refl
 | fwd _ hm ih=>exact .fwd ih (hs _ hm)
 | bwd _ hm ih=>exact .bwd ih (hs _ hm)
theorem yz.map{rs qs a b}(τ:Int->Int)(h:yz rs a b)(hs:∀ p∈rs,(τ p.1,τ p.2)∈qs\/(τ p.2,τ p.1)∈qs):yz qs (τ a) (τ b):=by
 induction h with
 | refl=>exact .refl
 | fwd _ hm ih =>
  rcases hs _ hm with h | h
  ·exact .fwd ih h
  ·exact .bwd ih h
 | bwd _ hm ih =>
  rcases hs _ hm with h | h
  ·exact .bwd ih h
  ·exact .fwd ih h
def Okr(m:Int)(p:Int × Int):Prop:=(0<=p.1/\p.1<=m)/\(0<=p.2/\p.2<=m)/\p.1≠p.2

theorem zrz{a b s m:Int}(h0:0<=a)(h1:a<m)(h2:0<=b)(h3:b<m)(h:(a+s) % m=(b+s) % m):a=b:=by
 have h4:(a - b) % m=0:=by
  have h5:((a+s) - (b+s)) % m=0:=by rw [Int.sub_emod,h];simp
  have e:(a+s) - (b+s)=a - b:=by exact liq r3 (.sub (.add V0 V1) (.add V2 V1)) (.sub V0 V2) [] rfl
  rwa [e] at h5
 obtain ⟨k,hk⟩:=Int.dvd_of_emod_eq_zero h4
 have:k=0:=by
  rcases Int.lt_trichotomy k 0 with h | h | h
  ·have:m*k<=m*(-1):=kbf (by exact lin r1 V0 (.neg N1) [(1,1,V0,N0)] rfl h) (by exact lin r2 N0 V0 [(0,1,N0,V1),(1,1,V1,V0)] rfl h2 h3)
   exact lif r4 [(0,1,N0,V0),(1,1,V1,V2),(2,1,.sub V0 V1,V3),(0,1,V3,.mulR V2 (-1))] rfl h0 h3 hk this
  ·exact h
  ·have:m*1<=m*k:=kbf ‹_› (by exact lin r2 N0 V0 [(0,1,N0,V1),(1,1,V1,V0)] rfl h2 h3)
   exact lif r4 [(1,1,V0,V1),(0,1,N0,V2),(2,-1,.sub V0 V2,V3),(0,1,.mulR V1 1,V3)] rfl h1 h2 hk this
 subst this;exact liq r3 V0 V1 [(2,1,.sub V0 V1,.mulR V2 0)] rfl hk
theorem zdS(m s:Int):jN m m s=m:=by simp [jN]
theorem ziX{n m s:Int}(h0:0<=n)(h:n<m):0<=jN n m s/\jN n m s<m:=by
 have hne:n≠m:=by exact (fun h_=>lif r2 [(1,1,V0,V1),(2,-1,V0,V1)] rfl h h_)
 have a:=kaR (n+s) (b:=m) (by exact lit r2 N0 V0 [(0,1,N0,V1),(1,1,V1,V0)] rfl h0 h)
 have b:=ka2 (n+s) (b:=m) (by exact lit r2 N0 V0 [(0,1,N0,V1),(1,1,V1,V0)] rfl h0 h)
 unfold jN
 rw [if_neg hne]
 split<;>(first | exact ⟨lin r2 N0 (.sub (.sub V0 N1) V1) [(1,1,V1,V0)] rfl b,lit r2 (.sub (.sub V0 N1) V1) V0 [(0,1,N0,V1)] rfl a⟩ | exact ⟨a,b⟩)
theorem zku{n m s:Int}(h0:0<=n)(h:n<=m):0<=jN n m s/\jN n m s<=m:=by
 by_cases e:n=m
 ·subst e;rw [zdS];exact ⟨h0,lin r1 V0 V0 [] rfl⟩
 ·have:=ziX (s:=s) h0 (by exact (yN (h) e):n<m);exact ⟨this.1,lin r2 V0 V1 [(1,1,V0,V1)] rfl this.2⟩
theorem zoA{a b m s:Int}(ha:0<=a/\a<=m)(hb:0<=b/\b<=m)(h:jN a m s=jN b m s):a=b:=by
 by_cases ea:a=m
 ·by_cases eb:b=m
  ·exact liq r3 V0 V1 [(2,1,V0,V2),(2,-1,V1,V2)] rfl ea eb
  ·have:=ziX (s:=s) hb.1 (by exact (yN (hb.2) eb):b<m);rw [ea,zdS] at h;exact lif r2 [(2,1,V0,V1),(1,1,V1,V0)] rfl h this.2
 ·by_cases eb:b=m
  ·have:=ziX (s:=s) ha.1 (by exact (yN (ha.2) ea):a<m);rw [eb,zdS] at h;exact lif r2 [(2,-1,V0,V1),(1,1,V0,V1)] rfl h this.2
  ·unfold jN at h
   rw [if_neg ea,if_neg eb] at h
   rw [kbv _ (by exact lin r2 N0 V0 [(0,1,N0,V1),(0,1,V1,V0)] rfl ha.1 ha.2:0<=m),kbv _ (by exact lin r2 N0 V0 [(0,1,N0,V1),(0,1,V1,V0)] rfl ha.1 ha.2:0<=m)] at h
   refine zrz (m:=m) (s:=s) ha.1 (by exact (yN (ha.2) ea)) hb.1 (by exact (yN (hb.2) eb)) ?_
   split at h<;>(first | assumption | exact liq r3 V0 V1 [(2,-1,.sub (.sub V2 N1) V0,.sub (.sub V2 N1) V1)] rfl h)
theorem znk{k m:Int}(s:Int)(h0:0<=k)(h:k<m):∃ j,0<=j/\j<m/\jN j m s=k:=by
 have hm:0<m:=by exact kbz ‹_› ‹_›
 have hm':0<=m:=by exact kaA ‹_›
 have key:∀ x,0<=x->x<m->((x - s) % m+s) % m=x:=fun x hx hx'=>by
  have:=Int.emod_emod_of_dvd (x - s+s) (Int.dvd_refl m)
  rw [Int.emod_add_emod]
  have e:x - s+s=x:=by exact liq r2 (.add (.sub V0 V1) V1) V0 [] rfl
  rw [e]
  exact kcV hx hx'
 by_cases hs:(s.fdiv 16).fmod 2=1
 ·refine ⟨(m - 1 - k - s) % m,kdP _ (by exact Mine.ji ‹_›),kcp _ hm,?_⟩
  have hne:(m - 1 - k - s) % m≠m:=by have:=kcp (m - 1 - k - s) hm;exact (fun h_=>lif r2 [(1,1,V0,V1),(2,-1,V0,V1)] rfl this h_)
  unfold jN
  rw [if_neg hne,if_pos hs,kbv _ hm',key (m - 1 - k) (by exact lin r2 N0 (.sub (.sub V0 N1) V1) [(1,1,V1,V0)] rfl h) (by exact lit r2 (.sub (.sub V0 N1) V1) V0 [(0,1,N0,V1)] rfl h0)]
  exact liq r2 (.sub (.sub V0 N1) (.sub (.sub V0 N1) V1)) V1 [] rfl
 ·refine ⟨(k - s) % m,kdP _ (by exact Mine.ji ‹_›),kcp _ hm,?_⟩
  have hne:(k - s) % m≠m:=by have:=kcp (k - s) hm;exact (fun h_=>lif r2 [(1,1,V0,V1),(2,-1,V0,V1)] rfl this h_)
  unfold jN
  rw [if_neg hne,if_neg hs,kbv _ hm',key k h0 h]

structure zc2(T:TC):Prop where
 cell:FnW T "_law_cell_at" 2 1 (jM T)
 mixed:FnW T "_law_mixed" 2 1 (wZ T)
 turned:FnW T "_law_turned" 3 0 (y8 T)
 net:FnW T "_law_net" 2 14 (zcm T)
 degs:FnW T "_law_degrees" 2 4 (jf T)

theorem zS.push{J:zc}{g t:Addr}{vs rs a b}(h1:J g=some (.list vs))(h2:Prs J vs rs)(ht:J t=some (.tup [.int a,.int b])):zS (put J g (.list (vs++[.ref t]))) g (rs++[(a,b)]):=by
 refine ⟨_,zB _ _ _,?_⟩
 have hne:∀ {t a b},J t=some (.tup [.int a,.int b])->put J g (.list (vs++[.ref t])) t=some (.tup [.int a,.int b]):=by
  intro t a b h
  rw [zO _ (by rintro rfl;rw [h1] at h;cases h)];exact h
 have hmono:∀ {us qs} (o:O),Prs J us qs->Prs (put J g o) us qs:=by
  intro us qs o h
  induction h with
  | nil=>exact .nil
  | cons h _ ih=>exact .cons (by rw [zO _ (by rintro rfl;rw [h1] at h;cases h)];exact h) ih
 refine (hmono _ h2).append (.cons ?_ .nil)
 rw [zO _ (by rintro rfl;rw [h1] at ht;cases ht)];exact ht

theorem Prs.keep{J:zc}{g:Addr}{xs:List V}{o:O}{us qs}(h:Prs J us qs)(h1:J g=some (.list xs)):Prs (put J g o) us qs:=by
 induction h with
 | nil=>exact .nil
 | cons h _ ih=>exact .cons (by rw [zO _ (by rintro rfl;rw [h1] at h;cases h)];exact h) ih

theorem zcX{α:Type}(l:List α)(n:Nat):(l.drop n).length+(l.take n).length=l.length:=by
 rw [Nat.add_comm,<-kas,kb7]
section
variable {T:TC} {d:Nat} {J:zc} {K:Out->zK->zc->Prop} {P:Nat->zc->Prop}
theorem ztc(h:zc2 T){s g:Addr}{ns:List Int}{L first m:Int}{line:Bool}{rs:List (Int × Int)}{o6 o7 o8 o9 o10 o11 o12 o13 o14 o15:Option V}(hs:jE J s ns)(hg:zS J g rs)(hm:0<=m)(hm':m<=10)(hl:rs.length<=40)(hok:∀ p∈rs,Okr m p)
  (hre:∀ k,0<=k->k<m->yz rs m k)
  (hq:∀ t c J' qs Z,Ext J J'->J' t=some (.tup [.int m,.ref c])->zS J' c qs->Net m qs->J c=none->K (.ret (.ref t)) Z J') :
  zeJ T (d+1) [some (.ref s),some (.int L),some (.int first),some (.int m),some (.bool line),some (.ref g),o6,o7,o8,o9,o10,o11,o12,o13,o14,o15] J K P:=by
 refine qn h.cell hs (by exact nnI _) (by exact nnI _) fun J1 e1=>?_
 simp only [ze,zw,zx,zu,zj,zk,zL,zC,zM,z1]
 refine ⟨by decide,?_⟩
 refine qn h.cell (hs.ext e1) (by exact nnI _) (by exact nnI _) fun J2 e2=>?_
 have e12:=e1.trans e2
 obtain ⟨vs,hg1,hg2⟩:=hg.ext e12
 simp only [ze,q9,jw,zu,z1,zj,zk,zg]
 refine qa hg1 ?_
 simp only [ze,hg2.length,jp,zM,kaD,zw,zx]
 refine ⟨by exact (fun h_=>lif r1 [(2,1,.add V0 N1,N0),(0,1,N0,V0)] rfl h_ (nnI _)),by simp [lim],zi fun f J3 hf e3 hfv=>?_⟩
 generalize hsh:(jq ns 17).fmod 32=sh
 have a0:=kaR (jq ns 18) (b:=(rs.length:Int)+1) (by exact lit r1 N0 (.add V0 N1) [(0,1,N0,V0)] rfl (nnI _))
 have a1:=ka2 (jq ns 18) (b:=(rs.length:Int)+1) (by exact lit r1 N0 (.add V0 N1) [(0,1,N0,V0)] rfl (nnI _))
 generalize (jq ns 18).fmod ((rs.length:Int)+1)=at' at a0 a1
 refine ⟨a0,?_⟩
 refine jX (e3 _ _ hg1) ?_
 refine zi fun c1 J4 hc1 e4 hv1=>⟨a0,?_⟩
 refine jX (e4 _ _ (e3 _ _ hg1)) ?_
 refine zi fun c2 J5 hc2 e5 hv2=>?_
 refine zI (e5 _ _ hv1) (zI hv2 ?_)
 have hvl:=hg2.length
 refine ⟨by rw [zcX];exact kai (hvl▸hl) (by decide),zi fun c3 J6 hc3 e6 hv3=>?_⟩
 simp only [zg]
 refine qI hv3 ?_
 have x6:=((e12.trans e3).trans e4).trans (e5.trans e6)
 have y6:Ext J2 J6:=(e3.trans e4).trans (e5.trans e6)
 have hfs:J f=none:=e12.none hf
 have hff:=e6 _ _ (e5 _ _ (e4 _ _ hfv))
 have hc3s:J c3=none:=(((e12.trans e3).trans e4).trans e5).none hc3
 have hc3f:c3≠f:=Ne.symm (jV (e5 _ _ (e4 _ _ hfv)) hc3)
 have hrot:Prs J6 (vs.drop at'.toNat++vs.take at'.toNat) (rs.drop at'.toNat++rs.take at'.toNat):=((hg2.drop _).append (hg2.take _)).ext y6
 have hmem:∀ p,p∈rs.drop at'.toNat++rs.take at'.toNat ↔ p∈rs:=fun p=>by
  rw [kaq,or_comm,<-kaq,kb7]
 have hlen:(rs.drop at'.toNat++rs.take at'.toNat).length=rs.length:=(kas).trans (zcX rs _)
 generalize vs.drop at'.toNat++vs.take at'.toNat=us at hv3 hrot
 generalize rs.drop at'.toNat++rs.take at'.toNat=ts at hrot hmem hlen
 clear hc3 hc2 hc1 e3 e4 e5 e6 hv1 hv2 hfv hf
 refine qg (fun i Z J'=>X6 fun qs o11 o12 o13 o14 o15=>Z=[some (.ref s),some (.int L),some (.int first),some (.int m),some (.bool line),some (.ref g),o6,o7,some (.int sh),some (.int at'),some (.ref f),o11,o12,o13,o14,o15]/\Ext J J'/\J' c3=some (.list us)/\Prs J' us ts/\zS J' f qs/\qs.length=i/\(∀ j p,j<i->ts[j]?=some p->(jN p.1 m sh,jN p.2 m sh)∈qs\/(jN p.2 m sh,jN p.1 m sh)∈qs)/\∀ q∈qs,∃ p∈rs,q=(jN p.1 m sh,jN p.2 m sh)\/q=(jN p.2 m sh,jN p.1 m sh)) ?_ ?_ ?_
 ·exact ⟨[],_,_,_,_,_,rfl,x6,hv3,hrot,⟨[],hff,.nil⟩,rfl,fun j p hj=>by exact lif r1 [(1,1,V0,N0),(0,1,N0,V0)] rfl (ltI hj) (nnI _),by simp⟩
 ·intro i v Z J' K' hv hI6a hK
  obtain ⟨qs,o11,o12,o13,o14,o15,rfl,hcj⟩:=hI6a
  have e:=hcj.1;have hc3':=hcj.2.1;have hrot':=hcj.2.2.1;have hfq:=hcj.2.2.2.1;have hql:=hcj.2.2.2.2.1;have hin:=hcj.2.2.2.2.2.1;have hout:=hcj.2.2.2.2.2.2;clear hcj
  obtain ⟨t,a,b,rfl,hts,ht⟩:=hrot'.get hv
  have hpm:(a,b)∈rs:=(hmem _).mp (kao hts)
  have hokp:=hok _ hpm
  refine ⟨.inl hc3',?_⟩
  simp only [wY,zg]
  refine wE ht ?_
  refine ⟨rfl,?_⟩
  simp only [zax,zaw,zx,zw,zD,qh,zaY,zC,zM,zL,zu,zj,zk]
  refine zeN h.turned (fun hne=>by have:=hokp.1;simp only at this;exact lit r2 N0 V0 [(0,1,N0,V1),(1,1,V1,V0)] rfl this.1 (yN (this.2) hne)) ?_
  refine zeN h.turned (fun hne=>by have:=hokp.2.1;simp only at this;exact lit r2 N0 V0 [(0,1,N0,V1),(1,1,V1,V0)] rfl this.1 (yN (this.2) hne)) ?_
  refine ⟨by first | exact kal rfl | simp [lim],zi fun t1 J7 ht1 e7 hv7=>?_⟩
  simp only [zx,zw,qr,qA,jv,q9,yy,jw,zL,zC,zM,zu,z1,zj,zk]
  refine qn h.cell (hs.ext (e.trans e7)) (by exact nnI _) (by exact nnI _) fun J8 e8=>?_
  have e78:=e7.trans e8
  obtain ⟨ws,hf1,hf2⟩:=hfq.ext e78
  simp only [ze,zg]
  refine ⟨⟨by decide,zba (by decide)⟩,?_⟩
  refine qa hf1 ?_
  simp only [ze,Cmp.run,zn]
  refine ⟨by decide,?_⟩
  have hwl:ws.length<lim:=by
   have h1:=hf2.length
   have h2:i<us.length:=(kah.mp hv).1
   have h3:=hrot'.length
   unfold lim;exact ltN (lit r6 V0 (.num 1000000) [(0,1,V1,.num 40),(2,1,V2,V1),(2,1,V3,V4),(2,1,V0,V3),(1,1,V4,V5),(2,1,V5,V2)] rfl (leI hl) (eqI hlen) (eqI hql) (eqI h1) (ltI h2) (eqI h3))
  have fin:∀ J9 t2 x y,Ext J8 J9->J9 t2=some (.tup [.int x,.int y])->(x,y)=(jN a m sh,jN b m sh)\/(x,y)=(jN b m sh,jN a m sh)->∀ Z',(∃ o11 o12 o13 o14 o15,Z'=[some (.ref s),some (.int L),some (.int first),some (.int m),some (.bool line),some (.ref g),o6,o7,some (.int sh),some (.int at'),some (.ref f),o11,o12,o13,o14,o15]) ->
    K' .next Z' (put J9 f (.list (ws++[.ref t2]))):=by
   rintro J9 t2 x y e9 ht2 hxy Z' ⟨p11,p12,p13,p14,p15,rfl⟩
   have hf9:=e9 _ _ hf1
   refine hK .next _ _ ⟨qs++[(x,y)],p11,p12,p13,p14,p15,rfl,(e.trans (e78.trans e9)).put hfs _,?_,?_,zS.push hf9 (hf2.ext e9) ht2,by simp [hql],fun j p hj hjp=>?_,fun q hq'=>?_⟩
   ·rw [zO _ hc3f];exact e9 _ _ (e78 _ _ hc3')
   ·have:=hrot'.ext (e78.trans e9)
    exact this.keep hf9
   ·by_cases hji:j=i
    ·subst hji;rw [hts] at hjp;cases hjp
     rcases hxy with e | e
     ·exact .inl (by simp [<-e])
     ·exact .inr (by simp [<-e])
    ·rcases hin j p (by exact ltN ((zaG (lin r2 V0 V1 [(1,1,V0,.add V1 N1)] rfl (ltI hj)) hji))) hjp with h | h
     ·exact .inl (by simp [h])
     ·exact .inr (by simp [h])
   ·rcases kaq.mp hq' with h | h
    ·exact hout q h
    ·simp at h;subst h;exact ⟨(a,b),hpm,hxy⟩
  by_cases hfl:(((jq ns 18).fdiv 41+(ws.length:Int)).fmod 3==1)=true
  ·simp only [hfl,if_true,qh,zaY,zC,zM,qv,zu,z1,zj,zk,zg,ze]
   refine ⟨by exact nnI _,?_⟩
   refine jS (e8 _ _ hv7) ?_
   refine ⟨by exact nnI _,?_⟩
   refine jS (e8 _ _ hv7) ?_
   refine ⟨by first | exact kal rfl | simp [lim],zi fun t2 J9 ht2 e9 hv9=>?_⟩
   refine ⟨zI (e9 _ _ hf1) trivial,?_⟩
   refine zI (e9 _ _ hf1) ?_
   refine ⟨hwl,?_⟩
   exact fin J9 t2 _ _ e9 hv9 (.inr rfl) _ ⟨_,_,_,_,_,rfl⟩
  ·have hfl':(((jq ns 18).fdiv 41+(ws.length:Int)).fmod 3==1)=false:=by simpa using hfl
   refine zQ hfl' ?_
   refine ⟨zI hf1 trivial,?_⟩
   refine zI hf1 ?_
   refine ⟨hwl,?_⟩
   exact fin J8 t1 _ _ .refl (e8 _ _ hv7) (.inl rfl) _ ⟨_,_,_,_,_,rfl⟩
 ·rintro Z J' ⟨qs,o11,o12,o13,o14,o15,rfl,hcj⟩
  have e:=hcj.1;have hc3':=hcj.2.1;have hrot':=hcj.2.2.1;have hfq:=hcj.2.2.2.1;have hql:=hcj.2.2.2.2.1;have hin:=hcj.2.2.2.2.2.1;have hout:=hcj.2.2.2.2.2.2;clear hcj
  refine ⟨.inl hc3',?_⟩
  refine ⟨by first | exact kal rfl | simp [lim],zi fun t J7 ht e7 hv7=>?_⟩
  have hul:=hrot'.length
  refine hq t f J7 qs _ (e.trans e7) hv7 (hfq.ext e7) ⟨hm,hm',by exact leN (lin r4 V0 (.num 40) [(0,1,V1,.num 40),(2,1,V2,V1),(2,1,V0,V3),(2,1,V3,V2)] rfl (leI hl) (eqI hlen) (eqI hql) (eqI hul)),fun q hq'=>?_,fun k h0 hk=>?_⟩ hfs
  ·obtain ⟨p,hp,hpq⟩:=hout q hq'
   obtain ⟨o1,o2,o3⟩:=hok p hp
   have r1:=zku (s:=sh) o1.1 o1.2
   have r2:=zku (s:=sh) o2.1 o2.2
   have r3:jN p.1 m sh≠jN p.2 m sh:=fun e=>o3 (zoA o1 o2 e)
   rcases hpq with rfl | rfl
   ·exact ⟨r1,r2,r3⟩
   ·exact ⟨r2,r1,Ne.symm r3⟩
  ·obtain ⟨j,j0,j1,rfl⟩:=znk sh h0 hk
   have:=(hre j j0 j1).map (qs:=qs) (fun x=>jN x m sh) fun p hp=>by
    obtain ⟨i,hi,hip⟩:=kaO ((hmem p).mpr hp)
    exact hin i p (by exact ltN (lit r3 V0 V1 [(2,-1,V1,V2),(1,1,V0,V2)] rfl (eqI hul) (ltI hi))) (by rw [<-hip];simp [hi])
   simpa [zdS] using this
end
end Mine
end
section
open PySem
namespace Mine
theorem zsk{m b:Int}{i:Nat}(hm:0<=m)(hi:(i:Int)<m)(hb:b=m\/(0<=b/\b<i)):Okr m (i,b) :=
 ⟨⟨nnI _,kaA hi⟩,hb.elim (fun e=>show 0<=b/\b<=m from by rw [e];exact ⟨hm,kaW _⟩) (fun h=>⟨h.1,kaA (Int.lt_trans h.2 hi)⟩),fun h=>hb.elim (fun e=>kbH m ((h.trans e)▸hi)) fun q=>kbH b ((show (i:Int)=b from h)▸q.2)⟩
theorem yw{a b:Int}(h:0<b):0<=a.fmod b/\a.fmod b<b:=⟨kaR a h,ka2 a h⟩
theorem zoR{one x m:Int}(hm:0<m)(h0:0<=one)(h1:one<=m)(hx:0<=x)(hx':x<m):Okr m (one,(one+1+x).fmod (m+1)):=by
 have h2:=yw (a:=one+1+x) (b:=m+1) (by exact lit r1 N0 (.add V0 N1) [(1,1,N0,V0)] rfl hm)
 refine ⟨⟨h0,h1⟩,⟨h2.1,by simp only;exact lin r2 V0 V1 [(1,1,V0,.add V1 N1)] rfl h2.2⟩,?_⟩
 simp only
 rw [kbv _ (by exact lin r1 N0 (.add V0 N1) [(1,1,N0,V0)] rfl hm:0<=m+1)]
 by_cases h:one+1+x<m+1
 ·rw [kcV (by exact lin r2 N0 (.add (.add V0 N1) V1) [(0,1,N0,V0),(0,1,N0,V1)] rfl h0 hx) h];exact (fun h_=>lif r2 [(0,1,N0,V0),(2,-1,V1,.add (.add V1 N1) V0)] rfl hx h_)
 ·have e:one+1+x=(one+x - m)+(m+1)*1:=by exact liq r3 (.add (.add V0 N1) V1) (.add (.sub (.add V0 V1) V2) (.mulR (.add V2 N1) 1)) [] rfl
  rw [e,Int.add_mul_emod_self_left,kcV (by exact lin r3 N0 (.sub (.add V0 V1) V2) [(4,1,.add (.add V0 N1) V1,.add V2 N1)] rfl h) (by exact lit r3 (.sub (.add V0 V1) V2) (.add V2 N1) [(0,1,V0,V2),(1,1,V1,V2)] rfl h1 hx')];exact (fun h_=>lif r3 [(1,1,V0,V1),(2,1,V2,.sub (.add V2 V0) V1)] rfl hx' h_)
def zrQ(J0:zc)(m:Int)(K:Out->zK->zc->Prop):Prop:=∀ t c J' qs Z,Ext J0 J'->J' t=some (.tup [.int m,.ref c])->zS J' c qs->Net m qs->J0 c=none->K (.ret (.ref t)) Z J'
structure zjJ(J0 J:zc)(s g:Addr)(ns:List Int)(m:Int)(rs:List (Int × Int)):Prop where
 e0:Ext J0 J
 hs:jE J0 s ns
 hg0:J0 g=none
 hg:zS J g rs
 hm:0<=m
 hm':m<=10
 hl:(rs.length:Int)=m
 hok:∀ p∈rs,Okr m p
 hre:∀ k,0<=k->k<m->yz rs m k
theorem zjJ.ext{J0 J J' s g ns m rs}(h:zjJ J0 J s g ns m rs)(e:Ext J J'):zjJ J0 J' s g ns m rs:={h with e0:=h.e0.trans e,hg:=h.hg.ext e}
section
variable {T:TC} {d:Nat} {J0 J:zc} {K:Out->zK->zc->Prop} {P:Nat->zc->Prop}
variable {s g:Addr} {ns:List Int} {L first m:Int} {line:Bool} {rs:List (Int × Int)} {o6 o7 o8 o9 o10 o11 o12 o13 o14 o15:Option V}
theorem zok(h:zc2 T)(hn:zjJ J0 J s g ns m rs){z:Int}(hz:0<=z)(hz':m+z<=40)(hq:zrQ J0 m K) :
  zb3 T (d+1) [some (.ref s),some (.int L),some (.int first),some (.int m),some (.bool line),some (.ref g),o6,some (.int z),o8,o9,o10,o11,o12,o13,o14,o15] J K P:=by
 obtain ⟨e0,hs,hg0,hg,hm,hm',hl,hok,hre⟩:=hn
 simp only [zb3,zD,yL,yu,zd1,zls,qA,zu,z1,zj,zk,ze,zn,Cmp.run]
 refine ⟨wA (by split<;>decide) (by split<;>decide),?_⟩
 generalize hN:z*(if decide (m>0)=true then 1 else 0)=N
 have hN0:0<=N:=by rw [<-hN];split<;>(first | exact lin r1 N0 (.mulR V0 1) [(0,1,N0,V0)] rfl hz | exact lin r1 N0 (.mulR V0 0) [] rfl)
 have hNz:N<=z:=by rw [<-hN];split<;>(first | exact lin r1 (.mulR V0 1) V0 [] rfl | exact lin r1 (.mulR V0 0) V0 [(0,1,N0,V0)] rfl hz)
 have hNm:0<N->0<m:=by
  intro hp;rw [<-hN] at hp
  by_cases hmm:m>0
  ·exact hmm
  ·simp [hmm] at hp
 refine ⟨by first | exact jg ‹_› ‹_› | (unfold jJ;exact ⟨lin r1 (.neg (.num 4611686018427387904)) V0 [(0,1,N0,V0)] rfl hN0,lit r3 V0 (.num 4611686018427387904) [(0,1,.add V1 V2,.num 40),(0,1,N0,V1),(0,1,V0,V2)] rfl hz' hm hNz⟩),?_⟩
 refine qg (fun i Z J'=>X4 fun qs o6 o11 o13=>Z=[some (.ref s),some (.int L),some (.int first),some (.int m),some (.bool line),some (.ref g),o6,some (.int z),o8,o9,o10,o11,o12,o13,o14,o15]/\Ext J0 J'/\zS J' g qs/\(qs.length:Int)=m+i/\(∀ p∈rs,p∈qs)/\∀ p∈qs,Okr m p) ?_ ?_ ?_
 ·exact ⟨rs,_,_,_,rfl,e0,hg,by exact liq r2 V0 (.add V1 N0) [(2,1,V0,V1)] rfl hl,fun p hp=>hp,hok⟩
 ·intro i v Z J' K' hv hI6a hK
  obtain ⟨qs,o6,o11,o13,rfl,hcj⟩:=hI6a
  have e:=hcj.1;have hgq:=hcj.2.1;have hql:=hcj.2.2.1;have hin:=hcj.2.2.2.1;have hokq:=hcj.2.2.2.2;clear hcj
  obtain ⟨hi,rfl⟩:=jh hv
  have hmp:=hNm (by exact lit r2 N0 V0 [(1,1,V1,V0),(0,1,N0,V1)] rfl (ka0.mp hi) (nnI _))
  refine ⟨trivial,?_⟩
  simp only [jR,zx,zw,zD,qh,zL,zC,zM,q9,jv,zu,z1,zj,zk,ze]
  have k5:=yw (a:=(0:Int)+i) (b:=5) (by exact nnI _)
  refine ⟨by decide,?_⟩
  refine qn h.cell (hs.ext e) (by exact lin r1 N0 (.add (.num 12) V0) [(0,1,N0,V0)] rfl k5.1) (by exact lit r1 (.add (.num 12) V0) (.num 1073741824) [(1,1,V0,.num 5)] rfl k5.2) fun J3 e3=>?_
  refine zll h.mixed (by exact nnI _) (by exact lit r4 (.add N0 V0) (.num 1048576) [(0,1,.add V1 V2,.num 40),(0,1,N0,V1),(0,1,V3,V2),(1,1,V0,V3)] rfl hz' hm hNz (ka0.mp hi)) ?_
  generalize zpS _ _=c
  refine ⟨by exact (fun h_=>lif r1 [(0,1,N0,V0),(2,1,.add V0 N1,N0)] rfl hm h_),?_⟩
  have c1:=yw (a:=c) (b:=m+1) (by exact lit r1 N0 (.add V0 N1) [(0,1,N0,V0)] rfl hm)
  have c2:=yw (a:=c.fdiv 11) (b:=m) hmp
  generalize c.fmod (m+1)=one at c1
  obtain ⟨ws,hw1,hw2⟩:=hgq.ext e3
  simp only [jD,zgI,zaY,zC,zM,jv,q9,yy,zu,z1,zj,zk,ze,zg,zx,zw]
  rw [zcx hw1]
  refine ⟨trivial,⟨by decide,zba (by decide)⟩,by exact Mine.ji ‹_›,by exact (fun h_=>lif r1 [(0,1,N0,V0),(2,1,.add V0 N1,N0)] rfl hm h_),by simp [lim],zi fun t J4 ht e4 hv4=>?_⟩
  refine zI (e4 _ _ hw1) ?_
  have:=hw2.length
  refine ⟨by unfold lim;exact ltN (lit r6 V0 (.num 1000000) [(0,1,.add V1 V2,.num 40),(0,1,V3,V2),(2,1,V4,.add V1 V5),(1,1,V5,V3),(2,1,V0,V4)] rfl hz' hNz hql (ka0.mp hi) (eqI this)),hK .next _ _ ⟨_,_,_,_,rfl,?_,zS.push (e4 _ _ hw1) (hw2.ext e4) hv4,by simp;exact liq r3 (.add V0 N1) (.add V1 (.add V2 N1)) [(2,1,V0,.add V1 V2)] rfl hql,fun p hp=>by simp [hin p hp],fun p hp=>?_⟩⟩
  ·exact ((e.trans e3).trans e4).put hg0 _
  ·rcases kaq.mp hp with hp | hp
   ·exact hokq p hp
   ·simp only [kac] at hp;subst hp
    exact zoR hmp c1.1 (by exact lin r2 V0 V1 [(1,1,V0,.add V1 N1)] rfl c1.2) c2.1 c2.2
 ·rintro Z J' ⟨qs,o6,o11,o13,rfl,hcj⟩
  have e:=hcj.1;have hgq:=hcj.2.1;have hql:=hcj.2.2.1;have hin:=hcj.2.2.2.1;have hokq:=hcj.2.2.2.2;clear hcj
  rw [qx] at hql
  refine ⟨trivial,?_⟩
  simp only
  refine ztc h (hs.ext e) hgq hm hm' (by lia) hokq (fun k h0 hk=>(hre k h0 hk).mono hin) fun t c J'' qs' Z e5 ht hc hn hcn=>?_
  exact hq t c J'' qs' Z (e.trans e5) ht hc hn (e.none hcn)
theorem zqn(h:zc2 T)(hn:zjJ J0 J s g ns m rs){z:Int}(hz:0<=z)(hz':m+z<=40)(hq:zrQ J0 m K) :
  zb4 T (d+1) [some (.ref s),some (.int L),some (.int first),some (.int m),some (.bool line),some (.ref g),o6,some (.int z),o8,o9,o10,o11,o12,o13,o14,o15] J K P:=by
 simp only [zb4,zmd,zpU,zsI,zs8,zp6,zcI,zmm,zrt,zm9,zpR,zbP,zbM,yF,yZ]
 refine qn h.cell (hn.hs.ext hn.e0) (by exact nnI _) (by exact nnI _) fun J1 e1=>?_
 have hn':=hn.ext e1
 have:=hn.hm;have:=hn.hm'
 simp only [je,Cmp.run,wk]
 refine ⟨⟨by decide,zba (by decide)⟩,by decide,?_⟩
 split
 ·split
  ·simp only [wk,if_true,zjC,yK,zbM,zbP,yF,yZ,je,zgb,zgc]
   exact zok h hn' (by exact lin r1 N0 (.sub (.num 40) V0) [(0,1,V0,.num 10)] rfl this) (by exact lin r1 (.add V0 (.sub (.num 40) V0)) (.num 40) [] rfl) hq
  ·split
   ·simp only [zjC,yK,zbM,zbP,yF,yZ,je,zgb,zgc]
    exact zok h hn' (by exact lin r1 N0 (.sub (.num 40) V0) [(0,1,V0,.num 10)] rfl this) (by exact lin r1 (.add V0 (.sub (.num 40) V0)) (.num 40) [] rfl) hq
   ·simp only [ziZ]
    exact zok h hn' hz hz' hq
 ·simp only [wk,kak,if_false,ziZ]
  exact zok h hn' hz hz' hq
theorem ztd(h:zc2 T)(hn:zjJ J0 J s g ns m rs)(hq:zrQ J0 m K) :
  zb5 T (d+1) [some (.ref s),some (.int L),some (.int first),some (.int m),some (.bool line),some (.ref g),o6,o7,o8,o9,o10,o11,o12,o13,o14,o15] J K P:=by
 simp only [zb5,zD,qh,jv,zL,zC,zM,zu,z1,zj,zk]
 refine qn h.cell (hn.hs.ext hn.e0) (by exact nnI _) (by exact nnI _) fun J1 e1=>?_
 have hn':=hn.ext e1
 have:=hn.hm;have:=hn.hm'
 have z6:=yw (a:=jq ns 11) (b:=6) (by exact nnI _)
 simp only [ze,zw,zx,qr,zam,zaU,qA,zu,z1,zj,zk,zn,Cmp.run]
 generalize (jq ns 11).fmod 6=z at z6
 have z3:=yw (a:=z) (b:=3) (by exact nnI _)
 refine ⟨by decide,?_⟩
 split
 ·split
  ·exact ⟨by exact (fun h_=>lif (@r1 0) [(2,1,.num 3,N0)] rfl h_),zqn h hn' z3.1 (by exact lin r2 (.add V0 V1) (.num 40) [(0,1,V0,.num 10),(1,1,V1,.num 3)] rfl this z3.2) hq⟩
  ·exact zqn h hn' z6.1 (by exact lin r2 (.add V0 V1) (.num 40) [(0,1,V0,.num 10),(1,1,V1,.num 6)] rfl this z6.2) hq
 ·exact zqn h hn' z6.1 (by exact lin r2 (.add V0 V1) (.num 40) [(0,1,V0,.num 10),(1,1,V1,.num 6)] rfl this z6.2) hq
theorem zte(h:zc2 T)(hs:jE J s ns)(hm:0<=m)(hm':m<=10)(hq:zrQ J m K){o5:Option V} :
  zaD T (d+1) [some (.ref s),some (.int L),some (.int first),some (.int m),some (.bool line),o5,o6,o7,o8,o9,o10,o11,o12,o13,o14,o15] J K P:=by
 simp only [zaD,zD,qh,jp,zC,zM,kaD]
 refine ⟨by first | exact kal rfl | simp [lim],zi fun g J1 hg e1 hgv=>?_⟩
 simp only [zx,zw,yL,yu,zu,zj,zk,ze]
 refine ⟨by first | exact jg ‹_› ‹_› | (unfold jJ;omega),?_⟩
 refine qg (fun i Z J'=>X4 fun qs o6 o11 o12=>Z=[some (.ref s),some (.int L),some (.int first),some (.int m),some (.bool line),some (.ref g),o6,o7,o8,o9,o10,o11,o12,o13,o14,o15]/\Ext J J'/\zS J' g qs/\qs.length=i/\(∀ p∈qs,Okr m p)/\∀ k,0<=k->k<(i:Int)->yz qs m k) ?_ ?_ ?_
 ·exact ⟨[],_,_,_,rfl,e1,⟨[],hgv,.nil⟩,rfl,by simp,fun k h0 hk=>by exact lif r1 [(0,1,N0,V0),(1,1,V0,N0)] rfl h0 hk⟩
 ·intro i v Z J' K' hv hI6a hK
  obtain ⟨qs,o6,o11,o12,rfl,hcj⟩:=hI6a
  have e:=hcj.1;have hgq:=hcj.2.1;have hql:=hcj.2.2.1;have hokq:=hcj.2.2.2.1;have hre:=hcj.2.2.2.2;clear hcj
  obtain ⟨hi,rfl⟩:=jh hv
  have hi':(i:Int)<m:=by exact Mine.qD ‹_› ‹_›
  refine ⟨trivial,?_⟩
  simp only [jR,zx,zw,zD,qh,zL,zC,zM,q9,jv,zu,z1,zj,zk,ze,kaV]
  refine qn h.cell (hs.ext e) (by exact nnI _) (by exact lit r2 (.add N1 V0) (.num 1073741824) [(0,1,V1,.num 10),(1,1,V0,V1)] rfl hm' hi') fun J3 e3=>?_
  refine ⟨by exact (fun h_=>lif r1 [(2,1,.add V0 N1,N0),(0,1,N0,V0)] rfl h_ (nnI _)),?_⟩
  obtain ⟨ws,hw1,hw2⟩:=hgq.ext e3
  have hwl:=hw2.length
  have c1:=yw (a:=jq ns (1+i)) (b:=(i:Int)+1) (by exact lit r1 N0 (.add V0 N1) [(0,1,N0,V0)] rfl (nnI _))
  have fin:∀ ah:Int,0<=ah->ah<=i->(qt (zkY (loc 5) (zau (zd (loc 6) (zd (zT (qw (zd (loc 3) (zd (zaL (loc 12) (val (.int 1))) zv))) (zre (qk .gt (loc 12) (val (.int 0))))) zv)))):SW)
    [some (.ref s),some (.int L),some (.int first),some (.int m),some (.bool line),some (.ref g),some (.int i),o7,o8,o9,o10,some (.int (jq ns (1+i))),some (.int ah),o13,o14,o15] J3 K' noP:=by
   intro ah h0 h1
   simp only [jD,zgI,zaY,zC,zM,qv,jp,yK,zls,qA,zu,z1,zj,zk,zg,ze,zn,Cmp.run,kaj,kaD]
   rw [zcx hw1]
   refine ⟨trivial,by simp [lim],zi fun l J4 hl e4 hv4=>?_⟩
   refine ⟨by split<;>decide,?_⟩
   refine qm hv4 ?_
   have go:∀ b:Int,(b=m\/(0<=b/\b<i))->yT (.tup [.int i,.int b]) J4 (fun vb J2=>qG J2 g fun xs=>xs.length<lim/\K' .next [some (.ref s),some (.int L),some (.int first),some (.int m),some (.bool line),some (.ref g),some (.int i),o7,o8,o9,o10,some (.int (jq ns (1+i))),some (.int ah),o13,o14,o15] (put J2 g (.list (xs++[vb])))):=by
    intro b hb
    refine zi fun t J5 ht e5 hv5=>?_
    refine zI (e5 _ _ (e4 _ _ hw1)) ?_
    refine ⟨by unfold lim;exact ltN (lit r4 V0 (.num 1000000) [(0,1,V1,.num 10),(2,1,V2,V3),(1,1,V3,V1),(2,1,V0,V2)] rfl hm' (eqI hql) hi' (eqI hwl)),hK .next _ _ ⟨_,_,_,_,rfl,?_,zS.push (e5 _ _ (e4 _ _ hw1)) ((hw2.ext e4).ext e5) hv5,by simp [hql],fun p hp=>?_,fun k h0 hk=>?_⟩⟩
    ·exact ((e.trans e3).trans (e4.trans e5)).put hg _
    ·rcases kaq.mp hp with hp | hp
     ·exact hokq p hp
     ·simp only [kac] at hp;subst hp
      exact zsk hm ‹_› hb
    ·by_cases hki:k=i
     ·subst hki
      refine .bwd (b:=b) ?_ (by simp)
      rcases hb with rfl | hb
      ·exact .refl
      ·exact (hre b hb.1 hb.2).mono fun p hp=>by simp [hp]
     ·exact (hre k h0 (by exact (yN (lin r2 V0 V1 [(1,1,V0,.add V1 N1)] rfl hk) hki))).mono fun p hp=>by simp [hp]
   by_cases hah:ah>0
   ·simp only [hah,decide_true,if_true]
    exact ⟨by first | exact kal rfl | simp [lim],go (ah - 1) (.inr (by exact ⟨lin r1 N0 (.sub V0 N1) [(1,1,N0,V0)] rfl hah,lit r2 (.sub V0 N1) V1 [(0,1,V0,V1)] rfl h1⟩))⟩
   ·simp only [hah,decide_false,kak,if_false]
    exact ⟨by first | exact kal rfl | simp [lim],go m (.inl rfl)⟩
  simp only [qr,zam,zaU,qA,jv,yy,zu,z1,zj,zk,ze,zn,Cmp.run]
  split
  ·refine ⟨by decide,?_⟩
   split
   ·refine ⟨⟨by decide,zba (by decide)⟩,by decide,?_⟩
    split
    ·exact fin i (by exact nnI _) (by exact lin r1 V0 V0 [] rfl)
    ·exact fin _ c1.1 (by exact lin r2 V0 V1 [(1,1,V0,.add V1 N1)] rfl c1.2)
   ·exact fin _ c1.1 (by exact lin r2 V0 V1 [(1,1,V0,.add V1 N1)] rfl c1.2)
  ·exact fin _ c1.1 (by exact lin r2 V0 V1 [(1,1,V0,.add V1 N1)] rfl c1.2)
 ·rintro Z J' ⟨qs,o6,o11,o12,rfl,hcj⟩
  have e:=hcj.1;have hgq:=hcj.2.1;have hql:=hcj.2.2.1;have hokq:=hcj.2.2.2.1;have hre:=hcj.2.2.2.2;clear hcj
  rw [qx] at hql
  refine ⟨trivial,?_⟩
  simp only
  have hlm:(qs.length:Int)=m:=by exact liq r3 V0 V1 [(2,1,V0,V2),(2,1,V2,V1)] rfl (eqI hql) (tnn (hm))
  exact ztd h ⟨e,hs,hg,hgq,hm,hm',hlm,hokq,fun k h0 hk=>hre k h0 (by rw [qx];exact Mine.lt_toNat ‹_›)⟩ hq
noncomputable def zlh(L:Int):Int:=if L=0 then 5 else if L=1 then 7 else 10
theorem znE(h:zc2 T){Q:V->zc->Prop}(hs:jE J s ns)(hL0:0<=L)(hL:L<=3)
  (hq:∀ t c J' m qs,Ext J J'->J' t=some (.tup [.int m,.ref c])->zS J' c qs->Net m qs->m<=zlh L->(L=0->m=(jq ns 0).fmod 6)->J c=none->Q (.ref t) J') :
  zp T (d+2) "_law_net" [.ref s,.int L] J Q P:=by
 refine h.net (d+1) _ _ _ _ rfl ?_
 simp only [zcm,zD,qh,jv,zL,zC,zM,zu,z1,qd,qf,qc,zj,zk]
 refine qn h.cell hs (by exact nnI _) (by exact nnI _) fun J1 e1=>?_
 have hs1:=hs.ext e1
 generalize jq ns 0=first at hq ⊢
 have z6:=yw (a:=first) (b:=6) (by exact nnI _)
 simp only [ze,zw,zx,zu,zj,zk,zam,qA,jv,yy,z1,Cmp.run,zn]
 refine ⟨by decide,⟨by decide,zba (by decide)⟩,by decide,?_⟩
 have fin:∀ m J2 (b:Bool),Ext J1 J2->0<=m->m<=zlh L->(L=0->m=first.fmod 6)->zaD T (d+1) [some (.ref s),some (.int L),some (.int first),some (.int m),some (.bool b),none,none,none,none,none,none,none,none,none,none,none] J2 (fun o x J'=>Q (match o with | .ret v=>v | .next=>.none) J') P:=by
  intro m J2 b e2 h0 h1 h2
  refine zte h (hs1.ext e2) h0 (by unfold zlh at h1;split at h1<;>(try split at h1)<;>(first | assumption | exact lin r1 V0 (.num 10) [(0,1,V0,.num 5)] rfl h1 | exact lin r1 V0 (.num 10) [(0,1,V0,.num 7)] rfl h1)) fun t c J' qs Z e3 ht hc hn hcn=>?_
  exact hq t c J' m qs ((e1.trans e2).trans e3) ht hc hn h1 h2 ((e1.trans e2).none hcn)
 have five:(5:Int)<=zlh L:=by unfold zlh;split<;>(try split)<;>decide
 split
 ·simp only [qr,zaU,zu,zj,zk,zn]
  split
  ·rename_i hLp
   simp only [qh,q9,jv,yy,qv,jp,zC,zM,zu,z1,zj,zk,ze,zx,zw,kaj,kaD]
   refine ⟨⟨by decide,zba (by decide)⟩,by simp [lim],zi fun l J2 hl e2 hv2=>?_⟩
   refine ⟨hL0,?_⟩
   refine qm hv2 ?_
   have hLp':L>0:=by simpa using hLp
   have:L=1\/L=2\/L=3:=by lia
   rcases this with rfl | rfl | rfl
   ·refine ⟨by decide,?_⟩
    have:=yw (a:=first.fdiv 48) (b:=2) ‹_›
    exact fin _ _ _ e2 (by exact lin r1 N0 (.add (.num 6) V0) [(0,1,N0,V0)] rfl this.1) (by simp [zlh];exact lin r1 (.add (.num 6) V0) (.num 7) [(1,1,V0,.num 2)] rfl this.2) (fun h=>absurd h (by decide))
   ·refine ⟨by decide,?_⟩
    have:=yw (a:=first.fdiv 48) (b:=5) (by exact nnI _)
    exact fin _ _ _ e2 (by exact lin r1 N0 (.add (.num 6) V0) [(0,1,N0,V0)] rfl this.1) (by simp [zlh];exact lin r1 (.add (.num 6) V0) (.num 10) [(1,1,V0,.num 5)] rfl this.2) (fun h=>absurd h (by decide))
   ·refine ⟨by decide,?_⟩
    have:=yw (a:=first.fdiv 48) (b:=5) (by exact nnI _)
    exact fin _ _ _ e2 (by exact lin r1 N0 (.add (.num 6) V0) [(0,1,N0,V0)] rfl this.1) (by simp [zlh];exact lin r1 (.add (.num 6) V0) (.num 10) [(1,1,V0,.num 5)] rfl this.2) (fun h=>absurd h (by decide))
  ·exact fin _ _ _ .refl z6.1 (by exact lin r2 V0 V1 [(1,1,V0,.num 6),(0,1,.num 5,V1)] rfl z6.2 five) fun _=>rfl
 ·exact fin _ _ _ .refl z6.1 (by exact lin r2 V0 V1 [(1,1,V0,.num 6),(0,1,.num 5,V1)] rfl z6.2 five) fun _=>rfl
theorem zoX(h:zc2 T){Q:V->zc->Prop}(hs:jE J s ns)(hL0:0<=L)(hL:L<=3)
  (hq:∀ t c J' m qs,Ext J J'->J' t=some (.tup [.int m,.ref c])->zS J' c qs->Net m qs->m<=zlh L->J c=none->Q (.ref t) J') :
  zp T (d+2) "_law_net" [.ref s,.int L] J Q P :=
 znE h hs hL0 hL fun t c J' m qs a b x y z _ w=>hq t c J' m qs a b x y z w
end
end Mine
end
section
namespace Mine
noncomputable abbrev Row:=Nat->Int
noncomputable def Ex(l:Row->Int)(g:List Row->Int):List Row->Int
 | []=>0
 | r::rs=>l r*g rs - Ex l (fun t=>g (r::t)) rs
noncomputable def ev(c:Nat):Row->Int:=fun r=>r c
noncomputable def det:List Nat->List Row->Int
 | [],[]=>1
 | [],_::_=>0
 | c::cs,rows=>Ex (ev c) (det cs) rows
theorem qL(c cs rows):det (c::cs) rows=Ex (ev c) (det cs) rows:=by cases rows<;>rfl
theorem rnA(p a g b h e f:Int):p*(a*g+b*h) - (a*e+b*f)=a*(p*g - e)+b*(p*h - f):=rn (@r7 p a g b h e f) (.sub (.mul (.var 0) (.add (.mul (.var 1) (.var 2)) (.mul (.var 3) (.var 4)))) (.add (.mul (.var 1) (.var 5)) (.mul (.var 3) (.var 6)))) (.add (.mul (.var 1) (.sub (.mul (.var 0) (.var 2)) (.var 5))) (.mul (.var 3) (.sub (.mul (.var 0) (.var 4)) (.var 6)))) rfl
theorem zmw(l:Row->Int)(a b:Int):∀ (rows:List Row) (g h:List Row->Int),Ex l (fun t=>a*g t+b*h t) rows=a*Ex l g rows+b*Ex l h rows:=by
 intro rs_
 induction rs_ with
 | nil =>
  intro g h
  simp [Ex]
 | cons r rs ih_ =>
  intro g h
  simp only [Ex]
  rw [ih_ (fun t=>g (r::t)) (fun t=>h (r::t))]
  exact rnA ..
theorem zpD{l:Row->Int}{g h:List Row->Int}(e:∀ t,g t=h t)(rows:List Row):Ex l g rows=Ex l h rows:=by rw [funext e]
theorem zmv(l:Row->Int)(a:Int)(rows:List Row)(g:List Row->Int):Ex l (fun t=>a*g t) rows=a*Ex l g rows:=by
 have:=zmw l a 0 rows g g
 simpa using this
theorem zrG(c d:Row->Int):∀ (rows:List Row) (g:List Row->Int),Ex c (Ex d g) rows=- Ex d (Ex c g) rows:=by
 intro rs_
 induction rs_ with
 | nil =>
  intro g
  simp [Ex]
 | cons r rs ih_ =>
  intro g
  have key:∀ (c d:Row->Int),Ex c (Ex d g) (r::rs)=c r*Ex d g rs - d r*Ex c g rs+Ex c (Ex d (fun t=>g (r::t))) rs:=by
   intro c d
   show c r*Ex d g rs - Ex c (fun t=>d r*g t - Ex d (fun t'=>g (r::t')) t) rs=_
   have:=zmw c (d r) (-1) rs g (Ex d (fun t'=>g (r::t')))
   rw [show (fun t=>d r*g t - Ex d (fun t'=>g (r::t')) t)=(fun t=>d r*g t+(-1)*Ex d (fun t'=>g (r::t')) t) from funext fun t=>by exact liq r2 (.sub V0 V1) (.add V0 (.mulL (-1) V1)) [] rfl,this]
   exact liq r3 (.sub V0 (.add V1 (.mulL (-1) V2))) (.add (.sub V0 V1) V2) [] rfl
  rw [key c d,key d c,ih_]
  exact liq r3 (.add (.sub V0 V1) (.neg V2)) (.neg (.add (.sub V1 V0) V2)) [] rfl
theorem zib(c d:Nat)(cs:List Nat)(rows:List Row):det (c::d::cs) rows=- det (d::c::cs) rows:=by
 rw [qL,qL,show det (d::cs)=Ex (ev d) (det cs) from funext fun t=>qL ..,show det (c::cs)=Ex (ev c) (det cs) from funext fun t=>qL ..]
 exact zrG _ _ _ _
theorem zm7(k:Int){cs cs':List Nat}(h:∀ rows,det cs rows=k*det cs' rows):∀ (p:List Nat) (rows:List Row),det (p++cs) rows=k*det (p++cs') rows:=by
 intro p_
 induction p_ with
 | nil =>
  intro rows
  exact h rows
 | cons c p ih_ =>
  intro rows
  rw [kaI,kaI,qL,qL,zpD (ih_),zmv]
theorem zgV(p:List Nat)(c d:Nat)(cs:List Nat)(rows:List Row):det (p++c::d::cs) rows=- det (p++d::c::cs) rows:=by
 have:=zm7 (-1) (cs:=c::d::cs) (cs':=d::c::cs) (fun rows=>by rw [zib];exact liq r1 (.neg V0) (.mulL (-1) V0) [] rfl) p rows
 rw [this];exact liq r1 (.mulL (-1) V0) (.neg V0) [] rfl
theorem zp2(a b:Nat)(q:List Nat):∀ (m p:List Nat) (rows:List Row),det (p++a::(m++b::q)) rows=- det (p++b::(m++a::q)) rows:=by
 intro m_
 induction m_ with
 | nil =>
  intro p rows
  exact zgV p a b q rows
 | cons x m ih_ =>
  intro p rows
  have h1:=zgV p a x (m++b::q) rows
  have h2:=ih_ (p++[x]) rows
  have h3:=zgV p x b (m++a::q) rows
  simp only [kaQ,kb8,kaI,kbM] at h1 h2 h3 ⊢
  exact liq r4 V0 (.neg V1) [(2,1,V0,.neg V2),(2,1,V3,.neg V1),(2,-1,V2,.neg V3)] rfl h1 h3 h2
theorem znO(a:Nat)(p m q:List Nat)(rows:List Row):det (p++a::(m++a::q)) rows=0:=by
 have:=zp2 a a q m p rows
 lia
theorem zph(j:Nat):∀ (cs:List Nat) (rows:List Row),det (cs++[j]) rows=(-1) ^ cs.length*det (j::cs) rows:=by
 intro cs_
 induction cs_ with
 | nil =>
  intro rows
  simp
 | cons c cs ih_ =>
  intro rows
  have h1:det (c::(cs++[j])) rows=(-1) ^ cs.length*det (c::j::cs) rows:=by
   have:=zm7 ((-1) ^ cs.length) (cs:=cs++[j]) (cs':=j::cs) (ih_) [c] rows
   simpa using this
  rw [kaI,h1,zib c j,kaj,kcI]
  exact rn r2 (.mul (.var 0) (.neg (.var 1))) (.mul (.mul (.var 0) (.num (-1))) (.var 1)) rfl

def RL(g:List Row->Int):Prop:=∀ xs a u b v ys,g (xs++(fun j=>a*u j+b*v j)::ys)=a*g (xs++u::ys)+b*g (xs++v::ys)
def RA(g:List Row->Int):Prop:=∀ xs u ys,g (xs++u::u::ys)=0
theorem RL.cons{g}(h:RL g)(x:Row):RL (fun t=>g (x::t)):=fun xs a u b v ys=>h (x::xs) a u b v ys
theorem RA.cons{g}(h:RA g)(x:Row):RA (fun t=>g (x::t)):=fun xs u ys=>h (x::xs) u ys
theorem ztw{l:Row->Int}(hl:∀ a u b v,l (fun j=>a*u j+b*v j)=a*l u+b*l v):∀ (xs:List Row) {g:List Row->Int} (h:RL g) (a u b v ys),
  Ex l g (xs++(fun j=>a*u j+b*v j)::ys)=a*Ex l g (xs++u::ys)+b*Ex l g (xs++v::ys):=by
 intro xs_
 induction xs_ with
 | nil =>
  intro g h a u b v ys
  simp only [kbM,Ex]
  have e:(fun t=>g ((fun j=>a*u j+b*v j)::t))=fun t=>a*g (u::t)+b*g (v::t):=funext fun t=>h [] a u b v t
  rw [e,zmw l a b ys (fun t=>g (u::t)) (fun t=>g (v::t)),hl]
  exact rn r7 (.sub (.mul (.add (.mul (.var 0) (.var 1)) (.mul (.var 2) (.var 3))) (.var 4)) (.add (.mul (.var 0) (.var 5)) (.mul (.var 2) (.var 6)))) (.add (.mul (.var 0) (.sub (.mul (.var 1) (.var 4)) (.var 5))) (.mul (.var 2) (.sub (.mul (.var 3) (.var 4)) (.var 6)))) rfl
 | cons x xs ih_ =>
  intro g h a u b v ys
  simp only [kaI,Ex]
  rw [h xs a u b v ys,ih_ (h.cons x) a u b v ys]
  exact rnA ..
theorem ztx{l:Row->Int}:∀ (xs:List Row) {g:List Row->Int} (h:RA g) (u ys),Ex l g (xs++u::u::ys)=0:=by
 intro xs_
 induction xs_ with
 | nil =>
  intro g h u ys
  simp only [kbM,Ex]
  have e:(fun t=>g (u::u::t))=fun t=>0*g t:=funext fun t=>by rw [show g (u::u::t)=0 from h [] u t];exact liq r1 N0 (.mulL 0 V0) [] rfl
  rw [e,zmv]
  exact liq r2 (.sub V0 (.sub V0 (.mulL 0 V1))) N0 [] rfl
 | cons x xs ih_ =>
  intro g h u ys
  simp only [kaI,Ex]
  rw [h xs u ys,ih_ (h.cons x) u ys]
  exact liq r1 (.sub (.mulR V0 0) N0) N0 [] rfl
theorem zsz(c:Nat)(a:Int)(u:Row)(b:Int)(v:Row):ev c (fun j=>a*u j+b*v j)=a*ev c u+b*ev c v:=rfl
theorem zbf:∀ cs,RL (det cs)
 | []=>fun xs a u b v ys=>by cases xs<;>simp [det]
 | c::cs=>fun xs a u b v ys=>by
  rw [qL,qL,qL]
  exact ztw (zsz c) xs (zbf cs) a u b v ys
theorem zhp:∀ cs,RA (det cs):=by
 intro cs_
 induction cs_ with
 | nil =>
  exact fun xs u ys=>by cases xs<;>simp [det]
 | cons c cs ih_ =>
  exact fun xs u ys=>by rw [qL];exact ztx xs (ih_) u ys
theorem RL.add{g}(h:RL g)(xs u v ys):g (xs++(fun j=>u j+v j)::ys)=g (xs++u::ys)+g (xs++v::ys):=by
 have:=h xs 1 u 1 v ys
 simpa using this
theorem zoO{g}(h:RL g)(h':RA g)(xs u v ys):g (xs++u::v::ys)=- g (xs++v::u::ys):=by
 have h1:=h' xs (fun j=>u j+v j) ys
 rw [h.add xs u v] at h1
 have h2:=h.add (xs++[u]) u v ys
 have h3:=h.add (xs++[v]) u v ys
 simp only [kaQ,kb8] at h2 h3
 rw [h2,h3,h' xs u ys,h' xs v ys] at h1
 exact liq r2 V0 (.neg V1) [(2,1,.add (.add N0 V0) (.add V1 N0),N0)] rfl h1
theorem zhc{g}(h:RL g)(h':RA g)(u ys):∀ (m xs:List Row),g (xs++u::(m++u::ys))=0:=by
 intro m_
 induction m_ with
 | nil =>
  intro xs
  exact h' xs u ys
 | cons x m ih_ =>
  intro xs
  rw [kaI,zoO h h' xs u x]
  have:=ih_ (xs++[x])
  simp only [kaQ,kb8] at this
  exact liq r1 (.neg V0) N0 [(2,-1,V0,N0)] rfl this
theorem zsg{g}(h:RL g)(h':RA g)(xs u m v ys):g (xs++u::(m++v::ys))=- g (xs++v::(m++u::ys)):=by
 have h1:=zhc h h' (fun j=>u j+v j) ys m xs
 rw [h.add xs u v] at h1
 have h2:=h.add (xs++u::m) u v ys
 have h3:=h.add (xs++v::m) u v ys
 simp only [kaQ,kaI] at h2 h3
 rw [h2,h3,zhc h h' u,zhc h h' v] at h1
 exact liq r2 V0 (.neg V1) [(2,1,.add (.add N0 V0) (.add V1 N0),N0)] rfl h1
theorem zi3{g}(h:RL g)(h':RA g){u:Row}{xs ys:List Row}(hu:u∈xs):g (xs++u::ys)=0:=by
 obtain ⟨p,q,rfl⟩:=kcj hu
 rw [kaQ,kaI]
 exact zhc h h' u ys q p

theorem rnB(a b c:Int):a*b - c=b*a + -1*c:=rn (@r3 a b c) (.sub (.mul (.var 0) (.var 1)) (.var 2)) (.add (.mul (.var 1) (.var 0)) (.mul (.neg (.num 1)) (.var 2))) rfl
theorem ztV{L:Row->Int}(hL:∀ a u b v,L (fun j=>a*u j+b*v j)=a*L u+b*L v):∀ (rows:List Row) (g:List Row->Int),L (fun j=>Ex (ev j) g rows)=Ex L g rows:=by
 intro rs_
 induction rs_ with
 | nil =>
  intro g
  have:=hL 0 (fun _=>0) 0 (fun _=>0)
  simp only [Ex]
  simpa using this
 | cons r rs ih_ =>
  intro g
  have:=hL (g rs) r (-1) (fun j=>Ex (ev j) (fun t=>g (r::t)) rs)
  rw [ih_] at this
  have e:(fun j=>Ex (ev j) g (r::rs))=fun j=>g rs*r j + -1*Ex (ev j) (fun t=>g (r::t)) rs:=funext fun j=>by
   exact rnB (r j) ..
  rw [e,this]
  exact (rnB ..).symm
theorem zrF{L:Row->Int}(x:Row):∀ (xs:List Row) (g:List Row->Int),(∀ r∈xs,L r=0)->Ex L g (xs++[x])=(-1) ^ xs.length*(L x*g xs):=by
 intro xs_
 induction xs_ with
 | nil =>
  intro g _
  simp [Ex]
 | cons r xs ih_ =>
  intro g h
  simp only [kaI,Ex]
  rw [ih_ _ fun r' hr'=>h r' (by simp [hr']),h r (by simp),kaj,kcI]
  exact rn r3 (.sub (.mul (.num 0) (.var 0)) (.mul (.var 1) (.var 2))) (.mul (.mul (.var 1) (.num (-1))) (.var 2)) rfl
theorem znH(k:Nat):((-1:Int) ^ k)*(-1) ^ k=1:=by
 induction k with
 | zero=>rfl
 | succ k ih=>rw [kcI];exact (rn r1 (.mul (.mul (.var 0) (.num (-1))) (.mul (.var 0) (.num (-1)))) (.mul (.var 0) (.var 0)) rfl).trans ih

theorem zrE{l:Row->Int}:∀ (vs:List Row) (g:List Row->Int),(∀ v∈vs,l v=0)->Ex l g vs=0:=by
 intro vs_
 induction vs_ with
 | nil =>
  intro g _
  exact rfl
 | cons v vs ih_ =>
  intro g h
  simp only [Ex]
  rw [h v (by simp),ih_ _ fun v' hv'=>h v' (by simp [hv'])]
  exact liq r1 (.sub (.mulL 0 V0) N0) N0 [] rfl
theorem zk0{l:Row->Int}{vs:List Row}(hv:∀ v∈vs,l v=0)(K:Int):∀ (xs:List Row) (g f:List Row->Int),(∀ t,t.length+1=xs.length->g (t++vs)=f t*K)->Ex l g (xs++vs)=Ex l f xs*K:=by
 intro xs_
 induction xs_ with
 | nil =>
  intro g f _
  simp [Ex,zrE vs g hv]
 | cons x xs ih_ =>
  intro g f h
  simp only [kaI,Ex]
  rw [h xs rfl,ih_ (fun t=>g (x::t)) (fun t=>f (x::t)) fun t ht=>h (x::t) (by simp [ht])]
  exact rn r4 (.sub (.mul (.var 0) (.mul (.var 1) (.var 2))) (.mul (.var 3) (.var 2))) (.mul (.sub (.mul (.var 0) (.var 1)) (.var 3)) (.var 2)) rfl
theorem znP(cs2:List Nat)(vs:List Row):∀ (cs1:List Nat) (xs:List Row),xs.length=cs1.length->(∀ v∈vs,∀ c∈cs1,v c=0)->det (cs1++cs2) (xs++vs)=det cs1 xs*det cs2 vs:=by
 intro cs1_
 induction cs1_ with
 | nil =>
  intro xs hl _
  have:xs=[]:=kbF.mp hl
  subst this;simp [det]
 | cons c cs1 ih_ =>
  intro xs hl h
  rw [kaI,qL,qL]
  refine zk0 (fun v hv=>h v hv c (by simp)) _ xs _ _ fun t ht=>?_
  exact ih_ t (by simp at hl;exact eqN (liq r3 V0 V1 [(2,1,V2,.add V1 N1),(2,1,.add V0 N1,V2)] rfl (eqI hl) (eqI ht))) fun v hv c' hc'=>h v hv c' (by simp [hc'])
theorem zpF{l:Row->Int}{u v:Row}(h:l u=l v):∀ (xs:List Row) (g:List Row->Int) (ys),(∀ a b,g (a++u::b)=g (a++v::b))->Ex l g (xs++u::ys)=Ex l g (xs++v::ys):=by
 intro xs_
 induction xs_ with
 | nil =>
  intro g ys hg
  simp only [kbM,Ex,h]
  rw [show (fun t=>g (u::t))=fun t=>g (v::t) from funext fun t=>hg [] t]
 | cons x xs ih_ =>
  intro g ys hg
  simp only [kaI,Ex]
  rw [hg xs ys,ih_ (fun t=>g (x::t)) ys fun a b=>hg (x::a) b]
theorem zeE{u v:Row}:∀ (cs:List Nat),(∀ c∈cs,u c=v c)->∀ xs ys,det cs (xs++u::ys)=det cs (xs++v::ys):=by
 intro cs_
 induction cs_ with
 | nil =>
  intro _ xs ys
  cases xs<;>simp [det]
 | cons c cs ih_ =>
  intro h xs ys
  rw [qL,qL]
  exact zpF (h c (by simp)) xs _ ys fun a b=>ih_ (fun c' hc'=>h c' (by simp [hc'])) a b
theorem zkR{u:Row}{cs:List Nat}(h:∀ c∈cs,u c=0)(xs ys):det cs (xs++u::ys)=0:=by
 have h1:=zeE (u:=u) (v:=fun j=>0*u j+0*u j) cs (fun c hc=>by simp [h c hc]) xs ys
 rw [h1,zbf cs];exact liq r1 (.add (.mulL 0 V0) (.mulL 0 V0)) N0 [] rfl
theorem zsL(l:Row->Int)(φ:Row->Row):∀ (rows:List Row) (g:List Row->Int),Ex l g (rows.map φ)=Ex (fun r=>l (φ r)) (fun t=>g (t.map φ)) rows:=by
 intro rs_
 induction rs_ with
 | nil =>
  intro g
  exact rfl
 | cons r rs ih_ =>
  intro g
  simp only [kbq,Ex]
  rw [ih_]
theorem zm8(τ:Nat->Nat):∀ (cs:List Nat) (rows:List Row),det cs (rows.map fun r j=>r (τ j))=det (cs.map τ) rows
 | [],[]=>rfl
 | [],_::_=>rfl
 | c::cs,rows=>by
  rw [kbq,qL,qL,zsL,show (fun t:List Row=>det cs (t.map fun r j=>r (τ j)))=det (cs.map τ) from funext fun t=>zm8 τ cs t]
  rfl

theorem zpE{l:Row->Int}{B G:Nat}:∀ (rows:List Row) (g:List Row->Int),(∀ r∈rows,(l r).natAbs<=B)->(∀ t,(∀ x∈t,x∈rows)->t.length<=rows.length->(g t).natAbs<=G)->(Ex l g rows).natAbs<=rows.length*(B*G):=by
 intro rs_
 induction rs_ with
 | nil =>
  intro g _ _
  simp [Ex]
 | cons r rs ih_ =>
  intro g hb hg
  simp only [Ex]
  have h1:=ih_ (fun t=>g (r::t)) (fun x hx=>hb x (by simp [hx])) fun t ht htl=>hg (r::t) (fun x hx=>by
   rcases kad.mp hx with rfl | hx
   ·simp
   ·simp [ht x hx]) (by simp;assumption)
  have h2:(l r*g rs).natAbs<=B*G:=by
   rw [Int.natAbs_mul]
   exact Nat.mul_le_mul (hb r (by simp)) (hg rs (fun x hx=>by simp [hx]) (by simp))
  have h3:=Int.natAbs_sub_le (l r*g rs) (Ex l (fun t=>g (r::t)) rs)
  rw [kaj,Nat.succ_mul]
  exact leN (lin r5 V0 (.add V1 V2) [(0,1,V3,V1),(0,1,V4,V2),(0,1,V0,.add V4 V3)] rfl (leI h1) (leI h2) (leI h3))
theorem zcw{B N:Nat}:∀ (cs:List Nat) (rows:List Row),(∀ r∈rows,∀ c∈cs,(r c).natAbs<=B)->rows.length<=N->(det cs rows).natAbs<=(N*B) ^ cs.length
 | [],[],_,_=>by simp [det]
 | [],_::_,_,_=>by simp [det]
 | c::cs,rows,h,hn=>by
  rw [qL,kaj,Nat.pow_succ]
  have:=zpE (l:=ev c) (B:=B) (G:=(N*B) ^ cs.length) rows (det cs) (fun r hr=>h r hr c (by simp)) fun t ht htl =>
   zcw cs t (fun r hr c' hc'=>h r (ht r hr) c' (by simp [hc'])) (by exact kai ‹_› ‹_›)
  refine kai this ?_
  have h1:rows.length*(B*(N*B) ^ cs.length)<=N*(B*(N*B) ^ cs.length):=Nat.mul_le_mul_right _ hn
  have h2:N*(B*(N*B) ^ cs.length)=(N*B) ^ cs.length*(N*B):=by rw [<-Nat.mul_assoc,Nat.mul_comm]
  exact leN (lin r3 V0 V1 [(0,1,V0,V2),(2,1,V2,V1)] rfl (leI h1) (eqI h2))
noncomputable def Vk(k:Nat)(R:List Row)(x:Row):Row:=fun j=>det (kab k++[j]) (R.take k++[x])
noncomputable def pk(k:Nat)(R:List Row):Int:=det (kab k) (R.take k)
theorem zrA(R:List Row)(x:Row)(j:Nat):Vk 0 R x j=x j:=by simp [Vk,det,Ex,ev]
theorem zmJ(R:List Row):pk 0 R=1:=by simp [pk,det]
theorem zjF{k:Nat}(R:List Row)(x:Row){j:Nat}(hj:j<k):Vk k R x j=0:=by
 unfold Vk
 obtain ⟨p,q,hpq⟩:=kcj (kam.mpr hj)
 rw [hpq,kaQ,kaI]
 exact znO j p q [] _
theorem rnC{s a b c:Int}(h:s*s=1):s*(s*(a*b))+0*c=b*a:=by rw [<-kdg,h,kbP,kcn,kbb];exact kbr a b
theorem zjG{k:Nat}{R:List Row}(hk:k<=R.length){L:Row->Int}(hL:∀ a u b v,L (fun j=>a*u j+b*v j)=a*L u+b*L v)(h0:∀ r∈R.take k,L r=0)(x:Row):L (Vk k R x)=pk k R*L x:=by
 have e:Vk k R x=fun j=>(-1) ^ k*Ex (ev j) (det (kab k)) (R.take k++[x])+0*x j:=funext fun j=>by
  unfold Vk
  rw [zph,kbg,qL];exact liq r2 V0 (.add V0 (.mulL 0 V1)) [] rfl
 rw [e,hL ((-1) ^ k) (fun j=>Ex (ev j) (det (kab k)) (R.take k++[x])),ztV hL,zrF x (R.take k) _ h0,kcw,kc4 hk]
 have:=znH k
 unfold pk
 exact rnC this
theorem zcA{R:List Row}{k:Nat}(y:Row)(h:R[k]?=some y):R.take (k+1)=R.take k++[y]:=by
 rw [kaN,h];rfl
theorem zmK{R:List Row}{k:Nat}{y:Row}(h:R[k]?=some y):pk (k+1) R=Vk k R y k:=by
 unfold pk Vk
 rw [zcA y h,ka4]
theorem ztR(k j:Nat)(u v:Row):det [k,j] [u,v]=u k*v j - v k*u j:=by simp [det,Ex,ev]
theorem znr{R:List Row}{k:Nat}{y:Row}(h:R[k]?=some y)(x:Row)(j:Nat)(hp:pk k R≠0):Vk (k+1) R x j*pk k R=Vk k R x j*Vk k R y k - Vk k R x k*Vk k R y j:=by
 have hk:k<=R.length:=by have:=(kah.mp h).1;exact kby ‹_›
 have hR:(R.take k).length=k:=by rw [kcw];exact kc4 hk
 -- the same determinant twice
 have h1:det (kab k++[k,j]) (R.take k++[Vk k R y,Vk k R x])=pk k R*(Vk k R y k*Vk k R x j - Vk k R x k*Vk k R y j):=by
  rw [znP [k,j] [Vk k R y,Vk k R x] (kab k) (R.take k) (by rw [hR,kbg])]
  ·rw [ztR];rfl
  ·intro v hv c hc
   have hc':=kam.mp hc
   simp only [kad,kay,or_false] at hv
   rcases hv with rfl | rfl
   ·exact zjF R y hc'
   ·exact zjF R x hc'
 have lin:∀ (pre post:List Row) (a:Int) (u:Row) (b:Int) (v:Row),det (kab k++[k,j]) (pre++(fun j=>a*u j+b*v j)::post)=a*det (kab k++[k,j]) (pre++u::post)+b*det (kab k++[k,j]) (pre++v::post) :=
  fun pre post a u b v=>zbf _ pre a u b v post
 have h2:det (kab k++[k,j]) (R.take k++[Vk k R y,Vk k R x])=pk k R*det (kab k++[k,j]) (R.take k++[Vk k R y,x]):=by
  have:=zjG hk (L:=fun v=>det (kab k++[k,j]) ((R.take k++[Vk k R y])++v::[])) (fun a u b v=>lin _ _ a u b v) (fun r hr=>zi3 (zbf _) (zhp _) (kaq.mpr (.inl hr))) x
  simp only [kaQ] at this;exact this
 have h3:det (kab k++[k,j]) (R.take k++[Vk k R y,x])=pk k R*det (kab k++[k,j]) (R.take k++[y,x]):=by
  have:=zjG hk (L:=fun v=>det (kab k++[k,j]) (R.take k++v::[x])) (fun a u b v=>lin _ _ a u b v) (fun r hr=>zi3 (zbf _) (zhp _) hr) y
  exact this
 have h4:det (kab k++[k,j]) (R.take k++[y,x])=Vk (k+1) R x j:=by
  unfold Vk
  rw [zcA y h,ka4,kaQ,kaQ];rfl
 rw [h2,h3,h4] at h1
 have h5:pk k R*(Vk (k+1) R x j*pk k R)=pk k R*(Vk k R x j*Vk k R y k - Vk k R x k*Vk k R y j):=by
  rw [kbr (Vk (k+1) R x j),kbr (Vk k R x j)];exact h1
 exact kc9 hp h5

noncomputable def qo:List Nat->(Nat->Int)->Int
 | [],_=>0
 | c::cs,f=>f c+qo cs f
noncomputable def wg(c:Nat):Row:=fun j=>if j=c then 1 else 0
theorem zrn{cs:List Nat}(xs ys:List Row)(r:Row):∀ (ds:List Nat),det cs (xs++(fun j=>qo ds fun c=>r c*wg c j)::ys)=qo ds fun c=>r c*det cs (xs++wg c::ys):=by
 intro ds_
 induction ds_ with
 | nil =>
  have:=zkR (u:=fun j=>qo [] fun c=>r c*wg c j) (cs:=cs) (fun c _=>rfl) xs ys
  simpa [qo] using this
 | cons c ds ih_ =>
  have:=zbf cs xs (r c) (wg c) 1 (fun j=>qo ds fun c=>r c*wg c j) ys
  rw [ih_] at this
  simp only [qo]
  simpa using this
theorem wV{f:Nat->Int}:∀ {l:List Nat},(∀ c∈l,f c=0)->qo l f=0
 | [],_=>rfl
 | c::l,h=>by simp only [qo];rw [h c (by simp),wV fun c' hc'=>h c' (by simp [hc'])];decide
theorem zky(r:Row)(j:Nat)(ds:List Nat)(h:j∉ds):(qo ds fun c=>r c*wg c j)=0:=wV fun c hc=>by
 unfold wg;rw [if_neg fun e:j=c=>h (e▸hc),kb1]
theorem zhN(r:Row):∀ (ds:List Nat) (j:Nat),ds.Nodup->j∈ds->(qo ds fun c=>r c*wg c j)=r j:=by
 intro ds_
 induction ds_ with
 | nil =>
  intro j _ h
  simp at h
 | cons c ds ih_ =>
  intro j nd h
  simp only [qo]
  have nd':=kaM.mp nd
  by_cases hj:j=c
  ·subst hj
   rw [zky r j ds nd'.1];simp [wg]
  ·have hm:j∈ds:=by rcases kad.mp h with h | h;exact absurd h hj;exact h
   rw [ih_ j nd'.2 hm]
   simp [wg,hj]
theorem zro{cs:List Nat}(nd:cs.Nodup)(xs ys:List Row)(r:Row):det cs (xs++r::ys)=qo cs fun c=>r c*det cs (xs++wg c::ys):=by
 rw [<-zrn xs ys r cs]
 exact zeE cs (fun c hc=>(zhN r cs c nd hc).symm) xs ys
theorem zdT(f:Nat->Int):∀ (a b:List Nat),qo (a++b) f=qo a f+qo b f:=by
 intro a_
 induction a_ with
 | nil =>
  intro b
  simp [qo]
 | cons c a ih_ =>
  intro b
  simp only [kaI,qo,ih_ b];exact liq r3 (.add V0 (.add V1 V2)) (.add (.add V0 V1) V2) [] rfl
theorem j6{f g:Nat->Int}:∀ {l:List Nat},(∀ c∈l,f c=g c)->qo l f=qo l g
 | [],_=>rfl
 | c::l,h=>by simp only [qo];rw [h c (by simp),j6 fun c' hc'=>h c' (by simp [hc'])]
theorem zeQ{k n:Nat}(h:k<=n):∃ q,kab n=kab k++q/\∀ c∈q,k<=c/\c<n:=by
 refine ⟨(kab n).drop k,?_,fun c hc=>?_⟩
 ·have:=kb7 k (kab n)
  rw [List.take_range,kc4 h] at this
  exact this.symm
 ·obtain ⟨i,hi,hic⟩:=kaO hc
  rw [kdD,List.getElem_range] at hic
  rw [kbJ,kbg] at hi
  subst hic;exact ⟨kcC _ _,Nat.add_lt_of_lt_sub' hi⟩
theorem zb1(c:Nat)(cs:List Nat)(hc:c∉cs)(rows:List Row):det (c::cs) (wg c::rows)=det cs rows:=by
 rw [qL]
 simp only [Ex]
 have:(fun t=>det cs (wg c::t))=fun t=>0*det cs t:=funext fun t=>by
  have:=zkR (u:=wg c) (cs:=cs) (fun d hd=>by
   have:d≠c:=by rintro rfl;exact hc hd
   simp [wg,this]) [] t
  rw [kbM] at this
  rw [this];exact liq r1 N0 (.mulL 0 V0) [] rfl
 rw [this,zmv]
 simp [ev,wg]
theorem zmR{n i:Nat}(l:List Nat)(h:i∉l):l.map (fun j=>if j=i then n else j)=l:=by
 induction l with
 | nil=>rfl
 | cons a l ih =>
  have h:=not_or.mp (mt kad.mpr h)
  rw [kbq,ih h.2,if_neg (Ne.symm h.1)]
theorem zpJ(f:Nat->Int)(l:List Nat):(qo l fun i=>- f i)=- qo l f:=by
 induction l with
 | nil=>rfl
 | cons a l ih=>exact (congrArg (- f a + ·) ih).trans Int.neg_add.symm
theorem zp3{n:Nat}{rows:List Row}{r:Row}(hr:r∈rows):r n*det (kab n) rows=qo (kab n) fun i=>r i*det ((kab n).map fun j=>if j=i then n else j) rows:=by
 have hn:n∉kab n:=by simp
 have nd:(n::kab n).Nodup:=kaM.mpr ⟨hn,kbn⟩
 have h0:det (n::kab n) (r::rows)=0:=by
  obtain ⟨p,q,rfl⟩:=kcj hr
  exact zhc (zbf _) (zhp _) r q p []
 have h1:=zro nd [] rows r
 simp only [kbM] at h1
 rw [h0] at h1
 simp only [qo] at h1
 rw [zb1 n _ hn] at h1
 have h2:(qo (kab n) fun c=>r c*det (n::kab n) (wg c::rows))=qo (kab n) fun i=>- (r i*det ((kab n).map fun j=>if j=i then n else j) rows):=by
  refine j6 fun i hi=>?_
  have hin:=kam.mp hi
  obtain ⟨p,q,hpq⟩:=kcj hi
  have ndr:(p++i::q).Nodup:=by rw [<-hpq];exact kbn
  have hip:i∉p/\i∉q:=by
   rw [kbc] at ndr
   exact ⟨fun h=>ndr.2.2 i h i (by simp) rfl,(kaM.mp ndr.2.1).1⟩
  have e1:det (n::(p++i::q)) (wg i::rows)=- det (i::(p++n::q)) (wg i::rows):=by
   have:=zp2 n i q p [] (wg i::rows)
   simpa using this
  have e2:(p++i::q).map (fun j=>if j=i then n else j)=p++n::q:=by
   rw [ka9,kbq,if_pos rfl]
   rw [zmR p hip.1,zmR q hip.2]
  rw [hpq,e1,e2,zb1 i]
  ·exact Int.mul_neg _ _
  ·simp only [kaq,kad,not_or]
   exact ⟨hip.1,by exact (fun h_=>lif r2 [(1,1,V0,V1),(2,-1,V0,V1)] rfl (ltI hin) (eqI h_)),hip.2⟩
 rw [h2] at h1
 rw [zpJ fun i=>r i*det ((kab n).map fun j=>if j=i then n else j) rows] at h1
 exact liq r2 V0 V1 [(2,-1,N0,.add V0 (.neg V1))] rfl h1
noncomputable abbrev Rd2:=List (Int × Int)
noncomputable def ye(rs:Rd2):Rd2:=rs.flatMap fun p=>[(p.1,p.2),(p.2,p.1)]
noncomputable def jr:Rd2->(Int × Int->Int)->Int
 | [],_=>0
 | a::l,f=>f a+jr l f
theorem zdU(f):∀ (a b:Rd2),jr (a++b) f=jr a f+jr b f:=by
 intro a_
 induction a_ with
 | nil =>
  intro b
  simp [jr]
 | cons x a ih_ =>
  intro b
  simp only [kaI,jr,ih_ b];exact liq r3 (.add V0 (.add V1 V2)) (.add (.add V0 V1) V2) [] rfl
theorem rnE(x y f g h k:Int):x*f+y*g+(x*h+y*k)=x*(f+h)+y*(g+k):=by rw [kcL,kcL];exact liq r4 (.add (.add V0 V1) (.add V2 V3)) (.add (.add V0 V2) (.add V1 V3)) [] rfl
theorem zgO(x y:Int)(f g:Int × Int->Int):∀ l:Rd2,(jr l fun a=>x*f a+y*g a)=x*jr l f+y*jr l g:=by
 intro l_
 induction l_ with
 | nil =>
  simp [jr]
 | cons a l ih_ =>
  simp only [jr,ih_];exact rnE ..
theorem jO{f g:Int × Int->Int}:∀ {l:Rd2},(∀ a∈l,f a=g a)->jr l f=jr l g
 | [],_=>rfl
 | a::l,h=>by simp only [jr];rw [h a (by simp),jO fun b hb=>h b (by simp [hb])]
theorem zab{f g:Int × Int->Int}:∀ {l:Rd2},(∀ a∈l,f a<=g a)->jr l f<=jr l g
 | [],_=>by simp [jr]
 | a::l,h=>by
  simp only [jr]
  have h1:=h a (by simp)
  have h2:=zab (l:=l) fun b hb=>h b (by simp [hb])
  exact lin r4 (.add V0 V1) (.add V2 V3) [(0,1,V0,V2),(0,1,V1,V3)] rfl h1 h2
theorem zcs{f:Int × Int->Int}{l:Rd2}(h:∀ a∈l,f a=0):jr l f=0:=by
 rw [jO (g:=fun _=>0) h]
 induction l with
 | nil=>rfl
 | cons a l ih=>simp only [jr];rw [ih fun b hb=>h b (by simp [hb])];decide
theorem zc4{f:Int × Int->Int}:∀ {l:Rd2},(∀ a∈l,f a<=0)->0<=jr l f->∀ a∈l,f a=0
 | [],_,_,a,h=>by simp at h
 | b::l,h,h0,a,ha=>by
  simp only [jr] at h0
  have h1:=h b (by simp)
  have h2:=zab (l:=l) (f:=f) (g:=fun _=>0) fun c hc=>h c (by simp [hc])
  rw [zcs (l:=l) (f:=fun _=>0) fun _ _=>rfl] at h2
  rcases kad.mp ha with rfl | ha
  ·exact kaH (h1) (lin r2 N0 V0 [(0,1,V1,N0),(0,1,N0,.add V0 V1)] rfl h2 h0)
  ·exact zc4 (fun c hc=>h c (by simp [hc])) (by exact lin r2 N0 V0 [(0,1,N0,.add V1 V0),(0,1,V1,N0)] rfl h0 h1) a ha
theorem zbe{rs:Rd2}{a:Int × Int}:a∈ye rs ↔ a∈rs\/(a.2,a.1)∈rs:=by
 unfold ye
 simp only [List.mem_flatMap,kad,kay,or_false]
 constructor
 ·rintro ⟨p,hp,rfl | rfl⟩
  ·exact .inl hp
  ·exact .inr hp
 ·rintro (h | h)
  ·exact ⟨a,h,.inl rfl⟩
  ·exact ⟨_,h,.inr rfl⟩
noncomputable def tx(m:Int)(t:Nat->Int)(e:Int):Int:=if e<m then t e.toNat else 0
noncomputable def lap(m:Int)(rs:Rd2)(t:Nat->Int)(v:Nat):Int:=jr (ye rs) fun a=>if a.1=(v:Int) then t v - tx m t a.2 else 0
noncomputable def z4(rs:Rd2)(v:Nat):Int:=jr (ye rs) fun a=>if a.1=(v:Int) then 1 else 0
noncomputable def zbU(rs:Rd2)(v u:Nat):Int:=jr (ye rs) fun a=>if a.1=(v:Int) then (if u=v then 1 else 0) - (if a.2=(u:Int) then 1 else 0) else 0
theorem yD(m rs)(x y:Int)(f g:Nat->Int)(v:Nat):lap m rs (fun u=>x*f u+y*g u) v=x*lap m rs f v+y*lap m rs g v:=by
 unfold lap
 rw [<-zgO]
 refine jO fun a _=>?_
 have e:tx m (fun u=>x*f u+y*g u) a.2=x*tx m f a.2+y*tx m g a.2:=by
  unfold tx
  by_cases h2:a.2<m
  ·rw [if_pos h2,if_pos h2,if_pos h2]
  ·rw [if_neg h2,if_neg h2,if_neg h2];exact liq r2 N0 (.add (.mulR V0 0) (.mulR V1 0)) [] rfl
 rw [e]
 by_cases h:a.1=(v:Int)
 ·rw [if_pos h,if_pos h,if_pos h,kcz,kcz];exact liq r4 (.sub (.add V0 V1) (.add V2 V3)) (.add (.sub V0 V2) (.sub V1 V3)) [] rfl
 ·rw [if_neg h,if_neg h,if_neg h];exact liq r2 N0 (.add (.mulR V0 0) (.mulR V1 0)) [] rfl
theorem zhR{m rs}{f g:Nat->Int}{v:Nat}(hv:(v:Int)<m)(he:∀ p∈rs,(0<=p.1/\p.1<=m)/\(0<=p.2/\p.2<=m)/\p.1≠p.2)(h:∀ u:Nat,(u:Int)<m->f u=g u):lap m rs f v=lap m rs g v:=by
 unfold lap
 refine jO fun a ha=>?_
 have hr:0<=a.2:=by
  rcases zbe.mp ha with h | h
  ·exact (he _ h).2.1.1
  ·exact (he _ h).1.1
 rw [h v hv]
 have:tx m f a.2=tx m g a.2:=by
  unfold tx
  by_cases h2:a.2<m
  ·rw [if_pos h2,if_pos h2];exact h _ (by exact lit r3 V0 V1 [(1,1,V2,V1),(2,1,V0,V2)] rfl h2 (tnn (hr)))
  ·rw [if_neg h2,if_neg h2]
 rw [this]
theorem zkz(x y:Int)(f g:Nat->Int):∀ l:List Nat,(qo l fun a=>x*f a+y*g a)=x*qo l f+y*qo l g:=by
 intro l_
 induction l_ with
 | nil =>
  simp [qo]
 | cons a l ih_ =>
  simp only [qo,ih_];exact rnE ..
theorem zf2{f g:Nat->Int}:∀ {l:List Nat},(∀ a∈l,f a<=g a)->qo l f<=qo l g
 | [],_=>by simp [qo]
 | a::l,h=>by
  simp only [qo]
  have h1:=h a (by simp)
  have h2:=zf2 (l:=l) fun b hb=>h b (by simp [hb])
  exact lin r4 (.add V0 V1) (.add V2 V3) [(0,1,V0,V2),(0,1,V1,V3)] rfl h1 h2
theorem zoF(f g:Nat->Int)(l:List Nat):(qo l fun u=>f u - g u)=qo l f - qo l g:=by
 induction l with
 | nil=>rfl
 | cons a l ih=>simp only [qo];rw [ih];exact liq r4 (.add (.sub V0 V1) (.sub V2 V3)) (.sub (.add V0 V2) (.add V1 V3)) [] rfl
theorem zoE(f:Int × Int->Nat->Int)(t:Nat->Int)(ds:List Nat)(l:Rd2):(qo ds fun u=>(jr l fun a=>f a u)*t u)=jr l fun a=>qo ds fun u=>f a u*t u:=by
 induction l with
 | nil=>exact wV fun c _=>kcn _
 | cons a l ih =>
  simp only [jr];rw [<-ih,<-kbP (qo ds fun u=>f a u*t u),<-kbP (qo ds fun u=>(jr l fun a=>f a u)*t u),<-zkz]
  exact j6 fun u _=>by rw [kdz,kbP,kbP]
theorem ifc{p q:Prop}[Decidable p][Decidable q]{a b:Int}(h:p ↔ q):(if p then a else b)=if q then a else b:=by
 by_cases hq:q
 ·rw [if_pos hq,if_pos (h.mpr hq)]
 ·rw [if_neg hq,if_neg (mt h.mp hq)]
theorem zmM(t:Nat->Int)(m:Int)(k:Nat):(qo (kab m.toNat) fun u=>(if (k:Int)=(u:Int) then 1 else 0)*t u)=tx m t k:=by
 have e:(qo (kab m.toNat) fun u=>(if (k:Int)=(u:Int) then 1 else 0)*t u)=qo (kab m.toNat) fun u=>t u*wg u k:=j6 fun u _=>by
  rw [kbr];exact congrArg (t u * ·) (ifc kcy)
 rw [e];unfold tx
 by_cases h:(k:Int)<m
 ·rw [if_pos h];exact zhN t _ k kbn (kam.mpr (jW h))
 ·rw [if_neg h];exact zky t k _ fun h'=>h (ka0.mp (kam.mp h'))
theorem ziY{m:Int}{rs:Rd2}(he:∀ p∈rs,(0<=p.1/\p.1<=m)/\(0<=p.2/\p.2<=m)/\p.1≠p.2)(t:Nat->Int){v:Nat}(hv:(v:Int)<m):(qo (kab m.toNat) fun u=>zbU rs v u*t u)=lap m rs t v:=by
 refine (zoE (fun a u=>if a.1=(v:Int) then (if u=v then 1 else 0) - (if a.2=(u:Int) then 1 else 0) else 0) t _ _).trans (jO fun a ha=>?_)
 have h0:0<=a.2:=by
  rcases zbe.mp ha with h | h
  ·exact (he _ h).2.1.1
  ·exact (he _ h).1.1
 obtain ⟨x,y⟩:=a
 obtain ⟨k,rfl⟩:=kax h0
 dsimp only
 by_cases h:x=(v:Int)
 ·rw [if_pos h]
  have e:(qo (kab m.toNat) fun u=>(if x=(v:Int) then (if u=v then 1 else 0) - (if (k:Int)=(u:Int) then 1 else 0) else 0)*t u)=qo (kab m.toNat) fun u=>(if (v:Int)=(u:Int) then 1 else 0)*t u - (if (k:Int)=(u:Int) then 1 else 0)*t u:=j6 fun u _=>by
   rw [if_pos h,Int.sub_mul];exact congrArg (· * t u - _) (ifc (eq_comm.trans kcy.symm))
  rw [e,zoF,zmM,zmM];exact congrArg (· - tx m t k) (if_pos hv)
 ·rw [if_neg h]
  exact wV fun u _=>by rw [if_neg h,kcn]
theorem zdf(z:Nat->Int):∀ n:Nat,0<n->∃ v,v<n/\∀ u,u<n->z v<=z u
 | 0,h=>by exact lif (@r1 0) [(1,1,N0,N0)] rfl (ltI h)
 | 1,_=>⟨0,by assumption,fun u hu=>by
  have e:u=0:=by exact eqN (kaH (lin r1 V0 N0 [(1,1,V0,N1)] rfl (ltI hu)) ((nnI _)))
  subst e;exact kaW _⟩
 | n+2,_=>by
  obtain ⟨v,hv,h⟩:=zdf z (n+1) (by exact kal rfl)
  by_cases hc:z (n+1)<=z v
  ·exact ⟨n+1,by exact kaB _,fun u hu=>by
    by_cases e:u=n+1
    ·subst e;exact kaW _
    ·have:=h u (by exact ltN ((zaG (lin (@r2 (↑(u)) (↑(n))) V0 (.add V1 N1) [(1,1,V0,.add V1 (.num 2))] rfl (ltI hu)) e)));exact kbA ‹_› ‹_›⟩
  ·exact ⟨v,by exact ltN (lit (@r2 (↑(v)) (↑(n))) V0 (.add V1 (.num 2)) [(1,1,V0,.add V1 N1)] rfl (ltI hv)),fun u hu=>by
    by_cases e:u=n+1
    ·subst e;exact lin r2 V0 V1 [(3,1,V1,V0)] rfl hc
    ·exact h u (by exact ltN ((zaG (lin (@r2 (↑(u)) (↑(n))) V0 (.add V1 N1) [(1,1,V0,.add V1 (.num 2))] rfl (ltI hu)) e)))⟩
section
variable {m:Int} {rs:Rd2}
theorem Net.arc(n:Net m rs){a:Int × Int}(ha:a∈ye rs):(0<=a.1/\a.1<=m)/\(0<=a.2/\a.2<=m):=by
 rcases zbe.mp ha with h | h
 ·exact ⟨(n.ends _ h).1,(n.ends _ h).2.1⟩
 ·exact ⟨(n.ends _ h).2.1,(n.ends _ h).1⟩
theorem Net.arc_ne(n:Net m rs){a:Int × Int}(ha:a∈ye rs):a.1≠a.2:=by
 rcases zbe.mp ha with h | h
 ·exact (n.ends _ h).2.2
 ·exact fun e=>(n.ends _ h).2.2 e.symm
theorem Net.nowhere(n:Net m rs)(p:Int->Prop)(hp:¬ p m)(hc:∀ a∈ye rs,a.1<m->p a.1->p a.2):∀ k,0<=k->k<m->¬ p k:=by
 have hc':∀ a∈ye rs,p a.1->p a.2:=fun a ha h=>by
  by_cases e:a.1<m
  ·exact hc a ha e h
  ·have:=(n.arc ha).1
   have:a.1=m:=by exact kaH (this.2) (lin r2 V0 V1 [(4,1,V1,V0)] rfl e)
   rw [this] at h;exact absurd h hp
 intro k h0 hk
 have key:∀ {a b},yz rs a b->¬ p a->¬ p b:=by
  intro a b h
  induction h with
  | refl=>exact id
  | @fwd x y _ hm ih=>exact fun ha hb=>ih ha (hc' (y,x) (zbe.mpr (.inr hm)) hb)
  | @bwd x y _ hm ih=>exact fun ha hb=>ih ha (hc' (y,x) (zbe.mpr (.inl hm)) hb)
 exact key (n.conn k h0 hk) hp
theorem zsO(n:Net m rs){z:Nat->Int}(h:∀ v:Nat,(v:Int)<m->0<=z v\/0<=lap m rs z v):∀ v:Nat,(v:Int)<m->0<=z v:=by
 intro v hv
 obtain ⟨w,hw,hmin⟩:=zdf z m.toNat (by exact ltN (lit r3 N0 V0 [(1,1,V1,V2),(0,1,N0,V1),(2,-1,V0,V2)] rfl hv (nnI _) (tnn (lin r2 N0 V0 [(1,1,V1,V0),(0,1,N0,V1)] rfl hv (nnI _)))))
 by_cases hneg:0<=z w
 ·have:=hmin v (by exact Mine.jW ‹_›);exact kbA ‹_› ‹_›
 ·exfalso
  have hw':(w:Int)<m:=by exact (ka0.mp hw)
  refine n.nowhere (fun e=>tx m z e=z w) ?_ ?_ w (by exact nnI _) hw' ?_
  ·exact fun h_=>hneg (kdo ((if_neg (kbH m)).symm.trans h_))
  ·intro a ha ha1 hpa
   obtain ⟨k,hk⟩:=kax (n.arc ha).1.1
   rw [hk] at ha1 hpa
   have hza:z k=z w:=(if_pos ha1).symm.trans hpa
   have hle:∀ b∈ye rs,(if b.1=(k:Int) then z k - tx m z b.2 else 0)<=0:=by
    intro b hb
    split
    ·rw [hza];refine Int.sub_nonpos_of_le ?_
     obtain ⟨u,hu⟩:=kax (n.arc hb).2.1
     rw [hu];unfold tx;split
     ·exact hmin u (jW ‹_›)
     ·exact kaA (kcU.mp hneg)
    ·exact kaW 0
   have:=zc4 hle ((h k ha1).resolve_left (hza▸hneg)) a ha
   rw [if_pos hk] at this
   exact (kdp this).symm.trans hza
  ·exact if_pos hw'
theorem wL(n:Net m rs){z:Nat->Int}(h:∀ v:Nat,(v:Int)<m->0<=lap m rs z v):∀ v:Nat,(v:Int)<m->0<=z v:=zsO n fun v hv=>.inr (h v hv)
theorem zcL(z:Nat->Int)(v:Nat):lap m rs (fun u=>- z u) v=- lap m rs z v:=by
 have:=yD m rs (-1) 0 z z v
 have e:(fun u=>-1*z u+0*z u)=fun u=>- z u:=funext fun u=>by exact liq r1 (.add (.mulL (-1) V0) (.mulL 0 V0)) (.neg V0) [] rfl
 rw [e] at this;exact liq r2 V0 (.neg V1) [(2,1,V0,.add (.mulL (-1) V1) (.mulL 0 V1))] rfl this
theorem zmU(n:Net m rs){z:Nat->Int}(h:∀ v:Nat,(v:Int)<m->lap m rs z v=0):∀ v:Nat,(v:Int)<m->z v=0:=by
 intro v hv
 have h1:=wL n (z:=z) (fun v hv=>by rw [h v hv];decide) v hv
 have h2:=wL n (z:=fun u=>- z u) (fun v hv=>by rw [zcL,h v hv];decide) v hv
 exact kaH (lin r1 V0 N0 [(0,1,N0,.neg V0)] rfl h2) (h1)
noncomputable def jF(m:Int)(rs:Rd2):List Row:=(kab m.toNat).map fun v=>zbU rs v
noncomputable def D(m:Int)(rs:Rd2):Int:=det (kab m.toNat) (jF m rs)
noncomputable def zig(m:Int)(rs:Rd2)(b:Nat->Int)(v:Nat):Row:=fun u=>if u=m.toNat then b v else zbU rs v u
noncomputable def yG(m:Int)(rs:Rd2)(b:Nat->Int)(i:Nat):Int:=det ((kab m.toNat).map fun j=>if j=i then m.toNat else j) ((kab m.toNat).map (zig m rs b))
theorem zao{cs:List Nat}{ι:Type}{f g:ι->Row}:∀ (l:List ι) (pre:List Row),(∀ i∈l,∀ c∈cs,f i c=g i c)->det cs (pre++l.map f)=det cs (pre++l.map g)
 | [],pre,_=>rfl
 | i::l,pre,h=>by
  rw [kbq,kbq,zeE cs (fun c hc=>h i (by simp) c hc) pre (l.map f)]
  have:=zao (f:=f) (g:=g) l (pre++[g i]) fun j hj=>h j (by simp [hj])
  simpa using this
theorem zbI(n:Net m rs)(b:Nat->Int){v:Nat}(hv:(v:Int)<m):lap m rs (yG m rs b) v=D m rs*b v:=by
 have h:=zp3 (n:=m.toNat) (rows:=(kab m.toNat).map (zig m rs b)) (r:=zig m rs b v) (kau.mpr ⟨v,by simp;assumption,rfl⟩)
 have e1:zig m rs b v m.toNat=b v:=by simp [zig]
 have e2:det (kab m.toNat) ((kab m.toNat).map (zig m rs b))=D m rs:=by
  have:=zao (cs:=kab m.toNat) (f:=zig m rs b) (g:=fun v=>zbU rs v) (kab m.toNat) [] fun i _ c hc=>by
   have:=kam.mp hc
   have:¬ c=m.toNat:=by exact (fun h_=>lif r2 [(1,1,V0,V1),(2,-1,V0,V1)] rfl (ltI this) (eqI h_))
   simp [zig,this]
  exact this
 rw [e1,e2] at h
 rw [<-ziY n.ends _ hv,kbr,h]
 refine j6 fun u hu=>?_
 have:=kam.mp hu
 have:¬ u=m.toNat:=by exact (fun h_=>lif r2 [(1,1,V0,V1),(2,-1,V0,V1)] rfl (ltI this) (eqI h_))
 simp [zig,yG,this]
def Nn(m:Int)(t:Nat->Int):Prop:=∀ v:Nat,(v:Int)<m->0<=t v
def zrB(m:Int)(rs:Rd2)(h t:Nat->Int):Prop:=∀ v:Nat,(v:Int)<m->h v - lap m rs t v<z4 rs v
def ztG(m:Int)(rs:Rd2)(h t:Nat->Int):Prop:=∀ t',Nn m t'->zrB m rs h t'->∀ v:Nat,(v:Int)<m->t v<=t' v
theorem yY(t:Nat->Int)(v:Nat):lap m rs t v=z4 rs v*t v - jr (ye rs) fun a=>if a.1=(v:Int) then tx m t a.2 else 0:=by
 unfold lap z4
 generalize ye rs=l
 induction l with
 | nil=>simp [jr]
 | cons a l ih =>
  simp only [jr]
  rw [ih]
  by_cases h:a.1=(v:Int)
  ·rw [if_pos h,if_pos h,if_pos h,kdz,kbP];exact liq r4 (.add (.sub V0 V1) (.sub V2 V3)) (.sub (.add V0 V2) (.add V1 V3)) [] rfl
  ·rw [if_neg h,if_neg h,if_neg h,kaV,kaV,kaV]
theorem zgx(v:Nat):0<=z4 rs v:=by
 unfold z4
 have:=zab (l:=ye rs) (f:=fun _=>0) (g:=fun a=>if a.1=(v:Int) then 1 else 0) fun a _=>by split<;>decide
 rw [zcs fun _ _=>rfl] at this
 exact this
theorem zaB(n:Net m rs){v:Nat}(hv:(v:Int)<m):0<z4 rs v:=by
 by_cases h:0<z4 rs v
 ·exact h
 ·exfalso
  have h0:z4 rs v=0:=by have:=zgx (rs:=rs) v;exact kaH (lin r1 V0 N0 [(4,1,N0,V0)] rfl h) (this)
  refine n.nowhere (fun e=>e=(v:Int)) (by exact kbG ‹_›) (fun a ha _ ha1=>?_) v (by exact nnI _) hv rfl
  unfold z4 at h0
  have:jr (ye rs) (fun b=>- (if b.1=(v:Int) then 1 else 0))=0:=by
   have:=zgO (-1) 0 (fun b:Int × Int=>if b.1=(v:Int) then 1 else 0) (fun _=>0) (ye rs)
   rw [h0,kb1,kcn,kbb] at this
   refine (jO fun b _=>?_).trans this
   rw [kbb,kdy,kbP]
  have:=zc4 (l:=ye rs) (f:=fun b=>- (if b.1=(v:Int) then 1 else 0)) (fun b _=>by split<;>decide) (by exact lin r1 N0 V0 [(2,-1,V0,N0)] rfl this) a ha
  simp [ha1] at this
theorem zjt(n:Net m rs){t:Nat->Int}(ht:Nn m t)(v:Nat):0<=jr (ye rs) fun a=>if a.1=(v:Int) then tx m t a.2 else 0:=by
 have:=zab (l:=ye rs) (f:=fun _=>0) (g:=fun a=>if a.1=(v:Int) then tx m t a.2 else 0) fun a ha=>by
  have:=(n.arc ha).2
  split
  ·unfold tx;split
   ·exact ht _ (by exact lit r3 V0 V1 [(1,1,V2,V1),(2,1,V0,V2)] rfl ‹_› (tnn (this.1)))
   ·decide
  ·decide
 rw [zcs fun _ _=>rfl] at this
 exact this
theorem zq3(n:Net m rs){t t':Nat->Int}(ht:∀ v:Nat,(v:Int)<m->t v<=t' v)(v:Nat):(jr (ye rs) fun a=>if a.1=(v:Int) then tx m t a.2 else 0)<=jr (ye rs) fun a=>if a.1=(v:Int) then tx m t' a.2 else 0:=by
 refine zab fun a ha=>?_
 have:=(n.arc ha).2
 split
 ·unfold tx;split
  ·exact ht _ (by exact lit r3 V0 V1 [(1,1,V2,V1),(2,1,V0,V2)] rfl ‹_› (tnn (this.1)))
  ·decide
 ·decide
theorem zpi(v:Nat):∀ l:Rd2,(∀ p∈l,p.1≠p.2)->z4 l v<=l.length:=by
 intro l
 induction l with
 | nil=>intro _;simp [z4,ye,jr]
 | cons p l ih =>
  intro h
  have h1:=ih fun q hq=>h q (by simp [hq])
  have h2:=h p (by simp)
  unfold z4 ye at h1 ⊢
  simp only [kdF,kaI,kbM,jr,kaj]
  generalize jr (l.flatMap fun p=>[(p.1,p.2),(p.2,p.1)]) (fun a=>if a.1=(v:Int) then 1 else 0)=q at h1 ⊢
  split<;>split<;>(first | exact lif (@r3 (p.1) (↑(v)) (p.2)) [(2,-1,V0,V1),(2,1,V2,V1),(1,1,V0,V2)] rfl ‹_› ‹_› (yN (lin (@r3 (p.1) (p.2) (↑(v))) V0 V1 [(2,1,V0,V2),(2,-1,V1,V2)] rfl ‹_› ‹_›) h2) | exact lin r2 (.add N1 (.add N0 V0)) (.add V1 N1) [(0,1,V0,V1)] rfl h1 | exact lin r2 (.add N0 (.add N1 V0)) (.add V1 N1) [(0,1,V0,V1)] rfl h1 | exact lin r2 (.add N0 (.add N0 V0)) (.add V1 N1) [(0,1,V0,V1)] rfl h1)
theorem zjz(n:Net m rs)(v:Nat):z4 rs v<=40:=by
 have:=zpi v rs fun p hp=>(n.ends p hp).2.2
 have:=n.len
 exact lin r2 V0 (.num 40) [(0,1,V0,V1),(0,1,V1,.num 40)] rfl ‹_› (leI this)
noncomputable def pkx(k:Nat)(R:List Row):Nat->Int:=fun i=>if i<k then - det ((kab k).map fun j=>if j=i then k else j) (R.take k) else if i=k then pk k R else 0
theorem zoj{k:Nat}{R:List Row}:pkx k R k=pk k R:=(if_neg (kbe k)).trans (if_pos rfl)
theorem zmg{k i:Nat}{R:List Row}(h:k<i):pkx k R i=0:=(if_neg (Nat.lt_asymm h)).trans (if_neg (kcb h))
noncomputable def pkL(k:Nat)(R:List Row)(r:Row):Int:=qo (kab (k+1)) fun c=>r c*pkx k R c
theorem zqZ{k:Nat}{R:List Row}(a u b v):pkL k R (fun j=>a*u j+b*v j)=a*pkL k R u+b*pkL k R v:=by
 unfold pkL
 rw [<-zkz]
 exact j6 fun c _=>by rw [kdz,kdg,kdg]
theorem zrN{k:Nat}{R:List Row}{r:Row}(hr:r∈R.take k):pkL k R r=0:=by
 unfold pkL
 rw [ka4,zdT]
 simp only [qo]
 rw [zoj]
 have e:(qo (kab k) fun c=>r c*pkx k R c)=- qo (kab k) fun i=>r i*det ((kab k).map fun j=>if j=i then k else j) (R.take k) :=
  (j6 fun c hc=>(congrArg (r c * ·) (if_pos (kam.mp hc))).trans (Int.mul_neg _ _)).trans (zpJ _ _)
 rw [e,<-zp3 hr,kbb]
 exact Int.add_left_neg _
theorem zmL(n:Net m rs){k v:Nat}{R:List Row}(hk:k<m.toNat)(hv:v<m.toNat):lap m rs (pkx k R) v=pkL k R (zbU rs v):=by
 rw [<-ziY n.ends _ (ka0.mp hv)]
 obtain ⟨q,hq,hqr⟩:=zeQ (show k+1<=m.toNat from hk)
 rw [hq,zdT,wV (l:=q) fun c hc=>by rw [zmg (hqr c hc).1,kb1]]
 exact kbb _
theorem zeO{v:Nat}(hv:v<m.toNat):(jF m rs)[v]?=some (zbU rs v):=by
 unfold jF;rw [kaP,List.getElem?_range hv];rfl
theorem zqY(n:Net m rs){k:Nat}(hk:k<m.toNat)(hp:0<pk k (jF m rs)):0<pk (k+1) (jF m rs)/\pk (k+1) (jF m rs)<=z4 rs k*pk k (jF m rs):=by
 have hlen:(jF m rs).length=m.toNat:=by unfold jF;rw [kaK,kbg]
 have hget:=zeO (m:=m) (rs:=rs) hk
 have hlow:∀ v,v<k->lap m rs (pkx k (jF m rs)) v=0:=fun v hv=>by
  rw [zmL n hk (kcX hv hk)]
  exact zrN (kao (i:=v) ((kcs hv).trans (zeO (kcX hv hk))))
 have hlap:=zmL n (R:=jF m rs) hk hk
 generalize jF m rs=R at *
 have hpk:pk (k+1) R=lap m rs (pkx k R) k:=by
  have h1:=zjG (R:=R) (k:=k) (hlen▸kby hk) zqZ (fun _=>zrN) (zbU rs k)
  have h2:pkL k R (Vk k R (zbU rs k))=pk (k+1) R*pk k R:=by
   unfold pkL
   rw [ka4,zdT,wV (l:=kab k) fun c hc=>by rw [zjF R _ (kam.mp hc),kcn]]
   simp only [qo]
   rw [zoj,<-zmK hget,kaV,kbb]
  rw [h1,kbr] at h2
  exact (hlap.trans (Int.eq_of_mul_eq_mul_right (kbG hp) h2)).symm
 have hpos:0<pk (k+1) R:=by
  rw [hpk]
  refine kav fun hc=>?_
  have:=zsO n (z:=fun u=>- pkx k R u) (fun v hv=>by
   rcases kdI v k with h | h | h
   ·right;rw [zcL,hlow v h];exact kaW 0
   ·right;rw [zcL,h];exact Int.neg_nonneg_of_nonpos (kb0.mp hc)
   ·left;rw [zmg h];exact kaW 0) k (ka0.mp hk)
  rw [zoj] at this
  exact kb0.mpr this (Int.neg_neg_of_pos hp)
 refine ⟨hpos,?_⟩
 have hnn:Nn m (pkx k R):=zsO n fun v hv=>by
  rcases kdI v k with h | h | h
  ·right;rw [hlow v h];exact kaW 0
  ·right;rw [h,<-hpk];exact kaA hpos
  ·left;rw [zmg h];exact kaW 0
 rw [hpk,yY,zoj]
 exact kdN _ (zjt n hnn k)
theorem zmh(n:Net m rs):∀ k,k<=m.toNat->0<pk k (jF m rs)/\pk k (jF m rs)<=40 ^ k
 | 0,_=>by rw [zmJ];exact ⟨by decide,by decide⟩
 | k+1,h=>by
  obtain ⟨h1,h2⟩:=zmh n k (by exact kby ‹_›)
  obtain ⟨h3,h4⟩:=zqY n (k:=k) ‹_› h1
  refine ⟨h3,kbA h4 ?_⟩
  rw [kcI,kbr]
  exact Int.mul_le_mul h2 (zjz n k) (zgx k) (by exact nnI _)
theorem ztK:D m rs=pk m.toNat (jF m rs):=by
 unfold D pk
 rw [kcD (by simp [jF])]
theorem zfq(n:Net m rs):0<D m rs:=by rw [ztK];exact (zmh n _ (kaB _)).1
theorem zsX(n:Net m rs):D m rs<=10485760000000000:=by
 rw [ztK]
 have h1:=(zmh n _ (kaB _)).2
 have h2:(40:Int) ^ m.toNat<=40 ^ 10:=by
  have:=kbC (n:=40) (by decide) (Int.toNat_le.mpr n.m10)
  exact_mod_cast this
 exact kbA h1 h2
theorem zhO(h:Nat->Int)(l:List Nat):0<=qo l fun u=>(((h u).natAbs:Nat):Int):=by
 induction l with
 | nil=>exact kaW _
 | cons b l ih=>exact kda (nnI _) ih
theorem znJ(h:Nat->Int):∀ (l:List Nat) (v:Nat),v∈l->h v<=qo l fun u=>(h u).natAbs:=by
 intro l_
 induction l_ with
 | nil =>
  intro v hv
  simp at hv
 | cons a l ih_ =>
  intro v hv
  simp only [qo]
  rcases kad.mp hv with rfl | hv
  ·exact kbA Int.le_natAbs (kc8 (zhO h l))
  ·exact kbA (ih_ v hv) (Int.le_add_of_nonneg_left (nnI _))
theorem ze4(n:Net m rs)(h:Nat->Int):∃ t',Nn m t'/\zrB m rs h t':=by
 have hD:=zfq n
 have hnn:Nn m (yG m rs fun _=>1):=wL n fun v hv=>by rw [zbI n _ hv];exact lin r1 N0 (.mulR V0 1) [(1,1,N0,V0)] rfl hD
 have hK0:=zhO h (kab m.toNat)
 have hle:∀ v:Nat,(v:Int)<m->h v<=qo (kab m.toNat) fun u=>(((h u).natAbs:Nat):Int):=fun v hv=>znJ h _ v (kam.mpr (by exact Mine.jW ‹_›))
 generalize (qo (kab m.toNat) fun u=>(((h u).natAbs:Nat):Int))=K at hK0 hle
 refine ⟨fun u=>K*yG m rs (fun _=>1) u+0*0,fun v hv=>?_,fun v hv=>?_⟩
 ·have:=kb9 hK0 (hnn v hv)
  show 0<=K*yG m rs (fun _=>1) v+0*0
  exact lin r1 N0 (.add V0 (.mulL 0 N0)) [(0,1,N0,V0)] rfl this
 ·rw [yD m rs K 0 (yG m rs fun _=>1) (fun _=>0) v,zbI n _ hv]
  have h1:=hle v hv
  have h2:K*1<=K*(D m rs*1):=kbf (by exact lin r1 N1 (.mulR V0 1) [(1,1,N0,V0)] rfl hD) hK0
  have:=zaB n hv
  exact lit r5 (.sub V0 (.add V1 (.mulL 0 V2))) V3 [(0,1,V0,V4),(0,1,.mulR V4 1,V1),(1,1,N0,V3)] rfl h1 h2 this
noncomputable def t0(m:Int)(rs:Rd2)(h:Nat->Int)(v:Nat):Int:=let c:=0 - (0 - yG m rs (fun u=>h u - z4 rs u+1) v).fdiv (D m rs);if c>0 then c else 0
theorem zqi(h:Nat->Int):Nn m (t0 m rs h):=fun v _=>by unfold t0;simp only;split<;>(first | exact kaA ‹_› | decide)
theorem zqj(n:Net m rs)(h:Nat->Int)(u:Nat):yG m rs (fun u=>h u - z4 rs u+1) u<=D m rs*t0 m rs h u/\(0<t0 m rs h u->D m rs*t0 m rs h u<yG m rs (fun u=>h u - z4 rs u+1) u+D m rs):=by
 have hD:=zfq n
 unfold t0
 generalize yG m rs (fun u=>h u - z4 rs u+1) u=N
 generalize D m rs=A at hD
 have e:=kcc (0 - N) A
 have h1:=kaR (0 - N) hD
 have h2:=ka2 (0 - N) hD
 generalize (0 - N).fdiv A=q at e
 have hm:A*(0 - q)=0 - A*q:=by rw [kcz,kb1]
 simp only
 split
 ·exact ⟨by exact lin r4 V0 V1 [(0,1,N0,V2),(2,1,.add V3 V2,.sub N0 V0),(2,-1,V1,.sub N0 V3)] rfl h1 e hm,fun _=>by exact lit r5 V0 (.add V1 V2) [(1,1,V3,V2),(2,-1,.add V4 V3,.sub N0 V1),(2,1,V0,.sub N0 V4)] rfl h2 e hm⟩
 ·have:0<=A*q:=kb9 (by exact kaA ‹_›) (by exact lin r1 N0 V0 [(4,1,N0,.sub N0 V0)] rfl ‹_›)
  exact ⟨by exact lin r4 V0 (.mulR V1 0) [(0,1,N0,V2),(2,1,.add V3 V2,.sub N0 V0),(0,1,N0,V3)] rfl h1 e this,fun hx=>by exact lif (@r1 0) [(1,1,N0,N0)] rfl hx⟩
theorem zsa(n:Net m rs)(h:Nat->Int):ztG m rs h (t0 m rs h):=by
 intro t' ht' hst v hv
 have hD:=zfq n
 have hz:=wL n (z:=fun u=>D m rs*t' u+(-1)*yG m rs (fun u=>h u - z4 rs u+1) u) (fun v hv=>by
  rw [yD m rs (D m rs) (-1) t' (yG m rs fun u=>h u - z4 rs u+1) v,zbI n _ hv]
  have h1:=hst v hv
  have h2:D m rs*(h v - z4 rs v+1)<=D m rs*lap m rs t' v:=kbf (by exact lin r3 (.add (.sub V0 V1) N1) V2 [(1,1,.sub V0 V2,V1)] rfl h1) (by exact kaA ‹_›)
  exact lin r2 N0 (.add V0 (.mulL (-1) V1)) [(0,1,V1,V0)] rfl h2) v hv
 have h0:=ht' v hv
 have h1:=(zqj n h v).2
 by_cases hp:0<t0 m rs h v
 ·have h2:=h1 hp
  have h3:D m rs*t0 m rs h v<D m rs*(t' v+1):=by rw [kcL,kcA];exact lit r4 V0 (.add V1 V2) [(0,1,N0,.add V1 (.mulL (-1) V3)),(1,1,V0,.add V3 V2)] rfl hz h2
  have:=kbU h3 (by exact kaA ‹_›)
  exact lin r2 V0 V1 [(1,1,V0,.add V1 N1)] rfl this
 ·exact lin r2 V0 V1 [(0,1,N0,V1),(4,1,N0,V0)] rfl h0 hp
theorem zsh{L H p S W G d:Int}(h1:p - S=L + -1*W)(h3:0<=S)(h6:p<=G - d)(h5:0<d)(e:W=H - G):L<H:=by
 rw [e] at h1
 exact lit (@r6 L H p S G d) V0 V1 [(2,-1,.sub V2 V3,.add V0 (.mulL (-1) (.sub V1 V4))),(0,1,N0,V3),(0,1,V2,.sub V4 V5),(1,1,N0,V5)] rfl h1 h3 h6 h5
theorem zqD(n:Net m rs){h:Nat->Int}(hh:Nn m h):∀ v:Nat,(v:Int)<m->0<=h v - lap m rs (t0 m rs h) v:=by
 intro v hv
 have hD:=zfq n
 by_cases hp:0<t0 m rs h v
 ·have h1:=yD m rs (D m rs) (-1) (t0 m rs h) (yG m rs fun u=>h u - z4 rs u+1) v
  rw [zbI n _ hv,yY] at h1
  have h3:=zjt n (t:=fun u=>D m rs*t0 m rs h u+(-1)*yG m rs (fun u=>h u - z4 rs u+1) u) (fun u _=>by have:=(zqj n h u).1;show 0<=D m rs*t0 m rs h u+_;exact lin r2 N0 (.add V0 (.mulL (-1) V1)) [(0,1,V1,V0)] rfl this) v
  have h4:=(zqj n h v).2 hp
  have h5:=zaB n hv
  have h6:z4 rs v*(D m rs*t0 m rs h v+(-1)*yG m rs (fun u=>h u - z4 rs u+1) v)<=z4 rs v*(D m rs - 1):=kbf (by exact lin r3 (.add V0 (.mulL (-1) V1)) (.sub V2 N1) [(1,1,V0,.add V1 V2)] rfl h4) (by exact kaA ‹_›)
  rw [kcz,kcA,kbr (z4 rs v) (D m rs)] at h6
  have h8:D m rs*lap m rs (t0 m rs h) v<D m rs*(h v+1):=by
   have e:D m rs*(h v - z4 rs v+1)=D m rs*(h v+1) - D m rs*z4 rs v:=by rw [<-kcz];congr 1;exact liq r2 (.add (.sub V0 V1) N1) (.sub (.add V0 N1) V1) [] rfl
   exact zsh h1 h3 h6 h5 e
  have:=kbU h8 (by exact kaA ‹_›)
  exact kbp (kds this)
 ·have hz0:t0 m rs h v=0:=by have:=zqi (rs:=rs) h v hv;exact kaH (lin r1 V0 N0 [(4,1,N0,V0)] rfl hp) (this)
  have h1:=yY (m:=m) (rs:=rs) (t0 m rs h) v
  have:=zjt n (zqi (rs:=rs) h) v
  rw [hz0,kb1] at h1
  have:=hh v hv
  exact lin r3 N0 (.sub V0 V1) [(2,1,V1,.sub N0 V2),(0,1,N0,V2),(0,1,N0,V0)] rfl h1 ‹_› this
noncomputable def upd(f:Nat->Int)(k:Nat)(x:Int):Nat->Int:=fun j=>if j=k then x else f j
theorem zdR(f k x):upd f k x k=x:=by simp [upd]
theorem zpH(f){k j:Nat}(x)(h:j≠k):upd f k x j=f j:=by simp [upd,h]
theorem zhf(n:Net m rs){v:Nat}(hv:(v:Int)<m):lap m rs (wg v) v=z4 rs v:=by
 unfold lap z4
 refine jO fun a ha=>?_
 by_cases h:a.1=(v:Int)
 ·rw [if_pos h,if_pos h]
  have h1:=n.arc_ne ha
  have h2:=(n.arc ha).2
  have:tx m (wg v) a.2=0:=by
   unfold tx wg
   split
   ·exact if_neg fun e=>h1 (h.trans (by rw [<-e];exact tnn h2.1))
   ·rfl
  rw [this];exact (kcH _).trans (if_pos rfl)
 ·rw [if_neg h,if_neg h]
theorem zfM(n:Net m rs){v u:Nat}(hu:u≠v):lap m rs (wg v) u<=0:=by
 rw [yY]
 have h1:=zjt n (t:=wg v) (fun w _=>by unfold wg;split<;>decide) u
 have:wg v u=0:=by simp [wg,hu]
 rw [this];exact lin r2 (.sub (.mulR V0 0) V1) N0 [(0,1,N0,V1)] rfl h1
theorem zi7(t:Nat->Int)(v:Nat)(q:Int)(u:Nat):lap m rs (upd t v (t v+q)) u=lap m rs t u+q*lap m rs (wg v) u:=by
 have:=yD m rs 1 q t (wg v) u
 have e:(fun w=>1*t w+q*wg v w)=upd t v (t v+q):=funext fun w=>by
  unfold upd wg;split
  ·rename_i h;subst h;exact liq r2 (.add (.mulL 1 V0) (.mulR V1 1)) (.add V0 V1) [] rfl
  ·exact liq r2 (.add (.mulL 1 V0) (.mulR V1 0)) V0 [] rfl
 rw [e] at this;exact liq r3 V0 (.add V1 V2) [(2,1,V0,.add (.mulL 1 V1) V2)] rfl this
structure zjl(m:Int)(rs:Rd2)(h t:Nat->Int):Prop where
 nn:Nn m t
 rest:∀ v:Nat,(v:Int)<m->0<=h v - lap m rs t v
 low:ztG m rs h t
theorem zsy{A h B S' d S l C f:Int}(h1:h - (B - S')<d)(h2:S<=S')(h3:l=C - S)(e:A+f=h - l)(r0:0<=f):A<B - C+d:=by
 rw [h3] at e;exact lit (@r8 A h B S' d S C f) V0 (.add (.sub V2 V6) V4) [(1,1,.sub V1 (.sub V2 V3),V4),(0,1,V5,V3),(2,1,.add V0 V7,.sub V1 (.sub V6 V5)),(0,1,N0,V7)] rfl h1 h2 e r0
theorem zjl.step(n:Net m rs){h t:Nat->Int}(f:zjl m rs h t){v:Nat}(hv:(v:Int)<m)(hge:z4 rs v<=h v - lap m rs t v) :
  zjl m rs h (upd t v (t v+(h v - lap m rs t v).fdiv (z4 rs v)))/\1<=(h v - lap m rs t v).fdiv (z4 rs v):=by
 have hd:=zaB n hv
 have e:=kcc (h v - lap m rs t v) (z4 rs v)
 have r0:=kaR (h v - lap m rs t v) hd
 have r1:=ka2 (h v - lap m rs t v) hd
 generalize hq:(h v - lap m rs t v).fdiv (z4 rs v)=q at *
 have hq1:1<=q:=by
  have:z4 rs v*0<z4 rs v*q:=by exact lit r5 (.mulR V0 0) V1 [(0,1,V0,.sub V2 V3),(1,1,V4,V0),(2,-1,.add V1 V4,.sub V2 V3)] rfl hge r1 e
  have:=kbU this (by exact kaA ‹_›)
  assumption
 refine ⟨⟨fun u hu=>?_,fun u hu=>?_,fun t' ht' hst u hu=>?_⟩,hq1⟩
 ·unfold upd;split
  ·have:=f.nn v hv;exact lin r2 N0 (.add V0 V1) [(0,1,N1,V1),(0,1,N0,V0)] rfl hq1 this
  ·exact f.nn u hu
 ·rw [zi7]
  by_cases huv:u=v
  ·subst huv
   rw [zhf n hv]
   have:q*z4 rs u=z4 rs u*q:=kbr ..
   exact lin r5 N0 (.sub V0 (.add V1 V2)) [(0,1,N0,V3),(2,1,.add V4 V3,.sub V0 V1),(2,1,V2,V4)] rfl r0 e this
  ·have h1:=zfM n (v:=v) huv
   have h2:=f.rest u hu
   have h3:q*lap m rs (wg v) u<=q*0:=kbf h1 (by exact kaA ‹_›)
   exact lin r4 N0 (.sub V0 (.add V1 V2)) [(0,1,N0,.sub V0 V1),(0,1,V2,.mulR V3 0)] rfl h2 h3
 ·unfold upd;split
  ·rename_i huv;subst huv
   have h1:=hst u hu
   rw [yY] at h1
   have h2:=zq3 n (f.low t' ht' hst) u
   have h3:=yY (m:=m) (rs:=rs) t u
   have h4:z4 rs u*q<z4 rs u*(t' u - t u+1):=by
    rw [kcL,kcz,kcA]
    exact zsy h1 h2 h3 e r0
   have:=kbU h4 (by exact kaA ‹_›)
   exact lin r3 (.add V0 V1) V2 [(1,1,V1,.add (.sub V2 V0) N1)] rfl this
  ·exact f.low t' ht' hst u hu
theorem zjl.start(n:Net m rs){h:Nat->Int}(hh:Nn m h):zjl m rs h (t0 m rs h):=⟨zqi h,zqD n hh,zsa n h⟩
structure zbR(m:Int)(rs:Rd2)(h t:Nat->Int):Prop extends zjl m rs h t where
 stab:zrB m rs h t
theorem zbR.uniq{h t t':Nat->Int}(a:zbR m rs h t)(b:zbR m rs h t'):∀ v:Nat,(v:Int)<m->t v=t' v:=fun v hv=>by
 have h1:=a.low t' b.nn b.stab v hv
 have h2:=b.low t a.nn a.stab v hv
 exact kaH (h1) (h2)
noncomputable def par(rs:Rd2)(r:Nat->Int)(v:Nat):Int:=if (r v).fdiv (z4 rs v)>0 then (r v).fdiv (z4 rs v) else 0
theorem zmV(t q:Nat->Int)(v:Nat):lap m rs (fun u=>t u+q u) v=lap m rs t v+lap m rs q v:=by
 have:=yD m rs 1 1 t q v
 simp only [kbP] at this
 exact this
noncomputable def pos(x:Int):Int:=if x>0 then x else 0
theorem zo5(v:Nat):lap m rs (fun _=>0) v=0:=by
 have:=yD m rs 0 0 (fun _=>0) (fun _=>0) v
 simpa using this
def Amp(m:Int)(rs:Rd2)(g:Nat->Int):Prop:=∀ z:Nat->Int,(∀ v:Nat,(v:Int)<m->z v=0\/z v=1)->(∀ v:Nat,(v:Int)<m->z v=1->g v+lap m rs z v<z4 rs v)->∀ v:Nat,(v:Int)<m->z v=0
structure Rec(m:Int)(rs:Rd2)(g:Nat->Int):Prop where
 nn:Nn m g
 rest:∀ v:Nat,(v:Int)<m->g v<z4 rs v
 amp:Amp m rs g
noncomputable def chi(w:Nat->Int)(M:Int)(v:Nat):Int:=if w v=M then 1 else 0
theorem zoq{w:Nat->Int}{M:Int}{v:Nat}(h:w v=M):chi w M v=1:=if_pos h
theorem zqq{w:Nat->Int}{M:Int}{v:Nat}(h:¬ w v=M):chi w M v=0:=if_neg h
theorem ztn{w:Nat->Int}{M:Int}{v:Nat}:chi w M v=0\/chi w M v=1:=by
 by_cases h:w v=M
 ·exact .inr (zoq h)
 ·exact .inl (zqq h)
theorem zsF{w:Nat->Int}{M e:Int}(hM:0<M)(hmax:∀ k:Nat,(k:Int)<m->w k<=M)(he:0<=e):1 - tx m (chi w M) e<=M - tx m w e:=by
 obtain ⟨k,hk⟩:=kax he
 rw [hk];unfold tx
 by_cases h3:(k:Int)<m
 ·rw [if_pos h3,if_pos h3,kaf]
  by_cases h:w k=M
  ·rw [zoq h,h];exact kdo ((kdn 1).trans (kdn _).symm)
  ·rw [zqq h];exact kcT (yN (hmax k h3) h)
 ·rw [if_neg h3,if_neg h3,kcH,kcH];exact hM
theorem zmH(n:Net m rs){e w:Nat->Int}(A:Amp m rs e)(h:∀ v:Nat,(v:Int)<m->0<w v->e v+lap m rs w v<z4 rs v):∀ v:Nat,(v:Int)<m->w v<=0:=by
 intro v hv
 obtain ⟨u,hu,hmax⟩:=zdf (fun v=>- w v) m.toNat (kbx (kch _) (jW hv))
 by_cases hM:w u<=0
 ·exact kbA (kdr (hmax v (jW hv))) hM
 ·have hM:=kcU.mp hM
  have:=A (chi w (w u)) (fun v hv=>ztn) (fun v hv hz=>?_) u (ka0.mp hu)
  ·rw [zoq rfl] at this;cases this
  ·have hvu:w v=w u:=kav fun h=>by rw [zqq h] at hz;cases hz
   refine kbz ?_ (h v hv (hvu▸hM))
   refine kbY (zab fun a ha=>?_) _
   split
   ·rw [zoq hvu,hvu];exact zsF hM (fun k hk=>kdr (hmax k (jW hk))) (n.arc ha).2.1
   ·exact kaW 0
theorem zi8(n:Net m rs){z:Nat->Int}(hz:Nn m z){v:Nat}(h0:z v=0):lap m rs z v<=0:=by
 rw [yY,h0]
 have:=zjt n hz v
 exact lin r2 (.sub (.mulR V0 0) V1) N0 [(0,1,N0,V1)] rfl this
theorem zpW{z:Nat->Int}(hz:∀ v:Nat,(v:Int)<m->z v=0\/z v=1):Nn m z:=fun v hv=>by rcases hz v hv with h | h<;>(first | exact lin r1 N0 V0 [(2,-1,V0,N0)] rfl h | exact lin r1 N0 V0 [(2,-1,V0,N1)] rfl h)
theorem zen(t q:Nat->Int)(v:Nat):lap m rs (fun u=>t u - q u) v=lap m rs t v - lap m rs q v:=by
 have:=yD m rs 1 (-1) t q v
 have e:(fun u=>1*t u + -1*q u)=fun u=>t u - q u:=funext fun u=>by exact liq r2 (.add (.mulL 1 V0) (.mulL (-1) V1)) (.sub V0 V1) [] rfl
 rw [e] at this;exact liq r3 V0 (.sub V1 V2) [(2,1,V0,.add (.mulL 1 V1) (.mulL (-1) V2))] rfl this
theorem zhQ(n:Net m rs){h t:Nat->Int}(hL:zbR m rs h t)(hz:∀ z:Nat->Int,(∀ v:Nat,(v:Int)<m->z v=0\/z v=1)->(∀ v:Nat,(v:Int)<m->z v=1->h v - lap m rs t v+lap m rs z v<z4 rs v)->∀ v:Nat,(v:Int)<m->z v<=t v) :
  Rec m rs (fun v=>h v - lap m rs t v):=by
 refine ⟨hL.rest,hL.stab,fun z h1 h2 v hv=>?_⟩
 have h3:=hz z h1 h2
 have:=hL.low (fun u=>t u - z u) (fun u hu=>by have:=h3 u hu;show 0<=t u - z u;exact lin r2 N0 (.sub V0 V1) [(0,1,V1,V0)] rfl this) (fun u hu=>by
  rw [zen]
  rcases h1 u hu with h | h
  ·have:=zi8 n (zpW h1) h
   have:=hL.stab u hu
   exact lit r4 (.sub V0 (.sub V1 V2)) V3 [(0,1,V2,N0),(1,1,.sub V0 V1,V3)] rfl ‹_› this
  ·have:=h2 u hu h;exact lit r4 (.sub V0 (.sub V1 V2)) V3 [(1,1,.add (.sub V0 V1) V2,V3)] rfl this) v hv
 rcases h1 v hv with h | h
 ·exact h
 ·exact lif r2 [(0,1,V0,.sub V0 V1),(2,-1,V1,N1)] rfl this h
theorem znN(n:Net m rs){h t:Nat->Int}(hL:zbR m rs h t)(hh:∀ v:Nat,(v:Int)<m->z4 rs v<=h v):Rec m rs (fun v=>h v - lap m rs t v):=by
 refine zhQ n hL fun z h1 h2 v hv=>?_
 have hs:=hL.stab v hv
 have h0:=hL.nn v hv
 by_cases ht:t v=0
 ·have:=zi8 n hL.nn ht;have:=hh v hv;exact lif r3 [(1,1,.sub V0 V1,V2),(0,1,V1,N0),(0,1,V2,V0)] rfl hs ‹_› this
 ·rcases h1 v hv with h | h<;>(first | exact lin r2 V0 V1 [(0,1,N0,V1),(2,1,V0,N0)] rfl h0 h | exact lin r2 V0 V1 [(2,1,V0,N1),(1,1,N0,V1)] rfl h (yN (h0) (Ne.symm ht)))
theorem zoY(n:Net m rs){e g t:Nat->Int}(A:Rec m rs e)(hg:Nn m g)(hL:zbR m rs (fun v=>e v+g v) t):Rec m rs (fun v=>e v+g v - lap m rs t v):=by
 refine zhQ n hL fun z h1 h2 v hv=>?_
 have:=zmH n A.amp (w:=fun u=>z u - t u) (fun v hv h=>by
  rw [zen]
  have h3:=hL.nn v hv
  have h4:z v=1:=by rcases h1 v hv with h5 | h5<;>(first | assumption | lia)
  have:=h2 v hv h4
  have:=hg v hv
  exact lit r5 (.add V0 (.sub V1 V2)) V3 [(1,1,.add (.sub (.add V0 V4) V2) V1,V3),(0,1,N0,V4)] rfl ‹_› this) v hv
 exact lin r2 V0 V1 [(0,1,.sub V0 V1,N0)] rfl this
theorem zqG{f g:Nat->Int}{v:Nat}{l:List Nat}(h:∀ a∈l,f a<=g a)(hv:v∈l)(hl:f v<g v):qo l f<qo l g:=by
 induction l with
 | nil=>cases hv
 | cons a l ih =>
  rcases kad.mp hv with e | h'
  ·rw [e] at hl;exact Int.add_lt_add_of_lt_of_le hl (zf2 fun b hb=>h b (kar _ hb))
  ·exact Int.add_lt_add_of_le_of_lt (h a kaG) (ih (fun b hb=>h b (kar _ hb)) h')
theorem ziK(n:Net m rs){h:Nat->Int}(hh:Nn m h):∃ t,zbR m rs h t:=by
 obtain ⟨t',ht',hst⟩:=ze4 n h
 have key:∀ (N:Nat) (t:Nat->Int),zjl m rs h t->qo (kab m.toNat) (fun v=>t' v - t v)<N->∃ t,zbR m rs h t:=by
  intro N
  induction N with
  | zero =>
   intro t f hN
   have:=zf2 (l:=kab m.toNat) (f:=fun _=>0) (g:=fun v=>t' v - t v) fun v hv=>kbp (f.low t' ht' hst v (ka0.mp (kam.mp hv)))
   rw [wV fun _ _=>rfl] at this
   exact absurd hN (kb0.mpr this)
  | succ N ih =>
   intro t f hN
   by_cases hs:zrB m rs h t
   ·exact ⟨t,⟨f,hs⟩⟩
   ·have:∃ v:Nat,(v:Int)<m/\z4 rs v<=h v - lap m rs t v:=by
     apply kav
     intro hno
     refine hs fun v hv=>?_
     apply kav
     intro hc
     exact hno ⟨v,hv,by exact kb0.mp ‹_›⟩
    obtain ⟨v,hv,hge⟩:=this
    obtain ⟨f',hq⟩:=f.step n hv hge
    refine ih _ f' ?_
    generalize (h v - lap m rs t v).fdiv (z4 rs v)=q at hq
    refine kco (zqG (fun u _=>?_) (kam.mpr (jW hv)) ?_) (kds hN)
    ·by_cases hu:u=v
     ·rw [hu,zdR];exact Int.sub_le_sub_left (kc8 (kaA hq)) _
     ·rw [zpH t _ hu];exact kaW _
    ·rw [zdR];exact Int.sub_lt_sub_left (Int.lt_add_of_pos_right _ hq) _
 refine key (qo (kab m.toNat) (fun v=>t' v - 0)).toNat.succ (fun _=>0) ⟨fun _ _=>kaW _,fun v hv=>by rw [zo5];exact kbp (hh v hv),fun t'' h1 _ v hv=>h1 v hv⟩ (by exact lit r2 V0 (.add V1 N1) [(0,1,V0,V1)] rfl (kcu _))
def Sol(m:Int)(rs:Rd2)(b x:Nat->Int):Prop:=∀ v:Nat,(v:Int)<m->lap m rs x v=b v
theorem Sol.uniq(n:Net m rs){b x y:Nat->Int}(hx:Sol m rs b x)(hy:Sol m rs b y):∀ v:Nat,(v:Int)<m->x v=y v:=fun v hv=>by
 have:=zmU n (z:=fun u=>x u - y u) (fun u hu=>by rw [zen,hx u hu,hy u hu];exact liq r1 (.sub V0 V0) N0 [] rfl) v hv
 exact liq r2 V0 V1 [(2,1,.sub V0 V1,N0)] rfl this
theorem zoH(n:Net m rs){b x:Nat->Int}(hx:Sol m rs b x):∀ v:Nat,(v:Int)<m->yG m rs b v=D m rs*x v:=fun v hv=>by
 have h1:Sol m rs (fun u=>D m rs*b u) (yG m rs b):=fun u hu=>zbI n b hu
 have h2:Sol m rs (fun u=>D m rs*b u) (fun u=>D m rs*x u+0*x u):=fun u hu=>by rw [yD,hx u hu];show _=D m rs*b u;exact liq r2 (.add V0 (.mulL 0 V1)) V0 [] rfl
 have:=h1.uniq n h2 v hv
 exact liq r3 V0 V1 [(2,1,V0,.add V1 (.mulL 0 V2))] rfl this
theorem zpj(n:Net m rs){b:Nat->Int}(h:∀ v:Nat,(v:Int)<m->(yG m rs b v).fmod (D m rs)=0):Sol m rs b fun v=>(yG m rs b v).fdiv (D m rs):=fun v hv=>by
 have hD:=zfq n
 have h1:=zbI n b hv
 have e:∀ u:Nat,(u:Int)<m->yG m rs b u=D m rs*(yG m rs b u).fdiv (D m rs)+0*0:=fun u hu=>by
  have:=kcc (yG m rs b u) (D m rs)
  rw [h u hu] at this;exact Eq.symm ‹_›
 rw [zhR hv n.ends e,yD m rs (D m rs) 0 (fun u=>(yG m rs b u).fdiv (D m rs)) (fun _=>0) v,kcn,kbb] at h1
 exact kc9 (by exact kbG ‹_›) h1
end
noncomputable def oth(e:Int × Int)(x:Int):Int:=if e.2=x then e.1 else e.2
noncomputable def tch(S:Int->Bool)(x:Int)(e:Int × Int):Bool:=(decide (e.1=x) || decide (e.2=x)) && S (oth e x)
noncomputable def rt(rs:Rd2)(x:Int)(S:Int->Bool):List Nat:=(kab rs.length).filter fun i=>(rs[i]?).any (tch S x)
noncomputable def nb(rs:Rd2)(x:Int)(S:Int->Bool):Int:=jr (ye rs) fun a=>if a.1=x then (if S a.2 then 1 else 0) else 0
section
variable {m:Int} {rs:Rd2}
theorem zmA{x:Int}{S:Int->Bool}{e:Int × Int}:tch S x e=true ↔ (e.1=x\/e.2=x)/\S (oth e x)=true:=by
 unfold tch;rw [kaJ,kbu,decide_eq_true_eq,decide_eq_true_eq]
theorem zft{x:Int}{S:Int->Bool}{i:Nat}:i∈rt rs x S ↔ ∃ e,rs[i]?=some e/\(e.1=x\/e.2=x)/\S (oth e x)=true:=by
 unfold rt
 rw [kbi,kam]
 constructor
 ·rintro ⟨h1,h2⟩
  cases h:rs[i]? with
  | none=>rw [h] at h2;cases h2
  | some e=>rw [h] at h2;exact ⟨e,rfl,zmA.mp h2⟩
 ·rintro ⟨e,h1,h2⟩
  refine ⟨(kah.mp h1).1,?_⟩
  rw [h1];exact zmA.mpr h2
theorem zoM(x S):(rt rs x S).Nodup:=kbn.sublist kcJ
theorem zmF(e:Int × Int)(x S):rt (rs++[e]) x S=rt rs x S++if tch S x e then [rs.length] else []:=by
 unfold rt
 rw [kas,kdj,ka4,ka8]
 have h1:(kab rs.length).filter (fun i=>((rs++[e])[i]?).any (tch S x))=(kab rs.length).filter fun i=>(rs[i]?).any (tch S x) :=
  kdG fun i hi=>by rw [kcl (kam.mp hi)]
 rw [h1]
 congr 1
 rw [kcx,kc6 (kaB _),Nat.sub_self]
 rfl
theorem zoe(e:Int × Int):ye (rs++[e])=ye rs++[(e.1,e.2),(e.2,e.1)]:=by simp [ye]
theorem zss(b:Bool)(k:Nat):(((if b then [k] else []):List Nat).length:Int)=if b then 1 else 0:=by cases b<;>rfl
theorem zqB{x:Int}{S:Int->Bool}{e:Int × Int}(hne:e.1≠e.2)(k:Nat):(((if tch S x e then [k] else []):List Nat).length:Int)=(if e.1=x then (if S e.2 then 1 else 0) else 0)+(if e.2=x then (if S e.1 then 1 else 0) else 0):=by
 rw [zss]
 unfold tch oth
 by_cases h1:e.1=x
 ·have h2:¬ e.2=x:=fun h=>hne (h1.trans h.symm)
  rw [if_neg h2,if_neg h2,if_pos h1,decide_eq_true h1,kbb];rfl
 ·by_cases h2:e.2=x
  ·rw [if_pos h2,if_pos h2,if_neg h1,decide_eq_true h2,Bool.or_true,kaV];rfl
  ·rw [decide_eq_false h1,decide_eq_false h2,if_neg h1,if_neg h2,if_neg h2];rfl
theorem zme(x S):∀ rs:Rd2,(∀ p∈rs,p.1≠p.2)->((rt rs x S).length:Int)=nb rs x S:=by
 intro rs
 generalize hn:rs.length=k
 induction k generalizing rs with
 | zero =>
  intro _
  rw [kaz hn];rfl
 | succ k ih =>
  intro h
  obtain ⟨l,e,hr⟩:∃ l e,rs=l++[e]:=⟨rs.dropLast,rs.getLast (fun h=>by rw [h] at hn;cases hn),(List.dropLast_concat_getLast _).symm⟩
  rw [hr] at hn h ⊢
  rw [kas] at hn
  rw [zmF,kas,Int.natCast_add,ih l (Nat.succ.inj hn) fun p hp=>h p (kaq.mpr (.inl hp)),zqB (h e (kaq.mpr (.inr (kac.mpr rfl))))]
  unfold nb
  rw [zoe,zdU]
  simp only [jr]
  rw [kbb]
theorem Net.ne(n:Net m rs):∀ p∈rs,p.1≠p.2:=fun p hp=>(n.ends p hp).2.2
theorem zsZ(n:Net m rs){x:Int}{S S':Int->Bool}(h:∀ q,0<=q->q<=m->S q=S' q):nb rs x S=nb rs x S' :=
 jO fun a ha=>by rw [h _ (n.arc ha).2.1 (n.arc ha).2.2]
theorem zs7(a b:Bool)(h:a=true->b=false):(if (a || b) then (1:Int) else 0)=(if a then 1 else 0)+(if b then 1 else 0):=by
 cases a with
 | false=>exact (kaV _).symm
 | true=>rw [h rfl];rfl
theorem zoG(f g:Int × Int->Int)(l:Rd2):(jr l fun a=>f a+g a)=jr l f+jr l g:=by
 induction l with
 | nil=>rfl
 | cons a l ih=>simp only [jr,ih];exact liq r4 (.add (.add V0 V1) (.add V2 V3)) (.add (.add V0 V2) (.add V1 V3)) [] rfl
theorem zkH(n:Net m rs){x:Int}{S A B:Int->Bool}(h:∀ q,0<=q->q<=m->S q=(A q || B q))(hd:∀ q,A q=true->B q=false):nb rs x S=nb rs x A+nb rs x B:=by
 unfold nb
 rw [<-zoG]
 refine jO fun a ha=>?_
 rw [h _ (n.arc ha).2.1 (n.arc ha).2.2]
 by_cases h1:a.1=x
 ·rw [if_pos h1,if_pos h1,if_pos h1];exact zs7 _ _ (hd _)
 ·rw [if_neg h1,if_neg h1,if_neg h1];rfl
theorem zoN(n:Net m rs){x:Int}{S S':Int->Bool}(h:∀ q,0<=q->q<=m->S q=S' q):rt rs x S=rt rs x S' :=
 kdG fun i hi=>by
  have hi:=kam.mp hi
  rw [kae hi]
  have he:=n.ends _ (kbo hi)
  generalize rs[i]=e at he ⊢
  simp only [Option.any_some,tch]
  rw [h (oth e x) (by unfold oth;split<;>(first | exact he.1.1 | exact he.2.1.1)) (by unfold oth;split<;>(first | exact he.1.2 | exact he.2.1.2))]
noncomputable def lvl(lev:Int->Nat)(k:Nat):Int->Bool:=fun q=>lev q+1==k
noncomputable def blw(lev:Int->Nat)(k:Nat):Int->Bool:=fun q=>decide (lev q<k)
structure ze5(m:Int)(rs:Rd2)(g:Nat->Int)(τ:Nat->Prop)(lev:Int->Nat)(par:Nat->Nat):Prop where
 l0:lev m=0
 lp:∀ p:Nat,(p:Int)<m->0<lev p
 mem:∀ i,τ i ↔ ∃ p:Nat,(p:Int)<m/\par p=i
 val:∀ p:Nat,(p:Int)<m->∃ k:Nat,(rt rs p (lvl lev (lev p)))[k]?=some (par p)/\g p=z4 rs p - nb rs p (blw lev (lev p))+k
theorem ze5.road{g τ lev par}(C:ze5 m rs g τ lev par){p:Nat}(hp:(p:Int)<m):∃ e,rs[par p]?=some e/\(e.1=p\/e.2=p)/\lev (oth e p)+1=lev p:=by
 obtain ⟨k,h,_⟩:=C.val p hp
 obtain ⟨e,h1,h2,h3⟩:=zft.mp (kao h)
 exact ⟨e,h1,h2,by simpa [lvl] using h3⟩
def Agr(m:Int)(lev lev':Int->Nat)(k:Nat):Prop:=∀ q,0<=q->q<=m->lev q<=k\/lev' q<=k->lev q=lev' q
theorem Agr.zero{g τ lev par g' τ' lev' par'}(C:ze5 m rs g τ lev par)(C':ze5 m rs g' τ' lev' par'):Agr m lev lev' 0:=by
 have key:∀ {g τ lev par},ze5 m rs g τ lev par->∀ q,0<=q->q<=m->lev q=0->q=m:=fun {g τ lev par} C q h0 hm hl=>by
  by_cases h:q<m
  ·have:=C.lp q.toNat (by exact lit r3 V0 V1 [(1,1,V2,V1),(2,1,V0,V2)] rfl h (tnn (h0)))
   rw [tnn h0] at this;exact lif r1 [(2,1,V0,N0),(1,1,N0,V0)] rfl (eqI hl) (ltI this)
  ·exact kaH (hm) (lin r2 V0 V1 [(4,1,V1,V0)] rfl h)
 intro q h0 hm h
 rcases h with h | h
 ·rw [key C q h0 hm (by exact eqN (kaH ((leI h)) ((nnI _)))),C.l0,C'.l0]
 ·rw [key C' q h0 hm (by exact eqN (kaH ((leI h)) ((nnI _)))),C.l0,C'.l0]
theorem Agr.all{lev lev':Int->Nat}(h:∀ k,Agr m lev lev' k):∀ q,0<=q->q<=m->lev q=lev' q:=fun q h0 hm=>h (lev q) q h0 hm (.inl (kaB _))
noncomputable def zcd(ks:List Int):Int->Bool:=fun q=>decide (q∈ks)
structure Lay(m:Int)(rs:Rd2)(g:Nat->Int)(i:Nat)(O Y:List Int)(lev:Int->Nat)(par:Nat->Nat):Prop where
 nd:(O++Y).Nodup
 o:∀ q,q∈O ↔ 0<=q/\q<=m/\lev q<i
 y:∀ q,q∈Y ↔ 0<=q/\q<=m/\lev q=i
 l0:lev m=0
 lp:∀ p:Nat,(p:Int)<m->0<lev p/\lev p<=i+1
 val:∀ p:Nat,(p:Int)<m->lev p<=i->∃ k:Nat,(rt rs p (lvl lev (lev p)))[k]?=some (par p)/\g p=z4 rs p - nb rs p (blw lev (lev p))+k
theorem Lay.start(g:Nat->Int)(hm:0<=m):Lay m rs g 0 [] [m] (fun q=>if q=m then 0 else 1) (fun _=>0) where
 nd:=kaM.mpr ⟨kay,kb5⟩
 o:=fun q=>⟨fun h=>absurd h kay,fun h=>absurd h.2.2 (kcF _)⟩
 y:=fun q=>by
  rw [kac]
  constructor
  ·rintro rfl;exact ⟨hm,kaW _,if_pos rfl⟩
  ·rintro ⟨_,_,h⟩
   by_cases e:q=m
   ·exact e
   ·rw [if_neg e] at h;cases h
 l0:=if_pos rfl
 lp:=fun p hp=>by rw [if_neg (Int.ne_of_lt hp)];exact ⟨kaB _,kaB _⟩
 val:=fun p hp h=>by rw [if_neg (Int.ne_of_lt hp)] at h;cases h
noncomputable def zeR(i:Nat)(lev:Int->Nat)(c:Nat->Bool):Int->Nat:=fun q=>if lev q<=i then lev q else if c q.toNat then i+1 else i+2
section
variable {i:Nat} {lev:Int->Nat} {c:Nat->Bool} {q:Int}
theorem zcG(h:lev q<=i):zeR i lev c q=lev q:=if_pos h
theorem zek(h:¬ lev q<=i):i<zeR i lev c q/\zeR i lev c q<=i+2:=by
 unfold zeR;rw [if_neg h];split
 ·exact ⟨kaB _,kci _⟩
 ·exact ⟨kci _,kaB _⟩
theorem zoU{p:Nat}(h:¬ lev p<=i)(hc:c p=true):zeR i lev c p=i+1:=(if_neg h).trans (if_pos hc)
theorem zmj{p:Nat}(h:zeR i lev c p=i+1):¬ lev p<=i/\c p=true:=by
 have hl:¬ lev p<=i:=fun hl=>by rw [zcG hl] at h;exact Nat.not_succ_le_self i (kai (kck h.symm) hl)
 refine ⟨hl,kav fun hc=>?_⟩
 have:=((if_neg hl).trans (if_neg hc)).symm.trans h
 exact Nat.succ_ne_self _ this
theorem zmO{j:Nat}(hj:j<=i+1):zeR i lev c q<j ↔ lev q<j:=by
 by_cases hl:lev q<=i
 ·rw [zcG hl]
 ·exact ⟨fun h=>absurd (kbm h hj) (kbZ.mpr (zek hl).1),fun h=>absurd (kbs (kbm h hj)) hl⟩
theorem zq2{j:Nat}(hj:j<=i+1):zeR i lev c q+1=j ↔ lev q+1=j:=by
 by_cases hl:lev q<=i
 ·rw [zcG hl]
 ·exact ⟨fun h=>absurd (zek hl).1 (kbZ.mpr (kdh (kai (kck h) hj))),fun h=>absurd (kdh (kai (kck h) hj)) hl⟩
theorem zoW{j:Nat}(hj:j<=i+1):blw (zeR i lev c) j=blw lev j:=funext fun q=>decide_eq_decide.mpr (zmO hj)
theorem zoV{j:Nat}(hj:j<=i+1):lvl (zeR i lev c) j=lvl lev j:=funext fun q=>ka6.mpr (by unfold lvl;rw [beq_iff_eq,beq_iff_eq];exact zq2 hj)
end
theorem Lay.apart{g i O Y lev par}(L:Lay m rs g i O Y lev par):∀ q,q∈O->q∉Y:=fun q h h'=>kbd ((L.o q).mp h).2.2 ((L.y q).mp h').2.2
theorem Lay.out{g i O Y lev par}(L:Lay m rs g i O Y lev par){p:Nat}(hp:(p:Int)<m)(h1:(p:Int)∉O)(h2:(p:Int)∉Y):¬ lev p<=i:=fun hl =>
 (kcM hl).elim (fun h=>h1 ((L.o p).mpr ⟨nnI p,kaA hp,h⟩)) fun h=>h2 ((L.y p).mpr ⟨nnI p,kaA hp,h⟩)
theorem Lay.rt_y{g i O Y lev par}(L:Lay m rs g i O Y lev par)(n:Net m rs)(x:Int):rt rs x (lvl lev (i+1))=rt rs x (zcd Y):=zoN n fun q a b=>by
 unfold lvl zcd;rw [ka6,beq_iff_eq,decide_eq_true_eq,L.y];exact ⟨fun h=>⟨a,b,Nat.succ.inj h⟩,fun h=>congrArg Nat.succ h.2.2⟩
theorem Lay.nb_y{g i O Y lev par}(L:Lay m rs g i O Y lev par)(n:Net m rs)(x:Int):nb rs x (blw lev (i+1))=nb rs x (zcd O)+nb rs x (zcd Y):=zkH n (fun q a b=>by
 unfold blw zcd;rw [ka6,kbu,decide_eq_true_eq,decide_eq_true_eq,decide_eq_true_eq,L.o,L.y];exact ⟨fun h=>(kcM (kbs h)).imp (fun h=>⟨a,b,h⟩) (fun h=>⟨a,b,h⟩),fun h=>h.elim (fun h=>kbE h.2.2) fun h=>h.2.2▸ka1 _⟩) fun q hq=>decide_eq_false (L.apart q (of_decide_eq_true hq))
theorem Lay.step(n:Net m rs){g g':Nat->Int}{i:Nat}{O Y Y':List Int}{lev:Int->Nat}{par nx:Nat->Nat}(L:Lay m rs g i O Y lev par)(c:Nat->Bool)
  (hY:∀ q,q∈Y' ↔ ∃ p:Nat,(p:Int)<m/\q=p/\c p=true) (hYn:Y'.Nodup) (hc:∀ p:Nat,(p:Int)<m->c p=true->(p:Int)∉O/\(p:Int)∉Y)
  (hg:∀ p:Nat,(p:Int)<m->c p=false->g' p=g p)
  (hn:∀ p:Nat,(p:Int)<m->c p=true->∃ k:Nat,(rt rs p (zcd Y))[k]?=some (nx p)/\g' p=z4 rs p - (nb rs p (zcd O)+nb rs p (zcd Y))+k) :
  Lay m rs g' (i+1) (O++Y) Y' (zeR i lev c) (fun p=>if c p then nx p else par p):=by
 have un:∀ p:Nat,(p:Int)<m->c p=true->¬ lev p<=i:=fun p hp h=>L.out hp (hc p hp h).1 (hc p hp h).2
 refine ⟨?_,fun q=>?_,fun q=>?_,(zcG (kai (kck L.l0) (kch i))).trans L.l0,fun p hp=>?_,fun p hp h=>?_⟩
 ·refine kbc.mpr ⟨L.nd,hYn,fun a ha b hb e=>?_⟩
  obtain ⟨p,hp,he,hcp⟩:=(hY b).mp hb
  rw [e,he] at ha
  exact (kaq.mp ha).elim (hc p hp hcp).1 (hc p hp hcp).2
 ·rw [kaq,L.o,L.y,zmO (kaB _)]
  constructor
  ·rintro (⟨a,b,h⟩ | ⟨a,b,h⟩)
   ·exact ⟨a,b,kbE h⟩
   ·exact ⟨a,b,h▸ka1 _⟩
  ·rintro ⟨a,b,h⟩
   exact (kcM (kbs h)).imp (fun h=>⟨a,b,h⟩) fun h=>⟨a,b,h⟩
 ·rw [hY]
  constructor
  ·rintro ⟨p,hp,e,hcp⟩;rw [e];exact ⟨nnI _,kaA hp,zoU (un p hp hcp) hcp⟩
  ·rintro ⟨a,b,h⟩
   obtain ⟨p,e⟩:=kax a
   rw [e] at b h
   have:=zmj h
   exact ⟨p,yN b fun e=>this.1 (by rw [e,L.l0];exact kch _),e,this.2⟩
 ·by_cases hl:lev p<=i
  ·rw [zcG hl];exact ⟨(L.lp p hp).1,Nat.le_succ_of_le (L.lp p hp).2⟩
  ·exact ⟨kbx (kch _) (zek hl).1,(zek hl).2⟩
 ·rw [zoW h,zoV h]
  by_cases hl:lev p<=i
  ·have hcp:c p=false:=kct.mpr fun hh=>un p hp hh hl
   rw [zcG hl,hcp,hg p hp hcp]
   exact L.val p hp hl
  ·have hn1:zeR i lev c p=i+1:=kc5 h (zek hl).1
   rw [hn1,(zmj hn1).2,L.rt_y n,L.nb_y n]
   exact hn p hp (zmj hn1).2
theorem zso(n:Net m rs){O Y:List Int}(hd:∀ q,q∈O->q∉Y)(x:Int):nb rs x (zcd (O++Y))=nb rs x (zcd O)+nb rs x (zcd Y) :=
 zkH n (fun q _ _=>by unfold zcd;rw [ka6,kbu,decide_eq_true_eq,decide_eq_true_eq,decide_eq_true_eq,kaq]) fun q hq=>by
  exact decide_eq_false (hd q (of_decide_eq_true hq))
def Unb(m:Int)(rs:Rd2)(g:Nat->Int)(O Y:List Int):Prop:=∀ p:Nat,(p:Int)<m->(p:Int)∉O->(p:Int)∉Y->g p+nb rs p (zcd O)<z4 rs p
theorem Unb.start{g:Nat->Int}(hr:∀ v:Nat,(v:Int)<m->g v<z4 rs v):Unb m rs g [] [m]:=fun p hp _ _=>by
 have:nb rs p (zcd [])=0:=zcs fun a _=>by split<;>rfl
 rw [this,kbb];exact hr p hp
noncomputable def nin(O:List Int)(v:Nat):Int:=if zcd O v then 0 else 1
theorem zsm{O:List Int}{e:Int}(h0:0<=e)(he:e<=m)(hO:m∈O):1 - tx m (nin O) e<=if zcd O e then 1 else 0:=by
 unfold tx nin
 by_cases h:e<m
 ·rw [if_pos h,tnn h0];cases zcd O e<;>decide
 ·rw [if_neg h,kaH he (kb0.mp h),show zcd O m=true from decide_eq_true hO];decide
theorem Unb.burns{g:Nat->Int}{O:List Int}(n:Net m rs)(R:Rec m rs g)(U:Unb m rs g O [])(hO:m∈O):∀ p:Nat,(p:Int)<m->(p:Int)∈O:=by
 have h1:=R.amp (nin O) (fun v _=>by unfold nin;split;exact .inl rfl;exact .inr rfl) (fun v hv hz=>by
  have hn:(v:Int)∉O:=fun h=>absurd (((if_pos (decide_eq_true h)).symm.trans hz:(0:Int)=1)) (by decide)
  refine kbz (kbY (zab fun a ha=>?_) _) (U v hv hn kay)
  split
  ·rw [hz];exact zsm (n.arc ha).2.1 (n.arc ha).2.2 hO
  ·exact kaW _)
 exact fun p hp=>kav fun hb=>absurd (((if_neg (fun h=>hb (of_decide_eq_true h))).symm.trans (h1 p hp):(1:Int)=0)) (by decide)
theorem Lay.corr{g i O lev par}(L:Lay m rs g i O [] lev par)(h:∀ p:Nat,(p:Int)<m->(p:Int)∈O){τ:Nat->Prop}(hτ:∀ j,τ j ↔ ∃ p:Nat,(p:Int)<m/\par p=j):ze5 m rs g τ lev par :=
 ⟨L.l0,fun p hp=>(L.lp p hp).1,hτ,fun p hp=>L.val p hp (kby ((L.o p).mp (h p hp)).2.2)⟩
theorem zpQ{e:Int × Int}{x y:Int}(h:e.1=x\/e.2=x)(h':e.1=y\/e.2=y)(hxy:x≠y):oth e x=y:=by
 unfold oth
 by_cases e2:e.2=x
 ·rw [if_pos e2];exact h'.resolve_right fun h=>hxy (e2.symm.trans h)
 ·rw [if_neg e2];exact h'.resolve_left fun h1=>hxy ((h.resolve_right e2).symm.trans h1)
theorem ze5.inj(n:Net m rs){g τ lev par}(C:ze5 m rs g τ lev par){p p':Nat}(hp:(p:Int)<m)(hp':(p':Int)<m)(h:par p=par p'):p=p':=by
 obtain ⟨e,he,hpe,hl⟩:=C.road hp
 obtain ⟨e',he',hpe',hl'⟩:=C.road hp'
 rw [h] at he
 rw [he] at he'
 cases he'
 refine kav fun hpp=>?_
 have hpp:(p:Int)≠p':=fun h=>hpp (eqN h)
 rw [zpQ hpe hpe' hpp] at hl;rw [zpQ hpe' hpe hpp.symm] at hl'
 exact Nat.lt_asymm (hl▸ka1 _:lev p'<lev p) (hl'▸ka1 _)
end
end Mine
end
section
open PySem
namespace Mine
def wF(T:TC)(d:Nat):SW:=(qy (qk .lt (loc 5) (loc 0)) (zt (zaj (zT (loc 2) (loc 5)) (loc 5) (j2 (zT (zT (loc 2) (loc 5)) (loc 5)) (val (.int 1))))
  (qy (qk .lt (loc 6) (loc 0)) (zaj (zT (loc 2) (loc 5)) (loc 6) (zaL (zT (zT (loc 2) (loc 5)) (loc 6)) (val (.int 1)))) zP)) zP)
def zaK(T:TC)(d:Nat):SW:=(wO (.tup [5,6]) (zai (qw (zd (zau (zd (loc 3) (zd (loc 4) zv))) (zd (zau (zd (loc 4) (zd (loc 3) zv))) zv)))) (wF T d))
noncomputable def zlP:List Str:=["many","roads","rows","one","other","place","end"]
def wG(T:TC)(d:Nat):SW:=(zt (zY 2 (qU 5 (jl (loc 0)) none (mulL (qw (zd (val (.int 0)) zv)) (loc 0))))
  (zt (wO (.tup [3,4]) (zai (loc 1)) (zaK T d))
  (qi (loc 2))))
noncomputable def znY:List Str:=["rows","one","other","found"]
def za2(T:TC)(d:Nat):SW:=(zt (zY 3 (zfl (loc 0)))
  (zt (zaj (loc 3) (loc 1) (zT (loc 0) (loc 2)))
  (zt (zaj (loc 3) (loc 2) (zT (loc 0) (loc 1)))
  (qi (loc 3)))))
def zaS(T:TC)(d:Nat):SW:=(qy (qk .ne (zT (zT (loc 0) (loc 2)) (loc 1)) (val (.int 0))) (qi (loc 2)) zP)
noncomputable def zhw:List Str:=["rows","at","place"]
def yB(T:TC)(d:Nat):SW:=(zt (wO (.nm 2) (zf3 (loc 1) (yO (loc 0))) (zaS T d))
  (qi (val .none)))
def zaT(T:TC)(d:Nat):SW:=(zt (zY 8 (zaL (zbW (zT (zT (loc 0) (loc 5)) (loc 7)) (zT (zT (loc 0) (loc 3)) (loc 3))) (zbW (zT (zT (loc 0) (loc 5)) (loc 3)) (zT (zT (loc 0) (loc 3)) (loc 7)))))
  (zaj (zT (loc 0) (loc 5)) (loc 7) (wn (loc 8) (loc 2))))
def jT(T:TC)(d:Nat):SW:=(wO (.nm 7) (zf3 (j2 (loc 3) (val (.int 1))) (yO (loc 0))) (zaT T d))
def wx(T:TC)(d:Nat):SW:=(zt (zY 4 (zr T d "first_other" (zd (loc 0) (zd (loc 3) zv))))
  (zt (qy (isNone false (loc 4)) (qi (val (.int 0))) zP)
  (zt (qy (qk .ne (loc 4) (loc 3)) (zt (zY 0 (zr T d "swapped" (zd (loc 0) (zd (loc 3) (zd (loc 4) zv)))))
  (zY 1 (zaL (val (.int 0)) (loc 1)))) zP)
  (zt (wO (.nm 5) (zf3 (j2 (loc 3) (val (.int 1))) (yO (loc 0))) (jT T d))
  (zY 2 (zT (zT (loc 0) (loc 3)) (loc 3)))))))
noncomputable def zhx:List Str:=["rows","sign","ahead","at","place","lower","row","col","both"]
def wH(T:TC)(d:Nat):SW:=(zt (zY 0 (qU 6 (zai (loc 0)) none (zfl (loc 6))))
  (zt (zY 1 (val (.int 1)))
  (zt (zY 2 (val (.int 1)))
  (zt (wO (.nm 3) (jl (yO (loc 0))) (wx T d))
  (qi (zbW (loc 1) (loc 2)))))))
def zeI(T:TC)(d:Nat):SW:=(zaj (zT (loc 4) (loc 5)) (loc 3) (zT (loc 1) (loc 5)))
def zeH(T:TC)(d:Nat):SW:=(zt (zY 4 (qU 6 (zai (loc 0)) none (zfl (loc 6))))
  (zt (wO (.nm 5) (jl (yO (loc 0))) (zeI T d))
  (qt (zkY (loc 2) (zr T d "determinant" (zd (loc 4) zv))))))
noncomputable def zpq:List Str:=["rows","right","found","col","changed","place","row"]
def zbc(T:TC)(d:Nat):SW:=(zt (zY 2 (qw zv))
  (zt (wO (.nm 3) (jl (yO (loc 0))) (zeH T d))
  (qi (loc 2))))
def zfZ(T:TC)(d:Nat):SW:=(zaj (loc 3) (loc 5) (zaL (zT (loc 3) (loc 5)) (zbW (zT (zT (loc 0) (loc 4)) (loc 5)) (zT (loc 2) (loc 4)))))
def zfY(T:TC)(d:Nat):SW:=(wO (.nm 5) (jl (yO (loc 1))) (zfZ T d))
noncomputable def zrx:List Str:=["table","heap","times","found","place","end"]
def zcz(T:TC)(d:Nat):SW:=(zt (zY 3 (zfl (loc 1)))
  (zt (wO (.nm 4) (jl (yO (loc 1))) (zfY T d))
  (qi (loc 3))))
noncomputable def zhs:List Str:=["table","heap","whole","over","place","number"]
def yA(T:TC)(d:Nat):SW:=(zt (zY 2 (zr T d "determinant" (zd (loc 0) zv)))
  (zt (zY 3 (qU 4 (jl (yO (loc 1))) none (j2 (zaL (zT (loc 1) (loc 4)) (zT (zT (loc 0) (loc 4)) (loc 4))) (val (.int 1)))))
  (qi (qU 5 (zai (zr T d "solved" (zd (loc 0) (zd (loc 3) zv)))) none (zlm (val (.int 0)) (zaL (val (.int 0)) (wn (zaL (val (.int 0)) (loc 5)) (loc 2))))))))
def zeM(T:TC)(d:Nat):SW:=(qy (qk .ge (zT (loc 5) (loc 7)) (zT (zT (loc 3) (loc 7)) (loc 7))) (zt (zY 8 (mulL (qw (zd (val (.int 0)) zv)) (loc 0)))
  (zt (zaj (loc 8) (loc 7) (wn (zT (loc 5) (loc 7)) (zT (zT (loc 3) (loc 7)) (loc 7))))
  (zt (zY 5 (zr T d "after" (zd (loc 3) (zd (loc 5) (zd (loc 8) zv)))))
  (zt (zaj (loc 4) (loc 7) (j2 (zT (loc 4) (loc 7)) (zT (loc 8) (loc 7))))
  (zY 6 (val (.bool true))))))) zP)
def zeL(T:TC)(d:Nat):SW:=(zt (zY 6 (val (.bool false)))
  (wO (.nm 7) (jl (loc 0)) (zeM T d)))
noncomputable def zpr:List Str:=["many","roads","heap","table","times","rest","moves","place","turns"]
def zdQ(T:TC)(d:Nat):SW:=(zt (zY 3 (zr T d "table_of" (zd (loc 0) (zd (loc 1) zv))))
  (zt (zY 4 (zr T d "least_times" (zd (loc 3) (zd (loc 2) zv))))
  (zt (zY 5 (zr T d "after" (zd (loc 3) (zd (loc 2) (zd (loc 4) zv)))))
  (zt (zY 6 (val (.bool true)))
  (zt (zfr (tst (loc 6)) (zeL T d))
  (qi (zau (zd (loc 5) (zd (loc 4) zv)))))))))
noncomputable def zru:List Str:=["many","roads","heap","counts","place"]
def zbE(T:TC)(d:Nat):SW:=(zt (zY 3 (zr T d "counts_at" (zd (loc 0) (zd (loc 1) zv))))
  (qi (zoy (qU 4 (jl (loc 0)) none (qk .lt (zT (loc 2) (loc 4)) (zT (loc 3) (loc 4)))))))
noncomputable def zn8:List Str:=["many","roads","heap"]
def zcp(T:TC)(d:Nat):SW:=(zt (qt (zr T d "need_net" (zd (loc 0) (zd (loc 1) zv))))
  (zt (qt (zr T d "need_heap" (zd (loc 0) (zd (loc 2) zv))))
  (qi (zr T d "rests" (zd (loc 0) (zd (loc 1) (zd (loc 2) zv)))))))
noncomputable def znZ:List Str:=["many","roads","heap"]
def zck(T:TC)(d:Nat):SW:=(zt (qt (zr T d "need_net" (zd (loc 0) (zd (loc 1) zv))))
  (zt (qt (zr T d "need_heap" (zd (loc 0) (zd (loc 2) zv))))
  (qi (zr T d "fallen" (zd (loc 0) (zd (loc 1) (zd (loc 2) zv)))))))
end Mine
end
section
open PySem
namespace Mine
end Mine
end
section
open PySem
namespace Mine
noncomputable def zkl:List Str:=["road","place"]
def jZ(T:TC)(d:Nat):SW:=(qi (zsP (qk .eq (zT (loc 0) (val (.int 1))) (loc 1)) (zT (loc 0) (val (.int 0))) (zT (loc 0) (val (.int 1)))))
def zbr(T:TC)(d:Nat):SW:=(qy (inL false (loc 0) (loc 3)) (zt (zY 4 (zr T d "other_end" (zd (loc 3) (zd (loc 0) zv))))
  (zaj (loc 2) (loc 4) (j2 (zT (loc 2) (loc 4)) (val (.int 1))))) zP)
noncomputable def ziO:List Str:=["many","roads","found","road","place"]
def yp(T:TC)(d:Nat):SW:=(zt (zY 2 (mulL (qw (zd (val (.int 0)) zv)) (loc 0)))
  (zt (wO (.nm 3) (zai (loc 1)) (zbr T d))
  (qi (loc 2))))
noncomputable def zlT:List Str:=["many","roads","heap","pits","more","place"]
def zas(T:TC)(d:Nat):SW:=(zt (qy (zc9 (tst (zr T d "rests" (zd (loc 0) (zd (loc 1) (zd (loc 2) zv)))))) (qi (val (.bool false))) zP)
  (zt (zY 3 (zr T d "pit_counts" (zd (loc 0) (zd (loc 1) zv))))
  (zt (zY 4 (qU 5 (jl (loc 0)) none (j2 (zT (loc 2) (loc 5)) (zT (loc 3) (loc 5)))))
  (qi (eqW false (zT (zr T d "fallen" (zd (loc 0) (zd (loc 1) (zd (loc 4) zv)))) (val (.int 0))) (loc 2))))))
noncomputable def zhy:List Str:=["many","roads","heap"]
def wI(T:TC)(d:Nat):SW:=(zt (qt (zr T d "need_net" (zd (loc 0) (zd (loc 1) zv))))
  (zt (qt (zr T d "need_heap" (zd (loc 0) (zd (loc 2) zv))))
  (qi (zr T d "is_again" (zd (loc 0) (zd (loc 1) (zd (loc 2) zv)))))))
noncomputable def zn2:List Str:=["_law_script","_law_place","_law_many","_law_roads","_law_most","_law_k"]
def za3(T:TC)(d:Nat):SW:=(zt (zY 4 (zr T d "_law_degrees" (zd (loc 2) (zd (loc 3) zv))))
  (qi (qU 5 (jl (loc 2)) none (jG (zr T d "_law_cell_at" (zd (loc 0) (zd (j2 (loc 1) (loc 5)) zv))) (zT (loc 4) (loc 5))))))
noncomputable def ziP:List Str:=["many","place"]
def yq(T:TC)(d:Nat):SW:=(qy (zc9 (tst (zr T d "is_within" (zd (loc 1) (zd (val (.int 0)) (zd (zaL (loc 0) (val (.int 1))) zv)))))) (zaN 3) zP)
noncomputable def znX:List Str:=["many","roads","heap","place","turns"]
def zcj(T:TC)(d:Nat):SW:=(zt (qt (zr T d "need_net" (zd (loc 0) (zd (loc 1) zv))))
  (zt (qt (zr T d "need_heap" (zd (loc 0) (zd (loc 2) zv))))
  (zt (qt (zr T d "need_place" (zd (loc 0) (zd (loc 3) zv))))
  (zt (qy (qk .lt (zT (loc 2) (loc 3)) (zT (zr T d "counts_at" (zd (loc 0) (zd (loc 1) zv))) (loc 3))) (zaN 5) zP)
  (zt (zY 4 (mulL (qw (zd (val (.int 0)) zv)) (loc 0)))
  (zt (zaj (loc 4) (loc 3) (val (.int 1)))
  (qi (zr T d "after" (zd (zr T d "table_of" (zd (loc 0) (zd (loc 1) zv))) (zd (loc 2) (zd (loc 4) zv)))))))))))
end Mine
end
section
open PySem
namespace Mine
noncomputable def zkk:List Str:=["whole","numbers"]
def yV(T:TC)(d:Nat):SW:=(qi (j2 (wn (zqo (zl3 (qw (zd (val (.int 41)) zv)) (loc 1))) (loc 0)) (val (.int 1))))
noncomputable def zlR:List Str:=["many","roads","numbers","table","whole","turns","back","rest","times","number","place"]
def zbs(T:TC)(d:Nat):SW:=(zt (zY 3 (zr T d "table_of" (zd (loc 0) (zd (loc 1) zv))))
  (zt (zY 4 (zr T d "determinant" (zd (loc 3) zv)))
  (zt (zY 5 (zr T d "turns_for" (zd (loc 4) (zd (qU 9 (zai (loc 2)) none (zaL (val (.int 41)) (loc 9))) zv))))
  (zt (zY 6 (qU 9 (zai (zr T d "solved" (zd (loc 3) (zd (mulL (qw (zd (val (.int 1)) zv)) (loc 0)) zv)))) none (zbW (loc 9) (loc 5))))
  (zt (zjE [7,8] (zr T d "fallen" (zd (loc 0) (zd (loc 1) (zd (qU 9 (zai (loc 2)) none (j2 (loc 9) (zbW (loc 4) (loc 5)))) zv)))))
  (qi (zau (zd (loc 7) (zd (qU 10 (jl (loc 0)) none (zaL (zT (loc 8) (loc 10)) (zT (loc 6) (loc 10)))) zv)))))))))
noncomputable def zto:List Str:=["many","roads","heap"]
def zk2(T:TC)(d:Nat):SW:=(zt (qt (zr T d "need_net" (zd (loc 0) (zd (loc 1) zv))))
  (zt (qt (zr T d "need_heap" (zd (loc 0) (zd (loc 2) zv))))
  (qi (zr T d "led_from" (zd (loc 0) (zd (loc 1) (zd (loc 2) zv)))))))
def zan(T:TC)(d:Nat):SW:=(zt (zY 7 (qU 8 (zai (loc 1)) (some (wQ (inL false (loc 6) (loc 8)) (orW (inD false (zT (loc 8) (val (.int 0))) (loc 4)) (inD false (zT (loc 8) (val (.int 1))) (loc 4))))) (loc 8)))
  (qy (wQ (inD true (loc 6) (loc 4)) (qk .ge (j2 (zT (loc 2) (loc 6)) (yO (loc 7))) (zT (loc 3) (loc 6)))) (zaj (loc 4) (loc 6) (val (.bool true))) zP))
def zbS(T:TC)(d:Nat):SW:=(wO (.nm 6) (jl (loc 0)) (zan T d))
def zaE(T:TC)(d:Nat):SW:=(zt (zY 3 (zr T d "_law_degrees" (zd (loc 0) (zd (loc 1) zv))))
  (zt (qy (eqW true (qU 6 (jl (loc 0)) (some (zc9 (zbg .le .lt (val (.int 0)) (zT (loc 2) (loc 6)) (zT (loc 3) (loc 6))))) (loc 6)) (qw zv)) (qi (val (.bool false))) zP)
  (zt (zY 4 (zdK (loc 0) (val (.bool true))))
  (zt (wO (.nm 5) (jl (loc 0)) (zbS T d))
  (qi (qk .eq (yO (loc 4)) (j2 (loc 0) (val (.int 1)))))))))
noncomputable def zlO:List Str:=["many","roads","one","other","place"]
def zbp(T:TC)(d:Nat):SW:=(zt (qt (zr T d "need_net" (zd (loc 0) (zd (loc 1) zv))))
  (zt (qt (zr T d "need_heap" (zd (loc 0) (zd (loc 2) zv))))
  (zt (qt (zr T d "need_heap" (zd (loc 0) (zd (loc 3) zv))))
  (qi (zT (zr T d "fallen" (zd (loc 0) (zd (loc 1) (zd (qU 4 (jl (loc 0)) none (j2 (zT (loc 2) (loc 4)) (zT (loc 3) (loc 4)))) zv)))) (val (.int 0)))))))
noncomputable def zn0:List Str:=["many","roads"]
def zcl(T:TC)(d:Nat):SW:=(zt (qt (zr T d "need_net" (zd (loc 0) (zd (loc 1) zv))))
  (qi (zT (zr T d "led_from" (zd (loc 0) (zd (loc 1) (zd (mulL (qw (zd (val (.int 0)) zv)) (loc 0)) zv)))) (val (.int 0)))))
noncomputable def znU:List Str:=["many","roads","heap","grains"]
def zch(T:TC)(d:Nat):SW:=(zt (qt (zr T d "need_net" (zd (loc 0) (zd (loc 1) zv))))
  (zt (qt (zr T d "need_heap" (zd (loc 0) (zd (loc 2) zv))))
  (qi (zT (zr T d "led_from" (zd (loc 0) (zd (loc 1) (zd (qU 3 (zai (loc 2)) none (zaL (val (.int 0)) (loc 3))) zv)))) (val (.int 0))))))
end Mine
end
section
open PySem
namespace Mine
noncomputable def ziR:List Str:=["many","roads","heap"]
def yt(T:TC)(d:Nat):SW:=(qy (zc9 (tst (zr T d "is_again" (zd (loc 0) (zd (loc 1) (zd (loc 2) zv)))))) (zaN 6) zP)
noncomputable def znW:List Str:=["many","roads","heap","goal","whole","turns","place"]
def za1(T:TC)(d:Nat):SW:=(zt (qt (zr T d "need_net" (zd (loc 0) (zd (loc 1) zv))))
  (zt (qt (zr T d "need_heap" (zd (loc 0) (zd (loc 2) zv))))
  (zt (qt (zr T d "need_heap" (zd (loc 0) (zd (loc 3) zv))))
  (zt (qt (zr T d "need_again" (zd (loc 0) (zd (loc 1) (zd (loc 3) zv)))))
  (zt (zY 4 (zr T d "determinant" (zd (zr T d "table_of" (zd (loc 0) (zd (loc 1) zv))) zv)))
  (zt (zY 5 (zr T d "turns_for" (zd (loc 4) (zd (loc 2) zv))))
  (qi (qU 6 (jl (loc 0)) none (j2 (zaL (zT (loc 3) (loc 6)) (zT (loc 2) (loc 6))) (zbW (loc 4) (loc 5)))))))))))
noncomputable def zkm:List Str:=["many","roads","tree","number"]
def yk(T:TC)(d:Nat):SW:=(zt (qy (orW (zc9 (tst (zlq .list (loc 2)))) (qk .ne (yO (loc 2)) (loc 0))) (zaN 4) zP)
  (zt (qy (orW (zc9 (tst (zoy (qU 3 (zai (loc 2)) none (zr T d "is_within" (zd (loc 3) (zd (val (.int 0)) (zd (zaL (yO (loc 1)) (val (.int 1))) zv)))))))) (qk .ne (zi5 (loc 2)) (loc 0))) (zaN 4) zP)
  (qy (qk .ne (yO (zr T d "come_to" (zd (loc 0) (zd (qU 3 (zai (loc 2)) none (zT (loc 1) (loc 3))) zv)))) (j2 (loc 0) (val (.int 1)))) (zaN 4) zP)))
noncomputable def zlQ:List Str:=["roads","place","ends","number","road"]
def zbq(T:TC)(d:Nat):SW:=(qi (zp5 [3,4] (loc 0) (some (wQ (inL false (loc 1) (loc 4)) (inD false (zr T d "other_end" (zd (loc 4) (zd (loc 1) zv))) (loc 2)))) (loc 3)))
noncomputable def zlS:List Str:=["many","roads","place","older","layer","burnt"]
def zbt(T:TC)(d:Nat):SW:=(zt (zY 5 (j2 (yO (zr T d "roads_to" (zd (loc 1) (zd (loc 2) (zd (loc 3) zv))))) (yO (zr T d "roads_to" (zd (loc 1) (zd (loc 2) (zd (loc 4) zv)))))))
  (qi (zaL (zT (zr T d "counts_at" (zd (loc 0) (zd (loc 1) zv))) (loc 2)) (loc 5))))
noncomputable def zn3:List Str:=["older","layer","found"]
def za5(T:TC)(d:Nat):SW:=(zt (zY 2 (zmn (loc 0)))
  (zt (qt (zsM (loc 2) (loc 1)))
  (qi (loc 2))))
def zbj(T:TC)(d:Nat):SW:=(zt (zY 9 (zr T d "least_of" (zd (loc 0) (zd (loc 1) (zd (loc 8) (zd (loc 4) (zd (loc 5) zv)))))))
  (qy (wQ (inD true (loc 8) (loc 6)) (qk .ge (zT (loc 2) (loc 8)) (loc 9))) (zt (qt (zkY (loc 3) (zT (zr T d "roads_to" (zd (loc 1) (zd (loc 8) (zd (loc 5) zv)))) (zaL (zT (loc 2) (loc 8)) (loc 9)))))
  (zaj (loc 7) (loc 8) (val (.bool true)))) zP))
def zbi(T:TC)(d:Nat):SW:=(zt (zY 6 (zr T d "keys_of" (zd (loc 4) (zd (loc 5) zv))))
  (zt (zY 7 zaQ)
  (zt (wO (.nm 8) (jl (loc 0)) (zbj T d))
  (zt (zY 4 (loc 6))
  (zY 5 (loc 7))))))
def zeG(T:TC)(d:Nat):SW:=(zt (zY 4 zaQ)
  (zt (zY 5 (zdK (loc 0) (val (.bool true))))
  (zt (zfr (qk .gt (yO (loc 5)) (val (.int 0))) (zbi T d))
  (qi (zrJ (loc 3))))))
noncomputable def znV:List Str:=["many","roads","heap","tree","older","layer","burnt","fresh","place","least"]
def zci(T:TC)(d:Nat):SW:=(zt (qt (zr T d "need_net" (zd (loc 0) (zd (loc 1) zv))))
  (zt (qt (zr T d "need_heap" (zd (loc 0) (zd (loc 2) zv))))
  (zt (qt (zr T d "need_again" (zd (loc 0) (zd (loc 1) (zd (loc 2) zv)))))
  (zt (zY 3 (qw zv))
  (zeG T d)))))
def zbl(T:TC)(d:Nat):SW:=(zt (zY 9 (zr T d "roads_to" (zd (loc 1) (zd (loc 8) (zd (loc 5) zv)))))
  (zt (zY 10 (qU 11 (zai (loc 9)) (some (inL false (loc 11) (loc 2))) (loc 11)))
  (qy (wQ (inD true (loc 8) (loc 6)) (qk .gt (yO (loc 10)) (val (.int 0)))) (zt (zaj (loc 3) (loc 8) (j2 (zr T d "least_of" (zd (loc 0) (zd (loc 1) (zd (loc 8) (zd (loc 4) (zd (loc 5) zv)))))) (zsS (loc 9) (zT (loc 10) (val (.int 0))))))
  (zaj (loc 7) (loc 8) (val (.bool true)))) zP)))
def zbk(T:TC)(d:Nat):SW:=(zt (zY 6 (zr T d "keys_of" (zd (loc 4) (zd (loc 5) zv))))
  (zt (zY 7 zaQ)
  (zt (wO (.nm 8) (jl (loc 0)) (zbl T d))
  (zt (zY 4 (loc 6))
  (zY 5 (loc 7))))))
def zeK(T:TC)(d:Nat):SW:=(zt (zY 4 zaQ)
  (zt (zY 5 (zdK (loc 0) (val (.bool true))))
  (zt (zfr (qk .gt (yO (loc 5)) (val (.int 0))) (zbk T d))
  (qi (loc 3)))))
noncomputable def zn5:List Str:=["many","roads","tree","heap","older","layer","burnt","fresh","place","there","own","number"]
def za7(T:TC)(d:Nat):SW:=(zt (qt (zr T d "need_net" (zd (loc 0) (zd (loc 1) zv))))
  (zt (qt (zr T d "need_tree" (zd (loc 0) (zd (loc 1) (zd (loc 2) zv)))))
  (zt (zY 3 (mulL (qw (zd (val (.int 0)) zv)) (loc 0)))
  (zeK T d))))
end Mine
end
section
open PySem
namespace Mine
end Mine
end
section
open PySem
namespace Mine
def zhK(T:TC)(d:Nat):SW:=(zt (zY 6 (zr T d "solved" (zd (loc 4) (zd (qU 8 (jl (loc 0)) none (zaL (zT (loc 2) (loc 8)) (zT (loc 3) (loc 8)))) zv))))
  (zt (qy (tst (zsU (qU 7 (zai (loc 6)) none (qk .ne (jG (loc 7) (loc 5)) (val (.int 0)))))) (qi (val .none)) zP)
  (qi (qU 7 (zai (loc 6)) none (wn (loc 7) (loc 5))))))
noncomputable def zrw:List Str:=["many","roads","one","other","table","whole","found","number","place"]
def zfX(T:TC)(d:Nat):SW:=(zt (qt (zr T d "need_net" (zd (loc 0) (zd (loc 1) zv))))
  (zt (qt (zr T d "need_heap" (zd (loc 0) (zd (loc 2) zv))))
  (zt (qt (zr T d "need_heap" (zd (loc 0) (zd (loc 3) zv))))
  (zt (zY 4 (zr T d "table_of" (zd (loc 0) (zd (loc 1) zv))))
  (zt (zY 5 (zr T d "determinant" (zd (loc 4) zv)))
  (zhK T d))))))
noncomputable def zlU:List Str:=["many","roads"]
def zbu(T:TC)(d:Nat):SW:=(zt (qt (zr T d "need_net" (zd (loc 0) (zd (loc 1) zv))))
  (qi (zr T d "determinant" (zd (zr T d "table_of" (zd (loc 0) (zd (loc 1) zv))) zv))))
end Mine
end
section
open PySem
namespace Mine
noncomputable def ziQ:List Str:=["many","roads","road"]
def yr(T:TC)(d:Nat):SW:=(zt (qy (orW (zc9 (tst (zr T d "is_within" (zd (loc 0) (zd (val (.int 0)) (zd (val (.int 10)) zv)))))) (orW (zc9 (tst (zlq .list (loc 1)))) (qk .gt (yO (loc 1)) (val (.int 40))))) (zaN 1) zP)
  (qy (orW (zc9 (tst (zoy (qU 2 (zai (loc 1)) none (zr T d "is_road" (zd (loc 0) (zd (loc 2) zv))))))) (qk .ne (yO (zr T d "come_to" (zd (loc 0) (zd (loc 1) zv)))) (j2 (loc 0) (val (.int 1))))) (zaN 1) zP))
noncomputable def zhr:List Str:=["many","heap","grains"]
def ya(T:TC)(d:Nat):SW:=(zt (qy (orW (zc9 (tst (zlq .list (loc 1)))) (qk .ne (yO (loc 1)) (loc 0))) (zaN 2) zP)
  (qy (zc9 (tst (zoy (qU 2 (zai (loc 1)) none (zr T d "is_within" (zd (loc 2) (zd (val (.int 0)) (zd (val (.int 1000000000)) zv)))))))) (zaN 2) zP))
noncomputable def zhv:List Str:=["_law_way","_law_many","_law_roads","_law_one","_law_other","_law_place","_law_tree_here"]
def yb(T:TC)(d:Nat):SW:=(zt (qy (qk .eq (loc 0) (val (.int 0))) (qi (zr T d "degrees" (zd (loc 1) (zd (loc 2) zv)))) zP)
  (zt (qy (qk .eq (loc 0) (val (.int 1))) (qi (zr T d "how_many" (zd (loc 1) (zd (loc 2) zv)))) zP)
  (zt (qy (qk .eq (loc 0) (val (.int 2))) (qi (zr T d "nothing" (zd (loc 1) (zd (loc 2) zv)))) zP)
  (zt (qy (qk .eq (loc 0) (val (.int 3))) (qi (zr T d "at_rest" (zd (loc 1) (zd (loc 2) (zd (loc 3) zv))))) zP)
  (zt (qy (qk .eq (loc 0) (val (.int 4))) (qi (zr T d "settled" (zd (loc 1) (zd (loc 2) (zd (loc 3) zv))))) zP)
  (zt (qy (qk .eq (loc 0) (val (.int 5))) (qi (zr T d "comes_again" (zd (loc 1) (zd (loc 2) (zd (loc 3) zv))))) zP)
  (zt (qy (qk .eq (loc 0) (val (.int 6))) (qi (zr T d "led" (zd (loc 1) (zd (loc 2) (zd (loc 3) zv))))) zP)
  (zt (qy (qk .eq (loc 0) (val (.int 7))) (qi (zr T d "undoing" (zd (loc 1) (zd (loc 2) (zd (loc 3) zv))))) zP)
  (zt (qy (qk .eq (loc 0) (val (.int 8))) (qi (zr T d "alike" (zd (loc 1) (zd (loc 2) (zd (loc 3) (zd (loc 4) zv)))))) zP)
  (zt (qy (qk .eq (loc 0) (val (.int 9))) (qi (zr T d "together" (zd (loc 1) (zd (loc 2) (zd (loc 3) (zd (loc 4) zv)))))) zP)
  (zt (qy (qk .eq (loc 0) (val (.int 10))) (qi (zr T d "towards" (zd (loc 1) (zd (loc 2) (zd (loc 3) (zd (loc 4) zv)))))) zP)
  (zt (qy (qk .eq (loc 0) (val (.int 11))) (qi (zr T d "tree_of" (zd (loc 1) (zd (loc 2) (zd (loc 3) zv))))) zP)
  (zt (qy (qk .eq (loc 0) (val (.int 12))) (qi (zr T d "toppled" (zd (loc 1) (zd (loc 2) (zd (loc 3) (zd (loc 5) zv)))))) zP)
  (qi (zr T d "heap_of" (zd (loc 1) (zd (loc 2) (zd (loc 6) zv))))))))))))))))))
def y0(T:TC)(d:Nat)(c:Addr):SW:=(zt (zY 8 (qw (zd (zm0 [0,1,2,3,4,5,6] 1 (loc 7)) (zd (zm0 [0,1,2,3,4,5,6] 2 (loc 7)) (zd (zm0 [0,1,2,3,4,5,6] 3 (loc 7)) (zd (zm0 [0,1,2,3,4,5,6] 4 (loc 7)) zv))))))
  (zt (zY 8 (zl3 (loc 8) (qw (zd (zm0 [0,1,2,3,4,5,6] 5 (loc 7)) (zd (zm0 [0,1,2,3,4,5,6] 6 (loc 7)) zv)))))
  (zt (qy (orW (zc9 (tst (zsQ [0,1,2,3,4,5,6] (loc 7)))) (qk .ne (yO (qU 3 (zrI c (loc 8)) (some (tst (loc 3))) (loc 3))) (val (.int 1)))) (qi (val (.int 7))) zP)
  (qi (zrU (loc 8))))))
noncomputable def zbn:List Str:=["_law_way","_law_many","_law_roads","_law_one","_law_other","_law_place","_law_tree_here","e","_law_marks"]
def wd(T:TC)(d:Nat):SW:=(zt (zsN [0,1,2,3,4,5,6] (zr T d "_law_asked" (zd (loc 0) (zd (loc 1) (zd (loc 2) (zd (loc 3) (zd (loc 4) (zd (loc 5) (zd (loc 6) zv)))))))) 7 (y0 T d))
  (qi (val (.int 6))))
noncomputable def ziU:List Str:=["_law_way","_law_many","_law_roads","_law_one","_law_other","_law_place"]
def wf(T:TC)(d:Nat):SW:=(zt (qy (orW (wQ (qk .eq (loc 0) (val (.int 10))) (zc9 (tst (zr T d "_law_again" (zd (loc 1) (zd (loc 2) (zd (loc 4) zv))))))) (wQ (qk .eq (loc 0) (val (.int 11))) (zc9 (tst (zr T d "_law_again" (zd (loc 1) (zd (loc 2) (zd (loc 3) zv)))))))) (qi (val (.int 5))) zP)
  (zt (qy (wQ (qk .eq (loc 0) (val (.int 12))) (qk .lt (zT (loc 3) (loc 5)) (zT (zr T d "_law_degrees" (zd (loc 1) (zd (loc 2) zv))) (loc 5)))) (qi (val (.int 4))) zP)
  (qi (val (.int 6)))))
noncomputable def zko:List Str:=["_law_cell"]
def yW(T:TC)(d:Nat):SW:=(qi (zT (qw (zd (val .none) (zd (zmQ (val (.int 1))) (zd (val (.bool true)) (zd (val (.str "2")) (zd (j2 (zmI (val (.int 10)) (val (.int 9))) (val (.int 1))) (zd (qw (zd (val (.int 1)) zv)) (zd (val (.bool false)) (zd (zau (zd (val (.int 0)) zv)) zv))))))))) (jG (loc 0) (val (.int 8)))))
noncomputable def zkn:List Str:=["_law_row","_law_thing","_law_cell","_law_at"]
def jI(T:TC)(d:Nat):SW:=(zt (zY 3 (jG (loc 2) (zlm (val (.int 1)) (yO (loc 0)))))
  (qi (zl3 (zl3 (zhG (loc 0) (loc 3)) (qw (zd (loc 1) zv))) (zjy (loc 0) (j2 (loc 3) (val (.int 1)))))))
def yM(T:TC)(d:Nat):SW:=(qy (qk .lt (yO (loc 5)) (val (.int 40))) (qt (zkY (loc 5) (zau (zd (zT (loc 4) (zaL (loc 6) (val (.int 1)))) (zd (zT (loc 4) (loc 6)) zv))))) zP)
noncomputable def zfp:List Str:=["_law_many","_law_roads","_law_cell","_law_lone","_law_some","_law_found","_law_k","_law_road"]
def jB(T:TC)(d:Nat):SW:=(zt (zY 3 (jG (loc 2) (loc 0)))
  (zt (zY 4 (qU 6 (jl (loc 0)) (some (orW (qk .eq (loc 6) (loc 3)) (qk .lt (jG (zbW (j2 (wn (loc 2) (val (.int 11))) (zbW (val (.int 7)) (loc 6))) (j2 (loc 6) (val (.int 3)))) (val (.int 5))) (val (.int 2))))) (loc 6)))
  (zt (zY 5 (qU 7 (zai (loc 1)) (some (eqB false (inL false (zT (loc 7) (val (.int 0))) (loc 4)) (inL false (zT (loc 7) (val (.int 1))) (loc 4)))) (loc 7)))
  (zt (wO (.nm 6) (zf3 (val (.int 1)) (yO (loc 4))) (yM T d))
  (qi (loc 5))))))
def ww(T:TC)(d:Nat):SW:=(zt (zY 4 (qw (zd (zau (zd (val (.int 0)) (zd (val (.int 0)) zv))) (zd (zau (zd (val (.int 0)) (zd (j2 (loc 0) (val (.int 1))) zv))) (zd (zau (zd (zmQ (val (.int 1))) (zd (loc 0) zv))) (zd (qw (zd (val (.int 0)) (zd (loc 0) zv))) (zd (zau (zd (val (.int 0)) zv)) (zd (zau (zd (val (.int 0)) (zd (loc 0) (zd (val (.int 0)) zv)))) (zd (val .none) (zd (zau (zd (val (.bool false)) (zd (loc 0) zv))) (zd (zau (zd (val (.str "0")) (zd (loc 0) zv))) zv)))))))))))
  (zt (zY 5 (zT (loc 4) (jG (wn (loc 2) (val (.int 6))) (val (.int 9)))))
  (zt (qy (wQ (tst (zlq .tuple (loc 5))) (qk .eq (jG (wn (loc 2) (val (.int 54))) (val (.int 2))) (val (.int 1)))) (zY 5 (zrL (loc 5))) zP)
  (qi (zau (zd (loc 0) (zd (zr T d "_law_put" (zd (loc 1) (zd (loc 5) (zd (wn (loc 2) (val (.int 108))) zv)))) zv)))))))
noncomputable def zfR:List Str:=["_law_many","_law_roads","_law_cell","_law_way","_law_bad","_law_odd_here"]
def yj(T:TC)(d:Nat):SW:=(zt (zY 3 (jG (loc 2) (val (.int 6))))
  (zt (qy (qk .eq (loc 3) (val (.int 0))) (qi (zau (zd (zT (qw (zd (val .none) (zd (zmQ (val (.int 1))) (zd (val (.bool true)) (zd (val (.bool false)) (zd (val (.str "2")) (zd (val (.int 11)) (zd (zmI (val (.int 10)) (val (.int 9))) zv)))))))) (jG (wn (loc 2) (val (.int 6))) (val (.int 7)))) (zd (loc 1) zv)))) zP)
  (zt (qy (qk .eq (loc 3) (val (.int 1))) (qi (zau (zd (loc 0) (zd (zT (qw (zd (val .none) (zd (zdD (loc 1)) (zd zaQ zv)))) (jG (wn (loc 2) (val (.int 6))) (val (.int 3)))) zv)))) zP)
  (zt (qy (wQ (qk .eq (loc 3) (val (.int 2))) (qk .gt (loc 0) (val (.int 0)))) (qi (zau (zd (loc 0) (zd (zr T d "_law_cut_off" (zd (loc 0) (zd (loc 1) (zd (wn (loc 2) (val (.int 6))) zv)))) zv)))) zP)
  (zt (qy (wQ (qk .eq (loc 3) (val (.int 3))) (qk .gt (loc 0) (val (.int 0)))) (qi (zau (zd (loc 0) (zd (zhG (mulL (loc 1) (val (.int 41))) (val (.int 41))) zv)))) zP)
  (ww T d))))))
noncomputable def zfo:List Str:=["_law_heap","_law_cell","_law_way"]
def j5(T:TC)(d:Nat):SW:=(zt (zY 2 (jG (loc 1) (val (.int 5))))
  (zt (qy (qk .eq (loc 2) (val (.int 0))) (qi (zT (qw (zd (val .none) (zd (zdD (loc 0)) (zd zaQ zv)))) (jG (wn (loc 1) (val (.int 5))) (val (.int 3))))) zP)
  (zt (qy (wQ (qk .eq (loc 2) (val (.int 1))) (eqW true (loc 0) (qw zv))) (qi (zjy (loc 0) (val (.int 1)))) zP)
  (zt (qy (orW (qk .eq (loc 2) (val (.int 2))) (eqW false (loc 0) (qw zv))) (qi (zl3 (loc 0) (qw (zd (val (.int 0)) zv)))) zP)
  (qi (zr T d "_law_put" (zd (loc 0) (zd (zr T d "_law_odd" (zd (wn (loc 1) (val (.int 5))) zv)) (zd (wn (loc 1) (val (.int 40))) zv)))))))))
noncomputable def zfn:List Str:=["_law_tree_here","_law_roads","_law_cell","_law_way"]
def j4(T:TC)(d:Nat):SW:=(zt (zY 3 (jG (loc 2) (val (.int 4))))
  (zt (qy (qk .eq (loc 3) (val (.int 0))) (qi (zT (qw (zd (val .none) (zd (zdD (loc 0)) (zd zaQ zv)))) (jG (wn (loc 2) (val (.int 4))) (val (.int 3))))) zP)
  (zt (qy (wQ (qk .eq (loc 3) (val (.int 1))) (eqW true (loc 0) (qw zv))) (qi (zjy (loc 0) (val (.int 1)))) zP)
  (zt (qy (orW (qk .eq (loc 3) (val (.int 2))) (eqW false (loc 0) (qw zv))) (qi (zl3 (loc 0) (qw (zd (val (.int 0)) zv)))) zP)
  (qi (zr T d "_law_put" (zd (loc 0) (zd (zT (qw (zd (val .none) (zd (zmQ (val (.int 1))) (zd (val (.bool true)) (zd (val (.str "0")) (zd (yO (loc 1)) (zd (val (.bool false)) zv))))))) (jG (wn (loc 2) (val (.int 4))) (val (.int 6)))) (zd (wn (loc 2) (val (.int 24))) zv)))))))))
def zaa(T:TC)(d:Nat):SW:=(zt (zjE [6,7] (zT (loc 1) (loc 5)))
  (qy (eqB true (inD false (loc 6) (loc 2)) (inD false (loc 7) (loc 2))) (zt (zaj (loc 2) (loc 6) (val (.bool true)))
  (zt (zaj (loc 2) (loc 7) (val (.bool true)))
  (qt (zkY (loc 3) (loc 5))))) zP))
def w9(T:TC)(d:Nat):SW:=(wO (.nm 5) (jl (yO (loc 1))) (zaa T d))
noncomputable def ziT:List Str:=["_law_many","_law_roads","_law_met","_law_tree_here","_law_turn","_law_number","_law_one","_law_other"]
def y9(T:TC)(d:Nat):SW:=(zt (zY 2 (zdK (loc 0) (val (.bool true))))
  (zt (zY 3 (qw zv))
  (zt (wO (.nm 4) (jl (loc 0)) (w9 T d))
  (qi (loc 3)))))
def wp(T:TC)(d:Nat):SW:=(qi (zau (zd (loc 4) (zd (loc 5) zv))))
def wq(T:TC)(d:Nat):SW:=(zt (qy (qk .eq (jG (zT (loc 6) (val (.int 0))) (val (.int 4))) (val (.int 1))) (zt (zql (loc 4) (val (.int 0)) (loc 4) (val (.int 1)) (zr T d "_law_no_net" (zd (loc 7) (zd (loc 8) (zd (wn (zT (loc 6) (val (.int 0))) (val (.int 4))) zv)))))
  (zY 5 (val (.int 0)))) zP)
  (wp T d))
def wt(T:TC)(d:Nat):SW:=(zt (qy (qk .eq (jG (zT (loc 6) (val (.int 1))) (val (.int 3))) (val (.int 1))) (zt (zaj (loc 4) (val (.int 2)) (zr T d "_law_no_heap" (zd (zT (loc 2) (val (.int 2))) (zd (wn (zT (loc 6) (val (.int 1))) (val (.int 3))) zv))))
  (qy (zbg .lt .lt (val (.int 2)) (loc 1) (val (.int 13))) (zY 5 (val (.int 1))) zP)) zP)
  (wq T d))
def wu(T:TC)(d:Nat):SW:=(zt (qy (qk .eq (jG (zT (loc 6) (val (.int 2))) (val (.int 4))) (val (.int 1))) (zt (zaj (loc 4) (val (.int 3)) (zr T d "_law_no_heap" (zd (zT (loc 2) (val (.int 3))) (zd (wn (zT (loc 6) (val (.int 2))) (val (.int 4))) zv))))
  (qy (zbg .lt .lt (val (.int 7)) (loc 1) (val (.int 11))) (zY 5 (val (.int 1))) zP)) zP)
  (wt T d))
def wv(T:TC)(d:Nat):SW:=(zt (qy (qk .eq (jG (zT (loc 6) (val (.int 3))) (val (.int 3))) (val (.int 1))) (zt (zaj (loc 4) (val (.int 4)) (zT (qw (zd (zmQ (val (.int 1))) (zd (loc 7) (zd (val .none) (zd (val (.bool true)) (zd (val (.str "0")) (zd (zmI (val (.int 10)) (val (.int 9))) zv))))))) (jG (wn (zT (loc 6) (val (.int 3))) (val (.int 3))) (val (.int 6)))))
  (zt (zaj (loc 4) (val (.int 5)) (zr T d "_law_no_tree" (zd (zT (loc 2) (val (.int 5))) (zd (loc 8) (zd (wn (zT (loc 6) (val (.int 3))) (val (.int 3))) zv)))))
  (qy (qk .gt (loc 1) (val (.int 11))) (zY 5 (zaL (loc 1) (val (.int 10)))) zP))) zP)
  (wu T d))
noncomputable def zfQ:List Str:=["_law_script","_law_way","_law_good","_law_last_here","_law_asked_here","_law_due","_law_cells","_law_many","_law_roads","_law_k"]
def yi(T:TC)(d:Nat):SW:=(zt (zqr [7,8] (zhG (loc 2) (val (.int 2))))
  (zt (zY 4 (zfl (loc 2)))
  (zt (zY 5 (loc 3))
  (zt (zY 6 (qU 9 (jl (val (.int 4))) none (zr T d "_law_cell_at" (zd (loc 0) (zd (j2 (val (.int 43)) (loc 9)) zv)))))
  (wv T d)))))
def zeu(T:TC)(d:Nat):SW:=(zt (qy (eqW true (zr T d "_law_told" (zd (loc 1) (zd (zT (loc 9) (val (.int 0))) (zd (zT (loc 9) (val (.int 1))) (zd (zT (loc 9) (val (.int 2))) (zd (zT (loc 9) (val (.int 3))) (zd (zT (loc 9) (val (.int 4))) (zd (zT (loc 9) (val (.int 5))) zv)))))))) (loc 10)) (qi (val (.bool false))) zP)
  (qi (qk .eq (zr T d "_law_told" (zd (loc 1) (zd (loc 7) (zd (loc 8) (zd (loc 2) (zd (loc 3) (zd (loc 4) (zd (zT (loc 5) (val (.int 5))) zv)))))))) (loc 6))))
def zev(T:TC)(d:Nat):SW:=(zt (zjE [9,10] (zr T d "_law_spoilt" (zd (loc 0) (zd (loc 1) (zd (loc 5) (zd (loc 6) zv))))))
  (zeu T d))
def za4(T:TC)(d:Nat):SW:=(zt (zY 5 (qw (zd (loc 7) (zd (loc 8) (zd (loc 2) (zd (loc 3) (zd (loc 4) (zd (zr T d "_law_tree" (zd (loc 7) (zd (loc 8) zv))) zv))))))))
  (zt (zY 6 (zr T d "_law_last" (zd (loc 1) (zd (loc 7) (zd (loc 8) (zd (loc 2) (zd (loc 3) (zd (loc 4) zv))))))))
  (zev T d)))
def zew(T:TC)(d:Nat):SW:=(zt (qy (wQ (qk .eq (jG (zr T d "_law_cell_at" (zd (loc 0) (zd (val (.int 41)) zv))) (val (.int 2))) (val (.int 1))) (qk .gt (loc 7) (val (.int 0)))) (zaj (loc 2) (loc 4) (zT (zr T d "_law_degrees" (zd (loc 7) (zd (loc 8) zv))) (loc 4))) zP)
  (zt (qy (wQ (qk .eq (jG (zr T d "_law_cell_at" (zd (loc 0) (zd (val (.int 41)) zv))) (val (.int 16))) (val (.int 2))) (wQ (zbg .lt .lt (val (.int 0)) (loc 7) (val (.int 3))) (qk .lt (yO (loc 8)) (val (.int 9))))) (zaj (loc 2) (loc 4) (zmI (val (.int 10)) (val (.int 9)))) zP)
  (za4 T d)))
def zcn(T:TC)(d:Nat):SW:=(zt (zY 2 (zr T d "_law_low" (zd (loc 0) (zd (val (.int 20)) (zd (loc 7) (zd (loc 8) zv))))))
  (zt (zY 3 (zr T d "_law_low" (zd (loc 0) (zd (val (.int 30)) (zd (loc 7) (zd (loc 8) zv))))))
  (zt (zY 4 (jG (zr T d "_law_cell_at" (zd (loc 0) (zd (val (.int 40)) zv))) (zlm (val (.int 1)) (loc 7))))
  (zew T d))))
noncomputable def zrv:List Str:=["_law_script","_law_way","_law_one","_law_other","_law_place","_law_good","_law_last_here","_law_many","_law_roads","_law_asked_here","_law_due"]
def zfW(T:TC)(d:Nat):SW:=(zt (zjE [7,8] (zr T d "_law_net" (zd (loc 0) (zd (val (.int 1)) zv))))
  (zt (zY 1 (zT (qw (zd (val (.int 0)) (zd (val (.int 1)) (zd (val (.int 2)) (zd (val (.int 3)) (zd (val (.int 4)) (zd (val (.int 5)) (zd (val (.int 6)) (zd (val (.int 7)) (zd (val (.int 8)) (zd (val (.int 9)) (zd (val (.int 10)) (zd (val (.int 11)) (zd (val (.int 12)) (zd (val (.int 13)) (zd (val (.int 12)) (zd (val (.int 13)) (zd (val (.int 10)) (zd (val (.int 11)) zv))))))))))))))))))) (jG (zr T d "_law_cell_at" (zd (loc 0) (zd (val (.int 19)) zv))) (val (.int 18)))))
  (zt (qy (wQ (qk .eq (loc 7) (val (.int 0))) (qk .eq (loc 1) (val (.int 12)))) (zY 1 (val (.int 13))) zP)
  (zcn T d))))
end Mine
end
section
open PySem
namespace Mine
noncomputable def lst(n:Nat)(f:Nat->Int):List Int:=(kab n).map f
theorem qN(n f):(lst n f).length=n:=by simp [lst]
theorem wB{n:Nat}(f){i:Nat}(h:i<n):(lst n f)[i]?=some (f i):=by simp [lst,h]
theorem zcJ{n f g}(h:∀ i,i<n->f i=g i):lst n f=lst n g:=by
 unfold lst
 exact kbW fun i hi=>h i (kam.mp hi)
theorem zmS{n:Nat}(f){i:Nat}(h:i<n)(x:Int):(lst n f).set i x=lst n (upd f i x):=by
 apply kcR
 intro j
 by_cases hj:j<n
 ·rw [wB _ hj,kcP]
  by_cases e:i=j
  ·subst e;simp [qN,hj,upd]
  ·rw [if_neg e,wB _ hj];simp [upd,Ne.symm e]
 ·rw [kbw (by simp [qN];exact kbZ.mp ‹_›),kbw (by simp [qN];exact kbZ.mp ‹_›)]
theorem zmT{n f g}(h:lst n f=lst n g):∀ i,i<n->f i=g i:=fun i hi=>by
 have:=congrArg (·[i]?) h
 simp only [wB _ hi] at this
 exact Option.some.inj this
theorem zgi(n:Nat)(x:Int):kaE n x=lst n fun _=>x:=by
 apply kcR
 intro j
 by_cases hj:j<n
 ·rw [wB _ hj];simp [hj]
 ·rw [kbw (by simp;exact kbZ.mp ‹_›),kbw (by simp [qN];exact kbZ.mp ‹_›)]
theorem zsr(l:List Int):l=lst l.length fun i=>l.getD i 0:=by
 apply kcR
 intro j
 by_cases hj:j<l.length
 ·rw [wB _ hj];simp [hj]
 ·rw [kbw (by exact leN ((nuI hj))),kbw (by simp [qN];exact kbZ.mp ‹_›)]
theorem zcc(n f):lst (n+1) f=lst n f++[f n]:=by simp [lst,ka4]
def L(J:zc)(a:Addr)(n:Nat)(f:Nat->Int):Prop:=qJ J a (lst n f)
theorem L.ext{J J' a n f}(h:L J a n f)(e:Ext J J'):L J' a n f:=e _ _ h
theorem L.cong{J a n f g}(h:L J a n f)(e:∀ i,i<n->f i=g i):L J a n g:=by unfold L;rw [<-zcJ e];exact h
theorem L.seq{J a n f k}(h:L J a n f):yo J a k=k (zs (lst n f)):=zbD h
theorem L.item{n:Nat}{f:Nat->Int}{i:Nat}{k:V->Prop}(hi:i<n):yh (zs (lst n f)) i k=k (.int (f i)):=yx (zbb (wB f hi))
theorem L.at{J a n f}(h:L J a n f){i:Int}{k:V->Prop}(h0:0<=i)(hi:i<n)(hk:k (.int (f i.toNat))):0<=i/\yo J a fun xs=>yh xs i.toNat k:=by
 refine ⟨h0,?_⟩
 rw [h.seq,L.item (by exact ltN (lit r3 V0 V1 [(1,1,V2,V1),(2,1,V0,V2)] rfl hi (tnn (h0))))];exact hk
theorem L.set{J a n f}(h:L J a n f){i x:Int}{k:zc->Prop}(h0:0<=i)(hi:i<n)(hk:∀ J',J'=put J a (.list (zs (lst n (upd f i.toNat x))))->k J'):zd5 J a i (.int x) k:=by
 rw [j8 h,qb,qN]
 refine ⟨h0,by assumption,hk _ ?_⟩
 rw [zl9,zmS f (by exact ltN (lit r3 V0 V1 [(1,1,V2,V1),(2,1,V0,V2)] rfl hi (tnn (h0))))]
theorem zaA{m:Int}{rs:Rd2}(hm:0<=m)(hp:∀ p∈rs,0<=p.1/\0<=p.2):degs m rs=lst m.toNat (z4 rs):=by
 have bl:∀ (f:Nat->Int) (e:Int),0<=e->zaX m (lst m.toNat f) e=lst m.toNat fun v=>f v+if e=(v:Int) then 1 else 0:=by
  intro f e he
  unfold zaX
  by_cases h:e<m
  ·rw [if_pos h,zmS f (by exact ltN (lit r4 V0 V1 [(1,1,V2,V3),(2,1,V0,V2),(2,-1,V1,V3)] rfl h (tnn (he)) (tnn (hm))))]
   have:(lst m.toNat f).getD e.toNat 0=f e.toNat:=by rw [kaS,wB f (by exact ltN (lit r4 V0 V1 [(1,1,V2,V3),(2,1,V0,V2),(2,-1,V1,V3)] rfl h (tnn (he)) (tnn (hm))))];rfl
   rw [this]
   refine zcJ fun v hv=>?_
   unfold upd
   by_cases hev:e=(v:Int)
   ·have:v=e.toNat:=by exact eqN (liq r3 V0 V1 [(2,-1,V2,V0),(2,-1,V1,V2)] rfl hev (tnn (lin r2 N0 V0 [(2,-1,V0,V1),(0,1,N0,V1)] rfl hev (nnI _))))
    simp [hev]
   ·have:¬ v=e.toNat:=by exact (fun h_=>lif r3 [(2,1,V0,V1),(2,1,V1,V2),(1,1,V2,V0)] rfl (eqI h_) (tnn (he)) (yN (lin r3 V0 V1 [(2,-1,V1,V2),(2,-1,V2,V0)] rfl (eqI h_) (tnn (he))) hev))
    simp [hev,this]
  ·rw [if_neg h]
   refine zcJ fun v hv=>?_
   have:¬ e=(v:Int):=by exact (fun h_=>lif r3 [(4,1,V0,V1),(1,1,V2,V1),(2,1,V0,V2)] rfl h (ka0.mp hv) h_)
   simp [this]
 have key:∀ (rs:Rd2) (f:Nat->Int),(∀ p∈rs,0<=p.1/\0<=p.2)->zce m (lst m.toNat f) rs=lst m.toNat fun v=>f v+z4 rs v:=by
  intro rs
  induction rs with
  | nil=>intro f _;simp [zce,z4,ye,jr]
  | cons p rs ih =>
   intro f h
   have hp:=h p (by simp)
   show zce m (zaX m (zaX m (lst m.toNat f) p.1) p.2) rs=_
   rw [bl f p.1 hp.1,bl _ p.2 hp.2,ih _ fun q hq=>h q (by simp [hq])]
   refine zcJ fun v _=>?_
   have:z4 (p::rs) v=(if p.1=(v:Int) then 1 else 0)+(if p.2=(v:Int) then 1 else 0)+z4 rs v:=by
    unfold z4 ye
    rw [kdF,zdU]
    simp only [jr];exact liq r3 (.add (.add V0 (.add V1 N0)) V2) (.add (.add V0 V1) V2) [] rfl
   rw [this];exact liq r4 (.add (.add (.add V0 V1) V2) V3) (.add V0 (.add (.add V1 V2) V3)) [] rfl
 unfold degs
 rw [zgi,key rs _ hp]
 exact zcJ fun v _=>by exact liq r1 (.add N0 V0) V0 [] rfl

structure Tab(J:zc)(a:Addr)(n:Nat)(as:List Addr)(f:Nat->Nat->Int):Prop where
 head:J a=some (.list (as.map V.ref))
 len:as.length=n
 row:∀ i b,as[i]?=some b->L J b n (f i)
theorem Tab.ext{J J' a n as f}(h:Tab J a n as f)(e:Ext J J'):Tab J' a n as f:=⟨e _ _ h.head,h.len,fun i b hb=>(h.row i b hb).ext e⟩
theorem Tab.at{J a n as f}(h:Tab J a n as f){i:Int}{k:V->Prop}(h0:0<=i)(hi:i<n)(hk:∀ b,as[i.toNat]?=some b->L J b n (f i.toNat)->k (.ref b)):0<=i/\yo J a fun xs=>yh xs i.toNat k:=by
 refine ⟨h0,?_⟩
 refine qm h.head ?_
 have hl:i.toNat<as.length:=by have:=h.len;exact ltN (lit r4 V0 V1 [(1,1,V2,V3),(2,-1,V1,V3),(2,1,V0,V2)] rfl hi (eqI this) (tnn (h0)))
 refine qq (v:=.ref as[i.toNat]) (by simp [hl]) ?_
 exact hk _ (by simp [hl]) (h.row _ _ (by simp [hl]))
noncomputable def zk3(f:Nat->Nat->Int)(i j:Nat)(x:Int):Nat->Nat->Int:=fun u=>if u=i then upd (f i) j x else f u
theorem Tab.put{J a n as f}(h:Tab J a n as f)(nd:as.Nodup){i j:Nat}{b:Addr}(hb:as[i]?=some b)(hj:j<n)(x:Int):Tab (put J b (.list (zs (lst n (upd (f i) j x))))) a n as (zk3 f i j x):=by
 have hne:a≠b:=by
  rintro rfl
  have h1:=h.head
  have h2:=h.row i a hb
  unfold L qJ at h2
  rw [h1] at h2
  have h3:as.map V.ref=zs (lst n (f i)):=by injection h2 with h2;injection h2
  have h4:=congrArg (·[i]?) h3
  have hi:i<n:=by have:=(kah.mp hb).1;have:=h.len;exact ltN (lit r3 V0 V1 [(1,1,V0,V2),(2,1,V2,V1)] rfl (ltI ‹_›) (eqI this))
  simp only [kaP,hb,kcB] at h4
  rw [zbb (wB (f i) hi)] at h4
  cases h4
 refine ⟨by rw [zO _ hne];exact h.head,h.len,fun u c hc=>?_⟩
 unfold zk3
 by_cases hu:u=i
 ·subst hu
  rw [hb] at hc;cases hc
  rw [if_pos rfl]
  exact zB _ _ _
 ·rw [if_neg hu]
  have hcb:c≠b:=by
   rintro rfl
   have h1:=(kah.mp hb)
   have h2:=(kah.mp hc)
   obtain ⟨l1,e1⟩:=h1
   obtain ⟨l2,e2⟩:=h2
   exact hu ((kcY (h₀:=l2) (h₁:=l1) nd).mp (e2.trans e1.symm))
  show qJ _ _ _
  unfold qJ
  rw [zO _ hcb]
  exact h.row u c hc
noncomputable def zqC(l:Rd2)(v u:Nat):Int:=jr l fun a=>if a.1=(v:Int) then (if u=v then 1 else 0) - (if a.2=(u:Int) then 1 else 0) else 0
theorem znq(l:Rd2)(a:Int × Int)(v u:Nat):zqC (l++[a]) v u=zqC l v u+if a.1=(v:Int) then (if u=v then 1 else 0) - (if a.2=(u:Int) then 1 else 0) else 0:=by
 unfold zqC;rw [zdU];simp [jr]
theorem Tab.cong{J a n as f g}(h:Tab J a n as f)(e:∀ i j,i<n->j<n->f i j=g i j):Tab J a n as g :=
 ⟨h.head,h.len,fun i b hb=>(h.row i b hb).cong fun j hj=>e i j (by have:=(kah.mp hb).1;have:=h.len;exact ltN (lit r3 V0 V1 [(1,1,V0,V2),(2,1,V2,V1)] rfl (ltI ‹_›) (eqI this))) hj⟩
theorem zod{rs:Rd2}{i:Nat}{p:Int × Int}(h:rs[i]?=some p):ye (rs.take (i+1))=ye (rs.take i)++[(p.1,p.2),(p.2,p.1)]:=by
 unfold ye;rw [kaN,h];simp
theorem zat(f i j x u v):zk3 f i j x u v=if u=i then (if v=j then x else f i v) else f u v:=by
 unfold zk3;split<;>simp [upd]
theorem znf(f:Nat->Nat->Int){p e:Nat}(i j:Nat)(hej:e≠j):zk3 f p p (f p p+1) i j=f i j+if p=i then (if j=i then 1 else 0) - (if e=j then 1 else 0) else 0:=by
 by_cases h:p=i
 ·subst h
  rw [zat,if_pos rfl,if_pos rfl,if_neg hej,kcH]
  by_cases h2:j=p
  ·subst h2;rw [if_pos rfl,if_pos rfl]
  ·rw [if_neg h2,if_neg h2,kbb]
 ·rw [zat,if_neg (Ne.symm h),if_neg h,kbb]
theorem zpz(f:Nat->Nat->Int){p e:Nat}(hne:p≠e)(i j:Nat):zk3 (zk3 f p p (f p p+1)) p e (zk3 f p p (f p p+1) p e - 1) i j=f i j+if p=i then (if j=i then 1 else 0) - (if e=j then 1 else 0) else 0:=by
 by_cases h2:e=j
 ·subst h2
  by_cases h:p=i
  ·subst h
   rw [zat,if_pos rfl,if_pos rfl,zat,if_pos rfl,if_neg (Ne.symm hne),if_pos rfl,if_neg (Ne.symm hne),if_pos rfl];rfl
  ·rw [zat,if_neg (Ne.symm h),zat,if_neg (Ne.symm h),if_neg h,kbb]
 ·rw [zat,<-znf f i j h2]
  by_cases h:i=p
  ·subst h;rw [if_pos rfl,if_neg (Ne.symm h2)]
  ·rw [if_neg h]
section
variable {T:TC} {d:Nat} {J:zc} {Q:V->zc->Prop} {P:Nat->zc->Prop}
theorem zoh{m:Int}{Z:zK}{a:EW}(hm:0<=m)(hm':m<=10)(ha:∀ (J:zc) (Q:V->zc->Prop) (P:Nat->zc->Prop),a Z J Q P=Q (.int m) J)(hq:∀ c J',J c=none->Ext J J'->L J' c m.toNat (fun _=>0)->Q (.ref c) J'):mulL (qw (zd (val (.int 0)) zv)) a Z J Q P:=by
 refine ⟨by first | exact kal rfl | simp [lim],zi fun c J1 hc e1 hv=>?_⟩
 rw [ha]
 refine zI hv ?_
 refine ⟨by exact lit r1 V0 (.num 4611686018427387904) [(0,1,V0,.num 10)] rfl hm',by exact lin r1 (.neg (.num 4611686018427387904)) V0 [(0,1,N0,V0)] rfl hm,by simp [lim];exact lin r1 V0 (.num 1000000) [(0,1,V0,.num 10)] rfl hm',zi fun c' J2 hc' e2 hv2=>?_⟩
 refine hq c' J2 (e1.none hc') (e1.trans e2) ?_
 unfold L qJ
 rw [hv2,<-zgi]
 congr 2
 unfold zs
 generalize m.toNat=k
 induction k with
 | zero=>rfl
 | succ k ih=>rw [kbt,kbt,kcQ,ih];rfl
theorem yd{Z:zK}{i:Nat}{v:V}(h:qz Z i=some v)(J:zc)(Q:V->zc->Prop)(P:Nat->zc->Prop):loc i Z J Q P=Q v J:=by rw [zu,h]
theorem zoC{m:Int}{rs:Rd2}{J0:zc}{a:Addr}{as:List Addr}{f:Nat->Nat->Int}{p e:Int}{o1 o3 o4:Option V}{tl:zK}{K:Out->zK->zc->Prop}(hm:0<=m)(e0:Ext J0 J)(ht:Tab J a m.toNat as f)(nd:as.Nodup)(hf:∀ b∈as,J0 b=none)
  (hp:0<=p) (he:0<=e) (hpe:p≠e)
  (hk:∀ J',Ext J0 J'->(∀ c,c∉as->J' c=J c)->Tab J' a m.toNat as (fun v u=>f v u+if p=(v:Int) then (if u=v then 1 else 0) - (if e=(u:Int) then 1 else 0) else 0)->K .next (some (.int m)::o1::some (.ref a)::o3::o4::some (.int p)::some (.int e)::tl) J') :
  wF T d (some (.int m)::o1::some (.ref a)::o3::o4::some (.int p)::some (.int e)::tl) J K P:=by
 unfold wF
 obtain ⟨p,rfl⟩:=kax hp
 obtain ⟨e,rfl⟩:=kax he
 simp only [z1,zu,q9,yK,zd1,yy,jv,zqm,zlj,qA,zaU,wK,zam,zej,zom,zM,zC,jp,zaY,qv,jw,zfw,zls,zdc,zju,zgK,zfu,zgZ,zgI,zlt,zaW,zm6,zoo,zet,zl1,zor,zL,yH,zak,yu,zdE,qQ,zD,jQ,qh,zjD,jD,qr,zml,wo,yL,zfU,jR,wY,yn,j7,zj,zk,zw,zx,zax,zaw,ze,zg,zn,qd,qf,qc,kaj,kaD,Cmp.run,zgs,zgU,zhe,zmk]
 by_cases hpm:p<m
 ·refine zZ (decide_eq_true hpm) ?_
  refine ht.at hp (by exact Mine.lt_toNat ‹_›) fun b hb hbl=>?_
  refine hbl.at hp (by exact Mine.lt_toNat ‹_›) ?_
  refine ht.at hp (by exact Mine.lt_toNat ‹_›) fun b' hb' _=>?_
  first | (rw [kaf,hb] at hb';cases hb') | (rw [hb] at hb';cases hb')
  simp only [zg]
  have hbm:=kao hb
  refine hbl.set hp (by exact Mine.lt_toNat ‹_›) fun J1 hJ1=>?_
  rw [kaf] at hb hJ1
  have ht1:=ht.put nd hb (j:=p) (by exact Mine.jW ‹_›) (f p p+1)
  rw [<-hJ1] at ht1
  have e1:Ext J0 J1:=by rw [hJ1];exact e0.put (hf b hbm) _
  have o1':∀ c,c∉as->J1 c=J c:=fun c hc=>by rw [hJ1,zO _ (by rintro rfl;exact hc hbm)]
  by_cases hem:e<m
  ·refine zZ (decide_eq_true hem) ?_
   refine ht1.at hp (by exact Mine.lt_toNat ‹_›) fun b' hb' hbl'=>?_
   first | (rw [kaf,hb] at hb';cases hb') | (rw [hb] at hb';cases hb')
   refine hbl'.at he (by exact Mine.lt_toNat ‹_›) ?_
   refine ht1.at hp (by exact Mine.lt_toNat ‹_›) fun b' hb' hbl''=>?_
   first | (rw [kaf,hb] at hb';cases hb') | (rw [hb] at hb';cases hb')
   refine hbl'.set he (by exact Mine.lt_toNat ‹_›) fun J2 hJ2=>?_
   simp only [kaf] at hJ2
   have ht2:=ht1.put nd hb (j:=e) (by exact Mine.jW ‹_›) (zk3 f p p (f p p+1) p e - 1)
   rw [<-hJ2] at ht2
   refine hk J2 (by rw [hJ2];exact e1.put (hf b hbm) _) (fun c hc=>by rw [hJ2,zO _ (by rintro rfl;exact hc hbm)];exact o1' c hc) (ht2.cong fun i j hi hj=>?_)
   simp only [kdO]
   exact zpz f (by exact (fun h_=>lif r2 [(2,-1,V0,V1),(1,1,V0,V1)] rfl (eqI h_) (yN (lin r2 V0 V1 [(2,1,V0,V1)] rfl (eqI h_)) hpe))) i j
  ·refine zQ (decide_eq_false hem) ?_
   refine hk J1 e1 o1' (ht1.cong fun i j hi hj=>?_)
   simp only [kdO]
   exact znf f i j (by exact (fun h_=>lif r3 [(4,1,V0,V1),(1,1,V2,V1),(2,1,V0,V2)] rfl hem (ka0.mp hj) (eqI h_)))
 ·refine zQ (decide_eq_false hpm) ?_
  refine hk J e0 (fun _ _=>rfl) (ht.cong fun i j hi hj=>?_)
  have hpi:¬ p=(i:Int):=by exact (fun h_=>lif r3 [(4,1,V0,V1),(1,1,V2,V1),(2,1,V0,V2)] rfl hpm (ka0.mp hi) h_)
  simp [hpi]
end
end Mine
end
section
open PySem
namespace Mine
section
variable {T:TC} {d:Nat} {J:zc} {Q:V->zc->Prop} {P:Nat->zc->Prop}
theorem zno{m:Int}{r:Addr}{rs:Rd2}{jj:Nat}{o2 o3 o4 o5 o6:Option V}{tl:zK}{K:Out->zK->zc->Prop}(n:Net m rs)(hr:zS J r rs)(h0:∀ v,qz (jP (some (.int m)::some (.ref r)::o2::o3::o4::o5::o6::tl) jj v) 0=some (.int m))
  (hq:∀ a as Z J',Ext J J'->Tab J' a m.toNat as (zbU rs)->as.Nodup->(∀ b∈as,J b=none)->J a=none->K (.ret (.ref a)) Z J') :
  (zt (zY 2 (qU jj (jl (loc 0)) none (mulL (qw (zd (val (.int 0)) zv)) (loc 0)))) (zt (wO (.tup [3,4]) (zai (loc 1)) (zaK T d)) (qi (loc 2)))) (some (.int m)::some (.ref r)::o2::o3::o4::o5::o6::tl) J K P:=by
 have hm:=n.m0;have hm':=n.m10
 obtain ⟨vs,hr1,hr2⟩:=hr
 simp only [zD,qh,yH,yu,zu,zj,zk,ze]
 refine ⟨by first | exact jg ‹_› ‹_› | (unfold jJ;omega),by first | exact zeg ‹_› | (rw [qx];unfold lim;omega),?_⟩
 refine qT (fun i acc J'=>∃ as:List Addr,acc=as.map V.ref/\as.length=i/\as.Nodup/\(∀ b∈as,J b=none/\L J' b m.toNat fun _=>0)/\Ext J J') ⟨[],rfl,rfl,by simp,by simp,.refl⟩ ?_ ?_
 ·intro i v acc J' K' hv hI6a hK
  obtain ⟨as,rfl,hcj⟩:=hI6a
  have hl:=hcj.1;have nd:=hcj.2.1;have hb:=hcj.2.2.1;have e:=hcj.2.2.2;clear hcj
  refine ⟨trivial,?_⟩
  refine zoh hm hm' (yd (h0 v)) fun c J1 hc e1 hcv=>?_
  refine hK _ _ ⟨as++[c],by simp,by simp [hl],?_,fun b hb'=>?_,e.trans e1⟩
  ·rw [kbc]
   refine ⟨nd,by simp,fun x hx y hy=>?_⟩
   simp only [kac] at hy;subst hy
   rintro rfl
   have:=(hb x hx).2
   unfold L qJ at this
   rw [hc] at this;cases this
  ·rcases kaq.mp hb' with h | h
   ·exact ⟨(hb b h).1,(hb b h).2.ext e1⟩
   ·simp only [kac] at h;subst h
    exact ⟨e.none hc,hcv⟩
 ·rintro acc J' ⟨as,rfl,hcj⟩
  have hl:=hcj.1;have nd:=hcj.2.1;have hb:=hcj.2.2.1;have e:=hcj.2.2.2;clear hcj
  rw [qx] at hl
  refine ⟨trivial,zi fun a J1 ha e1 hav=>?_⟩
  have ht:Tab J1 a m.toNat as fun _ _=>0:=⟨hav,by assumption,fun i b hib=>(hb b (kao hib)).2.ext e1⟩
  have hf:∀ b∈as,J b=none:=fun b hb'=>(hb b hb').1
  have ha0:=e.none ha
  have haas:a∉as:=fun hm=>by have:=(hb a hm).2;unfold L qJ at this;rw [ha] at this;cases this
  simp only [zx,zw,yL,zak,zu,zj,zk,zg]
  have e01:=e.trans e1
  refine qI (e01 _ _ hr1) ?_
  refine qg (fun i Z J'=>X4 fun o3 o4 o5 o6=>Z=some (.int m)::some (.ref r)::some (.ref a)::o3::o4::o5::o6::tl/\Ext J J'/\Tab J' a m.toNat as (zqC (ye (rs.take i)))) ?_ ?_ ?_
  ·exact ⟨_,_,_,_,rfl,e01,ht.cong fun i j _ _=>rfl⟩
  ·intro i v Z J2 K' hv hI6c hK
   obtain ⟨o3,o4,o5,o6,rfl,hcj⟩:=hI6c
   have e2:=hcj.1;have ht2:=hcj.2;clear hcj
   obtain ⟨t,p,q,rfl,hrs,htt⟩:=hr2.get hv
   have hends:=n.ends _ (kao hrs)
   refine ⟨.inl (e2 _ _ hr1),?_⟩
   simp only [wY,zg]
   refine wE (e2 _ _ htt) ?_
   refine ⟨rfl,?_⟩
   unfold zaK
   simp only [zax,zaw,zx,zw,yL,zak,jp,zC,zM,zaY,zu,zj,zk,kaj,kaD]
   refine ⟨by first | exact kal rfl | simp [lim],zi fun t1 J3 h3 e3 hv3=>⟨by first | exact kal rfl | simp [lim],zi fun t2 J4 h4 e4 hv4=>⟨by first | exact kal rfl | simp [lim],zi fun l J5 h5 e5 hv5=>?_⟩⟩⟩
   simp only [zg]
   refine qI hv5 ?_
   have e35:=(e3.trans e4).trans e5
   have fresh:∀ {x o},J5 x=some o->J2 x=none->x∉as/\x≠a:=by
    intro x o hx hn
    refine ⟨fun hm=>?_,fun hxa=>?_⟩
    ·obtain ⟨j,hj,hje⟩:=kaO hm
     have:=ht2.row j x (by rw [<-hje];simp [hj])
     unfold L qJ at this;rw [hn] at this;cases this
    ·rw [hxa,ht2.head] at hn;cases hn
   have f1:=fresh (e5 _ _ (e4 _ _ hv3)) h3
   have f2:=fresh (e5 _ _ hv4) (e3.none h4)
   have fl:=fresh hv5 ((e3.trans e4).none h5)
   refine qg (fun j Z J6=>X2 fun o5 o6=>Z=some (.int m)::some (.ref r)::some (.ref a)::some (.int p)::some (.int q)::o5::o6::tl/\Ext J J6/\J6 l=some (.list [.ref t1,.ref t2])/\J6 t1=some (.tup [.int p,.int q])/\J6 t2=some (.tup [.int q,.int p])/\Tab J6 a m.toNat as (zqC (ye (rs.take i)++[(p,q),(q,p)].take j))) ?_ ?_ ?_
   ·exact ⟨_,_,rfl,e2.trans e35,hv5,e5 _ _ (e4 _ _ hv3),e5 _ _ hv4,by simpa using ht2.ext e35⟩
   ·intro j v Z J6 K'' hv' hI6d hK'
    obtain ⟨o5,o6,rfl,hcj⟩:=hI6d
    have e6:=hcj.1;have hl6:=hcj.2.1;have ht1:=hcj.2.2.1;have ht2':=hcj.2.2.2.1;have htab:=hcj.2.2.2.2;clear hcj
    refine ⟨.inl hl6,?_⟩
    have go:∀ (tt:Addr) (x y:Int),J6 tt=some (.tup [.int x,.int y])->[(p,q),(q,p)][j]?=some (x,y)->0<=x->0<=y->x≠y ->
      zgF (.tup [5,6]) (.ref tt) (some (.int m)::some (.ref r)::some (.ref a)::some (.int p)::some (.int q)::o5::o6::tl) J6 fun Z'=>wF T d Z' J6 K'' noP:=by
     intro tt x y htt hxy hx hy hne
     refine wE htt ?_
     refine ⟨rfl,?_⟩
     refine zoC (rs:=rs) hm e6 htab nd hf hx hy hne fun J7 e7 hsame ht7=>?_
     refine hK' .next _ _ ⟨_,_,rfl,e7,by rw [hsame l fl.1];exact hl6,by rw [hsame t1 f1.1];exact ht1,by rw [hsame t2 f2.1];exact ht2',ht7.cong fun u w hu hw=>?_⟩
     rw [kaN,hxy]
     simp only [Option.toList_some,<-kaQ]
     rw [znq]
    rcases zqy hv' with ⟨rfl,rfl⟩ | ⟨rfl,rfl⟩
    ·exact go t1 p q ht1 rfl hends.1.1 hends.2.1.1 hends.2.2
    ·exact go t2 q p ht2' rfl hends.2.1.1 hends.1.1 (Ne.symm hends.2.2)
   ·rintro Z J6 ⟨o5,o6,rfl,hcj⟩
    have e6:=hcj.1;have hl6:=hcj.2.1;have ht1:=hcj.2.2.1;have ht2':=hcj.2.2.2.1;have htab:=hcj.2.2.2.2;clear hcj
    refine ⟨.inl hl6,hK .next _ _ ⟨_,_,_,_,rfl,e6,?_⟩⟩
    rw [zod hrs]
    simpa using htab
  ·rintro Z J2 ⟨o3,o4,o5,o6,rfl,hcj⟩
   have e2:=hcj.1;have ht2:=hcj.2;clear hcj
   refine ⟨.inl (e2 _ _ hr1),?_⟩
   rw [hr2.length,kba] at ht2
   exact hq a as _ J2 e2 ht2 nd hf ha0
theorem yc(h:FnW T "table_of" 2 5 (wG T)){m:Int}{r:Addr}{rs:Rd2}(n:Net m rs)(hr:zS J r rs)
  (hq:∀ a as J',Ext J J'->Tab J' a m.toNat as (zbU rs)->as.Nodup->(∀ b∈as,J b=none)->J a=none->Q (.ref a) J'):zp T (d+1) "table_of" [.int m,.ref r] J Q P :=
 h d _ _ _ _ rfl (zno n hr (fun _=>rfl) fun a as _ J'=>hq a as J')
noncomputable def zry(n:Nat)(f:Nat->Nat->Int)(h t:Nat->Int)(e:Nat):Int:=h e - qo (kab n) fun p=>f p e*t p
theorem zdh(h:FnW T "after" 3 3 (zcz T)){n:Nat}{a hp tm:Addr}{as:List Addr}{f:Nat->Nat->Int}{g t:Nat->Int}(hn:n<=10)(ht:Tab J a n as f)(hh:L J hp n g)(htm:L J tm n t)(hb:∀ i j,i<n->j<n->(f i j).natAbs<=1000)
  (hq:∀ c J',Ext J J'->J c=none->L J' c n (zry n f g t)->Q (.ref c) J'):zp T (d+1) "after" [.ref a,.ref hp,.ref tm] J Q P:=by
 refine h d _ _ _ _ rfl ?_
 unfold zcz
 simp only [zD,qh,zfw,zu,qd,qf,qc,zj,zk,zg]
 refine qm hh ?_
 refine zi fun c J1 hc e1 hcv=>?_
 simp only [zx,zw,yL,yu,jw,zu,zj,zk,zg]
 refine qa (e1 _ _ hh) ?_
 simp only [ze,qb,qN]
 refine ⟨by first | exact jg ‹_› ‹_› | (unfold jJ;exact ⟨lin r1 (.neg (.num 4611686018427387904)) V0 [(0,1,N0,V0)] rfl (nnI _),lit r1 V0 (.num 4611686018427387904) [(0,1,V0,.num 10)] rfl (leI hn)⟩),?_⟩
 refine qg (fun i Z J'=>X2 fun o4 o5=>Z=[some (.ref a),some (.ref hp),some (.ref tm),some (.ref c),o4,o5]/\Ext J J'/\L J' c n fun e=>g e - qo (kab i) fun p=>f p e*t p) ?_ ?_ ?_
 ·exact ⟨_,_,rfl,e1,(show L J1 c n g from hcv).cong fun i _=>by simp [qo]⟩
 ·intro i v Z J' K' hv hI6a hK
  obtain ⟨o4,o5,rfl,hcj⟩:=hI6a
  have e:=hcj.1;have hcl:=hcj.2;clear hcj
  obtain ⟨hi,rfl⟩:=jh hv
  refine ⟨trivial,?_⟩
  unfold zfY
  simp only [jR,zx,zw,yL,yu,jw,zu,zj,zk,zg]
  refine qa (e _ _ hh) ?_
  simp only [ze,qb,qN,kaV]
  refine ⟨by first | exact jg ‹_› ‹_› | (unfold jJ;exact ⟨lin r1 (.neg (.num 4611686018427387904)) V0 [(0,1,N0,V0)] rfl (nnI _),lit r1 V0 (.num 4611686018427387904) [(0,1,V0,.num 10)] rfl (leI hn)⟩),?_⟩
  refine qg (fun j Z J''=>∃ o5,Z=[some (.ref a),some (.ref hp),some (.ref tm),some (.ref c),some (.int (i:Int)),o5]/\Ext J J''/\L J'' c n fun e=>g e - (qo (kab i) fun p=>f p e*t p) - if e<j then f i e*t i else 0) ?_ ?_ ?_
  ·exact ⟨_,rfl,e,hcl.cong fun u _=>by simp⟩
  ·intro j v Z J'' K'' hv' hI6b hK'
   obtain ⟨o5,rfl,hcj⟩:=hI6b
   have e':=hcj.1;have hcl':=hcj.2;clear hcj
   obtain ⟨hj,rfl⟩:=jh hv'
   refine ⟨trivial,?_⟩
   unfold zfZ
   simp only [z1,zu,q9,yK,zd1,yy,jv,zqm,zlj,qA,zaU,wK,zam,zej,zom,zM,zC,jp,zaY,qv,jw,zfw,zls,zdc,zju,zgK,zfu,zgZ,zgI,zlt,zaW,zm6,zoo,zet,zl1,zor,zL,yH,zak,yu,zdE,qQ,zD,jQ,qh,zjD,jD,qr,zml,wo,yL,zfU,jR,wY,yn,j7,zj,zk,zw,zx,zax,zaw,ze,zg,zn,qd,qf,qc,kaj,kaD,Cmp.run,zgs,zgU,zhe,zmk]
   simp only [kaV]
   refine hcl'.at (by exact nnI _) (by exact kaw.mpr ‹_›) ?_
   refine (ht.ext e').at (by exact nnI _) (by exact kaw.mpr ‹_›) fun b hb' hbl=>?_
   refine hbl.at (by exact nnI _) (by exact kaw.mpr ‹_›) ?_
   refine (htm.ext e').at (by exact nnI _) (by exact kaw.mpr ‹_›) ?_
   simp only [ze,kaf]
   have hbb:=hb i j ‹_› ‹_›
   refine ⟨zel (by lia) (by lia),?_⟩
   refine hcl'.set (by exact nnI _) (by exact kaw.mpr ‹_›) fun J3 hJ3=>?_
   refine hK' .next _ _ ⟨_,rfl,by rw [hJ3];exact e'.put hc _,?_⟩
   have:L J3 c n (upd (fun e=>g e - (qo (kab i) fun p=>f p e*t p) - if e<j then f i e*t i else 0) j (g j - (qo (kab i) fun p=>f p j*t p) - (if j<j then f i j*t i else 0) - f i j*t i)):=by
    rw [hJ3];exact zB _ _ _
   refine this.cong fun u hu=>?_
   unfold upd
   by_cases huj:u=j
   ·subst huj;simp
   ·by_cases hlt:u<j
    ·have:u<j+1:=by exact ltN (lit r2 V0 (.add V1 N1) [(1,1,V0,V1)] rfl (ltI hlt))
     simp [huj,hlt,this]
    ·have:¬ u<j+1:=by exact (fun h_=>lif r2 [(0,1,V0,V1),(1,1,V1,V0)] rfl (nuI hlt) (zaG (lin r2 V0 V1 [(1,1,V0,.add V1 N1)] rfl (ltI h_)) huj))
     simp [huj,hlt,this]
  ·rintro Z J'' ⟨o5,rfl,hcj⟩
   have e':=hcj.1;have hcl':=hcj.2;clear hcj
   rw [qx] at hcl'
   refine ⟨trivial,hK .next _ _ ⟨_,_,rfl,e',hcl'.cong fun u hu=>?_⟩⟩
   rw [ka4,zdT]
   have:u<(n:Int).toNat:=by assumption
   simp [qo,this];lia
 ·rintro Z J' ⟨o4,o5,rfl,hcj⟩
  have e:=hcj.1;have hcl:=hcj.2;clear hcj
  refine ⟨trivial,?_⟩
  rw [qx] at hcl
  exact hq c J' e hc (hcl.cong fun u _=>by unfold zry;rw [kaf])
end
theorem znd{x:Int}{k:Nat}(h:x.natAbs<2 ^ k):Builtin.Int.intBits x<=k:=by
 unfold Builtin.Int.intBits
 split
 ·exact kal rfl
 ·rename_i hx
  have hx':x.natAbs≠0:=by simpa using hx
  have:=(Nat.log2_lt hx').mpr h
  assumption
theorem zhP{a b:Int}(ha:a.natAbs<2 ^ 700)(hb:b.natAbs<2 ^ 700):IntMulOk a b :=
 .of_bits (kai (znd ha) (by decide)) (kai (znd hb) (by decide))
theorem zd0{x y:Int}(h:y.natAbs<2 ^ 700):Builtin.divisionGoesByPylong x y=false:=by
 refine PyProof.noPylong_of_log2 ?_
 by_cases hy:y.natAbs=0
 ·rw [hy];decide
 ·have:=(Nat.log2_lt hy).mpr h
  exact ltN (lit r1 V0 (.num 9000) [(1,1,V0,.num 700)] rfl (ltI this))
theorem zpC{n k:Nat}{R:List Row}{B:Nat}(hn:n<=10)(hk:k<n)(hB:(10*B) ^ 10<2 ^ 700)(hB1:1<=B){x:Row}{j:Nat}(hj:j<n)(hR:∀ r∈R,∀ c,c<n->(r c).natAbs<=B)(hx:∀ c,c<n->(x c).natAbs<=B):(Vk k R x j).natAbs<2 ^ 700:=by
 unfold Vk
 have h1:=zcw (B:=B) (N:=10) (kab k++[j]) (R.take k++[x]) (fun r hr c hc=>?_) (by simp;lia)
 ·refine kbx (kai h1 (kbC (by exact ltN (lit r1 N0 (.mulL 10 V0) [(0,10,N1,V0)] rfl (leI hB1))) ?_)) hB
  simp;exact leN (lin r2 V0 (.num 9) [(0,1,V1,.num 10),(1,1,V0,V1)] rfl (leI hn) (ltI hk))
 ·have hc':c<n:=by
   rcases kaq.mp hc with h | h
   ·have:=kam.mp h;exact ltN (lit r3 V0 V1 [(1,1,V2,V1),(1,1,V0,V2)] rfl (ltI hk) (ltI this))
   ·simp at h;exact ltN (lit r3 V0 V1 [(1,1,V2,V1),(2,1,V0,V2)] rfl (ltI hj) (eqI h))
  rcases kaq.mp hr with h | h
  ·exact hR r (kbB h) c hc'
  ·simp at h;subst h;exact hx c hc'
theorem zoQ{n k:Nat}{R:List Row}{B:Nat}(hn:n<=10)(hk:k<=n)(hB:(10*B) ^ 10<2 ^ 700)(hB1:1<=B)(hR:∀ r∈R,∀ c,c<n->(r c).natAbs<=B):(pk k R).natAbs<2 ^ 700:=by
 unfold pk
 have h1:=zcw (B:=B) (N:=10) (kab k) (R.take k) (fun r hr c hc=>hR r (kbB hr) c (by have:=kam.mp hc;exact kbm ‹_› ‹_›)) (by simp;lia)
 refine kbx (kai h1 (kbC (by exact ltN (lit r1 N0 (.mulL 10 V0) [(0,10,N1,V0)] rfl (leI hB1))) ?_)) hB
 simp;exact kai ‹_› ‹_›
theorem zpf(cs2:List Nat)(vs:List Row):∀ (cs1:List Nat) (xs:List Row),xs.length<cs1.length->(∀ v∈vs,∀ c∈cs1,v c=0)->det (cs1++cs2) (xs++vs)=0:=by
 intro cs1_
 induction cs1_ with
 | nil =>
  intro xs hl _
  simp at hl
 | cons c cs1 ih_ =>
  intro xs hl h
  rw [kaI,qL]
  have:=zk0 (l:=ev c) (fun v hv=>h v hv c (by simp)) 0 xs (det (cs1++cs2)) (fun _=>0) fun t ht=>by
   rw [ih_ t (by simp at hl;exact ltN (lit r3 V0 V1 [(1,1,V2,.add V1 N1),(2,1,.add V0 N1,V2)] rfl (ltI hl) (eqI ht))) fun v hv c' hc'=>h v hv c' (by simp [hc'])];decide
  rw [this];exact liq r1 (.mulR V0 0) N0 [] rfl
theorem zsJ{k:Nat}{R:List Row}(hk:k<=R.length)(cs:List Nat):∀ (rest pre:List Row),det cs (R.take k++pre++rest.map (Vk k R))=pk k R ^ rest.length*det cs (R.take k++pre++rest):=by
 intro rest_
 induction rest_ with
 | nil =>
  intro pre
  simp
 | cons x rest ih_ =>
  intro pre
  have h1:=zjG hk (L:=fun v=>det cs ((R.take k++pre)++v::rest.map (Vk k R))) (fun a u b v=>zbf _ _ a u b v _) (fun r hr=>zi3 (zbf _) (zhp _) (by simp [hr])) x
  have h2:=ih_ (pre++[x])
  simp only [kbq,kaj]
  rw [h1]
  simp only [kaQ,kb8] at h2 ⊢
  rw [h2,kcI]
  grind
theorem zj9{R:List Row}{k:Nat}(hk:k<R.length)(hp:pk k R≠0)(h0:∀ r∈R.drop k,Vk k R r k=0):det (kab R.length) R=0:=by
 obtain ⟨q,hq,_⟩:=zeQ (show k+1<=R.length by assumption)
 have h1:=zsJ (show k<=R.length by exact kby ‹_›) (kab R.length) (R.drop k) []
 simp only [ka5,kb7] at h1
 have h2:det (kab R.length) (R.take k++(R.drop k).map (Vk k R))=0:=by
  rw [hq]
  refine zpf q _ (kab (k+1)) (R.take k) (by simp;lia) fun v hv c hc=>?_
  obtain ⟨r,hr,rfl⟩:=kau.mp hv
  have:=kam.mp hc
  by_cases hck:c=k
  ·subst hck;exact h0 r hr
  ·exact zjF R r (by exact ltN ((zaG (lin r2 V0 V1 [(1,1,V0,.add V1 N1)] rfl (ltI this)) hck)))
 rw [h2] at h1
 have h3:pk k R ^ (R.drop k).length≠0:=Int.pow_ne_zero hp
 rcases Int.mul_eq_zero.mp h1.symm with h | h
 ·exact absurd h h3
 ·exact h
noncomputable def swp(R:List Row)(i j:Nat):List Row:=(R.set i (R.getD j fun _=>0)).set j (R.getD i fun _=>0)
theorem zqE(R i j):(swp R i j).length=R.length:=by simp [swp]
theorem zmc:∀ {R:List Row} {i:Nat} {u:Row},R[i]?=some u->∃ p z,R=p++u::z/\p.length=i
 | [],_,_,h=>nomatch h
 | a::R,0,u,h=>⟨[],R,by cases h;rfl,rfl⟩
 | a::R,i+1,u,h=>by
  obtain ⟨p,z,e,l⟩:=zmc (R:=R) (i:=i) h
  exact ⟨a::p,z,by rw [e];rfl,by rw [kaj,l]⟩
theorem zmE(z:List Row)(u w:Row):∀ p:List Row,(p++u::z).set p.length w=p++w::z:=by
 intro p_
 induction p_ with
 | nil =>
  exact rfl
 | cons a p ih_ =>
  rw [kaI,kaj,List.set_cons_succ,ih_];rfl
theorem zqF{R:List Row}{i j:Nat}(hij:i<j)(hj:j<R.length)(cs:List Nat):det cs (swp R i j)=- det cs R/\(swp R i j).take i=R.take i/\(∀ r,r∈swp R i j ↔ r∈R):=by
 obtain ⟨u,hu⟩:∃ u,R[i]?=some u:=⟨_,kae (kcX hij hj)⟩
 obtain ⟨v,hv⟩:∃ v,R[j]?=some v:=⟨_,kae hj⟩
 obtain ⟨p',z,e,l⟩:=zmc hv
 have hu':p'[i]?=some u:=by rw [e,kcl (by exact ltN (lit r3 V0 V1 [(1,1,V0,V2),(2,-1,V1,V2)] rfl (ltI hij) (eqI l)))] at hu;exact hu
 obtain ⟨p,q,e2,l2⟩:=zmc hu'
 subst e2
 subst l l2
 have g1:R.getD (p++u::q).length (fun _=>0)=v:=by rw [kaS,hv];rfl
 have g2:R.getD p.length (fun _=>0)=u:=by rw [kaS,hu];rfl
 have e1:swp R p.length (p++u::q).length=p++v::(q++u::z):=by
  unfold swp
  rw [g1,g2,e,kaQ,kaI,zmE,<-kaI,<-kaQ]
  have hl:(p++u::q).length=(p++v::q).length:=by rw [kas,kas];rfl
  rw [hl,zmE,kaQ];rfl
 have e0:R=p++u::(q++v::z):=by rw [e,kaQ];rfl
 refine ⟨?_,?_,fun r=>?_⟩
 ·rw [e1,zsg (zbf cs) (zhp cs) p v q u z,<-e0]
 ·rw [e1,e0,kdM,kdM]
 ·rw [e1,e0]
  simp only [kaq,kad]
  constructor
  ·rintro (h | h | h | h | h)
   ·exact .inl h
   ·exact .inr (.inr (.inr (.inl h)))
   ·exact .inr (.inr (.inl h))
   ·exact .inr (.inl h)
   ·exact .inr (.inr (.inr (.inr h)))
  ·rintro (h | h | h | h | h)
   ·exact .inl h
   ·exact .inr (.inr (.inr (.inl h)))
   ·exact .inr (.inr (.inl h))
   ·exact .inr (.inl h)
   ·exact .inr (.inr (.inr (.inr h)))
end Mine
end
section
open PySem
namespace Mine
theorem zh8{as:List Addr}{i:Nat}(h:i<as.length):as[i]?=some (as.getD i 0):=by
 rw [kaS,kae h];rfl
noncomputable def sw(i j u:Nat):Nat:=if u=i then j else if u=j then i else u
theorem zrH{i j:Nat}(u:Nat):sw i j (sw i j u)=u:=by
 unfold sw
 by_cases h1:u=i
 ·subst h1;by_cases h2:j=u<;>simp [h2]
 ·by_cases h2:u=j
  ·subst h2;simp [h1]
  ·simp [h1,h2]
theorem zoD{as:List Addr}{i j:Nat}{ai aj:Addr}(hi:i<as.length)(hj:j<as.length)(hij:i≠j)(ei:as[i]?=some ai)(ej:as[j]?=some aj)(u:Nat):((as.set i aj).set j ai)[u]?=as[sw i j u]?:=by
 unfold sw
 rw [kcP,kcP]
 by_cases hui:u=i
 ·subst hui
  rw [if_neg (Ne.symm hij),if_pos rfl,if_pos hi,if_pos rfl,ej]
 ·by_cases huj:u=j
  ·subst huj
   rw [if_pos rfl,if_pos (by rw [kb2];exact hj),if_neg (Ne.symm hij),if_pos rfl,ei]
  ·rw [if_neg (Ne.symm huj),if_neg (Ne.symm hui),if_neg hui,if_neg huj]
theorem zk8{as bs:List Addr}{i j:Nat}(h:∀ u,bs[u]?=as[sw i j u]?)(hl:bs.length=as.length)(nd:as.Nodup):bs.Nodup:=by
 rw [kbk,List.pairwise_iff_getElem]
 intro u v hu hv huv he
 have h1:=h u
 have h2:=h v
 rw [kae hu] at h1
 rw [kae hv] at h2
 rw [he,h2] at h1
 obtain ⟨l1,_⟩:=kah.mp ((h u).symm.trans (kae hu))
 obtain ⟨l2,_⟩:=kah.mp ((h v).symm.trans (kae hv))
 rw [kae l1,kae l2] at h1
 have e:=(kcY nd).mp (Option.some.inj h1)
 have:=congrArg (sw i j) e
 rw [zrH,zrH] at this
 exact lif r2 [(1,1,V0,V1),(2,1,V1,V0)] rfl (ltI huv) (eqI this)
section
variable {T:TC} {d:Nat} {J:zc} {Q:V->zc->Prop} {P:Nat->zc->Prop}
theorem zer(h:FnW T "first_other" 2 1 (yB T)){n k:Nat}{a:Addr}{as:List Addr}{f:Nat->Nat->Int}(hn:n<=10)(hk:k<n)(ht:Tab J a n as f)
  (h0:(∀ i,k<=i->i<n->f i k=0)->Q .none J) (h1:∀ i:Nat,k<=i->i<n->f i k≠0->Q (.int i) J):zp T (d+1) "first_other" [.ref a,.int k] J Q P:=by
 refine h d _ _ _ _ rfl ?_
 unfold yB
 simp only [zD,yL,zdE,jw,zu,qd,qf,qc,zj,zk,zg]
 refine qa ht.head ?_
 simp only [ze,kaK,ht.len]
 refine ⟨by first | exact jg ‹_› ‹_› | (unfold jJ;exact ⟨lin r1 (.neg (.num 4611686018427387904)) V0 [(0,1,N0,V0)] rfl (nnI _),lit r2 V0 (.num 4611686018427387904) [(0,1,V1,.num 10),(1,1,V0,V1)] rfl (leI hn) (ltI hk)⟩),by first | exact jg ‹_› ‹_› | (unfold jJ;exact ⟨lin r1 (.neg (.num 4611686018427387904)) V0 [(0,1,N0,V0)] rfl (nnI _),lit r1 V0 (.num 4611686018427387904) [(0,1,V0,.num 10)] rfl (leI hn)⟩),?_⟩
 refine qg (fun i Z J'=>∃ o2,A3 (Z=[some (.ref a),some (.int k),o2]) (J'=J) (∀ j,k<=j->j<k+i->f j k=0)) ⟨_,rfl,rfl,fun j h1 h2=>by exact (kbe _ (kbm ‹_› ‹_›)).elim⟩ ?_ ?_
 ·intro i v Z J' K' hv hI6a hK
  obtain ⟨o2,rfl,rfl,hz⟩:=hI6a
  obtain ⟨hi,rfl⟩:=jh hv
  refine ⟨trivial,?_⟩
  unfold zaS
  simp only [z1,zu,q9,yK,zd1,yy,jv,zqm,zlj,qA,zaU,wK,zam,zej,zom,zM,zC,jp,zaY,qv,jw,zfw,zls,zdc,zju,zgK,zfu,zgZ,zgI,zlt,zaW,zm6,zoo,zet,zl1,zor,zL,yH,zak,yu,zdE,qQ,zD,jQ,qh,zjD,jD,qr,zml,wo,yL,zfU,jR,wY,yn,j7,zj,zk,zw,zx,zax,zaw,ze,zg,zn,qd,qf,qc,kaj,kaD,Cmp.run,zgs,zgU,zhe,zmk]
  refine ht.at (by exact nnI _) (by exact lit r3 (.add V0 V1) V2 [(1,1,V1,.sub V2 V0)] rfl (ka0.mp hi)) fun b hb hbl=>?_
  refine hbl.at (by exact nnI _) (by exact kaw.mpr ‹_›) ?_
  have e:((k:Int)+(i:Int)).toNat=k+i:=by rfl
  rw [e]
  by_cases hne:f (k+i) k=0
  ·refine zQ (zjs hne) ?_
   refine hK .next _ _ ⟨_,rfl,rfl,fun j h1 h2=>?_⟩
   by_cases hj:j=k+i
   ·subst hj;exact hne
   ·exact hz j h1 (by exact ltN ((zaG (lin (@r3 (↑(j)) (↑(k)) (↑(i))) V0 (.add V1 V2) [(1,1,V0,.add V1 (.add V2 N1))] rfl (ltI h2)) hj)))
  ·have hb:(f (k+i) k != 0)=true:=by simpa using hne
   refine zZ hb ?_
   refine hK (.ret _) _ _ ?_
   have:=h1 (k+i) (by exact leN (lin r2 V0 (.add V0 V1) [(0,1,N0,V1)] rfl (nnI _))) (by exact ltN (lit r3 (.add V0 V1) V2 [(1,1,V1,.sub V2 V0)] rfl (ka0.mp hi))) hne
   simpa using this
 ·rintro Z J' ⟨o2,rfl,rfl,hz⟩
  refine ⟨trivial,?_⟩
  rw [qx] at hz
  exact h0 fun i h1 h2=>hz i h1 (by exact ltN (lit r4 V0 (.add V1 V2) [(1,1,V0,V3),(2,-1,V2,.sub V3 V1)] rfl (ltI h2) (tnn (lin r2 N0 (.sub V0 V1) [(1,1,V1,V0)] rfl (ltI hk)))))
theorem zir(h:FnW T "swapped" 3 1 (za2 T)){n i j:Nat}{a:Addr}{as:List Addr}{f:Nat->Nat->Int}(hi:i<n)(hj:j<n)(hij:i≠j)(ht:Tab J a n as f)(nd:as.Nodup)
  (hq:∀ c as' J',Ext J J'->Tab J' c n as' (fun u=>f (if u=i then j else if u=j then i else u))->as'.Nodup->(∀ b,b∈as'->b∈as)->J c=none->Q (.ref c) J'):zp T (d+1) "swapped" [.ref a,.int i,.int j] J Q P:=by
 refine h d _ _ _ _ rfl ?_
 unfold za2
 simp only [zD,qh,zfw,zu,qd,qf,qc,zj,zk,zg]
 refine qm ht.head ?_
 refine zi fun c J1 hc e1 hcv=>?_
 have ht1:=ht.ext e1
 have hl:=ht.len
 have ei:as[i]?=some (as.getD i 0):=zh8 (hl▸hi)
 have ej:as[j]?=some (as.getD j 0):=zh8 (hl▸hj)
 generalize as.getD i 0=ai at ei
 generalize as.getD j 0=aj at ej
 have hI:(i:Int)<(n:Int):=kaw.mpr hi
 have hJ:(j:Int)<(n:Int):=kaw.mpr hj
 have hLi:(i:Int)<((as.map V.ref).length:Int):=by rw [kaK,hl];exact hI
 simp only [zx,zw,wo,qv,zu,zj,zk,zg,ze]
 refine ht1.at (kbL j) hJ fun b hb hbl=>?_
 rw [kaf,ej] at hb;cases hb
 refine Eq.mpr (j8 hcv) ?_
 refine ⟨kbL i,hLi,?_⟩
 have hac:a≠c:=jV ht.head hc
 have hne:∀ b∈as,b≠c:=fun b hb=>by
  obtain ⟨k,hk⟩:=kbR hb
  exact jV (ht.row k b hk) hc
 have ht2:∀ o,Tab (put J1 c o) a n as f:=fun o=>⟨by rw [zO _ hac];exact ht1.head,hl,fun u b hb=>by
  show qJ _ _ _
  unfold qJ
  rw [zO _ (hne b (kao hb))];exact ht1.row u b hb⟩
 refine (ht2 _).at (kbL i) hI fun b hb hbl=>?_
 rw [kaf,ei] at hb;cases hb
 refine Eq.mpr (j8 (zB _ _ _)) ?_
 refine ⟨kbL j,by rw [kb2,kaK,hl];exact hJ,?_⟩
 simp only [jQ,zu,zj,zk,kaf]
 rw [<-kdi,<-kdi]
 have hget:=zoD (as:=as) (hl▸hi) (hl▸hj) hij ei ej
 refine hq c _ _ (((Ext.refl.trans e1).put hc _).put hc _) ⟨zB _ _ _,by rw [kb2,kb2,hl],fun u b hb=>?_⟩ (zk8 hget (by rw [kb2,kb2]) nd) (fun b hb=>?_) hc
 ·rw [hget u] at hb
  show qJ _ _ _
  unfold qJ
  have hbm:=kao hb
  rw [zO _ (hne b hbm),zO _ (hne b hbm)]
  exact ht1.row _ b hb
 ·obtain ⟨u,hu⟩:=kbR hb
  rw [hget u] at hu
  exact kao hu
end
noncomputable def el(A:Nat->Nat->Int)(k:Nat)(p:Int)(u v:Nat):Int:=(A u v*A k k - A u k*A k v).fdiv p
section
variable {T:TC} {d:Nat} {J0 J:zc} {K:Out->zK->zc->Prop} {P:Nat->zc->Prop}
theorem zsB{a:Addr}{as:List Addr}{A:Nat->Nat->Int}{n k l:Nat}{s p:Int}{o4 o6 o7 o8:Option V}(e0:Ext J0 J)(ht:Tab J a n as A)(nd:as.Nodup)(hf:∀ b∈as,J0 b=none)(hkl:k<l)(hl:l<n)(hn:n<=10)(hp:p≠0)(hpb:p.natAbs<2 ^ 700)
  (hA:∀ u v,u=k\/u=l->v<n->k<=v->(A u v).natAbs<2 ^ 700)
  (hk:∀ J' o7 o8,Ext J0 J'->Tab J' a n as (fun u v=>if u=l/\k<v then el A k p u v else A u v)->K .next [some (.ref a),some (.int s),some (.int p),some (.int k),o4,some (.int l),o6,o7,o8] J') :
  jT T d [some (.ref a),some (.int s),some (.int p),some (.int k),o4,some (.int l),o6,o7,o8] J K P:=by
 unfold jT
 simp only [yL,zdE,q9,jw,zu,z1,zj,zk,ze,zg]
 refine qa ht.head ?_
 simp only [ze,kaK,ht.len]
 refine ⟨by first | exact jg ‹_› ‹_› | (unfold jJ;exact ⟨lin r1 (.neg (.num 4611686018427387904)) (.add V0 N1) [(0,1,N0,V0)] rfl (nnI _),lit r3 (.add V0 N1) (.num 4611686018427387904) [(1,1,V0,V1),(1,1,V1,V2),(0,1,V2,.num 10)] rfl (ltI hkl) (ltI hl) (leI hn)⟩),by first | exact jg ‹_› ‹_› | (unfold jJ;exact ⟨lin r1 (.neg (.num 4611686018427387904)) V0 [(0,1,N0,V0)] rfl (nnI _),lit r1 V0 (.num 4611686018427387904) [(0,1,V0,.num 10)] rfl (leI hn)⟩),?_⟩
 refine qg (fun j Z J'=>X2 fun o7 o8=>Z=[some (.ref a),some (.int s),some (.int p),some (.int k),o4,some (.int l),o6,o7,o8]/\Ext J0 J'/\Tab J' a n as fun u v=>if u=l/\k<v/\v<k+1+j then el A k p u v else A u v) ?_ ?_ ?_
 ·refine ⟨_,_,rfl,e0,ht.cong fun u v _ _=>?_⟩
  have:¬ (u=l/\k<v/\v<k+1+0):=fun h=>absurd h.2.1 (kbZ.mpr (kbs h.2.2))
  rw [if_neg this]
 ·intro j v Z J' K' hv hI6a hK
  obtain ⟨o7,o8,rfl,hcj⟩:=hI6a
  have e:=hcj.1;have ht':=hcj.2;clear hcj
  obtain ⟨hj,rfl⟩:=jh hv
  have ec:((k:Int)+1+(j:Int))=((k+1+j:Nat):Int):=by rfl
  refine ⟨trivial,?_⟩
  rw [ec]
  have hc:k+1+j<n:=by exact ltN (lit r3 (.add (.add V0 N1) V1) V2 [(1,1,V1,.sub V2 (.add V0 N1))] rfl (ka0.mp hj))
  generalize hcc:k+1+j=c at hc ht'
  unfold zaT
  simp only [jR,zD,qh,yK,zd1,qv,zu,zj,zk,zw,zx,ze,zg]
  have rd:∀ (u v:Nat) (k':V->Prop),¬ (u=l/\k<v/\v<c)->u<n->v<n->k' (.int (A u v))->(0<=(u:Int)/\yo J' a fun xs=>yh xs (u:Int).toNat fun w=>w.asRef fun q=>0<=(v:Int)/\yo J' q fun ys=>yh ys (v:Int).toNat k'):=by
   intro u v k' hno hu hv' hk'
   refine ht'.at (by exact nnI _) (by exact kaw.mpr ‹_›) fun b hb hbl=>?_
   refine hbl.at (by exact nnI _) (by exact kaw.mpr ‹_›) ?_
   rw [kaf,kaf,if_neg hno]
   exact hk'
  have n1:¬ (l=l/\k<c/\c<c):=fun h=>kbe _ h.2.2
  have n2:¬ (k=l/\k<k/\k<c):=fun h=>kbe _ h.2.1
  have n3:¬ (l=l/\k<k/\k<c):=fun h=>kbe _ h.2.1
  have n4:¬ (k=l/\k<c/\c<c):=fun h=>kbe _ h.2.2
  refine rd l c _ n1 hl hc ?_
  refine rd k k _ n2 (by exact ltN (lit r3 V0 V1 [(1,1,V0,V2),(1,1,V2,V1)] rfl (ltI hkl) (ltI hl))) (by exact ltN (lit r3 V0 V1 [(1,1,V0,V2),(1,1,V2,V1)] rfl (ltI hkl) (ltI hl))) ?_
  refine ⟨zhP (hA l c (.inr rfl) hc (by exact leN (lin (@r3 (↑(k)) (↑(c)) (↑(j))) V0 V1 [(2,1,.add (.add V0 N1) V2,V1),(0,1,N0,V2)] rfl (eqI hcc) (nnI _)))) (hA k k (.inl rfl) (by exact ltN (lit r3 V0 V1 [(1,1,V0,V2),(1,1,V2,V1)] rfl (ltI hkl) (ltI hl))) (by exact leN (lin r1 V0 V0 [] rfl))),?_⟩
  refine rd l k _ n3 hl (by exact ltN (lit r3 V0 V1 [(1,1,V0,V2),(1,1,V2,V1)] rfl (ltI hkl) (ltI hl))) ?_
  refine rd k c _ n4 (by exact ltN (lit r3 V0 V1 [(1,1,V0,V2),(1,1,V2,V1)] rfl (ltI hkl) (ltI hl))) hc ?_
  refine ⟨zhP (hA l k (.inr rfl) (by exact ltN (lit r3 V0 V1 [(1,1,V0,V2),(1,1,V2,V1)] rfl (ltI hkl) (ltI hl))) (by exact leN (lin r1 V0 V0 [] rfl))) (hA k c (.inl rfl) hc (by exact leN (lin (@r3 (↑(k)) (↑(c)) (↑(j))) V0 V1 [(2,1,.add (.add V0 N1) V2,V1),(0,1,N0,V2)] rfl (eqI hcc) (nnI _)))),?_⟩
  simp only [wo,yy,qv,zu,zj,zk,ze,zg]
  refine ⟨⟨hp,zd0 hpb⟩,?_⟩
  refine ht'.at (by exact nnI _) (by exact kaw.mpr ‹_›) fun b hb hbl=>?_
  rw [kaf] at hb hbl
  have hbm:=kao hb
  refine hbl.set (by exact nnI _) (by exact kaw.mpr ‹_›) fun J3 hJ3=>?_
  rw [kaf] at hJ3
  have ht3:=ht'.put nd hb (j:=c) hc (el A k p l c)
  refine hK .next _ _ ⟨_,_,rfl,by rw [hJ3];exact e.put (hf b hbm) _,?_⟩
  have hJ3':J3=put J' b (.list (zs (lst n (upd (fun v=>if l=l/\k<v/\v<c then el A k p l v else A l v) c (el A k p l c))))):=hJ3
  rw [<-hJ3'] at ht3
  refine ht3.cong fun u v hu hv'=>?_
  rw [zat]
  by_cases hul:u=l
  ·subst hul
   by_cases hvc:v=c
   ·subst hvc
    have:(u=u/\k<v/\v<k+1+(j+1)):=by exact ⟨eqN (liq (@r1 (↑(u))) V0 V0 [] rfl),⟨ltN (lit (@r3 (↑(k)) (↑(v)) (↑(j))) V0 V1 [(2,1,.add (.add V0 N1) V2,V1),(0,1,N0,V2)] rfl (eqI hcc) (nnI _)),ltN (lit (@r3 (↑(v)) (↑(k)) (↑(j))) V0 (.add (.add V1 N1) (.add V2 N1)) [(2,-1,.add (.add V1 N1) V2,V0)] rfl (eqI hcc))⟩⟩
    rw [if_pos rfl,if_pos rfl,if_pos this]
   ·rw [if_pos rfl,if_neg hvc]
    have:(k<v/\v<c) ↔ (k<v/\v<k+1+(j+1)):=by rw [show k+1+(j+1)=c+1 from congrArg Nat.succ hcc];exact and_congr_right fun _=>⟨kbE,fun h=>kcN (kbs h) hvc⟩
    simp only [true_and,this]
  ·have:¬ (u=l/\k<v/\v<k+1+(j+1)):=fun h=>hul h.1
   have h':¬ (u=l/\k<v/\v<c):=fun h=>hul h.1
   rw [if_neg hul,if_neg this,if_neg h']
 ·rintro Z J' ⟨o7,o8,rfl,hcj⟩
  have e:=hcj.1;have ht':=hcj.2;clear hcj
  refine ⟨trivial,hk J' o7 o8 e (ht'.cong fun u v hu hv=>?_)⟩
  rw [qx]
  have:(u=l/\k<v/\v<k+1+((n:Int) - ((k:Int)+1)).toNat) ↔ (u=l/\k<v):=⟨fun h=>⟨h.1,h.2.1⟩,fun h=>⟨h.1,h.2,by exact ltN (lit r4 V0 (.add (.add V1 N1) V2) [(1,1,V0,V3),(2,-1,V2,.sub V3 (.add V1 N1))] rfl (ltI hv) (tnn (lin r3 N0 (.sub V0 (.add V1 N1)) [(1,1,V2,V0),(1,1,V1,V2)] rfl (ltI hv) (ltI h.2))))⟩⟩
  simp only [this]
theorem zpg{a:Addr}{as:List Addr}{A:Nat->Nat->Int}{n k:Nat}{s p:Int}{o4 o5 o6 o7 o8:Option V}(e0:Ext J0 J)(ht:Tab J a n as A)(nd:as.Nodup)(hf:∀ b∈as,J0 b=none)(hkn:k<n)(hn:n<=10)(hp:p≠0)(hpb:p.natAbs<2 ^ 700)
  (hA:∀ u v,u<n->v<n->k<=u->k<=v->(A u v).natAbs<2 ^ 700)
  (hk:∀ J' o5 o7 o8,Ext J0 J'->Tab J' a n as (fun u v=>if k<u/\k<v then el A k p u v else A u v)->K .next [some (.ref a),some (.int s),some (.int p),some (.int k),o4,o5,o6,o7,o8] J') :
  (wO (.nm 5) (zf3 (j2 (loc 3) (val (.int 1))) (yO (loc 0))) (jT T d)) [some (.ref a),some (.int s),some (.int p),some (.int k),o4,o5,o6,o7,o8] J K P:=by
 simp only [yL,zdE,q9,jw,zu,z1,zj,zk,ze,zg]
 refine qa ht.head ?_
 simp only [ze,kaK,ht.len]
 refine ⟨by first | exact jg ‹_› ‹_› | (unfold jJ;exact ⟨lin r1 (.neg (.num 4611686018427387904)) (.add V0 N1) [(0,1,N0,V0)] rfl (nnI _),lit r2 (.add V0 N1) (.num 4611686018427387904) [(1,1,V0,V1),(0,1,V1,.num 10)] rfl (ltI hkn) (leI hn)⟩),by first | exact jg ‹_› ‹_› | (unfold jJ;exact ⟨lin r1 (.neg (.num 4611686018427387904)) V0 [(0,1,N0,V0)] rfl (nnI _),lit r1 V0 (.num 4611686018427387904) [(0,1,V0,.num 10)] rfl (leI hn)⟩),?_⟩
 refine qg (fun i Z J'=>X3 fun o5 o7 o8=>Z=[some (.ref a),some (.int s),some (.int p),some (.int k),o4,o5,o6,o7,o8]/\Ext J0 J'/\Tab J' a n as fun u v=>if k<u/\u<k+1+i/\k<v then el A k p u v else A u v) ?_ ?_ ?_
 ·refine ⟨_,_,_,rfl,e0,ht.cong fun u v _ _=>?_⟩
  have:¬ (k<u/\u<k+1+0/\k<v):=fun h=>absurd h.1 (kbZ.mpr (kbs h.2.1))
  rw [if_neg this]
 ·intro i v Z J' K' hv hI6a hK
  obtain ⟨o5,o7,o8,rfl,hcj⟩:=hI6a
  have e:=hcj.1;have ht':=hcj.2;clear hcj
  obtain ⟨hi,rfl⟩:=jh hv
  have ec:((k:Int)+1+(i:Int))=((k+1+i:Nat):Int):=by rfl
  refine ⟨trivial,?_⟩
  rw [ec]
  have low:∀ u v,u=k\/u=k+1+i->¬ (k<u/\u<k+1+i/\k<v):=fun u v h x=>h.elim (fun e=>kbe _ (e▸x.1)) fun e=>kbe _ (e▸x.2.1)
  have hci:k+1+i<n:=ltN (lit r3 (.add (.add V0 N1) V1) V2 [(1,1,V1,.sub V2 (.add V0 N1))] rfl (ka0.mp hi))
  refine zsB e ht' nd hf (by exact ltN (lit r2 V0 (.add (.add V0 N1) V1) [(0,1,N0,V1)] rfl (nnI _))) hci hn hp hpb (fun u v hu hv hkv=>?_) fun J2 o7 o8 e2 ht2=>?_
  ·simp only [low u v hu,if_false]
   exact hA u v (hu.elim (fun e=>e▸hkn) fun e=>e▸hci) hv (hu.elim (fun e=>kck e.symm) fun e=>e▸kai (kci k) (kcC _ _)) hkv
  ·refine hK .next _ _ ⟨_,_,_,rfl,e2,ht2.cong fun u v hu hv=>?_⟩
   have hel:el (fun u v=>if k<u/\u<k+1+i/\k<v then el A k p u v else A u v) k p (k+1+i) v=el A k p (k+1+i) v:=by
    unfold el
    simp only [low (k+1+i) v (.inr rfl),low (k+1+i) k (.inr rfl),low k k (.inl rfl),low k v (.inl rfl),if_false]
   by_cases hu':u=k+1+i
   ·subst hu'
    by_cases hv':k<v
    ·have h1:(k+1+i=k+1+i/\k<v):=⟨rfl,hv'⟩
     have h2:(k<k+1+i/\k+1+i<k+1+(i+1)/\k<v):=⟨kbm (ka1 k) (kcC _ _),ka1 _,hv'⟩
     rw [if_pos h1,if_pos h2,hel]
    ·have h1:¬ (k+1+i=k+1+i/\k<v):=fun h=>hv' h.2
     have h2:¬ (k<k+1+i/\k+1+i<k+1+(i+1)/\k<v):=fun h=>hv' h.2.2
     have h3:¬ (k<k+1+i/\k+1+i<k+1+i/\k<v):=fun h=>hv' h.2.2
     rw [if_neg h1,if_neg h2,if_neg h3]
   ·have h1:¬ (u=k+1+i/\k<v):=fun h=>hu' h.1
    have h2:(k<u/\u<k+1+i/\k<v) ↔ (k<u/\u<k+1+(i+1)/\k<v):=⟨fun h=>⟨h.1,kbE h.2.1,h.2.2⟩,fun h=>⟨h.1,kcN (kbs h.2.1) hu',h.2.2⟩⟩
    rw [if_neg h1]
    simp only [h2]
 ·rintro Z J' ⟨o5,o7,o8,rfl,hcj⟩
  have e:=hcj.1;have ht':=hcj.2;clear hcj
  refine ⟨trivial,hk J' o5 o7 o8 e (ht'.cong fun u v hu hv=>?_)⟩
  rw [qx]
  have:(k<u/\u<k+1+((n:Int) - ((k:Int)+1)).toNat/\k<v) ↔ (k<u/\k<v):=⟨fun h=>⟨h.1,h.2.2⟩,fun h=>⟨h.1,by exact ltN (lit r4 V0 (.add (.add V1 N1) V2) [(1,1,V0,V3),(2,-1,V2,.sub V3 (.add V1 N1))] rfl (ltI hu) (tnn (lin r2 N0 (.sub V0 (.add V1 N1)) [(1,1,V1,V0)] rfl (ltI hkn)))),h.2⟩⟩
  simp only [this]
end
end Mine
end
section
open PySem
namespace Mine
structure zdO(T:TC):Prop where
 first:FnW T "first_other" 2 1 (yB T)
 swapped:FnW T "swapped" 3 1 (za2 T)
 det:FnW T "determinant" 1 8 (wH T)
noncomputable def zc8(R:List Row)(i:Nat):Row:=R.getD i fun _=>0
noncomputable def zap(n:Nat)(f:Nat->Nat->Int):List Row:=(kab n).map f
theorem zgQ{R:List Row}{i:Nat}(h:i<R.length):R[i]?=some (zc8 R i):=by simp [zc8,kb3,h]
theorem znz{R:List Row}{i:Nat}(h:i<R.length):zc8 R i∈R:=kao (zgQ h)
theorem zny{R:List Row}{i j u:Nat}(hi:i<R.length)(hj:j<R.length)(hu:u<R.length)(hij:i≠j):zc8 (swp R i j) u=zc8 R (if u=i then j else if u=j then i else u):=by
 unfold zc8 swp
 by_cases hui:u=i
 ·subst hui;simp [hij,Ne.symm hij,hi,hj]
 ·by_cases huj:u=j
  ·subst huj;simp [hui,hij,hi,hj]
  ·simp [hui,huj,Ne.symm hui,Ne.symm huj]
section
variable {T:TC} {d:Nat} {J:zc} {Q:V->zc->Prop} {P:Nat->zc->Prop}
structure zr1(J J':zc)(n k:Nat)(R0:List Row)(a:Addr)(as:List Addr)(A:Nat->Nat->Int)(R:List Row)(s p:Int):Prop where
 e:Ext J J'
 ht:Tab J' a n as A
 nd:as.Nodup
 hf:∀ b∈as,J b=none
 len:R.length=n
 mem:∀ r,r∈R ↔ r∈R0
 ent:∀ i j,k<=i->i<n->k<=j->j<n->A i j=Vk k R (zc8 R i) j
 hp:p=pk k R
 p0:p≠0
 hs:s=1\/s=-1
 hd:s*det (kab n) R=det (kab n) R0
theorem zkS{n:Nat}{a:Addr}{as:List Addr}{f:Nat->Nat->Int}{Z:zK}{j:Nat}{src:EW}(hn:n<=10)(ht:Tab J a n as f)(hsrc:∀ (J:zc) (Q:V->zc->Prop) (P:Nat->zc->Prop),src Z J Q P=Q (.ref a) J)(hj:∀ v,qz (jP Z j v) j=some v)
  (hq:∀ c as' J',Ext J J'->Tab J' c n as' f->as'.Nodup->(∀ b∈as',J b=none)->J c=none->Q (.ref c) J'):qU j (zai src) none (zfl (loc j)) Z J Q P:=by
 simp only [yH,zak]
 rw [hsrc]
 simp only [zg]
 refine qI ht.head ?_
 have hl:=ht.len
 refine ⟨by simp [lim];exact leN (lin r2 V0 (.num 1000000) [(0,1,V1,.num 10),(2,1,V0,V1)] rfl (leI hn) (eqI hl)),?_⟩
 refine qT (fun i acc J'=>∃ as':List Addr,acc=as'.map V.ref/\as'.length=i/\as'.Nodup/\(∀ b∈as',J b=none)/\(∀ k b,as'[k]?=some b->L J' b n (f k))/\Ext J J') ⟨[],rfl,rfl,by simp,by simp,by simp,.refl⟩ ?_ ?_
 ·intro i v acc J' K' hv hI6a hK
  obtain ⟨as',rfl,hcj⟩:=hI6a
  have hl':=hcj.1;have nd:=hcj.2.1;have hf:=hcj.2.2.1;have hr:=hcj.2.2.2.1;have e:=hcj.2.2.2.2;clear hcj
  refine ⟨.inl (e _ _ ht.head),?_⟩
  rw [kaP] at hv
  cases hb:as[i]? with
  | none=>rw [hb] at hv;cases hv
  | some b =>
   rw [hb] at hv;cases hv
   simp only [yn,if_true,zfw]
   rw [yd (hj _)]
   simp only [zg]
   have hbl:=(ht.row i b hb).ext e
   refine Eq.mpr (hbl.seq) ?_
   refine zi fun c J1 hc e1 hcv=>?_
   refine hK _ _ ⟨as'++[c],by simp,by simp [hl'],?_,fun b' hb'=>?_,fun k b' hb'=>?_,e.trans e1⟩
   ·rw [kbc]
    refine ⟨nd,by simp,fun x hx y hy=>?_⟩
    simp only [kac] at hy;subst hy
    rintro rfl
    obtain ⟨k,hk,hkx⟩:=kaO hx
    have:=hr k x (by rw [<-hkx];simp [hk])
    unfold L qJ at this;rw [hc] at this;cases this
   ·rcases kaq.mp hb' with h | h
    ·exact hf b' h
    ·simp only [kac] at h;subst h;exact e.none hc
   ·by_cases hk:k<as'.length
    ·rw [kcl hk] at hb'
     exact (hr k b' hb').ext e1
    ·rw [kc6 (by exact leN ((nuI hk)))] at hb'
     have hk0:k - as'.length=0:=by
      cases hz:k - as'.length with
      | zero=>rfl
      | succ q=>rw [hz] at hb';simp at hb'
     rw [hk0] at hb'
     simp at hb';subst hb'
     have:k=i:=(kc5 (Nat.le_of_sub_eq_zero hk0) (Nat.le_of_not_lt hk)).trans ‹_›
     subst this
     exact hcv
 ·rintro acc J' ⟨as',rfl,hcj⟩
  have hl':=hcj.1;have nd:=hcj.2.1;have hf:=hcj.2.2.1;have hr:=hcj.2.2.2.1;have e:=hcj.2.2.2.2;clear hcj
  refine ⟨.inl (e _ _ ht.head),zi fun c J1 hc e1 hcv=>?_⟩
  exact hq c as' J1 (e.trans e1) ⟨hcv,by rw [hl',kaK,hl],fun k b hb=>(hr k b hb).ext e1⟩ nd hf (e.none hc)
theorem zkv{R:List Row}{i j:Nat}(h:(swp R i j).take i=R.take i)(x:Row)(c:Nat):Vk i (swp R i j) x c=Vk i R x c/\pk i (swp R i j)=pk i R:=by
 unfold Vk pk;rw [h];exact ⟨rfl,rfl⟩
theorem zsA(F:zdO T){n k:Nat}{R0 R:List Row}{a:Addr}{as:List Addr}{A:Nat->Nat->Int}{s p:Int}{o4 o5 o6 o7 o8:Option V}{J':zc}{K:Out->zK->zc->Prop}{B:Nat}(hn:n<=10)(hk:k<n)(hB:(10*B) ^ 10<2 ^ 700)(hB1:1<=B)(h0:R0.length=n)(hR0:∀ r∈R0,∀ c,c<n->(r c).natAbs<=B)
  (I:zr1 J J' n k R0 a as A R s p)
  (hret:det (kab n) R0=0->∀ Z J'',Ext J J''->K (.ret (.int 0)) Z J'')
  (hnext:∀ a as A R s p o4 o5 o7 o8 J'',zr1 J J'' n (k+1) R0 a as A R s p->K .next [some (.ref a),some (.int s),some (.int p),some (.int k),o4,o5,o6,o7,o8] J'') :
  wx T (d+1) [some (.ref a),some (.int s),some (.int p),some (.int k),o4,o5,o6,o7,o8] J' K P:=by
 obtain ⟨e,ht,nd,hf,hlen,hmem,hent,hp,hp0,hs,hd⟩:=I
 unfold wx
 simp only [zD,qh,zL,zC,zM,zu,zj,zk]
 refine zer F.first hn hk ht (fun hz=>?_) fun pl h1 h2 hne=>?_
 ·-- no pivot
  have hz':∀ r∈R.drop k,Vk k R r k=0:=fun r hr=>by
   obtain ⟨i,hi,hir⟩:=kaO hr
   simp only [kdD] at hir
   simp only [kbJ] at hi
   have:=hent (k+i) k (by exact leN (lin r2 V0 (.add V0 V1) [(0,1,N0,V1)] rfl (nnI _))) (by lia) (by exact leN (lin r1 V0 V0 [] rfl)) hk
   rw [hz (k+i) (by exact leN (lin r2 V0 (.add V0 V1) [(0,1,N0,V1)] rfl (nnI _))) (by lia)] at this
   have e2:zc8 R (k+i)=r:=by
    have:=zgQ (R:=R) (i:=k+i) (by lia)
    rw [kae (by lia)] at this
    rw [<-hir];exact (Option.some.inj this).symm
   rw [e2] at this;exact this.symm
  have hdet:=zj9 (k:=k) (by exact ltN (lit r3 V0 V1 [(1,1,V0,V2),(2,-1,V1,V2)] rfl (ltI hk) (eqI hlen))) (by rw [<-hp];exact hp0) hz'
  rw [hlen] at hdet
  exact hret (by rw [<-hd,hdet,kb1]) _ _ e
 ·simp only [zw,zx,qr,zgs,zu,zj,zk,V.isNone,kak,if_false,zn,qQ]
  -- what follows once the pivot stands
  have fin:∀ (a:Addr) (as:List Addr) (A:Nat->Nat->Int) (R:List Row) (s:Int) (J1:zc),zr1 J J1 n k R0 a as A R s p->A k k≠0 ->
    (wO (.nm 5) (zf3 (j2 (loc 3) (val (.int 1))) (yO (loc 0))) (jT T (d+1)))
     [some (.ref a),some (.int s),some (.int p),some (.int k),some (.int pl),o5,o6,o7,o8] J1
     (fun o Z1 J1=>match o with | .next=>(zT (zT (loc 0) (loc 3)) (loc 3)) Z1 J1 (fun v J2=>K .next (jP Z1 2 v) J2) P | .ret v=>K (.ret v) Z1 J1) P:=by
   intro a as A R s J1 I hkk
   obtain ⟨e,ht,nd,hf,hlen,hmem,hent,hp,hp0,hs,hd⟩:=I
   have hRb:∀ r∈R,∀ c,c<n->(r c).natAbs<=B:=fun r hr=>hR0 r ((hmem r).mp hr)
   refine zpg e ht nd hf hk hn hp0 (by rw [hp];exact zoQ hn (by exact leN (lin r2 V0 V1 [(1,1,V0,V1)] rfl (ltI hk))) hB hB1 hRb) (fun u v hu hv hku hkv=>?_) fun J2 o5 o7 o8 e2 ht2=>?_
   ·rw [hent u v hku hu hkv hv]
    exact zpC hn hk hB hB1 hv hRb (hRb _ (znz (by exact ltN (lit r3 V0 V1 [(2,-1,V1,V2),(1,1,V0,V2)] rfl (eqI hlen) (ltI hu)))))
   ·simp only [qv,zu,zj,zk,zg,ze]
    refine ht2.at (by exact nnI _) (by exact kaw.mpr ‹_›) fun b hb hbl=>?_
    refine hbl.at (by exact nnI _) (by exact kaw.mpr ‹_›) ?_
    have hno:¬ (k<k/\k<k):=fun h=>kbe _ h.1
    simp only [kaf,kbe,false_and,if_false,zw,zx]
    have hyk:R[k]?=some (zc8 R k):=zgQ (by exact ltN (lit r3 V0 V1 [(1,1,V0,V2),(2,-1,V1,V2)] rfl (ltI hk) (eqI hlen)))
    refine hnext a as _ R s (A k k) _ _ _ _ J2 ⟨e2,ht2,nd,hf,hlen,hmem,fun i j hi hi' hj hj'=>?_,?_,hkk,hs,hd⟩
    ·have hc:k<i/\k<j:=by exact ⟨ltN (lit r2 V0 V1 [(0,1,.add V0 N1,V1)] rfl (leI hi)),ltN (lit r2 V0 V1 [(0,1,.add V0 N1,V1)] rfl (leI hj))⟩
     rw [if_pos hc]
     unfold el
     rw [hent i j (by exact leN (lin r2 V0 V1 [(0,1,.add V0 N1,V1)] rfl (leI hi))) hi' (by exact leN (lin r2 V0 V1 [(0,1,.add V0 N1,V1)] rfl (leI hj))) hj',hent k k (by exact leN (lin r1 V0 V0 [] rfl)) hk (by exact leN (lin r1 V0 V0 [] rfl)) hk,hent i k (by exact leN (lin r2 V0 V1 [(0,1,.add V0 N1,V1)] rfl (leI hi))) hi' (by exact leN (lin r1 V0 V0 [] rfl)) hk,hent k j (by exact leN (lin r1 V0 V0 [] rfl)) hk (by exact leN (lin r2 V0 V1 [(0,1,.add V0 N1,V1)] rfl (leI hj))) hj']
     have:=znr hyk (zc8 R i) j (by rw [<-hp];exact hp0)
     rw [<-this,hp,Int.mul_fdiv_cancel _ (by rw [<-hp];exact hp0)]
    ·rw [hent k k (by exact leN (lin r1 V0 V0 [] rfl)) hk (by exact leN (lin r1 V0 V0 [] rfl)) hk,zmK hyk]
  by_cases hpk:pl=k
  ·subst hpk
   simp only [qA,zu,zj,zk,ze,zn,Cmp.run,bne_self_eq_false,kak,if_false]
   exact fin a as A R s J' ⟨e,ht,nd,hf,hlen,hmem,hent,hp,hp0,hs,hd⟩ hne
  ·have hb:((pl:Int) != (k:Int))=true:=by simp;exact (fun h_=>lif r2 [(2,-1,V0,V1),(1,1,V0,V1)] rfl h_ (zaG (lin r2 V0 V1 [(2,1,V0,V1)] rfl h_) hpk))
   refine zZ hb ?_
   refine zir F.swapped hk h2 (Ne.symm hpk) ht nd fun c as' J1 e1 ht1 nd1 hsub hc=>?_
   simp only [zw,zx,qh,yK,z1,zu,zj,zk,ze]
   have hkp:k<pl:=by exact ltN ((zaG ((leI h1)) (Ne.symm hpk)))
   obtain ⟨w1,w2,w3⟩:=zqF (R:=R) hkp (by exact ltN (lit r3 V0 V1 [(2,-1,V1,V2),(1,1,V0,V2)] rfl (eqI hlen) (ltI h2))) (kab n)
   refine fin c as' _ (swp R k pl) (0 - s) J1 ⟨e.trans e1,ht1,nd1,fun b hb=>hf b (hsub b hb),by rw [zqE,hlen],fun r=>(w3 r).trans (hmem r),fun i j hi hi' hj hj'=>?_,?_,hp0,by lia,by rw [w1,<-hd];grind⟩ ?_
   ·rw [(zkv w2 _ _).1,zny (by exact ltN (lit r3 V0 V1 [(1,1,V0,V2),(2,-1,V1,V2)] rfl (ltI hk) (eqI hlen))) (by exact ltN (lit r3 V0 V1 [(2,-1,V1,V2),(1,1,V0,V2)] rfl (eqI hlen) (ltI h2))) (by exact ltN (lit r3 V0 V1 [(2,-1,V1,V2),(1,1,V0,V2)] rfl (eqI hlen) (ltI hi'))) (by exact (fun h_=>lif r2 [(1,1,V0,V1),(2,-1,V0,V1)] rfl (ltI hkp) (eqI h_)))]
    refine hent _ j ?_ ?_ hj hj'
    ·split<;>(try split)<;>(first | assumption | exact kaB _)
    ·split<;>(try split)<;>assumption
   ·rw [(zkv w2 (fun _=>0) 0).2];exact hp
   ·simpa using hne
theorem wC(F:zdO T){n:Nat}{a:Addr}{as:List Addr}{f:Nat->Nat->Int}{B:Nat}(hn:n<=10)(ht:Tab J a n as f)(hB:(10*B) ^ 10<2 ^ 700)(hB1:1<=B)(hb:∀ i j,i<n->j<n->(f i j).natAbs<=B)
  (hq:∀ J',Ext J J'->Q (.int (det (kab n) (zap n f))) J'):zp T (d+2) "determinant" [.ref a] J Q P:=by
 have hR0:∀ r∈zap n f,∀ c,c<n->(r c).natAbs<=B:=fun r hr c hc=>by
  obtain ⟨i,hi,rfl⟩:=kau.mp hr
  exact hb i c (kam.mp hi) hc
 have hRl:(zap n f).length=n:=by simp [zap]
 refine F.det (d+1) _ _ _ _ rfl ?_
 unfold wH
 simp only [zD,qh,qd,qf,qc]
 refine zkS hn ht (yd rfl) (fun v=>rfl) fun c as' J1 e1 ht1 nd1 hf1 hc=>?_
 simp only [zw,zx,z1,yL,yu,jw,zu,zj,zk,zg]
 refine qa ht1.head ?_
 simp only [ze,kaK,ht1.len]
 refine ⟨by first | exact jg ‹_› ‹_› | (unfold jJ;exact ⟨lin r1 (.neg (.num 4611686018427387904)) V0 [(0,1,N0,V0)] rfl (nnI _),lit r1 V0 (.num 4611686018427387904) [(0,1,V0,.num 10)] rfl (leI hn)⟩),?_⟩
 refine qg (fun k Z J'=>X12 fun a as A R s p o3 o4 o5 o6 o7 o8=>Z=[some (.ref a),some (.int s),some (.int p),o3,o4,o5,o6,o7,o8]/\zr1 J J' n k (zap n f) a as A R s p) ?_ ?_ ?_
 ·refine ⟨c,as',f,zap n f,1,1,_,_,_,_,_,_,rfl,e1,ht1,nd1,hf1,hRl,fun r=>Iff.rfl,fun i j _ hi _ hj=>?_,by rw [zmJ],by decide,.inl rfl,by exact liq r1 (.mulL 1 V0) V0 [] rfl⟩
  rw [zrA]
  simp [zc8,zap,hi]
 ·intro k v Z J' K' hv hI6a hK
  obtain ⟨a,as,A,R,s,p,o3,o4,o5,o6,o7,o8,rfl,I⟩:=hI6a
  obtain ⟨hk,rfl⟩:=jh hv
  refine ⟨trivial,?_⟩
  simp only [jR,zw,zx,kaV]
  refine zsA F hn ‹_› hB hB1 hRl hR0 I (fun h1 Z' J'' e2=>?_) fun a as A R s p o4 o5 o7 o8 J'' I'=>?_
  ·refine hK (.ret _) _ _ ?_
   have:=hq J'' e2
   rw [h1] at this
   exact this
  ·exact hK .next _ _ ⟨a,as,A,R,s,p,_,_,_,_,_,_,rfl,I'⟩
 ·rintro Z J' ⟨a,as,A,R,s,p,o3,o4,o5,o6,o7,o8,rfl,I⟩
  rw [qx,kaf] at I
  obtain ⟨e,ht,nd,hf,hlen,hmem,hent,hp,hp0,hs,hd⟩:=I
  refine ⟨trivial,?_⟩
  simp only [jQ,zd1,zu,zj,zk,ze]
  refine ⟨zel (by lia) (by lia),?_⟩
  have e2:s*p=det (kab n) (zap n f):=by
   rw [<-hd,hp]
   unfold pk
   rw [kcD (by exact leN (lin r2 V0 V1 [(2,1,V0,V1)] rfl (eqI hlen)))]
  rw [e2]
  exact hq J' e
end
theorem zkN(a b:Prop)[Decidable a][Decidable b]:(if a then (0:Int) - (if b then 1 else 0) else 0)=if b then 0 - (if a then 1 else 0) else 0:=by
 by_cases h:a<;>by_cases h':b<;>simp only [h,h',if_true,if_false]<;>rfl
theorem znp(rs:Rd2)(v u:Nat):zbU rs v u=zbU rs u v:=by
 unfold zbU
 induction rs with
 | nil=>rfl
 | cons p rs ih =>
  have e:ye (p::rs)=(p.1,p.2)::(p.2,p.1)::ye rs:=by simp [ye]
  rw [e]
  simp only [jr]
  rw [ih]
  by_cases h:u=v
  ·subst h;rfl
  ·have h':¬ v=u:=fun e=>h e.symm
   simp only [h,h',if_false]
   rw [zkN (p.1=(v:Int)),zkN (p.2=(v:Int)),<-Int.add_assoc,<-Int.add_assoc,Int.add_comm (if p.2=(u:Int) then _ else _)]
theorem zcr{m:Int}{rs:Rd2}(n:Net m rs)(v:Nat):zbU rs v v=z4 rs v:=by
 unfold zbU z4
 refine jO fun a ha=>?_
 have:=n.arc_ne ha
 by_cases h:a.1=(v:Int)
 ·have h2:¬ a.2=(v:Int):=by exact (fun h_=>lif r3 [(2,-1,V0,V1),(2,1,V2,V1),(1,1,V0,V2)] rfl h h_ (yN (lin r3 V0 V1 [(2,1,V0,V2),(2,-1,V1,V2)] rfl h h_) this))
  simp [h,h2]
 ·simp [h]
theorem zkA{f:Int × Int->Int}:∀ {l:Rd2},(∀ a∈l,(f a).natAbs<=1)->(jr l f).natAbs<=l.length
 | [],_=>by simp [jr]
 | a::l,h=>by
  simp only [jr,kaj]
  have h1:=h a (by simp)
  have h2:=zkA (l:=l) fun b hb=>h b (by simp [hb])
  have h3:=Int.natAbs_add_le (f a) (jr l f)
  exact leN (lin r4 V0 (.add V1 N1) [(0,1,V2,N1),(0,1,V3,V1),(0,1,V0,.add V2 V3)] rfl (leI h1) (leI h2) (leI h3))
theorem zpy(rs:Rd2):(ye rs).length=2*rs.length:=by
 induction rs with
 | nil=>rfl
 | cons p rs ih =>
  have e:ye (p::rs)=(p.1,p.2)::(p.2,p.1)::ye rs:=by simp [ye]
  rw [e];simp only [kaj,ih];rfl
theorem yP{m:Int}{rs:Rd2}(n:Net m rs)(v u:Nat):(zbU rs v u).natAbs<=80:=by
 have h1:=n.len
 have h2:=zpy rs
 refine kai (zkA fun a ha=>?_) (by exact leN (lin r2 V0 (.num 80) [(0,2,V1,.num 40),(2,1,V0,.mulL 2 V1)] rfl (leI h1) (eqI h2)):(ye rs).length<=80)
 by_cases h:a.1=(v:Int)<;>by_cases h':u=v<;>by_cases h'':a.2=(u:Int)<;>simp [h,h',h'']<;>(try split)<;>exact kal rfl
theorem zjf{m:Int}{rs:Rd2}(n:Net m rs)(v:Nat):z4 rs v<=80:=by
 have h1:=yP n v v
 rw [zcr n] at h1
 omega
theorem zjh{m:Int}{rs:Rd2}(n:Net m rs)(h t:Nat->Int){v:Nat}(hv:(v:Int)<m):zry m.toNat (zbU rs) h t v=h v - lap m rs t v:=by
 unfold zry
 rw [<-ziY n.ends t hv]
 congr 1
 exact j6 fun u _=>by rw [znp]
noncomputable def zlN(f:Nat->Nat->Int)(b:Nat->Int)(i:Nat):Nat->Nat->Int:=fun v u=>if u=i then b v else f v u
theorem zgW{m:Int}{rs:Rd2}(hm:0<=m)(b:Nat->Int){i:Nat}(hi:i<m.toNat):det (kab m.toNat) (zap m.toNat (zlN (zbU rs) b i))=yG m rs b i:=by
 unfold yG zap
 rw [<-zm8]
 rw [kcS]
 have:=zao (cs:=kab m.toNat) (f:=zlN (zbU rs) b i) (g:=(fun (r:Row) (j:Nat)=>r (if j=i then m.toNat else j))∘zig m rs b) (kab m.toNat) [] fun v _ c hc=>by
  have hc':=kam.mp hc
  unfold zlN
  simp only [Function.comp]
  by_cases h:c=i
  ·simp [h,zig]
  ·have:¬ c=m.toNat:=by exact (fun h_=>lif r2 [(1,1,V0,V1),(2,-1,V0,V1)] rfl (ltI hc') (eqI h_))
   simp [h,zig,this]
 simpa using this
section
variable {T:TC} {d:Nat} {J:zc} {Q:V->zc->Prop} {P:Nat->zc->Prop}
theorem zb7(F:zdO T)(h:FnW T "solved" 2 5 (zbc T)){n:Nat}{a r:Addr}{as:List Addr}{f:Nat->Nat->Int}{b:Nat->Int}{B:Nat}(hn:n<=10)(ht:Tab J a n as f)(hr:L J r n b)(hB:(10*B) ^ 10<2 ^ 700)(hB1:1<=B)
  (hb:∀ i j,i<n->j<n->(f i j).natAbs<=B) (hbb:∀ i,i<n->(b i).natAbs<=B)
  (hq:∀ c J',Ext J J'->J c=none->L J' c n (fun i=>det (kab n) (zap n (zlN f b i)))->Q (.ref c) J'):zp T (d+3) "solved" [.ref a,.ref r] J Q P:=by
 refine h (d+2) _ _ _ _ rfl ?_
 unfold zbc
 simp only [zD,qh,jp,zM,qd,qf,qc,kaD]
 refine ⟨by first | exact kal rfl | simp [lim],zi fun g J1 hg e1 hgv=>?_⟩
 simp only [zw,zx,yL,yu,jw,zu,zj,zk,zg]
 refine qa (e1 _ _ ht.head) ?_
 simp only [ze,kaK,ht.len]
 refine ⟨by first | exact jg ‹_› ‹_› | (unfold jJ;exact ⟨lin r1 (.neg (.num 4611686018427387904)) V0 [(0,1,N0,V0)] rfl (nnI _),lit r1 V0 (.num 4611686018427387904) [(0,1,V0,.num 10)] rfl (leI hn)⟩),?_⟩
 refine qg (fun i Z J'=>X4 fun o3 o4 o5 o6=>Z=[some (.ref a),some (.ref r),some (.ref g),o3,o4,o5,o6]/\Ext J J'/\qJ J' g (lst i fun i=>det (kab n) (zap n (zlN f b i)))) ⟨_,_,_,_,rfl,e1,hgv⟩ ?_ ?_
 ·intro i v Z J' K' hv hI6a hK
  obtain ⟨o3,o4,o5,o6,rfl,hcj⟩:=hI6a
  have e:=hcj.1;have hgl:=hcj.2;clear hcj
  obtain ⟨hi,rfl⟩:=jh hv
  have hi':i<n:=by assumption
  refine ⟨trivial,?_⟩
  unfold zeH
  simp only [jR,zw,zx,zD,qh,kaV]
  refine zkS hn (ht.ext e) (yd rfl) (fun v=>rfl) fun c as' J2 e2 ht2 nd2 hf2 hc=>?_
  simp only [zw,zx,yL,yu,jw,zu,zj,zk,zg]
  refine qa (e2 _ _ (e _ _ ht.head)) ?_
  simp only [ze,kaK,ht.len]
  refine ⟨by first | exact jg ‹_› ‹_› | (unfold jJ;exact ⟨lin r1 (.neg (.num 4611686018427387904)) V0 [(0,1,N0,V0)] rfl (nnI _),lit r1 V0 (.num 4611686018427387904) [(0,1,V0,.num 10)] rfl (leI hn)⟩),?_⟩
  have e02:=e.trans e2
  refine qg (fun j Z J''=>X2 fun o5 o6=>Z=[some (.ref a),some (.ref r),some (.ref g),some (.int i),some (.ref c),o5,o6]/\Ext J' J''/\Tab J'' c n as' fun u v=>if u<j then zlN f b i u v else f u v) ⟨_,_,rfl,e2,ht2.cong fun u v _ _=>by simp⟩ ?_ ?_
  ·intro j v Z J'' K'' hv' hI6b hK'
   obtain ⟨o5,o6,rfl,hcj⟩:=hI6b
   have e':=hcj.1;have ht':=hcj.2;clear hcj
   obtain ⟨hj,rfl⟩:=jh hv'
   have hj':j<n:=by assumption
   refine ⟨trivial,?_⟩
   unfold zeI
   simp only [jR,zw,zx,wo,qv,zu,zj,zk,zg,ze,kaV]
   refine ((hr.ext e).ext e').at (by exact nnI _) (by exact kaw.mpr ‹_›) ?_
   refine ht'.at (by exact nnI _) (by exact kaw.mpr ‹_›) fun bb hb' hbl=>?_
   rw [kaf] at hb' hbl
   refine hbl.set (by exact nnI _) (by exact kaw.mpr ‹_›) fun J3 hJ3=>?_
   rw [kaf,kaf] at hJ3
   have ht3:=ht'.put nd2 hb' (j:=i) hi' (b j)
   rw [<-hJ3] at ht3
   refine hK' .next _ _ ⟨_,_,rfl,by rw [hJ3];exact e'.put (hf2 bb (kao hb')) _,ht3.cong fun u w hu hw=>?_⟩
   rw [zat]
   unfold zlN
   by_cases huj:u=j
   ·subst huj
    have:u<u+1:=by exact kaB _
    simp [this]
   ·by_cases hlt:u<j
    ·have:u<j+1:=by exact ltN (lit r2 V0 (.add V1 N1) [(1,1,V0,V1)] rfl (ltI hlt))
     simp [huj,hlt,this]
    ·have:¬ u<j+1:=by exact (fun h_=>lif r2 [(0,1,V0,V1),(1,1,V1,V0)] rfl (nuI hlt) (zaG (lin r2 V0 V1 [(1,1,V0,.add V1 N1)] rfl (ltI h_)) huj))
     simp [huj,hlt,this]
  ·rintro Z J'' ⟨o5,o6,rfl,hcj⟩
   have e':=hcj.1;have ht':=hcj.2;clear hcj
   refine ⟨trivial,?_⟩
   rw [qx] at ht'
   have ht'':Tab J'' c n as' (zlN f b i):=ht'.cong fun u v hu hv=>by
    have:u<(n:Int).toNat:=by assumption
    rw [if_pos this]
   have hg1:=hgl.ext e'
   refine ⟨zI hg1 trivial,?_⟩
   refine wC F hn ht'' hB hB1 (fun u v hu hv=>?_) fun J4 e4=>?_
   ·unfold zlN;split
    ·exact hbb u hu
    ·exact hb u v hu hv
   ·refine zI (hg1.ext e4) ?_
    refine ⟨by rw [qb,qN];unfold lim;exact ltN (lit r2 V0 (.num 1000000) [(0,1,V1,.num 10),(1,1,V0,V1)] rfl (leI hn) (ltI hi')),hK .next _ _ ⟨_,_,_,_,rfl,((e.trans e').trans e4).put hg _,?_⟩⟩
    unfold qJ
    rw [zB,zcc,<-zdC];rfl
 ·rintro Z J' ⟨o3,o4,o5,o6,rfl,hcj⟩
  have e:=hcj.1;have hgl:=hcj.2;clear hcj
  refine ⟨trivial,?_⟩
  rw [qx,kaf] at hgl
  exact hq g J' e hg hgl
noncomputable def Big:Nat:=36028797018963968
theorem zfx:(10*Big) ^ 10<2 ^ 700:=by decide +kernel
theorem zjB:1<=Big:=by decide +kernel
theorem zhz:80<=Big:=by decide +kernel
structure qB(m:Int)(h:Nat->Int):Prop where
 lo:∀ v:Nat,(v:Int)<m->0<=h v
 hi:∀ v:Nat,(v:Int)<m->h v<=1000000000
structure zqv(m:Int)(h:Nat->Int):Prop where
 lo:∀ v:Nat,(v:Int)<m->0<=h v
 hi:∀ v:Nat,(v:Int)<m->h v<=36000000000000000
theorem qB.b{m:Int}{h:Nat->Int}(x:qB m h):zqv m h:=⟨x.lo,fun v hv=>kbA (x.hi v hv) (by decide)⟩
theorem zem(F:zdO T)(hs:FnW T "solved" 2 5 (zbc T))(h:FnW T "least_times" 2 4 (yA T)){m:Int}{rs:Rd2}{a hp:Addr}{as:List Addr}{g:Nat->Int}(n:Net m rs)(ht:Tab J a m.toNat as (zbU rs))(hh:L J hp m.toNat g)(hg:zqv m g)
  (hq:∀ c J',Ext J J'->J c=none->D m rs≠0->L J' c m.toNat (t0 m rs g)->Q (.ref c) J'):zp T (d+4) "least_times" [.ref a,.ref hp] J Q P:=by
 have hm:=n.m0;have hm':=n.m10
 refine h (d+3) _ _ _ _ rfl ?_
 unfold yA
 simp only [zD,qh,zL,zC,zM,zu,qd,qf,qc,zj,zk]
 refine wC (d:=d+1) F (B:=Big) (by exact leN (lin r2 V0 (.num 10) [(0,1,V1,.num 10),(2,1,V0,V1)] rfl hm' (tnn (hm)))) ht zfx zjB (fun i j _ _=>kai (yP n i j) zhz) fun J1 e1=>?_
 have hD:D m rs≠0:=kbG (zfq n)
 have hDb:(D m rs).natAbs<2 ^ 700:=by
  have:=zcw (B:=Big) (N:=10) (kab m.toNat) (jF m rs) (fun r hr c hc=>by
   obtain ⟨v,hv,rfl⟩:=kau.mp hr
   exact kai (yP n v c) (by decide)) (by simp [jF];assumption)
  refine kbx (kai this (kbC (by decide) ?_)) zfx
  simp;assumption
 simp only [zw,zx,yH,yu,jw,zu,zj,zk,zg]
 refine qa (e1 _ _ hh) ?_
 simp only [ze,qb,qN]
 refine ⟨by first | exact jg ‹_› ‹_› | (unfold jJ;exact ⟨lin r1 (.neg (.num 4611686018427387904)) V0 [(0,1,N0,V0)] rfl (nnI _),lit r2 V0 (.num 4611686018427387904) [(0,1,V1,.num 10),(2,1,V0,V1)] rfl hm' (tnn (hm))⟩),by first | exact zeg ‹_› | (rw [qx];unfold lim;exact leN (lin r3 V0 (.num 1000000) [(0,1,V1,.num 10),(2,1,V2,V1),(2,1,V0,V2)] rfl hm' (tnn (hm)) (tnn ((nnI _))))),?_⟩
 refine qT (fun i acc J'=>acc=zs (lst i fun v=>g v - z4 rs v+1)/\J'=J1) ⟨rfl,rfl⟩ ?_ ?_
 ·rintro i v acc J' K' hv ⟨rfl,rfl⟩ hK
  obtain ⟨hi,rfl⟩:=jh hv
  refine ⟨trivial,?_⟩
  simp only [yn,if_true,zw,zx,q9,yK,qv,zu,z1,zj,zk,zg,ze,kaV]
  refine (hh.ext e1).at (by exact nnI _) (by exact kaw.mpr ‹_›) ?_
  refine (ht.ext e1).at (by exact nnI _) (by exact kaw.mpr ‹_›) fun b hb hbl=>?_
  refine hbl.at (by exact nnI _) (by exact kaw.mpr ‹_›) ?_
  refine hK _ _ ⟨?_,rfl⟩
  rw [zcc,<-zdC,zcr n];rfl
 ·rintro acc J' ⟨rfl,rfl⟩
  refine ⟨trivial,zi fun ov J2 hov e2 hovv=>?_⟩
  rw [qx,kaf] at hovv
  have hovl:L J2 ov m.toNat fun v=>g v - z4 rs v+1:=hovv
  simp only [zw,zx,jQ,yH,zak,zL,zC,zM,zu,zj,zk]
  have e12:=e1.trans e2
  refine zb7 (d:=d) F hs (B:=Big) (by exact leN (lin r2 V0 (.num 10) [(0,1,V1,.num 10),(2,1,V0,V1)] rfl hm' (tnn (hm)))) (ht.ext e12) hovl zfx zjB (fun i j _ _=>kai (yP n i j) zhz) (fun i hi=>?_) fun sv J3 e3 hsv hsvl=>?_
  ·have h1:=hg.lo i (by exact Mine.qD ‹_› ‹_›)
   have h2:=hg.hi i (by exact Mine.qD ‹_› ‹_›)
   have h3:=zjf n i
   have h4:=zgx (rs:=rs) i
   unfold Big
   lia
  ·simp only [zg]
   refine qI hsvl ?_
   refine ⟨by rw [qb,qN];unfold lim;exact leN (lin r2 V0 (.num 1000000) [(0,1,V1,.num 10),(2,1,V0,V1)] rfl hm' (tnn (hm))),?_⟩
   refine qT (fun i acc J'=>acc=zs (lst i (t0 m rs g))/\J'=J3) ⟨rfl,rfl⟩ ?_ ?_
   ·rintro i v acc J' K' hv ⟨rfl,rfl⟩ hK
    obtain ⟨x,hx,rfl⟩:=zma hv
    have hi:i<m.toNat:=by
     have:=(kah.mp hx).1
     rwa [qN] at this
    rw [wB _ hi] at hx
    have hx':x=yG m rs (fun v=>g v - z4 rs v+1) i:=by rw [<-zgW hm _ hi];exact (Option.some.inj hx).symm
    subst hx'
    refine ⟨.inl hsvl,?_⟩
    simp only [yn,if_true,zw,zx,zhe,yK,yy,zu,z1,zj,zk,ze]
    refine ⟨⟨hD,zd0 hDb⟩,hK _ _ ⟨?_,rfl⟩⟩
    rw [zcc,<-zdC]
    rfl
   ·rintro acc J' ⟨rfl,rfl⟩
    refine ⟨.inl hsvl,zi fun c J4 hc e4 hcv=>?_⟩
    rw [qb,qN] at hcv
    exact hq c J4 (e12.trans (e3.trans e4)) ((e12.trans e3).none hc) hD hcv
end
end Mine
end
section
open PySem
namespace Mine
theorem zi4{x:Int}{n:Nat}(h0:0<=x)(h:x<n):x.natAbs<n:=kaw.mp (by rw [Int.natAbs_of_nonneg h0];exact h)
structure zbK(T:TC):Prop where
 D:zdO T
 solved:FnW T "solved" 2 5 (zbc T)
 least:FnW T "least_times" 2 4 (yA T)
 table:FnW T "table_of" 2 5 (wG T)
 after:FnW T "after" 3 3 (zcz T)
 fallen:FnW T "fallen" 3 6 (zdQ T)
noncomputable def zpI:List V->Int
 | []=>0
 | .int i::r=>i+zpI r
 | _::r=>zpI r
theorem zmB:∀ l:List Int,zpI (zs l)=l.foldr (· + ·) 0
 | []=>rfl
 | x::l=>by show x+zpI (zs l)=_;rw [zmB l];rfl
theorem zkw(n:Nat)(f:Nat->Int):zpI (zs (lst n f))=qo (kab n) f:=by
 rw [zmB]
 unfold lst
 generalize kab n=l
 induction l with
 | nil=>rfl
 | cons a l ih=>simp only [kbq,List.foldr_cons,qo,ih]
theorem zkx(f:Nat->Int)(v:Nat)(x:Int):∀ l:List Nat,l.Nodup->qo l (upd f v x)=qo l f+if v∈l then x - f v else 0
 | [],_=>by simp [qo]
 | a::l,nd=>by
  have nd':=kaM.mp nd
  simp only [qo]
  rw [zkx f v x l nd'.2]
  by_cases h:a=v
  ·subst h
   simp [upd,nd'.1];exact liq r3 (.add V0 V1) (.add (.add V2 V1) (.sub V0 V2)) [] rfl
  ·have h':¬ v=a:=fun e=>h e.symm
   simp only [upd,h,if_false,kad,h',false_or];exact liq r3 (.add V0 (.add V1 V2)) (.add (.add V0 V1) V2) [] rfl
section
variable {T:TC} {d:Nat} {J:zc} {Q:V->zc->Prop} {P:Nat->zc->Prop}
theorem zaH(H:zbK T){m:Int}{rs:Rd2}{r hp:Addr}{g:Nat->Int}(n:Net m rs)(hr:zS J r rs)(hh:L J hp m.toNat g)(hg:zqv m g)
  (hq:∀ tp re tm t J',Ext J J'->J' tp=some (.tup [.ref re,.ref tm])->L J' re m.toNat (fun v=>g v - lap m rs t v)->L J' tm m.toNat t->zbR m rs g t->re≠tm->J re=none->J tm=none->Q (.ref tp) J'):zp T (d+5) "fallen" [.int m,.ref r,.ref hp] J Q P:=by
 have hm:=n.m0;have hm':=n.m10
 refine H.fallen (d+4) _ _ _ _ rfl ?_
 unfold zdQ
 refine yc (d:=d+3) H.table n hr fun ta as J1 e1 ht nd hf hta=>?_
 refine zem (d:=d) H.D H.solved H.least n ht (hh.ext e1) hg fun tm J2 e2 htm hD html=>?_
 refine zdh (d:=d+3) H.after (by exact leN (lin r2 V0 (.num 10) [(0,1,V1,.num 10),(2,1,V0,V1)] rfl hm' (tnn (hm)))) (ht.ext e2) ((hh.ext e1).ext e2) html (fun i j _ _=>kai (yP n i j) (by decide)) fun re J3 e3 hre hrel=>?_
 have e12:=e1.trans e2
 have e13:=e12.trans e3
 have htm0:J tm=none:=e1.none htm
 obtain ⟨t',ht'n,ht's⟩:=ze4 n g
 have frame:∀ {J':zc} {b:Addr},Ext J1 J'->b∈as->b≠tm:=fun {J' b} he hb=>by
  obtain ⟨k,hk,hkb⟩:=kaO hb
  exact jV (ht.row k b (by rw [<-hkb];simp [hk])) htm
 refine zfV (fun Z J'=>X5 fun bb re t o7 o8=>Z=[some (.int m),some (.ref r),some (.ref hp),some (.ref ta),some (.ref tm),some (.ref re),some (.bool bb),o7,o8]/\Ext J1 J'/\L J' tm m.toNat t/\L J' re m.toNat (fun v=>g v - lap m rs t v)/\re≠tm/\J re=none/\zjl m rs g t/\(bb=false->zrB m rs g t))
  (fun Z J'=>2*(match J' tm with | some (.list xs)=>(qo (kab m.toNat) t' - zpI xs).toNat | _=>0)+(match qz Z 6 with | some (.bool true)=>1 | _=>0)) ?_ ?_
 ·exact ⟨true,re,t0 m rs g,_,_,rfl,e2.trans e3,html.ext e3,hrel.cong fun v hv=>zjh n _ _ (by exact Mine.qD ‹_› ‹_›),Ne.symm (jV html hre),e12.none hre,zjl.start n hg.lo,by simp⟩
 ·intro Z J' N K' hI4a hN hK
  obtain ⟨bb,re,t,o7,o8,rfl,hcj⟩:=hI4a
  have e:=hcj.1;have html':=hcj.2.1;have hrel':=hcj.2.2.1;have hne:=hcj.2.2.2.1;have hre0:=hcj.2.2.2.2.1;have hfall:=hcj.2.2.2.2.2.1;have hst:=hcj.2.2.2.2.2.2;clear hcj
  have htms:=html'
  unfold L qJ at htms
  simp only [htms,zkw,zk,zj] at hN
  cases bb with
  | false =>
   refine ⟨by first | exact kal rfl | simp [lim],zi fun tp J5 htp e5 hv5=>?_⟩
   exact hq tp re tm t J5 ((e1.trans e).trans e5) hv5 (hrel'.ext e5) (html'.ext e5) ⟨hfall,hst rfl⟩ hne hre0 htm0
  | true =>
   unfold zeL
   refine ⟨by first | exact jg ‹_› ‹_› | (unfold jJ;omega),?_⟩
   refine qg (fun i Z J''=>X5 fun b re tB o7 o8=>Z=[some (.int m),some (.ref r),some (.ref hp),some (.ref ta),some (.ref tm),some (.ref re),some (.bool b),o7,o8]/\Ext J1 J''/\L J'' tm m.toNat tB/\L J'' re m.toNat (fun v=>g v - lap m rs tB v)/\re≠tm/\J re=none/\zjl m rs g tB/\(b=false->tB=t/\∀ v:Nat,v<i->(v:Int)<m->g v - lap m rs t v<z4 rs v)/\(b=true->qo (kab m.toNat) t<qo (kab m.toNat) tB)) ?_ ?_ ?_
   ·exact ⟨false,re,t,_,_,rfl,e,html',hrel',hne,hre0,hfall,fun _=>⟨rfl,fun v hv=>by exact lif r1 [(1,1,V0,N0),(0,1,N0,V0)] rfl (ltI hv) (nnI _)⟩,by simp⟩
   ·intro i v Z J'' K'' hv hI6b hK''
    obtain ⟨b,re,tB,o7,o8,rfl,hcj⟩:=hI6b
    have e':=hcj.1;have htl:=hcj.2.1;have hrl:=hcj.2.2.1;have hne':=hcj.2.2.2.1;have hre0':=hcj.2.2.2.2.1;have hf1:=hcj.2.2.2.2.2.1;have hb0:=hcj.2.2.2.2.2.2.1;have hb1:=hcj.2.2.2.2.2.2.2;clear hcj
    obtain ⟨hi,rfl⟩:=jh hv
    have hi':(i:Int)<m:=by exact Mine.qD ‹_› ‹_›
    have ht1:=ht.ext e'
    refine ⟨trivial,?_⟩
    unfold zeM
    simp only [jR,zw,zx,qr,qA,qv,zu,zj,zk,zg,ze,kaV]
    refine hrl.at (by exact nnI _) (by exact Mine.lt_toNat ‹_›) ?_
    refine ht1.at (by exact nnI _) (by exact Mine.lt_toNat ‹_›) fun bb hbb hbl=>?_
    refine hbl.at (by exact nnI _) (by exact Mine.lt_toNat ‹_›) ?_
    rw [zcr n]
    by_cases hge:g i - lap m rs tB i ≥ z4 rs i
    ·refine zZ (decide_eq_true hge) ?_
     have hdp:=zaB n hi'
     have hdl:=zjf n i
     have hstep:=zjl.step n hf1 hi' hge
     refine zoh hm hm' (yd rfl) fun tu J4 htu e4 htul=>?_
     simp only [zw,zx,wo,yy,qv,zu,zj,zk,zg,ze]
     refine (hrl.ext e4).at (by exact nnI _) (by exact Mine.lt_toNat ‹_›) ?_
     refine (ht1.ext e4).at (by exact nnI _) (by exact Mine.lt_toNat ‹_›) fun bb hbb hbl=>?_
     refine hbl.at (by exact nnI _) (by exact Mine.lt_toNat ‹_›) ?_
     simp only [ze,kaf]
     rw [zcr n]
     have hd9:(z4 rs i).natAbs<1073741824:=zi4 (kaA ‹_›) (kbz hdl (by decide))
     refine ⟨⟨by exact Mine.ji ‹_›,zba hd9⟩,?_⟩
     generalize hqq:(g i - lap m rs tB i).fdiv (z4 rs i)=q at hstep
     have hlt:(i:Int)<(m.toNat:Int):=by exact kaw.mpr ‹_›
     simp only [zD,qh,zu,zj,zk,zg,ze]
     refine htul.set (by exact nnI _) hlt fun J5 hJ5=>?_
     rw [kaf] at hJ5
     have htu5:L J5 tu m.toNat (upd (fun _=>0) i q):=by rw [hJ5];exact zB _ _ _
     have e5:Ext J'' J5:=by rw [hJ5];exact e4.put htu _
     refine zdh (d:=d+3) H.after (by exact leN (lin r2 V0 (.num 10) [(0,1,V1,.num 10),(2,1,V0,V1)] rfl hm' (tnn (hm)))) (ht1.ext e5) (hrl.ext e5) htu5 (fun i j _ _=>kai (yP n i j) (by decide)) fun re' J6 e6 hre6 hrel6=>?_
     simp only [zw,zx,wo,q9,qv,zu,zj,zk,zg,ze]
     have e56:=e5.trans e6
     refine (htl.ext e56).at (by exact nnI _) ‹_› ?_
     refine (htu5.ext e6).at (by exact nnI _) ‹_› ?_
     simp only [ze,kaf]
     rw [zdR]
     refine (htl.ext e56).set (by exact nnI _) ‹_› fun J7 hJ7=>?_
     rw [kaf] at hJ7
     have hre'tm:re'≠tm:=Ne.symm (jV (htl.ext e5) hre6)
     have hsum:qo (kab m.toNat) (upd tB i (tB i+q))=qo (kab m.toNat) tB+q:=by
      rw [zkx _ _ _ _ kbn,if_pos (by simp;assumption)];exact liq r3 (.add V0 (.sub (.add V1 V2) V1)) (.add V0 V2) [] rfl
     refine hK'' .next _ _ ⟨true,re',upd tB i (tB i+q),_,_,rfl,?_,?_,?_,hre'tm,?_,hstep.1,by simp,fun _=>?_⟩
     ·rw [hJ7];exact (e'.trans e56).put htm _
     ·rw [hJ7];exact zB _ _ _
     ·have:L J7 re' m.toNat (zry m.toNat (zbU rs) (fun v=>g v - lap m rs tB v) (upd (fun _=>0) i q)):=by
       rw [hJ7];unfold L qJ;rw [zO _ hre'tm];exact hrel6
      refine this.cong fun v hv=>?_
      rw [zjh n _ _ (by exact Mine.qD ‹_› ‹_›),zi7]
      have e0:=zi7 (m:=m) (rs:=rs) (fun _=>0) i q v
      have z0:lap m rs (fun _=>0) v=0:=by
       have:=yD m rs 0 0 (fun _=>0) (fun _=>0) v
       simpa using this
      have e00:upd (fun _=>(0:Int)) i (0+q)=upd (fun _=>0) i q:=by rw [kaV]
      rw [e00,z0] at e0
      rw [e0];exact liq r3 (.sub (.sub V0 V1) (.add N0 V2)) (.sub V0 (.add V1 V2)) [] rfl
     ·exact (e1.trans (e'.trans e5)).none hre6
     ·have h1:=hstep.2
      rw [hsum]
      cases b with
      | false=>rw [(hb0 rfl).1];exact lit r2 V0 (.add V0 V1) [(0,1,N1,V1)] rfl hstep.2
      | true=>have:=hb1 rfl;exact lit r3 V0 (.add V1 V2) [(0,1,N1,V2),(1,1,V0,V1)] rfl hstep.2 this
    ·refine zQ (decide_eq_false hge) ?_
     refine hK'' .next _ _ ⟨b,re,tB,_,_,rfl,e',htl,hrl,hne',hre0',hf1,fun hb=>⟨(hb0 hb).1,fun v hv hvm=>?_⟩,hb1⟩
     by_cases hvi:v=i
     ·subst hvi
      rw [<-(hb0 hb).1];exact kcU.mp ‹_›
     ·exact (hb0 hb).2 v (by exact ltN ((zaG (lin r2 V0 V1 [(1,1,V0,.add V1 N1)] rfl (ltI hv)) hvi))) hvm
   ·rintro Z J'' ⟨b,re,tB,o7,o8,rfl,hcj⟩
    have e':=hcj.1;have htl:=hcj.2.1;have hrl:=hcj.2.2.1;have hne':=hcj.2.2.2.1;have hre0':=hcj.2.2.2.2.1;have hf1:=hcj.2.2.2.2.2.1;have hb0:=hcj.2.2.2.2.2.2.1;have hb1:=hcj.2.2.2.2.2.2.2;clear hcj
    refine ⟨trivial,?_⟩
    refine hK .next _ _ ⟨⟨b,re,tB,_,_,rfl,e',htl,hrl,hne',hre0',hf1,fun hb v hv=>?_⟩,?_⟩
    ·have:=hb0 hb
     rw [this.1]
     exact this.2 v (by rw [qx];exact Mine.jW ‹_›) hv
    ·have htls:=htl
     unfold L qJ at htls
     simp only [htls,zkw,zk,zj]
     have hle:qo (kab m.toNat) tB<=qo (kab m.toNat) t':=zf2 fun v hv=>hf1.low t' ht'n ht's v (by first | exact zsp ‹_› hv | (have:=kam.mp hv;omega))
     cases b with
     | false =>
      rw [<-hN,(hb0 rfl).1]
      show 2*(qo (kab m.toNat) t' - qo (kab m.toNat) t).toNat+0<2*(qo (kab m.toNat) t' - qo (kab m.toNat) t).toNat+1
      exact kaB _
     | true =>
      have:=hb1 rfl
      rw [<-hN]
      show 2*(qo (kab m.toNat) t' - qo (kab m.toNat) tB).toNat+1<2*(qo (kab m.toNat) t' - qo (kab m.toNat) t).toNat+1
      exact ltN (lit r5 (.add (.mulL 2 V0) N1) (.add (.mulL 2 V1) N1) [(1,2,V2,V3),(2,2,V0,.sub V4 V3),(2,-2,V1,.sub V4 V2)] rfl this (tnn (lin r2 N0 (.sub V0 V1) [(0,1,V1,V0)] rfl hle)) (tnn (lin r3 N0 (.sub V0 V1) [(0,1,V2,V0),(1,1,V1,V2)] rfl hle this)))
structure NHs(T:TC):Prop where
 spec:∀ {d:Nat} {J:zc} {Q:V->zc->Prop} {P:Nat->zc->Prop} {m:Int} {hp:Addr} {g:Nat->Int},0<=m->m<=10->L J hp m.toNat g->qB m g->(∀ J',Ext J J'->Q .none J')->zp T (d+2) "need_heap" [.int m,.ref hp] J Q P
theorem qe(hw:FnW T "is_within" 3 0 (qF T))(h:NHs T){m:Int}{hp:Addr}{g:Nat->Int}(hm:0<=m)(hm':m<=10)(hh:L J hp m.toNat g)(hg:qB m g)(hq:∀ J',Ext J J'->Q .none J'):zp T (d+2) "need_heap" [.int m,.ref hp] J Q P:=h.spec hm hm' hh hg hq
end
noncomputable def rb(m:Int)(rs:Rd2)(h:Nat->Int):Bool:=(kab m.toNat).all fun v=>decide (h v<z4 rs v)
theorem zpN{m:Int}{rs:Rd2}{h:Nat->Int}:rb m rs h=true ↔ ∀ v:Nat,(v:Int)<m->h v<z4 rs v:=by
 unfold rb
 simp only [kaX,kam,decide_eq_true_eq]
 exact ⟨fun H v hv=>H v (by exact Mine.jW ‹_›),fun H v hv=>H v (by exact (ka0.mp hv))⟩
theorem zie(n:Nat)(f:Nat->Bool)(k:List Bool->Prop)(h:k ((kab n).map f)):zlV ((kab n).map fun v=>V.bool (f v)) k:=⟨_,by simp,h⟩
structure zqa(T:TC):Prop where
 N:wT T
 H:zbK T
 need:NHs T
 settled:FnW T "settled" 3 0 (zck T)
structure znh(T:TC):Prop where
 N:wT T
 need:NHs T
 counts:FnW T "counts_at" 2 3 (qS T)
 rests:FnW T "rests" 3 2 (zbE T)
 atRest:FnW T "at_rest" 3 0 (zcp T)
noncomputable def zfz(n:Nat)(f:Nat->Bool):List Int:=((kab n).filter f).map fun i:Nat=>(i:Int)
theorem zct(n f):zfz (n+1) f=zfz n f++if f n then [(n:Int)] else []:=by
 unfold zfz
 rw [ka4,ka8]
 cases h:f n<;>simp [h]
theorem zkD{n f}:zfz n f=[] ↔ ∀ i,i<n->f i=false:=by
 unfold zfz
 simp only [List.map_eq_nil_iff,List.filter_eq_nil_iff,kam]
 exact ⟨fun h i hi=>by simpa using h i hi,fun h i hi=>by simp [h i hi]⟩
section
variable {T:TC} {d:Nat} {J:zc} {Q:V->zc->Prop} {P:Nat->zc->Prop}
theorem zgd(hcn:FnW T "counts_at" 2 3 (qS T))(h:FnW T "rests" 3 2 (zbE T)){m:Int}{rs:Rd2}{r hp:Addr}{g:Nat->Int}(n:Net m rs)(hr:zS J r rs)(hh:L J hp m.toNat g)(hq:∀ J',Ext J J'->Q (.bool (rb m rs g)) J'):zp T (d+2) "rests" [.int m,.ref r,.ref hp] J Q P:=by
 have hm:=n.m0;have hm':=n.m10
 have nn:∀ p∈rs,0<=p.1/\0<=p.2:=fun p hp=>⟨(n.ends p hp).1.1,(n.ends p hp).2.1.1⟩
 refine h (d+1) _ _ _ _ rfl ?_
 unfold zbE
 simp only [zD,qh,zL,zC,zM,zu,qd,qf,qc,zj,zk]
 refine y7 (d:=d) hcn hm hm' hr nn fun c J1 e1 hc hcv=>?_
 rw [zaA hm nn] at hcv
 have hcl:L J1 c m.toNat (z4 rs):=hcv
 simp only [zw,zx,jQ,zl1,yH,yu,zu,zj,zk,ze]
 refine ⟨by first | exact jg ‹_› ‹_› | (unfold jJ;omega),by first | exact zeg ‹_› | (rw [qx];unfold lim;omega),?_⟩
 refine qT (fun i acc J'=>acc=((kab i).map fun v=>V.bool (decide (g v<z4 rs v)))/\J'=J1) ⟨rfl,rfl⟩ ?_ ?_
 ·intro i v acc J' K' hv hI6a hK
  obtain ⟨rfl,rfl⟩:=hI6a
  obtain ⟨hi,rfl⟩:=jh hv
  refine ⟨trivial,?_⟩
  simp only [yn,if_true,zw,zx,qA,qv,zu,zj,zk,zg,ze,kaV]
  refine (hh.ext e1).at (by exact nnI _) (by exact kaw.mpr ‹_›) ?_
  refine hcl.at (by exact nnI _) (by exact kaw.mpr ‹_›) ?_
  exact hK _ _ ⟨by rw [ka4,ka9];rfl,rfl⟩
 ·intro acc J' hI2b
  obtain ⟨rfl,rfl⟩:=hI2b
  refine ⟨trivial,zi fun l J2 hl e2 hlv=>?_⟩
  refine zI hlv ?_
  rw [qx]
  refine zie _ _ _ ?_
  have:=hq J2 (e1.trans e2)
  unfold rb at this
  rw [List.all_map]
  exact this
theorem ziV(F:znh T){m:Int}{rs:Rd2}{r hp:Addr}{g:Nat->Int}(n:Net m rs)(hr:zS J r rs)(hh:L J hp m.toNat g)(hg:qB m g)(hq:∀ J',Ext J J'->Q (.bool (rb m rs g)) J'):zp T (d+4) "at_rest" [.int m,.ref r,.ref hp] J Q P:=by
 refine F.atRest (d+3) _ _ _ _ rfl ?_
 unfold zcp
 refine z8 (d:=d) F.N n hr fun J1 e1=>?_
 refine qe (d:=d+1) F.N.within F.need n.m0 n.m10 (hh.ext e1) hg fun J2 e2=>?_
 have e12:=e1.trans e2
 refine zgd (d:=d+1) F.counts F.rests n (hr.ext e12) (hh.ext e12) fun J3 e3=>hq J3 (e12.trans e3)
theorem ziz(F:zqa T){m:Int}{rs:Rd2}{r hp:Addr}{g:Nat->Int}(n:Net m rs)(hr:zS J r rs)(hh:L J hp m.toNat g)(hg:qB m g)
  (hq:∀ tp re tm t J',Ext J J'->J' tp=some (.tup [.ref re,.ref tm])->L J' re m.toNat (fun v=>g v - lap m rs t v)->L J' tm m.toNat t->zbR m rs g t->re≠tm->J re=none->J tm=none->Q (.ref tp) J'):zp T (d+6) "settled" [.int m,.ref r,.ref hp] J Q P:=by
 refine F.settled (d+5) _ _ _ _ rfl ?_
 unfold zck
 refine z8 (d:=d+2) F.N n hr fun J1 e1=>?_
 refine qe (d:=d+3) F.N.within F.need n.m0 n.m10 (hh.ext e1) hg fun J2 e2=>?_
 have e12:=e1.trans e2
 refine zaH (d:=d) F.H n (hr.ext e12) (hh.ext e12) hg.b fun tp re tm t J3 e3 h1 h2 h3 h4 h5 h6 h7=>?_
 exact hq tp re tm t J3 (e12.trans e3) h1 h2 h3 h4 h5 (e12.none h6) (e12.none h7)
end
end Mine
end
section
open PySem
namespace Mine
section
variable {T:TC} {d:Nat} {J:zc} {Q:V->zc->Prop} {P:Nat->zc->Prop}
theorem zrM:zou 10 9:=⟨by exact nnI _,by exact nnI _,by decide +kernel⟩
end
end Mine
end
section
open PySem
namespace Mine
end Mine
end
section
open PySem
namespace Mine
section
variable {T:TC} {d:Nat} {J:zc} {Q:V->zc->Prop} {P:Nat->zc->Prop}
theorem yU{m:Int}{Z:zK}{a e:EW}{j:Nat}(hm:0<=m)(hm':m<=10)(ha:∀ (J:zc) (Q:V->zc->Prop) (P:Nat->zc->Prop),a Z J Q P=Q (.int m) J)(f:Nat->Int)
  (step:∀ (i:Nat) J' (K:V->zc->Prop),(i:Int)<m->Ext J J'->(∀ J'',Ext J' J''->K (.int (f i)) J'')->e (jP Z j (.int i)) J' K noP)
  (hq:∀ c J',J c=none->Ext J J'->L J' c m.toNat f->Q (.ref c) J'):qU j (jl a) none e Z J Q P:=by
 rw [yH,yu,ha]
 refine ⟨by first | exact jg ‹_› ‹_› | (unfold jJ;omega),by first | exact zeg ‹_› | (rw [qx];unfold lim;omega),?_⟩
 refine qT (fun i acc J'=>acc=zs (lst i f)/\Ext J J') ⟨rfl,Ext.refl⟩ ?_ ?_
 ·intro i v acc J' K' hv hI6a hK
  obtain ⟨rfl,e'⟩:=hI6a
  obtain ⟨hi,rfl⟩:=jh hv
  refine ⟨trivial,?_⟩
  simp only [yn,if_true,kaV]
  refine step i J' _ (by exact Mine.qD ‹_› ‹_›) e' fun J'' e''=>hK _ _ ⟨?_,e'.trans e''⟩
  rw [zcc,<-zdC];rfl
 ·intro acc J' hI2b
  obtain ⟨rfl,e'⟩:=hI2b
  refine ⟨trivial,zi fun c J'' hc e'' hcv=>?_⟩
  rw [qx] at hcv
  exact hq c J'' (e'.none hc) (e'.trans e'') hcv
theorem znQ{m:Int}{Z:zK}{a c e:EW}{j:Nat}(hm:0<=m)(hm':m<=10)(ha:∀ (J:zc) (Q:V->zc->Prop) (P:Nat->zc->Prop),a Z J Q P=Q (.int m) J)(f:Nat->Bool)
  (test:∀ (i:Nat) J' (K:V->zc->Prop),(i:Int)<m->Ext J J'->(∀ J'',Ext J' J''->K (.bool (f i)) J'')->c (jP Z j (.int i)) J' K noP)
  (he:∀ (i:Nat) J' (K:V->zc->Prop),K (.int i) J'->e (jP Z j (.int i)) J' K noP)
  (hq:∀ c J',J c=none->Ext J J'->qJ J' c (zfz m.toNat f)->Q (.ref c) J'):qU j (jl a) (some c) e Z J Q P:=by
 rw [yH,yu,ha]
 refine ⟨by first | exact jg ‹_› ‹_› | (unfold jJ;omega),by first | exact zeg ‹_› | (rw [qx];unfold lim;omega),?_⟩
 refine qT (fun i acc J'=>acc=zs (zfz i f)/\Ext J J') ⟨rfl,Ext.refl⟩ ?_ ?_
 ·intro i v acc J' K' hv hI6a hK
  obtain ⟨rfl,e'⟩:=hI6a
  obtain ⟨hi,rfl⟩:=jh hv
  refine ⟨trivial,?_⟩
  simp only [j7,kaV]
  refine test i J' _ (by exact Mine.qD ‹_› ‹_›) e' fun J'' e''=>?_
  simp only [zn]
  split
  ·rename_i hc'
   refine he i _ _ (hK _ _ ⟨?_,e'.trans e''⟩)
   rw [zct,hc',if_pos rfl,<-zdC];rfl
  ·rename_i hc'
   refine hK _ _ ⟨?_,e'.trans e''⟩
   rw [zct,if_neg hc',ka5]
 ·intro acc J' hI2b
  obtain ⟨rfl,e'⟩:=hI2b
  refine ⟨trivial,zi fun c J'' hc e'' hcv=>?_⟩
  rw [qx] at hcv
  exact hq c J'' (e'.none hc) (e'.trans e'') hcv
end
theorem it0{a b:V}{k:V->Prop}:yh [a,b] (kcO 0) k=k a:=yx rfl
theorem it1{a b:V}{k:V->Prop}:yh [a,b] (kcO 1) k=k b:=yx rfl
theorem zty{J:zc}{Q:V->zc->Prop}{P:Nat->zc->Prop}{x m:Int}{Z:zK}{a:EW}(hm:0<=m)(hm':m<=10)(ha:∀ (J:zc) (Q:V->zc->Prop) (P:Nat->zc->Prop),a Z J Q P=Q (.int m) J)(hq:∀ c J',J c=none->Ext J J'->L J' c m.toNat (fun _=>x)->Q (.ref c) J'):mulL (qw (zd (val (.int x)) zv)) a Z J Q P:=by
 refine ⟨by first | exact kal rfl | simp [lim],zi fun c J1 hc e1 hv=>?_⟩
 rw [ha]
 refine zI hv ?_
 refine ⟨by exact lit r1 V0 (.num 4611686018427387904) [(0,1,V0,.num 10)] rfl hm',by exact lin r1 (.neg (.num 4611686018427387904)) V0 [(0,1,N0,V0)] rfl hm,by simp [lim];exact lin r1 V0 (.num 1000000) [(0,1,V0,.num 10)] rfl hm',zi fun c' J2 hc' e2 hv2=>?_⟩
 refine hq c' J2 (e1.none hc') (e1.trans e2) ?_
 unfold L qJ
 rw [hv2,<-zgi]
 congr 2
 unfold zs
 generalize m.toNat=k
 induction k with
 | zero=>rfl
 | succ k ih=>rw [kbt,kbt,kcQ,ih];rfl
end Mine
end
section
open PySem
namespace Mine
section
variable {T:TC} {d:Nat} {J:zc} {Q:V->zc->Prop} {P:Nat->zc->Prop}
theorem ztf{m:Int}{rs:Rd2}{t:Nat->Int}{C:Int}(hC:0<=C)(n:Net m rs)(ht:∀ v:Nat,(v:Int)<m->t v<=C)(v:Nat):(jr (ye rs) fun a=>if a.1=(v:Int) then tx m t a.2 else 0)<=C*z4 rs v:=by
 have h1:(jr (ye rs) fun a=>if a.1=(v:Int) then tx m t a.2 else 0)<=jr (ye rs) fun a=>C*(if a.1=(v:Int) then 1 else 0)+0*0:=zab fun a ha=>by
  have:=(n.arc ha).2
  by_cases h:a.1=(v:Int)
  ·simp only [h,if_true]
   unfold tx
   split
   ·have:=ht a.2.toNat (by exact lit r3 V0 V1 [(1,1,V2,V1),(2,1,V0,V2)] rfl ‹_› (tnn (this.1)));exact lin r2 V0 (.add (.mulR V1 1) (.mulL 0 N0)) [(0,1,V0,V1)] rfl this
   ·exact lin r1 N0 (.add (.mulR V0 1) (.mulL 0 N0)) [(0,1,N0,V0)] rfl hC
  ·simp [h]
 rw [zgO C 0 (fun a=>if a.1=(v:Int) then 1 else 0) (fun _=>0)] at h1
 unfold z4
 exact lin r3 V0 V1 [(0,1,V0,.add V1 (.mulL 0 V2))] rfl h1
end
theorem zeB{m:Int}(rs:Rd2)(a b:Int)(v:Nat):lap m (rs++[(a,b)]) (fun _=>1) v=lap m rs (fun _=>1) v+((if a=(v:Int) then 1 - (if b<m then 1 else 0) else 0)+if b=(v:Int) then 1 - (if a<m then 1 else 0) else 0):=by
 unfold lap
 have e:ye (rs++[(a,b)])=ye rs++[(a,b),(b,a)]:=by simp [ye]
 rw [e,zdU]
 simp [jr,tx]
section
variable {T:TC} {d:Nat} {J:zc} {Q:V->zc->Prop} {P:Nat->zc->Prop}
theorem zbV(h:FnW T "other_end" 2 0 (jZ T)){t:Addr}{a b m:Int}(ht:J t=some (.tup [.int a,.int b]))(hq:Q (.int (if b=m then a else b)) J):zp T (d+1) "other_end" [.ref t,.int m] J Q P:=by
 refine h d _ _ _ _ rfl ?_
 unfold jZ
 simp only [jQ,zom,qA,qv,z1,zu,qd,qf,qc,zj,zk,zg,ze]
 refine ⟨by exact nnI _,?_⟩
 refine jS ht ?_
 rw [it1]
 simp only [ze,zn,Cmp.run]
 by_cases hb:b=m
 ·simp only [hb,beq_self_eq_true,if_true] at hq ⊢
  refine ⟨by exact nnI _,?_⟩
  refine jS ht ?_
  rw [it0]
  exact hq
 ·have:(b==m)=false:=by simp [hb]
  simp only [this,hb,kak,if_false] at hq ⊢
  refine ⟨by exact nnI _,?_⟩
  refine jS ht ?_
  rw [it1]
  exact hq
theorem zff(ho:FnW T "other_end" 2 0 (jZ T))(h:FnW T "pit_counts" 2 3 (yp T)){m:Int}{rs:Rd2}{r:Addr}(n:Net m rs)(hr:zS J r rs)
  (hq:∀ c J',Ext J J'->J c=none->L J' c m.toNat (lap m rs fun _=>1)->Q (.ref c) J'):zp T (d+2) "pit_counts" [.int m,.ref r] J Q P:=by
 have hm:=n.m0;have hm':=n.m10
 refine h (d+1) _ _ _ _ rfl ?_
 obtain ⟨vs,hr1,hr2⟩:=hr
 unfold yp
 refine zoh hm hm' (yd rfl) fun c J1 hc e1 hcl=>?_
 simp only [qd,qf,qc,zw,zx]
 rw [zD]
 simp only [yL,zak,zu,zj,zk,zg]
 refine qI (e1 _ _ hr1) ?_
 refine qg (fun i Z J'=>X2 fun o3 o4=>Z=[some (.int m),some (.ref r),some (.ref c),o3,o4]/\Ext J J'/\L J' c m.toNat (lap m (rs.take i) fun _=>1)) ?_ ?_ ?_
 ·exact ⟨_,_,rfl,e1,hcl.cong fun v _=>by simp [lap,ye,jr]⟩
 ·intro i v Z J' K' hv hI6a hK
  obtain ⟨o3,o4,rfl,hcj⟩:=hI6a
  have e:=hcj.1;have hi:=hcj.2;clear hcj
  obtain ⟨t,a,b,rfl,hrs,ht⟩:=hr2.get hv
  have hab:=n.ends _ (kao hrs)
  have htk:rs.take (i+1)=rs.take i++[(a,b)]:=by rw [kaN,hrs];rfl
  refine ⟨.inl (e _ _ hr1),?_⟩
  unfold zbr
  refine InV.tup (ns:=[a,b]) (e _ _ ht) ?_
  have ha:∃ x:Nat,a=(x:Int):=⟨a.toNat,by exact liq r2 V0 V1 [(2,-1,V1,V0)] rfl (tnn (hab.1.1))⟩
  have hb:∃ y:Nat,b=(y:Int):=⟨b.toNat,by exact liq r2 V0 V1 [(2,-1,V1,V0)] rfl (tnn (hab.2.1.1))⟩
  obtain ⟨x,rfl⟩:=ha
  obtain ⟨y,rfl⟩:=hb
  by_cases hin:m∈[(x:Int),(y:Int)]
  ·refine zZ (decide_eq_true hin) ?_
   refine zbV (d:=d) ho (e _ _ ht) ?_
   simp only [zx,zw,wo,q9,qv,z1,zu,zj,zk,zg,ze]
   have key:∀ z:Nat,(z:Int)<m->(∀ v,v<m.toNat->lap m (rs.take (i+1)) (fun _=>1) v=upd (lap m (rs.take i) fun _=>1) z (lap m (rs.take i) (fun _=>1) z+1) v) ->
     0<=(z:Int)/\yo J' c fun xs=>yh xs (z:Int).toNat fun v=>v.asInt fun x=>zd5 J' c (z:Int) (.int (x+1)) fun J''=>K' .next [some (.int m),some (.ref r),some (.ref c),some (.ref t),some (.int z)] J'':=by
    intro z hz hupd
    refine hi.at (by exact nnI _) (by exact Mine.lt_toNat ‹_›) ?_
    refine hi.set (by exact nnI _) (by exact Mine.lt_toNat ‹_›) fun J2 hJ2=>?_
    rw [kaf] at hJ2
    refine hK .next _ _ ⟨_,_,rfl,by rw [hJ2];exact e.put hc _,?_⟩
    have:L J2 c m.toNat (upd (lap m (rs.take i) fun _=>1) z (lap m (rs.take i) (fun _=>1) z+1)):=by rw [hJ2];exact zB _ _ _
    exact this.cong fun v hv=>(hupd v hv).symm
   by_cases hy:(y:Int)=m
   ·simp only [hy,if_true]
    refine key x (by exact lit r3 V0 V1 [(0,1,V2,V1),(1,1,V0,V2)] rfl hab.2.1.2 (yN (lin r3 V0 V1 [(0,1,V0,V2),(2,-1,V1,V2)] rfl hab.1.2 hy) hab.2.2)) fun v hv=>?_
    rw [htk,zeB]
    unfold upd
    by_cases hvx:v=x
    ·subst hvx
     have hvm:=qD hm hv
     have:¬ (y:Int)=(v:Int):=fun e=>kbH m (by rw [<-e,hy] at hvm;exact hvm)
     have h2:¬ (y:Int)<m:=by rw [hy];exact kbH m
     rw [if_pos rfl,if_neg h2,if_neg this,if_pos rfl];rfl
    ·have hvm:=qD hm hv
     have h1:¬ (x:Int)=(v:Int):=fun e=>hvx (Int.ofNat.inj e).symm
     have h2:¬ (y:Int)=(v:Int):=fun e=>kbH m (by rw [<-e,hy] at hvm;exact hvm)
     rw [if_neg h1,if_neg h2,if_neg hvx,kbb,kbb]
   ·have hx:(x:Int)=m:=by simp at hin;lia
    simp only [hy,if_false]
    refine key y (by exact (yN (hab.2.1.2) hy)) fun v hv=>?_
    rw [htk,zeB]
    unfold upd
    by_cases hvx:v=y
    ·subst hvx
     have hvm:=qD hm hv
     have:¬ (x:Int)=(v:Int):=fun e=>kbH m (by rw [<-e,hx] at hvm;exact hvm)
     have h2:¬ (x:Int)<m:=by rw [hx];exact kbH m
     rw [if_neg this,if_pos rfl,if_neg h2,if_pos rfl];rfl
    ·have hvm:=qD hm hv
     have h1:¬ (y:Int)=(v:Int):=fun e=>hvx (Int.ofNat.inj e).symm
     have h2:¬ (x:Int)=(v:Int):=fun e=>kbH m (by rw [<-e,hx] at hvm;exact hvm)
     rw [if_neg h1,if_neg h2,if_neg hvx,kbb,kbb]
  ·refine zQ (decide_eq_false hin) ?_
   refine hK .next _ _ ⟨_,_,rfl,e,hi.cong fun v hv=>?_⟩
   rw [htk,zeB]
   simp only [kad,kay,or_false,not_or] at hin
   have h1:(x:Int)<m:=by exact (yN (hab.1.2) (Ne.symm hin.1))
   have h2:(y:Int)<m:=by exact (yN (hab.2.1.2) (Ne.symm hin.2))
   simp [h1,h2]
 ·rintro Z J' ⟨o3,o4,rfl,hcj⟩
  have e:=hcj.1;have hi:=hcj.2;clear hcj
  refine ⟨.inl (e _ _ hr1),?_⟩
  refine hq c J' e hc ?_
  rw [hr2.length,kba] at hi
  exact hi
end
def zox(m:Int)(rs:Rd2)(g:Nat->Int):Prop:=(∀ v:Nat,(v:Int)<m->g v<z4 rs v)/\∀ t,zbR m rs (fun v=>g v+lap m rs (fun _=>1) v) t->∀ v:Nat,(v:Int)<m->t v=1
theorem zdb{m:Int}{rs:Rd2}(n:Net m rs){v:Nat}(hv:(v:Int)<m):0<=lap m rs (fun _=>1) v/\lap m rs (fun _=>1) v<=z4 rs v:=by
 have h1:=yY (m:=m) (rs:=rs) (fun _=>1) v
 have h2:=zjt n (t:=fun _=>1) (fun _ _=>(by decide:(0:Int)<=1)) v
 have h3:=ztf (C:=1) (t:=fun _=>1) (by decide) n (fun _ _=>kaW _) v
 exact ⟨lin r3 N0 V0 [(2,-1,V0,.sub (.mulR V1 1) V2),(0,1,V2,.mulL 1 V1)] rfl h1 h3,lin r3 V0 V1 [(2,1,V0,.sub (.mulR V1 1) V2),(0,1,N0,V2)] rfl h1 h2⟩
theorem zpA{m:Int}{rs:Rd2}{g t:Nat->Int}(n:Net m rs)(hL:zbR m rs (fun v=>g v+lap m rs (fun _=>1) v) t)(hr:∀ v:Nat,(v:Int)<m->g v<z4 rs v):(lst m.toNat (fun v=>g v+lap m rs (fun _=>1) v - lap m rs t v)=lst m.toNat g) ↔ zox m rs g:=by
 constructor
 ·intro h
  refine ⟨hr,fun t' hL' v hv=>?_⟩
  have h1:∀ v:Nat,(v:Int)<m->lap m rs (fun u=>1*t u+(-1)*1) v=0:=fun v hv=>by
   rw [yD m rs 1 (-1) t (fun _=>1) v]
   have:=zmT h v (by exact Mine.jW ‹_›)
   exact liq r3 (.add (.mulL 1 V0) (.mulL (-1) V1)) N0 [(2,-1,.sub (.add V2 V1) V0,V2)] rfl this
  have h2:=zmU n h1 v hv
  have h3:=hL'.uniq hL v hv
  try simp only at h2
  exact liq r2 V0 N1 [(2,1,.add (.mulL 1 V1) (.mulL (-1) N1),N0),(2,1,V0,V1)] rfl h2 h3
 ·rintro ⟨_,h⟩
  refine zcJ fun v hv=>?_
  have:=zhR (m:=m) (rs:=rs) (f:=t) (g:=fun _=>1) (v:=v) (by exact (ka0.mp hv)) n.ends fun u hu=>h t hL u hu
  exact liq r3 (.sub (.add V0 V1) V2) V0 [(2,-1,V2,V1)] rfl this
structure zov(T:TC):Prop where
 H:zbK T
 counts:FnW T "counts_at" 2 3 (qS T)
 rests:FnW T "rests" 3 2 (zbE T)
 other:FnW T "other_end" 2 0 (jZ T)
 pit:FnW T "pit_counts" 2 3 (yp T)
 is:FnW T "is_again" 3 3 (zas T)
structure zk1(T:TC):Prop where
 N:wT T
 H:zbK T
 need:NHs T
 counts:FnW T "counts_at" 2 3 (qS T)
 rests:FnW T "rests" 3 2 (zbE T)
 other:FnW T "other_end" 2 0 (jZ T)
 pit:FnW T "pit_counts" 2 3 (yp T)
 is:FnW T "is_again" 3 3 (zas T)
 comes:FnW T "comes_again" 3 0 (wI T)
section
variable {T:TC} {d:Nat} {J:zc} {Q:V->zc->Prop} {P:Nat->zc->Prop}
theorem zcU(F:zov T){m:Int}{rs:Rd2}{r hp:Addr}{g:Nat->Int}(n:Net m rs)(hr:zS J r rs)(hh:L J hp m.toNat g)(hg:Nn m g)
  (hq:∀ b J',Ext J J'->(b=true ↔ zox m rs g)->Q (.bool b) J'):zp T (d+6) "is_again" [.int m,.ref r,.ref hp] J Q P:=by
 have hm:=n.m0;have hm':=n.m10
 refine F.is (d+5) _ _ _ _ rfl ?_
 unfold zas
 simp only [qr,wK,zaU,zL,zC,zM,zu,qd,qf,qc,zj,zk]
 refine zgd (d:=d+3) F.counts F.rests n hr hh fun J1 e1=>?_
 cases hrb:rb m rs g with
 | false =>
  refine hq false J1 e1 ⟨fun h=>(by cases h),fun h=>?_⟩
  have:=zpN.mpr h.1
  rw [hrb] at this;cases this
 | true =>
  have hrest:=zpN.mp hrb
  refine zff (d:=d+3) F.other F.pit n (hr.ext e1) fun c J2 e2 hc hcl=>?_
  have e12:=e1.trans e2
  refine yU hm hm' (yd rfl) (fun v=>g v+lap m rs (fun _=>1) v) (fun i J'' K'' hi e'' hk'=>?_) fun mo J3 hmo e3 hmol=>?_
  ·simp only [zw,zx,q9,qv,zu,zj,zk,zg,ze]
   refine ((hh.ext e12).ext e'').at (by exact nnI _) (by exact Mine.lt_toNat ‹_›) ?_
   refine (hcl.ext e'').at (by exact nnI _) (by exact Mine.lt_toNat ‹_›) ?_
   exact hk' J'' Ext.refl
  ·simp only [zw,zx,jQ,zm6,qv,zL,zC,zM,z1,zu,zj,zk]
   have hI:qB m (fun v=>g v+lap m rs (fun _=>1) v):=⟨fun v hv=>by have:=hg v hv;have:=zdb n hv;show 0<=g v+_;exact lin r2 N0 (.add V0 V1) [(0,1,N0,V0),(0,1,N0,V1)] rfl ‹_› this.1,fun v hv=>by
    have:=hrest v hv;have:=zdb n hv;have:=zjf n v
    show g v+_<=_;lia⟩
   refine zaH (d:=d) F.H n ((hr.ext e12).ext e3) hmol hI.b fun tp re tm t J4 e4 htp hre htm hL hne _ _=>?_
   refine ⟨by exact nnI _,?_⟩
   refine jS htp ?_
   rw [it0]
   refine Eqv.zs hre (((hh.ext e12).ext e3).ext e4) ?_
   simp only [kak,if_false]
   refine hq _ J4 ((e12.trans e3).trans e4) ?_
   rw [decide_eq_true_eq]
   exact zpA n hL hrest
theorem zes(F:zk1 T){m:Int}{rs:Rd2}{r hp:Addr}{g:Nat->Int}(n:Net m rs)(hr:zS J r rs)(hh:L J hp m.toNat g)(hg:qB m g)
  (hq:∀ b J',Ext J J'->(b=true ↔ zox m rs g)->Q (.bool b) J'):zp T (d+7) "comes_again" [.int m,.ref r,.ref hp] J Q P:=by
 refine F.comes (d+6) _ _ _ _ rfl ?_
 unfold wI
 refine z8 (d:=d+3) F.N n hr fun J1 e1=>?_
 refine qe (d:=d+4) F.N.within F.need n.m0 n.m10 (hh.ext e1) hg fun J2 e2=>?_
 have e12:=e1.trans e2
 refine zcU (d:=d) ⟨F.H,F.counts,F.rests,F.other,F.pit,F.is⟩ n (hr.ext e12) (hh.ext e12) hg.lo fun b J3 e3 hb=>hq b J3 (e12.trans e3) hb
theorem zdo(hc:FnW T "_law_cell_at" 2 1 (jM T))(hd:FnW T "_law_degrees" 2 4 (jf T))(h:FnW T "_law_low" 4 2 (za3 T)){m:Int}{rs:Rd2}{s r:Addr}{ns:List Int}{pl:Int}(n:Net m rs)(hs:jE J s ns)(hr:zS J r rs)(hp:0<=pl)(hp':pl<=1000)
  (hq:∀ c g J',Ext J J'->J c=none->L J' c m.toNat g->Nn m g->(∀ v:Nat,(v:Int)<m->g v<z4 rs v)->Q (.ref c) J'):zp T (d+2) "_law_low" [.ref s,.int pl,.int m,.ref r] J Q P:=by
 have hm:=n.m0;have hm':=n.m10
 have nn:∀ p∈rs,0<=p.1/\0<=p.2:=fun p hp=>⟨(n.ends p hp).1.1,(n.ends p hp).2.1.1⟩
 refine h (d+1) _ _ _ _ rfl ?_
 unfold za3
 simp only [qh,zL,zC,zM,zu,qd,qf,qc,zj,zk]
 refine yl (d:=d) hd hm hm' hr nn fun c J1 e1 hc' hcv=>?_
 rw [zaA hm nn] at hcv
 have hcl:L J1 c m.toNat (z4 rs):=hcv
 refine yU hm hm' (yd rfl) (fun v=>(jq ns (pl+(v:Int))).fmod (z4 rs v)) (fun i J'' K'' hi e'' hk'=>?_) fun lo J2 hlo e2 hlol=>?_
 ·have hdp:=zaB n hi
  simp only [zw,zx,jv,zL,zC,zM,q9,qv,z1,zu,zj,zk,ze]
  refine qn (d:=d) hc ((hs.ext e1).ext e'') (by exact lin r2 N0 (.add V0 V1) [(0,1,N0,V0),(0,1,N0,V1)] rfl hp (nnI _)) (by exact lit r3 (.add V0 V1) (.num 1073741824) [(0,1,V0,.num 1000),(0,1,V2,.num 10),(1,1,V1,V2)] rfl hp' hm' hi) fun J4 e4=>?_
  refine ((hcl.ext e'').ext e4).at (by exact nnI _) (by exact Mine.lt_toNat ‹_›) ?_
  exact ⟨by exact Mine.ji ‹_›,hk' J4 e4⟩
 ·exact hq lo _ J2 (e1.trans e2) (e1.none hlo) hlol (fun v hv=>kaR _ (zaB n hv)) (fun v hv=>ka2 _ (zaB n hv))
end
end Mine
end
section
open PySem
namespace Mine
theorem zrT{Z J Q P}(xs y)(a:EW):zm0 xs y a Z J Q P=a Z J (fun v J1=>v.asRef fun r=>∃ x∈xs,J1 r=some (.exc x)/\Q (.bool (zfy x y)) J1) P:=rfl
theorem ztk{Z J Q P}(xs)(a:EW):zsQ xs a Z J Q P=a Z J (fun v J1=>v.asRef fun r=>∃ x∈xs,J1 r=some (.exc x)/\Q (.bool true) J1) P:=rfl
section
variable {T:TC} {d:Nat} {J:zc} {Q:V->zc->Prop} {P:Nat->zc->Prop}
structure zmr(T:TC):Prop where
 N:wT T
 need:NHs T
 place:FnW T "need_place" 2 0 (yq T)
 counts:FnW T "counts_at" 2 3 (qS T)
 table:FnW T "table_of" 2 5 (wG T)
 after:FnW T "after" 3 3 (zcz T)
 toppled:FnW T "toppled" 4 1 (zcj T)
theorem zfg(F:zmr T){m p:Int}(hq:0<=p->p<m->Q .none J)(hp:¬ (0<=p/\p<m)->P 3 J):zp T (d+2) "need_place" [.int m,.int p] J Q P:=by
 refine F.place (d+1) _ _ _ _ rfl ?_
 simp only [yq,qr,wK,zaU,zL,zC,zM,yK,zu,z1,qd,qc,zj,zk,ze]
 refine wN (d:=d) F.N.within ?_
 by_cases h:0<=p/\p<=m - 1
 ·refine zQ (zjs h) ?_
  exact hq h.1 (by exact lit r2 V0 V1 [(0,1,V0,.sub V1 N1)] rfl h.2)
 ·refine zZ (zmi h) ?_
  exact hp fun q=>h ⟨q.1,by exact lin r2 V0 (.sub V1 N1) [(1,1,V0,V1)] rfl q.2⟩
theorem zio(F:zmr T){m p:Int}{rs:Rd2}{r hp:Addr}{g:Nat->Int}(n:Net m rs)(hr:zS J r rs)(hh:L J hp m.toNat g)(hg:qB m g)
  (hq:∀ c J',0<=p->p<m->z4 rs p.toNat<=g p.toNat->Ext J J'->J c=none->L J' c m.toNat (fun v=>g v - lap m rs (wg p.toNat) v)->Q (.ref c) J')
  (hf:∀ J',0<=p->p<m->g p.toNat<z4 rs p.toNat->Ext J J'->P 5 J') (ho:∀ J',¬ (0<=p/\p<m)->Ext J J'->P 3 J'):zp T (d+4) "toppled" [.int m,.ref r,.ref hp,.int p] J Q P:=by
 have hm:=n.m0;have hm':=n.m10
 have nn:∀ p∈rs,0<=p.1/\0<=p.2:=fun p hp=>⟨(n.ends p hp).1.1,(n.ends p hp).2.1.1⟩
 refine F.toppled (d+3) _ _ _ _ rfl ?_
 unfold zcj
 simp only [zD,jD,zL,zC,zM,zu,qd,qf,qc,zj,zk]
 refine z8 (d:=d) F.N n hr fun J1 e1=>?_
 refine qe (d:=d+1) F.N.within F.need hm hm' (hh.ext e1) hg fun J2 e2=>?_
 have e12:=e1.trans e2
 refine zfg (d:=d+1) F (fun h0 h1=>?_) fun h=>ho J2 h e12
 obtain ⟨p,rfl⟩:=kax h0
 refine (hh.ext e12).at ‹_› (by exact Mine.lt_toNat ‹_›) ?_
 refine y7 (d:=d+2) F.counts hm hm' (hr.ext e12) nn fun c J3 e3 hc hcv=>?_
 rw [zaA hm nn] at hcv
 have hcl:L J3 c m.toNat (z4 rs):=hcv
 have e13:=e12.trans e3
 refine hcl.at ‹_› (by exact Mine.lt_toNat ‹_›) ?_
 by_cases hl:g p<z4 rs p
 ·refine zZ (decide_eq_true hl) ?_
  exact hf J3 h0 h1 hl e13
 ·refine zQ (decide_eq_false hl) ?_
  refine ⟨by first | exact kal rfl | simp [lim],zi fun z J4 hz e4 hzv=>?_⟩
  refine zI hzv ?_
  refine ⟨by exact lit r1 V0 (.num 4611686018427387904) [(0,1,V0,.num 10)] rfl hm',by exact lin r1 (.neg (.num 4611686018427387904)) V0 [(0,1,N0,V0)] rfl hm,by simp [lim];exact lin r1 V0 (.num 1000000) [(0,1,V0,.num 10)] rfl hm',zi fun tu J5 htu e5 htuv=>?_⟩
  have ht5:L J5 tu m.toNat fun _=>0:=by
   unfold L qJ
   rw [htuv,<-zgi]
   simp [zs]
  simp only [zx,zw,wo,z1,zu,zj,zk,zg,ze]
  refine ht5.set ‹_› (by exact Mine.lt_toNat ‹_›) fun J6 hJ6=>?_
  rw [kaf] at hJ6
  have e15:=(e13.trans e4).trans e5
  have tu0:J tu=none:=(e13.trans e4).none htu
  have e16:Ext J J6:=by rw [hJ6];exact e15.put tu0 _
  have ht6:L J6 tu m.toNat (wg p):=by
   unfold L qJ
   rw [hJ6,zB]
   rfl
  simp only [jQ,zL,zC,zM,zu,zj,zk]
  refine yc (d:=d+2) F.table n (hr.ext e16) fun a as J7 e7 hta _ _ _=>?_
  refine zdh (d:=d+2) F.after (by exact leN (lin r2 V0 (.num 10) [(0,1,V1,.num 10),(2,1,V0,V1)] rfl hm' (tnn (hm)))) hta ((hh.ext e16).ext e7) (ht6.ext e7) (fun i j _ _=>by have:=yP n i j;exact leN (lin r1 V0 (.num 1000) [(0,1,V0,.num 80)] rfl (leI this))) fun b J8 e8 hb hbl=>?_
  refine hq b J8 h0 h1 (by rw [kaf];exact kb0.mp ‹_›) ((e16.trans e7).trans e8) ((e16.trans e7).none hb) (hbl.cong fun v hv=>?_)
  rw [kaf]
  exact zjh n g (wg p) (by exact Mine.qD ‹_› ‹_›)
end
noncomputable def zde(ks:List Int)(k:Int)(p:Int × Int):Bool:=decide (k∈[p.1,p.2]) && (decide (p.1∈ks) || decide (p.2∈ks))
noncomputable def jk(ks:List Int):Int->Bool:=fun q=>decide (q∈ks)
theorem zri{ks:List Int}{k:Int}(hk:k∉ks){rs:Rd2}:(∀ p∈rs,p.1≠p.2)->((rs.filter (zde ks k)).length:Int)=nb rs k (jk ks):=by
 induction rs with
 | nil=>exact fun _=>rfl
 | cons p rs ih =>
  intro h
  have h1:=ih fun q hq=>h q (kar _ hq)
  have hne:=h p (kaG ..)
  have e:nb (p::rs) k (jk ks)=(if p.1=k then (if jk ks p.2 then 1 else 0) else 0)+((if p.2=k then (if jk ks p.1 then 1 else 0) else 0)+nb rs k (jk ks)):=rfl
  rw [e,<-h1,kcx]
  unfold zde jk
  by_cases h2:p.1=k
  ·have h3:¬ p.2=k:=fun h=>hne (h2.trans h.symm)
   subst h2
   simp only [kad,true_or,decide_true,kcf,hk,decide_false,kdf,h3,if_true,if_false]
   by_cases h4:p.2∈ks<;>simp [h4]<;>exact liq r1 (.add V0 N1) (.add N1 V0) [] rfl
  ·by_cases h3:p.2=k
   ·subst h3
    have h2':¬ p.2=p.1:=fun h=>h2 h.symm
    simp only [kad,kay,or_false,or_true,decide_true,kcf,hk,decide_false,kde,h2,if_true,if_false]
    by_cases h4:p.1∈ks<;>simp [h4]<;>exact liq r1 (.add V0 N1) (.add N1 V0) [] rfl
   ·have h2':¬ k=p.1:=fun h=>h2 h.symm
    have h3':¬ k=p.2:=fun h=>h3 h.symm
    simp [h2,h3,h2',h3']
section
variable {m:Int} {rs:Rd2}
structure Bn(m:Int)(rs:Rd2)(g:Nat->Int)(ks:List Int):Prop where
 nd:ks.Nodup
 pit:m∈ks
 rng:∀ k∈ks,0<=k/\k<=m
 sound:∀ z:Nat->Int,(∀ v:Nat,(v:Int)<m->z v=0\/z v=1)->(∀ v:Nat,(v:Int)<m->z v=1->g v+lap m rs z v<z4 rs v)->∀ k:Nat,(k:Int)<m->(k:Int)∈ks->z k=0
def zjn(m:Int)(rs:Rd2)(g:Nat->Int)(ks:List Int):Prop:=∀ k:Nat,(k:Int)<m->(k:Int)∉ks->g k+nb rs k (jk ks)<z4 rs k
theorem Bn.start(g:Nat->Int)(hm:0<=m):Bn m rs g [m]:=⟨kaM.mpr ⟨kay,kb5⟩,kac.mpr rfl,fun k hk=>by rw [kac.mp hk];exact ⟨hm,kaW _⟩,fun z _ _ k hk h=>by have:=kac.mp h;exact lif r2 [(1,1,V0,V1),(2,-1,V0,V1)] rfl hk this⟩
theorem Bn.step(n:Net m rs){g:Nat->Int}{ks:List Int}(B:Bn m rs g ks){k:Nat}(hk:(k:Int)<m)(hn:(k:Int)∉ks)(hge:z4 rs k<=g k+nb rs k (jk ks)):Bn m rs g (ks++[(k:Int)]):=by
 refine ⟨kbc.mpr ⟨B.nd,kaM.mpr ⟨kay,kb5⟩,fun a ha b hb h=>hn (by rw [<-kac.mp hb,<-h];exact ha)⟩,kaZ _ B.pit,fun x hx=>?_,fun z h1 h2 v hv hm=>?_⟩
 ·rcases kaq.mp hx with h | h
  ·exact B.rng x h
  ·rw [kac.mp h];exact ⟨nnI _,kaA hk⟩
 ·rcases kaq.mp hm with h | h
  ·exact B.sound z h1 h2 v hv h
  ·have hvk:v=k:=Int.ofNat.inj (kac.mp h)
   subst hvk
   rcases h1 v hv with h | h
   ·exact h
   ·exfalso
    have h3:=h2 v hv h
    have h4:nb rs v (jk ks)<=lap m rs z v:=zab fun a ha=>by
     by_cases ha1:a.1=(v:Int)
     ·rw [if_pos ha1,if_pos ha1,h]
      have ha2:=(n.arc ha).2
      unfold tx jk
      by_cases ha3:a.2<m
      ·rw [if_pos ha3]
       obtain ⟨u,hu⟩:=kax ha2.1
       rw [hu] at ha3 ⊢
       rw [kaf]
       by_cases hb:(u:Int)∈ks
       ·rw [B.sound z h1 h2 u ha3 hb];split<;>decide
       ·simp only [hb,decide_false,kak,if_false]
        rcases h1 u ha3 with h | h<;>(first | exact lin r1 N0 (.sub N1 V0) [(2,1,V0,N0)] rfl h | exact lin r1 N0 (.sub N1 V0) [(2,1,V0,N1)] rfl h)
      ·rw [if_neg ha3];split<;>decide
     ·rw [if_neg ha1,if_neg ha1];exact kaW _
    exact lif r4 [(0,1,V0,.add V1 V2),(1,1,.add V1 V3,V0),(0,1,V2,V3)] rfl hge h3 h4
theorem Bn.all{g:Nat->Int}{ks:List Int}(hm:0<=m)(B:Bn m rs g ks)(hl:(ks.length:Int)=m+1):∀ k:Nat,(k:Int)<m->(k:Int)∈ks:=fun k hk=>by
 apply kav
 intro hn
 have:=yR m.toNat ((k:Int)::ks) (kaM.mpr ⟨hn,B.nd⟩) fun x hx=>by
  rw [tnn hm]
  rcases kad.mp hx with h | h
  ·rw [h];exact ⟨nnI _,kaA hk⟩
  ·exact B.rng x h
 rw [kaj] at this
 exact lif (@r3 (↑(ks.length)) _ (↑(m.toNat))) [(2,-1,V0,.add V1 N1),(0,1,.add V0 N1,.add V2 N1),(2,1,V2,V1)] rfl hl (leI this) (tnn (hm))
theorem Bn.fin(n:Net m rs){g:Nat->Int}{ks:List Int}(B:Bn m rs g ks)(h0:Nn m g)(hr:∀ v:Nat,(v:Int)<m->g v<z4 rs v)(hc:m+1<=(ks.length:Int)\/zjn m rs g ks):(ks.length:Int)=m+1 ↔ Rec m rs g:=by
 have hm:=n.m0
 have hle:(ks.length:Int)<=m+1:=by
  have:=yR m.toNat ks B.nd fun x hx=>by rw [tnn hm];exact B.rng x hx
  exact lin (@r3 (↑(ks.length)) _ (↑(m.toNat))) V0 (.add V1 N1) [(0,1,V0,.add V2 N1),(2,1,V2,V1)] rfl (leI this) (tnn (hm))
 constructor
 ·intro hl
  exact ⟨h0,hr,fun z h1 h2 v hv=>B.sound z h1 h2 v hv (B.all hm hl v hv)⟩
 ·intro R
  rcases hc with hc | hc
  ·exact kaH (hle) (hc)
  ·have h1:=R.amp (fun v=>if jk ks v then 0 else 1) (fun v _=>by split;exact .inl rfl;exact .inr rfl) (fun v hv hz=>by
    have hn:(v:Int)∉ks:=fun h=>by
     have:jk ks v=true:=decide_eq_true h
     simp [this] at hz
    refine kbz (kbY (zab fun a ha=>?_) _) (hc v hv hn)
    by_cases ha1:a.1=(v:Int)
    ·rw [if_pos ha1,if_pos ha1]
     have ha2:=(n.arc ha).2
     show (if jk ks v=true then (0:Int) else 1) - (if a.2<m then (if jk ks (a.2.toNat:Int)=true then (0:Int) else 1) else 0)<=_
     rw [hz]
     by_cases ha3:a.2<m
     ·rw [if_pos ha3,tnn ha2.1]
      cases jk ks a.2<;>decide
     ·have:a.2=m:=kaH ha2.2 (kb0.mp ha3)
      rw [if_neg ha3,this,show jk ks m=true from decide_eq_true B.pit];decide
    ·rw [if_neg ha1,if_neg ha1];exact kaW _)
   have:=zdZ m.toNat ks fun k h0 hk=>by
    rw [tnn hm] at hk
    by_cases hkm:k<m
    ·obtain ⟨u,rfl⟩:=kax h0
     have:=h1 u hkm
     by_cases hb:(u:Int)∈ks
     ·exact hb
     ·have e:jk ks u=false:=decide_eq_false hb
      rw [e] at this
      exact absurd this (by decide)
    ·have:k=m:=by exact kaH (hk) (lin r2 V0 V1 [(4,1,V1,V0)] rfl hkm)
     rw [this];exact B.pit
   exact kaH (hle) (lin (@r3 _ (↑(ks.length)) (↑(m.toNat))) (.add V0 N1) V1 [(0,1,.add V2 N1,V1),(2,-1,V2,V0)] rfl (leI this) (tnn (hm)))
end
end Mine
end
section
open PySem
namespace Mine
section
variable {T:TC} {d:Nat} {J:zc} {Q:V->zc->Prop} {P:Nat->zc->Prop}
theorem zcv{m:Int}{Z:zK}{a:EW}{b:SW}{j:Nat}{K:Out->zK->zc->Prop}(hm:0<=m)(hm':m<=10)(ha:∀ (J:zc) (Q:V->zc->Prop) (P:Nat->zc->Prop),a Z J Q P=Q (.int m) J)(I:Nat->zK->zc->Prop)(h0:I 0 Z J)
  (step:∀ (i:Nat) Z J' (K':Out->zK->zc->Prop),(i:Int)<m->I i Z J'->(∀ Z' J'',I (i+1) Z' J''->K' .next Z' J'')->b (jP Z j (.int i)) J' K' noP)
  (fin:∀ Z J',I m.toNat Z J'->K .next Z J'):wO (.nm j) (jl a) b Z J K P:=by
 rw [yL,yu,ha]
 refine ⟨jg hm hm',?_⟩
 refine qg I h0 (fun i v Z J' K' hv hi hK=>?_) fun Z J' h=>⟨trivial,fin Z J' (by rw [qx] at h;exact h)⟩
 obtain ⟨hl,rfl⟩:=jh hv
 rw [kaV]
 exact ⟨trivial,step i Z J' K' (qD hm hl) hi fun Z' J'' h=>hK .next Z' J'' h⟩
noncomputable def burnt(rs:Rd2)(g:Nat->Int)(ks:List Int)(k:Nat):List Int:=if (k:Int)∉ks/\z4 rs k<=g k+nb rs k (jk ks) then ks++[(k:Int)] else ks
theorem zpB{m:Int}{rs:Rd2}{g:Nat->Int}{ks:List Int}{k:Nat}{J0:zc}{r hp mo bu:Addr}{o5 o7:Option V}{K:Out->zK->zc->Prop}(n:Net m rs)(e0:Ext J0 J)(hr:zS J0 r rs)(hh:L J0 hp m.toNat g)(hmo:L J0 mo m.toNat (z4 rs))(hb0:J0 bu=none)(hbu:J bu=some (.dict (dk ks)))(hk:(k:Int)<m)(hks:ks.length<=20)
  (hK:∀ o7 J',Ext J0 J'->J' bu=some (.dict (dk (burnt rs g ks k)))->K .next [some (.int m),some (.ref r),some (.ref hp),some (.ref mo),some (.ref bu),o5,some (.int k),o7,none] J') :
  zan T d [some (.int m),some (.ref r),some (.ref hp),some (.ref mo),some (.ref bu),o5,some (.int k),o7,none] J K P:=by
 have hm:=n.m0;have hm':=n.m10
 obtain ⟨vs,hr1,hr2⟩:=hr
 have hlen:=n.len
 unfold zan
 rw [zD]
 simp only [qh,yH,zak,zu,zj,zk,zg]
 refine qI (e0 _ _ hr1) ?_
 refine ⟨by rw [hr2.length];unfold lim;exact leN (lin r1 V0 (.num 1000000) [(0,1,V0,.num 40)] rfl (leI hlen)),?_⟩
 refine qT (fun i acc J'=>J'=J/\acc.length=((rs.take i).filter (zde ks k)).length) ⟨rfl,rfl⟩ ?_ ?_
 ·rintro i v acc J' K' hv ⟨rfl,hacc⟩ hK'
  obtain ⟨t,a,b,rfl,hrs,ht⟩:=hr2.get hv
  refine ⟨.inl (e0 _ _ hr1),?_⟩
  have ht':=e0 _ _ ht
  simp only [j7,zam,ztC,zu,zw,zx,zj,zk]
  refine InV.tup (ns:=[a,b]) ht' ?_
  have hnext:(rs.take (i+1)).filter (zde ks k)=(rs.take i).filter (zde ks k)++if zde ks k (a,b) then [(a,b)] else []:=by
   rw [kaN,hrs,ka8]
   cases h:zde ks k (a,b)<;>simp [h]
  have fin:∀ t':Bool,zde ks k (a,b)=t'->(if t'=true then K' (acc++[.ref t]) J' else K' acc J'):=by
   intro t' ht
   cases t' with
   | true=>exact hK' _ _ ⟨rfl,by rw [hnext,ht,kas,kas,hacc];rfl⟩
   | false=>exact hK' _ _ ⟨rfl,by rw [hnext,ht,if_neg kan,ka5,hacc]⟩
  by_cases h1:(k:Int)∈[a,b]
  ·simp only [h1,decide_true,if_true,zej,zlt,qv,zu,z1,zj,zk,zg,ze]
   refine ⟨by decide,?_⟩
   refine jS ht' ?_
   refine jY hbu ?_
   rw [zaf]
   by_cases h2:a∈ks
   ·refine zZ (decide_eq_true h2) ?_
    exact fin true (by unfold zde;simp only [h1,h2,decide_true,Bool.true_or,Bool.and_self])
   ·refine zQ (decide_eq_false h2) ?_
    refine ⟨by decide,?_⟩
    refine jS ht' ?_
    show yI _ _ _
    refine jY hbu ?_
    rw [zaf]
    exact fin (decide (b∈ks)) (by unfold zde;simp only [h1,h2,decide_true,decide_false,kdf,kcf])
  ·refine zQ (decide_eq_false h1) ?_
   exact fin false (by unfold zde;simp only [h1,decide_false,kcq])
 ·rintro acc J' ⟨rfl,hacc⟩
  refine ⟨.inl (e0 _ _ hr1),zi fun fi J1 hfi e1 hfiv=>?_⟩
  rw [hr2.length,kba] at hacc
  have e01:=e0.trans e1
  simp only [zw,zx,qr,zam,zlt,zu,zj,zk,ze,zg]
  refine jY (e1 _ _ hbu) ?_
  rw [zaf]
  by_cases h1:(k:Int)∈ks
  ·have hb:burnt rs g ks k=ks:=if_neg fun h=>h.1 h1
   rw [hb] at hK
   refine zQ (zjs h1) ?_
   exact hK _ _ e01 (e1 _ _ hbu)
  ·have hf:(acc.length:Int)=nb rs k (jk ks):=by rw [hacc];exact zri h1 n.ne
   simp only [h1,decide_false,kb6,if_true,qA,q9,qv,jw,zu,zj,zk,ze,zg]
   refine (hh.ext e01).at (by exact nnI _) (by exact Mine.lt_toNat ‹_›) ?_
   refine qa hfiv ?_
   refine (hmo.ext e01).at (by exact nnI _) (by exact Mine.lt_toNat ‹_›) ?_
   simp only [ze,kaf,Cmp.run,zn,hf,ge_iff_le]
   by_cases h2:z4 rs k<=g k+nb rs k (jk ks)
   ·have hb:burnt rs g ks k=ks++[(k:Int)]:=if_pos ⟨h1,h2⟩
    rw [hb] at hK
    refine zZ (decide_eq_true h2) ?_
    refine Eq.mpr (j9 (e1 _ _ hbu)) ?_
    rw [zae,wl]
    refine ⟨by unfold lim;exact ltN (lit r1 V0 (.num 1000000) [(0,1,V0,.num 20)] rfl (leI hks)),hK _ _ (e01.put hb0 _) ?_⟩
    rw [zB]
    unfold wR
    rw [if_neg h1]
   ·have hb:burnt rs g ks k=ks:=if_neg fun h=>h2 h.2
    rw [hb] at hK
    refine zQ (decide_eq_false h2) ?_
    exact hK _ _ e01 (e1 _ _ hbu)
structure zjk(T:TC):Prop where
 degs:FnW T "_law_degrees" 2 4 (jf T)
 again:FnW T "_law_again" 3 6 (zaE T)
theorem zbX(F:zjk T){m:Int}{rs:Rd2}{r hp:Addr}{g:Nat->Int}(n:Net m rs)(hr:zS J r rs)(hh:L J hp m.toNat g)
  (hq:∀ b J',Ext J J'->(b=true ↔ Rec m rs g)->Q (.bool b) J'):zp T (d+2) "_law_again" [.int m,.ref r,.ref hp] J Q P:=by
 have hm:=n.m0;have hm':=n.m10
 have nn:∀ p∈rs,0<=p.1/\0<=p.2:=fun p hp=>⟨(n.ends p hp).1.1,(n.ends p hp).2.1.1⟩
 refine F.again (d+1) _ _ _ _ rfl ?_
 unfold zaE
 simp only [qh,zL,zC,zM,zu,qd,qf,qc,zj,zk]
 refine yl (d:=d) F.degs hm hm' hr nn fun mo J1 e1 hmo0 hmo=>?_
 rw [zaA hm nn] at hmo
 have hmol:L J1 mo m.toNat (z4 rs):=hmo
 simp only [zw,zx]
 rw [zD,qr,zm6]
 refine znQ hm hm' (yd rfl) (fun v=>!(decide (0<=g v) && decide (g v<z4 rs v))) (fun i J'' K'' hi e'' hk'=>?_) (fun i J'' K'' hk'=>?_) fun l J2 hl e2 hlv=>?_
 ·simp only [zw,zx,wK,zet,z1,qv,zu,zj,zk,zg,ze]
  refine ((hh.ext e1).ext e'').at (by exact nnI _) (by exact Mine.lt_toNat ‹_›) ?_
  simp only [ze,Cmp.run,kaf]
  by_cases h0:0<=g i
  ·simp only [h0,decide_true,if_true,kcf] at hk' ⊢
   refine (hmol.ext e'').at (by exact nnI _) (by exact Mine.lt_toNat ‹_›) ?_
   exact hk' J'' Ext.refl
  ·simp only [h0,decide_false,kak,if_false,zn,kcq] at hk' ⊢
   exact hk' J'' Ext.refl
 ·exact hk'
 refine ⟨by first | exact kal rfl | simp [lim],zi fun k0 J3 hk0 e3 hkv=>?_⟩
 refine Eqv.zs (ms:=[]) (hlv.ext e3) hkv ?_
 have e13:=e1.trans (e2.trans e3)
 by_cases hpk:zfz m.toNat (fun v=>!(decide (0<=g v) && decide (g v<z4 rs v)))=[]
 ·have hpn:=zkD.mp hpk
  have hrest:∀ v:Nat,(v:Int)<m->0<=g v/\g v<z4 rs v:=fun v hv=>by
   have:=hpn v (jW hv)
   simpa using this
  simp only [hpk,decide_true,if_true,kbj,zn,kak,if_false,qQ]
  rw [zD]
  simp only [qh,zaW,z1,zu,zj,zk,ze]
  refine zi fun bu J4 hbu e4 hbuv=>?_
  have R3:=hr.ext e13
  have H3:=hh.ext e13
  have M3:=hmol.ext (e2.trans e3)
  refine zcv hm hm' (yd rfl) (fun i Z J'=>X4 fun ks o5 o6 o7=>A5 (Z=[some (.int m),some (.ref r),some (.ref hp),some (.ref mo),some (.ref bu),o5,o6,o7,none]) (Ext J3 J') (J' bu=some (.dict (dk ks))) (Bn m rs g ks) ((i+1<=ks.length\/zjn m rs g ks))) ⟨[m],_,_,_,rfl,e4,hbuv,Bn.start g hm,.inl (kaB _)⟩ ?_ ?_
  ·intro i Z J' K' hi hI5a hK
   obtain ⟨ks,o5,o6,o7,rfl,e5,hks,B,hc⟩:=hI5a
   unfold zbS
   refine zcv hm hm' (yd rfl) (fun j Z J'=>X3 fun ks' o6 o7=>A5 (Z=[some (.int m),some (.ref r),some (.ref hp),some (.ref mo),some (.ref bu),some (.int i),o6,o7,none]) (Ext J3 J') (J' bu=some (.dict (dk ks'))) (Bn m rs g ks') (((ks'=ks/\∀ k:Nat,k<j->(k:Int)∉ks->g k+nb rs k (jk ks)<z4 rs k)\/(ks.length<ks'.length/\¬ zjn m rs g ks)))) ⟨ks,_,_,rfl,e5,hks,B,.inl ⟨rfl,fun k hk=>absurd hk (kcF k)⟩⟩ ?_ ?_
   ·intro j Z J'' K'' hj hI5b hK'
    obtain ⟨ks',o6',o7',rfl,e6,hks',B',hc'⟩:=hI5b
    have hlen:ks'.length<=20:=by
     have:=yR m.toNat ks' B'.nd fun x hx=>by rw [tnn hm];exact B'.rng x hx
     exact leN (lin (@r3 (↑(ks'.length)) _ (↑(m.toNat))) V0 (.num 20) [(0,1,V1,.num 10),(0,1,V0,.add V2 N1),(2,1,V2,V1)] rfl hm' (leI this) (tnn (hm)))
    refine zpB n e6 R3 H3 M3 hbu hks' hj hlen fun o7 J7 e7 hb7=>hK' _ _ ⟨_,_,_,rfl,e7,hb7,?_,?_⟩
    ·unfold burnt
     by_cases hcb:(j:Int)∉ks'/\z4 rs j<=g j+nb rs j (jk ks')
     ·rw [if_pos hcb];exact B'.step n hj hcb.1 hcb.2
     ·rw [if_neg hcb];exact B'
    ·unfold burnt
     by_cases hcb:(j:Int)∉ks'/\z4 rs j<=g j+nb rs j (jk ks')
     ·rw [if_pos hcb]
      refine .inr ⟨?_,?_⟩
      ·rw [kas]
       rcases hc' with ⟨rfl,_⟩ | ⟨h,_⟩
       ·exact ka1 _
       ·exact kbE h
      ·rcases hc' with ⟨rfl,_⟩ | ⟨_,h⟩
       ·exact fun hcl=>by have:=hcl j hj hcb.1;exact lif r3 [(0,1,V0,.add V1 V2),(1,1,.add V1 V2,V0)] rfl hcb.2 this
       ·exact h
     ·rw [if_neg hcb]
      rcases hc' with ⟨rfl,h⟩ | h
      ·refine .inl ⟨rfl,fun k hk hn=>?_⟩
       by_cases hkj:k=j
       ·subst hkj
        exact kcU.mp fun h=>hcb ⟨hn,h⟩
       ·exact h k (by exact ltN ((zaG (lin r2 V0 V1 [(1,1,V0,.add V1 N1)] rfl (ltI hk)) hkj))) hn
      ·exact .inr h
   ·rintro Z J'' ⟨ks',o6',o7',rfl,e6,hks',B',hc'⟩
    refine hK _ _ ⟨ks',_,_,_,rfl,e6,hks',B',?_⟩
    rcases hc' with ⟨rfl,h⟩ | ⟨h1,h2⟩
    ·exact .inr fun k hk hn=>h k (jW hk) hn
    ·refine .inl ?_
     rcases hc with h | h
     ·exact kbx ‹_› ‹_›
     ·exact absurd h h2
  ·rintro Z J' ⟨ks,o5,o6,o7,rfl,e5,hks,B,hc⟩
   simp only [jQ,qA,jw,q9,z1,zu,zj,zk,zg,ze]
   refine zcf hks ?_
   rw [wl]
   simp only [ze,Cmp.run]
   refine hq _ J' (e13.trans e5) ?_
   rw [beq_iff_eq]
   refine B.fin n (fun v hv=>(hrest v hv).1) (fun v hv=>(hrest v hv).2) ?_
   rcases hc with h | h
   ·exact .inl (by exact lin (@r3 _ (↑(ks.length)) (↑(m.toNat))) (.add V0 N1) V1 [(0,1,.add V2 N1,V1),(2,-1,V2,V0)] rfl (leI h) (tnn (hm)))
   ·exact .inr h
 ·refine zZ (zmi hpk) ?_
  refine hq false J3 e13 ⟨fun h=>(by cases h),fun h=>absurd (zkD.mpr fun v hv=>?_) hpk⟩
  have h1:=h.nn v (qD hm hv)
  have h2:=h.rest v (qD hm hv)
  simp [h1,h2]
theorem L.iter{n:Nat}{f:Nat->Int}{p:Addr}{j:Nat}{e:EW}{Z:zK}(hx:L J p n f)(hn:n<=10)(h:Nat->Int)(step:∀ (i:Nat) (K:V->zc->Prop),i<n->K (.int (h i)) J->e (jP Z j (.int (f i))) J K noP)
  (hq:∀ c J',J c=none->Ext J J'->L J' c n h->Q (.ref c) J'):zbh J p fun xs chk=>xs.length<=lim/\zaZ chk j none e Z xs [] J Q:=by
 refine qI hx ?_
 refine ⟨by rw [qb,qN];unfold lim;exact leN (lin r1 V0 (.num 1000000) [(0,1,V0,.num 10)] rfl (leI hn)),qT (fun i acc J'=>acc=zs (lst i h)/\J'=J) ⟨rfl,rfl⟩ ?_ ?_⟩
 ·rintro i v acc J' K' hv ⟨rfl,rfl⟩ hK
  obtain ⟨x,hx',rfl⟩:=zma hv
  have hi:i<n:=by
   have:=(kah.mp hx').1
   rwa [qN] at this
  rw [wB _ hi] at hx'
  cases hx'
  refine ⟨.inl hx,step i _ hi (hK _ _ ⟨?_,rfl⟩)⟩
  rw [zcc,<-zdC];rfl
 ·rintro acc J' ⟨rfl,rfl⟩
  refine ⟨.inl hx,zi fun c J4 hc e4 hcv=>hq c J4 hc e4 ?_⟩
  rw [qb,qN] at hcv
  exact hcv
theorem zbT(h:FnW T "turns_for" 2 0 (yV T)){w:Int}{a:Addr}{n:Nat}{f:Nat->Int}(hw:0<w)(hw':w<=10485760000000000)(hn:n<=10)(ha:L J a n f)
  (hq:∀ t J',Ext J J'->41<w*t->(∀ i,i<n->f i<w*t)->0<t->(∀ B,41<=B->(∀ i,i<n->f i<=B)->w*t<=B+w)->Q (.int t) J'):zp T (d+1) "turns_for" [.int w,.ref a] J Q P:=by
 refine h d _ _ _ _ rfl ?_
 unfold yV
 simp only [jQ,q9,yy,zsq,zgK,jp,zC,zM,z1,zu,qd,qf,qc,zj,zk,kaj,kaD]
 refine ⟨by first | exact kal rfl | simp [lim],zi fun c J1 hc e1 hcv=>?_⟩
 refine zI hcv (zI (e1 _ _ ha) ?_)
 refine ⟨by rw [qb,qN];simp [lim];exact leN (lin r1 (.add N1 V0) (.num 1000000) [(0,1,V0,.num 10)] rfl (leI hn)),zi fun l J2 hl e2 hlv=>?_⟩
 refine zI hlv ?_
 refine ⟨41::lst n f,rfl,List.cons_ne_nil _ _,fun M hM hmax=>?_⟩
 refine ⟨⟨by exact Mine.ji ‹_›,zd0 (kbm (zi4 (n:=2 ^ 60) (kaA hw) (kbz hw' (by decide))) (kbC (by decide) (by decide)))⟩,?_⟩
 have hm:=kcc M w
 have h0:=kaR M hw
 have h1:=ka2 M hw
 have h41:=hmax 41 (kaG ..)
 have hq0:0<=M.fdiv w:=Int.fdiv_nonneg (by exact lin r1 N0 V0 [(0,1,.num 41,V0)] rfl h41) (by exact kaA ‹_›)
 have hmul:w*(M.fdiv w+1)=w*M.fdiv w+w:=by rw [kcL,kcA]
 refine hq _ J2 (e1.trans e2) (by exact lit r5 (.num 41) V0 [(2,-1,.add V1 V2,V3),(1,1,V2,V4),(0,1,.num 41,V3),(2,-1,V0,.add V1 V4)] rfl hm h1 h41 hmul) (fun i hi=>?_) (by exact lit r1 N0 (.add V0 N1) [(0,1,N0,V0)] rfl hq0) fun B hB hfB=>?_
 ·have:=hmax (f i) (kar _ (kau.mpr ⟨i,kam.mpr hi,rfl⟩))
  exact lit r6 V0 V1 [(2,-1,.add V2 V3,V4),(1,1,V3,V5),(2,-1,V1,.add V2 V5),(0,1,V0,V4)] rfl hm h1 hmul this
 ·have:M<=B:=by
   rcases kad.mp hM with h | h
   ·exact lin r2 V0 V1 [(0,1,.num 41,V1),(2,1,V0,.num 41)] rfl hB h
   ·obtain ⟨i,hi,rfl⟩:=kau.mp h
    exact hfB i (kam.mp hi)
  exact lin r6 V0 (.add V1 V2) [(2,1,.add V3 V4,V5),(0,1,N0,V4),(2,1,V0,.add V3 V2),(0,1,V5,V1)] rfl hm h0 hmul this
structure zmt(T:TC):Prop where
 N:wT T
 H:zbK T
 need:NHs T
 turns:FnW T "turns_for" 2 0 (yV T)
 from_:FnW T "led_from" 3 8 (zbs T)
theorem zcq(F:zdO T){m:Int}{rs:Rd2}{a:Addr}{as:List Addr}(n:Net m rs)(ht:Tab J a m.toNat as (zbU rs))(hq:∀ J',Ext J J'->Q (.int (D m rs)) J'):zp T (d+2) "determinant" [.ref a] J Q P :=
 wC (d:=d) F (B:=Big) (by have:=n.m10;lia) ht zfx zjB (fun i j _ _=>kai (yP n i j) zhz) fun J1 e1=>hq J1 e1
theorem zaO(F:zmt T){m:Int}{rs:Rd2}{r nu:Addr}{f:Nat->Int}(n:Net m rs)(hr:zS J r rs)(hf:L J nu m.toNat f)(hB:∀ v:Nat,(v:Int)<m->-2000000000<=f v/\f v<=2000000000)
  (hq:∀ tp re tm x J',Ext J J'->J' tp=some (.tup [.ref re,.ref tm])->L J' re m.toNat (fun v=>f v - lap m rs x v)->L J' tm m.toNat x->Rec m rs (fun v=>f v - lap m rs x v)->re≠tm->J re=none->J tm=none->Q (.ref tp) J'):zp T (d+6) "led_from" [.int m,.ref r,.ref nu] J Q P:=by
 have hm:=n.m0;have hm':=n.m10
 have hn10:m.toNat<=10:=by exact leN (lin r2 V0 (.num 10) [(0,1,V1,.num 10),(2,1,V0,V1)] rfl hm' (tnn (hm)))
 have hDp:=zfq n
 have hDl:=zsX n
 refine F.from_ (d+5) _ _ _ _ rfl ?_
 unfold zbs
 simp only [qh,zL,zC,zM,zu,qd,qf,qc,zj,zk]
 refine yc (d:=d+4) F.H.table n hr fun a as J1 e1 ht nd hf0 ha0=>?_
 refine zcq (d:=d+3) F.H.D n ht fun J2 e2=>?_
 have e12:=e1.trans e2
 refine L.iter (hf.ext e12) hn10 (fun v=>41 - f v) (fun i K hi hK=>?_) fun c J3 hc e3 hcl=>?_
 ·simp only [yK,z1,zu,zw,zx,zj,zk,ze]
  exact hK
 refine zbT (d:=d+4) F.turns hDp hDl hn10 hcl fun t J4 e4 h41 hfl ht0 htB=>?_
 have e14:=(e12.trans e3).trans e4
 have hb:D m rs*t<=3000000000+D m rs:=htB 3000000000 (by decide) fun i hi=>by have:=(hB i (by exact Mine.qD ‹_› ‹_›)).1;show 41 - f i<=_;exact lin r1 (.sub (.num 41) V0) (.num 3000000000) [(0,1,.neg (.num 2000000000),V0)] rfl this
 have hfl':∀ v:Nat,(v:Int)<m->41<f v+D m rs*t:=fun v hv=>by have:41 - f v<D m rs*t:=hfl v (jW hv);exact lit r2 (.num 41) (.add V0 V1) [(1,1,.sub (.num 41) V0,V1)] rfl this
 have htl:t<=D m rs*t:=by
  have:=kc1 (show 1<=D m rs by assumption) (kaA ht0)
  exact lin r2 V0 V1 [(0,1,.mulL 1 V0,V1)] rfl this
 have hm64:∀ x:Int,IntMulOk x t:=fun x=>wA (by exact lit r1 (.neg (.num 18446744073709551616)) V0 [(1,1,N0,V0)] rfl ht0) (by exact lit r3 V0 (.num 18446744073709551616) [(0,1,V1,.num 10485760000000000),(0,1,V2,.add (.num 3000000000) V1),(0,1,V0,V2)] rfl hDl hb htl)
 refine zty hm hm' (yd rfl) fun on J5 hon e5 honl=>?_
 refine zb7 (d:=d+2) F.H.D F.H.solved (B:=Big) hn10 (ht.ext (e2.trans (e3.trans (e4.trans e5)))) honl zfx zjB (fun i j _ _=>kai (yP n i j) zhz) (fun i hi=>zjB) fun sv J6 e6 hsv hsvl=>?_
 have e46:=e5.trans e6
 have e16:=e14.trans e46
 refine L.iter hsvl hn10 (fun v=>yG m rs (fun _=>1) v*t) (fun i K hi hK=>?_) fun bk J7 hbk e7 hbkl=>?_
 ·simp only [zd1,zu,zw,zx,zj,zk,ze]
  rw [zgW hm (fun _=>1) hi]
  exact ⟨hm64 _,hK⟩
 have e17:=e16.trans e7
 refine L.iter (hf.ext e17) hn10 (fun v=>f v+D m rs*t) (fun i K hi hK=>?_) fun he J8 hhe e8 hhel=>?_
 ·simp only [q9,zd1,zu,zw,zx,zj,zk,ze]
  exact ⟨hm64 _,hK⟩
 have e18:=e17.trans e8
 refine zaH (d:=d) F.H n (hr.ext e18) hhel ⟨fun v hv=>by have:=hfl' v hv;show 0<=f v+_;exact lin r2 N0 (.add V0 V1) [(1,1,.num 41,.add V0 V1)] rfl this,fun v hv=>by have:=(hB v hv).2;show f v+_<=_;exact lin r3 (.add V0 V1) (.num 36000000000000000) [(0,1,V2,.num 10485760000000000),(0,1,V1,.add (.num 3000000000) V2),(0,1,V0,.num 2000000000)] rfl hDl hb this⟩ fun tp re tm u J9 e9 htp hre htm hL hne hre0 htm0=>?_
 have e19:=e18.trans e9
 simp only [wY,zg]
 refine wE htp ?_
 refine ⟨rfl,?_⟩
 simp only [zax,zaw,zw,zx,jQ,zaY,zC,zM,zu,zj,zk,kaj,kaD]
 refine yU hm hm' (yd rfl) (fun v=>u v - yG m rs (fun _=>1) v*t) (fun i J'' K'' hi e'' hk'=>?_) fun ti J10 hti e10 htil=>?_
 ·simp only [zw,zx,yK,qv,zu,zj,zk,zg,ze]
  refine (htm.ext e'').at (by exact nnI _) (by exact Mine.lt_toNat ‹_›) ?_
  refine (((hbkl.ext e8).ext e9).ext e'').at (by exact nnI _) (by exact Mine.lt_toNat ‹_›) ?_
  exact hk' J'' Ext.refl
 have hlap:∀ v:Nat,(v:Int)<m->f v+D m rs*t - lap m rs u v=f v - lap m rs (fun v=>u v - yG m rs (fun _=>1) v*t) v:=fun v hv=>by
  have h1:=yD m rs 1 (-t) u (yG m rs fun _=>1) v
  have e:(fun w=>1*u w + -t*yG m rs (fun _=>1) w)=fun v=>u v - yG m rs (fun _=>1) v*t:=funext fun w=>by
   rw [kbP,kdy,kbr];rfl
  rw [e,zbI n _ hv,kcA,kdy,kbr t,kbP] at h1
  exact liq r4 (.sub (.add V0 V1) V2) (.sub V0 V3) [(2,1,V3,.add V2 (.neg V1))] rfl h1
 have hG:=znN n hL fun v hv=>by have:=hfl' v hv;have:=zjz n v;show _<=f v+_;exact lin r3 V0 (.add V1 V2) [(1,1,.num 41,.add V1 V2),(0,1,V0,.num 40)] rfl ‹_› this
 refine ⟨by first | exact kal rfl | simp [lim],zi fun tp' J11 htp' e11 htpv=>?_⟩
 refine hq tp' re ti _ J11 (e19.trans (e10.trans e11)) htpv (((hre.ext e10).ext e11).cong fun v hv=>hlap v (qD hm hv)) (htil.ext e11) ⟨fun v hv=>?_,fun v hv=>?_,fun z h1 h2=>hG.amp z h1 fun v hv hz=>?_⟩ (jV hre hti) (e18.none hre0) (e19.none hti)
 ·rw [<-hlap v hv];exact hG.nn v hv
 ·rw [<-hlap v hv];exact hG.rest v hv
 ·have:=h2 v hv hz;rw [<-hlap v hv] at this;exact this
theorem zo3(F:zmt T)(h:FnW T "led" 3 0 (zk2 T)){m:Int}{rs:Rd2}{r hp:Addr}{g:Nat->Int}(n:Net m rs)(hr:zS J r rs)(hh:L J hp m.toNat g)(hg:qB m g)
  (hq:∀ tp re tm x J',Ext J J'->J' tp=some (.tup [.ref re,.ref tm])->L J' re m.toNat (fun v=>g v - lap m rs x v)->L J' tm m.toNat x->Rec m rs (fun v=>g v - lap m rs x v)->re≠tm->J re=none->J tm=none->Q (.ref tp) J'):zp T (d+7) "led" [.int m,.ref r,.ref hp] J Q P:=by
 refine h (d+6) _ _ _ _ rfl ?_
 unfold zk2
 refine z8 (d:=d+3) F.N n hr fun J1 e1=>?_
 refine qe (d:=d+4) F.N.within F.need n.m0 n.m10 (hh.ext e1) hg fun J2 e2=>?_
 have e12:=e1.trans e2
 exact zaO (d:=d) F n (hr.ext e12) (hh.ext e12) (fun v hv=>by have:=hg.lo v hv;have:=hg.hi v hv;exact ⟨lin r1 (.neg (.num 2000000000)) V0 [(0,1,N0,V0)] rfl ‹_›,lin r1 V0 (.num 2000000000) [(0,1,V0,.num 1000000000)] rfl this⟩) fun tp re tm x J3 e3 h1 h2 h3 h4 h5 h6 h7=>hq tp re tm x J3 (e12.trans e3) h1 h2 h3 h4 h5 (e12.none h6) (e12.none h7)
end
end Mine
end
section
open PySem
namespace Mine
section
variable {T:TC} {d:Nat} {J:zc} {Q:V->zc->Prop} {P:Nat->zc->Prop}
end
section
variable {m:Int} {rs:Rd2}
def Sim(m:Int)(rs:Rd2)(g g':Nat->Int):Prop:=∃ x:Nat->Int,∀ v:Nat,(v:Int)<m->g v=g' v+lap m rs x v
theorem Sim.symm{a b:Nat->Int}:Sim m rs a b->Sim m rs b a:=fun ⟨x,h⟩=>⟨fun u=>- x u,fun v hv=>by rw [zcL];have:=h v hv;exact liq r3 V0 (.add V1 (.neg V2)) [(2,-1,V1,.add V0 V2)] rfl this⟩
theorem Sim.trans{a b c:Nat->Int}:Sim m rs a b->Sim m rs b c->Sim m rs a c:=fun ⟨x,h⟩ ⟨y,h'⟩=>⟨fun u=>x u+y u,fun v hv=>by rw [zmV];have:=h v hv;have:=h' v hv;exact liq r5 V0 (.add V1 (.add V2 V3)) [(2,1,V0,.add V4 V2),(2,1,V4,.add V1 V3)] rfl ‹_› this⟩
theorem Sim.add{a b a' b':Nat->Int}:Sim m rs a a'->Sim m rs b b'->Sim m rs (fun v=>a v+b v) (fun v=>a' v+b' v):=fun ⟨x,h⟩ ⟨y,h'⟩=>⟨fun u=>x u+y u,fun v hv=>by rw [zmV];have:=h v hv;have:=h' v hv;show a v+b v=a' v+b' v+_;exact liq r6 (.add V0 V1) (.add (.add V2 V3) (.add V4 V5)) [(2,1,V0,.add V2 V4),(2,1,V1,.add V3 V5)] rfl ‹_› this⟩
theorem Sim.neg{a a':Nat->Int}:Sim m rs a a'->Sim m rs (fun v=>0 - a v) (fun v=>0 - a' v):=fun ⟨x,h⟩=>⟨fun u=>- x u,fun v hv=>by rw [zcL];have:=h v hv;show 0 - a v=0 - a' v+_;exact liq r3 (.sub N0 V0) (.add (.sub N0 V1) (.neg V2)) [(2,-1,V0,.add V1 V2)] rfl this⟩
theorem Sim.lap(x:Nat->Int)(g:Nat->Int):Sim m rs (fun v=>g v - lap m rs x v) g:=⟨fun u=>- x u,fun v _=>by rw [zcL];rfl⟩
theorem Rec.congr(n:Net m rs){e e':Nat->Int}(A:Rec m rs e)(h:∀ v:Nat,(v:Int)<m->e' v=e v):Rec m rs e' :=
 ⟨fun v hv=>by rw [h v hv];exact A.nn v hv,fun v hv=>by rw [h v hv];exact A.rest v hv,fun z h1 h2=>A.amp z h1 fun v hv hz=>by rw [<-h v hv];exact h2 v hv hz⟩
def zji(m:Int)(rs:Rd2)(h e:Nat->Int):Prop:=∃ t,zbR m rs h t/\∀ v:Nat,(v:Int)<m->e v=h v - lap m rs t v
theorem zji.more(n:Net m rs){a b e:Nat->Int}(A:Rec m rs a)(hb:Nn m b):zji m rs (fun v=>a v+b v) e->Rec m rs e:=fun ⟨t,L,he⟩=>(zoY n A hb L).congr n he
end
section
variable {T:TC} {d:Nat} {J:zc} {Q:V->zc->Prop} {P:Nat->zc->Prop}
theorem zmq{J:zc}{a:Addr}{xs:List V}{j:Int}{v:V}{k:V->Prop}(h:J a=some (.tup xs))(h0:0<=j)(hx:xs[j.toNat]?=some v)(hk:k v):0<=j/\yo J a fun xs=>yh xs j.toNat k:=⟨h0,by rw [zih h,yx hx];exact hk⟩
theorem zpk{m:Int}{Z:zK}{a:EW}{j p q:Nat}{x y:Addr}{f g:Nat->Int}(hm:0<=m)(hm':m<=10)(ha:∀ (J:zc) (Q:V->zc->Prop) (P:Nat->zc->Prop),a Z J Q P=Q (.int m) J)(hx:L J x m.toNat f)(hy:L J y m.toNat g)
  (hp:∀ v,qz (jP Z j v) p=some (.ref x)) (hr:∀ v,qz (jP Z j v) q=some (.ref y)) (hj:∀ v,qz (jP Z j v) j=some v)
  (hq:∀ c J',J c=none->Ext J J'->L J' c m.toNat (fun v=>f v+g v)->Q (.ref c) J'):qU j (jl a) none (j2 (zT (loc p) (loc j)) (zT (loc q) (loc j))) Z J Q P:=by
 refine yU hm hm' ha _ (fun i J'' K'' hi e'' hk'=>?_) hq
 simp only [q9,qv,zu,hp,hr,hj,zg,ze]
 refine (hx.ext e'').at (by exact nnI _) (by exact Mine.lt_toNat ‹_›) ?_
 refine (hy.ext e'').at (by exact nnI _) (by exact Mine.lt_toNat ‹_›) ?_
 exact hk' J'' Ext.refl
structure zjI(T:TC):Prop where
 D:zmt T
 tog:FnW T "together" 4 1 (zbp T)
 noth:FnW T "nothing" 2 0 (zcl T)
 undo:FnW T "undoing" 3 1 (zch T)
theorem zg0(F:zjI T){m:Int}{rs:Rd2}{r x y:Addr}{f g:Nat->Int}(n:Net m rs)(hr:zS J r rs)(hx:L J x m.toNat f)(hy:L J y m.toNat g)(hf:qB m f)(hg:qB m g)
  (hq:∀ re e J',Ext J J'->J re=none->L J' re m.toNat e->zji m rs (fun v=>f v+g v) e->Q (.ref re) J'):zp T (d+6) "together" [.int m,.ref r,.ref x,.ref y] J Q P:=by
 have hm:=n.m0;have hm':=n.m10
 refine F.tog (d+5) _ _ _ _ rfl ?_
 unfold zbp
 simp only [zD,jD,zL,zC,zM,zu,qd,qf,qc,zj,zk,jQ,qv,z1]
 refine z8 (d:=d+2) F.D.N n hr fun J1 e1=>?_
 refine qe (d:=d+3) F.D.N.within F.D.need hm hm' (hx.ext e1) hf fun J2 e2=>?_
 have e12:=e1.trans e2
 refine qe (d:=d+3) F.D.N.within F.D.need hm hm' (hy.ext e12) hg fun J3 e3=>?_
 have e13:=e12.trans e3
 refine zpk hm hm' (yd rfl) (hx.ext e13) (hy.ext e13) (fun _=>rfl) (fun _=>rfl) (fun _=>rfl) fun c J4 hc e4 hcl=>?_
 have e14:=e13.trans e4
 refine zaH (d:=d) F.D.H n (hr.ext e14) hcl ⟨fun v hv=>by have:=hf.lo v hv;have:=hg.lo v hv;show 0<=f v+g v;exact lin r2 N0 (.add V0 V1) [(0,1,N0,V0),(0,1,N0,V1)] rfl ‹_› this,fun v hv=>by have:=hf.hi v hv;have:=hg.hi v hv;show f v+g v<=_;exact lin r2 (.add V0 V1) (.num 36000000000000000) [(0,1,V0,.num 1000000000),(0,1,V1,.num 1000000000)] rfl ‹_› this⟩ fun tp re tm t J5 e5 htp hre htm hL hne hre0 _=>?_
 exact zmq htp (by decide) (v:=.ref re) rfl (hq re _ J5 (e14.trans e5) (e14.none hre0) hre ⟨t,hL,fun v _=>rfl⟩)
theorem ziA(F:zjI T){m:Int}{rs:Rd2}{r:Addr}(n:Net m rs)(hr:zS J r rs)
  (hq:∀ re e J',Ext J J'->J re=none->L J' re m.toNat e->Rec m rs e->Sim m rs e (fun _=>0)->Q (.ref re) J'):zp T (d+7) "nothing" [.int m,.ref r] J Q P:=by
 have hm:=n.m0;have hm':=n.m10
 refine F.noth (d+6) _ _ _ _ rfl ?_
 unfold zcl
 refine z8 (d:=d+3) F.D.N n hr fun J1 e1=>?_
 refine zoh hm hm' (yd rfl) fun c J2 hc e2 hcl=>?_
 have e12:=e1.trans e2
 refine zaO (d:=d) F.D n (hr.ext e12) hcl (fun v _=>by decide) fun tp re tm x J3 e3 htp hre _ hR _ hre0 _=>?_
 exact zmq htp (by decide) (v:=.ref re) rfl (hq re _ J3 (e12.trans e3) (e12.none hre0) hre hR (Sim.lap x _))
theorem zil(F:zjI T){m:Int}{rs:Rd2}{r hp:Addr}{g:Nat->Int}(n:Net m rs)(hr:zS J r rs)(hh:L J hp m.toNat g)(hg:qB m g)
  (hq:∀ re e J',Ext J J'->J re=none->L J' re m.toNat e->Rec m rs e->Sim m rs e (fun v=>0 - g v)->Q (.ref re) J'):zp T (d+7) "undoing" [.int m,.ref r,.ref hp] J Q P:=by
 have hm:=n.m0;have hm':=n.m10
 refine F.undo (d+6) _ _ _ _ rfl ?_
 unfold zch
 refine z8 (d:=d+3) F.D.N n hr fun J1 e1=>?_
 refine qe (d:=d+4) F.D.N.within F.D.need hm hm' (hh.ext e1) hg fun J2 e2=>?_
 have e12:=e1.trans e2
 refine L.iter (hh.ext e12) (by exact leN (lin r2 V0 (.num 10) [(0,1,V1,.num 10),(2,1,V0,V1)] rfl hm' (tnn (hm)))) (fun v=>0 - g v) (fun i K hi hK=>?_) fun c J3 hc e3 hcl=>?_
 ·simp only [yK,z1,zu,zw,zx,zj,zk,ze]
  exact hK
 have e13:=e12.trans e3
 refine zaO (d:=d) F.D n (hr.ext e13) hcl (fun v hv=>by have:=hg.lo v hv;have:=hg.hi v hv;show _<=0 - g v/\0 - g v<=_;exact ⟨lin r1 (.neg (.num 2000000000)) (.sub N0 V0) [(0,1,V0,.num 1000000000)] rfl this,lin r1 (.sub N0 V0) (.num 2000000000) [(0,1,N0,V0)] rfl ‹_›⟩) fun tp re tm x J4 e4 htp hre _ hR _ hre0 _=>?_
 exact zmq htp (by decide) (v:=.ref re) rfl (hq re _ J4 (e13.trans e4) (e13.none hre0) hre hR (Sim.lap x _))
end
end Mine
end
section
open PySem
namespace Mine
section
variable {T:TC} {d:Nat} {J:zc} {Q:V->zc->Prop} {P:Nat->zc->Prop}
end
section
variable {m:Int} {rs:Rd2}
theorem zog(n:Net m rs){g:Nat->Int}(hg:Nn m g):zox m rs g ↔ Rec m rs g:=by
 constructor
 ·rintro ⟨hr,h⟩
  refine ⟨hg,hr,fun z h1 h2 v hv=>?_⟩
  obtain ⟨t,hL⟩:=ziK n (h:=fun v=>g v+lap m rs (fun _=>1) v) fun v hv=>kda (hg v hv) (zdb n hv).1
  have:=hL.low (fun u=>1 - z u) (fun u hu=>by show 0<=1 - z u;rcases h1 u hu with h | h<;>(first | exact lin r1 N0 (.sub N1 V0) [(2,1,V0,N0)] rfl h | exact lin r1 N0 (.sub N1 V0) [(2,1,V0,N1)] rfl h)) (fun u hu=>by
   rw [zen]
   show g u+lap m rs (fun _=>1) u - _<_
   rcases h1 u hu with h0 | h0
   ·have:=zi8 n (zpW h1) h0
    have:=hr u hu
    exact lit r4 (.sub (.add V0 V1) (.sub V1 V2)) V3 [(0,1,V2,N0),(1,1,V0,V3)] rfl ‹_› this
   ·have:=h2 u hu h0;exact lit r4 (.sub (.add V0 V1) (.sub V1 V2)) V3 [(1,1,.add V0 V2,V3)] rfl this) v hv
  have:=h t hL v hv
  rcases h1 v hv with h | h<;>(first | assumption | exact lif r2 [(0,1,V0,.sub N1 V1),(2,-1,V0,N1),(2,-1,V1,N1)] rfl ‹_› this h)
 ·intro R
  refine ⟨R.rest,fun t hL v hv=>?_⟩
  have h1:=zmH n R.amp (w:=fun u=>1 - t u) (fun u hu _=>by rw [zen];have:g u+lap m rs (fun _=>1) u - _<_:=hL.stab u hu;exact lit r4 (.add V0 (.sub V1 V2)) V3 [(1,1,.sub (.add V0 V1) V2,V3)] rfl this) v hv
  have h2:=hL.low (fun _=>1) (fun _ _=>kaA Int.one_pos) (fun u hu=>by have:=R.rest u hu;show g u+lap m rs (fun _=>1) u - _<_;exact lit r3 (.sub (.add V0 V1) V1) V2 [(1,1,V0,V2)] rfl this) v hv
  exact kaH (h2) (lin r1 N1 V0 [(0,1,.sub N1 V0,N0)] rfl h1)
end
section
variable {T:TC} {d:Nat} {J:zc} {Q:V->zc->Prop} {P:Nat->zc->Prop}
structure ztW(T:TC):Prop where
 N:wT T
 H:zbK T
 need:NHs T
 turns:FnW T "turns_for" 2 0 (yV T)
structure zp9(T:TC):Prop where
 D:ztW T
 I:zov T
 need:FnW T "need_again" 3 0 (yt T)
theorem zbw(I:zov T)(need:FnW T "need_again" 3 0 (yt T)){m:Int}{rs:Rd2}{r hp:Addr}{g:Nat->Int}(n:Net m rs)(hr:zS J r rs)(hh:L J hp m.toNat g)(hg:Nn m g)
  (hq:∀ J',Ext J J'->Rec m rs g->Q .none J') (hf:∀ J',Ext J J'->¬ Rec m rs g->P 6 J'):zp T (d+7) "need_again" [.int m,.ref r,.ref hp] J Q P:=by
 refine need (d+6) _ _ _ _ rfl ?_
 unfold yt
 refine zcU (d:=d) I n hr hh hg fun b J1 e1 hb=>?_
 rw [zog n hg] at hb
 cases b with
 | true =>
  exact hq J1 e1 (hb.mp rfl)
 | false =>
  exact hf J1 e1 fun h=>by cases hb.mpr h
theorem zin(F:zp9 T)(h:FnW T "towards" 4 3 (za1 T)){m:Int}{rs:Rd2}{r hp gp:Addr}{f g:Nat->Int}(n:Net m rs)(hr:zS J r rs)(hh:L J hp m.toNat f)(hgl:L J gp m.toNat g)(hf:qB m f)(hg:qB m g)
  (hq:∀ c t J',Ext J J'->J c=none->Rec m rs g->L J' c m.toNat (fun v=>g v - f v+D m rs*t)->41<D m rs*t->(∀ v:Nat,(v:Int)<m->f v<D m rs*t)->D m rs*t<=1000000041+D m rs->Q (.ref c) J')
  (he:∀ J',Ext J J'->¬ Rec m rs g->P 6 J'):zp T (d+8) "towards" [.int m,.ref r,.ref hp,.ref gp] J Q P:=by
 have hm:=n.m0;have hm':=n.m10
 have hDp:=zfq n
 have hDl:=zsX n
 refine h (d+7) _ _ _ _ rfl ?_
 unfold za1
 rw [zD]
 simp only [qd,qf,qc,jD,zL,zC,zM,zu,zk,zj]
 refine z8 (d:=d+4) F.D.N n hr fun J1 e1=>?_
 rw [zD]
 simp only [jD,zL,zC,zM,zu,zk,zj]
 refine qe (d:=d+5) F.D.N.within F.D.need hm hm' (hh.ext e1) hf fun J2 e2=>?_
 have e12:=e1.trans e2
 rw [zD]
 simp only [jD,zL,zC,zM,zu,zk,zj]
 refine qe (d:=d+5) F.D.N.within F.D.need hm hm' (hgl.ext e12) hg fun J3 e3=>?_
 have e13:=e12.trans e3
 rw [zD]
 simp only [jD,zL,zC,zM,zu,zk,zj]
 refine zbw (d:=d) F.I F.need n (hr.ext e13) (hgl.ext e13) hg.lo (fun J4 e4 hR=>?_) fun J4 e4 hR=>he J4 (e13.trans e4) hR
 have e14:=e13.trans e4
 rw [zD]
 simp only [qh,zx,zw,zL,zC,zM,zu,zk,zj]
 refine yc (d:=d+6) F.D.H.table n (hr.ext e14) fun a as J5 e5 ht _ _ _=>?_
 refine zcq (d:=d+5) F.D.H.D n ht fun J6 e6=>?_
 have e16:=e14.trans (e5.trans e6)
 refine zbT (d:=d+6) F.D.turns hDp hDl (by exact leN (lin r2 V0 (.num 10) [(0,1,V1,.num 10),(2,1,V0,V1)] rfl hm' (tnn (hm)))) (hh.ext e16) fun t J7 e7 h41 hfl ht0 htB=>?_
 have e17:=e16.trans e7
 have htl:t<=D m rs*t:=by
  have:=kc1 (show 1<=D m rs by assumption) (kaA ht0)
  exact lin r2 V0 V1 [(0,1,.mulL 1 V0,V1)] rfl this
 have hb:=htB 1000000041 (by decide) fun i hi=>kbA (hf.hi i (by exact Mine.qD ‹_› ‹_›)) (by decide)
 refine yU hm hm' (yd rfl) (fun v=>g v - f v+D m rs*t) (fun i J'' K'' hi e'' hk'=>?_) fun c J8 hc e8 hcl=>hq c t J8 (e17.trans e8) (e17.none hc) hR hcl h41 (fun v hv=>hfl v (jW hv)) hb
 simp only [zx,zw,q9,zd1,ze,zu,zk,zj,yK,qv,kaf,zg]
 refine ((hgl.ext e17).ext e'').at (by exact nnI _) (by exact Mine.lt_toNat ‹_›) ?_
 refine ((hh.ext e17).ext e'').at (by exact nnI _) (by exact Mine.lt_toNat ‹_›) ?_
 exact ⟨wA (by exact lit r1 (.neg (.num 18446744073709551616)) V0 [(1,1,N0,V0)] rfl ht0) (by exact lit r3 V0 (.num 18446744073709551616) [(0,1,V1,.num 10485760000000000),(0,1,V0,V2),(0,1,V2,.add (.num 1000000041) V1)] rfl hDl htl hb),hk' J'' Ext.refl⟩
end
end Mine
end
section
open PySem
namespace Mine
section
variable {T:TC} {d:Nat} {J:zc} {Q:V->zc->Prop} {P:Nat->zc->Prop}
theorem L.iterB{n:Nat}{f:Nat->Int}{p:Addr}{j:Nat}{e:EW}{Z:zK}(hx:L J p n f)(hn:n<=10)(h:Nat->Bool)(step:∀ (i:Nat) (K:V->zc->Prop),i<n->K (.bool (h i)) J->e (jP Z j (.int (f i))) J K noP)
  (hq:∀ c J',J c=none->Ext J J'->J' c=some (.list ((kab n).map fun i=>V.bool (h i)))->Q (.ref c) J'):zbh J p fun xs chk=>xs.length<=lim/\zaZ chk j none e Z xs [] J Q:=by
 refine qI hx ?_
 refine ⟨by rw [qb,qN];unfold lim;exact leN (lin r1 V0 (.num 1000000) [(0,1,V0,.num 10)] rfl (leI hn)),qT (fun i acc J'=>acc=(kab i).map (fun i=>V.bool (h i))/\J'=J) ⟨rfl,rfl⟩ ?_ ?_⟩
 ·intro i v acc J' K' hv hI6a hK
  obtain ⟨rfl,rfl⟩:=hI6a
  obtain ⟨x,hx',rfl⟩:=zma hv
  have hi:i<n:=by
   have:=(kah.mp hx').1
   rwa [qN] at this
  rw [wB _ hi] at hx'
  cases hx'
  refine ⟨.inl hx,step i _ hi (hK _ _ ⟨?_,rfl⟩)⟩
  rw [ka4,ka9];rfl
 ·rintro acc J' ⟨rfl,rfl⟩
  refine ⟨.inl hx,zi fun c J4 hc e4 hcv=>hq c J4 hc e4 ?_⟩
  rw [qb,qN] at hcv
  exact hcv
structure zqg(T:TC):Prop where
 N:wT T
 H:zbK T
 need:NHs T
 alike:FnW T "alike" 4 5 (zfX T)
theorem zpl{m:Int}{Z:zK}{a:EW}{j p q:Nat}{x y:Addr}{f g:Nat->Int}(hm:0<=m)(hm':m<=10)(ha:∀ (J:zc) (Q:V->zc->Prop) (P:Nat->zc->Prop),a Z J Q P=Q (.int m) J)(hx:L J x m.toNat f)(hy:L J y m.toNat g)
  (hp:∀ v,qz (jP Z j v) p=some (.ref x)) (hr:∀ v,qz (jP Z j v) q=some (.ref y)) (hj:∀ v,qz (jP Z j v) j=some v)
  (hq:∀ c J',J c=none->Ext J J'->L J' c m.toNat (fun v=>f v - g v)->Q (.ref c) J'):qU j (jl a) none (zaL (zT (loc p) (loc j)) (zT (loc q) (loc j))) Z J Q P:=by
 refine yU hm hm' ha _ (fun i J'' K'' hi e'' hk'=>?_) hq
 simp only [yK,qv,zu,hp,hr,hj,zg,ze]
 refine (hx.ext e'').at (by exact nnI _) (by exact Mine.lt_toNat ‹_›) ?_
 refine (hy.ext e'').at (by exact nnI _) (by exact Mine.lt_toNat ‹_›) ?_
 exact hk' J'' Ext.refl
theorem zl2(F:zqg T){m:Int}{rs:Rd2}{r x y:Addr}{f g:Nat->Int}(n:Net m rs)(hr:zS J r rs)(hx:L J x m.toNat f)(hy:L J y m.toNat g)(hf:qB m f)(hg:qB m g)
  (hq0:∀ J',Ext J J'->(∀ z,¬ Sol m rs (fun v=>f v - g v) z)->Q .none J') (hq:∀ c z J',Ext J J'->J c=none->L J' c m.toNat z->Sol m rs (fun v=>f v - g v) z->Q (.ref c) J'):zp T (d+6) "alike" [.int m,.ref r,.ref x,.ref y] J Q P:=by
 have hm:=n.m0;have hm':=n.m10
 have hn10:m.toNat<=10:=by exact leN (lin r2 V0 (.num 10) [(0,1,V1,.num 10),(2,1,V0,V1)] rfl hm' (tnn (hm)))
 have hDp:=zfq n
 have hDl:=zsX n
 refine F.alike (d+5) _ _ _ _ rfl ?_
 unfold zfX
 rw [zD]
 simp only [qd,qf,qc,jD,zL,zC,zM,zu,zk,zj]
 refine z8 (d:=d+2) F.N n hr fun J1 e1=>?_
 rw [zD]
 simp only [jD,zL,zC,zM,zu,zk,zj]
 refine qe (d:=d+3) F.N.within F.need hm hm' (hx.ext e1) hf fun J2 e2=>?_
 have e12:=e1.trans e2
 rw [zD]
 simp only [jD,zL,zC,zM,zu,zk,zj]
 refine qe (d:=d+3) F.N.within F.need hm hm' (hy.ext e12) hg fun J3 e3=>?_
 have e13:=e12.trans e3
 rw [zD]
 simp only [qh,zx,zw,zL,zC,zM,zu,zk,zj]
 refine yc (d:=d+4) F.H.table n (hr.ext e13) fun a as J4 e4 ht nd _ _=>?_
 rw [zD]
 simp only [qh,zx,zw,zL,zC,zM,zu,zk,zj]
 refine zcq (d:=d+3) F.H.D n ht fun J5 e5=>?_
 have e15:=e13.trans (e4.trans e5)
 unfold zhK
 rw [zD]
 simp only [qh,zx,zw,zL,zC,zM,zu,zk,zj]
 refine zpl hm hm' (yd rfl) (hx.ext e15) (hy.ext e15) (fun _=>rfl) (fun _=>rfl) (fun _=>rfl) fun c J6 hc e6 hcl=>?_
 refine zb7 (d:=d+2) F.H.D F.H.solved (B:=Big) hn10 (ht.ext (e5.trans e6)) hcl zfx zjB (fun i j _ _=>kai (yP n i j) zhz) (fun i hi=>?_) fun sv J7 e7 hsv hsvl=>?_
 ·have h1:=hf.lo i (qD hm hi);have h2:=hf.hi i (qD hm hi);have h3:=hg.lo i (qD hm hi);have h4:=hg.hi i (qD hm hi)
  show (f i - g i).natAbs<=Big
  unfold Big
  lia
 have e17:=e15.trans (e6.trans e7)
 have hsvl':L J7 sv m.toNat (yG m rs fun v=>f v - g v):=hsvl.cong fun i hi=>zgW hm _ hi
 rw [zD]
 simp only [jQ,qr,z1,qQ,zaU,zn,zor]
 refine L.iterB hsvl' hn10 (fun i=>decide ((yG m rs (fun v=>f v - g v) i).fmod (D m rs)≠0)) (fun i K hi hK=>?_) fun bl J8 hbl e8 hblv=>?_
 ·simp only [zx,zw,qA,Cmp.run,z1,ze,jv,zu,zk,zj]
  refine ⟨by exact kbG ‹_›,?_⟩
  have e:((yG m rs (fun v=>f v - g v) i).fmod (D m rs) != 0)=decide ((yG m rs (fun v=>f v - g v) i).fmod (D m rs)≠0):=by
   rw [ka6];simp
  rw [e];exact hK
 have e18:=e17.trans e8
 refine zI hblv ?_
 refine zie _ _ _ ?_
 by_cases hall:∀ i,i<m.toNat->(yG m rs (fun v=>f v - g v) i).fmod (D m rs)=0
 ·have hb:((kab m.toNat).map fun i=>decide ((yG m rs (fun v=>f v - g v) i).fmod (D m rs)≠0)).any id=false:=by
   rw [List.any_eq_false]
   intro b hb
   obtain ⟨i,hi,rfl⟩:=kau.mp hb
   simp [hall i (kam.mp hi)]
  rw [hb]
  refine L.iter (hsvl'.ext e8) hn10 (fun i=>(yG m rs (fun v=>f v - g v) i).fdiv (D m rs)) (fun i K hi hK=>?_) fun c' J9 hc' e9 hcl'=>?_
  ·exact ⟨⟨by exact kbG ‹_›,zd0 (kbm (zi4 (n:=2 ^ 60) (kaA ‹_›) (kbz (b:=10485760000000000) ‹_› (by decide))) (kbC (by decide) (by decide)))⟩,hK⟩
  ·exact hq c' _ J9 (e18.trans e9) (e18.none hc') hcl' (zpj n fun v hv=>hall v (jW hv))
 ·have hb:((kab m.toNat).map fun i=>decide ((yG m rs (fun v=>f v - g v) i).fmod (D m rs)≠0)).any id=true:=by
   rw [kcd]
   have:∃ i,i<m.toNat/\(yG m rs (fun v=>f v - g v) i).fmod (D m rs)≠0:=by
    apply kav
    intro h
    exact hall fun i hi=>kav fun hne=>h ⟨i,hi,hne⟩
   obtain ⟨i,hi,hne⟩:=this
   exact ⟨_,kau.mpr ⟨i,kam.mpr hi,rfl⟩,by simpa using hne⟩
  rw [hb]
  refine hq0 J8 e18 fun z hz=>hall fun i hi=>?_
  rw [zoH n hz i (qD hm hi),Int.mul_fmod_right]
structure ztF(J:zc)(a:Addr)(n w:Nat)(as:List Addr)(f:Nat->Nat->Int):Prop where
 head:J a=some (.list (as.map V.ref))
 len:as.length=n
 row:∀ i b,as[i]?=some b->L J b w (f i)
theorem ztF.at{J a n w as f}(h:ztF J a n w as f){i:Int}{k:V->Prop}(h0:0<=i)(hi:i<n)(hk:∀ b,as[i.toNat]?=some b->L J b w (f i.toNat)->k (.ref b)):0<=i/\yo J a fun xs=>yh xs i.toNat k:=by
 have hl:i.toNat<as.length:=by rw [h.len];exact ltN (lit r3 V0 V1 [(1,1,V2,V1),(2,1,V0,V2)] rfl hi (tnn (h0)))
 refine ⟨h0,?_⟩
 rw [zbD h.head,yx (v:=.ref as[i.toNat]) (by rw [kaP,kae hl];rfl)]
 exact hk _ (kae hl) (h.row _ _ (kae hl))
end
end Mine
end
section
open PySem
namespace Mine
section
variable {Z:zK} {J:zc} {Q:V->zc->Prop} {P:Nat->zc->Prop}
theorem zcY:zaQ Z J Q P=yT (.dict []) J Q:=rfl
theorem zrm(a:EW):zmn a Z J Q P=a Z J (fun v J1=>v.asRef fun p=>yI J1 p fun kvs=>yT (.dict kvs) J1 Q) P:=rfl
theorem zs2(a b:EW):zsM a b Z J Q P=a Z J (fun va J1=>va.asRef fun p=>yI J1 p (fun _=>True)/\b Z J1 (fun vb J2=>vb.asRef fun q=>p≠q/\yI J2 p fun kvs=>yI J2 q fun more=>kvs.length+more.length<=lim/\Q .none (put J2 p (.dict (zbQ kvs more)))) P) P:=rfl
theorem zo1(a:EW):zi5 a Z J Q P=a Z J (fun v J1=>v.asRef fun p=>zaI J1 p fun xs=>∃ ns,xs=zs ns/\ns.length+1<4096/\Q (.int (zdL ns)) J1) P:=rfl
theorem ztl(a b:EW):zsS a b Z J Q P=a Z J (fun va J1=>va.asRef fun p=>qG J1 p (fun _=>True)/\b Z J1 (fun vb J2=>vb.asInt fun k=>qG J2 p fun xs=>∃ ns j,xs=zs ns/\ns[j]?=some k/\(∀ m:Nat,m<j->ns[m]?≠some k)/\Q (.int (j:Nat)) J2) P) P:=rfl
theorem zlM{α:Type}{chk:zc->Prop}{bd:α->zK}{c:Option EW}{e:EW}{xs:List α}{acc:List V}(I:Nat->List V->zc->Prop)(h0:I 0 acc J)
  (step:∀ i v acc J (K':List V->zc->Prop),xs[i]?=some v->I i acc J->(∀ acc' J',I (i+1) acc' J'->K' acc' J')->chk J/\zgA c (bd v) J fun b J1=>if b then e (bd v) J1 (fun u J2=>K' (acc++[u]) J2) noP else K' acc J1)
  (fin:∀ acc J,I xs.length acc J->chk J/\yT (.list acc) J Q):zaR chk bd c e xs acc J Q:=by
 have key:∀ (n i:Nat) (acc:List V) (J:zc),i+n=xs.length->I i acc J->zaR chk bd c e (xs.drop i) acc J Q:=by
  intro n
  induction n with
  | zero =>
   intro i acc J hi hI
   have hi':i=xs.length:=by assumption
   subst hi'
   rw [kcZ]
   exact fin acc J hI
  | succ n ih =>
   intro i acc J hi hI
   have hlt:i<xs.length:=by exact ltN (lit (@r3 (↑(i)) (↑(xs.length)) (↑(n))) V0 V1 [(2,1,.add V0 (.add V2 N1),V1),(0,1,N0,V2)] rfl (eqI hi) (nnI _))
   rw [kbT hlt]
   have:=step i xs[i] acc J (fun acc' J'=>zaR chk bd c e (xs.drop (i+1)) acc' J' Q) (kae hlt) hI fun acc' J' h=>ih (i+1) acc' J' (by exact eqN (liq (@r3 (↑(i)) (↑(n)) (↑(xs.length))) (.add (.add V0 N1) V1) V2 [(2,1,.add V0 (.add V1 N1),V2)] rfl (eqI hi))) h
   exact this
 exact key xs.length 0 acc J (kcW _) h0
end
noncomputable def jo(l:List Nat):List Int:=l.map fun i:Nat=>(i:Int)
theorem qK(l:List Nat):(jo l).length=l.length:=kaK ..
theorem zqV{rs:Rd2}{x:Int}{S:Int->Bool}{i:Nat}{e:Int × Int}(h:rs[i]?=some e):rt (rs.take (i+1)) x S=rt (rs.take i) x S++if tch S x e then [i] else []:=by
 have hl:(rs.take i).length=i:=by rw [kcw];have:=(kah.mp h).1;lia
 rw [kaN,h]
 have:=zmF (rs:=rs.take i) e x S
 rw [hl] at this
 exact this
section
variable {T:TC} {d:Nat} {J:zc} {Q:V->zc->Prop} {P:Nat->zc->Prop}
structure RtFns(T:TC):Prop where
 other:FnW T "other_end" 2 0 (jZ T)
 rt:FnW T "roads_to" 3 2 (zbq T)
theorem wJ(F:RtFns T){rs:Rd2}{r e:Addr}{x:Int}{ks:List Int}(hr:zS J r rs)(he:J e=some (.dict (dk ks)))
  (hq:∀ l J',J l=none->Ext J J'->J' l=some (.list (zs (jo (rt rs x (jk ks)))))->Q (.ref l) J'):zp T (d+2) "roads_to" [.ref r,.int x,.ref e] J Q P:=by
 obtain ⟨vs,hr1,hr2⟩:=hr
 refine F.rt (d+1) _ _ _ _ rfl ?_
 unfold zbq
 refine jX hr1 ?_
 unfold zrV
 refine zlM (fun i acc J'=>J'=J/\acc=zs (jo (rt (rs.take i) x (jk ks)))) ⟨rfl,rfl⟩ ?_ ?_
 ·intro i a acc J' K' hv hI6a hK'
  obtain ⟨rfl,rfl⟩:=hI6a
  obtain ⟨hv1,hv2⟩:=zjd 0 vs i a hv
  rw [kcW] at hv2
  obtain ⟨t,u,w,hu,hrs,ht⟩:=hr2.get hv1
  refine ⟨.inl hr1,?_⟩
  rw [hu,hv2]
  refine InV.tup (ns:=[u,w]) ht ?_
  have hnext:=zqV (x:=x) (S:=jk ks) hrs
  have fin:∀ t':Bool,tch (jk ks) x (u,w)=t'->(if t'=true then K' (zs (jo (rt (rs.take i) x (jk ks)))++[.int i]) J' else K' (zs (jo (rt (rs.take i) x (jk ks)))) J'):=by
   intro t' ht
   rw [ht] at hnext
   cases t' with
   | true=>exact hK' _ _ ⟨rfl,by rw [hnext];simp [zs,jo]⟩
   | false=>exact hK' _ _ ⟨rfl,by rw [hnext];simp⟩
  by_cases h1:x∈[u,w]
  ·refine zZ (decide_eq_true h1) ?_
   refine zbV (d:=d) F.other ht ?_
   refine jY he ?_
   rw [zaf]
   refine fin _ ?_
   unfold tch oth jk
   have:(decide (u=x) || decide (w=x))=true:=by
    simp only [kad,kay,or_false] at h1
    rcases h1 with h | h<;>simp [h]
   simp [this]
  ·refine zQ (decide_eq_false h1) ?_
   refine fin false ?_
   unfold tch
   simp only [kad,kay,or_false,not_or] at h1
   have h2:¬ u=x:=fun h=>h1.1 h.symm
   have h3:¬ w=x:=fun h=>h1.2 h.symm
   simp [h2,h3]
 ·intro acc J' hI2b
  obtain ⟨rfl,rfl⟩:=hI2b
  refine ⟨.inl hr1,zi fun l J1 hl e1 hlv=>hq l J1 hl e1 ?_⟩
  rw [hlv,zgw,hr2.length,kba]
structure LoFns(T:TC):Prop extends RtFns T where
 counts:FnW T "counts_at" 2 3 (qS T)
 least:FnW T "least_of" 5 1 (zbt T)
theorem zcK(F:LoFns T){m:Int}{rs:Rd2}{r o y:Addr}{p:Nat}{O Y:List Int}(n:Net m rs)(hp:(p:Int)<m)(hr:zS J r rs)(ho:J o=some (.dict (dk O)))(hy:J y=some (.dict (dk Y)))
  (hq:∀ J',Ext J J'->Q (.int (z4 rs p - (nb rs p (jk O)+nb rs p (jk Y)))) J'):zp T (d+3) "least_of" [.int m,.ref r,.int p,.ref o,.ref y] J Q P:=by
 have hm:=n.m0;have hm':=n.m10
 have nn:∀ p∈rs,0<=p.1/\0<=p.2:=fun p hp=>⟨(n.ends p hp).1.1,(n.ends p hp).2.1.1⟩
 refine F.least (d+2) _ _ _ _ rfl ?_
 unfold zbt
 rw [zD]
 simp only [qh,q9,jw,zL,zC,zM,zu,qd,qf,qc,zj,zk]
 refine wJ (d:=d) F.toRtFns hr ho fun l J1 hl e1 hlv=>?_
 simp only [zg]
 refine qa hlv ?_
 refine wJ (d:=d) F.toRtFns (hr.ext e1) (e1 _ _ hy) fun l' J2 hl' e2 hlv'=>?_
 simp only [zg]
 refine qa hlv' ?_
 simp only [ze,zw,zx,jQ,yK,qv,zL,zC,zM,zu,zj,zk]
 refine y7 (d:=d+1) F.counts hm hm' ((hr.ext e1).ext e2) nn fun c J3 e3 _ hc=>?_
 rw [zaA hm nn] at hc
 refine L.at (J:=J3) (f:=z4 rs) (n:=m.toNat) hc (by exact nnI _) (by exact Mine.lt_toNat ‹_›) ?_
 simp only [ze,kaf]
 rw [qb,qK,qb,qK,zme _ _ _ n.ne,zme _ _ _ n.ne]
 exact hq _ (e1.trans (e2.trans e3))
theorem zia:∀ (Y O:List Int),(O++Y).Nodup->zbQ (dk O) (dk Y)=dk (O++Y)
 | [],O,_=>by simp [zbQ,dk]
 | y::Y,O,h=>by
  have hy:y∉O:=fun hO=>by
   rw [kbc] at h
   exact h.2.2 y hO y (kaG ..) rfl
  have h1:zho (dk O) y (.bool true)=dk (O++[y]):=by rw [zae];unfold wR;rw [if_neg hy]
  have h2:=zia Y (O++[y]) (by simpa using h)
  show zbQ (zho (dk O) y (.bool true)) (dk Y)=_
  rw [h1,h2];simp
theorem zdp(F:FnW T "keys_of" 2 1 (za5 T)){o y:Addr}{O Y:List Int}(ho:J o=some (.dict (dk O)))(hy:J y=some (.dict (dk Y)))(hn:(O++Y).Nodup)(hl:(O++Y).length<=20)
  (hq:∀ b J',J b=none->Ext J J'->J' b=some (.dict (dk (O++Y)))->Q (.ref b) J'):zp T (d+1) "keys_of" [.ref o,.ref y] J Q P:=by
 refine F d _ _ _ _ rfl ?_
 unfold za5
 simp only [qh,zrm,zu,qd,qf,qc,zj,zk,zg]
 refine jY ho ?_
 refine zi fun b J1 hb e1 hbv=>?_
 simp only [zw,zx]
 rw [zD]
 simp only [jD,zs2,zu,zj,zk,zg]
 rw [zii hbv]
 refine ⟨trivial,fun e=>?_,?_⟩
 ·subst e;rw [hb] at hy;cases hy
 ·refine jY hbv (jY (e1 _ _ hy) ?_)
  rw [zia _ _ hn,wl,wl]
  rw [kas] at hl
  refine ⟨by unfold lim;exact leN (lin (@r2 (↑(O.length)) (↑(Y.length))) (.add V0 V1) (.num 1000000) [(0,1,.add V0 V1,.num 20)] rfl (leI hl)),?_⟩
  exact hq b _ hb (e1.put hb _) (zB ..)
end
end Mine
end
section
open PySem
namespace Mine
theorem zhJ{c:EW}{b:SW}{Z J K}(I:Nat->zK->zc->Prop)(n:Nat)(h0:I n Z J)
  (step:∀ n Z J (K':Out->zK->zc->Prop),I n Z J->(∀ Z' J' n',n'<n->I n' Z' J'->K' .next Z' J') ->
   c Z J (fun v J1=>v.asBool fun t=>if t then b Z J1 (fun o Z' J'=>match o with | .next=>K' .next Z' J' | .ret u=>K (.ret u) Z' J') noP else K .next Z J1) noP):∃ n,zbL c b n Z J K:=by
 refine ⟨n+1,?_⟩
 have key:∀ (N n:Nat) (Z:zK) (J:zc),I n Z J->n<N->zbL c b N Z J K:=by
  intro N
  induction N with
  | zero=>intro n Z J _ h;exact lif r1 [(1,1,V0,N0),(0,1,N0,V0)] rfl (ltI h) (nnI _)
  | succ N ih =>
   intro n Z J hI hm
   exact step n Z J (fun o Z' J'=>match o with | .next=>zbL c b N Z' J' K | .ret u=>K (.ret u) Z' J') hI fun Z' J' n' hn' h=>ih n' Z' J' h (by exact ltN (lit r3 V0 V1 [(1,1,V2,.add V1 N1),(1,1,V0,V2)] rfl (ltI hm) (ltI hn')))
 exact key _ n Z J h0 (ka1 _)
noncomputable def zi6(rs:Rd2)(O Y:List Int)(p:Nat):Int:=z4 rs p - (nb rs p (jk O)+nb rs p (jk Y))
noncomputable def brn(rs:Rd2)(g:Nat->Int)(O Y:List Int)(p:Nat):Bool:=!decide ((p:Int)∈O++Y) && decide (zi6 rs O Y p<=g p)
noncomputable def nxt(rs:Rd2)(g:Nat->Int)(O Y:List Int)(p:Nat):Nat:=((rt rs p (jk Y))[(g p - zi6 rs O Y p).toNat]?).getD 0
theorem zmN{m:Int}{rs:Rd2}{g:Nat->Int}{O Y:List Int}{p:Nat}(n:Net m rs)(U:Unb m rs g O Y)(hp:(p:Int)<m)(hb:brn rs g O Y p=true) :
  ∃ k:Nat,(k:Int)=g p - zi6 rs O Y p/\(rt rs p (jk Y))[k]?=some (nxt rs g O Y p):=by
 unfold brn at hb
 simp only [kaJ,kbD,decide_eq_false_iff_not,decide_eq_true_eq,kaq,not_or] at hb
 have h1:=U p hp hb.1.1 hb.1.2
 have h2:=zme p (jk Y) rs n.ne
 have h3:zcd O=jk O:=rfl
 rw [h3] at h1
 have hlt:(g p - zi6 rs O Y p).toNat<(rt rs p (jk Y)).length:=by unfold zi6;unfold zi6 at hb;exact ltN (lit r6 V0 V1 [(1,1,.add V2 V3,V4),(2,-1,V1,V5),(2,1,V0,.sub V2 (.sub V4 (.add V3 V5)))] rfl h1 h2 (tnn (lin r4 N0 (.sub V0 (.sub V1 (.add V2 V3))) [(0,1,.sub V1 (.add V2 V3),V0)] rfl hb.2)))
 refine ⟨(g p - zi6 rs O Y p).toNat,by exact (tnn (lin r2 N0 (.sub V0 V1) [(0,1,V1,V0)] rfl hb.2)),?_⟩
 unfold nxt
 rw [kae hlt];rfl
section
variable {T:TC} {d:Nat} {J:zc} {Q:V->zc->Prop} {P:Nat->zc->Prop}
structure zjH(T:TC):Prop extends LoFns T where
 keys:FnW T "keys_of" 2 1 (za5 T)
structure zhC(J0 J:zc)(o y b:Addr)(Od Ly:List Int):Prop where
 ext:Ext J0 J
 o:J o=some (.dict (dk Od))
 y:J y=some (.dict (dk Ly))
 b:J b=some (.dict (dk (Od++Ly)))
theorem zhC.up{J0 J J' o y b Od Ly}(t:zhC J0 J o y b Od Ly)(e:Ext J J'):zhC J0 J' o y b Od Ly:=⟨t.ext.trans e,e _ _ t.o,e _ _ t.y,e _ _ t.b⟩
theorem zhC.put{J0 J o y b Od Ly}(t:zhC J0 J o y b Od Ly){a:Addr}(h0:J0 a=none)(h1:a≠o)(h2:a≠y)(h3:a≠b)(x:O):zhC J0 (put J a x) o y b Od Ly :=
 ⟨t.ext.put h0 x,by rw [zO _ h1.symm];exact t.o,by rw [zO _ h2.symm];exact t.y,by rw [zO _ h3.symm];exact t.b⟩
theorem zaV{J:zc}{a b:Addr}{xs:List V}{kvs:List (Int × V)}(h:J a=some (.list xs))(h':J b=some (.dict kvs)):a≠b:=by rintro rfl;rw [h] at h';cases h'
theorem zqA(F:zjH T){m:Int}{rs:Rd2}{g:Nat->Int}{J0:zc}{r hp t o y b f:Addr}{Od Ly:List Int}{tr fs:List Nat}{p:Nat}{o9:Option V}{K:Out->zK->zc->Prop}
  (n:Net m rs) (U:Unb m rs g Od Ly) (hr:zS J0 r rs) (hh:L J0 hp m.toNat g) (ht0:J0 t=none) (hf0:J0 f=none) (tu:zhC J0 J o y b Od Ly) (ht:J t=some (.list (zs (jo tr)))) (hf:J f=some (.dict (dk (jo fs)))) (h1:f≠o) (h2:f≠y) (h3:f≠b) (hp':(p:Int)<m) (hps:p∉fs) (htl:tr.length<=20) (hfl:fs.length<=20)
  (hK:∀ o9 J',zhC J0 J' o y b Od Ly->J' t=some (.list (zs (jo (tr++if brn rs g Od Ly p then [nxt rs g Od Ly p] else []))))->J' f=some (.dict (dk (jo (fs++if brn rs g Od Ly p then [p] else []))))->K .next [some (.int m),some (.ref r),some (.ref hp),some (.ref t),some (.ref o),some (.ref y),some (.ref b),some (.ref f),some (.int p),o9] J') :
  zbj T (d+3) [some (.int m),some (.ref r),some (.ref hp),some (.ref t),some (.ref o),some (.ref y),some (.ref b),some (.ref f),some (.int p),o9] J K P:=by
 have hm:=n.m0;have hm':=n.m10
 unfold zbj
 refine zcK (d:=d) F.toLoFns n hp' (hr.ext tu.ext) tu.o tu.y fun J1 e1=>?_
 have tu1:=tu.up e1
 simp only [zw,zx,qr,zam,zlt,zu,zj,zk,ze,zg]
 refine jY tu1.b ?_
 rw [zaf]
 by_cases hin:(p:Int)∈Od++Ly
 ·have hb:brn rs g Od Ly p=false:=by unfold brn;simp [hin]
  rw [hb] at hK
  simp only [hin,decide_true,kbj,kak,if_false,zn,qQ,ka5] at hK ⊢
  exact hK _ _ tu1 (e1 _ _ ht) (e1 _ _ hf)
 ·simp only [hin,decide_false,kb6,if_true,qA,qv,zu,zj,zk,ze,zg]
  refine (hh.ext tu1.ext).at (by exact nnI _) (by exact Mine.lt_toNat ‹_›) ?_
  simp only [ze,kaf,Cmp.run,zn,ge_iff_le]
  by_cases hge:zi6 rs Od Ly p<=g p
  ·have hb:brn rs g Od Ly p=true:=by unfold brn;simp [hin,hge]
   rw [hb] at hK
   have hge':z4 rs p - (nb rs p (jk Od)+nb rs p (jk Ly))<=g p:=hge
   obtain ⟨k,hk1,hk2⟩:=zmN n U hp' hb
   refine zZ (decide_eq_true hge') ?_
   rw [zD]
   simp only [jD,zgI,qv,yK,zL,zC,zM,zu,zj,zk,zg]
   refine ⟨zI (e1 _ _ ht) trivial,?_⟩
   refine wJ (d:=d+1) F.toRtFns (hr.ext tu1.ext) tu1.y fun l J2 hl e2 hlv=>?_
   have tu2:=tu1.up e2
   simp only [zg,ze]
   refine (hh.ext tu2.ext).at (by exact nnI _) (by exact Mine.lt_toNat ‹_›) ?_
   simp only [ze,kaf]
   have hsub:g p - (z4 rs p - (nb rs p (jk Od)+nb rs p (jk Ly)))=(k:Int):=hk1.symm
   rw [hsub]
   refine ⟨nnI _,?_⟩
   refine qm hlv ?_
   rw [kaf,yx (zbb (n:=((nxt rs g Od Ly p:Nat):Int)) (by unfold jo;rw [kaP,hk2];rfl))]
   refine zI (e2 _ _ (e1 _ _ ht)) ?_
   rw [qb,qK]
   refine ⟨by unfold lim;exact ltN (lit r1 V0 (.num 1000000) [(0,1,V0,.num 20)] rfl (leI htl)),?_⟩
   have ht2:=e2 _ _ (e1 _ _ ht)
   have hf2:=e2 _ _ (e1 _ _ hf)
   have tu3:=tu2.put ht0 (zaV ht2 tu2.o) (zaV ht2 tu2.y) (zaV ht2 tu2.b) (.list (zs (jo tr)++[.int (nxt rs g Od Ly p)]))
   have hft:f≠t:=(zaV ht2 hf2).symm
   refine Eq.mpr (j9 (kvs:=dk (jo fs)) (by rw [zO _ hft];exact hf2)) ?_
   rw [wl,qK,zae]
   refine ⟨by unfold lim;exact ltN (lit r1 V0 (.num 1000000) [(0,1,V0,.num 20)] rfl (leI hfl)),hK _ _ (tu3.put hf0 h1 h2 h3 _) ?_ ?_⟩
   ·rw [zO _ hft.symm,zB]
    simp [zs,jo]
   ·rw [zB]
    unfold wR
    have:(p:Int)∉jo fs:=fun h=>by
     obtain ⟨q,hq,e⟩:=kau.mp h
     exact hps (by have:q=p:=Int.ofNat.inj e;rw [<-this];exact hq)
    rw [if_neg this]
    simp [jo]
  ·have hb:brn rs g Od Ly p=false:=by unfold brn;simp [hge]
   rw [hb] at hK
   have hge':¬ z4 rs p - (nb rs p (jk Od)+nb rs p (jk Ly))<=g p:=hge
   simp only [hge',decide_false,kak,if_false,qQ,ka5] at hK ⊢
   exact hK _ _ tu1 (e1 _ _ ht) (e1 _ _ hf)
end
noncomputable def zgE(m:Int)(rs:Rd2)(g:Nat->Int)(Od Ly:List Int):List Nat:=(kab m.toNat).filter (brn rs g Od Ly)
section
variable {m:Int} {rs:Rd2} {g:Nat->Int}
theorem yv{l:List Nat}{p:Nat}:(p:Int)∈jo l ↔ p∈l:=by
 unfold jo
 rw [kau]
 constructor
 ·rintro ⟨q,hq,e⟩;have:q=p:=Int.ofNat.inj e;rw [<-this];exact hq
 ·intro h;exact ⟨p,h,rfl⟩
theorem zbx{l:List Nat}(h:l.Nodup):(jo l).Nodup:=by
 unfold jo
 rw [kbk,kb4]
 exact h.imp fun hab e=>hab (Int.ofNat.inj e)
theorem Lay.burn(n:Net m rs){i:Nat}{Od Ly:List Int}{lev:Int->Nat}{par:Nat->Nat}(Y:Lay m rs g i Od Ly lev par)(U:Unb m rs g Od Ly) :
  Lay m rs g (i+1) (Od++Ly) (jo (zgE m rs g Od Ly)) (zeR i lev (brn rs g Od Ly)) (fun p=>if brn rs g Od Ly p then nxt rs g Od Ly p else par p)/\Unb m rs g (Od++Ly) (jo (zgE m rs g Od Ly)):=by
 have hm:=n.m0
 have hmem:∀ p:Nat,p∈zgE m rs g Od Ly ↔ (p:Int)<m/\brn rs g Od Ly p=true:=fun p=>by
  unfold zgE;rw [kbi,kam]
  constructor
  ·rintro ⟨a,b⟩;exact ⟨by exact Mine.qD ‹_› ‹_›,b⟩
  ·rintro ⟨a,b⟩;exact ⟨by exact Mine.jW ‹_›,b⟩
 refine ⟨Y.step n (brn rs g Od Ly) (fun q=>?_) (zbx ?_) (fun p hp hb=>?_) (fun _ _ _=>rfl) (fun p hp hb=>?_),fun p hp h1 h2=>?_⟩
 ·constructor
  ·intro h
   obtain ⟨p,hp,rfl⟩:=kau.mp h
   obtain ⟨a,b⟩:=(hmem p).mp hp
   exact ⟨p,a,rfl,b⟩
  ·rintro ⟨p,a,rfl,b⟩
   exact yv.mpr ((hmem p).mpr ⟨a,b⟩)
 ·exact kbn.sublist kcJ
 ·unfold brn at hb
  simp only [kaJ,kbD,decide_eq_false_iff_not,kaq,not_or] at hb
  exact hb.1
 ·obtain ⟨k,h1,h2⟩:=zmN n U hp hb
  refine ⟨k,h2,?_⟩
  unfold zi6 at h1
  show g p=z4 rs p - (nb rs p (jk Od)+nb rs p (jk Ly))+k
  exact liq r5 V0 (.add (.sub V1 (.add V2 V3)) V4) [(2,-1,V4,.sub V0 (.sub V1 (.add V2 V3)))] rfl h1
 ·have hb:brn rs g Od Ly p=false:=by
   cases h:brn rs g Od Ly p with
   | false=>rfl
   | true=>exact absurd (yv.mpr ((hmem p).mpr ⟨hp,h⟩)) h2
  unfold brn at hb
  simp only [h1,decide_false,kb6,kcf,decide_eq_false_iff_not] at hb
  unfold zi6 at hb
  have h3:=zso n Y.apart (p:Int)
  have e1:zcd Od=jk Od:=rfl
  have e2:zcd Ly=jk Ly:=rfl
  rw [e1,e2] at h3
  exact lit r5 (.add V0 V1) V2 [(3,1,.sub V2 (.add V3 V4),V0),(2,1,V1,.add V3 V4)] rfl hb h3
theorem Lay.ge{i:Nat}{Od Ly:List Int}{lev:Int->Nat}{par:Nat->Nat}(n:Net m rs)(Y:Lay m rs g i Od Ly lev par):(Od++Ly).length<=m.toNat+1:=by
 have hm:=n.m0
 refine yR m.toNat _ Y.nd fun x hx=>?_
 rw [tnn hm]
 rcases kaq.mp hx with h | h
 ·have:=(Y.o x).mp h;exact ⟨this.1,this.2.1⟩
 ·have:=(Y.y x).mp h;exact ⟨this.1,this.2.1⟩
end
section
variable {T:TC} {d:Nat} {J:zc} {Q:V->zc->Prop} {P:Nat->zc->Prop}
theorem zqz(F:zjH T){m:Int}{rs:Rd2}{g:Nat->Int}{J0:zc}{r hp t o y:Addr}{Od Ly:List Int}{tr:List Nat}{i:Nat}{lev:Int->Nat}{par:Nat->Nat}{o6 o7 o8 o9:Option V}{K:Out->zK->zc->Prop}
  (n:Net m rs) (Y:Lay m rs g i Od Ly lev par) (U:Unb m rs g Od Ly) (hr:zS J0 r rs) (hh:L J0 hp m.toNat g) (ht0:J0 t=none) (e0:Ext J0 J) (ho:J o=some (.dict (dk Od))) (hy:J y=some (.dict (dk Ly))) (ht:J t=some (.list (zs (jo tr)))) (htl:tr.length<=10)
  (hK:∀ b f o8 o9 J',Ext J0 J'->J' b=some (.dict (dk (Od++Ly)))->J' f=some (.dict (dk (jo (zgE m rs g Od Ly))))->J' t=some (.list (zs (jo (tr++(zgE m rs g Od Ly).map (nxt rs g Od Ly)))))->K .next [some (.int m),some (.ref r),some (.ref hp),some (.ref t),some (.ref b),some (.ref f),some (.ref b),some (.ref f),o8,o9] J') :
  zbi T (d+3) [some (.int m),some (.ref r),some (.ref hp),some (.ref t),some (.ref o),some (.ref y),o6,o7,o8,o9] J K P:=by
 have hm:=n.m0;have hm':=n.m10
 have hlen:=Y.ge n
 unfold zbi
 refine zdp (d:=d+2) F.keys ho hy Y.nd (by exact leN (lin (@r3 (↑((Od++Ly).length)) _ (↑(m.toNat))) V0 (.num 20) [(0,1,V1,.num 10),(0,1,V0,.add V2 N1),(2,1,V2,V1)] rfl hm' (leI hlen) (tnn (hm)))) fun b J1 hb e1 hbv=>?_
 simp only [zw,zx]
 rw [zD]
 simp only [qh,zcY]
 refine zi fun f J2 hf e2 hfv=>?_
 have e02:=e0.trans (e1.trans e2)
 have hf0:J0 f=none:=(e0.trans e1).none hf
 have h1:f≠o:=(jV (e1 _ _ ho) hf).symm
 have h2:f≠y:=(jV (e1 _ _ hy) hf).symm
 have h3:f≠b:=(jV hbv hf).symm
 refine zcv hm hm' (yd rfl) (fun j Z J'=>X2 fun o8 o9=>A4 (Z=[some (.int m),some (.ref r),some (.ref hp),some (.ref t),some (.ref o),some (.ref y),some (.ref b),some (.ref f),o8,o9]) (zhC J0 J' o y b Od Ly) (J' t=some (.list (zs (jo (tr++((kab j).filter (brn rs g Od Ly)).map (nxt rs g Od Ly)))))) (J' f=some (.dict (dk (jo ((kab j).filter (brn rs g Od Ly)))))))
  ⟨_,_,rfl,⟨e02,e2 _ _ (e1 _ _ ho),e2 _ _ (e1 _ _ hy),e2 _ _ hbv⟩,by rw [e2 _ _ (e1 _ _ ht)];simp,hfv⟩ ?_ ?_
 ·intro j Z J' K' hj hI5a hK'
  obtain ⟨o8',o9',rfl,tu,ht',hf'⟩:=hI5a
  have hfl:((kab j).filter (brn rs g Od Ly)).length<=j:=by
   have:=kbO (brn rs g Od Ly) (kab j)
   rw [kbg] at this;exact this
  refine zqA (d:=d) F n U hr hh ht0 hf0 tu ht' hf' h1 h2 h3 hj (fun h=>by have:=kam.mp (kbi.mp h).1;exact kbe _ ‹_›) (by rw [kas,kaK];exact leN (lin r4 (.add V0 V1) (.num 20) [(0,1,V0,.num 10),(0,1,V2,.num 10),(1,1,V3,V2),(0,1,V1,V3)] rfl (leI htl) hm' hj (leI hfl))) (by exact leN (lin r3 V0 (.num 20) [(0,1,V1,.num 10),(1,1,V2,V1),(0,1,V0,V2)] rfl hm' hj (leI hfl))) fun o9'' J'' tu'' ht'' hf''=>hK' _ _ ⟨_,_,rfl,tu'',?_,?_⟩
  ·rw [ht'',ka4,ka8,ka9,kaQ]
   cases hb:brn rs g Od Ly j<;>simp [hb]
  ·rw [hf'',ka4,ka8]
   cases hb:brn rs g Od Ly j<;>simp [hb]
 ·rintro Z J' ⟨o8',o9',rfl,tu,ht',hf'⟩
  exact hK _ _ _ _ _ tu.ext tu.b hf' ht'
end
end Mine
end
section
open PySem
namespace Mine
theorem ztB{M a c:Nat}:2*(M - (a+c))+0<2*(M - a)+1:=kdJ (Nat.mul_le_mul_left 2 (Nat.sub_le_sub_left (kcC a c) M))
theorem ztA{M a c:Nat}(h:a+c<=M)(hc:c≠0):2*(M - (a+c))+1<2*(M - a)+1 :=
 have hp:a<a+c:=Nat.lt_add_of_pos_right (kdA hc)
 Nat.succ_lt_succ (Nat.mul_lt_mul_of_pos_left (kcK (kbm hp h) hp) (by decide))
structure zrD(m:Int)(rs:Rd2)(g:Nat->Int)(t:List Int):Prop where
 len:(t.length:Int)=m
 up:t.Pairwise (· < ·)
 rng:∀ x∈t,0<=x/\x<rs.length
 corr:∃ lev par,ze5 m rs g (fun j=>(j:Int)∈t) lev par
theorem zns{l:List Int}(h:l.Pairwise (·<=·))(hn:l.Nodup):l.Pairwise (· < ·):=by
 have:=kdU.and h hn
 exact this.imp fun {x y} h=>by have:=h.1;have:=h.2;exact (yN (h.1) h.2)
section
variable {m:Int} {rs:Rd2} {g:Nat->Int}
theorem Lay.ends(n:Net m rs)(R:Rec m rs g){i:Nat}{Od:List Int}{lev:Int->Nat}{par:Nat->Nat}{ps:List Nat}{t:List Int}(Y:Lay m rs g i Od [] lev par)(U:Unb m rs g Od [])(hps:Od=m::jo ps)(hp:t.Perm (jo (ps.map par)))(hs:t.Pairwise (·<=·)):zrD m rs g t:=by
 have hm:=n.m0
 have hO:m∈Od:=by rw [hps];exact kaG ..
 have hall:=U.burns n R hO
 have hin:∀ p:Nat,(p:Int)<m->p∈ps:=fun p hp=>by
  have:=hall p hp
  rw [hps] at this
  rcases kad.mp this with e | e
  ·exact lif r2 [(1,1,V0,V1),(2,-1,V0,V1)] rfl hp e
  ·exact yv.mp e
 have hnd:Od.Nodup:=by have:=Y.nd;rwa [ka5] at this
 have hlt:∀ p∈ps,(p:Int)<m:=fun p hp=>by
  have h1:(p:Int)∈Od:=by rw [hps];exact kar _ (yv.mpr hp)
  have h2:=(Y.o p).mp h1
  have h3:(p:Int)≠m:=fun e=>by
   rw [hps,kaM] at hnd
   exact hnd.1 (by rw [<-e];exact yv.mpr hp)
  exact (yN (h2.2.1) h3)
 have C:ze5 m rs g (fun j=>∃ p:Nat,(p:Int)<m/\par p=j) lev par:=Y.corr hall fun j=>Iff.rfl
 have hpn:ps.Nodup:=by
  rw [hps,kaM] at hnd
  have h:=hnd.2
  unfold jo at h
  rw [kbk,kb4] at h
  exact h.imp fun hab e=>hab (by rw [e])
 have htn:(jo (ps.map par)).Nodup:=by
  refine zbx ?_
  rw [kbk,kb4]
  exact hpn.imp_of_mem fun {a b} ha hb hab e=>hab (C.inj n (hlt a ha) (hlt b hb) e)
 have hlen:(ps.length:Int)=m:=by
  have h1:Od.length<=m.toNat+1:=by have:=Y.ge n;rwa [ka5] at this
  have h2:=zdZ m.toNat Od fun k h0 hk=>by
   by_cases e:k=m
   ·rw [e];exact hO
   ·obtain ⟨p,rfl⟩:=kax h0
    exact hall p (by exact (yN (lin r3 V0 V1 [(0,1,V0,V2),(2,1,V2,V1)] rfl hk (tnn (hm))) e))
  rw [hps,kaj,qK] at h1 h2
  exact kaH (lin (@r3 (↑(ps.length)) _ (↑(m.toNat))) V0 V1 [(0,1,.add V0 N1,.add V2 N1),(2,1,V2,V1)] rfl (leI h1) (tnn (hm))) (lin (@r3 _ (↑(ps.length)) (↑(m.toNat))) V0 V1 [(0,1,.add V2 N1,.add V1 N1),(2,-1,V2,V0)] rfl (leI h2) (tnn (hm)))
 have hmem:∀ j:Nat,(j:Int)∈t ↔ ∃ p:Nat,(p:Int)<m/\par p=j:=fun j=>by
  rw [hp.mem_iff,yv,kau]
  constructor
  ·rintro ⟨p,h,e⟩;exact ⟨p,hlt p h,e⟩
  ·rintro ⟨p,h,e⟩;exact ⟨p,hin p h,e⟩
 refine ⟨by rw [hp.length_eq,qK,kaK];exact hlen,zns hs (hp.symm.nodup htn),fun x hx=>?_,lev,par,Y.corr hall hmem⟩
 have hx':=hp.mem_iff.mp hx
 obtain ⟨j,hj,rfl⟩:=kau.mp hx'
 obtain ⟨p,hpp,e⟩:=kau.mp hj
 obtain ⟨ed,he,_⟩:=C.road (hlt p hpp)
 rw [e] at he
 have:=(kah.mp he).1
 exact ⟨nnI _,kaw.mpr this⟩
end
section
variable {T:TC} {d:Nat} {J:zc} {Q:V->zc->Prop} {P:Nat->zc->Prop}
structure zng(T:TC):Prop where
 N:wT T
 need:NHs T
 I:zov T
 again:FnW T "need_again" 3 0 (yt T)
 R:zjH T
 tree:FnW T "tree_of" 3 7 (zci T)
theorem zim(F:zng T){m:Int}{rs:Rd2}{r hp:Addr}{g:Nat->Int}(n:Net m rs)(hr:zS J r rs)(hh:L J hp m.toNat g)(hg:qB m g)
  (hq:∀ c t J',J c=none->Ext J J'->Rec m rs g->zrD m rs g t->qJ J' c t->Q (.ref c) J') (he:∀ J',Ext J J'->¬ Rec m rs g->P 6 J'):zp T (d+8) "tree_of" [.int m,.ref r,.ref hp] J Q P:=by
 have hm:=n.m0;have hm':=n.m10
 refine F.tree (d+7) _ _ _ _ rfl ?_
 unfold zci
 rw [zD]
 simp only [jD,zL,zC,zM,zu,qd,qf,qc,zj,zk]
 refine z8 (d:=d+4) F.N n hr fun J1 e1=>?_
 rw [zD]
 simp only [jD,zL,zC,zM,zu,zj,zk]
 refine qe (d:=d+5) F.N.within F.need hm hm' (hh.ext e1) hg fun J2 e2=>?_
 rw [zD]
 simp only [jD,zL,zC,zM,zu,zj,zk]
 have e12:=e1.trans e2
 refine zbw (d:=d) F.I F.again n (hr.ext e12) (hh.ext e12) hg.lo (fun J3 e3 R=>?_) fun J3 e3 h=>he J3 (e12.trans e3) h
 rw [zD]
 simp only [qh,jp,zM,kaD]
 refine ⟨by unfold lim;exact kal rfl,zi fun t J4 ht e4 htv=>?_⟩
 have e03:=e12.trans e3
 have e04:=e03.trans e4
 unfold zeG
 rw [zD]
 simp only [qh,zcY]
 refine zi fun o J5 ho e5 hov=>?_
 simp only [zw,zx]
 rw [zD]
 simp only [qh,zaW,z1,zu,zj,zk,ze]
 refine zi fun y J6 hy e6 hyv=>?_
 have e46:=e5.trans e6
 have hr3:=hr.ext e03
 have hh3:=hh.ext e03
 refine zhJ (fun k Z J'=>X12 fun i Od Ly lev par ps o y o6 o7 o8 o9=>A9 (Z=[some (.int m),some (.ref r),some (.ref hp),some (.ref t),some (.ref o),some (.ref y),o6,o7,o8,o9]) (Ext J3 J') (J' o=some (.dict (dk Od))) (J' y=some (.dict (dk Ly))) (J' t=some (.list (zs (jo (List.map par ps))))) (Lay m rs g i Od Ly lev par) (Unb m rs g Od Ly) (Od++Ly=m::jo ps) (k=2*(m.toNat+1 - (Od++Ly).length)+if Ly=[] then 0 else 1)) _
  ⟨0,[],[m],_,_,[],o,y,_,_,_,_,rfl,e4.trans e46,e6 _ _ hov,hyv,e46 _ _ htv,Lay.start g hm,Unb.start R.rest,rfl,rfl⟩ ?_
 intro k Z J' K' hI4a hK'
 obtain ⟨i,Od,Ly,lev,par,ps,o',y',o6,o7,o8,o9,rfl,e',ho',hy',ht',Y,U,hps,rfl⟩:=hI4a
 have hge:=Y.ge n
 simp only [qA,jw,z1,zu,zj,zk,zg,ze]
 refine zcf hy' ?_
 rw [wl]
 by_cases hl:Ly=[]
 ·subst hl
  refine jX ht' ?_
  rw [ka5] at hps hge
  refine ⟨_,rfl,?_,fun ns hp hs=>zi fun c J7 hc e7 hcv=>?_⟩
  ·rw [hps,kaj,qK] at hge
   rw [qK,kaK];exact ltN (lit (@r3 (↑(ps.length)) _ (↑(m.toNat))) V0 (.num 64) [(0,1,V1,.num 10),(0,1,.add V0 N1,.add V2 N1),(2,1,V2,V1)] rfl hm' (leI hge) (tnn (hm)))
  ·exact hq c ns J7 ((e03.trans e').none hc) (e03.trans (e'.trans e7)) R (Y.ends n R U hps hp hs) hcv
 ·have hpos:(0:Int)<(Ly.length:Int):=by
   have:Ly.length≠0:=fun h=>hl (kaz h)
   exact (zaG ((nnI _)) (Ne.symm this))
  refine zZ (decide_eq_true hpos) ?_
  have hpl:ps.length<=10:=by rw [hps,kaj,qK] at hge;exact leN (lin (@r3 (↑(ps.length)) _ (↑(m.toNat))) V0 (.num 10) [(0,1,V1,.num 10),(0,1,.add V0 N1,.add V2 N1),(2,1,V2,V1)] rfl hm' (leI hge) (tnn (hm)))
  refine zqz (d:=d+4) F.R n Y U hr3 hh3 ht e' ho' hy' ht' (by rw [kaK];exact hpl) fun b f o8' o9' J'' e'' hb hf ht''=>?_
  obtain ⟨Y',U'⟩:=Y.burn n U
  have hge':=Y'.ge n
  refine hK' _ _ (2*(m.toNat+1 - ((Od++Ly)++jo (zgE m rs g Od Ly)).length)+if jo (zgE m rs g Od Ly)=[] then 0 else 1) ?_ ⟨i+1,Od++Ly,jo (zgE m rs g Od Ly),_,_,ps++zgE m rs g Od Ly,b,f,_,_,_,_,rfl,e'',hb,hf,?_,Y',U',?_,rfl⟩
  ·rw [if_neg hl,kas,qK]
   rw [kas,qK] at hge'
   by_cases hz:jo (zgE m rs g Od Ly)=[]
   ·rw [if_pos hz];exact ztB
   ·rw [if_neg hz]
    have:(zgE m rs g Od Ly).length≠0:=fun h=>hz (kaz (by rw [qK];exact h))
    exact ztA hge' this
  ·rw [ht'',ka9]
   have h1:ps.map (fun p=>if brn rs g Od Ly p=true then nxt rs g Od Ly p else par p)=ps.map par:=kbW fun p hp=>by
    have:(p:Int)∈Od++Ly:=by rw [hps];exact kar _ (yv.mpr hp)
    have:brn rs g Od Ly p=false:=by unfold brn;simp only [this,decide_true,kbj,kcq]
    rw [this];rfl
   have h2:(zgE m rs g Od Ly).map (fun p=>if brn rs g Od Ly p=true then nxt rs g Od Ly p else par p)=(zgE m rs g Od Ly).map (nxt rs g Od Ly):=kbW fun p hp=>by
    have:=(kbi.mp hp).2
    rw [this];rfl
   rw [h1,h2]
  ·rw [hps];simp [jo]
end
open PyProof.Rows in
theorem zeF:∀ (l acc:List Int),acc.Nodup->((l.foldl step_dedup acc).length<=acc.length+l.length/\((l.foldl step_dedup acc).length=acc.length+l.length ↔ (acc++l).Nodup))
 | [],acc,h=>by simp [h]
 | x::l,acc,h=>by
  have e:step_dedup acc x=if x∈acc then acc else acc++[x]:=by
   unfold step_dedup
   by_cases hx:x∈acc
   ·simp [hx]
   ·simp [hx]
  rw [kcE,e]
  by_cases hx:x∈acc
  ·rw [if_pos hx]
   obtain ⟨h1,h2⟩:=zeF l acc h
   refine ⟨by rw [kaj];exact leN (lin (@r3 (↑((kdE step_dedup acc l).length)) (↑(acc.length)) (↑(l.length))) V0 (.add V1 (.add V2 N1)) [(0,1,V0,.add V1 V2)] rfl (leI h1)),⟨fun h3=>?_,fun h3=>?_⟩⟩
   ·rw [kaj] at h3;exact lif (@r3 (↑((kdE step_dedup acc l).length)) (↑(acc.length)) (↑(l.length))) [(0,1,V0,.add V1 V2),(2,-1,V0,.add V1 (.add V2 N1))] rfl (leI h1) (eqI h3)
   ·rw [kbc] at h3
    exact absurd rfl (h3.2.2 x hx x (kaG ..))
  ·rw [if_neg hx]
   have hn:(acc++[x]).Nodup:=by
    rw [kbc]
    refine ⟨h,by simp,fun a ha b hb e=>?_⟩
    rw [kac.mp hb] at e
    exact hx (e▸ha)
   obtain ⟨h1,h2⟩:=zeF l (acc++[x]) hn
   rw [kas,kdj] at h1 h2
   refine ⟨by rw [kaj];exact leN (lin (@r3 (↑((kdE step_dedup (acc++[x]) l).length)) (↑(acc.length)) (↑(l.length))) V0 (.add V1 (.add V2 N1)) [(0,1,V0,.add (.add V1 N1) V2)] rfl (leI h1)),?_⟩
   rw [kaj,show acc.length+(l.length+1)=acc.length+1+l.length by exact eqN (liq (@r2 (↑(acc.length)) (↑(l.length))) (.add V0 (.add V1 N1)) (.add (.add V0 N1) V1) [] rfl),h2,kaQ]
   rfl
theorem zpa(ns:List Int):(kab ns.length).map (fun i=>ns.getD i 0)=ns:=by
 apply List.ext_getElem
 ·simp
 ·intro i h1 h2
  simp only [kaK,kbg] at h1
  simp [kaS,h1]
theorem zdz(ns:List Int):zdL ns=ns.length ↔ ns.Nodup:=by
 unfold zdL PyProof.Rows.firstMet
 rw [zpa]
 have:=(zeF ns [] kb5).2
 simpa using this
noncomputable def tro(rs:Rd2)(t:List Int):Rd2:=t.map fun x=>rs.getD x.toNat (0,0)
structure yJ(m:Int)(rs:Rd2)(t:List Int):Prop where
 len:(t.length:Int)=m
 rng:∀ x∈t,0<=x/\x<rs.length
 nd:t.Nodup
 conn:∀ q,0<=q->q<m->yz (tro rs t) m q
theorem zmz{rs:Rd2}{t:List Int}{p:Int × Int}(h:∀ x∈t,0<=x/\x<rs.length)(hp:p∈tro rs t):p∈rs:=by
 obtain ⟨x,hx,e⟩:=kau.mp hp
 have:=h x hx
 have hl:x.toNat<rs.length:=by exact ltN (lit r3 V0 V1 [(1,1,V2,V1),(2,1,V0,V2)] rfl this.2 (tnn (this.1)))
 rw [kaS,kae hl] at e
 rw [<-e];exact kbo hl
end Mine
end
section
open PySem
namespace Mine
theorem Prs.snoc{J:zc}:∀ {vs:List V} {rs:Rd2},Prs J vs rs->∀ {a:Addr} {x y:Int},J a=some (.tup [.int x,.int y])->Prs J (vs++[.ref a]) (rs++[(x,y)]):=by
 intro vs rs h a x y ha
 induction h with
 | nil=>exact .cons ha .nil
 | cons h1 _ ih=>exact .cons h1 ih
section
variable {T:TC} {d:Nat} {J:zc} {Q:V->zc->Prop} {P:Nat->zc->Prop}
noncomputable def wi(n:Int):V->Bool | .int x=>decide (0<=x/\x<=n) | _=>false
theorem zdJ{ty:Ty}{a:Addr}{xs:List V}{k:Bool->Prop}(h:J a=some (.list xs))(hk:k (match ty with | .list=>true | _=>false)):isi ty J (.ref a) k:=by
 unfold isi;simp only [h];exact hk
theorem zdI{ty:Ty}{a:Addr}{xs:List V}{k:Bool->Prop}(h:J a=some (.tup xs))(hk:k (match ty with | .tuple=>true | _=>false)):isi ty J (.ref a) k:=by
 unfold isi;simp only [h];exact hk
theorem zhg{ty:Ty}{a:Addr}{xs:List (Int × V)}{k:Bool->Prop}(h:J a=some (.dict xs))(hk:k false):isi ty J (.ref a) k:=by
 unfold isi;simp only [h];exact hk
theorem zbC{Z:zK}{i j:Nat}{e:EW}{a:Addr}{vs:List V}(f:V->Bool)(h:J a=some (.list vs))(hl:vs.length<=1000)(hi:qz Z i=some (.ref a))
  (step:∀ (v:V) (K:V->zc->Prop),v∈vs->K (.bool (f v)) J->e (jP Z j v) J K noP)
  (hq:∀ J',Ext J J'->Q (.bool (vs.all f)) J'):zoy (qU j (zai (loc i)) none e) Z J Q P:=by
 simp only [zl1,yH,zak,zu,hi,zg]
 refine qI h ⟨by unfold lim;exact leN (lin r1 V0 (.num 1000000) [(0,1,V0,.num 1000)] rfl (leI hl)),?_⟩
 refine qT (fun k acc J'=>J'=J/\acc=(vs.take k).map fun v=>V.bool (f v)) ⟨rfl,rfl⟩ ?_ ?_
 ·rintro k v acc J' K' hv ⟨rfl,rfl⟩ hK'
  refine ⟨.inl h,?_⟩
  refine step v _ (kao hv) (hK' _ _ ⟨rfl,?_⟩)
  rw [kaN,hv,ka9];rfl
 ·rintro acc J' ⟨rfl,rfl⟩
  refine ⟨.inl h,zi fun c J1 hc e1 hcv=>zI hcv ⟨vs.map f,by rw [kba,kcS];rfl,?_⟩⟩
  show Q (.bool ((vs.map f).all id)) J1
  rw [show (vs.map f).all id=vs.all f by rw [List.all_map];rfl]
  exact hq J1 e1
structure zqs(T:TC):Prop where
 N:wT T
 need:FnW T "need_tree" 3 1 (yk T)
theorem zoB{m:Int}{rs:Rd2}{t ks:List Int}(hm:0<=m)(hl:(t.length:Int)=m)(hrng:∀ x∈t,0<=x/\x<(rs.length:Int))(hnd:t.Nodup)(hco:zhI m (tro rs t) ks)(hcl:zdP (tro rs t) ks):(ks.length:Int)=m+1 ↔ yJ m rs t:=by
 constructor
 ·intro hk
  refine ⟨hl,hrng,hnd,fun q h0 hqm=>hco.reach q ?_⟩
  apply kav
  intro hn
  have:=yR m.toNat (q::ks) (kaM.mpr ⟨hn,hco.nd⟩) fun x hx=>by
   rw [tnn hm]
   rcases kad.mp hx with h | h
   ·rw [h];exact ⟨h0,kaA hqm⟩
   ·exact hco.rng x h
  rw [kaj] at this
  exact lif (@r3 (↑(ks.length)) _ (↑(m.toNat))) [(2,-1,V0,.add V1 N1),(0,1,.add V0 N1,.add V2 N1),(2,1,V2,V1)] rfl hk (leI this) (tnn (hm))
 ·intro hok
  have h1:=hco.le
  have h2:=zdZ m.toNat ks fun k h0 hk=>by
   by_cases e:k=m
   ·rw [e];exact hco.pit
   ·exact hcl.all hco.pit (hok.conn k h0 (by exact (yN (lin r3 V0 V1 [(0,1,V0,V2),(2,1,V2,V1)] rfl hk (tnn (hm))) e)))
  exact kaH (h1) (lin (@r3 _ (↑(ks.length)) (↑(m.toNat))) (.add V0 N1) V1 [(0,1,.add V2 N1,V1),(2,-1,V2,V0)] rfl (leI h2) (tnn (hm)))
theorem zfI(F:zqs T){m:Int}{rs:Rd2}{r tp:Addr}{t:List Int}(n:Net m rs)(hr:zS J r rs)(ht:qJ J tp t)(htl:t.length<=100)
  (hq:∀ J',Ext J J'->yJ m rs t->Q .none J') (he:∀ J',Ext J J'->¬ yJ m rs t->P 4 J'):zp T (d+2) "need_tree" [.int m,.ref r,.ref tp] J Q P:=by
 have hm:=n.m0;have hm':=n.m10
 obtain ⟨vs,hr1,hr2⟩:=id hr
 unfold qJ at ht
 refine F.need (d+1) _ _ _ _ rfl ?_
 unfold yk
 rw [zD]
 simp only [qr,zej,wK,zaU,zdc,zu,qd,qf,qc,zj,zk]
 refine zdJ ht ?_
 simp only [zn,kbj,kak,if_false,qA,jw,zu,zj,zk,zg]
 refine qa ht ?_
 rw [qb]
 by_cases hl:(t.length:Int)=m
 ·refine zQ (by rw [hl];exact bne_self_eq_false _) ?_
  simp only [qQ]
  rw [zD]
  simp only [qr,zej,wK,zaU]
  refine zbC (wi ((rs.length:Int) - 1)) ht (by rw [qb];exact kai htl (by decide)) rfl (fun u K hu hK=>?_) fun J1 e1=>?_
  ·obtain ⟨x,_,rfl⟩:=kau.mp hu
   simp only [zx,zw,zL,zC,zM,yK,jw,z1,zu,zj,zk,zg]
   refine qa hr1 ?_
   rw [hr2.length]
   exact wN (d:=d) F.N.within hK
  ·have ht1:=e1 _ _ ht
   by_cases hrng:∀ x∈t,0<=x/\x<(rs.length:Int)
   ·have hall:(zs t).all (wi ((rs.length:Int) - 1))=true:=by
     rw [kaX]
     intro b hb
     obtain ⟨x,hx,rfl⟩:=kau.mp hb
     have:=hrng x hx
     exact decide_eq_true (by exact ⟨this.1,lin r2 V0 (.sub V1 N1) [(1,1,V0,V1)] rfl this.2⟩)
    simp only [hall,zn,kbj,kak,if_false,qA,zo1,zu,zj,zk,zg]
    refine jX ht1 ?_
    refine ⟨t,rfl,by omega,?_⟩
    simp only [ze,Cmp.run,zn]
    by_cases hnd:t.Nodup
    ·have hdc:((zdL t:Int) != m)=false:=by rw [(zdz t).mpr hnd];simp [hl]
     simp only [hdc,kak,if_false,qQ]
     simp only [qr,qA,jw,zL,zC,zM,yH,zak,zu,zj,zk,zg]
     refine qI ht1 ?_
     refine ⟨by rw [qb];unfold lim;exact leN (lin r2 V0 (.num 1000000) [(0,1,V1,.num 10),(2,1,V0,V1)] rfl hm' hl),?_⟩
     refine qT (fun i acc J'=>J'=J1/\Prs J1 acc (tro rs (t.take i))) ⟨rfl,.nil⟩ ?_ ?_
     ·rintro i v acc J' K' hv ⟨rfl,hacc⟩ hK'
      refine ⟨.inl ht1,?_⟩
      obtain ⟨x,hx,rfl⟩:∃ x,t[i]?=some x/\v=.int x:=by
       unfold zs at hv
       rw [kaP] at hv
       cases hti:t[i]? with
       | none=>rw [hti] at hv;cases hv
       | some x=>rw [hti] at hv;exact ⟨x,rfl,(Option.some.inj hv).symm⟩
      have hxr:=hrng x (kao hx)
      refine ⟨hxr.1,?_⟩
      refine qm (e1 _ _ hr1) ?_
      have hlv:x.toNat<vs.length:=by rw [hr2.length];exact ltN (lit r3 V0 V1 [(1,1,V2,V1),(2,1,V0,V2)] rfl hxr.2 (tnn (hxr.1)))
      have hvg:vs[x.toNat]?=some vs[x.toNat]:=kae hlv
      refine qq hvg ?_
      obtain ⟨a,u,w,hau,hrs,hta⟩:=hr2.get hvg
      rw [hau]
      refine hK' _ _ ⟨rfl,?_⟩
      have:tro rs (t.take (i+1))=tro rs (t.take i)++[(u,w)]:=by
       unfold tro
       rw [kaN,hx,ka9]
       simp [kaS,hrs]
      rw [this]
      exact hacc.snoc (e1 _ _ hta)
     ·rintro acc J' ⟨rfl,hacc⟩
      refine ⟨.inl ht1,zi fun c2 J2 hc2 e2 hcv2=>?_⟩
      rw [qb,kba] at hacc
      have hR:zS J2 c2 (tro rs t):=⟨acc,hcv2,hacc.ext e2⟩
      refine zdB (d:=d) F.N.come hm hm' hR (fun p hp=>by have:=n.ends p (zmz hrng hp);exact ⟨this.1,this.2.1⟩) fun f J3 ks e3 hf hfd hco hcl=>?_
      simp only [zg,q9,z1,zu,zj,zk,ze]
      refine zcf hfd ?_
      rw [wl]
      have e03:=e1.trans (e2.trans e3)
      have hiff:=zoB hm hl hrng hnd hco hcl
      by_cases hk:(ks.length:Int)=m+1
      ·refine zQ (by rw [hk];exact bne_self_eq_false _) ?_
       exact hq _ e03 (hiff.mp hk)
      ·refine zZ (bne_iff_ne.mpr hk) ?_
       exact he _ e03 fun h=>hk (hiff.mpr h)
    ·have hdc:((zdL t:Int) != m)=true:=by
      have:zdL t≠t.length:=fun h=>hnd ((zdz t).mp h)
      rw [bne_iff_ne];exact (fun h_=>lif r3 [(2,1,V0,V1),(2,-1,V2,V1),(1,1,V2,V0)] rfl hl h_ (zaG (lin r3 V0 V1 [(2,-1,V1,V2),(2,1,V0,V2)] rfl hl h_) this))
     refine zZ hdc ?_
     exact he _ e1 fun h=>hnd h.nd
   ·have hall:(zs t).all (wi ((rs.length:Int) - 1))=false:=by
     cases hh:(zs t).all (wi ((rs.length:Int) - 1)) with
     | false=>rfl
     | true =>
      rw [kaX] at hh
      exact absurd (fun x hx=>by have:=of_decide_eq_true (hh _ (kau.mpr ⟨x,hx,rfl⟩));exact ⟨this.1,lit r2 V0 V1 [(0,1,V0,.sub V1 N1)] rfl this.2⟩) hrng
    rw [hall]
    exact he _ e1 fun h=>hrng h.rng
 ·refine zZ (bne_iff_ne.mpr hl) ?_
  exact he _ Ext.refl fun h=>hl h.len
end
theorem InV.ints{J:zc}{t:Addr}{ns:List Int}{x:Int}{k:Bool->Prop}(ht:J t=some (.list (zs ns)))(hk:k (decide (x∈ns))):InV J (.int x) (.ref t) k:=by
 refine ⟨.int x,ns.map .int,.int x,.inl (.list ht (zcb J ns)),?_,by rfl,by simp [PyData.depth],?_⟩
 ·clear ht hk;induction ns with
  | nil=>rfl
  | cons a r ih=>simp [PyData.canLayAll0,PyData.canLay0,ih]
 ·have:((ns.map PyData.int).any fun y=>PyData.eqv y (.int x))=decide (x∈ns):=by
   rw [ka6,kdk,kcd,decide_eq_true_eq]
   constructor
   ·intro hI0a
    obtain ⟨y,hy,h⟩:=hI0a
    simp only [Function.comp,PyData.eqv] at h
    have:y=x:=by simpa using h
    exact this▸hy
   ·intro h;exact ⟨x,h,by simp [PyData.eqv]⟩
  rw [this];exact hk
noncomputable def zkG(rs:Rd2)(t:List Int)(Ly:List Int)(p:Nat):List Nat:=(rt rs p (jk Ly)).filter fun j:Nat=>decide ((j:Int)∈t)
noncomputable def brh(rs:Rd2)(t:List Int)(Od Ly:List Int)(p:Nat):Bool:=!decide ((p:Int)∈Od++Ly) && decide (0<(zkG rs t Ly p).length)
noncomputable def nxh(rs:Rd2)(t:List Int)(Ly:List Int)(p:Nat):Nat:=(zkG rs t Ly p)[0]?.getD 0
noncomputable def ixh(rs:Rd2)(t:List Int)(Ly:List Int)(p:Nat):Nat:=(rt rs p (jk Ly)).idxOf (nxh rs t Ly p)
noncomputable def vlh(rs:Rd2)(t:List Int)(Od Ly:List Int)(p:Nat):Int:=zi6 rs Od Ly p+ixh rs t Ly p
theorem zgh{rs:Rd2}{t:List Int}{Od Ly:List Int}{p:Nat}(hb:brh rs t Od Ly p=true):(zkG rs t Ly p)[0]?=some (nxh rs t Ly p)/\(rt rs p (jk Ly))[ixh rs t Ly p]?=some (nxh rs t Ly p)/\((nxh rs t Ly p:Nat):Int)∈t/\(p:Int)∉Od/\(p:Int)∉Ly:=by
 unfold brh at hb
 simp only [kaJ,kbD,decide_eq_false_iff_not,decide_eq_true_eq,kaq,not_or] at hb
 have h1:(zkG rs t Ly p)[0]?=some (nxh rs t Ly p):=by unfold nxh;rw [kae hb.2];rfl
 have h2:=kbi.mp (kao h1)
 have h3:=List.idxOf_lt_length_of_mem h2.1
 refine ⟨h1,?_,of_decide_eq_true h2.2,hb.1⟩
 unfold ixh
 rw [kae h3,List.getElem_idxOf h3]
section
variable {T:TC} {d:Nat} {J:zc} {Q:V->zc->Prop} {P:Nat->zc->Prop}
theorem zrg(F:zjH T){m:Int}{rs:Rd2}{g:Nat->Int}{t:List Int}{J0:zc}{r tp h o y b f:Addr}{Od Ly:List Int}{fs:List Nat}{p:Nat}{o9 o10:Option V}{K:Out->zK->zc->Prop}
  (n:Net m rs) (hr:zS J0 r rs) (ht:qJ J0 tp t) (hh0:J0 h=none) (hf0:J0 f=none) (tu:zhC J0 J o y b Od Ly) (hh:L J h m.toNat g) (hf:J f=some (.dict (dk (jo fs)))) (h1:f≠o) (h2:f≠y) (h3:f≠b) (hp':(p:Int)<m) (hps:p∉fs) (hfl:fs.length<=20)
  (hK:∀ o9 o10 J',zhC J0 J' o y b Od Ly->L J' h m.toNat (if brh rs t Od Ly p then upd g p (vlh rs t Od Ly p) else g)->J' f=some (.dict (dk (jo (fs++if brh rs t Od Ly p then [p] else []))))->K .next [some (.int m),some (.ref r),some (.ref tp),some (.ref h),some (.ref o),some (.ref y),some (.ref b),some (.ref f),some (.int p),o9,o10,none] J') :
  zbl T (d+3) [some (.int m),some (.ref r),some (.ref tp),some (.ref h),some (.ref o),some (.ref y),some (.ref b),some (.ref f),some (.int p),o9,o10,none] J K P:=by
 have hm:=n.m0;have hm':=n.m10
 have hrl:=n.len
 unfold zbl
 refine wJ (d:=d+1) F.toRtFns (hr.ext tu.ext) tu.y fun l J1 hl e1 hlv=>?_
 have tu1:=tu.up e1
 simp only [zw,zx]
 rw [zD]
 simp only [qh,yH,zak,zu,zj,zk,zg]
 refine qI hlv ?_
 have hrtl:(rt rs p (jk Ly)).length<=rs.length:=by
  unfold rt
  have:=kbO (fun i=>(rs[i]?).any (tch (jk Ly) p)) (kab rs.length)
  rwa [kbg] at this
 refine ⟨by rw [qb,qK];unfold lim;exact leN (lin r2 V0 (.num 1000000) [(0,1,V1,.num 40),(0,1,V0,V1)] rfl (leI hrl) (leI hrtl)),?_⟩
 refine qT (fun i acc J'=>J'=J1/\acc=zs (jo (((rt rs p (jk Ly)).take i).filter fun j:Nat=>decide ((j:Int)∈t)))) ⟨rfl,rfl⟩ ?_ ?_
 ·intro i v acc J' K' hv hI6a hK'
  obtain ⟨rfl,rfl⟩:=hI6a
  refine ⟨.inl hlv,?_⟩
  obtain ⟨j,hj,rfl⟩:∃ j:Nat,(rt rs p (jk Ly))[i]?=some j/\v=.int j:=by
   unfold zs jo at hv
   rw [kcS,kaP] at hv
   cases hti:(rt rs p (jk Ly))[i]? with
   | none=>rw [hti] at hv;cases hv
   | some x=>rw [hti] at hv;exact ⟨x,rfl,(Option.some.inj hv).symm⟩
  simp only [j7,ztC,zu,zw,zx,zj,zk]
  refine InV.ints (ns:=t) (tu1.ext _ _ ht) ?_
  have hnext:((rt rs p (jk Ly)).take (i+1)).filter (fun j:Nat=>decide ((j:Int)∈t))=((rt rs p (jk Ly)).take i).filter (fun j:Nat=>decide ((j:Int)∈t))++if (j:Int)∈t then [j] else []:=by
   rw [kaN,hj,ka8]
   by_cases hjt:(j:Int)∈t<;>simp [hjt]
  by_cases hjt:(j:Int)∈t
  ·refine zZ (decide_eq_true hjt) ?_
   refine hK' _ _ ⟨rfl,?_⟩
   rw [hnext,if_pos hjt];simp [zs,jo]
  ·refine zQ (decide_eq_false hjt) ?_
   refine hK' _ _ ⟨rfl,?_⟩
   rw [hnext,if_neg hjt,ka5]
 ·rintro acc J' ⟨rfl,rfl⟩
  rw [qb,qK,kba]
  refine ⟨.inl hlv,zi fun w J2 hw e2 hwv=>?_⟩
  have tu2:=tu1.up e2
  have hwv':J2 w=some (.list (zs (jo (zkG rs t Ly p)))):=hwv
  simp only [zw,zx,qr,zam,zlt,zu,zj,zk,ze,zg]
  refine jY tu2.b ?_
  rw [zaf]
  simp only [if_true,zn]
  have hh2:=(hh.ext e1).ext e2
  have hf2:=e2 _ _ (e1 _ _ hf)
  by_cases hin:(p:Int)∈Od++Ly
  ·have hb:brh rs t Od Ly p=false:=by unfold brh;simp [hin]
   rw [hb] at hK
   simp only [hin,decide_true,kbj,kak,if_false,zn,qQ,ka5] at hK ⊢
   exact hK _ _ _ tu2 hh2 hf2
  ·simp only [hin,decide_false,kb6,if_true,qA,jw,z1,zu,zj,zk,ze,zg]
   refine qa hwv' ?_
   rw [qb,qK]
   simp only [ze,Cmp.run,zn]
   by_cases hpos:0<(zkG rs t Ly p).length
   ·have hb:brh rs t Od Ly p=true:=by unfold brh;simp [hin,hpos]
    rw [hb] at hK
    obtain ⟨g1,g2,_⟩:=zgh hb
    have hpos':(0:Int)<((zkG rs t Ly p).length:Int):=by exact kaw.mpr ‹_›
    refine zZ (decide_eq_true hpos') ?_
    rw [zD]
    simp only [wo,q9,zL,zC,zM,zu,zj,zk]
    refine zcK (d:=d) F.toLoFns n hp' (hr.ext tu2.ext) tu2.o tu2.y fun J3 e3=>?_
    have tu3:=tu2.up e3
    simp only [ztl,qv,z1,zu,zj,zk,zg,ze]
    have hl3:=e3 _ _ (e2 _ _ hlv)
    rw [zcx hl3]
    refine ⟨trivial,by decide,?_⟩
    refine qm (e3 _ _ hwv') ?_
    rw [show (0:Int).toNat=0 from rfl,yx (zbb (n:=((nxh rs t Ly p:Nat):Int)) (by unfold jo;rw [kaP,g1];rfl))]
    refine zI hl3 ?_
    refine ⟨_,ixh rs t Ly p,rfl,by unfold jo;rw [kaP,g2];rfl,fun m' hm' hmm=>?_,?_⟩
    ·unfold jo at hmm
     rw [kaP] at hmm
     cases hq':(rt rs p (jk Ly))[m']? with
     | none=>rw [hq'] at hmm;cases hmm
     | some z =>
      rw [hq'] at hmm
      have hz:z=nxh rs t Ly p:=Int.ofNat.inj (Option.some.inj hmm)
      subst hz
      have a1:=kah.mp hq'
      have a2:=kah.mp g2
      have:=(kcY (h₀:=a1.1) (h₁:=a2.1) (zoM _ _)).mp (a1.2.trans a2.2.symm)
      exact lif r2 [(1,1,V0,V1),(2,-1,V0,V1)] rfl (ltI hm') (eqI this)
    ·have hh3:=hh2.ext e3
     have hf3:=e3 _ _ hf2
     refine hh3.set (by exact nnI _) (by exact Mine.lt_toNat ‹_›) fun J4 hJ4=>?_
     have hhl:J3 h=some (.list (zs (lst m.toNat g))):=hh3
     have tu4:zhC J0 J4 o y b Od Ly:=by rw [hJ4];exact tu3.put hh0 (zaV hhl tu3.o) (zaV hhl tu3.y) (zaV hhl tu3.b) _
     have hfh:f≠h:=(zaV hhl hf3).symm
     have hf4:J4 f=some (.dict (dk (jo fs))):=by rw [hJ4,zO _ hfh];exact hf3
     refine Eq.mpr (j9 hf4) ?_
     rw [wl,qK,zae]
     refine ⟨by unfold lim;exact ltN (lit r1 V0 (.num 1000000) [(0,1,V0,.num 20)] rfl (leI hfl)),hK _ _ _ (tu4.put hf0 h1 h2 h3 _) ?_ ?_⟩
     ·show put J4 f _ h=_
      rw [zO _ hfh.symm,hJ4,zB]
      rw [kaf];rfl
     ·rw [zB]
      unfold wR
      have:(p:Int)∉jo fs:=fun h=>hps (yv.mp h)
      rw [if_neg this]
      simp [jo]
   ·have hb:brh rs t Od Ly p=false:=by unfold brh;simp [hpos]
    rw [hb] at hK
    have hpos':¬ (0:Int)<((zkG rs t Ly p).length:Int):=by exact (fun h_=>lif r1 [(0,1,V0,N0),(1,1,N0,V0)] rfl (nuI hpos) h_)
    simp only [gt_iff_lt,hpos',decide_false,kak,if_false,qQ,ka5] at hK ⊢
    exact hK _ _ _ tu2 hh2 hf2
end
end Mine
end
section
open PySem
namespace Mine
noncomputable def zkX(m:Int)(rs:Rd2)(t:List Int)(Od Ly:List Int):List Nat:=(kab m.toNat).filter (brh rs t Od Ly)
noncomputable def nwh(rs:Rd2)(t:List Int)(Od Ly:List Int)(g:Nat->Int):Nat->Int:=fun p=>if brh rs t Od Ly p then vlh rs t Od Ly p else g p
def Unj(m:Int)(rs:Rd2)(t:List Int)(Od Ly:List Int):Prop:=∀ p:Nat,(p:Int)<m->(p:Int)∉Od->(p:Int)∉Ly->∀ j∈rt rs p (jk Od),(j:Int)∉t
section
variable {m:Int} {rs:Rd2} {g:Nat->Int} {t:List Int}
theorem Lay.join(n:Net m rs){i:Nat}{Od Ly:List Int}{lev:Int->Nat}{par:Nat->Nat}(Y:Lay m rs g i Od Ly lev par)(U:Unj m rs t Od Ly)(hpar:∀ p:Nat,(p:Int)<m->lev p<=i->((par p:Nat):Int)∈t) :
  Lay m rs (nwh rs t Od Ly g) (i+1) (Od++Ly) (jo (zkX m rs t Od Ly)) (zeR i lev (brh rs t Od Ly)) (fun p=>if brh rs t Od Ly p then nxh rs t Ly p else par p)/\Unj m rs t (Od++Ly) (jo (zkX m rs t Od Ly)) /\
  (∀ p:Nat,(p:Int)<m->zeR i lev (brh rs t Od Ly) p<=i+1->(((if brh rs t Od Ly p then nxh rs t Ly p else par p):Nat):Int)∈t):=by
 have hm:=n.m0
 have hmem:∀ p:Nat,p∈zkX m rs t Od Ly ↔ (p:Int)<m/\brh rs t Od Ly p=true:=fun p=>by
  unfold zkX;rw [kbi,kam]
  constructor
  ·rintro ⟨a,b⟩;exact ⟨by exact Mine.qD ‹_› ‹_›,b⟩
  ·rintro ⟨a,b⟩;exact ⟨by exact Mine.jW ‹_›,b⟩
 refine ⟨Y.step n (brh rs t Od Ly) (fun q=>?_) (zbx ?_) (fun p hp hb=>?_) (fun p _ hb=>?_) (fun p hp hb=>?_),fun p hp h1 h2 j hj=>?_,fun p hp hl=>?_⟩
 ·constructor
  ·intro h
   obtain ⟨p,hp,rfl⟩:=kau.mp h
   obtain ⟨a,b⟩:=(hmem p).mp hp
   exact ⟨p,a,rfl,b⟩
  ·rintro ⟨p,a,rfl,b⟩
   exact yv.mpr ((hmem p).mpr ⟨a,b⟩)
 ·exact kbn.sublist kcJ
 ·exact (zgh hb).2.2.2
 ·unfold nwh;rw [hb];rfl
 ·refine ⟨ixh rs t Ly p,(zgh hb).2.1,?_⟩
  unfold nwh;rw [hb];rfl
 ·have hb:brh rs t Od Ly p=false:=by
   cases h:brh rs t Od Ly p with
   | false=>rfl
   | true=>exact absurd (yv.mpr ((hmem p).mpr ⟨hp,h⟩)) h2
  unfold brh at hb
  simp only [h1,decide_false,kb6,kcf,decide_eq_false_iff_not] at hb
  have hnil:zkG rs t Ly p=[]:=kaz (by exact eqN (kaH ((nuI hb)) ((nnI _))))
  obtain ⟨e,he,hpe,hs⟩:=zft.mp hj
  unfold jk at hs
  simp only [decide_eq_true_eq,kaq] at hs
  rw [kaq,not_or] at h1
  rcases hs with hs | hs
  ·exact U p hp h1.1 h1.2 j (zft.mpr ⟨e,he,hpe,decide_eq_true hs⟩)
  ·intro hjt
   have:j∈zkG rs t Ly p:=kbi.mpr ⟨zft.mpr ⟨e,he,hpe,decide_eq_true hs⟩,decide_eq_true hjt⟩
   rw [hnil] at this;cases this
 ·cases hb:brh rs t Od Ly p with
  | true=>exact (zgh hb).2.2.1
  | false =>
   refine hpar p hp ?_
   unfold zeR at hl
   by_cases h:lev p<=i
   ·exact h
   ·rw [if_neg h,kaf,hb] at hl
    simp at hl
theorem Lay.endh(n:Net m rs)(ok:yJ m rs t){i:Nat}{Od:List Int}{lev:Int->Nat}{par:Nat->Nat}(Y:Lay m rs g i Od [] lev par)(U:Unj m rs t Od [])(hO:m∈Od)(hpar:∀ p:Nat,(p:Int)<m->lev p<=i->((par p:Nat):Int)∈t):∃ lev par,ze5 m rs g (fun j=>(j:Int)∈t) lev par:=by
 have hm:=n.m0
 have hcl:∀ a b,yz (tro rs t) a b->a∈Od->b∈Od:=by
  have key:∀ u w:Int,(u,w)∈tro rs t->(u∈Od ↔ w∈Od):=fun u w huw=>by
   obtain ⟨x,hx,e⟩:=kau.mp huw
   have hxr:=ok.rng x hx
   obtain ⟨j,rfl⟩:=kax hxr.1
   have hj:j<rs.length:=by exact ltN (hxr.2)
   have he:rs[j]?=some (u,w):=by
    rw [kaf,kaS,kae hj] at e
    rw [kae hj];exact congrArg some e
   have hen:=n.ends (u,w) (kao he)
   have side:∀ a b:Int,oth (u,w) a=b->(u=a\/w=a)->0<=a->a<=m->b∈Od->a∈Od:=fun a b ho hab h0 hm' hb=>by
    apply kav
    intro hna
    obtain ⟨p,rfl⟩:=kax h0
    have hp:(p:Int)<m:=by
     have:(p:Int)≠m:=fun e=>hna (e▸hO)
     exact (yN (hm') this)
    exact U p hp hna kay j (zft.mpr ⟨(u,w),he,hab,decide_eq_true (ho▸hb)⟩) hx
   have hne:u≠w:=hen.2.2
   constructor
   ·intro h
    exact side w u (by unfold oth;rw [if_pos rfl]) (.inr rfl) hen.2.1.1 hen.2.1.2 h
   ·intro h
    exact side u w (by unfold oth;rw [if_neg (fun e=>hne e.symm)]) (.inl rfl) hen.1.1 hen.1.2 h
  intro a b hr ha
  induction hr with
  | refl=>exact ha
  | fwd _ hm ih=>exact (key _ _ hm).mp ih
  | bwd _ hm ih=>exact (key _ _ hm).mpr ih
 have hall:∀ p:Nat,(p:Int)<m->(p:Int)∈Od:=fun p hp=>hcl m p (ok.conn p (nnI _) hp) hO
 have C:ze5 m rs g (fun j=>∃ p:Nat,(p:Int)<m/\par p=j) lev par:=Y.corr hall fun j=>Iff.rfl
 have hin:∀ p:Nat,(p:Int)<m->((par p:Nat):Int)∈t:=fun p hp=>hpar p hp (kby ((Y.o p).mp (hall p hp)).2.2)
 refine ⟨lev,par,Y.corr hall fun j=>⟨fun hj=>?_,fun ⟨p,hp,e⟩=>e▸hin p hp⟩⟩
 apply kav
 intro hno
 have hnd:(jo ((kab m.toNat).map par)).Nodup:=by
  refine zbx ?_
  rw [kbk,kb4]
  refine (kbn (n:=m.toNat)).imp_of_mem fun {a b} ha hb hab e=>hab (C.inj n ?_ ?_ e)
  ·have:=kam.mp ha;exact Mine.qD ‹_› ‹_›
  ·have:=kam.mp hb;exact Mine.qD ‹_› ‹_›
 have:=zez ((j:Int)::jo ((kab m.toNat).map par)) t (kaM.mpr ⟨fun h=>?_,hnd⟩) fun x hx=>?_
 ·rw [kaj,qK,kaK,kbg] at this
  have:=ok.len
  exact lif r3 [(0,1,.add V0 N1,V1),(2,1,V1,V2),(2,-1,V0,V2)] rfl (leI ‹_›) this (tnn (hm))
 ·obtain ⟨p,hp,e⟩:=kau.mp (yv.mp h)
  exact hno ⟨p,by have:=kam.mp hp;exact Mine.qD ‹_› ‹_›,e⟩
 ·rcases kad.mp hx with h | h
  ·rw [h];exact hj
  ·obtain ⟨k,hk,rfl⟩:=kau.mp h
   obtain ⟨p,hp,rfl⟩:=kau.mp hk
   exact hin p (by have:=kam.mp hp;exact Mine.qD ‹_› ‹_›)
end
section
variable {T:TC} {d:Nat} {J:zc} {Q:V->zc->Prop} {P:Nat->zc->Prop}
theorem zrf(F:zjH T){m:Int}{rs:Rd2}{g:Nat->Int}{t:List Int}{J0:zc}{r tp h o y:Addr}{Od Ly:List Int}{i:Nat}{lev:Int->Nat}{par:Nat->Nat}{o6 o7 o8 o9 o10:Option V}{K:Out->zK->zc->Prop}
  (n:Net m rs) (Y:Lay m rs g i Od Ly lev par) (hr:zS J0 r rs) (ht:qJ J0 tp t) (hh0:J0 h=none) (e0:Ext J0 J) (ho:J o=some (.dict (dk Od))) (hy:J y=some (.dict (dk Ly))) (hh:L J h m.toNat g)
  (hK:∀ b f o8 o9 o10 J',Ext J0 J'->J' b=some (.dict (dk (Od++Ly)))->J' f=some (.dict (dk (jo (zkX m rs t Od Ly))))->L J' h m.toNat (nwh rs t Od Ly g)->K .next [some (.int m),some (.ref r),some (.ref tp),some (.ref h),some (.ref b),some (.ref f),some (.ref b),some (.ref f),o8,o9,o10,none] J') :
  zbk T (d+3) [some (.int m),some (.ref r),some (.ref tp),some (.ref h),some (.ref o),some (.ref y),o6,o7,o8,o9,o10,none] J K P:=by
 have hm:=n.m0;have hm':=n.m10
 have hlen:=Y.ge n
 unfold zbk
 refine zdp (d:=d+2) F.keys ho hy Y.nd (by exact leN (lin (@r3 (↑((Od++Ly).length)) _ (↑(m.toNat))) V0 (.num 20) [(0,1,V1,.num 10),(0,1,V0,.add V2 N1),(2,1,V2,V1)] rfl hm' (leI hlen) (tnn (hm)))) fun b J1 hb e1 hbv=>?_
 simp only [zw,zx]
 rw [zD]
 simp only [qh,zcY]
 refine zi fun f J2 hf e2 hfv=>?_
 have e02:=e0.trans (e1.trans e2)
 have hf0:J0 f=none:=(e0.trans e1).none hf
 have h1:f≠o:=(jV (e1 _ _ ho) hf).symm
 have h2:f≠y:=(jV (e1 _ _ hy) hf).symm
 have h3:f≠b:=(jV hbv hf).symm
 refine zcv hm hm' (yd rfl) (fun j Z J'=>X3 fun o8 o9 o10=>A4 (Z=[some (.int m),some (.ref r),some (.ref tp),some (.ref h),some (.ref o),some (.ref y),some (.ref b),some (.ref f),o8,o9,o10,none]) (zhC J0 J' o y b Od Ly) (L J' h m.toNat (fun q=>if q<j then nwh rs t Od Ly g q else g q)) (J' f=some (.dict (dk (jo ((kab j).filter (brh rs t Od Ly)))))))
  ⟨_,_,_,rfl,⟨e02,e2 _ _ (e1 _ _ ho),e2 _ _ (e1 _ _ hy),e2 _ _ hbv⟩,((hh.ext e1).ext e2).cong fun q _=>by rw [if_neg (kcF q)],hfv⟩ ?_ ?_
 ·intro j Z J' K' hj hI5a hK'
  obtain ⟨o8',o9',o10',rfl,tu,hh',hf'⟩:=hI5a
  have hfl:((kab j).filter (brh rs t Od Ly)).length<=j:=by
   have:=kbO (brh rs t Od Ly) (kab j)
   rw [kbg] at this;exact this
  refine zrg (d:=d) F n hr ht hh0 hf0 tu hh' hf' h1 h2 h3 hj (fun h=>by have:=kam.mp (kbi.mp h).1;exact kbe _ ‹_›) (by exact leN (lin r3 V0 (.num 20) [(0,1,V1,.num 10),(1,1,V2,V1),(0,1,V0,V2)] rfl hm' hj (leI hfl))) fun o9'' o10'' J'' tu'' hh'' hf''=>hK' _ _ ⟨_,_,_,rfl,tu'',?_,?_⟩
  ·refine hh''.cong fun q hq=>?_
   by_cases hqj:q=j
   ·subst hqj
    rw [if_pos (ka1 q)]
    unfold nwh
    cases hb:brh rs t Od Ly q with
    | true=>simp only [if_true];rw [zdR]
    | false=>simp
   ·have e:(q<j+1)=(q<j):=propext ⟨fun h=>kcN (kbs h) (by first | assumption | exact Ne.symm ‹_›),kbE⟩
    simp only [e]
    cases hb:brh rs t Od Ly j with
    | true=>simp only [if_true];rw [zpH _ _ hqj]
    | false=>simp
  ·rw [hf'',ka4,ka8]
   cases hb:brh rs t Od Ly j<;>simp [hb]
 ·rintro Z J' ⟨o8',o9',o10',rfl,tu,hh',hf'⟩
  exact hK _ _ _ _ _ _ tu.ext tu.b hf' (hh'.cong fun q hq=>by rw [if_pos hq])
structure zqu(T:TC):Prop where
 N:zqs T
 R:zjH T
 heap:FnW T "heap_of" 3 9 (za7 T)
theorem ziE(F:zqu T){m:Int}{rs:Rd2}{r tp:Addr}{t:List Int}(n:Net m rs)(hr:zS J r rs)(ht:qJ J tp t)(htl:t.length<=100)
  (hq:∀ c g J',J c=none->Ext J J'->yJ m rs t->(∃ lev par,ze5 m rs g (fun j=>(j:Int)∈t) lev par)->L J' c m.toNat g->Q (.ref c) J') (he:∀ J',Ext J J'->¬ yJ m rs t->P 4 J'):zp T (d+5) "heap_of" [.int m,.ref r,.ref tp] J Q P:=by
 have hm:=n.m0;have hm':=n.m10
 refine F.heap (d+4) _ _ _ _ rfl ?_
 unfold za7
 simp only [jD,zL,zC,zM,zu,qd,qf,qc,zj,zk]
 refine z8 (d:=d+1) F.N.N n hr fun J1 e1=>?_
 refine zfI (d:=d+2) F.N n (hr.ext e1) (ht.ext e1) htl (fun J2 e2 ok=>?_) fun J2 e2 h=>he J2 (e1.trans e2) h
 refine zty hm hm' (yd rfl) fun h J3 hh e3 hhl=>?_
 simp only [zw,zx]
 have e02:=e1.trans e2
 unfold zeK
 rw [zD]
 simp only [qh,zcY]
 refine zi fun o J4 ho e4 hov=>?_
 simp only [zw,zx]
 rw [zD]
 simp only [qh,zaW,z1,zu,zj,zk,ze]
 refine zi fun y J5 hy e5 hyv=>?_
 have e35:=e4.trans e5
 have hr2:=hr.ext e02
 have ht2:=ht.ext e02
 refine zhJ (fun k Z J'=>X13 fun i Od Ly lev par g o y o6 o7 o8 o9 o10=>A10 (Z=[some (.int m),some (.ref r),some (.ref tp),some (.ref h),some (.ref o),some (.ref y),o6,o7,o8,o9,o10,none]) (Ext J2 J') (J' o=some (.dict (dk Od))) (J' y=some (.dict (dk Ly))) (L J' h m.toNat g) (Lay m rs g i Od Ly lev par) (Unj m rs t Od Ly) ((∀ p:Nat,(p:Int)<m->lev p<=i->((par p:Nat):Int)∈t)) (m∈Od++Ly) (k=2*(m.toNat+1 - (Od++Ly).length)+if Ly=[] then 0 else 1)) _
  ⟨0,[],[m],_,_,_,o,y,_,_,_,_,_,rfl,e3.trans e35,e5 _ _ hov,hyv,hhl.ext e35,Lay.start _ hm,fun p hp _ _ j hj=>?_,fun p hp hl=>?_,kac.mpr rfl,rfl⟩ ?_
 ·obtain ⟨e,_,_,hs⟩:=zft.mp hj
  exact absurd (of_decide_eq_true hs) kay
 ·rw [if_neg (by exact (fun h_=>lif r2 [(1,1,V0,V1),(2,-1,V0,V1)] rfl hp h_))] at hl;exact lif (@r1 0) [(0,1,N1,N0)] rfl (leI hl)
 intro k Z J' K' hI4a hK'
 obtain ⟨i,Od,Ly,lev,par,g,o',y',o6,o7,o8,o9,o10,rfl,e',ho',hy',hh',Y,U,hpar,hmO,rfl⟩:=hI4a
 have hge:=Y.ge n
 simp only [qA,jw,z1,zu,zj,zk,zg,ze]
 refine zcf hy' ?_
 rw [wl]
 by_cases hl:Ly=[]
 ·subst hl
  rw [ka5] at hmO
  exact hq h g J' (e02.none hh) (e02.trans e') ok (Y.endh n ok U hmO hpar) hh'
 ·have hpos:(0:Int)<(Ly.length:Int):=by
   have:Ly.length≠0:=fun h=>hl (kaz h)
   exact (zaG ((nnI _)) (Ne.symm this))
  refine zZ (decide_eq_true hpos) ?_
  refine zrf (d:=d+1) F.R n Y hr2 ht2 hh e' ho' hy' hh' fun b f o8' o9' o10' J'' e'' hb hf hh''=>?_
  obtain ⟨Y',U',hpar'⟩:=Y.join n U hpar
  have hge':=Y'.ge n
  refine hK' _ _ (2*(m.toNat+1 - ((Od++Ly)++jo (zkX m rs t Od Ly)).length)+if jo (zkX m rs t Od Ly)=[] then 0 else 1) ?_ ⟨i+1,Od++Ly,jo (zkX m rs t Od Ly),_,_,_,b,f,_,_,_,_,_,rfl,e'',hb,hf,hh'',Y',U',hpar',kaZ _ hmO,rfl⟩
  rw [if_neg hl,kas,qK]
  rw [kas,qK] at hge'
  by_cases hz:jo (zkX m rs t Od Ly)=[]
  ·rw [if_pos hz];exact ztB
  ·rw [if_neg hz]
   have:(zkX m rs t Od Ly).length≠0:=fun h=>hz (kaz (by rw [qK];exact h))
   exact ztA hge' this
end
end Mine
end
section
open PySem
namespace Mine
structure Mt(m:Int)(R:Rd2)(ks:List Int):Prop where
 nd:ks.Nodup
 pit:m∈ks
 rng:∀ k∈ks,0<=k/\k<=m
 reach:∀ k∈ks,yz R m k
theorem Mt.le{m:Int}{R:Rd2}{ks:List Int}(M:Mt m R ks):(ks.length:Int)<=m+1:=by
 have h0:=M.rng m M.pit
 have:=yR m.toNat ks M.nd fun k hk=>by have:=M.rng k hk;exact ⟨this.1,lin r3 V0 V1 [(0,1,V0,V2),(2,-1,V1,V2)] rfl this.2 (tnn (h0.1))⟩
 exact lin (@r3 (↑(ks.length)) _ (↑(m.toNat))) V0 (.add V1 N1) [(0,1,V0,.add V2 N1),(2,1,V2,V1)] rfl (leI this) (tnn (h0.1))
section
variable {T:TC} {d:Nat} {J:zc} {Q:V->zc->Prop} {P:Nat->zc->Prop}
end
end Mine
end
section
open PySem
namespace Mine
theorem ze5.congr{m:Int}{rs:Rd2}{g g':Nat->Int}{τ lev par}(C:ze5 m rs g τ lev par)(h:∀ p:Nat,(p:Int)<m->g p=g' p):ze5 m rs g' τ lev par :=
 ⟨C.l0,C.lp,C.mem,fun p hp=>let ⟨k,h1,h2⟩:=C.val p hp;⟨k,h1,(h p hp).symm.trans h2⟩⟩
theorem zrD.congr{m:Int}{rs:Rd2}{g g':Nat->Int}{t:List Int}(h:zrD m rs g t)(e:∀ p:Nat,(p:Int)<m->g p=g' p):zrD m rs g' t :=
 ⟨h.len,h.up,h.rng,let ⟨lev,par,C⟩:=h.corr;⟨lev,par,C.congr e⟩⟩
section
variable {T:TC} {d:Nat} {J:zc} {Q:V->zc->Prop} {P:Nat->zc->Prop}
end
end Mine
end
section
open PySem
namespace Mine
section
variable {T:TC} {d:Nat} {J:zc} {Q:V->zc->Prop} {P:Nat->zc->Prop}
end
section
variable {Z:zK} {J:zc} {Q:V->zc->Prop} {P:Nat->zc->Prop}
theorem zmy(a:EW):zdD a Z J Q P=a Z J (fun v J1=>v.asRef fun p=>zaI J1 p fun xs=>yT (.tup xs) J1 Q) P:=rfl
end
def zhE(J:zc)(v:V):Prop:=(∃ b,v=.bool b)\/v=.none\/(∃ x,v=.str x)\/∃ a xs,v=.ref a/\J a=some (.tup xs)
theorem zhE.ext{J J':zc}{v:V}(h:zhE J v)(e:Ext J J'):zhE J' v:=by
 rcases h with h | h | h | ⟨a,xs,rfl,ha⟩
 ·exact .inl h
 ·exact .inr (.inl h)
 ·exact .inr (.inr (.inl h))
 ·exact .inr (.inr (.inr ⟨a,xs,rfl,e _ _ ha⟩))
theorem zhE.not{J:zc}{x:Int}(h:zhE J (.int x)):False:=by
 rcases h with ⟨b,h⟩ | h | ⟨y,h⟩ | ⟨a,xs,h,_⟩<;>cases h
def zrY(J:zc)(v:V):Prop:=(∃ x,v=.int x)\/zhE J v
theorem zrY.ext{J J':zc}{v:V}(h:zrY J v)(e:Ext J J'):zrY J' v:=h.imp id fun h=>h.ext e
theorem zpG{J:zc}{v:V}{n:Int}(h:zhE J v):wi n v=false:=by
 rcases h with ⟨b,rfl⟩ | rfl | ⟨y,rfl⟩ | ⟨a,xs,rfl,_⟩<;>rfl
def zik(J:zc)(tp:Addr):Prop:=(∃ xs,J tp=some (.tup xs))\/∃ vs,J tp=some (.list vs)/\vs.length<=100/\(∀ v∈vs,zrY J v)/\∃ v∈vs,zhE J v
theorem zik.ext{J J':zc}{tp:Addr}(h:zik J tp)(e:Ext J J'):zik J' tp:=by
 rcases h with ⟨xs,h⟩ | ⟨vs,h,hl,hi,v,hv,ho⟩
 ·exact .inl ⟨xs,e _ _ h⟩
 ·exact .inr ⟨vs,e _ _ h,hl,fun v hv=>(hi v hv).ext e,v,hv,ho.ext e⟩
section
variable {T:TC} {d:Nat} {J:zc} {Q:V->zc->Prop} {P:Nat->zc->Prop}
theorem zbo(h:FnW T "is_within" 3 0 (qF T)){a:Addr}{lo hi:Int}(hk:∀ k:Bool->Prop,k false->isi .int J (.ref a) k)(hq:Q (.bool false) J):zp T (d+1) "is_within" [.ref a,.int lo,.int hi] J Q P:=by
 refine h d _ _ _ _ rfl ?_
 unfold qF
 simp only [jQ,zam,zdc,zu,qd,qf,qc,zj,zk]
 exact hk _ hq
theorem zhh(h:FnW T "is_within" 3 0 (qF T)){v:V}{lo hi:Int}(hv:zhE J v)(hq:Q (.bool false) J):zp T (d+1) "is_within" [v,.int lo,.int hi] J Q P:=by
 rcases hv with ⟨b,rfl⟩ | rfl | ⟨x,rfl⟩ | ⟨a,xs,rfl,ha⟩
 ·exact h d _ _ _ _ rfl hq
 ·exact h d _ _ _ _ rfl hq
 ·exact h d _ _ _ _ rfl hq
 ·exact zbo h (fun _ hk=>zdI ha hk) hq
theorem zhd(F:zqs T){m:Int}{rs:Rd2}{r tp:Addr}(hr:zS J r rs)(h:zik J tp)(he:∀ J',Ext J J'->P 4 J'):zp T (d+2) "need_tree" [.int m,.ref r,.ref tp] J Q P:=by
 obtain ⟨rv,hr1,hr2⟩:=id hr
 refine F.need (d+1) _ _ _ _ rfl ?_
 unfold yk
 rw [zD]
 simp only [qr,zej,wK,zaU,zdc,zu,qd,qf,qc,zj,zk]
 rcases h with ⟨xs,ht⟩ | ⟨vs,ht,hl,hi,w,hw,hodd⟩
 ·exact zdI ht (he _ Ext.refl)
 ·refine zdJ ht ?_
  simp only [zn,kbj,kak,if_false,qA,jw,zu,zj,zk,zg]
  refine qa ht ?_
  by_cases hlm:(vs.length:Int)=m
  ·refine zQ (by rw [hlm];exact bne_self_eq_false _) ?_
   simp only [qQ]
   rw [zD]
   simp only [qr,zej,wK,zaU]
   refine zbC (wi ((rs.length:Int) - 1)) ht (kai hl (by decide)) rfl (fun u K hu hK=>?_) fun J1 e1=>?_
   ·simp only [zx,zw,zL,zC,zM,yK,jw,z1,zu,zj,zk,zg]
    refine qa hr1 ?_
    rw [hr2.length]
    rcases hi u hu with ⟨x,rfl⟩ | ho
    ·exact wN (d:=d) F.N.within hK
    ·rw [zpG ho] at hK
     exact zhh (d:=d) F.N.within ho hK
   ·have hall:vs.all (wi ((rs.length:Int) - 1))=false:=List.all_eq_false.mpr ⟨w,hw,by rw [zpG hodd];exact kan⟩
    rw [hall]
    exact he _ e1
  ·refine zZ (bne_iff_ne.mpr hlm) ?_
   exact he _ Ext.refl
theorem zkc(F:zqu T){m:Int}{rs:Rd2}{r tp:Addr}(n:Net m rs)(hr:zS J r rs)(h:zik J tp)(he:∀ J',Ext J J'->P 4 J'):zp T (d+5) "heap_of" [.int m,.ref r,.ref tp] J Q P:=by
 refine F.heap (d+4) _ _ _ _ rfl ?_
 unfold za7
 refine z8 (d:=d+1) F.N.N n hr fun J1 e1=>?_
 exact zhd (d:=d+2) F.N (hr.ext e1) (h.ext e1) fun J2 e2=>he J2 (e1.trans e2)
end
end Mine
end
section
open PySem
namespace Mine
section
variable {T:TC} {d:Nat} {J:zc} {Q:V->zc->Prop} {P:Nat->zc->Prop}
structure zni(T:TC):Prop where
 N:wT T
 D:zdO T
 table:FnW T "table_of" 2 5 (wG T)
 many:FnW T "how_many" 2 0 (zbu T)
theorem zhi(F:zni T){m:Int}{r:Addr}{rs:Rd2}(n:Net m rs)(hr:zS J r rs)(hq:∀ J',Ext J J'->Q (.int (D m rs)) J'):zp T (d+5) "how_many" [.int m,.ref r] J Q P:=by
 refine F.many (d+4) _ _ _ _ rfl ?_
 unfold zbu
 refine z8 (d:=d+1) F.N n hr fun J1 e1=>?_
 refine yc (d:=d+3) F.table n (hr.ext e1) fun a as J2 e2 ht nd _ _=>?_
 exact zcq (d:=d+2) F.D n ht fun J3 e3=>hq J3 (e1.trans (e2.trans e3))
end
inductive wU(J:zc):V->Prop
 | none:wU J .none
 | bool (b):wU J (.bool b)
 | int (i):wU J (.int i)
 | str (x):wU J (.str x)
 | list {a xs}:J a=some (.list xs)->wU J (.ref a)
 | tup {a xs}:J a=some (.tup xs)->wU J (.ref a)
 | dict {a xs}:J a=some (.dict xs)->wU J (.ref a)
theorem wU.ext{J J':zc}{v:V}(h:wU J v)(e:Ext J J'):wU J' v:=by
 cases h with
 | none=>exact .none
 | bool b=>exact .bool b
 | int i=>exact .int i
 | str x=>exact .str x
 | list h=>exact .list (e _ _ h)
 | tup h=>exact .tup (e _ _ h)
 | dict h=>exact .dict (e _ _ h)
noncomputable def wi2(lo hi:Int):V->Bool
 | .int x=>decide (lo<=x/\x<=hi)
 | _=>false
structure Arg(J:zc)(v:V):Prop where
 any:wU J v
 items:∀ a vs,v=.ref a->J a=some (.list vs)->vs.length<=1000/\∀ u∈vs,wU J u
theorem Arg.ext{J J':zc}{v:V}(h:Arg J v)(e:Ext J J'):Arg J' v:=by
 refine ⟨h.any.ext e,fun a vs hv ha=>?_⟩
 have hb:=h.any
 cases hb with
 | list h1 =>
  cases hv
  have:=e _ _ h1
  rw [ha] at this
  cases this
  obtain ⟨h2,h3⟩:=h.items _ _ rfl h1
  exact ⟨h2,fun u hu=>(h3 u hu).ext e⟩
 | tup h1=>cases hv;have:=e _ _ h1;rw [ha] at this;cases this
 | dict h1=>cases hv;have:=e _ _ h1;rw [ha] at this;cases this
 | _=>cases hv
section
variable {T:TC} {d:Nat} {J:zc} {Q:V->zc->Prop} {P:Nat->zc->Prop}
theorem yE(h:FnW T "is_within" 3 0 (qF T)){v:V}{lo hi:Int}(hv:wU J v)(hq:Q (.bool (wi2 lo hi v)) J):zp T (d+1) "is_within" [v,.int lo,.int hi] J Q P:=by
 cases hv with
 | int i=>exact wN h hq
 | none=>exact h d _ _ _ _ rfl hq
 | bool b=>exact h d _ _ _ _ rfl hq
 | str x=>exact h d _ _ _ _ rfl hq
 | list ha=>exact zbo h (fun _ hk=>zdJ ha hk) hq
 | tup ha=>exact zbo h (fun _ hk=>zdI ha hk) hq
 | dict ha=>exact zbo h (fun _ hk=>zhg ha hk) hq
inductive HpG(J:zc)(m:Int)(v:V):Prop
 | mk (a:Addr) (vs:List V) (e:v=.ref a) (h:J a=some (.list vs)) (l:(vs.length:Int)=m) (w:vs.all (wi2 0 1000000000)=true):HpG J m v
theorem zcH(hw:FnW T "is_within" 3 0 (qF T))(h:FnW T "need_heap" 2 1 (ya T)){m:Int}{v:V}(hv:Arg J v)
  (hq:HpG J m v->∀ J',Ext J J'->Q .none J') (he:¬ HpG J m v->∀ J',Ext J J'->P 2 J'):zp T (d+2) "need_heap" [.int m,v] J Q P:=by
 refine h (d+1) _ _ _ _ rfl ?_
 unfold ya
 have no:(∀ a vs,v=.ref a->¬ J a=some (.list vs))->P 2 J:=fun h=>he (fun g=>by obtain ⟨a,vs,e,hh,_⟩:=g;exact h a vs e hh) J .refl
 simp only [zD,qr,zej,wK,zaU,zdc,zu,qd,qf,qc,zj,zk]
 have hb:=hv.any
 cases hb with
 | none =>
  exact no fun a vs e=>by cases e
 | bool b =>
  exact no fun a vs e=>by cases e
 | int i =>
  exact no fun a vs e=>by cases e
 | str x =>
  exact no fun a vs e=>by cases e
 | tup ha =>
  refine zdI ha ?_
  exact no fun a vs e=>by cases e;rw [ha];intro h;cases h
 | dict ha =>
  refine zhg ha ?_
  exact no fun a vs e=>by cases e;rw [ha];intro h;cases h
 | @list a vs ha =>
  obtain ⟨hl,hi⟩:=hv.items a vs rfl ha
  refine zdJ ha ?_
  simp only [zn,kbj,kak,if_false,qA,jw,zu,zj,zk,zg]
  refine qa ha ?_
  have uq:HpG J m (.ref a)->(vs.length:Int)=m/\vs.all (wi2 0 1000000000)=true:=fun g=>by
   obtain ⟨a',vs',e,h',l,w⟩:=g
   cases e
   rw [ha] at h'
   cases h'
   exact ⟨l,w⟩
  by_cases hlm:(vs.length:Int)=m
  ·refine zQ (by rw [hlm];exact bne_self_eq_false _) ?_
   simp only [qQ,qr,wK,zaU]
   refine zbC (wi2 0 1000000000) ha hl rfl (fun u K hu hK=>?_) fun J1 e1=>?_
   ·exact yE hw (hi u hu) hK
   ·cases hall:vs.all (wi2 0 1000000000) with
    | true =>
     exact hq ⟨a,vs,rfl,ha,hlm,hall⟩ J1 e1
    | false =>
     exact he (fun g=>by have:=(uq g).2;rw [hall] at this;cases this) J1 e1
  ·refine zZ (bne_iff_ne.mpr hlm) ?_
   exact he (fun g=>hlm (uq g).1) J .refl
end
end Mine
end
section
open PySem
namespace Mine
theorem zd6{lo hi:Int}{v:V}(h:wi2 lo hi v=true):∃ x,v=.int x/\lo<=x/\x<=hi:=by
 cases v with
 | int x=>exact ⟨x,rfl,of_decide_eq_true h⟩
 | _=>cases h
structure zcy(J:zc)(v:V):Prop where
 any:wU J v
 items:∀ a xs,v=.ref a->J a=some (.tup xs)->∀ u∈xs,wU J u
theorem zcy.ext{J J':zc}{v:V}(h:zcy J v)(e:Ext J J'):zcy J' v:=by
 refine ⟨h.any.ext e,fun a xs hv ha u hu=>?_⟩
 have hb:=h.any
 cases hb with
 | tup h1 =>
  cases hv
  have:=e _ _ h1
  rw [ha] at this
  cases this
  exact (h.items _ _ rfl h1 u hu).ext e
 | list h1=>cases hv;have:=e _ _ h1;rw [ha] at this;cases this
 | dict h1=>cases hv;have:=e _ _ h1;rw [ha] at this;cases this
 | _=>cases hv
inductive RdG(J:zc)(m:Int)(v:V):Prop
 | mk (a:Addr) (x y:Int) (e:v=.ref a) (h:J a=some (.tup [.int x,.int y])) (ok:(0<=x/\x<=m)/\(0<=y/\y<=m)/\x≠y):RdG J m v
noncomputable def rdB(J:zc)(m:Int)(v:V):Bool:=@decide (RdG J m v) (kc2 _)
theorem zge{J m v}:rdB J m v=true ↔ RdG J m v:=@decide_eq_true_iff _ (kc2 _)
section
variable {T:TC} {d:Nat} {J:zc} {Q:V->zc->Prop} {P:Nat->zc->Prop}
theorem zkb(hw:FnW T "is_within" 3 0 (qF T))(h:FnW T "is_road" 2 0 (za6 T)){m:Int}{v:V}(hv:zcy J v)(hq:Q (.bool (rdB J m v)) J):zp T (d+2) "is_road" [.int m,v] J Q P:=by
 refine h (d+1) _ _ _ _ rfl ?_
 have fls:¬ RdG J m v->Q (.bool false) J:=fun hn=>by rwa [show rdB J m v=false from by rw [kct];exact fun h=>hn (zge.mp h)] at hq
 have no:(∀ a xs,v=.ref a->¬ J a=some (.tup xs))->Q (.bool false) J:=fun hn=>fls fun g=>by
  obtain ⟨a,x,y,e,hh,_⟩:=g
  exact hn a _ e hh
 unfold za6
 simp only [zD,qr,zej,wK,zaU,zdc,zu,qd,qf,qc,zj,zk]
 have hb:=hv.any
 cases hb with
 | none =>
  exact no fun a vs e=>by cases e
 | bool b =>
  exact no fun a vs e=>by cases e
 | int i =>
  exact no fun a vs e=>by cases e
 | str x =>
  exact no fun a vs e=>by cases e
 | list ha =>
  refine zdJ ha ?_
  exact no fun a vs e=>by cases e;rw [ha];intro h;cases h
 | dict ha =>
  refine zhg ha ?_
  exact no fun a vs e=>by cases e;rw [ha];intro h;cases h
 | @tup a xs ha =>
  have hi:=hv.items a xs rfl ha
  have uq:RdG J m (.ref a)->∃ x y,xs=[.int x,.int y]/\(0<=x/\x<=m)/\(0<=y/\y<=m)/\x≠y:=fun g=>by
   obtain ⟨a',x,y,e,h',ok⟩:=g
   cases e
   rw [ha] at h'
   cases h'
   exact ⟨x,y,rfl,ok⟩
  refine zdI ha ?_
  simp only [zn,kbj,kak,if_false,qA,jw,zu,zj,zk,zg]
  refine zpv ha ?_
  by_cases hl:(xs.length:Int)=2
  ·refine zQ (by rw [hl];rfl) ?_
   obtain ⟨u,w,rfl⟩:∃ u w,xs=[u,w]:=by
    cases xs with
    | nil=>cases hl
    | cons u xs=>cases xs with
     | nil=>cases hl
     | cons w xs=>cases xs with
      | nil=>exact ⟨u,w,rfl⟩
      | cons z xs=>simp only [kaj] at hl;exact lif (@r1 (↑(xs.length))) [(2,1,.add (.add (.add V0 N1) N1) N1,.num 2),(0,1,N0,V0)] rfl hl (nnI _)
   refine ⟨kaW _,jS ha (qq (i:=0) rfl ?_)⟩
   refine yE hw (hi u (kaG ..)) ?_
   cases h1:wi2 0 m u with
   | false =>
    exact fls fun g=>by obtain ⟨x,y,e,ok⟩:=uq g;cases e;rw [show wi2 0 m (.int x)=true from decide_eq_true ok.1] at h1;cases h1
   | true =>
    simp only [zn,if_true]
    refine ⟨by decide,jS ha (qq (i:=1) rfl ?_)⟩
    refine yE hw (hi w (kar _ (kaG ..))) ?_
    cases h2:wi2 0 m w with
    | false =>
     exact fls fun g=>by obtain ⟨x,y,e,ok⟩:=uq g;cases e;rw [show wi2 0 m (.int y)=true from decide_eq_true ok.2.1] at h2;cases h2
    | true =>
     obtain ⟨x,rfl,hx⟩:=zd6 h1
     obtain ⟨y,rfl,hy⟩:=zd6 h2
     refine ⟨kaW _,jS ha (qq (i:=0) rfl ⟨by decide,jS ha (qq (i:=1) rfl ?_)⟩)⟩
     show Q (.bool (x != y)) J
     rw [show (x != y)=rdB J m (.ref a) from ?_]
     ·exact hq
     rw [ka6,zge,bne_iff_ne]
     exact ⟨fun hne=>⟨a,x,y,rfl,ha,hx,hy,hne⟩,fun g=>by obtain ⟨x',y',e,ok⟩:=uq g;cases e;exact ok.2.2⟩
  ·refine zZ (bne_iff_ne.mpr hl) ?_
   exact fls fun g=>by obtain ⟨x,y,e,_⟩:=uq g;exact hl (by rw [e];rfl)
structure qW(J:zc)(vm vr:V):Prop where
 m:wU J vm
 r:wU J vr
 items:∀ a vs,vr=.ref a->J a=some (.list vs)->vs.length<=1000/\∀ u∈vs,zcy J u
theorem qW.ext{J J':zc}{vm vr:V}(h:qW J vm vr)(e:Ext J J'):qW J' vm vr:=by
 refine ⟨h.m.ext e,h.r.ext e,fun a vs hv ha=>?_⟩
 have hb:=h.r
 cases hb with
 | list h1 =>
  cases hv
  have:=e _ _ h1
  rw [ha] at this
  cases this
  obtain ⟨h2,h3⟩:=h.items _ _ rfl h1
  exact ⟨h2,fun u hu=>(h3 u hu).ext e⟩
 | tup h1=>cases hv;have:=e _ _ h1;rw [ha] at this;cases this
 | dict h1=>cases hv;have:=e _ _ h1;rw [ha] at this;cases this
 | _=>cases hv
inductive jU(J:zc)(vm vr:V):Prop
 | mk (m:Int) (r:Addr) (rs:Rd2) (em:vm=.int m) (er:vr=.ref r) (hr:zS J r rs) (n:Net m rs):jU J vm vr
theorem Prs.uniq{vs:List V}{rs rs':Rd2}(h:Prs J vs rs)(h':Prs J vs rs'):rs=rs':=by
 induction h generalizing rs' with
 | nil=>cases h';rfl
 | cons h1 _ ih =>
  cases h' with
  | cons h2 h3 =>
   rw [h1] at h2
   cases h2
   rw [ih h3]
theorem zsi{m:Int}:∀ {vs:List V},vs.all (rdB J m)=true->∃ rs,Prs J vs rs/\∀ p∈rs,(0<=p.1/\p.1<=m)/\(0<=p.2/\p.2<=m)/\p.1≠p.2:=by
 intro vs
 induction vs with
 | nil=>exact fun _=>⟨[],.nil,fun p hp=>by cases hp⟩
 | cons v vs ih =>
  intro h
  rw [kdT,kaJ] at h
  obtain ⟨a,x,y,rfl,ha,ok⟩:=zge.mp h.1
  obtain ⟨rs,h1,h2⟩:=ih h.2
  refine ⟨(x,y)::rs,.cons ha h1,fun p hp=>?_⟩
  rcases kad.mp hp with rfl | hp
  ·exact ok
  ·exact h2 p hp
theorem zdn(F:NetF T)(h:FnW T "need_net" 2 1 (yr T)){vm vr:V}(hv:qW J vm vr)
  (hq:jU J vm vr->∀ J',Ext J J'->Q .none J') (he:¬ jU J vm vr->∀ J',Ext J J'->P 1 J'):zp T (d+3) "need_net" [vm,vr] J Q P:=by
 refine h (d+2) _ _ _ _ rfl ?_
 unfold yr
 simp only [zD,qr,zej,wK,zaU,zL,zC,zM,z1,zu,qd,qf,qc,zj,zk]
 refine yE (d:=d+1) F.within hv.m ?_
 simp only [zn]
 cases hwm:wi2 0 10 vm with
 | false =>
  exact he (fun g=>by obtain ⟨m,r,rs,rfl,_,_,n⟩:=g;rw [show wi2 0 10 (.int m)=true from decide_eq_true ⟨n.m0,n.m10⟩] at hwm;cases hwm) J .refl
 | true =>
  obtain ⟨m,rfl,hm,hm'⟩:=zd6 hwm
  simp only [kbj,kak,if_false,zdc,zu,zj,zk]
  have no:(∀ a vs,vr=.ref a->¬ J a=some (.list vs))->P 1 J:=fun hn=>he (fun g=>by
   obtain ⟨m',r,rs,_,er,⟨vs,h1,_⟩,_⟩:=g
   exact hn r vs er h1) J .refl
  have hb:=hv.r
  cases hb with
  | none =>
   exact no fun a vs e=>by cases e
  | bool b =>
   exact no fun a vs e=>by cases e
  | int i =>
   exact no fun a vs e=>by cases e
  | str x =>
   exact no fun a vs e=>by cases e
  | tup ha =>
   refine zdI ha ?_
   exact no fun a vs e=>by cases e;rw [ha];intro h;cases h
  | dict ha =>
   refine zhg ha ?_
   exact no fun a vs e=>by cases e;rw [ha];intro h;cases h
  | @list r vs ha =>
   obtain ⟨hl,hi⟩:=hv.items r vs rfl ha
   have uq:jU J (.int m) (.ref r)->∃ rs,Prs J vs rs/\Net m rs:=fun g=>by
    obtain ⟨m',r',rs,em,er,⟨vs',h1,h2⟩,n⟩:=g
    cases em;cases er
    rw [ha] at h1
    cases h1
    exact ⟨rs,h2,n⟩
   refine zdJ ha ?_
   simp only [zn,kbj,kak,if_false,qA,jw,zu,zj,zk,zg]
   refine qa ha ?_
   by_cases h40:(vs.length:Int)>40
   ·refine zZ (decide_eq_true h40) ?_
    exact he (fun g=>by obtain ⟨rs,h2,n⟩:=uq g;have:=n.len;have:=h2.length;exact lif r2 [(1,1,.num 40,V0),(0,1,V1,.num 40),(2,1,V0,V1)] rfl h40 (leI ‹_›) (eqI this)) J .refl
   ·refine zQ (decide_eq_false h40) ?_
    simp only [qQ,qr,zej,wK,zaU]
    refine zbC (rdB J m) ha hl rfl (fun u K hu hK=>?_) fun J1 e1=>?_
    ·exact zkb (d:=d) F.within F.road (hi u hu) hK
    ·cases hall:vs.all (rdB J m) with
     | false =>
      refine he (fun g=>?_) J1 e1
      obtain ⟨rs,h2,n⟩:=uq g
      have:vs.all (rdB J m)=true:=by
       rw [kaX]
       intro u hu
       obtain ⟨i,hi',rfl⟩:=kaO hu
       obtain ⟨t,x,y,e,hrs,ht⟩:=h2.get (kae hi')
       rw [zge,e]
       exact ⟨t,x,y,rfl,ht,n.ends _ (kao hrs)⟩
      rw [hall] at this;cases this
     | true =>
      obtain ⟨rs,hp,hok⟩:=zsi hall
      have hr1:zS J1 r rs:=⟨vs,e1 _ _ ha,hp.ext e1⟩
      refine zdB (d:=d+1) F.come hm hm' hr1 (fun p hp=>⟨(hok p hp).1,(hok p hp).2.1⟩) fun f J2 ks e2 hf hfd hco hcl=>?_
      simp only [zg,q9,z1,zu,zj,zk,ze]
      refine zcf hfd ?_
      rw [wl]
      have e12:=e1.trans e2
      by_cases hk:(ks.length:Int)=m+1
      ·refine zQ (by rw [hk];exact bne_self_eq_false _) ?_
       refine hq ⟨m,r,rs,rfl,rfl,⟨vs,ha,hp⟩,hm,hm',by have:=hp.length;exact leN (lin r2 V0 (.num 40) [(4,1,.num 40,V1),(2,-1,V1,V0)] rfl h40 (eqI this)),hok,fun q h0 hqm=>hco.reach q ?_⟩ J2 e12
       apply kav
       intro hn
       have:=yR m.toNat (q::ks) (kaM.mpr ⟨hn,hco.nd⟩) fun x hx=>by
        rw [tnn hm]
        rcases kad.mp hx with h | h
        ·rw [h];exact ⟨h0,kaA hqm⟩
        ·exact hco.rng x h
       rw [kaj] at this
       exact lif (@r3 (↑(ks.length)) _ (↑(m.toNat))) [(2,-1,V0,.add V1 N1),(0,1,.add V0 N1,.add V2 N1),(2,1,V2,V1)] rfl hk (leI this) (tnn (hm))
      ·refine zZ (bne_iff_ne.mpr hk) ?_
       exact he (fun g=>by
        obtain ⟨rs',h2,n⟩:=uq g
        rw [hp.uniq h2] at hco hcl
        exact hk (n.full hco hcl)) J2 e12
theorem zfK(hw:FnW T "is_within" 3 0 (qF T))(h:FnW T "need_place" 2 0 (yq T)){m:Int}{v:V}(hv:wU J v)(hq:wi2 0 (m - 1) v=true->Q .none J)(he:wi2 0 (m - 1) v=false->P 3 J):zp T (d+2) "need_place" [.int m,v] J Q P:=by
 refine h (d+1) _ _ _ _ rfl ?_
 unfold yq
 simp only [qr,wK,zaU,zL,zC,zM,yK,z1,zu,qd,qf,qc,zj,zk,ze]
 refine yE (d:=d) hw hv ?_
 cases hc:wi2 0 (m - 1) v with
 | true =>
  exact hq hc
 | false =>
  exact he hc
end
theorem HpG.ext{J J':zc}{m:Int}{v:V}(h:HpG J m v)(e:Ext J J'):HpG J' m v:=by
 obtain ⟨a,vs,rfl,h,l,w⟩:=h
 exact ⟨a,vs,rfl,e _ _ h,l,w⟩
theorem HpG.back{J J':zc}{m:Int}{v:V}(hv:Arg J v)(e:Ext J J')(h:HpG J' m v):HpG J m v:=by
 obtain ⟨a,vs,rfl,h,l,w⟩:=h
 have hb:=hv.any
 cases hb with
 | list h1=>have:=e _ _ h1;rw [h] at this;cases this;exact ⟨a,_,rfl,h1,l,w⟩
 | tup h1=>have:=e _ _ h1;rw [h] at this;cases this
 | dict h1=>have:=e _ _ h1;rw [h] at this;cases this
theorem zqx{vs:List V}{hi:Int}(w:vs.all (wi2 0 hi)=true):∃ xs,vs=zs xs/\∀ x∈xs,0<=x/\x<=hi:=by
 induction vs with
 | nil=>exact ⟨[],rfl,fun x hx=>by cases hx⟩
 | cons v vs ih =>
  rw [kdT,kaJ] at w
  obtain ⟨x,rfl,hx⟩:=zd6 w.1
  obtain ⟨xs,rfl,h⟩:=ih w.2
  refine ⟨x::xs,rfl,fun y hy=>?_⟩
  rcases kad.mp hy with rfl | hy
  ·exact hx
  ·exact h y hy
structure F14(T:TC):Prop where
 N:wT T
 net:FnW T "need_net" 2 1 (yr T)
 heap:FnW T "need_heap" 2 1 (ya T)
section
variable {T:TC} {d:Nat} {J:zc} {K:Out->zK->zc->Prop} {P:Nat->zc->Prop}
theorem zcE(F:F14 T){Z:zK}{vm vr:V}{b:SW}(i0:qz Z 0=some vm)(i1:qz Z 1=some vr)(hv:qW J vm vr)(hq:jU J vm vr->∀ J',Ext J J'->b Z J' K P)(he:¬ jU J vm vr->∀ J',Ext J J'->P 1 J') :
  zt (qt (zr T (d+3) "need_net" (zd (loc 0) (zd (loc 1) zv)))) b Z J K P:=by
 simp only [zD,jD,zL,zC,zM,zu,i0,i1]
 exact zdn F.N.toNetF F.net hv hq he
theorem zkC(F:F14 T){Z:zK}{m:Int}{i:Nat}{v:V}{b:SW}(i0:qz Z 0=some (.int m))(i1:qz Z i=some v)(hv:Arg J v)(hq:HpG J m v->∀ J',Ext J J'->b Z J' K P)(he:¬ HpG J m v->∀ J',Ext J J'->P 2 J') :
  zt (qt (zr T (d+3) "need_heap" (zd (loc 0) (zd (loc i) zv)))) b Z J K P:=by
 simp only [zD,jD,zL,zC,zM,zu,i0,i1]
 exact zcH (d:=d+1) F.N.within F.heap hv hq he
theorem zjr(F:F14 T){Z:zK}{vm vr v:V}{b:SW}(i0:qz Z 0=some vm)(i1:qz Z 1=some vr)(i2:qz Z 2=some v)(hn:qW J vm vr)(hv:Arg J v)
  (hb:∀ m,vm=.int m->jU J vm vr->HpG J m v->∀ J',Ext J J'->b Z J' K P)
  (e1:¬ jU J vm vr->∀ J',Ext J J'->P 1 J') (e2:∀ m,vm=.int m->jU J vm vr->¬ HpG J m v->∀ J',Ext J J'->P 2 J') :
  zt (qt (zr T (d+3) "need_net" (zd (loc 0) (zd (loc 1) zv)))) (zt (qt (zr T (d+3) "need_heap" (zd (loc 0) (zd (loc 2) zv)))) b) Z J K P:=by
 refine zcE F i0 i1 hn (fun g J1 x1=>?_) e1
 have g':=g
 obtain ⟨m,r,rs,rfl,_,_,_⟩:=g'
 exact zkC F i0 i2 (hv.ext x1) (fun h J2 x2=>hb m rfl g (h.back hv x1) J2 (x1.trans x2)) fun h J2 x2=>e2 m rfl g (fun h'=>h (h'.ext x1)) J2 (x1.trans x2)
end
end Mine
end
section
open PySem
namespace Mine
theorem HpG.good{J:zc}{m:Int}{v:V}(hm:0<=m)(h:HpG J m v):∃ a g,v=.ref a/\L J a m.toNat g/\qB m g:=by
 obtain ⟨a,vs,rfl,h,l,w⟩:=h
 obtain ⟨xs,rfl,hx⟩:=zqx w
 rw [qb] at l
 have hl:xs.length=m.toNat:=by rw [<-l];rfl
 refine ⟨a,fun i=>xs.getD i 0,rfl,?_,?_⟩
 ·unfold L
  rw [<-hl,<-zsr]
  exact h
 ·have key:∀ i:Nat,(i:Int)<m->0<=xs.getD i 0/\xs.getD i 0<=1000000000:=fun i hi=>by
   have h1:i<xs.length:=by rw [<-l] at hi;exact kaw.mp hi
   rw [kaS,kae h1]
   exact hx _ (kbo h1)
  exact ⟨fun i hi=>(key i hi).1,fun i hi=>(key i hi).2⟩
structure yg(T:TC):Prop where
 F:F14 T
 counts:FnW T "counts_at" 2 3 (qS T)
 degrees:FnW T "degrees" 2 0 (zco T)
 many:zni T
 sum:zjI T
 rest:znh T
 top:zqa T
 again:zk1 T
 led:FnW T "led" 3 0 (zk2 T)
 alk:zqg T
 tow:zp9 T
 towards:FnW T "towards" 4 3 (za1 T)
 tree:zng T
 tpl:zmr T
 ho:zqu T
section
variable {T:TC} {d:Nat} {J:zc} {Q:V->zc->Prop} {P:Nat->zc->Prop} {vm vr v1 v2:V}
structure zr6(J:zc)(vm vr:V)(Q:V->zc->Prop)(P:Nat->zc->Prop):Prop where
 hn:qW J vm vr
 q:jU J vm vr->∀ v J',Ext J J'->Q v J'
 e1:¬ jU J vm vr->∀ J',Ext J J'->P 1 J'
theorem zkh(F:yg T)(A:zr6 J vm vr Q P):zp T (d+8) "degrees" [vm,vr] J Q P:=by
 by_cases g:jU J vm vr
 ·obtain ⟨m,r,rs,rfl,rfl,hr,n⟩:=id g
  exact ziL (d:=d+4) F.F.N F.counts F.degrees n hr fun c J' e _ _=>A.q g _ J' e
 ·exact F.degrees (d+7) _ _ _ _ rfl (zcE (d:=d+4) F.F rfl rfl A.hn (fun g'=>absurd g' g) A.e1)
theorem ziD(F:yg T)(A:zr6 J vm vr Q P):zp T (d+8) "how_many" [vm,vr] J Q P:=by
 by_cases g:jU J vm vr
 ·obtain ⟨m,r,rs,rfl,rfl,hr,n⟩:=id g
  exact zhi (d:=d+3) F.many n hr fun J' e=>A.q g _ J' e
 ·exact F.many.many (d+7) _ _ _ _ rfl (zcE (d:=d+4) F.F rfl rfl A.hn (fun g'=>absurd g' g) A.e1)
theorem zj8(F:yg T)(A:zr6 J vm vr Q P):zp T (d+8) "nothing" [vm,vr] J Q P:=by
 by_cases g:jU J vm vr
 ·obtain ⟨m,r,rs,rfl,rfl,hr,n⟩:=id g
  exact ziA (d:=d+1) F.sum n hr fun re f J' e _ _ _ _=>A.q g _ J' e
 ·exact F.sum.noth (d+7) _ _ _ _ rfl (zcE (d:=d+4) F.F rfl rfl A.hn (fun g'=>absurd g' g) A.e1)
structure zgN(J:zc)(vm vr v1:V)(P:Nat->zc->Prop):Prop where
 hn:qW J vm vr
 h1:Arg J v1
 e1:¬ jU J vm vr->∀ J',Ext J J'->P 1 J'
 e2:∀ m,vm=.int m->jU J vm vr->¬ HpG J m v1->∀ J',Ext J J'->P 2 J'
structure Gd3(J:zc)(vm vr v1:V)(m:Int)(rs:Rd2)(r a:Addr)(g:Nat->Int):Prop where
 em:vm=.int m
 er:vr=.ref r
 e1:v1=.ref a
 n:Net m rs
 hr:zS J r rs
 h:L J a m.toNat g
 hg:qB m g
theorem zp8(F:yg T){f:Str}{b:SW}(A:zgN J vm vr v1 P)
  (good:∀ m rs r a g,Gd3 J vm vr v1 m rs r a g->zp T (d+8) f [.int m,.ref r,.ref a] J Q P)
  (bad:(∀ Z K,qz Z 0=some vm->qz Z 1=some vr->qz Z 2=some v1->zt (qt (zr T (d+4+3) "need_net" (zd (loc 0) (zd (loc 1) zv)))) (zt (qt (zr T (d+4+3) "need_heap" (zd (loc 0) (zd (loc 2) zv)))) b) Z J K P)->zp T (d+8) f [vm,vr,v1] J Q P) :
  zp T (d+8) f [vm,vr,v1] J Q P:=by
 by_cases gg:∃ m,vm=.int m/\jU J vm vr/\HpG J m v1
 ·obtain ⟨m,em,g,h⟩:=gg
  obtain ⟨m',r,rs,rfl,rfl,hr,n⟩:=g
  cases em
  obtain ⟨a,f,rfl,hl,hf⟩:=h.good n.m0
  exact good m rs r a f ⟨rfl,rfl,rfl,n,hr,hl,hf⟩
 ·exact bad fun Z K i0 i1 i2=>zjr F.F i0 i1 i2 A.hn A.h1 (fun m em g h=>absurd ⟨m,em,g,h⟩ gg) A.e1 A.e2
abbrev zqf(J:zc)(vm vr v1:V)(Q:V->zc->Prop):Prop:=∀ m rs r a g,Gd3 J vm vr v1 m rs r a g->∀ v J',Ext J J'->Q v J'
theorem zks(F:yg T)(A:zgN J vm vr v1 P)(q:zqf J vm vr v1 Q):zp T (d+8) "at_rest" [vm,vr,v1] J Q P :=
 zp8 F A (fun m rs r a g G=>ziV (d:=d+4) F.rest G.n G.hr G.h G.hg fun J' e=>q _ _ _ _ _ G _ J' e) fun h=>F.rest.atRest (d+7) _ _ _ _ rfl (h _ _ rfl rfl rfl)
theorem zj6(F:yg T)(A:zgN J vm vr v1 P)(q:zqf J vm vr v1 Q):zp T (d+8) "settled" [vm,vr,v1] J Q P :=
 zp8 F A (fun m rs r a g G=>ziz (d:=d+2) F.top G.n G.hr G.h G.hg fun _ _ _ _ J' e _ _ _ _ _ _ _=>q _ _ _ _ _ G _ J' e) fun h=>F.top.settled (d+7) _ _ _ _ rfl (h _ _ rfl rfl rfl)
theorem zfm(F:yg T)(A:zgN J vm vr v1 P)(q:zqf J vm vr v1 Q):zp T (d+8) "comes_again" [vm,vr,v1] J Q P :=
 zp8 F A (fun m rs r a g G=>zes (d:=d+1) F.again G.n G.hr G.h G.hg fun _ J' e _=>q _ _ _ _ _ G _ J' e) fun h=>F.again.comes (d+7) _ _ _ _ rfl (h _ _ rfl rfl rfl)
theorem zq5(F:yg T)(A:zgN J vm vr v1 P)(q:zqf J vm vr v1 Q):zp T (d+8) "led" [vm,vr,v1] J Q P :=
 zp8 F A (fun m rs r a g G=>zo3 (d:=d+1) F.sum.D F.led G.n G.hr G.h G.hg fun _ _ _ _ J' e _ _ _ _ _ _ _=>q _ _ _ _ _ G _ J' e) fun h=>F.led (d+7) _ _ _ _ rfl (h _ _ rfl rfl rfl)
theorem zjL(F:yg T)(A:zgN J vm vr v1 P)(q:zqf J vm vr v1 Q):zp T (d+8) "undoing" [vm,vr,v1] J Q P :=
 zp8 F A (fun m rs r a g G=>zil (d:=d+1) F.sum G.n G.hr G.h G.hg fun _ _ J' e _ _ _ _=>q _ _ _ _ _ G _ J' e) fun h=>F.sum.undo (d+7) _ _ _ _ rfl (h _ _ rfl rfl rfl)
theorem zjM(F:yg T)(A:zgN J vm vr v1 P)(q:∀ m rs r a g,Gd3 J vm vr v1 m rs r a g->Rec m rs g->∀ v J',Ext J J'->Q v J')(e6:∀ m rs r a g,Gd3 J vm vr v1 m rs r a g->¬ Rec m rs g->∀ J',Ext J J'->P 6 J'):zp T (d+8) "tree_of" [vm,vr,v1] J Q P :=
 zp8 F A (fun m rs r a g G=>zim (d:=d) F.tree G.n G.hr G.h G.hg (fun _ _ J' _ e R _ _=>q _ _ _ _ _ G R _ J' e) fun J' e R=>e6 _ _ _ _ _ G R J' e) fun h=>F.tree.tree (d+7) _ _ _ _ rfl (h _ _ rfl rfl rfl)
theorem zqX(F:yg T){Z:zK}{b:SW}{K:Out->zK->zc->Prop}(i0:qz Z 0=some vm)(i1:qz Z 1=some vr)(i2:qz Z 2=some v1)(i3:qz Z 3=some v2)(A:zgN J vm vr v1 P)(h2:Arg J v2)
  (gg:¬ ∃ m,vm=.int m/\jU J vm vr/\HpG J m v1/\HpG J m v2) (e3:∀ m,vm=.int m->jU J vm vr->HpG J m v1->¬ HpG J m v2->∀ J',Ext J J'->P 2 J') :
  zt (qt (zr T (d+4+3) "need_net" (zd (loc 0) (zd (loc 1) zv)))) (zt (qt (zr T (d+4+3) "need_heap" (zd (loc 0) (zd (loc 2) zv)))) (zt (qt (zr T (d+4+3) "need_heap" (zd (loc 0) (zd (loc 3) zv)))) b)) Z J K P:=by
 refine zjr F.F i0 i1 i2 A.hn A.h1 (fun m em g h J1 x1=>?_) A.e1 A.e2
 have hno:¬ HpG J m v2:=fun h'=>gg ⟨m,em,g,h,h'⟩
 exact zkC F.F (by rw [i0,em]) i3 (h2.ext x1) (fun h'=>absurd (h'.back h2 x1) hno) fun _ J2 x2=>e3 m em g h hno J2 (x1.trans x2)
theorem zsV(F:yg T){f:Str}{b:SW}(A:zgN J vm vr v1 P)(h2:Arg J v2)(e3:∀ m,vm=.int m->jU J vm vr->HpG J m v1->¬ HpG J m v2->∀ J',Ext J J'->P 2 J')
  (good:∀ m rs r a g c k,Gd3 J vm vr v1 m rs r a g->v2=.ref c->L J c m.toNat k->qB m k->zp T (d+8) f [.int m,.ref r,.ref a,.ref c] J Q P)
  (bad:(∀ Z K,qz Z 0=some vm->qz Z 1=some vr->qz Z 2=some v1->qz Z 3=some v2->zt (qt (zr T (d+4+3) "need_net" (zd (loc 0) (zd (loc 1) zv)))) (zt (qt (zr T (d+4+3) "need_heap" (zd (loc 0) (zd (loc 2) zv)))) (zt (qt (zr T (d+4+3) "need_heap" (zd (loc 0) (zd (loc 3) zv)))) b)) Z J K P)->zp T (d+8) f [vm,vr,v1,v2] J Q P) :
  zp T (d+8) f [vm,vr,v1,v2] J Q P:=by
 by_cases gg:∃ m,vm=.int m/\jU J vm vr/\HpG J m v1/\HpG J m v2
 ·obtain ⟨m,em,g,h,h'⟩:=gg
  obtain ⟨m',r,rs,rfl,rfl,hr,n⟩:=g
  cases em
  obtain ⟨a,f,rfl,hl,hf⟩:=h.good n.m0
  obtain ⟨c,k,rfl,hl',hk⟩:=h'.good n.m0
  exact good m rs r a f c k ⟨rfl,rfl,rfl,n,hr,hl,hf⟩ rfl hl' hk
 ·exact bad fun Z K i0 i1 i2 i3=>zqX F i0 i1 i2 i3 A h2 gg e3
theorem zof(F:yg T)(A:zgN J vm vr v1 P)(h2:Arg J v2)(e3:∀ m,vm=.int m->jU J vm vr->HpG J m v1->¬ HpG J m v2->∀ J',Ext J J'->P 2 J')(q:∀ m rs r a g c k,Gd3 J vm vr v1 m rs r a g->v2=.ref c->L J c m.toNat k->qB m k->∀ v J',Ext J J'->Q v J'):zp T (d+8) "alike" [vm,vr,v1,v2] J Q P :=
 zsV F A h2 e3 (fun m rs r a g c k G ec hl hk=>zl2 (d:=d+2) F.alk G.n G.hr G.h hl G.hg hk (fun J' e _=>q _ _ _ _ _ _ _ G ec hl hk _ J' e) fun _ _ J' e _ _ _=>q _ _ _ _ _ _ _ G ec hl hk _ J' e) fun h=>F.alk.alike (d+7) _ _ _ _ rfl (h _ _ rfl rfl rfl rfl)
theorem ziq(F:yg T)(A:zgN J vm vr v1 P)(h2:Arg J v2)(e3:∀ m,vm=.int m->jU J vm vr->HpG J m v1->¬ HpG J m v2->∀ J',Ext J J'->P 2 J')(q:∀ m rs r a g c k,Gd3 J vm vr v1 m rs r a g->v2=.ref c->L J c m.toNat k->qB m k->∀ v J',Ext J J'->Q v J'):zp T (d+8) "together" [vm,vr,v1,v2] J Q P :=
 zsV F A h2 e3 (fun m rs r a g c k G ec hl hk=>zg0 (d:=d+2) F.sum G.n G.hr G.h hl G.hg hk fun _ _ J' e _ _ _=>q _ _ _ _ _ _ _ G ec hl hk _ J' e) fun h=>F.sum.tog (d+7) _ _ _ _ rfl (h _ _ rfl rfl rfl rfl)
theorem zjN(F:yg T)(A:zgN J vm vr v1 P)(h2:Arg J v2)(e3:∀ m,vm=.int m->jU J vm vr->HpG J m v1->¬ HpG J m v2->∀ J',Ext J J'->P 2 J')
  (q:∀ m rs r a g c k,Gd3 J vm vr v1 m rs r a g->v2=.ref c->L J c m.toNat k->qB m k->Rec m rs k->∀ v J',Ext J J'->Q v J') (e6:∀ m rs r a g c k,Gd3 J vm vr v1 m rs r a g->v2=.ref c->L J c m.toNat k->qB m k->¬ Rec m rs k->∀ J',Ext J J'->P 6 J'):zp T (d+8) "towards" [vm,vr,v1,v2] J Q P :=
 zsV F A h2 e3 (fun m rs r a g c k G ec hl hk=>zin (d:=d) F.tow F.towards G.n G.hr G.h hl G.hg hk (fun _ _ J' e _ R _ _ _ _=>q _ _ _ _ _ _ _ G ec hl hk R _ J' e) fun J' e R=>e6 _ _ _ _ _ _ _ G ec hl hk R J' e) fun h=>F.towards (d+7) _ _ _ _ rfl (h _ _ rfl rfl rfl rfl)
end
inductive zaJ(J:zc):V->Prop
 | none:zaJ J .none
 | dict {a xs}:J a=some (.dict xs)->zaJ J (.ref a)
 | bad {a}:zik J a->zaJ J (.ref a)
 | nums {a t}:qJ J a t->t.length<=100->zaJ J (.ref a)
theorem zik.noInts{J:zc}{a:Addr}{t:List Int}(h:zik J a)(h':qJ J a t):False:=by
 unfold qJ at h'
 rcases h with ⟨xs,h⟩ | ⟨vs,h,_,_,v,hv,ho⟩
 ·rw [h'] at h;cases h
 ·rw [h'] at h
  cases h
  obtain ⟨x,_,rfl⟩:=kau.mp hv
  exact ho.not
theorem zqh{t t':List Int}(h:zs t=zs t'):t=t':=List.map_inj_right (fun _ _ e=>V.int.inj e) |>.mp h
section
variable {T:TC} {d:Nat} {J:zc} {Q:V->zc->Prop} {P:Nat->zc->Prop} {vm vr v1 v2 vp vt:V}
theorem zjO(F:yg T)(A:zgN J vm vr v1 P)(hp:wU J vp)
  (e4:∀ m rs r a g,Gd3 J vm vr v1 m rs r a g->wi2 0 (m - 1) vp=false->∀ J',Ext J J'->P 3 J')
  (q:∀ m rs r a g p,Gd3 J vm vr v1 m rs r a g->vp=.int p->0<=p->p<m->z4 rs p.toNat<=g p.toNat->∀ v J',Ext J J'->Q v J')
  (e5:∀ m rs r a g p,Gd3 J vm vr v1 m rs r a g->vp=.int p->0<=p->p<m->g p.toNat<z4 rs p.toNat->∀ J',Ext J J'->P 5 J'):zp T (d+8) "toppled" [vm,vr,v1,vp] J Q P:=by
 by_cases gg:∃ m,vm=.int m/\jU J vm vr/\HpG J m v1
 ·obtain ⟨m,em,g,h⟩:=gg
  obtain ⟨m',r,rs,rfl,rfl,hr,n⟩:=id g
  cases em
  obtain ⟨a,f,rfl,hl,hf⟩:=h.good n.m0
  have G:Gd3 J (.int m) (.ref r) (.ref a) m rs r a f:=⟨rfl,rfl,rfl,n,hr,hl,hf⟩
  cases hw:wi2 0 (m - 1) vp with
  | true =>
   obtain ⟨p,rfl,h0,h1⟩:=zd6 hw
   have h1':p<m:=by exact lit r2 V0 V1 [(0,1,V0,.sub V1 N1)] rfl h1
   exact zio (d:=d+4) F.tpl n hr hl hf (fun _ J' _ _ hd e _ _=>q _ _ _ _ _ p G rfl h0 h1' hd _ J' e) (fun J' _ _ hd e=>e5 _ _ _ _ _ p G rfl h0 h1' hd J' e) fun J' hn _=>absurd ⟨h0,h1'⟩ hn
  | false =>
   refine F.tpl.toppled (d+7) _ _ _ _ rfl (zjr (d:=d+4) F.F rfl rfl rfl A.hn A.h1 (fun m' em _ _ J1 x1=>?_) A.e1 A.e2)
   refine zfK (d:=d+5) F.F.N.within F.tpl.place (hp.ext x1) (fun h=>?_) fun _=>e4 _ _ _ _ _ G hw J1 x1
   rw [hw] at h;cases h
 ·exact F.tpl.toppled (d+7) _ _ _ _ rfl (zjr (d:=d+4) F.F rfl rfl rfl A.hn A.h1 (fun m em g h=>absurd ⟨m,em,g,h⟩ gg) A.e1 A.e2)
theorem zfJ(h:FnW T "need_tree" 3 1 (yk T)){m:Int}{r:Addr}{v:V}(hv:v=.none\/∃ a xs,v=.ref a/\J a=some (.dict xs))(he:P 4 J):zp T (d+2) "need_tree" [.int m,.ref r,v] J Q P:=by
 refine h (d+1) _ _ _ _ rfl ?_
 unfold yk
 simp only [zD,qr,zej,wK,zaU,zdc,zu,qd,qf,qc,zj,zk]
 rcases hv with rfl | ⟨a,xs,rfl,ha⟩
 ·exact he
 ·exact zhg ha he
theorem zkd(F:yg T)(hn:qW J vm vr)(ht:zaJ J vt)(e1:¬ jU J vm vr->∀ J',Ext J J'->P 1 J')
  (e4:∀ m rs r,vm=.int m->vr=.ref r->Net m rs->zS J r rs->(∀ a t,vt=.ref a->qJ J a t->¬ yJ m rs t)->∀ J',Ext J J'->P 4 J')
  (q:∀ m rs r a t,vm=.int m->vr=.ref r->Net m rs->zS J r rs->vt=.ref a->qJ J a t->yJ m rs t->∀ v J',Ext J J'->Q v J'):zp T (d+8) "heap_of" [vm,vr,vt] J Q P:=by
 by_cases g:jU J vm vr
 ·obtain ⟨m,r,rs,rfl,rfl,hr,n⟩:=id g
  have no:(vt=.none\/∃ a xs,vt=.ref a/\J a=some (.dict xs))->zp T (d+8) "heap_of" [.int m,.ref r,vt] J Q P:=fun h=>by
   refine F.ho.heap (d+7) _ _ _ _ rfl (zcE (d:=d+4) F.F rfl rfl hn (fun _ J1 x1=>?_) e1)
   refine zfJ (d:=d+5) F.ho.N.need ?_ (e4 m rs r rfl rfl n hr ?_ J1 x1)
   ·exact h.imp id fun ⟨a,xs,e,ha⟩=>⟨a,xs,e,x1 _ _ ha⟩
   ·intro a t e hi
    unfold qJ at hi
    rcases h with h | ⟨a',xs,h,ha⟩
    ·rw [h] at e;cases e
    ·rw [h] at e;cases e;rw [ha] at hi;cases hi
  cases ht with
  | none=>exact no (.inl rfl)
  | dict ha=>exact no (.inr ⟨_,_,rfl,ha⟩)
  | bad hb=>exact zkc (d:=d+3) F.ho n hr hb (e4 m rs r rfl rfl n hr fun a t e hi=>by cases e;exact (hb.noInts hi).elim)
  | @nums a t hi hl=>exact ziE (d:=d+3) F.ho n hr hi hl (fun _ _ J' _ e ok _ _=>q m rs r a t rfl rfl n hr rfl hi ok _ J' e) fun J' e ok=>e4 m rs r rfl rfl n hr (fun a' t' e' hi'=>by
    cases e'
    unfold qJ at hi hi'
    rw [hi] at hi'
    rwa [<-zqh (O.list.inj (Option.some.inj hi'))]) J' e
 ·exact F.ho.heap (d+7) _ _ _ _ rfl (zcE (d:=d+4) F.F rfl rfl hn (fun g'=>absurd g' g) e1)
end
end Mine
end
section
open PySem
namespace Mine
structure zsY(J:zc)(way:Int)(vm vr v1 v2 vp vt:V)(due:Int):Prop where
 w0:0<=way
 w1:way<=13
 hn:qW J vm vr
 h1:Arg J v1
 h2:Arg J v2
 hp:wU J vp
 ht:zaJ J vt
 e1:¬ jU J vm vr->due=0
 e2:3<=way->way<=12->∀ m,vm=.int m->jU J vm vr->¬ HpG J m v1->due=1
 e3:8<=way->way<=10->∀ m,vm=.int m->jU J vm vr->HpG J m v1->¬ HpG J m v2->due=1
 e4:way=12->∀ m rs r a g,Gd3 J vm vr v1 m rs r a g->wi2 0 (m - 1) vp=false->due=2
 e5:way=13->∀ m rs r,vm=.int m->vr=.ref r->Net m rs->zS J r rs->(∀ a t,vt=.ref a->qJ J a t->¬ yJ m rs t)->due=3
 q2:way<3->jU J vm vr->due=6
 q3:way<8->∀ m rs r a g,Gd3 J vm vr v1 m rs r a g->due=6
 q8:8<=way->way<10->∀ m rs r a g c k,Gd3 J vm vr v1 m rs r a g->v2=.ref c->L J c m.toNat k->qB m k->due=6
 q10:way=10->∀ m rs r a g c k,Gd3 J vm vr v1 m rs r a g->v2=.ref c->L J c m.toNat k->qB m k->(Rec m rs k->due=6)/\(¬ Rec m rs k->due=5)
 q11:way=11->∀ m rs r a g,Gd3 J vm vr v1 m rs r a g->(Rec m rs g->due=6)/\(¬ Rec m rs g->due=5)
 q12:way=12->∀ m rs r a g p,Gd3 J vm vr v1 m rs r a g->vp=.int p->0<=p->p<m->(z4 rs p.toNat<=g p.toNat->due=6)/\(g p.toNat<z4 rs p.toNat->due=4)
 q13:way=13->∀ m rs r a t,vm=.int m->vr=.ref r->Net m rs->zS J r rs->vt=.ref a->qJ J a t->yJ m rs t->due=6
section
variable {T:TC} {d:Nat} {J:zc} {Q:V->zc->Prop} {P:Nat->zc->Prop} {vm vr v1 v2 vp vt:V} {way due:Int}
theorem zah{Z:zK}{w k:Int}{e:EW}{rest:SW}{K:Out->zK->zc->Prop}(h:qz Z 0=some (.int w))(yes:w=k->e Z J (fun v J1=>K (.ret v) Z J1) P)(no:w≠k->rest Z J K P) :
  zt (qy (qk .eq (loc 0) (val (.int k))) (qi e) zP) rest Z J K P:=by
 simp only [zD,qr,qA,zu,z1,h,ze,Cmp.run,zn]
 by_cases hw:w=k
 ·exact zZ (beq_iff_eq.mpr hw) (yes hw)
 ·exact zQ (beq_eq_false_iff_ne.mpr hw) (no hw)
theorem zlW(F:yg T)(h:FnW T "_law_asked" 7 0 (yb T))(H:zsY J way vm vr v1 v2 vp vt due)(hq:due=6->∀ v J',Ext J J'->Q v J')(he:∀ x:Nat,1<=x->x<=6->due=x - 1->∀ J',Ext J J'->P x J') :
  zp T (d+9) "_law_asked" [.int way,vm,vr,v1,v2,vp,vt] J Q P:=by
 refine h (d+8) _ _ _ _ rfl ?_
 have A2:way<3->zr6 J vm vr Q P:=fun hw=>⟨H.hn,fun g=>hq (H.q2 hw g),fun g=>he 1 (by decide) (by decide) (H.e1 g)⟩
 have A3:3<=way->way<=12->zgN J vm vr v1 P:=fun h0 h1=>⟨H.hn,H.h1,fun g=>he 1 (by decide) (by decide) (H.e1 g),fun m em g h=>he 2 (by decide) (by decide) (H.e2 h0 h1 m em g h)⟩
 have q3:way<8->zqf J vm vr v1 Q:=fun hw m rs r a g G=>hq (H.q3 hw m rs r a g G)
 have q8:8<=way->way<10->∀ m rs r a g c k,Gd3 J vm vr v1 m rs r a g->v2=.ref c->L J c m.toNat k->qB m k->∀ v J',Ext J J'->Q v J':=fun h0 h1 m rs r a g c k G ec hl hk=>hq (H.q8 h0 h1 m rs r a g c k G ec hl hk)
 have e3:8<=way->way<=10->∀ m,vm=.int m->jU J vm vr->HpG J m v1->¬ HpG J m v2->∀ J',Ext J J'->P 2 J':=fun h0 h1 m em g h h'=>he 2 (by decide) (by decide) (H.e3 h0 h1 m em g h h')
 unfold yb
 refine zah rfl (fun hw=>zkh F (A2 (by rw [hw];decide))) fun _=>?_
 refine zah rfl (fun hw=>ziD F (A2 (by rw [hw];decide))) fun _=>?_
 refine zah rfl (fun hw=>zj8 F (A2 (by rw [hw];decide))) fun _=>?_
 refine zah rfl (fun hw=>zks F (A3 (by rw [hw];decide) (by rw [hw];decide)) (q3 (by rw [hw];decide))) fun _=>?_
 refine zah rfl (fun hw=>zj6 F (A3 (by rw [hw];decide) (by rw [hw];decide)) (q3 (by rw [hw];decide))) fun _=>?_
 refine zah rfl (fun hw=>zfm F (A3 (by rw [hw];decide) (by rw [hw];decide)) (q3 (by rw [hw];decide))) fun _=>?_
 refine zah rfl (fun hw=>zq5 F (A3 (by rw [hw];decide) (by rw [hw];decide)) (q3 (by rw [hw];decide))) fun _=>?_
 refine zah rfl (fun hw=>zjL F (A3 (by rw [hw];decide) (by rw [hw];decide)) (q3 (by rw [hw];decide))) fun _=>?_
 refine zah rfl (fun hw=>zof F (A3 (by rw [hw];decide) (by rw [hw];decide)) H.h2 (e3 (by rw [hw];decide) (by rw [hw];decide)) (q8 (by rw [hw];decide) (by rw [hw];decide))) fun _=>?_
 refine zah rfl (fun hw=>ziq F (A3 (by rw [hw];decide) (by rw [hw];decide)) H.h2 (e3 (by rw [hw];decide) (by rw [hw];decide)) (q8 (by rw [hw];decide) (by rw [hw];decide))) fun _=>?_
 refine zah rfl (fun hw=>zjN F (A3 (by rw [hw];decide) (by rw [hw];decide)) H.h2 (e3 (by rw [hw];decide) (by rw [hw];decide)) (fun m rs r a g c k G ec hl hk R=>hq ((H.q10 hw m rs r a g c k G ec hl hk).1 R)) fun m rs r a g c k G ec hl hk R=>he 6 (by decide) (by decide) ((H.q10 hw m rs r a g c k G ec hl hk).2 R)) fun _=>?_
 refine zah rfl (fun hw=>zjM F (A3 (by rw [hw];decide) (by rw [hw];decide)) (fun m rs r a g G R=>hq ((H.q11 hw m rs r a g G).1 R)) fun m rs r a g G R=>he 6 (by decide) (by decide) ((H.q11 hw m rs r a g G).2 R)) fun _=>?_
 refine zah rfl (fun hw=>zjO F (A3 (by rw [hw];decide) (by rw [hw];decide)) H.hp (fun m rs r a g G h=>he 3 (by decide) (by decide) (H.e4 hw m rs r a g G h)) (fun m rs r a g p G ep h0 h1 hd=>hq ((H.q12 hw m rs r a g p G ep h0 h1).1 hd)) fun m rs r a g p G ep h0 h1 hd=>he 5 (by decide) (by decide) ((H.q12 hw m rs r a g p G ep h0 h1).2 hd)) fun _=>?_
 have hw:way=13:=by have:=H.w0;have:=H.w1;exact kaH (this) (lin r1 (.num 13) V0 [(1,1,.num 12,V0)] rfl (yN (lin r1 (.num 12) V0 [(1,1,.num 11,V0)] rfl (yN (lin r1 (.num 11) V0 [(1,1,.num 10,V0)] rfl (yN (lin r1 (.num 10) V0 [(1,1,.num 9,V0)] rfl (yN (lin r1 (.num 9) V0 [(1,1,.num 8,V0)] rfl (yN (lin r1 (.num 8) V0 [(1,1,.num 7,V0)] rfl (yN (lin r1 (.num 7) V0 [(1,1,.num 6,V0)] rfl (yN (lin r1 (.num 6) V0 [(1,1,.num 5,V0)] rfl (yN (lin r1 (.num 5) V0 [(1,1,.num 4,V0)] rfl (yN (lin r1 (.num 4) V0 [(1,1,.num 3,V0)] rfl (yN (lin r1 (.num 3) V0 [(1,1,.num 2,V0)] rfl (yN (lin r1 (.num 2) V0 [(1,1,N1,V0)] rfl (yN (lin r1 N1 V0 [(1,1,N0,V0)] rfl (yN (‹_›) (Ne.symm ‹_›))) (Ne.symm ‹_›))) (Ne.symm ‹_›))) (Ne.symm ‹_›))) (Ne.symm ‹_›))) (Ne.symm ‹_›))) (Ne.symm ‹_›))) (Ne.symm ‹_›))) (Ne.symm ‹_›))) (Ne.symm ‹_›))) (Ne.symm ‹_›))) (Ne.symm ‹_›))) (Ne.symm ‹_›)))
 exact zkd F H.hn H.ht (fun g=>he 1 (by decide) (by decide) (H.e1 g)) (fun m rs r em er n hr hb=>he 4 (by decide) (by decide) (H.e5 hw m rs r em er n hr hb)) fun m rs r a t em er n hr et hi ok=>hq (H.q13 hw m rs r a t em er n hr et hi ok)
theorem zs4{Z:zK}{c:Addr}{Q:List V->(zc->Prop)->zc->Prop}(a:EW):zrI c a Z J Q P=a Z J (fun v J1=>v.asRef fun p=>qG J1 p fun xs=>Q xs (fun J=>J p=some (.list xs)/\∃ x,J c=some (.exc x)) J1) P:=rfl
theorem zlK{Z:zK}{i j x:Nat}{a c:Addr}{bs:List Bool}(h:J a=some (.list (bs.map V.bool)))(hl:bs.length<=1000)(hc:J c=some (.exc x))(hi:qz Z i=some (.ref a))(hj:∀ v,qz (jP Z j v) j=some v)
  (hq:∀ c J',Ext J J'->J' c=some (.list ((bs.filter id).map V.bool))->Q (.ref c) J'):qU j (zrI c (loc i)) (some (tst (loc j))) (loc j) Z J Q P:=by
 simp only [yH,zs4,zu,hi,zg]
 refine zI h ⟨by rw [kaK];unfold lim;exact leN (lin r1 V0 (.num 1000000) [(0,1,V0,.num 1000)] rfl (leI hl)),?_⟩
 refine qT (fun k acc J'=>J'=J/\acc=((bs.take k).filter id).map V.bool) ⟨rfl,rfl⟩ ?_ ?_
 ·rintro k v acc J' K' hv ⟨rfl,rfl⟩ hK'
  refine ⟨⟨h,x,hc⟩,?_⟩
  rw [kaP] at hv
  cases hb:bs[k]? with
  | none=>rw [hb] at hv;cases hv
  | some b =>
   rw [hb] at hv
   cases hv
   simp only [j7,zaU,zu,hj,zn]
   cases b with
   | true=>exact hK' _ _ ⟨rfl,by rw [kaN,hb,ka8,ka9];rfl⟩
   | false=>exact hK' _ _ ⟨rfl,by rw [kaN,hb,ka8];simp⟩
 ·rintro acc J' ⟨rfl,rfl⟩
  refine ⟨⟨h,x,hc⟩,zi fun c J1 hc e1 hcv=>hq c J1 e1 ?_⟩
  rw [hcv,kaK,kba]
noncomputable def zol(x:Nat):List Bool:=[zfy x 1,zfy x 2,zfy x 3,zfy x 4]++[zfy x 5,zfy x 6]
theorem zkK:∀ x:Nat,1<=x->x<=6->(zol x)[x - 1]?=some true/\(∀ m:Nat,m<x - 1->(zol x)[m]?≠some true)/\((zol x).filter id).length=1/\x∈[0,1,2,3,4,5,6]
 | 1,_,_=>by decide
 | 2,_,_=>by decide
 | 3,_,_=>by decide
 | 4,_,_=>by decide
 | 5,_,_=>by decide
 | 6,_,_=>by decide
 | 0,h,_=>by exact ⟨lif (@r1 0) [(0,1,N1,N0)] rfl (leI h),⟨lif (@r1 0) [(0,1,N1,N0)] rfl (leI h),⟨lif (@r1 0) [(0,1,N1,N0)] rfl (leI h),lif (@r1 0) [(0,1,N1,N0)] rfl (leI h)⟩⟩⟩
 | n+7,_,h=>by exact ⟨lif (@r1 (↑(n))) [(0,1,.add V0 (.num 7),.num 6),(0,1,N0,V0)] rfl (leI h) (nnI _),⟨lif (@r1 (↑(n))) [(0,1,.add V0 (.num 7),.num 6),(0,1,N0,V0)] rfl (leI h) (nnI _),⟨lif (@r1 (↑(n))) [(0,1,.add V0 (.num 7),.num 6),(0,1,N0,V0)] rfl (leI h) (nnI _),lif (@r1 (↑(n))) [(0,1,.add V0 (.num 7),.num 6),(0,1,N0,V0)] rfl (leI h) (nnI _)⟩⟩⟩
theorem zr8{x:Nat}{c:Addr}{o3:Option V}{w0 w1 w2 w4 w5 w6:Option V}{K:Out->zK->zc->Prop}(h1:1<=x)(h6:x<=6)(hc:J c=none)(hk:∀ Z J',Ext J J'->K (.ret (.int ((x - 1:Nat):Int))) Z J') :
  y0 T d c [w0,w1,w2,o3,w4,w5,w6,some (.ref c),none] (put J c (.exc x)) K P:=by
 obtain ⟨m1,m2,m3,hx⟩:=zkK x h1 h6
 have e0:Ext J (put J c (.exc x)):=Ext.refl.new hc _
 have hex:∀ J',Ext (put J c (.exc x)) J'->J' c=some (.exc x):=fun J' e=>e _ _ (zB _ _ _)
 unfold y0
 simp only [zD,qh,jp,zC,zM,zrT,zu,zj,zk,zg]
 refine ⟨x,hx,zB _ _ _,x,hx,zB _ _ _,x,hx,zB _ _ _,x,hx,zB _ _ _,(by decide:4<=lim),zi fun a J1 ha x1 hav=>?_⟩
 simp only [zgK,jp,zC,zM,zrT,zu,zw,zx,zj,zk,zg]
 refine ⟨x,hx,hex _ x1,x,hx,hex _ x1,(by decide:2<=lim),zi fun b J2 hb x2 hbv=>?_⟩
 refine zI (x2 _ _ hav) (zI hbv ⟨(by decide:6<=lim),zi fun m J3 hm x3 hmv=>?_⟩)
 have hmv:J3 m=some (.list ((zol x).map V.bool)):=hmv
 simp only [qr,zej,wK,zaU,ztk,zu,zw,zx,zj,zk,zg]
 have x13:=x1.trans (x2.trans x3)
 refine ⟨x,hx,hex _ x13,?_⟩
 simp only [zn,kbj,kak,if_false,qA,jw]
 refine zlK hmv (by decide:6<=1000) (hex _ x13) rfl (fun v=>rfl) fun l J4 x4 hlv=>?_
 simp only [zg]
 refine qa hlv ?_
 simp only [z1,ze,Cmp.run,zn,kaK,m3]
 refine zQ rfl ?_
 exact zI (x4 _ _ hmv) ⟨_,x - 1,rfl,m1,m2,hk _ _ (e0.trans (x13.trans x4))⟩
theorem zhL(F:yg T)(hk:FnW T "_law_asked" 7 0 (yb T))(h:FnW T "_law_told" 7 2 (wd T))(H:zsY J way vm vr v1 v2 vp vt due)(hq:∀ J',Ext J J'->Q (.int due) J') :
  zp T (d+10) "_law_told" [.int way,vm,vr,v1,v2,vp,vt] J Q P:=by
 refine h (d+9) _ _ _ _ rfl ?_
 unfold wd
 refine zlW F hk H (fun e v J' x=>?_) fun x h1 h6 e J' x'=>⟨(zkK x h1 h6).2.2.2,fun c hc=>zr8 h1 h6 hc fun Z J'' x''=>?_⟩
 ·rw [<-e]
  exact hq J' x
 ·show Q (.int ((x - 1:Nat):Int)) J''
  rw [show ((x - 1:Nat):Int)=due by rw [e];lia]
  exact hq J'' (x'.trans x'')
end
end Mine
end
section
open PySem
namespace Mine
theorem zgg{α:Type}(l:List α)(i:Nat)(x:α):(l.take i++[x]++l.drop (i+1)).length<=l.length+1:=by
 induction l generalizing i with
 | nil=>rw [kdb,kdc];exact kaB _
 | cons a l ih=>cases i with
  | zero=>exact kci _
  | succ i=>exact kbV (ih i)
section
variable {T:TC} {d:Nat} {J:zc} {Q:V->zc->Prop} {P:Nat->zc->Prop}
theorem zdd{c n:Int}(h:0<n):0<=c.fmod n/\c.fmod n<n:=⟨kaR _ h,ka2 _ h⟩
theorem zcF{c:Addr}{xs:List V}{k:Int}{K:V->Prop}(h:J c=some (.list xs))(h0:0<=k)(hk:k<xs.length)(hK:∀ v∈xs,K v):0<=k/\yo J c fun xs=>yh xs k.toNat K:=by
 refine ⟨h0,?_⟩
 refine qm h ?_
 have hl:k.toNat<xs.length:=by exact ltN (lit r3 V0 V1 [(1,1,V2,V1),(2,1,V0,V2)] rfl hk (tnn (h0)))
 unfold yh
 rw [kae hl]
 exact hK _ (kbo hl)
theorem znI{x:Int}{n:Nat}(h0:0<=x)(h:x<n):x.toNat<n:=kaw.mp (by rw [tnn h0];exact h)
theorem zgR(h:FnW T "_law_put" 3 1 (jI T)){a:Addr}{vs:List V}{v:V}{cell:Int}(ha:J a=some (.list vs))(hl:vs.length<=1000)
  (hq:∀ c J' (i:Nat),J c=none->Ext J J'->(0<vs.length->i<vs.length)->J' c=some (.list (vs.take i++[v]++vs.drop (i+1)))->Q (.ref c) J'):zp T (d+1) "_law_put" [.ref a,v,.int cell] J Q P:=by
 refine h d _ _ _ _ rfl ?_
 unfold jI
 simp only [zD,qh,jv,zhe,jw,z1,zu,qd,qf,qc,zj,zk,zg,ze]
 refine qa ha ?_
 have hmx:(0:Int)<(if (vs.length:Int)>1 then (vs.length:Int) else 1):=by split<;>(first | exact kaA ‹_› | decide)
 refine ⟨by exact kbG ‹_›,?_⟩
 obtain ⟨i0,i1⟩:=zdd (c:=cell) hmx
 have hi:0<vs.length->(cell.fmod (if (vs.length:Int)>1 then (vs.length:Int) else 1)).toNat<vs.length:=by
  intro h
  have:(if (vs.length:Int)>1 then (vs.length:Int) else 1)<=vs.length:=by split<;>(first | exact kaW _ | exact kaw.mpr ‹_›)
  exact znI i0 (kco i1 this)
 revert i0 hi
 generalize cell.fmod (if (vs.length:Int)>1 then (vs.length:Int) else 1)=x
 intro i0 hi
 simp only [jQ,zgK,zgZ,zfu,jp,zC,zM,q9,z1,zu,zw,zx,zj,zk,zg,ze]
 refine ⟨i0,jX ha (zi fun a1 J1 _ e1 h1=>?_)⟩
 refine ⟨(by decide:1<=lim),zi fun a2 J2 _ e2 h2=>?_⟩
 refine zI (e2 _ _ h1) (zI h2 ⟨?_,zi fun a3 J3 _ e3 h3=>?_⟩)
 ·exact kai (kdq (kai (kdm ..) hl) 1) (by decide)
 refine ⟨kda i0 (by decide),jX ((e1.trans (e2.trans e3)) _ _ ha) (zi fun a4 J4 _ e4 h4=>?_)⟩
 refine zI (e4 _ _ h3) (zI h4 ⟨?_,zi fun c J5 hn5 e5 h5=>hq c J5 x.toNat ((e1.trans (e2.trans (e3.trans e4))).none hn5) (e1.trans (e2.trans (e3.trans (e4.trans e5)))) hi ?_⟩)
 ·rw [kas,kbJ];exact kai (Nat.add_le_add (kdq (kai (kdm ..) hl) 1) (kai (kdH ..) hl)) (by decide)
 ·rw [h5,show (x+1).toNat=x.toNat+1 by exact eqN (liq r3 V0 (.add V1 N1) [(2,1,V0,.add V2 N1),(2,-1,V1,V2)] rfl (tnn (lin r1 N0 (.add V0 N1) [(0,1,N0,V0)] rfl i0)) (tnn (i0)))]
theorem zoS(h:FnW T "_law_odd" 1 0 (yW T)){cell:Int}(hq:∀ v J',Ext J J'->wU J' v->wi2 0 1000000000 v=false->Q v J'):zp T (d+1) "_law_odd" [.int cell] J Q P:=by
 refine h d _ _ _ _ rfl ?_
 unfold yW
 simp only [zjq,zmb,zq4,zr7,zm9,zpR,zsn,zpO,q9,zbM,zbP,zjc,zjb,zja,yF,yZ,je]
 refine ⟨zrM,(by decide:1<=lim),zi fun a1 J1 _ e1 h1=>⟨(by decide:1<=lim),zi fun a2 J2 _ e2 h2=>⟨(by decide:8<=lim),zi fun c J3 _ e3 h3=>?_⟩⟩⟩
 simp only [zcI,zbM,zbP,yF,je,wP]
 obtain ⟨i0,i1⟩:=zdd (c:=cell) (n:=8) (by decide)
 refine ⟨by decide,zcF h3 i0 (show _<((0+1+1+1+1+1+1+1+1:Nat):Int) from i1) ?_⟩
 have e13:=e1.trans (e2.trans e3)
 have k1:=(e2.trans e3) _ _ h1
 have k2:=e3 _ _ h2
 intro v hv
 simp only [kad,kay,or_false] at hv
 rcases hv with rfl | rfl | rfl | rfl | rfl | rfl | rfl | rfl
 ·exact hq _ _ e13 .none rfl
 ·exact hq _ _ e13 (.int _) rfl
 ·exact hq _ _ e13 (.bool _) rfl
 ·exact hq _ _ e13 (.str _) rfl
 ·exact hq _ _ e13 (.int _) (by decide +kernel)
 ·exact hq _ _ e13 (.list k1) rfl
 ·exact hq _ _ e13 (.bool _) rfl
 ·exact hq _ _ e13 (.tup k2) rfl
end
theorem Arg.none{J:zc}:Arg J .none:=⟨.none,fun _ _ h=>by cases h⟩
theorem Arg.tup{J:zc}{a xs}(h:J a=some (.tup xs)):Arg J (.ref a):=⟨.tup h,fun b vs e hb=>by cases e;rw [h] at hb;cases hb⟩
theorem Arg.dict{J:zc}{a xs}(h:J a=some (.dict xs)):Arg J (.ref a):=⟨.dict h,fun b vs e hb=>by cases e;rw [h] at hb;cases hb⟩
theorem Arg.list{J:zc}{a xs}(h:J a=some (.list xs))(hl:xs.length<=1000)(hx:∀ u∈xs,wU J u):Arg J (.ref a):=⟨.list h,fun b vs e hb=>by cases e;rw [h] at hb;cases hb;exact ⟨hl,hx⟩⟩
theorem zhA{J:zc}{t:List Int}:∀ v∈zs t,wU J v:=fun v hv=>by
 obtain ⟨x,_,rfl⟩:=kau.mp hv
 exact .int x
theorem HpG.is{J:zc}{m:Int}{c:Addr}{o:O}(h:HpG J m (.ref c))(hc:J c=some o):∃ vs,o=.list vs/\(vs.length:Int)=m/\vs.all (wi2 0 1000000000)=true:=by
 obtain ⟨a,vs,e,h,l,w⟩:=h
 cases e
 rw [hc] at h
 exact ⟨vs,Option.some.inj h,l,w⟩
section
variable {T:TC} {d:Nat} {J:zc} {Q:V->zc->Prop} {P:Nat->zc->Prop}
theorem zkT{Z:zK}{i j:Nat}{k way:Int}{tp:Addr}{t:List Int}{b1 b2:SW}{K:Out->zK->zc->Prop}(hi:qz Z i=some (.int way))(hj:qz Z j=some (.ref tp))(ht:qJ J tp t)(yes:t≠[]->∀ J',Ext J J'->b1 Z J' K P)(no:∀ J',Ext J J'->b2 Z J' K P) :
  qy (wQ (qk .eq (loc i) (val (.int k))) (eqW true (loc j) (qw zv))) b1 b2 Z J K P:=by
 simp only [qr,zam,qA,z1,zu,hi,hj,ze,Cmp.run,zn]
 cases hw:way==k with
 | false=>exact no _ Ext.refl
 | true =>
  simp only [if_true,zm6,zu,hj,jp,zM,kaD]
  refine ⟨by decide,zi fun c J1 _ e hcv=>?_⟩
  refine Eqv.zs (ns:=t) (ms:=[]) (ht.ext e) hcv ?_
  by_cases hn:t=[]
  ·exact zQ (zjs hn) (no _ e)
  ·exact zZ (zmi hn) (yes hn _ e)
theorem zkU{Z:zK}{i j:Nat}{k way:Int}{tp:Addr}{t:List Int}{b1 b2:SW}{K:Out->zK->zc->Prop}(hi:qz Z i=some (.int way))(hj:qz Z j=some (.ref tp))(ht:qJ J tp t)(yes:∀ J',Ext J J'->b1 Z J' K P)(no:t≠[]->∀ J',Ext J J'->b2 Z J' K P) :
  qy (orW (qk .eq (loc i) (val (.int k))) (eqW false (loc j) (qw zv))) b1 b2 Z J K P:=by
 simp only [qr,zej,qA,z1,zu,hi,hj,ze,Cmp.run,zn]
 cases hw:way==k with
 | true=>exact yes _ Ext.refl
 | false =>
  simp only [kak,if_false,zm6,zu,hj,jp,zM,kaD]
  refine ⟨by decide,zi fun c J1 _ e hcv=>?_⟩
  refine Eqv.zs (ns:=t) (ms:=[]) (ht.ext e) hcv ?_
  by_cases hn:t=[]
  ·exact zZ (decide_eq_true hn) (yes _ e)
  ·exact zQ (decide_eq_false hn) (no hn _ e)
theorem zrO{Z:zK}{i j:Nat}{tp:Addr}{t:List Int}{cell n:Int}{K:Out->zK->zc->Prop}(hi:qz Z i=some (.ref tp))(hj:qz Z j=some (.int cell))(ht:qJ J tp t)(hn:n≠0)(hn':n.natAbs<1073741824)
  (hK:∀ v J',Ext J J'->(∀ c,v=.ref c->J c=none)->(v=.none\/(∃ a xs,v=.ref a/\J' a=some (.tup xs))\/∃ a xs,v=.ref a/\J' a=some (.dict xs))->K (.ret v) Z J') :
  qi (zT (qw (zd (val .none) (zd (zdD (loc i)) (zd zaQ zv)))) (jG (wn (loc j) (val (.int n))) (val (.int 3)))) Z J K P:=by
 simp only [jQ,qv,jp,zC,zM,zmy,zcY,z1,zu,hi,zg]
 refine jX ht (zi fun a1 J1 k1 e1 h1=>zi fun a2 J2 k2 e2 h2=>⟨(by decide:3<=lim),zi fun c J3 _ e3 h3=>?_⟩)
 simp only [jv,yy,z1,zu,hj,ze,zg]
 obtain ⟨i0,i1⟩:=zdd (c:=cell.fdiv n) (n:=3) (by decide)
 refine ⟨⟨hn,zba hn'⟩,by decide,zcF h3 i0 i1 fun v hv=>?_⟩
 simp only [kad,kay,or_false] at hv
 refine hK v J3 (e1.trans (e2.trans e3)) (fun c e=>?_) ?_
 ·rcases hv with rfl | rfl | rfl
  ·cases e
  ·cases e;exact k1
  ·cases e;exact e1.none k2
 rcases hv with rfl | rfl | rfl
 ·exact .inl rfl
 ·exact .inr (.inl ⟨_,_,rfl,(e2.trans e3) _ _ h1⟩)
 ·exact .inr (.inr ⟨_,_,rfl,e3 _ _ h2⟩)
theorem ziC(hp:FnW T "_law_put" 3 1 (jI T))(ho:FnW T "_law_odd" 1 0 (yW T))(h:FnW T "_law_no_heap" 2 1 (j5 T)){a:Addr}{xs:List Int}{cell:Int}(ha:qJ J a xs)(hl:xs.length<=100)
  (hq:∀ v J',Ext J J'->(∀ c,v=.ref c->J c=none)->Arg J' v->(¬ HpG J' (xs.length:Int) v)->Q v J'):zp T (d+2) "_law_no_heap" [.ref a,.int cell] J Q P:=by
 refine h (d+1) _ _ _ _ rfl ?_
 unfold j5
 rw [zD]
 simp only [qh,jv,z1,zu,qd,qf,qc,zj,zk,zw,zx,ze]
 refine ⟨by decide,?_⟩
 generalize cell.fmod 5=way
 rw [zD,qr]
 simp only [qA,z1,zu,zj,zk,ze,Cmp.run,zn]
 cases hw:way==0 with
 | true =>
  rw [if_pos rfl]
  refine zrO (n:=5) rfl rfl ha (by decide) (by decide) fun v J' e hfr hv=>?_
  rcases hv with rfl | ⟨b,ys,rfl,hb⟩ | ⟨b,ys,rfl,hb⟩
  ·exact hq _ _ e hfr Arg.none fun g=>by obtain ⟨_,_,e,_⟩:=g;cases e
  ·exact hq _ _ e hfr (Arg.tup hb) fun g=>by obtain ⟨_,e,_⟩:=g.is hb;cases e
  ·exact hq _ _ e hfr (Arg.dict hb) fun g=>by obtain ⟨_,e,_⟩:=g.is hb;cases e
 | false =>
  rw [if_neg kan]
  simp only [qQ]
  rw [zD]
  refine zkT rfl rfl ha (fun hn J1 e1=>?_) fun J1 e1=>?_
  ·have ht:J1 a=some (.list (zs xs)):=e1 _ _ ha
   simp only [jQ,zfu,z1,zu,zj,ze,zg]
   refine ⟨by decide,jX ht (zi fun c J2 kn e2 hc=>hq _ _ (e1.trans e2) (fun c' e=>by cases e;exact e1.none kn) (Arg.list hc ?_ fun u hu=>zhA u (kce hu)) fun g=>?_)⟩
   ·rw [kbJ,qb];exact kai (kdH ..) (kai hl (by decide))
   ·obtain ⟨vs,e,l,_⟩:=g.is hc
    cases e
    rw [kbJ,qb] at l
    have:xs.length≠0:=fun h=>hn (kbF.mp h)
    have:(1:Int).toNat=1:=rfl
    lia
  ·simp only [qQ]
   rw [zD]
   refine zkU rfl rfl (ha.ext e1) (fun J2 e2=>?_) fun hn J2 e2=>?_
   ·have ht:J2 a=some (.list (zs xs)):=(e1.trans e2) _ _ ha
    simp only [jQ,zgK,jp,zC,zM,z1,zu,zj,zg]
    refine ⟨(by decide:1<=lim),zi fun b J3 _ e3 hb=>zI (e3 _ _ ht) (zI hb ⟨?_,zi fun c J4 kn e4 hc=>hq _ _ (e1.trans (e2.trans (e3.trans e4))) (fun c' e=>by cases e;exact (e1.trans (e2.trans e3)).none kn) (Arg.list hc ?_ fun u hu=>?_) fun g=>?_⟩)⟩
    ·rw [qb,kaj,kaD];unfold lim;omega
    ·rw [kas,qb,kaj,kaD];(first | omega | omega)
    ·rcases kaq.mp hu with hu | hu
     ·exact zhA u hu
     ·rw [kac.mp hu];exact .int 0
    ·obtain ⟨vs,e,l,_⟩:=g.is hc
     cases e
     rw [kas,qb,kaj,kaD] at l
     exact lif (@r1 (↑(xs.length))) [(2,1,.add V0 (.add N0 N1),V0)] rfl l
   ·have ht:J2 a=some (.list (zs xs)):=(e1.trans e2) _ _ ha
    refine ⟨⟨by decide,zba (by decide)⟩,zoS (d:=d) ho fun v J3 e3 hv hw=>⟨⟨by decide,zba (by decide)⟩,zgR (d:=d) hp (e3 _ _ ht) (by rw [qb];exact leN (lin r1 V0 (.num 1000) [(0,1,V0,.num 100)] rfl (leI hl))) fun c J4 i kn e4 hi hc=>hq _ _ (e1.trans (e2.trans (e3.trans e4))) (fun c' e=>by cases e;exact (e1.trans (e2.trans e3)).none kn) (Arg.list hc ?_ fun u hu=>?_) fun g=>?_⟩⟩
    ·exact kai (zgg _ _ _) (by rw [qb];exact kai (kbV hl) (by decide))
    ·rcases kaq.mp hu with hu | hu
     ·rcases kaq.mp hu with hu | hu
      ·exact zhA u (kbB hu)
      ·rw [kac.mp hu];exact hv.ext e4
     ·exact zhA u (kce hu)
    ·obtain ⟨vs,e,_,w⟩:=g.is hc
     cases e
     have:=kaX.mp w v (kaZ _ (kbN _ (kac.mpr rfl)))
     rw [hw] at this
     cases this
end
end Mine
end
section
open PySem
namespace Mine
section
variable {T:TC} {d:Nat} {J:zc} {Q:V->zc->Prop} {P:Nat->zc->Prop}
theorem ziB(hp:FnW T "_law_put" 3 1 (jI T))(h:FnW T "_law_no_tree" 3 1 (j4 T)){a r:Addr}{t:List Int}{rs:Rd2}{m cell:Int}(ha:qJ J a t)(hr:zS J r rs)(hm:(t.length:Int)=m)(hl:t.length<=50)
  (hq:∀ v J',Ext J J'->(∀ c,v=.ref c->J c=none)->zaJ J' v->(∀ c t',v=.ref c->qJ J' c t'->¬ yJ m rs t')->Q v J'):zp T (d+2) "_law_no_tree" [.ref a,.ref r,.int cell] J Q P:=by
 refine h (d+1) _ _ _ _ rfl ?_
 unfold j4
 rw [zD]
 simp only [qh,jv,z1,zu,qd,qf,qc,zj,zk,zw,zx,ze]
 refine ⟨by decide,?_⟩
 generalize cell.fmod 4=way
 have same:∀ {J':zc} {c:Addr} {t1:List Int},J' c=some (.list (zs t1))->¬ yJ m rs t1->∀ c' t',V.ref c=.ref c'->qJ J' c' t'->¬ yJ m rs t':=fun hc hn c' t' e hi=>by
  cases e
  unfold qJ at hi
  rw [hc] at hi
  rwa [<-zqh (O.list.inj (Option.some.inj hi))]
 rw [zD,qr]
 simp only [qA,z1,zu,zj,zk,ze,Cmp.run,zn]
 cases hw:way==0 with
 | true =>
  rw [if_pos rfl]
  refine zrO (n:=4) rfl rfl ha (by decide) (by decide) fun v J' e hfr hv=>?_
  rcases hv with rfl | ⟨b,ys,rfl,hb⟩ | ⟨b,ys,rfl,hb⟩
  ·exact hq _ _ e hfr .none fun c t' e=>by cases e
  ·exact hq _ _ e hfr (.bad (.inl ⟨_,hb⟩)) fun c t' e hi=>by cases e;unfold qJ at hi;rw [hb] at hi;cases hi
  ·exact hq _ _ e hfr (.dict hb) fun c t' e hi=>by cases e;unfold qJ at hi;rw [hb] at hi;cases hi
 | false =>
  rw [if_neg kan]
  simp only [qQ]
  rw [zD]
  refine zkT rfl rfl ha (fun hn J1 e1=>?_) fun J1 e1=>?_
  ·have ht:J1 a=some (.list (zs t)):=e1 _ _ ha
   simp only [jQ,zfu,z1,zu,zj,ze,zg]
   refine ⟨by decide,jX ht (zi fun c J2 kn e2 hc=>?_)⟩
   have hc:J2 c=some (.list (zs (t.drop 1))):=by rw [hc];unfold zs;rw [kdR];rfl
   refine hq _ _ (e1.trans e2) (fun c' e=>by cases e;exact e1.none kn) (.nums hc ?_) (same hc fun ok=>?_)
   ·rw [kbJ];exact kai (kdH ..) (kai hl (by decide))
   ·have l:=ok.len
    rw [kbJ] at l
    have:t.length≠0:=fun h=>hn (kbF.mp h)
    exact absurd (kcy.mp (l.trans hm.symm)) (kbd (Nat.sub_lt (kdA this) (by decide)))
  ·simp only [qQ]
   rw [zD]
   refine zkU rfl rfl (ha.ext e1) (fun J2 e2=>?_) fun hn J2 e2=>?_
   ·have ht:J2 a=some (.list (zs t)):=(e1.trans e2) _ _ ha
    simp only [jQ,zgK,jp,zC,zM,z1,zu,zj,zg]
    refine ⟨(by decide:1<=lim),zi fun b J3 _ e3 hb=>zI (e3 _ _ ht) (zI hb ⟨?_,zi fun c J4 kn e4 hc=>?_⟩)⟩
    ·rw [qb];exact kai (kbV hl) (by decide)
    have hc:J4 c=some (.list (zs (t++[0]))):=by rw [hc];unfold zs;rw [ka9];rfl
    refine hq _ _ (e1.trans (e2.trans (e3.trans e4))) (fun c' e=>by cases e;exact (e1.trans (e2.trans e3)).none kn) (.nums hc ?_) (same hc fun ok=>?_)
    ·rw [kas,kaj,kaD];exact leN (lin r1 (.add V0 (.add N0 N1)) (.num 100) [(0,1,V0,.num 50)] rfl (leI hl))
    ·have l:=ok.len
     rw [kas,kaj,kaD] at l
     exact lif r2 [(2,-1,V0,V1),(2,1,.add V0 (.add N0 N1),V1)] rfl hm l
   ·have ht:J2 a=some (.list (zs t)):=(e1.trans e2) _ _ ha
    obtain ⟨vr,hr1,hr2⟩:=(hr.ext (e1.trans e2))
    simp only [qQ,jQ,zL,zC,zM,qv,jp,zlj,jw,z1,zu,zj,zk,ze,zg]
    refine qa hr1 ⟨(by decide:6<=lim),zi fun b J3 _ e3 hb=>?_⟩
    simp only [jv,yy,z1,zu,zj,zk,ze,zg]
    obtain ⟨i0,i1⟩:=zdd (c:=cell.fdiv 4) (n:=6) (by decide)
    refine ⟨⟨by decide,zba (by decide)⟩,by decide,zcF hb i0 i1 fun v hv=>⟨⟨by decide,zba (by decide)⟩,zgR (d:=d) hp (e3 _ _ ht) (by rw [qb];exact leN (lin r1 V0 (.num 1000) [(0,1,V0,.num 50)] rfl (leI hl))) fun c J4 i kn e4 hi hc=>?_⟩⟩
    have e14:=e1.trans (e2.trans (e3.trans e4))
    have kf:∀ c',V.ref c=.ref c'->J c'=none:=fun c' e=>by cases e;exact (e1.trans (e2.trans e3)).none kn
    have odd:zhE J4 v->Q (.ref c) J4:=fun ho=>by
     have hB:zik J4 c:=.inr ⟨_,hc,kai (zgg _ _ _) (by rw [qb];exact kai (kbV hl) (by decide)),fun u hu=>?_,v,kaZ _ (kbN _ (kac.mpr rfl)),ho⟩
     ·exact hq _ _ e14 kf (.bad hB) fun c' t' e hi'=>by cases e;exact (hB.noInts hi').elim
     ·rcases kaq.mp hu with hu | hu
      ·rcases kaq.mp hu with hu | hu
       ·obtain ⟨x,_,rfl⟩:=kau.mp (kbB hu);exact .inl ⟨x,rfl⟩
       ·rw [kac.mp hu];exact .inr ho
      ·obtain ⟨x,_,rfl⟩:=kau.mp (kce hu);exact .inl ⟨x,rfl⟩
    have num:∀ x:Int,v=.int x->¬ (0<=x/\x<rs.length)->Q (.ref c) J4:=fun x ex hx=>by
     have hc:J4 c=some (.list (zs (t.take i++[x]++t.drop (i+1)))):=by rw [hc,ex];unfold zs;rw [ka9,ka9,List.map_take,kdR];rfl
     refine hq _ _ e14 kf (.nums hc ?_) (same hc fun ok=>hx (ok.rng x (kaZ _ (kbN _ (kac.mpr rfl)))))
     exact kai (zgg _ _ _) (kai (kbV hl) (by decide))
    simp only [kad,kay,or_false] at hv
    rcases hv with e | e | e | e | e | e
    ·exact odd (.inr (.inl e))
    ·exact num _ e (by exact (fun h_=>lif (@r1 0) [(0,1,N0,.neg N1)] rfl h_.1))
    ·exact odd (.inl ⟨_,e⟩)
    ·exact odd (.inr (.inr (.inl ⟨_,e⟩)))
    ·exact num _ e (by have:=hr2.length;exact (fun h_=>lif r2 [(2,-1,V0,V1),(1,1,V0,V1)] rfl (eqI this) h_.2))
    ·exact odd (.inl ⟨_,e⟩)
end
structure TI(m:Int)(rs:Rd2)(ks t:List Int):Prop where
 nd:ks.Nodup
 rng:∀ k∈ks,0<=k/\k<=m
 pit:m∈ks
 tnd:t.Nodup
 trng:∀ x∈t,0<=x/\x<rs.length
 len:ks.length=t.length+1
 con:∀ q∈ks,yz (tro rs t) m q
 bth:∀ x∈t,∀ p,rs[x.toNat]?=some p->p.1∈ks/\p.2∈ks
theorem zkZ{ks:List Int}{u w:Int}(h:¬ (u∈ks ↔ w∈ks)):∃ z,(z=u\/z=w)/\z∉ks/\wR (wR ks u) w=ks++[z]:=by
 by_cases hu:u∈ks
 ·have hw:w∉ks:=fun hw=>h ⟨fun _=>hw,fun _=>hu⟩
  refine ⟨w,.inr rfl,hw,?_⟩
  unfold wR
  rw [if_pos hu,if_neg hw]
 ·have hw:w∈ks:=kav fun hw=>h ⟨fun h=>absurd h hu,fun h=>absurd h hw⟩
  refine ⟨u,.inl rfl,hu,?_⟩
  unfold wR
  rw [if_neg hu,if_pos (kaZ _ hw)]
theorem TI.step{m:Int}{rs:Rd2}{ks t:List Int}(I:TI m rs ks t)(n:Net m rs){k:Nat}{u w:Int}(hk:rs[k]?=some (u,w))(h:¬ (u∈ks ↔ w∈ks)):TI m rs (wR (wR ks u) w) (t++[(k:Int)]):=by
 obtain ⟨z,hz,hzn,e⟩:=zkZ h
 have hkl:k<rs.length:=(kah.mp hk).1
 have hends:=n.ends _ (kao hk)
 have hnt:(k:Int)∉t:=fun hm=>by
  have:=I.bth _ hm (u,w) (by rw [kaf];exact hk)
  exact h ⟨fun _=>this.2,fun _=>this.1⟩
 have etro:tro rs (t++[(k:Int)])=tro rs t++[(u,w)]:=by
  unfold tro
  rw [ka9]
  show _++[rs.getD ((k:Int).toNat) (0,0)]=_
  rw [kaf,kaS,hk];rfl
 have mono:∀ q∈ks,yz (tro rs (t++[(k:Int)])) m q:=fun q hq=>(I.con q hq).mono fun p hp=>by rw [etro];exact kaZ _ hp
 have hin:(u,w)∈tro rs (t++[(k:Int)]):=by rw [etro];exact kbN _ (kac.mpr rfl)
 rw [e]
 have both:u∈ks++[z]/\w∈ks++[z]:=by
  rw [<-e]
  exact ⟨(yS ..).mpr (.inl ((yS ..).mpr (.inr rfl))),(yS ..).mpr (.inr rfl)⟩
 refine ⟨?_,?_,kaZ _ I.pit,?_,?_,?_,?_,?_⟩
 ·exact kbc.mpr ⟨I.nd,by simp,fun a ha b hb=>by rw [kac.mp hb];exact fun e=>hzn (e▸ha)⟩
 ·intro q hq
  rcases kaq.mp hq with hq | hq
  ·exact I.rng q hq
  ·rw [kac.mp hq]
   rcases hz with rfl | rfl
   ·exact hends.1
   ·exact hends.2.1
 ·exact kbc.mpr ⟨I.tnd,by simp,fun a ha b hb=>by rw [kac.mp hb];exact fun e=>hnt (e▸ha)⟩
 ·intro x hx
  rcases kaq.mp hx with hx | hx
  ·exact I.trng x hx
  ·rw [kac.mp hx];exact ⟨nnI _,kaw.mpr hkl⟩
 ·rw [kas,kas,I.len];rfl
 ·intro q hq
  rcases kaq.mp hq with hq | hq
  ·exact mono q hq
  ·rw [kac.mp hq]
   by_cases hu:u∈ks
   ·rcases hz with rfl | rfl
    ·exact absurd hu hzn
    ·exact (mono u hu).fwd hin
   ·have hw:w∈ks:=kav fun hw=>h ⟨fun h=>absurd h hu,fun h=>absurd h hw⟩
    rcases hz with rfl | rfl
    ·exact (mono w hw).bwd hin
    ·exact absurd hw hzn
 ·intro x hx p hp
  rcases kaq.mp hx with hx | hx
  ·have:=I.bth x hx p hp
   exact ⟨kaZ _ this.1,kaZ _ this.2⟩
  ·rw [kac.mp hx,kaf,hk] at hp
   cases hp
   exact both
theorem TI.full{m:Int}{rs:Rd2}{ks t:List Int}(I:TI m rs ks t)(n:Net m rs)(h:zdP rs ks):(ks.length:Int)=m+1 :=
 n.full ⟨I.nd,I.pit,I.rng,fun k hk=>(I.con k hk).mono fun p hp=>zmz I.trng hp⟩ h
theorem TI.le{m:Int}{rs:Rd2}{ks t:List Int}(I:TI m rs ks t)(n:Net m rs):(ks.length:Int)<=m+1:=by
 have:=yR m.toNat ks I.nd fun k hk=>by rw [tnn n.m0];exact I.rng k hk
 have:=n.m0
 exact lin r3 V0 (.add V1 N1) [(0,1,V0,.add V2 N1),(2,1,V2,V1)] rfl (leI ‹_›) (tnn (this))
theorem TI.ok{m:Int}{rs:Rd2}{ks t:List Int}(I:TI m rs ks t)(n:Net m rs)(h:(ks.length:Int)=m+1):yJ m rs t:=by
 refine ⟨by have:=I.len;exact liq r3 V0 V1 [(2,1,V2,.add V1 N1),(2,-1,V2,.add V0 N1)] rfl h (eqI this),I.trng,I.tnd,fun q h0 hq=>I.con q ?_⟩
 apply kav
 intro hn
 have:=yR m.toNat (q::ks) (kaM.mpr ⟨hn,I.nd⟩) fun x hx=>by
  rw [tnn n.m0]
  rcases kad.mp hx with h | h
  ·rw [h];exact ⟨h0,kaA hq⟩
  ·exact I.rng x h
 rw [kaj] at this
 have:=n.m0
 exact lif r3 [(2,-1,V0,.add V1 N1),(0,1,.add V0 N1,.add V2 N1),(2,1,V2,V1)] rfl h (leI ‹_›) (tnn (this))
section
variable {T:TC} {d:Nat} {J:zc} {Q:V->zc->Prop} {P:Nat->zc->Prop}
theorem zpY{m:Int}{Z:zK}{a:EW}{b:SW}{j:Nat}{K:Out->zK->zc->Prop}(hm:0<=m)(hm':m<=1000)(ha:∀ (Q:V->zc->Prop) (P:Nat->zc->Prop),Q (.int m) J->a Z J Q P)(I:Nat->zK->zc->Prop)(h0:I 0 Z J)
  (step:∀ (i:Nat) Z J' (K':Out->zK->zc->Prop),(i:Int)<m->I i Z J'->(∀ Z' J'',I (i+1) Z' J''->K' .next Z' J'')->b (jP Z j (.int i)) J' K' noP)
  (fin:∀ Z J',I m.toNat Z J'->K .next Z J'):wO (.nm j) (jl a) b Z J K P:=by
 rw [yL,yu]
 refine ha _ _ ?_
 refine ⟨by unfold jJ;exact ⟨lin r1 (.neg (.num 4611686018427387904)) V0 [(0,1,N0,V0)] rfl hm,lit r1 V0 (.num 4611686018427387904) [(0,1,V0,.num 1000)] rfl hm'⟩,?_⟩
 refine qg I h0 (fun i v Z J' K' hv hi hK=>?_) fun Z J' h=>⟨trivial,fin Z J' (by rw [qx] at h;exact h)⟩
 obtain ⟨hl,rfl⟩:=jh hv
 rw [kaV]
 exact ⟨trivial,step i Z J' K' (qD hm hl) hi fun Z' J'' h=>hK .next Z' J'' h⟩
structure TS(J0 J:zc)(m:Int)(rs:Rd2)(me tr:Addr)(ks t:List Int):Prop where
 e:Ext J0 J
 me0:J0 me=none
 tr0:J0 tr=none
 ne:me≠tr
 met:J me=some (.dict (dk ks))
 tree:J tr=some (.list (zs t))
 I:TI m rs ks t
theorem znm{m:Int}{rs:Rd2}{J0:zc}{r me tr:Addr}{ks t:List Int}{k:Nat}{o4 o6 o7:Option V}{K:Out->zK->zc->Prop}(n:Net m rs)(hr:zS J0 r rs)(S:TS J0 J m rs me tr ks t)(hk:k<rs.length)
  (hK:∀ o6 o7 J' ks' t',TS J0 J' m rs me tr ks' t'->(ks.length<ks'.length\/(ks'=ks/\∀ p,rs[k]?=some p->(p.1∈ks ↔ p.2∈ks)))->K .next [some (.int m),some (.ref r),some (.ref me),some (.ref tr),o4,some (.int k),o6,o7] J') :
  zaa T d [some (.int m),some (.ref r),some (.ref me),some (.ref tr),o4,some (.int k),o6,o7] J K P:=by
 obtain ⟨vs,hr1,hr2⟩:=hr
 have hle:=S.I.le n
 have hm10:=n.m10
 unfold zaa
 rw [zD]
 simp only [zjD,qv,zu,zj,zk,zg,ze]
 refine ⟨nnI _,?_⟩
 refine qm (S.e _ _ hr1) ?_
 rw [kaf]
 have hlv:k<vs.length:=by rw [hr2.length];exact hk
 have hvg:vs[k]?=some vs[k]:=kae hlv
 refine qq hvg ?_
 obtain ⟨a,u,w,hau,hrs,hta⟩:=hr2.get hvg
 rw [hau]
 refine wE (S.e _ _ hta) ?_
 refine ⟨rfl,?_⟩
 simp only [zax,zaw,zw,zx,qr,ztD,zlt,zu,zj,zk,ze,zg]
 refine jY S.met (jY S.met ?_)
 rw [zaf]
 simp only [zn,kak,if_false,if_true,zaf]
 by_cases hb:u∈ks ↔ w∈ks
 ·refine zQ (by simp [hb]) ?_
  exact hK _ _ _ ks t S (.inr ⟨rfl,fun p hp=>by rw [hrs] at hp;cases hp;exact hb⟩)
 ·refine zZ (by simp [hb]) ?_
  have I':=S.I.step n hrs hb
  obtain ⟨z,_,_,ez⟩:=zkZ hb
  rw [zD]
  simp only [wo,z1,zu,zj,zk,zg,ze]
  refine Eq.mpr (j9 S.met) ?_
  rw [zae,wl]
  refine ⟨by unfold lim;exact ltN (lit r2 V0 (.num 1000000) [(0,1,V0,.add V1 N1),(0,1,V1,.num 10)] rfl hle hm10),?_⟩
  rw [zD]
  simp only [wo,z1,zu,zj,zk,zg,ze]
  refine Eq.mpr (j9 (zB _ _ _)) ?_
  rw [zae,wl]
  refine ⟨?_,?_⟩
  ·have:(wR ks u).length<=ks.length+1:=by unfold wR;split<;>simp
   unfold lim;exact ltN (lit r3 V0 (.num 1000000) [(0,1,V1,.add V2 N1),(0,1,V2,.num 10),(0,1,V0,.add V1 N1)] rfl hle hm10 (leI this))
  simp only [jD,zgI,zu,zj,zk,zg]
  have htr:(put (put J me (.dict (dk (wR ks u)))) me (.dict (dk (wR (wR ks u) w)))) tr=some (.list (zs t)):=by
   rw [zO _ (Ne.symm S.ne),zO _ (Ne.symm S.ne)];exact S.tree
  refine ⟨zI htr trivial,zI htr ⟨?_,?_⟩⟩
  ·rw [qb];have:=S.I.len;unfold lim;exact ltN (lit r3 V0 (.num 1000000) [(0,1,V1,.add V2 N1),(0,1,V2,.num 10),(2,-1,V1,.add V0 N1)] rfl hle hm10 (eqI this))
  ·refine hK _ _ _ _ _ ⟨((S.e.put S.me0 _).put S.me0 _).put S.tr0 _,S.me0,S.tr0,S.ne,?_,?_,I'⟩ (.inl ?_)
   ·rw [zO _ S.ne,zB]
   ·rw [zB];unfold zs;rw [ka9];rfl
   ·rw [ez,kas];exact ka1 _
theorem znl{m:Int}{rs:Rd2}{J0:zc}{r me tr:Addr}{ks t:List Int}{o4 o5 o6 o7:Option V}{K:Out->zK->zc->Prop}(n:Net m rs)(hr:zS J0 r rs)(S:TS J0 J m rs me tr ks t)
  (hK:∀ o5 o6 o7 J' ks' t',TS J0 J' m rs me tr ks' t'->(ks.length<ks'.length\/(ks'.length:Int)=m+1)->K .next [some (.int m),some (.ref r),some (.ref me),some (.ref tr),o4,o5,o6,o7] J') :
  w9 T d [some (.int m),some (.ref r),some (.ref me),some (.ref tr),o4,o5,o6,o7] J K P:=by
 obtain ⟨vs,hr1,hr2⟩:=id hr
 have hlen:=n.len
 unfold w9
 refine zpY (m:=(rs.length:Int)) (nnI _) (by exact lin r1 V0 (.num 1000) [(0,1,V0,.num 40)] rfl (leI hlen)) (fun Q P hq=>?_)
  (fun k Z J'=>X5 fun o5 o6 o7 ks' t'=>A3 (Z=[some (.int m),some (.ref r),some (.ref me),some (.ref tr),o4,o5,o6,o7]) (TS J0 J' m rs me tr ks' t') ((ks.length<ks'.length\/(ks'=ks/\∀ j<k,∀ p,rs[j]?=some p->(p.1∈ks ↔ p.2∈ks)))))
  ⟨_,_,_,ks,t,rfl,S,.inr ⟨rfl,fun j hj=>absurd hj (kcF _)⟩⟩ ?_ ?_
 ·simp only [jw,zu,zj,zk,zg]
  refine qa (S.e _ _ hr1) ?_
  rw [hr2.length]
  exact hq
 ·intro k Z J' K' hk hI5a hK'
  obtain ⟨_,_,_,ks',t',rfl,S',hp⟩:=hI5a
  refine znm n hr S' (kaw.mp hk) fun o6 o7 J'' ks'' t'' S'' h=>hK' _ _ ⟨_,_,_,ks'',t'',rfl,S'',?_⟩
  rcases h with h | ⟨rfl,h⟩
  ·refine .inl ?_
   rcases hp with hp | ⟨rfl,_⟩
   ·exact kcX hp h
   ·exact h
  ·rcases hp with hp | ⟨rfl,hp⟩
   ·exact .inl hp
   ·refine .inr ⟨rfl,fun j hj p hjp=>?_⟩
    rcases Nat.lt_succ_iff_lt_or_eq.mp hj with hj | rfl
    ·exact hp j hj p hjp
    ·exact h p hjp
 ·intro Z J' hI2b
  obtain ⟨_,_,_,ks',t',rfl,S',hp⟩:=hI2b
  refine hK _ _ _ J' ks' t' S' ?_
  rcases hp with hp | ⟨rfl,hp⟩
  ·exact .inl hp
  ·refine .inr (S'.I.full n fun p hp'=>?_)
   obtain ⟨j,hj,rfl⟩:=kaO hp'
   exact hp j (by rw [kaf];exact hj) _ (kae hj)
theorem zfi(h:FnW T "_law_tree" 2 6 (y9 T)){m:Int}{rs:Rd2}{r:Addr}(n:Net m rs)(hr:zS J r rs)
  (hq:∀ c t J',Ext J J'->J c=none->qJ J' c t->yJ m rs t->Q (.ref c) J'):zp T (d+1) "_law_tree" [.int m,.ref r] J Q P:=by
 have hm:=n.m0;have hm':=n.m10
 refine h d _ _ _ _ rfl ?_
 unfold y9
 rw [zD]
 simp only [qh,zaW,z1,zu,qd,qf,qc,zj,zk,zw,zx,ze]
 refine zi fun me J1 hme e1 hmv=>?_
 refine ⟨by decide,zi fun tr J2 htr e2 htv=>?_⟩
 have hne:me≠tr:=fun e=>by rw [e] at hmv;rw [htr] at hmv;cases hmv
 have S0:TS J J2 m rs me tr [m] []:=⟨e1.trans e2,hme,e1.none htr,hne,e2 _ _ hmv,htv,by simp,fun k hk=>by rw [kac.mp hk];exact ⟨hm,kaW _⟩,by simp,by simp,(fun x hx=>by cases hx),rfl,fun q hq=>by rw [kac.mp hq];exact .refl,fun x hx=>by cases hx⟩
 refine zpY hm (by exact lin r1 V0 (.num 1000) [(0,1,V0,.num 10)] rfl hm') (fun Q P hq=>hq)
  (fun i Z J'=>X6 fun o4 o5 o6 o7 ks t=>A3 (Z=[some (.int m),some (.ref r),some (.ref me),some (.ref tr),o4,o5,o6,o7]) (TS J J' m rs me tr ks t) ((i<ks.length\/(ks.length:Int)=m+1)))
  ⟨_,_,_,_,[m],[],rfl,S0,.inl Nat.one_pos⟩ ?_ ?_
 ·intro i Z J' K' hi hI5a hK'
  obtain ⟨_,_,_,_,ks,t,rfl,S,hp⟩:=hI5a
  refine znl n hr S fun o5 o6 o7 J'' ks' t' S' h=>hK' _ _ ⟨_,_,_,_,ks',t',rfl,S',?_⟩
  rcases h with h | h
  ·rcases hp with hp | hp
   ·exact .inl (by exact kbx ‹_› ‹_›)
   ·have:=S'.I.le n;exact lif r3 [(1,1,V0,V1),(2,-1,V0,.add V2 N1),(0,1,V1,.add V2 N1)] rfl (ltI h) hp this
  ·exact .inr h
 ·rintro Z J' ⟨_,_,_,_,ks,t,rfl,S,hp⟩
  refine hq tr t J' S.e S.tr0 S.tree (S.I.ok n ?_)
  rcases hp with hp | hp
  ·have:=S.I.le n;exact kaH (this) (lin r3 (.add V0 N1) V1 [(1,1,V2,V1),(2,-1,V2,V0)] rfl (ltI hp) (tnn (hm)))
  ·exact hp
end
end Mine
end
section
open PySem
namespace Mine
section
variable {T:TC} {d:Nat} {J:zc} {Q:V->zc->Prop} {P:Nat->zc->Prop}
theorem zlL{Z:zK}{i j:Nat}{c:EW}{m:Int}(f:Nat->Bool)(hm:0<=m)(hm':m<=10)(hi:qz Z i=some (.int m))(hj:∀ v,qz (jP Z j v) j=some v)
  (step:∀ (k:Nat) (K:V->zc->Prop),(k:Int)<m->K (.bool (f k)) J->c (jP Z j (.int k)) J K noP)
  (hq:∀ a J',Ext J J'->J a=none->J' a=some (.list (zs (zfz m.toNat f)))->Q (.ref a) J'):qU j (jl (loc i)) (some c) (loc j) Z J Q P:=by
 simp only [yH,yu,zu,hi,ze]
 refine ⟨by unfold jJ;exact ⟨lin r1 (.neg (.num 4611686018427387904)) V0 [(0,1,N0,V0)] rfl hm,lit r1 V0 (.num 4611686018427387904) [(0,1,V0,.num 10)] rfl hm'⟩,by rw [qx];unfold lim;exact leN (lin r2 V0 (.num 1000000) [(0,1,V1,.num 10),(2,1,V0,V1)] rfl hm' (tnn (hm))),?_⟩
 refine qT (fun k acc J'=>acc=zs (zfz k f)/\J'=J) ⟨rfl,rfl⟩ ?_ ?_
 ·intro k v acc J' K' hv hI6a hK
  obtain ⟨rfl,rfl⟩:=hI6a
  obtain ⟨hl,rfl⟩:=jh hv
  refine ⟨trivial,?_⟩
  rw [kaV,j7]
  refine step k _ (qD hm hl) ?_
  simp only [zn,zu,hj]
  split
  ·rename_i hc
   refine hK _ _ ⟨?_,rfl⟩
   rw [zct,hc,if_pos rfl,<-zdC];rfl
  ·rename_i hc
   refine hK _ _ ⟨?_,rfl⟩
   rw [zct,if_neg hc,ka5]
 ·intro acc J' hI2b
  obtain ⟨rfl,rfl⟩:=hI2b
  refine ⟨trivial,zi fun l J2 hl e2 hlv=>hq l J2 e2 hl ?_⟩
  rw [hlv,qx]
theorem znR{Z:zK}{i j:Nat}{c:EW}{a:Addr}{vs:List V}(f:V->Bool)(h:J a=some (.list vs))(hl:vs.length<=1000)(hi:qz Z i=some (.ref a))(hj:∀ v,qz (jP Z j v) j=some v)
  (step:∀ (v:V) (K:V->zc->Prop),v∈vs->K (.bool (f v)) J->c (jP Z j v) J K noP)
  (hq:∀ a J',Ext J J'->J a=none->J' a=some (.list (vs.filter f))->Q (.ref a) J'):qU j (zai (loc i)) (some c) (loc j) Z J Q P:=by
 simp only [yH,zak,zu,hi,zg]
 refine qI h ⟨by unfold lim;exact leN (lin r1 V0 (.num 1000000) [(0,1,V0,.num 1000)] rfl (leI hl)),?_⟩
 refine qT (fun k acc J'=>J'=J/\acc=(vs.take k).filter f) ⟨rfl,rfl⟩ ?_ ?_
 ·intro k v acc J' K' hv hI6a hK'
  obtain ⟨rfl,rfl⟩:=hI6a
  refine ⟨.inl h,?_⟩
  rw [j7]
  refine step v _ (kao hv) ?_
  simp only [zn,zu,hj]
  split
  ·rename_i hc
   refine hK' _ _ ⟨rfl,?_⟩
   rw [kaN,hv,ka8]
   show _=_++List.filter f [v]
   rw [List.filter_cons_of_pos hc];rfl
  ·rename_i hc
   refine hK' _ _ ⟨rfl,?_⟩
   rw [kaN,hv,ka8]
   show _=_++List.filter f [v]
   rw [List.filter_cons_of_neg hc,List.filter_nil,ka5]
 ·intro acc J' hI2b
  obtain ⟨rfl,rfl⟩:=hI2b
  refine ⟨.inl h,zi fun c J1 hc e1 hcv=>hq c J1 e1 hc ?_⟩
  rw [hcv,kba]
end
noncomputable def sd(S:List Int)(p:Int × Int):Bool:=decide (p.1∈S)==decide (p.2∈S)
noncomputable def sdV(J:zc)(S:List Int):V->Bool
 | .ref t=>match J t with | some (.tup [.int x,.int y])=>sd S (x,y) | _=>false
 | _=>false
theorem Prs.filter{J:zc}{S:List Int}{vs:List V}{rs:Rd2}(h:Prs J vs rs):Prs J (vs.filter (sdV J S)) (rs.filter (sd S)):=by
 induction h with
 | nil=>exact .nil
 | @cons t x y vs rs h1 _ ih =>
  have e:sdV J S (.ref t)=sd S (x,y):=by
   show (match J t with | some (.tup [.int x,.int y])=>sd S (x,y) | _=>false)=_
   rw [h1]
  rw [kcx,kcx,e]
  split
  ·exact .cons h1 ih
  ·exact ih
theorem zpM{S:List Int}{p:Int × Int}(h:sd S p=true):p.1∈S ↔ p.2∈S:=by
 unfold sd at h
 rw [beq_iff_eq] at h
 exact decide_eq_decide.mp h
theorem zsC{m:Int}{qs:Rd2}{S:List Int}{z:Int}(h:∀ p∈qs,sd S p=true)(hm:m∉S)(hz:z∈S)(h0:0<=z)(hzm:z<m):¬ Net m qs:=fun n=>by
 have key:∀ {a b:Int},yz qs a b->b∈S->a∈S:=fun r=>by
  induction r with
  | refl=>exact id
  | fwd _ hp ih=>exact fun hc=>ih ((zpM (h _ hp)).mpr hc)
  | bwd _ hp ih=>exact fun hc=>ih ((zpM (h _ hp)).mp hc)
 exact hm (key (n.conn z h0 hzm) hz)
theorem zkE{n:Nat}{f:Nat->Bool}{x:Int}:x∈zfz n f ↔ ∃ k:Nat,x=k/\k<n/\f k=true:=by
 unfold zfz
 rw [kau]
 constructor
 ·rintro ⟨k,hk,rfl⟩
  rw [kbi,kam] at hk
  exact ⟨k,rfl,hk⟩
 ·rintro ⟨k,rfl,hk⟩
  exact ⟨k,kbi.mpr ⟨kam.mpr hk.1,hk.2⟩,rfl⟩
theorem zq0{n:Nat}{f:Nat->Bool}:(zfz n f).length<=n:=by
 unfold zfz
 rw [kaK]
 exact kai (kbO ..) (by rw [kbg];exact kaB _)
section
variable {T:TC} {d:Nat} {J:zc} {Q:V->zc->Prop} {P:Nat->zc->Prop}
structure CS(J0 J:zc)(so c:Addr)(S:List Int)(qs:Rd2):Prop where
 e:Ext J0 J
 c0:J0 c=none
 ne:so≠c
 so:J so=some (.list (zs S))
 roads:zS J c qs
 few:qs.length<=40
 all:∀ p∈qs,sd S p=true
noncomputable def coF(cell lone:Int)(k:Nat):Bool:=((k:Int)==lone) || decide (((cell.fdiv 11+7*(k:Int))*((k:Int)+3)).fmod 5<2)
theorem zsD{J0:zc}{S:List Int}{qs:Rd2}{so c:Addr}{k:Int}{o0 o1 o2 o3 o7:Option V}{K:Out->zK->zc->Prop}(C:CS J0 J so c S qs)(hk1:1<=k)(hk:k<S.length)(hS:S.length<=10)
  (hK:∀ J' qs',CS J0 J' so c S qs'->K .next [o0,o1,o2,o3,some (.ref so),some (.ref c),some (.int k),o7] J') :
  yM T d [o0,o1,o2,o3,some (.ref so),some (.ref c),some (.int k),o7] J K P:=by
 obtain ⟨vs,h1,h2⟩:=id C.roads
 unfold yM
 simp only [qr,qA,jw,zu,zj,zk,zg]
 refine qa h1 ?_
 have hvl:=h2.length
 by_cases hl:(vs.length:Int)<40
 ·refine zZ (decide_eq_true hl) ?_
  simp only [jD,zgI,zaY,zC,zM,qv,yK,z1,zu,zj,zk,zg,ze]
  refine ⟨zI h1 trivial,?_⟩
  have g1:(k - 1).toNat<S.length:=by exact ltN (lit r3 V0 V1 [(1,1,V2,V1),(2,1,V0,.sub V2 N1)] rfl hk (tnn (lin r1 N0 (.sub V0 N1) [(0,1,N1,V0)] rfl hk1)))
  have g2:k.toNat<S.length:=by exact ltN (lit r3 V0 V1 [(1,1,V2,V1),(2,1,V0,V2)] rfl hk (tnn (lin r1 N0 V0 [(0,1,N1,V0)] rfl hk1)))
  refine ⟨by exact lin r1 N0 (.sub V0 N1) [(0,1,N1,V0)] rfl hk1,qm C.so (qq (zbb (kae g1)) ⟨by exact kaA ‹_›,qm C.so (qq (zbb (kae g2)) ⟨(by decide:2<=lim),zi fun t J1 ht e1 htv=>?_⟩)⟩)⟩
  have h1':=e1 _ _ h1
  refine zI h1' ⟨by unfold lim;exact ltN (lit r1 V0 (.num 1000000) [(1,1,V0,.num 40)] rfl hl),hK _ _ ⟨(C.e.trans e1).put C.c0 _,C.c0,C.ne,?_,zS.push h1' (h2.ext e1) htv,?_,?_⟩⟩
  ·rw [zO _ C.ne];exact e1 _ _ C.so
  ·rw [kas,kaj,kaD];exact leN (lin r2 (.add V0 (.add N0 N1)) (.num 40) [(2,-1,V1,V0),(1,1,V1,.num 40)] rfl (eqI hvl) hl)
  ·intro p hp
   rcases kaq.mp hp with hp | hp
   ·exact C.all p hp
   ·rw [kac.mp hp]
    unfold sd
    rw [decide_eq_true (kbo g1),decide_eq_true (kbo g2)];rfl
 ·refine zQ (decide_eq_false hl) ?_
  exact hK J qs C
theorem ziM(h:FnW T "_law_cut_off" 3 5 (jB T)){m cell:Int}{rs:Rd2}{r:Addr}(n:Net m rs)(hm0:0<m)(hr:zS J r rs)
  (hq:∀ c J' qs,J c=none->Ext J J'->zS J' c qs->qs.length<=40->¬ Net m qs->Q (.ref c) J'):zp T (d+1) "_law_cut_off" [.int m,.ref r,.int cell] J Q P:=by
 have hm:=n.m0;have hm':=n.m10
 refine h d _ _ _ _ rfl ?_
 unfold jB
 rw [zD]
 simp only [qh,jv,z1,zu,qd,qf,qc,zj,zk,zw,zx,ze]
 refine ⟨by lia,?_⟩
 obtain ⟨l0,l1⟩:=zdd (c:=cell) hm0
 revert l0 l1
 generalize cell.fmod m=lone
 intro l0 l1
 rw [zD]
 refine zlL (coF cell lone) hm hm' rfl (fun v=>rfl) (fun k K hk hK=>?_) fun so J1 e1 hso0 hso=>?_
 ·simp only [zej,qA,jv,zd1,q9,yy,z1,zu,zw,zx,zj,zk,ze,Cmp.run,zn]
  unfold coF at hK
  cases hkl:(k:Int)==lone with
  | true=>rw [hkl] at hK;exact hK
  | false =>
   rw [hkl] at hK
   refine ⟨⟨by decide,zba (by decide)⟩,zel (by decide) (by decide),wA (by lia) (by lia),by decide,?_⟩
   simpa using hK
 simp only [zw,zx]
 rw [zD]
 obtain ⟨vs,hr1,hr2⟩:=id hr
 generalize hS:zfz m.toNat (coF cell lone)=S at hso
 have hSl:S.length<=10:=by rw [<-hS];have:=zq0 (n:=m.toNat) (f:=coF cell lone);lia
 have hlS:lone∈S:=by
  rw [<-hS]
  refine zkE.mpr ⟨lone.toNat,(tnn l0).symm,by lia,?_⟩
  unfold coF
  rw [tnn l0];simp
 have hmS:m∉S:=fun hx=>by
  rw [<-hS] at hx
  obtain ⟨k,e,hk,_⟩:=zkE.mp hx
  lia
 refine znR (sdV J1 S) (e1 _ _ hr1) (by have:=hr2.length;have:=n.len;lia) rfl (fun v=>rfl) (fun v K hv hK=>?_) fun c J2 e2 hc0 hc=>?_
 ·obtain ⟨i,hi,rfl⟩:=kaO hv
  obtain ⟨t,x,y,e,hrs,ht⟩:=(hr2.ext e1).get (kae hi)
  rw [e] at hK ⊢
  refine ⟨by decide,jS ht (qq (i:=0) rfl (InV.ints hso ⟨by decide,jS ht (qq (i:=1) rfl (InV.ints hso ?_))⟩))⟩
  simp only [zn,kak,if_false]
  have e':sdV J1 S (.ref t)=(decide (x∈S)==decide (y∈S)):=by
   show (match J1 t with | some (.tup [.int x,.int y])=>sd S (x,y) | _=>false)=_
   rw [ht];rfl
  rw [<-e']
  exact hK
 simp only [zw,zx]
 have hne:so≠c:=fun e=>by rw [e] at hso;rw [hc0] at hso;cases hso
 have C0:CS J J2 so c S (rs.filter (sd S)):=⟨e1.trans e2,e1.none hc0,hne,e2 _ _ hso,⟨_,hc,((hr2.ext e1).filter (S:=S)).ext e2⟩,kai (kbO ..) n.len,fun p hp=>(kbi.mp hp).2⟩
 rw [zD,yL]
 simp only [zdE,jw,zu,z1,zj,zk,ze,zg]
 refine qa (e2 _ _ hso) ?_
 rw [qb]
 refine ⟨by unfold jJ;lia,by unfold jJ;lia,?_⟩
 refine qg (fun i Z J'=>X3 fun o6 o7 qs=>Z=[some (.int m),some (.ref r),some (.int cell),some (.int lone),some (.ref so),some (.ref c),o6,o7]/\CS J J' so c S qs) ⟨_,_,_,rfl,C0⟩ ?_ ?_
 ·intro i v Z J' K' hv hI6a hK
  obtain ⟨_,_,qs,rfl,C⟩:=hI6a
  obtain ⟨hi,rfl⟩:=jh hv
  refine ⟨trivial,?_⟩
  exact zsD (T:=T) (d:=d) C (by lia) (by lia) hSl fun J'' qs' C'=>hK .next _ J'' ⟨_,_,qs',rfl,C'⟩
 ·rintro Z J' ⟨_,_,qs,rfl,C⟩
  refine ⟨trivial,?_⟩
  exact hq c J' qs C.c0 C.e C.roads C.few (zsC C.all hmS hlS l0 l1)
end
end Mine
end
section
open PySem
namespace Mine
theorem Prs.back{J J':zc}{vs:List V}{rs:Rd2}(h:Prs J' vs rs)(e:Ext J J')(hv:∀ u∈vs,zcy J u):Prs J vs rs:=by
 induction h with
 | nil=>exact .nil
 | @cons t x y vs rs h1 _ ih =>
  refine .cons ?_ (ih fun u hu=>hv u (kar _ hu))
  have ha:=(hv _ (kaG ..)).any
  cases ha with
  | list h2=>have:=e _ _ h2;rw [h1] at this;cases this
  | dict h2=>have:=e _ _ h2;rw [h1] at this;cases this
  | tup h2=>have:=e _ _ h2;rw [h1] at this;cases this;exact h2
theorem jU.back{J J':zc}{vm vr:V}(g:jU J' vm vr)(ha:qW J vm vr)(e:Ext J J'):jU J vm vr:=by
 obtain ⟨m,r,rs,rfl,rfl,⟨vs,h1,h2⟩,n⟩:=g
 have hb:=ha.r
 cases hb with
 | list h3 =>
  have:=e _ _ h3
  rw [h1] at this
  cases this
  exact ⟨m,r,rs,rfl,rfl,⟨vs,h3,h2.back e (ha.items _ _ rfl h3).2⟩,n⟩
 | tup h3=>have:=e _ _ h3;rw [h1] at this;cases this
 | dict h3=>have:=e _ _ h3;rw [h1] at this;cases this
theorem jU.int{J:zc}{vm vr:V}(g:jU J vm vr):wi2 0 10 vm=true:=by
 obtain ⟨m,r,rs,rfl,_,_,n⟩:=g
 exact decide_eq_true ⟨n.m0,n.m10⟩
theorem jU.is{J:zc}{m:Int}{c:Addr}{o:O}(g:jU J (.int m) (.ref c))(hc:J c=some o):∃ vs rs,o=.list vs/\Prs J vs rs/\Net m rs:=by
 obtain ⟨m',r,rs,em,er,⟨vs,h1,h2⟩,n⟩:=g
 cases em;cases er
 rw [hc] at h1
 exact ⟨vs,rs,Option.some.inj h1,h2,n⟩
theorem Prs.road{J:zc}{vs:List V}{rs:Rd2}(h:Prs J vs rs):∀ u∈vs,zcy J u:=fun u hu=>by
 obtain ⟨i,hi,rfl⟩:=kaO hu
 obtain ⟨t,x,y,e,hrs,ht⟩:=h.get (kae hi)
 rw [e]
 refine ⟨.tup ht,fun a xs ea ha w hw=>?_⟩
 cases ea
 rw [ht] at ha
 cases ha
 rcases kad.mp hw with rfl | hw
 ·exact .int _
 ·rw [kac.mp hw];exact .int _
theorem qW.roads{J:zc}{vm:V}{c:Addr}{vs:List V}(hm:wU J vm)(hc:J c=some (.list vs))(hl:vs.length<=1000)(hr:∀ u∈vs,zcy J u):qW J vm (.ref c) :=
 ⟨hm,.list hc,fun a us e ha=>by cases e;rw [hc] at ha;cases ha;exact ⟨hl,hr⟩⟩
theorem qW.other{J:zc}{vm vr:V}(hm:wU J vm)(hv:vr=.none\/(∃ a xs,vr=.ref a/\J a=some (.tup xs))\/∃ a xs,vr=.ref a/\J a=some (.dict xs)):qW J vm vr/\∀ m,vm=.int m->¬ jU J vm vr:=by
 rcases hv with rfl | ⟨a,xs,rfl,ha⟩ | ⟨a,xs,rfl,ha⟩
 ·exact ⟨⟨hm,.none,fun a us e=>by cases e⟩,fun m em g=>by obtain ⟨_,_,_,_,e,_⟩:=g;cases e⟩
 ·refine ⟨⟨hm,.tup ha,fun b us e hb=>by cases e;rw [ha] at hb;cases hb⟩,fun m em g=>?_⟩
  subst em;obtain ⟨_,_,e,_⟩:=g.is ha;cases e
 ·refine ⟨⟨hm,.dict ha,fun b us e hb=>by cases e;rw [ha] at hb;cases hb⟩,fun m em g=>?_⟩
  subst em;obtain ⟨_,_,e,_⟩:=g.is ha;cases e
structure zar(m:Int)(xs:List V):Prop where
 any:∀ J:zc,∀ u∈xs,wU J u
 no:∀ x y,xs=[.int x,.int y]->¬ ((0<=x/\x<=m)/\(0<=y/\y<=m)/\x≠y)
theorem zar.rev{m:Int}{xs:List V}(h:zar m xs):zar m xs.reverse :=
 ⟨fun J u hu=>h.any J u (List.mem_reverse.mp hu),fun x y e ok=>h.no y x (by rw [<-List.reverse_reverse xs,e];rfl) ⟨ok.2.1,ok.1,Ne.symm ok.2.2⟩⟩
inductive BV(J:zc)(m:Int):V->Prop
 | none:BV J m .none
 | list {a xs}:J a=some (.list xs)->BV J m (.ref a)
 | tup {a xs}:J a=some (.tup xs)->zar m xs->BV J m (.ref a)
theorem BV.ext{J J':zc}{m:Int}{v:V}(h:BV J m v)(e:Ext J J'):BV J' m v:=by
 cases h with
 | none=>exact .none
 | list h=>exact .list (e _ _ h)
 | tup h b=>exact .tup (e _ _ h) b
theorem BV.road{J:zc}{m:Int}{v:V}(h:BV J m v):zcy J v/\¬ RdG J m v:=by
 cases h with
 | none=>exact ⟨⟨.none,fun a xs e=>by cases e⟩,fun g=>by obtain ⟨_,_,_,e,_⟩:=g;cases e⟩
 | list h=>exact ⟨⟨.list h,fun a xs e ha=>by cases e;rw [h] at ha;cases ha⟩,fun g=>by obtain ⟨_,_,_,e,ha,_⟩:=g;cases e;rw [h] at ha;cases ha⟩
 | tup h b =>
  refine ⟨⟨.tup h,fun a xs e ha=>by cases e;rw [h] at ha;cases ha;exact b.any _⟩,fun g=>?_⟩
  obtain ⟨_,x,y,e,ha,ok⟩:=g
  cases e
  rw [h] at ha
  cases ha
  exact b.no x y rfl ok
section
variable {T:TC} {d:Nat} {J:zc} {Q:V->zc->Prop} {P:Nat->zc->Prop}
theorem zsj{Z:zK}{i j:Nat}{tp:Addr}{vs:List V}{cell n:Int}(hi:qz Z i=some (.ref tp))(hj:qz Z j=some (.int cell))(ht:J tp=some (.list vs))(hn:n≠0)(hn':n.natAbs<1073741824)
  (hK:∀ v J',Ext J J'->(∀ c,v=.ref c->J c=none)->(v=.none\/(∃ a xs,v=.ref a/\J' a=some (.tup xs))\/∃ a xs,v=.ref a/\J' a=some (.dict xs))->Q v J') :
  zT (qw (zd (val .none) (zd (zdD (loc i)) (zd zaQ zv)))) (jG (wn (loc j) (val (.int n))) (val (.int 3))) Z J Q P:=by
 simp only [qv,jp,zC,zM,zmy,zcY,z1,zu,hi,zg]
 refine jX ht (zi fun a1 J1 k1 e1 h1=>zi fun a2 J2 k2 e2 h2=>⟨(by decide:3<=lim),zi fun c J3 _ e3 h3=>?_⟩)
 simp only [jv,yy,z1,zu,hj,ze,zg]
 obtain ⟨i0,i1⟩:=zdd (c:=cell.fdiv n) (n:=3) (by decide)
 refine ⟨⟨hn,zba hn'⟩,by decide,zcF h3 i0 i1 fun v hv=>?_⟩
 simp only [kad,kay,or_false] at hv
 refine hK v J3 (e1.trans (e2.trans e3)) (fun c e=>?_) ?_
 ·rcases hv with rfl | rfl | rfl
  ·cases e
  ·cases e;exact k1
  ·cases e;exact e1.none k2
 rcases hv with rfl | rfl | rfl
 ·exact .inl rfl
 ·exact .inr (.inl ⟨_,_,rfl,(e2.trans e3) _ _ h1⟩)
 ·exact .inr (.inr ⟨_,_,rfl,e3 _ _ h2⟩)
theorem zr9{vs:List V}(h:vs≠[]):((kaE 41 vs).flatten.take 41).length=41:=by
 rw [kcw,List.length_flatten,List.map_replicate,List.sum_replicate_nat]
 have:vs.length≠0:=fun e=>h (kbF.mp e)
 lia
theorem Net.some{m:Int}{rs:Rd2}(n:Net m rs)(h:0<m):rs≠[]:=fun e=>by
 have key:∀ {a b:Int},yz rs a b->b=a:=fun r=>by
  induction r with
  | refl=>rfl
  | fwd _ hp=>rw [e] at hp;cases hp
  | bwd _ hp=>rw [e] at hp;cases hp
 have:=key (n.conn 0 (kaW _) h)
 exact lif r1 [(1,1,N0,V0),(2,-1,N0,V0)] rfl h this
theorem ztS{m:Int}:zar m [.int 0,.int 0]/\zar m [.int 0,.int (m+1)]/\zar m [.int (-1),.int m]/\zar m [.int 0]/\zar m [.int 0,.int m,.int 0]/\zar m [.bool false,.int m]/\zar m [.str "0", .int m]:=by
 have two:∀ {u w:V},(∀ J,wU J u)->(∀ J,wU J w)->(∀ x y,u=.int x->w=.int y->¬ ((0<=x/\x<=m)/\(0<=y/\y<=m)/\x≠y))->zar m [u,w]:=fun hu hw hn=>⟨fun J z hz=>by
  rcases kad.mp hz with rfl | hz
  ·exact hu J
  ·rw [kac.mp hz];exact hw J,fun x y e=>by cases e;exact hn _ _ rfl rfl⟩
 refine ⟨two (fun _=>.int _) (fun _=>.int _) fun x y e e' h=>?_,two (fun _=>.int _) (fun _=>.int _) fun x y e e' h=>?_,two (fun _=>.int _) (fun _=>.int _) fun x y e e' h=>?_,⟨fun J z hz=>?_,fun x y e=>by cases e⟩,⟨fun J z hz=>?_,fun x y e=>by cases e⟩,two (fun _=>.bool _) (fun _=>.int _) fun x y e=>(by cases e),two (fun _=>.str _) (fun _=>.int _) fun x y e=>by cases e⟩
 ·cases e;cases e';exact h.2.2 rfl
 ·cases e;cases e';exact lif r1 [(0,1,.add V0 N1,V0)] rfl h.2.1.2
 ·cases e;cases e';exact lif (@r1 0) [(0,1,N0,.neg N1)] rfl h.1.1
 ·rw [kac.mp hz];exact .int _
 ·simp only [kad,kay,or_false] at hz
  rcases hz with rfl | rfl | rfl<;>exact .int _
theorem znb{Z:zK}{i:Nat}{w k:Int}{a b:SW}{K:Out->zK->zc->Prop}(h:qz Z i=some (.int w))(yes:w=k->a Z J K P)(no:w≠k->b Z J K P):qy (qk .eq (loc i) (val (.int k))) a b Z J K P:=by
 simp only [qr,qA,zu,z1,h,ze,Cmp.run,zn]
 by_cases hw:w=k
 ·exact zZ (beq_iff_eq.mpr hw) (yes hw)
 ·exact zQ (beq_eq_false_iff_ne.mpr hw) (no hw)
theorem zna{Z:zK}{i j:Nat}{w k m:Int}{a b:SW}{K:Out->zK->zc->Prop}(h:qz Z i=some (.int w))(h':qz Z j=some (.int m))(yes:0<m->a Z J K P)(no:b Z J K P):qy (wQ (qk .eq (loc i) (val (.int k))) (qk .gt (loc j) (val (.int 0)))) a b Z J K P:=by
 simp only [qr,zam,qA,zu,z1,h,h',ze,Cmp.run,zn]
 by_cases hw:w=k
 ·refine zZ (beq_iff_eq.mpr hw) ?_
  by_cases hm:m>0
  ·exact zZ (decide_eq_true hm) (yes hm)
  ·exact zQ (decide_eq_false hm) no
 ·exact zQ (beq_eq_false_iff_ne.mpr hw) no
noncomputable abbrev nnE(m cell way:Int)(r:Addr):zK:=[some (.int m),some (.ref r),some (.int cell),some (.int way),none,none]
def zr0(J:zc)(r:Addr)(K:Out->zK->zc->Prop):Prop:=∀ c vm vr Z J',Ext J J'->(∀ c',vr=.ref c'->c'=r\/J c'=none)->J' c=some (.tup [vm,vr])->qW J' vm vr->¬ jU J' vm vr->K (.ret (.ref c)) Z J'
theorem zr0.new{r:Addr}{K:Out->zK->zc->Prop}(H:zr0 J r K){Z:zK}{J1:zc}{vm vr:V}(e1:Ext J J1)(hf:∀ c',vr=.ref c'->c'=r\/J c'=none)(ha:qW J1 vm vr)(hg:¬ jU J1 vm vr):yT (.tup [vm,vr]) J1 fun v J'=>K (.ret v) Z J' :=
 zi fun c J2 _ e2 hcv=>H c _ _ _ J2 (e1.trans e2) hf hcv (ha.ext e2) fun g=>hg (g.back ha e2)
theorem fmc{p:V->Prop}{x:V}{l:List V}(h:p x)(r:∀ v∈l,p v):∀ v∈x::l,p v:=List.forall_mem_cons.mpr ⟨h,r⟩
theorem zlf(hp:FnW T "_law_put" 3 1 (jI T)){m cell way:Int}{rs:Rd2}{r:Addr}{K:Out->zK->zc->Prop}(n:Net m rs)(hr:zS J r rs)(H:zr0 J r K):ww T (d+1) (nnE m cell way r) J K P:=by
 obtain ⟨vs,hr1,hr2⟩:=id hr
 have hvl:vs.length<=40:=by rw [hr2.length];exact n.len
 obtain ⟨b1,b2,b3,b5,b6,b8,b9⟩:=ztS (m:=m)
 unfold ww
 rw [zD]
 simp only [qh,jp,zaY,zC,zM,zlj,q9,z1,zu,zj,ze]
 refine ⟨(by decide:2<=lim),zi fun t1 J1 _ e1 h1=>⟨(by decide:2<=lim),zi fun t2 J2 _ e2 h2=>⟨(by decide:2<=lim),zi fun t3 J3 _ e3 h3=>⟨(by decide:2<=lim),zi fun t4 J4 _ e4 h4=>⟨(by decide:1<=lim),zi fun t5 J5 _ e5 h5=>⟨(by decide:3<=lim),zi fun t6 J6 _ e6 h6=>⟨(by decide:2<=lim),zi fun t8 J7 _ e7 h8=>⟨(by decide:2<=lim),zi fun t9 J8 _ e8 h9=>⟨(by decide:9<=lim),zi fun l J9 _ e9 hl=>?_⟩⟩⟩⟩⟩⟩⟩⟩⟩
 have f8:=e9
 have f7:=e8.trans f8
 have f6:=e7.trans f7
 have f5:=e6.trans f6
 have f4:=e5.trans f5
 have f3:=e4.trans f4
 have f2:=e3.trans f3
 have f1:=e2.trans f2
 have f0:=e1.trans f1
 have key:∀ v∈[V.ref t1,V.ref t2,V.ref t3,V.ref t4,V.ref t5,V.ref t6,V.none,V.ref t8,V.ref t9],BV J9 m v:=by
  exact fmc (.tup (f1 _ _ h1) b1) (fmc (.tup (f2 _ _ h2) b2) (fmc (.tup (f3 _ _ h3) b3) (fmc (.list (f4 _ _ h4)) (fmc (.tup (f5 _ _ h5) b5) (fmc (.tup (f6 _ _ h6) b6) (fmc (.none) (fmc (.tup (f7 _ _ h8) b8) (fmc (.tup (f8 _ _ h9) b9) (fun _ h=>nomatch h)))))))))
 rw [zD]
 simp only [qh,qv,jv,yy,z1,zu,zw,zx,zj,zk,ze,zg]
 obtain ⟨i0,i1⟩:=zdd (c:=cell.fdiv 6) (n:=9) (by decide)
 refine ⟨⟨by decide,zba (by decide)⟩,by decide,zcF hl i0 i1 fun v hv=>?_⟩
 have hb:=key v hv
 have last:∀ {J':zc} {u:V},Ext J J'->BV J' m u->qi (zau (zd (loc 0) (zd (zr T (d+1) "_law_put" (zd (loc 1) (zd (loc 5) (zd (wn (loc 2) (val (.int 108))) zv)))) zv))) [some (.int m),some (.ref r),some (.int cell),some (.int way),some (.ref l),some u] J' K P:=fun {J' u} e hu=>by
  simp only [jQ,zaY,zC,zM,zL,yy,z1,zu,zj,zk,ze]
  refine ⟨⟨by decide,zba (by decide)⟩,zgR (d:=d) hp (e _ _ hr1) (by exact leN (lin r1 V0 (.num 1000) [(0,1,V0,.num 40)] rfl (leI hvl))) fun c J'' i kn e' hi hc=>⟨(by decide:2<=lim),?_⟩⟩
  have hr':=((hr2.ext e).ext e').road
  obtain ⟨hu1,hu2⟩:=(hu.ext e').road
  refine H.new (e.trans e') (fun c' ec=>by cases ec;exact .inr (e.none kn)) (qW.roads (.int m) hc ?_ fun w hw=>?_) fun g=>?_
  ·exact kai (zgg _ _ _) (kai (kbV hvl) (by decide))
  ·rcases kaq.mp hw with hw | hw
   ·rcases kaq.mp hw with hw | hw
    ·exact hr' w (kbB hw)
    ·rw [kac.mp hw];exact hu1
   ·exact hr' w (kce hw)
  ·obtain ⟨us,rs',eu,hp',n'⟩:=g.is hc
   cases eu
   have hmem:u∈vs.take i++[u]++vs.drop (i+1):=kaZ _ (kbN _ (kac.mpr rfl))
   obtain ⟨j,hj,ej⟩:=kaO hmem
   obtain ⟨t,x,y,e3,hrs,ht⟩:=hp'.get (kae hj)
   rw [ej] at e3
   exact hu2 ⟨t,x,y,e3,ht,n'.ends _ (kao hrs)⟩
 rw [zD,qr]
 simp only [zam,zaU,zdc,zu,zj,zk]
 cases hb with
 | none =>
  exact last f0 .none
 | list ha =>
  exact zdJ ha (last f0 (.list ha))
 | @tup a xs ha bt =>
  refine zdI ha ?_
  simp only [zn,if_true,qA,jv,yy,z1,zu,zj,zk,ze,Cmp.run]
  refine ⟨⟨by decide,zba (by decide)⟩,by decide,?_⟩
  cases hc:(cell.fdiv 54).fmod 2==1 with
  | false =>
   exact last f0 (.tup ha bt)
  | true =>
   refine wE ha (zi fun c J' _ e' hcv=>?_)
   exact last (f0.trans e') (.tup hcv bt.rev)
theorem zka(hp:FnW T "_law_put" 3 1 (jI T))(hc:FnW T "_law_cut_off" 3 5 (jB T))(h:FnW T "_law_no_net" 3 3 (yj T)){m cell:Int}{rs:Rd2}{r:Addr}(n:Net m rs)(hr:zS J r rs)
  (hq:∀ c vm vr J',Ext J J'->(∀ c',vr=.ref c'->c'=r\/J c'=none)->J' c=some (.tup [vm,vr])->qW J' vm vr->¬ jU J' vm vr->Q (.ref c) J'):zp T (d+2) "_law_no_net" [.int m,.ref r,.int cell] J Q P:=by
 obtain ⟨vs,hr1,hr2⟩:=id hr
 have hm:=n.m0;have hm':=n.m10
 have hvl:vs.length<=40:=by rw [hr2.length];exact n.len
 refine h (d+1) _ _ _ _ rfl ?_
 have H:zr0 J r (fun o (_:zK) J'=>Q (match o with | .ret v=>v | .next=>.none) J'):=fun c vm vr Z J' e hf hv ha hg=>hq c vm vr J' e hf hv ha hg
 revert H
 unfold yj
 rw [zD]
 simp only [qh,jv,z1,zu,qd,qf,qc,zj,zk,zw,zx,ze]
 intro H
 refine ⟨by decide,?_⟩
 generalize cell.fmod 6=way
 rw [zD]
 refine znb rfl (fun _=>?_) fun _=>?_
 ·refine ⟨zrM,(by decide:7<=lim),zi fun l J1 _ e1 hl=>?_⟩
  simp only [zcI,zmm,zbM,zbP,yF,yZ,je,wP]
  obtain ⟨i0,i1⟩:=zdd (c:=cell.fdiv 6) (n:=7) (by decide)
  refine ⟨⟨by decide,zba (by decide)⟩,by decide,zcF hl i0 i1 fun v hv=>⟨(by decide:2<=lim),?_⟩⟩
  have key:wU J1 v/\wi2 0 10 v=false:=by
   simp only [kad,kay,or_false] at hv
   rcases hv with rfl | rfl | rfl | rfl | rfl | rfl | rfl
   ·exact ⟨.none,rfl⟩
   ·exact ⟨.int _,rfl⟩
   ·exact ⟨.bool _,rfl⟩
   ·exact ⟨.bool _,rfl⟩
   ·exact ⟨.str _,rfl⟩
   ·exact ⟨.int _,rfl⟩
   ·exact ⟨.int _,by decide +kernel⟩
  exact H.new (Z:=[]) e1 (fun c' ec=>by cases ec;exact .inl rfl) (qW.roads key.1 (e1 _ _ hr1) (by exact leN (lin r1 V0 (.num 1000) [(0,1,V0,.num 40)] rfl (leI hvl))) (hr2.ext e1).road) fun g=>by have:=g.int;rw [key.2] at this;cases this
 ·simp only [qQ]
  rw [zD]
  refine znb rfl (fun _=>?_) fun _=>?_
  ·simp only [jQ,zaY,zC,zM,zu,zj]
   refine zsj (n:=6) rfl rfl hr1 (by decide) (by decide) fun v J1 e1 hfr hv=>⟨(by decide:2<=lim),?_⟩
   obtain ⟨ha,hg⟩:=qW.other (vm:=.int m) (.int m) hv
   exact H.new (Z:=[]) e1 (fun c' ec=>.inr (hfr c' ec)) ha (hg m rfl)
  ·simp only [qQ]
   rw [zD]
   refine zna rfl rfl (fun hm0=>?_) ?_
   ·simp only [jQ,zaY,zC,zM,zL,yy,z1,zu,zj,zk,ze]
    refine ⟨⟨by decide,zba (by decide)⟩,ziM (d:=d) hc n hm0 hr fun c J1 qs kn e1 hq1 hl hno=>⟨(by decide:2<=lim),?_⟩⟩
    obtain ⟨us,hu1,hu2⟩:=hq1
    refine H.new (Z:=[]) e1 (fun c' ec=>by cases ec;exact .inr kn) (qW.roads (.int m) hu1 (by have:=hu2.length;exact leN (lin r2 V0 (.num 1000) [(0,1,V1,.num 40),(2,1,V0,V1)] rfl (leI hl) (eqI this))) hu2.road) fun g=>?_
    obtain ⟨us',rs',eu,hp',n'⟩:=g.is hu1
    cases eu
    rw [hp'.uniq hu2] at n'
    exact hno n'
   ·simp only [qQ]
    rw [zD]
    refine zna rfl rfl (fun hm0=>?_) ?_
    ·simp only [jQ,zaY,zC,zM,zgZ,zju,z1,zu,zj,zk,ze,zg]
     have hne:vs≠[]:=fun e=>n.some hm0 (by have:=hr2.length;rw [e] at this;exact kbF.mp this.symm)
     refine zI hr1 ⟨by decide,by decide,?_,zi fun a1 J1 _ e1 h1=>⟨by decide,jX h1 (zi fun c J2 kn e2 h2=>⟨(by decide:2<=lim),?_⟩)⟩⟩
     ·show vs.length*41<=lim
      unfold lim;exact leN (lin r1 (.mulR V0 41) (.num 1000000) [(0,41,V0,.num 40)] rfl (leI hvl))
     have hl41:((kaE 41 vs).flatten.take 41).length=41:=zr9 hne
     have h2:J2 c=some (.list ((kaE 41 vs).flatten.take 41)):=h2
     refine H.new (Z:=[]) (e1.trans e2) (fun c' ec=>by cases ec;exact .inr (e1.none kn)) (qW.roads (.int m) h2 (by exact leN (lin r1 V0 (.num 1000) [(2,1,V0,.num 41)] rfl (eqI hl41))) fun u hu=>?_) fun g=>?_
     ·have:=kbB hu
      rw [List.mem_flatten] at this
      obtain ⟨l,hl,hul⟩:=this
      rw [List.eq_of_mem_replicate hl] at hul
      exact (hr2.ext (e1.trans e2)).road u hul
     ·obtain ⟨us,rs',eu,hp',n'⟩:=g.is h2
      cases eu
      have:=hp'.length
      have:=n'.len
      exact lif r2 [(2,-1,V0,.num 41),(2,1,V0,V1),(0,1,V1,.num 40)] rfl (eqI hl41) (eqI ‹_›) (leI this)
    ·exact zlf (d:=d) hp n hr H
end
end Mine
end
section
open PySem
namespace Mine
theorem HpG.of{J:zc}{m:Int}{c:Addr}{k:Nat->Int}(hm:0<=m)(hl:L J c m.toNat k)(hk:qB m k):HpG J m (.ref c):=by
 refine ⟨c,zs (lst m.toNat k),rfl,hl,?_,?_⟩
 ·rw [qb,qN];exact tnn hm
 ·rw [kaX]
  intro v hv
  obtain ⟨x,hx,rfl⟩:=kau.mp hv
  unfold lst at hx
  obtain ⟨i,hi,rfl⟩:=kau.mp hx
  have hi':(i:Int)<m:=qD hm (kam.mp hi)
  exact decide_eq_true ⟨hk.lo i hi',hk.hi i hi'⟩
theorem L.same{J:zc}{c:Addr}{m:Int}{f g:Nat->Int}(hf:L J c m.toNat f)(hg:L J c m.toNat g):∀ v:Nat,(v:Int)<m->f v=g v:=fun v hv=>by
 unfold L qJ at hf hg
 rw [hf] at hg
 exact zmT (zqh (O.list.inj (Option.some.inj hg))) v (by exact Mine.jW ‹_›)
structure zjK(m:Int)(rs:Rd2)(f g:Nat->Int)(p way due:Int):Prop where
 l10:way=10->(Rec m rs g->due=6)/\(¬ Rec m rs g->due=5)
 l11:way=11->(Rec m rs f->due=6)/\(¬ Rec m rs f->due=5)
 l12:way=12->(z4 rs p.toNat<=f p.toNat->due=6)/\(f p.toNat<z4 rs p.toNat->due=4)
 oth:way≠10->way≠11->way≠12->due=6
structure zaq(J:zc)(m:Int)(rs:Rd2)(r a b tr:Addr)(f g:Nat->Int)(p:Int)(t:List Int):Prop where
 n:Net m rs
 hr:zS J r rs
 ha:L J a m.toNat f
 hf:qB m f
 hb:L J b m.toNat g
 hg:qB m g
 hp:0<m->0<=p/\p<m
 ht:qJ J tr t
 ok:yJ m rs t
theorem zaq.ext{J J':zc}{m rs r a b tr f g p t}(G:zaq J m rs r a b tr f g p t)(e:Ext J J'):zaq J' m rs r a b tr f g p t :=
 ⟨G.n,G.hr.ext e,G.ha.ext e,G.hf,G.hb.ext e,G.hg,G.hp,G.ht.ext e,G.ok⟩
structure Spo(J:zc)(m:Int)(rs:Rd2)(r a b tr:Addr)(p:Int)(s1 s2 s3 s4:Bool)(vm vr v1 v2 vp vt:V):Prop where
 n0:s4=false->vm=.int m/\vr=.ref r
 n1:s4=true->qW J vm vr/\¬ jU J vm vr
 h10:s3=false->v1=.ref a
 h11:s3=true->Arg J v1/\¬ HpG J m v1
 h20:s2=false->v2=.ref b
 h21:s2=true->Arg J v2/\¬ HpG J m v2
 p0:s1=false->vp=.int p/\vt=.ref tr
 p1:s1=true->(wU J vp/\wi2 0 (m - 1) vp=false)/\zaJ J vt/\∀ c t',vt=.ref c->qJ J c t'->¬ yJ m rs t'
noncomputable def jd(way last:Int)(s1 s2 s3 s4:Bool):Int:=if s4=true then 0 else if s3=true/\2<way/\way<13 then 1 else if s2=true/\7<way/\way<11 then 1 else if s1=true/\way>11 then way - 10 else last
theorem Arg.heap{J:zc}{m:Int}{c:Addr}{k:Nat->Int}(h:L J c m.toNat k)(hm:m<=10):Arg J (.ref c):=Arg.list h (by rw [qb,qN];lia) zhA
theorem zd3{way last:Int}{s1 s2 s3 s4:Bool}(h4:s4=false)(h3:s3=true->2<way->way<13->False)(h2:s2=true->7<way->way<11->False)(h1:s1=true->11<way->False):jd way last s1 s2 s3 s4=last:=by
 unfold jd
 rw [h4,if_neg kan,if_neg fun h=>h3 h.1 h.2.1 h.2.2,if_neg fun h=>h2 h.1 h.2.1 h.2.2,if_neg fun h=>h1 h.1 h.2]
theorem zp1{way last:Int}{s1 s2 s3 s4:Bool}(h4:s4=false)(h3:s3=true->2<way->way<13->False)(h2:s2=true->7<way->way<11->False)(h1:s1=true)(w:11<way):jd way last s1 s2 s3 s4=way - 10:=by
 unfold jd
 rw [h4,if_neg kan,if_neg fun h=>h3 h.1 h.2.1 h.2.2,if_neg fun h=>h2 h.1 h.2.1 h.2.2,if_pos ⟨h1,w⟩]
theorem nt{b:Bool}{p:Prop}(h:b=false)(h':b=true):p:=Bool.noConfusion (h.symm.trans h')
theorem zop{way last k:Int}{s1 s2 s3 s4:Bool}(h4:s4=false)(h3:s3=true->2<way->way<13->False)(h2:s2=true->7<way->way<11->False)(h1:s1=true->11<way->False)(h:last=k):jd way last s1 s2 s3 s4=k:=(zd3 h4 h3 h2 h1).trans h
theorem bc(b:Bool):b=true\/b=false:=(Bool.eq_false_or_eq_true b)
theorem ztE{J:zc}{m:Int}{rs:Rd2}{r a b tr:Addr}{f g:Nat->Int}{p way last:Int}{t:List Int}{s1 s2 s3 s4:Bool}{vm vr v1 v2 vp vt:V}(G:zaq J m rs r a b tr f g p t)(S:Spo J m rs r a b tr p s1 s2 s3 s4 vm vr v1 v2 vp vt)
  (w0:0<=way) (w1:way<=13) (wm:way=12->0<m) (Y:zjK m rs f g p way last):zsY J way vm vr v1 v2 vp vt (jd way last s1 s2 s3 s4):=by
 have hm:=G.n.m0;have hm':=G.n.m10
 have gN:s4=false->jU J vm vr:=fun h=>⟨m,r,rs,(S.n0 h).1,(S.n0 h).2,G.hr,G.n⟩
 have nN:jU J vm vr->s4=false:=fun g=>(bc s4).elim (fun h=>absurd g (S.n1 h).2) id
 have mN:∀ {m'},jU J vm vr->vm=.int m'->m=m':=fun g e=>by rw [(S.n0 (nN g)).1] at e;cases e;rfl
 have g1:s3=false->HpG J m v1:=fun h=>by rw [S.h10 h];exact HpG.of hm G.ha G.hf
 have n1:HpG J m v1->s3=false:=fun g=>(bc s3).elim (fun h=>absurd g (S.h11 h).2) id
 have g2:s2=false->HpG J m v2:=fun h=>by rw [S.h20 h];exact HpG.of hm G.hb G.hg
 have n2:HpG J m v2->s2=false:=fun g=>(bc s2).elim (fun h=>absurd g (S.h21 h).2) id
 have gd:∀ {m' rs' r' a' g'},Gd3 J vm vr v1 m' rs' r' a' g'->s4=false/\s3=false/\m=m'/\rs=rs'/\(∀ v:Nat,(v:Int)<m->g' v=f v):=fun X=>by
  have hN:jU J vm vr:=⟨_,_,_,X.em,X.er,X.hr,X.n⟩
  have h4:=nN hN
  obtain ⟨e1,e2⟩:=S.n0 h4
  have em:=X.em;rw [e1] at em;cases em
  have er:=X.er;rw [e2] at er;cases er
  have hH:HpG J m v1:=by rw [X.e1];exact HpG.of hm X.h X.hg
  have h3:=n1 hH
  have ea:=X.e1;rw [S.h10 h3] at ea;cases ea
  refine ⟨h4,h3,rfl,?_,X.h.same G.ha⟩
  obtain ⟨vs,x1,x2⟩:=X.hr
  obtain ⟨us,y1,y2⟩:=G.hr
  rw [x1] at y1;cases y1
  exact (x2.uniq y2).symm
 have rec_:∀ {g' h':Nat->Int},(∀ v:Nat,(v:Int)<m->g' v=h' v)->(Rec m rs g' ↔ Rec m rs h'):=fun e=>⟨fun R=>R.congr G.n fun v hv=>(e v hv).symm,fun R=>R.congr G.n e⟩
 refine ⟨w0,w1,?_,?_,?_,?_,?_,?_,?_,?_,?_,?_,?_,?_,?_,?_,?_,?_,?_⟩
 ·rcases bc s4 with h | h
  ·exact (S.n1 h).1
  ·rw [(S.n0 h).1,(S.n0 h).2]
   obtain ⟨vs,x1,x2⟩:=G.hr
   exact qW.roads (.int m) x1 (by have:=x2.length;have:=G.n.len;exact leN (lin r2 V0 (.num 1000) [(2,1,V0,V1),(0,1,V1,.num 40)] rfl (eqI ‹_›) (leI this))) x2.road
 ·rcases bc s3 with h | h
  ·exact (S.h11 h).1
  ·rw [S.h10 h];exact Arg.heap G.ha hm'
 ·rcases bc s2 with h | h
  ·exact (S.h21 h).1
  ·rw [S.h20 h];exact Arg.heap G.hb hm'
 ·rcases bc s1 with h | h
  ·exact (S.p1 h).1.1
  ·rw [(S.p0 h).1];exact .int p
 ·rcases bc s1 with h | h
  ·exact (S.p1 h).2.1
  ·rw [(S.p0 h).2];exact .nums G.ht (by have:=G.ok.len;exact leN (lin r2 V0 (.num 100) [(0,1,V1,.num 10),(2,1,V0,V1)] rfl hm' this))
 ·intro hn
  have:s4=true:=(bc s4).elim id fun h=>absurd (gN h) hn
  unfold jd;rw [if_pos this]
 ·intro h0 h1 m' em gn hh
  have h4:=nN gn
  cases mN gn em
  have:s3=true:=(bc s3).elim id fun h=>absurd (g1 h) hh
  unfold jd;rw [h4,this,if_neg kan,if_pos ⟨rfl,by assumption,by exact lit r1 V0 (.num 13) [(0,1,V0,.num 12)] rfl h1⟩]
 ·intro h0 h1 m' em gn gh hh
  have h4:=nN gn
  cases mN gn em
  have h3:=n1 gh
  have:s2=true:=(bc s2).elim id fun h=>absurd (g2 h) hh
  unfold jd;rw [h4,h3,this,if_neg kan,if_neg (fun h=>kan h.1),if_pos ⟨rfl,by assumption,by exact lit r1 V0 (.num 11) [(0,1,V0,.num 10)] rfl h1⟩]
 ·intro hw m' rs' r' a' g' X hv
  obtain ⟨h4,h3,rfl,rfl,_⟩:=gd X
  have:s1=true:=by
   rcases bc s1 with h | h
   ·exact h
   ·have hp:=G.hp (wm hw)
    rw [(S.p0 h).1,show wi2 0 (m - 1) (.int p)=true from decide_eq_true ⟨hp.1,by exact lin r2 V0 (.sub V1 N1) [(1,1,V0,V1)] rfl hp.2⟩] at hv
    cases hv
  rw [zp1 h4 (fun q _ _=>nt h3 q) (fun _ _ q=>by exact lif r1 [(2,-1,V0,.num 12),(1,1,V0,.num 11)] rfl hw q) this (by exact lit r1 (.num 11) V0 [(2,-1,V0,.num 12)] rfl hw)];exact liq r1 (.sub V0 (.num 10)) (.num 2) [(2,1,V0,.num 12)] rfl hw
 ·intro hw m' rs' r' em er n' hr' hb
  have gn:jU J vm vr:=⟨m',r',rs',em,er,hr',n'⟩
  have h4:=nN gn
  cases mN gn em
  rw [(S.n0 h4).2] at er
  cases er
  have ers:rs=rs':=by
   obtain ⟨vs,x1,x2⟩:=hr'
   obtain ⟨us,y1,y2⟩:=G.hr
   rw [x1] at y1;cases y1
   exact (x2.uniq y2).symm
  subst ers
  have:s1=true:=by
   rcases bc s1 with h | h
   ·exact h
   ·exact absurd G.ok (hb tr t (S.p0 h).2 G.ht)
  rw [zp1 h4 (fun _ _ q=>by exact lif r1 [(2,-1,V0,.num 13),(1,1,V0,.num 13)] rfl hw q) (fun _ _ q=>by exact lif r1 [(2,-1,V0,.num 13),(1,1,V0,.num 11)] rfl hw q) this (by exact lit r1 (.num 11) V0 [(2,-1,V0,.num 13)] rfl hw)];exact liq r1 (.sub V0 (.num 10)) (.num 3) [(2,1,V0,.num 13)] rfl hw
 ·intro hw gn
  exact zop (nN gn) (fun _ q _=>by exact lif r1 [(1,1,V0,.num 3),(1,1,.num 2,V0)] rfl hw q) (fun _ q _=>by exact lif r1 [(1,1,V0,.num 3),(1,1,.num 7,V0)] rfl hw q) (fun _ q=>by exact lif r1 [(1,1,V0,.num 3),(1,1,.num 11,V0)] rfl hw q) (Y.oth (by exact (fun h_=>lif r1 [(1,1,V0,.num 3),(2,-1,V0,.num 10)] rfl hw h_)) (by exact (fun h_=>lif r1 [(1,1,V0,.num 3),(2,-1,V0,.num 11)] rfl hw h_)) (by exact (fun h_=>lif r1 [(1,1,V0,.num 3),(2,-1,V0,.num 12)] rfl hw h_)))
 ·intro hw m' rs' r' a' g' X
  obtain ⟨h4,h3,_⟩:=gd X
  exact zop h4 (fun q _ _=>nt h3 q) (fun _ q _=>by exact lif r1 [(1,1,V0,.num 8),(1,1,.num 7,V0)] rfl hw q) (fun _ q=>by exact lif r1 [(1,1,V0,.num 8),(1,1,.num 11,V0)] rfl hw q) (Y.oth (by exact (fun h_=>lif r1 [(1,1,V0,.num 8),(2,-1,V0,.num 10)] rfl hw h_)) (by exact (fun h_=>lif r1 [(1,1,V0,.num 8),(2,-1,V0,.num 11)] rfl hw h_)) (by exact (fun h_=>lif r1 [(1,1,V0,.num 8),(2,-1,V0,.num 12)] rfl hw h_)))
 ·intro h0 hw m' rs' r' a' g' c k X ec hl hk
  obtain ⟨h4,h3,rfl,rfl,_⟩:=gd X
  have h2:=n2 (by rw [ec];exact HpG.of hm hl hk)
  exact zop h4 (fun q _ _=>nt h3 q) (fun q _ _=>nt h2 q) (fun _ q=>by exact lif r1 [(1,1,V0,.num 10),(1,1,.num 11,V0)] rfl hw q) (Y.oth (by exact (fun h_=>lif r1 [(1,1,V0,.num 10),(2,-1,V0,.num 10)] rfl hw h_)) (by exact (fun h_=>lif r1 [(1,1,V0,.num 10),(2,-1,V0,.num 11)] rfl hw h_)) (by exact (fun h_=>lif r1 [(1,1,V0,.num 10),(2,-1,V0,.num 12)] rfl hw h_)))
 ·intro hw m' rs' r' a' g' c k X ec hl hk
  obtain ⟨h4,h3,rfl,rfl,_⟩:=gd X
  have h2:=n2 (by rw [ec];exact HpG.of hm hl hk)
  have ec':=ec;rw [S.h20 h2] at ec';cases ec'
  have hs:=hl.same G.hb
  rw [rec_ hs]
  rw [zd3 h4 (fun q _ _=>nt h3 q) (fun q _ _=>nt h2 q) (fun _ q=>by exact lif r1 [(2,1,V0,.num 10),(1,1,.num 11,V0)] rfl hw q)]
  exact Y.l10 hw
 ·intro hw m' rs' r' a' g' X
  obtain ⟨h4,h3,rfl,rfl,hs⟩:=gd X
  rw [rec_ hs]
  rw [zd3 h4 (fun q _ _=>nt h3 q) (fun _ _ q=>by exact lif r1 [(2,-1,V0,.num 11),(1,1,V0,.num 11)] rfl hw q) (fun _ q=>by exact lif r1 [(2,1,V0,.num 11),(1,1,.num 11,V0)] rfl hw q)]
  exact Y.l11 hw
 ·intro hw m' rs' r' a' g' p' X ep h0 h1
  obtain ⟨h4,h3,rfl,rfl,hs⟩:=gd X
  have hs1:s1=false:=by
   rcases bc s1 with h | h
   ·have:=(S.p1 h).1.2
    rw [ep,show wi2 0 (m - 1) (.int p')=true from decide_eq_true ⟨h0,by exact lin r2 V0 (.sub V1 N1) [(1,1,V0,V1)] rfl h1⟩] at this
    cases this
   ·exact h
  rw [(S.p0 hs1).1] at ep
  cases ep
  rw [hs p.toNat (by exact lit r3 V0 V1 [(1,1,V2,V1),(2,1,V0,V2)] rfl h1 (tnn (h0)))]
  rw [zd3 h4 (fun q _ _=>nt h3 q) (fun _ _ q=>by exact lif r1 [(2,-1,V0,.num 12),(1,1,V0,.num 11)] rfl hw q) (fun q _=>nt hs1 q)]
  exact Y.l12 hw
 ·intro hw m' rs' r' a' t' em er n' hr' et hi ok
  have gn:jU J vm vr:=⟨m',r',rs',em,er,hr',n'⟩
  have h4:=nN gn
  cases mN gn em
  rw [(S.n0 h4).2] at er
  cases er
  have ers:rs=rs':=by
   obtain ⟨vs,x1,x2⟩:=hr'
   obtain ⟨us,y1,y2⟩:=G.hr
   rw [x1] at y1;cases y1
   exact (x2.uniq y2).symm
  subst ers
  have hs1:s1=false:=by
   rcases bc s1 with h | h
   ·exact absurd ok ((S.p1 h).2.2 a' t' et hi)
   ·exact h
  exact zop h4 (fun _ _ q=>by exact lif r1 [(2,-1,V0,.num 13),(1,1,V0,.num 13)] rfl hw q) (fun _ _ q=>by exact lif r1 [(2,-1,V0,.num 13),(1,1,V0,.num 11)] rfl hw q) (fun q _=>nt hs1 q) (Y.oth (by exact (fun h_=>lif r1 [(2,-1,V0,.num 13),(2,1,V0,.num 10)] rfl hw h_)) (by exact (fun h_=>lif r1 [(2,-1,V0,.num 13),(2,1,V0,.num 11)] rfl hw h_)) (by exact (fun h_=>lif r1 [(2,-1,V0,.num 13),(2,1,V0,.num 12)] rfl hw h_)))
theorem zda{T:TC}(F:NetF T)(h:FnW T "need_net" 2 1 (yr T)):wT T:=⟨F,fun n hr hq=>by
 obtain ⟨vs,x1,x2⟩:=id hr
 exact zdn F h (qW.roads (.int _) x1 (kai (kck x2.length) (kai n.len (by decide))) x2.road) (fun _=>hq) fun hn=>absurd ⟨_,_,_,rfl,rfl,hr,n⟩ hn⟩
theorem zmP{T:TC}(hw:FnW T "is_within" 3 0 (qF T))(h:FnW T "need_heap" 2 1 (ya T)):NHs T:=⟨fun hm hm' hh hg hq=>zcH hw h (Arg.heap hh hm') (fun _=>hq) fun hn=>absurd (HpG.of hm hh hg) hn⟩
section
variable {T:TC} {d:Nat} {J:zc} {Q:V->zc->Prop} {P:Nat->zc->Prop}
theorem znK(LA:zjk T)(hd:FnW T "_law_degrees" 2 4 (jf T))(h:FnW T "_law_last" 6 0 (wf T)){way m p:Int}{rs:Rd2}{r a b:Addr}{f g:Nat->Int}(n:Net m rs)(hr:zS J r rs)(ha:L J a m.toNat f)(hb:L J b m.toNat g)(hp:way=12->0<=p/\p<m)
  (hq:∀ due J',Ext J J'->zjK m rs f g p way due->Q (.int due) J'):zp T (d+3) "_law_last" [.int way,.int m,.ref r,.ref a,.ref b,.int p] J Q P:=by
 have hm:=n.m0;have hm':=n.m10
 have nn:∀ p∈rs,0<=p.1/\0<=p.2:=fun p hp=>⟨(n.ends p hp).1.1,(n.ends p hp).2.1.1⟩
 refine h (d+2) _ _ _ _ rfl ?_
 unfold wf
 rw [zD,qr]
 simp only [zej,zam,qA,z1,zu,qd,qf,qc,zj,zk,ze,Cmp.run,zn]
 by_cases h10:way=10
 ·refine zZ (beq_iff_eq.mpr h10) ?_
  simp only [wK,zaU,zL,zC,zM,zu,zj,zk]
  refine zbX (d:=d) LA n hr hb fun c J1 e1 hc=>?_
  simp only [zn]
  cases c with
  | false =>
   exact hq 5 J1 e1 ⟨fun _=>⟨fun R=>absurd (hc.mpr R) kan,fun _=>rfl⟩,fun h=>by exact ⟨lif r1 [(2,1,V0,.num 10),(2,-1,V0,.num 11)] rfl h10 h,lif r1 [(2,1,V0,.num 10),(2,-1,V0,.num 11)] rfl h10 h⟩,fun h=>by exact ⟨lif r1 [(2,1,V0,.num 10),(2,-1,V0,.num 12)] rfl h10 h,lif r1 [(2,1,V0,.num 10),(2,-1,V0,.num 12)] rfl h10 h⟩,fun h=>absurd h10 h⟩
  | true =>
   simp only [kbj,kak,if_false]
   refine zQ (beq_eq_false_iff_ne.mpr (by exact (fun h_=>lif r1 [(2,1,V0,.num 10),(2,-1,V0,.num 11)] rfl h10 h_))) ?_
   refine zQ (beq_eq_false_iff_ne.mpr (by exact (fun h_=>lif r1 [(2,1,V0,.num 10),(2,-1,V0,.num 12)] rfl h10 h_))) ?_
   exact hq 6 J1 e1 ⟨fun _=>⟨fun _=>rfl,fun R=>absurd (hc.mp rfl) R⟩,fun h=>by exact ⟨lif r1 [(2,1,V0,.num 10),(2,-1,V0,.num 11)] rfl h10 h,lif r1 [(2,1,V0,.num 10),(2,-1,V0,.num 11)] rfl h10 h⟩,fun h=>by exact ⟨lif r1 [(2,1,V0,.num 10),(2,-1,V0,.num 12)] rfl h10 h,lif r1 [(2,1,V0,.num 10),(2,-1,V0,.num 12)] rfl h10 h⟩,fun h=>absurd h10 h⟩
 ·refine zQ (beq_eq_false_iff_ne.mpr h10) (zQ rfl ?_)
  by_cases h11:way=11
  ·refine zZ (beq_iff_eq.mpr h11) ?_
   simp only [wK,zaU,zL,zC,zM,zu,zj,zk]
   refine zbX (d:=d) LA n hr ha fun c J1 e1 hc=>?_
   cases c with
   | false =>
    exact hq 5 J1 e1 ⟨fun h=>absurd h h10,fun _=>⟨fun R=>absurd (hc.mpr R) kan,fun _=>rfl⟩,fun h=>by exact ⟨lif r1 [(2,1,V0,.num 11),(2,-1,V0,.num 12)] rfl h11 h,lif r1 [(2,1,V0,.num 11),(2,-1,V0,.num 12)] rfl h11 h⟩,fun _ h=>absurd h11 h⟩
   | true =>
    refine zQ (beq_eq_false_iff_ne.mpr (by exact (fun h_=>lif r1 [(2,1,V0,.num 11),(2,-1,V0,.num 12)] rfl h11 h_))) ?_
    exact hq 6 J1 e1 ⟨fun h=>absurd h h10,fun _=>⟨fun _=>rfl,fun R=>absurd (hc.mp rfl) R⟩,fun h=>by exact ⟨lif r1 [(2,1,V0,.num 11),(2,-1,V0,.num 12)] rfl h11 h,lif r1 [(2,1,V0,.num 11),(2,-1,V0,.num 12)] rfl h11 h⟩,fun _ h=>absurd h11 h⟩
  ·refine zQ (beq_eq_false_iff_ne.mpr h11) (zQ rfl ?_)
   simp only [qQ]
   rw [zD,qr]
   simp only [zam,qA,z1,zu,zj,zk,ze,Cmp.run,zn]
   by_cases h12:way=12
   ·obtain ⟨p0,p1⟩:=hp h12
    refine zZ (beq_iff_eq.mpr h12) ?_
    simp only [qv,zL,zC,zM,zu,zj,zk,ze,zg]
    refine ha.at p0 (by exact Mine.lt_toNat ‹_›) ?_
    refine yl (d:=d+1) hd hm hm' hr nn fun c J1 e1 _ hcv=>?_
    rw [zaA hm nn] at hcv
    have hcl:L J1 c m.toNat (z4 rs):=hcv
    refine hcl.at p0 (by exact Mine.lt_toNat ‹_›) ?_
    by_cases hlt:f p.toNat<z4 rs p.toNat
    ·refine zZ (decide_eq_true hlt) ?_
     exact hq 4 J1 e1 ⟨fun h=>absurd h h10,fun h=>absurd h h11,fun _=>⟨fun h=>absurd hlt (by exact kb0.mpr ‹_›),fun _=>rfl⟩,fun _ _ h=>absurd h12 h⟩
    ·refine zQ (decide_eq_false hlt) ?_
     exact hq 6 J1 e1 ⟨fun h=>absurd h h10,fun h=>absurd h h11,fun _=>⟨fun _=>rfl,fun h=>absurd h hlt⟩,fun _ _ h=>absurd h12 h⟩
   ·refine zQ (beq_eq_false_iff_ne.mpr h12) ?_
    exact hq 6 J .refl ⟨fun h=>absurd h h10,fun h=>absurd h h11,fun h=>absurd h h12,fun _ _ _=>rfl⟩
end
end Mine
end
section
open PySem
namespace Mine
section
variable {J:zc} {q:Addr} {xs ys:List V} {v vm vr:V} {m:Int}
theorem zkB{a:Addr}{o:O}(h:put J q (.list ys) a=some o)(ho:∀ l,o≠.list l):J a=some o:=by
 have hne:a≠q:=fun e=>by rw [e,zB] at h;exact ho ys (Option.some.inj h).symm
 rwa [zO _ hne] at h
theorem zeh{a:Addr}{o:O}(hq:J q=some (.list xs))(h:J a=some o)(ho:∀ l,o≠.list l):put J q (.list ys) a=some o:=by
 have hne:a≠q:=fun e=>by rw [e,hq] at h;exact ho xs (Option.some.inj h).symm
 rwa [zO _ hne]
theorem wU.keep(hq:J q=some (.list xs))(h:wU J v):wU (put J q (.list ys)) v:=by
 cases h with
 | none=>exact .none
 | bool b=>exact .bool b
 | int i=>exact .int i
 | str x=>exact .str x
 | @list a zs h =>
  by_cases e:a=q
  ·rw [e];exact .list (zB _ _ _)
  ·exact .list (by rw [zO _ e];exact h)
 | tup h=>exact .tup (zeh hq h fun l e=>by cases e)
 | dict h=>exact .dict (zeh hq h fun l e=>by cases e)
theorem zdH{a:Addr}(h:V.ref a≠.ref q):a≠q:=fun e=>h (by rw [e])
theorem Arg.keep(hq:J q=some (.list xs))(hv:v≠.ref q)(h:Arg J v):Arg (put J q (.list ys)) v:=by
 refine ⟨h.any.keep hq,fun a vs e ha=>?_⟩
 subst e
 rw [zO _ (zdH hv)] at ha
 obtain ⟨h1,h2⟩:=h.items a vs rfl ha
 exact ⟨h1,fun u hu=>(h2 u hu).keep hq⟩
theorem HpG.unkeep(hv:v≠.ref q)(h:HpG (put J q (.list ys)) m v):HpG J m v:=by
 obtain ⟨a,vs,rfl,h,l,w⟩:=h
 rw [zO _ (zdH hv)] at h
 exact ⟨a,vs,rfl,h,l,w⟩
theorem zcy.keep(hq:J q=some (.list xs))(h:zcy J v):zcy (put J q (.list ys)) v :=
 ⟨h.any.keep hq,fun a zs e ha u hu=>(h.items a zs e (zkB ha fun l e=>by cases e) u hu).keep hq⟩
theorem qW.keep(hq:J q=some (.list xs))(hr:vr≠.ref q)(h:qW J vm vr):qW (put J q (.list ys)) vm vr:=by
 refine ⟨h.m.keep hq,h.r.keep hq,fun a vs e ha=>?_⟩
 subst e
 rw [zO _ (zdH hr)] at ha
 obtain ⟨h1,h2⟩:=h.items a vs rfl ha
 exact ⟨h1,fun u hu=>(h2 u hu).keep hq⟩
theorem Prs.unkeep{vs:List V}{rs:Rd2}(h:Prs (put J q (.list ys)) vs rs):Prs J vs rs:=by
 induction h with
 | nil=>exact .nil
 | cons h1 _ ih=>exact .cons (zkB h1 fun l e=>by cases e) ih
theorem jU.unkeep(hr:vr≠.ref q)(h:jU (put J q (.list ys)) vm vr):jU J vm vr:=by
 obtain ⟨m,r,rs,rfl,rfl,⟨vs,h1,h2⟩,n⟩:=h
 rw [zO _ (zdH hr)] at h1
 exact ⟨m,r,rs,rfl,rfl,⟨vs,h1,h2.unkeep⟩,n⟩
theorem zhE.keep(hq:J q=some (.list xs))(h:zhE J v):zhE (put J q (.list ys)) v:=by
 rcases h with h | h | h | ⟨a,zs,e,h⟩
 ·exact .inl h
 ·exact .inr (.inl h)
 ·exact .inr (.inr (.inl h))
 ·exact .inr (.inr (.inr ⟨a,zs,e,zeh hq h fun l e=>by cases e⟩))
theorem zik.keep{a:Addr}(hq:J q=some (.list xs))(ha:a≠q)(h:zik J a):zik (put J q (.list ys)) a:=by
 rcases h with ⟨zs,h⟩ | ⟨vs,h,h1,h2,u,hu,h3⟩
 ·exact .inl ⟨zs,zeh hq h fun l e=>by cases e⟩
 ·exact .inr ⟨vs,by rw [zO _ ha];exact h,h1,fun w hw=>(h2 w hw).imp id fun h=>h.keep hq,u,hu,h3.keep hq⟩
theorem zaJ.keep(hq:J q=some (.list xs))(hv:v≠.ref q)(h:zaJ J v):zaJ (put J q (.list ys)) v:=by
 cases h with
 | none=>exact .none
 | dict h=>exact .dict (zeh hq h fun l e=>by cases e)
 | bad h=>exact .bad (h.keep hq (zdH hv))
 | nums h hl=>exact .nums (by unfold qJ at h ⊢;rw [zO _ (zdH hv)];exact h) hl
theorem zaJ.ext{J':zc}(h:zaJ J v)(e:Ext J J'):zaJ J' v:=by
 cases h with
 | none=>exact .none
 | dict h=>exact .dict (e _ _ h)
 | bad h=>exact .bad (h.ext e)
 | nums h hl=>exact .nums (h.ext e) hl
theorem zaJ.back{J':zc}{c:Addr}{t:List Int}(h:zaJ J (.ref c))(e:Ext J J')(hi:qJ J' c t):qJ J c t:=by
 have key:∀ {o},J c=some o->qJ J c t:=fun ho=>by
  have:=e _ _ ho
  unfold qJ at hi ⊢
  rw [hi] at this
  rw [ho,<-this]
 cases h with
 | dict h=>exact key h
 | bad h=>exact h.elim (fun ⟨_,h⟩=>key h) fun ⟨_,h,_⟩=>key h
 | nums h _=>exact key h
end
structure Off(q:Addr)(vr v1 v2 vt:V):Prop where
 r:vr≠.ref q
 v1:v1≠.ref q
 v2:v2≠.ref q
 vt:vt≠.ref q
theorem Spo.ext{J J':zc}{m rs r a b tr p s1 s2 s3 s4 vm vr v1 v2 vp vt}(S:Spo J m rs r a b tr p s1 s2 s3 s4 vm vr v1 v2 vp vt)(e:Ext J J'):Spo J' m rs r a b tr p s1 s2 s3 s4 vm vr v1 v2 vp vt :=
 ⟨S.n0,fun h=>⟨(S.n1 h).1.ext e,fun g=>(S.n1 h).2 (g.back (S.n1 h).1 e)⟩,S.h10,fun h=>⟨(S.h11 h).1.ext e,fun g=>(S.h11 h).2 (g.back (S.h11 h).1 e)⟩,S.h20,fun h=>⟨(S.h21 h).1.ext e,fun g=>(S.h21 h).2 (g.back (S.h21 h).1 e)⟩,S.p0,
  fun h=>⟨⟨(S.p1 h).1.1.ext e,(S.p1 h).1.2⟩,(S.p1 h).2.1.ext e,fun c t' ec hi=>(S.p1 h).2.2 c t' ec ((ec▸(S.p1 h).2.1).back e hi)⟩⟩
theorem Spo.keep{J:zc}{q:Addr}{xs ys:List V}{m rs r a b tr p s1 s2 s3 s4 vm vr v1 v2 vp vt}(S:Spo J m rs r a b tr p s1 s2 s3 s4 vm vr v1 v2 vp vt)(O:Off q vr v1 v2 vt)(hq:J q=some (.list xs)):Spo (put J q (.list ys)) m rs r a b tr p s1 s2 s3 s4 vm vr v1 v2 vp vt :=
 ⟨S.n0,fun h=>⟨(S.n1 h).1.keep hq O.r,fun g=>(S.n1 h).2 (g.unkeep O.r)⟩,S.h10,fun h=>⟨(S.h11 h).1.keep hq O.v1,fun g=>(S.h11 h).2 (g.unkeep O.v1)⟩,S.h20,fun h=>⟨(S.h21 h).1.keep hq O.v2,fun g=>(S.h21 h).2 (g.unkeep O.v2)⟩,S.p0,
  fun h=>⟨⟨(S.p1 h).1.1.keep hq,(S.p1 h).1.2⟩,(S.p1 h).2.1.keep hq O.vt,fun c t' ec hi=>(S.p1 h).2.2 c t' ec (by unfold qJ at hi ⊢;rwa [zO _ (zdH (ec▸O.vt))] at hi)⟩⟩
theorem zqW{J:zc}{q:Addr}{x y:O}:put (put J q x) q y=put J q y:=by
 funext b
 by_cases e:b=q
 ·rw [e,zB,zB]
 ·rw [zO _ e,zO _ e,zO _ e]
structure SQ(J0 J:zc)(m:Int)(rs:Rd2)(r a b tr:Addr)(p:Int)(cf:Nat->Int)(q ce:Addr)(s1 s2 s3 s4:Bool)(vm vr v1 v2 vp vt:V):Prop where
 e:Ext J0 J
 q0:J0 q=none
 hq:J q=some (.list [vm,vr,v1,v2,vp,vt])
 hce:L J ce 4 cf
 ne:ce≠q
 S:Spo J m rs r a b tr p s1 s2 s3 s4 vm vr v1 v2 vp vt
 O:Off q vr v1 v2 vt
theorem SQ.ext{J0 J J':zc}{m rs r a b tr p cf q ce s1 s2 s3 s4 vm vr v1 v2 vp vt}(X:SQ J0 J m rs r a b tr p cf q ce s1 s2 s3 s4 vm vr v1 v2 vp vt)(e:Ext J J'):SQ J0 J' m rs r a b tr p cf q ce s1 s2 s3 s4 vm vr v1 v2 vp vt :=
 ⟨X.e.trans e,X.q0,e _ _ X.hq,X.hce.ext e,X.ne,X.S.ext e,X.O⟩
theorem SQ.put{J0 J:zc}{m rs r a b tr p cf q ce s1 s2 s3 s4 vm vr v1 v2 vp vt s1' s2' s3' s4' vm' vr' v1' v2' vp' vt'}(X:SQ J0 J m rs r a b tr p cf q ce s1 s2 s3 s4 vm vr v1 v2 vp vt)(S:Spo J m rs r a b tr p s1' s2' s3' s4' vm' vr' v1' v2' vp' vt')(O:Off q vr' v1' v2' vt') :
  SQ J0 (put J q (.list [vm',vr',v1',v2',vp',vt'])) m rs r a b tr p cf q ce s1' s2' s3' s4' vm' vr' v1' v2' vp' vt' :=
 ⟨X.e.put X.q0 _,X.q0,zB _ _ _,by have:=X.hce;unfold L qJ at this ⊢;rw [zO _ X.ne];exact this,X.ne,S.keep O X.hq,O⟩
section
variable {T:TC} {d:Nat} {J:zc} {Q:V->zc->Prop} {P:Nat->zc->Prop}
theorem zgz{Z:zK}{i:Nat}{lo hi w:Int}{a b:SW}{K:Out->zK->zc->Prop}(h:qz Z i=some (.int w))(yes:lo<w->w<hi->a Z J K P)(no:¬ (lo<w/\w<hi)->b Z J K P):qy (zbg .lt .lt (val (.int lo)) (loc i) (val (.int hi))) a b Z J K P:=by
 simp only [qr,zet,zu,z1,h,ze,Cmp.run]
 by_cases h1:lo<w
 ·refine zZ (decide_eq_true h1) ?_
  by_cases h2:w<hi
  ·simp only [h2,decide_true,if_true];exact yes h1 h2
  ·simp only [h2,decide_false,kak,if_false];exact no fun h=>h2 h.2
 ·refine zQ (decide_eq_false h1) ?_
  exact no fun h=>h1 h.1
noncomputable abbrev zla(s:Addr)(way:Int)(gd:Addr)(last:Int)(q:Addr)(due:Int)(ce:Addr)(m:Int)(r:Addr)(o9:Option V):zK:=[some (.ref s),some (.int way),some (.ref gd),some (.int last),some (.ref q),some (.int due),some (.ref ce),some (.int m),some (.ref r),o9]
structure SpF(T:TC):Prop where
 put:FnW T "_law_put" 3 1 (jI T)
 odd:FnW T "_law_odd" 1 0 (yW T)
 cut:FnW T "_law_cut_off" 3 5 (jB T)
 net:FnW T "_law_no_net" 3 3 (yj T)
 heap:FnW T "_law_no_heap" 2 1 (j5 T)
 tree:FnW T "_law_no_tree" 3 1 (j4 T)
def zqe(J0:zc)(m:Int)(rs:Rd2)(r a b tr:Addr)(p:Int)(cf:Nat->Int)(way last:Int)(K:Out->zK->zc->Prop):Prop :=
 ∀ c q ce s1 s2 s3 s4 vm vr v1 v2 vp vt Z J',SQ J0 J' m rs r a b tr p cf q ce s1 s2 s3 s4 vm vr v1 v2 vp vt->J' c=some (.tup [.ref q,.int (jd way last s1 s2 s3 s4)])->K (.ret (.ref c)) Z J'
variable {J0:zc} {m:Int} {rs:Rd2} {r a b tr s gd:Addr} {f g:Nat->Int} {p way last:Int} {t:List Int} {cf:Nat->Int} {q ce:Addr} {s1 s2 s3 s4:Bool} {vm vr v1 v2 vp vt:V} {o9:Option V} {K:Out->zK->zc->Prop}
theorem zf4(X:SQ J0 J m rs r a b tr p cf q ce s1 s2 s3 s4 vm vr v1 v2 vp vt)(H:zqe J0 m rs r a b tr p cf way last K):wp T d (zla s way gd last q (jd way last s1 s2 s3 s4) ce m r o9) J K P:=by
 unfold wp
 exact ⟨(by decide:2<=lim),zi fun c J' _ e hc=>H c q ce s1 s2 s3 s4 _ _ _ _ _ _ _ J' (X.ext e) hc⟩
theorem zc5(F:SpF T)(G:zaq J0 m rs r a b tr f g p t)(X:SQ J0 J m rs r a b tr p cf q ce s1 s2 s3 false vm vr v1 v2 vp vt)(H:zqe J0 m rs r a b tr p cf way last K):wq T (d+2) (zla s way gd last q (jd way last s1 s2 s3 false) ce m r o9) J K P:=by
 unfold wq
 rw [zD,qr]
 simp only [qA,jv,qv,z1,zu,zj,zk,zg,ze]
 refine X.hce.at (by decide) (by decide) ?_
 simp only [ze,Cmp.run,zn]
 refine ⟨by decide,?_⟩
 cases hc:(cf 0).fmod 4==1 with
 | false =>
  refine zQ hc ?_
  exact zf4 (T:=T) (d:=d) X H
 | true =>
  refine zZ hc ?_
  rw [zD]
  unfold zql
  simp only [zL,zC,zM,yy,qv,z1,zu,zj,zk,zg,ze]
  refine X.hce.at (by decide) (by decide) ?_
  refine ⟨⟨by decide,zba (by decide)⟩,zka (d:=d) F.put F.cut F.net G.n (G.hr.ext X.e) fun c um ur J1 e1 hf hcv hA hN=>?_⟩
  have X1:=X.ext e1
  refine wE hcv ⟨um,ur,rfl,?_⟩
  unfold zoi zp7
  refine zI X1.hq ⟨by decide,(by decide:(0:Int)<(6:Nat)),zI (zB _ _ _) ⟨by decide,(by decide:(1:Int)<(6:Nat)),?_⟩⟩
  rw [zqW]
  have hne:ur≠.ref q:=fun e=>by
   rcases hf q e with h | h
   ·have:=G.hr;obtain ⟨vs,h1,_⟩:=this;rw [<-h,X.q0] at h1;cases h1
   ·rw [X.hq] at h;cases h
  have X2:=X1.put (s4':=true) (vm':=um) (vr':=ur) ⟨fun h=>(by cases h),fun _=>⟨hA,hN⟩,X1.S.h10,X1.S.h11,X1.S.h20,X1.S.h21,X1.S.p0,X1.S.p1⟩ ⟨hne,X.O.v1,X.O.v2,X.O.vt⟩
  simp only [qh,z1,zw,zx]
  exact zf4 (T:=T) (d:=d) (s4:=true) X2 H
theorem zkP(F:SpF T){c:Addr}{k:Nat->Int}{cell:Int}(hm:0<=m)(hm':m<=10)(hl:L J c m.toNat k)(hq:∀ v J',Ext J J'->(∀ c,v=.ref c->J c=none)->Arg J' v->¬ HpG J' m v->Q v J'):zp T (d+2) "_law_no_heap" [.ref c,.int cell] J Q P :=
 ziC (d:=d) F.put F.odd F.heap hl (by rw [qN];exact leN (lin r2 V0 (.num 100) [(0,1,V1,.num 10),(2,1,V0,V1)] rfl hm' (tnn (hm)))) fun v J' e fr hA hH=>hq v J' e fr hA (by rw [qN,tnn hm] at hH;exact hH)
theorem zc6(F:SpF T)(G:zaq J0 m rs r a b tr f g p t)(hgd:J0 gd=some (.list [.int m,.ref r,.ref a,.ref b,.int p,.ref tr]))(X:SQ J0 J m rs r a b tr p cf q ce s1 s2 false false vm vr v1 v2 vp vt)(H:zqe J0 m rs r a b tr p cf way last K):wt T (d+2) (zla s way gd last q (jd way last s1 s2 false false) ce m r o9) J K P:=by
 unfold wt
 rw [zD,qr]
 simp only [qA,jv,qv,z1,zu,zj,zk,zg,ze]
 refine X.hce.at (by decide) (by decide) ?_
 refine ⟨by decide,?_⟩
 by_cases hc:(cf 1).fmod 3=1
 ·refine zZ (beq_iff_eq.mpr hc) ?_
  rw [zD]
  simp only [wo,zL,zC,zM,yy,qv,z1,zu,zj,zk,zg,ze]
  refine ⟨by decide,qm (X.e _ _ hgd) (qq (i:=2) rfl (X.hce.at (by decide) (by decide) ?_))⟩
  refine ⟨⟨by decide,zba (by decide)⟩,zkP (d:=d) F G.n.m0 G.n.m10 (G.ha.ext X.e) fun v J1 e1 hf hA hN=>?_⟩
  have X1:=X.ext e1
  refine Eq.mpr (j8 X1.hq) ⟨by decide,(by decide:(2:Int)<(6:Nat)),?_⟩
  have hne:v≠.ref q:=fun e=>by have h:=hf q e;rw [X.hq] at h;cases h
  have X2:=X1.put (s3':=true) (v1':=v) ⟨X1.S.n0,X1.S.n1,fun h=>(by cases h),fun _=>⟨hA,hN⟩,X1.S.h20,X1.S.h21,X1.S.p0,X1.S.p1⟩ ⟨X.O.r,hne,X.O.v2,X.O.vt⟩
  refine zgz rfl (fun h0 h1=>?_) fun hno=>?_
  ·have:=zc5 (d:=d) (s:=s) (way:=way) (gd:=gd) (last:=last) (o9:=o9) (P:=P) F G X2 H
   rw [show jd way last s1 s2 true false=1 by unfold jd;rw [if_neg kan,if_pos ⟨rfl,h0,h1⟩]] at this
   exact this
  ·have:=zc5 (d:=d) (s:=s) (way:=way) (gd:=gd) (last:=last) (o9:=o9) (P:=P) F G X2 H
   rw [show jd way last s1 s2 true false=jd way last s1 s2 false false by unfold jd;rw [if_neg (fun h:(true=true/\2<way/\way<13)=>hno h.2),if_neg (fun h:(false=true/\2<way/\way<13)=>kan h.1)]] at this
   exact this
 ·refine zQ (beq_eq_false_iff_ne.mpr hc) ?_
  exact zc5 F G X H
theorem zf5(F:SpF T)(G:zaq J0 m rs r a b tr f g p t)(hgd:J0 gd=some (.list [.int m,.ref r,.ref a,.ref b,.int p,.ref tr]))(X:SQ J0 J m rs r a b tr p cf q ce s1 false false false vm vr v1 v2 vp vt)(H:zqe J0 m rs r a b tr p cf way last K):wu T (d+2) (zla s way gd last q (jd way last s1 false false false) ce m r o9) J K P:=by
 unfold wu
 rw [zD,qr]
 simp only [qA,jv,qv,z1,zu,zj,zk,zg,ze]
 refine X.hce.at (by decide) (by decide) ?_
 refine ⟨by decide,?_⟩
 by_cases hc:(cf 2).fmod 4=1
 ·refine zZ (beq_iff_eq.mpr hc) ?_
  rw [zD]
  simp only [wo,zL,zC,zM,yy,qv,z1,zu,zj,zk,zg,ze]
  refine ⟨by decide,qm (X.e _ _ hgd) (qq (i:=3) rfl (X.hce.at (by decide) (by decide) ?_))⟩
  refine ⟨⟨by decide,zba (by decide)⟩,zkP (d:=d) F G.n.m0 G.n.m10 (G.hb.ext X.e) fun v J1 e1 hf hA hN=>?_⟩
  have X1:=X.ext e1
  refine Eq.mpr (j8 X1.hq) ⟨by decide,(by decide:(3:Int)<(6:Nat)),?_⟩
  have hne:v≠.ref q:=fun e=>by have h:=hf q e;rw [X.hq] at h;cases h
  have X2:=X1.put (s2':=true) (v2':=v) ⟨X1.S.n0,X1.S.n1,X1.S.h10,X1.S.h11,fun h=>(by cases h),fun _=>⟨hA,hN⟩,X1.S.p0,X1.S.p1⟩ ⟨X.O.r,X.O.v1,hne,X.O.vt⟩
  refine zgz rfl (fun h0 h1=>?_) fun hno=>?_
  ·have:=zc6 (d:=d) (s:=s) (way:=way) (last:=last) (o9:=o9) (P:=P) F G hgd X2 H
   rw [show jd way last s1 true false false=1 by unfold jd;rw [if_neg kan,if_neg (fun h:(false=true/\2<way/\way<13)=>kan h.1),if_pos ⟨rfl,h0,h1⟩]] at this
   exact this
  ·have:=zc6 (d:=d) (s:=s) (way:=way) (last:=last) (o9:=o9) (P:=P) F G hgd X2 H
   rw [show jd way last s1 true false false=jd way last s1 false false false by unfold jd;rw [if_neg (fun h:(true=true/\7<way/\way<11)=>hno h.2),if_neg (fun h:(false=true/\7<way/\way<11)=>kan h.1)]] at this
   exact this
 ·refine zQ (beq_eq_false_iff_ne.mpr hc) ?_
  exact zc6 F G hgd X H
theorem zk9(F:SpF T)(G:zaq J0 m rs r a b tr f g p t)(hgd:J0 gd=some (.list [.int m,.ref r,.ref a,.ref b,.int p,.ref tr]))(X:SQ J0 J m rs r a b tr p cf q ce false false false false vm vr v1 v2 vp vt)(H:zqe J0 m rs r a b tr p cf way last K):wv T (d+2) (zla s way gd last q last ce m r o9) J K P:=by
 have hlast:jd way last false false false false=last:=by unfold jd;rw [if_neg kan,if_neg (fun h=>kan h.1),if_neg (fun h=>kan h.1),if_neg (fun h=>kan h.1)]
 have hm:=G.n.m0;have hm':=G.n.m10
 unfold wv
 rw [zD,qr]
 simp only [qA,jv,qv,z1,zu,zj,zk,zg,ze]
 refine X.hce.at (by decide) (by decide) ?_
 refine ⟨by decide,?_⟩
 by_cases hc:(cf 3).fmod 3=1
 ·refine zZ (beq_iff_eq.mpr hc) ?_
  refine ⟨zrM,(by decide:6<=lim),zi fun l J1 _ e1 hl=>?_⟩
  have X1:=X.ext e1
  simp only [zcI,zmm,zmb,zbM,zbP,yF,yZ,je,wP]
  refine X1.hce.at (by decide) (by decide) ?_
  obtain ⟨i0,i1⟩:=zdd (c:=(cf 3).fdiv 3) (n:=6) (by decide)
  refine ⟨⟨by decide,zba (by decide)⟩,by decide,zcF hl i0 i1 fun v hv=>?_⟩
  have key:∀ J':zc,wU J' v/\wi2 0 (m - 1) v=false:=fun J'=>by
   simp only [kad,kay,or_false] at hv
   rcases hv with rfl | rfl | rfl | rfl | rfl | rfl
   ·exact ⟨.int _,rfl⟩
   ·exact ⟨.int _,decide_eq_false (by exact (fun h_=>lif r1 [(0,1,V0,.sub V0 N1)] rfl h_.2))⟩
   ·exact ⟨.none,rfl⟩
   ·exact ⟨.bool _,rfl⟩
   ·exact ⟨.str _,rfl⟩
   ·exact ⟨.int _,decide_eq_false (fun h=>absurd h.2 (by rw [show ((10:Int) ^ (9:Int).toNat)=1000000000 by decide +kernel];exact (fun h_=>lif r1 [(0,1,V0,.num 10),(0,1,.num 1000000000,.sub V0 N1)] rfl hm' h_)))⟩
  refine Eq.mpr (j8 X1.hq) ⟨by decide,(by decide:(4:Int)<(6:Nat)),?_⟩
  rw [zD]
  simp only [wo,zL,zC,zM,yy,qv,z1,zu,zj,zk,zg,ze]
  have e2:Ext J0 (put J1 q (.list ([vm,vr,v1,v2,vp,vt].set (kcO 4) v))):=X1.e.put X1.q0 _
  have c2:L (put J1 q (.list ([vm,vr,v1,v2,vp,vt].set (kcO 4) v))) ce 4 cf:=by have:=X1.hce;unfold L qJ at this ⊢;rw [zO _ X1.ne];exact this
  have S2:=X1.S.keep (ys:=[vm,vr,v1,v2,vp,vt].set (kcO 4) v) X1.O X1.hq
  refine ⟨by decide,qm (e2 _ _ hgd) (qq (i:=5) rfl (c2.at (by decide) (by decide) ?_))⟩
  refine ⟨⟨by decide,zba (by decide)⟩,ziB (d:=d) F.put F.tree (G.ht.ext e2) (G.hr.ext e2) G.ok.len (by have:=G.ok.len;exact leN (lin r2 V0 (.num 50) [(0,1,V1,.num 10),(2,1,V0,V1)] rfl hm' this)) fun u J3 e3 hf hT hN=>?_⟩
  have hq3:=e3 _ _ (zB (J:=J1) (a:=q) (o:=.list ([vm,vr,v1,v2,vp,vt].set (kcO 4) v)))
  refine Eq.mpr (j8 hq3) ⟨by decide,(by decide:(5:Int)<(6:Nat)),?_⟩
  have hne:u≠.ref q:=fun e=>by have h:=hf q e;rw [zB] at h;cases h
  have S3:=S2.ext e3
  have O3:Off q vr v1 v2 u:=⟨X.O.r,X.O.v1,X.O.v2,hne⟩
  have S4:Spo J3 m rs r a b tr p true false false false vm vr v1 v2 v u:=⟨S3.n0,S3.n1,S3.h10,S3.h11,S3.h20,S3.h21,fun h=>(by cases h),fun _=>⟨key J3,hT,hN⟩⟩
  have X4:SQ J0 (put J3 q (.list [vm,vr,v1,v2,v,u])) m rs r a b tr p cf q ce true false false false vm vr v1 v2 v u :=
   ⟨(e2.trans e3).put X.q0 _,X.q0,zB _ _ _,by have:=c2.ext e3;unfold L qJ at this ⊢;rw [zO _ X.ne];exact this,X.ne,S4.keep O3 hq3,O3⟩
  rw [qr]
  simp only [qA,z1,zu,zj,zk,ze,Cmp.run,zn]
  have:=zf5 (d:=d) (s:=s) (way:=way) (last:=last) (o9:=o9) (P:=P) F G hgd X4 H
  by_cases hw:way>11
  ·refine zZ (decide_eq_true hw) ?_
   simp only [qh,yK,z1,zu,zj,zk,ze,zw,zx]
   rw [show jd way last true false false false=way - 10 by unfold jd;rw [if_neg kan,if_neg (fun h=>kan h.1),if_neg (fun h=>kan h.1),if_pos ⟨rfl,hw⟩]] at this
   exact this
  ·refine zQ (decide_eq_false hw) ?_
   rw [show jd way last true false false false=last by unfold jd;rw [if_neg kan,if_neg (fun h=>kan h.1),if_neg (fun h=>kan h.1),if_neg (fun h=>hw h.2)]] at this
   exact this
 ·refine zQ (beq_eq_false_iff_ne.mpr hc) ?_
  have:=zf5 (d:=d) (s:=s) (way:=way) (last:=last) (o9:=o9) (P:=P) F G hgd X H
  rw [hlast] at this
  exact this
end
end Mine
end
section
open PySem
namespace Mine
section
variable {T:TC} {d:Nat} {J:zc} {Q:V->zc->Prop} {P:Nat->zc->Prop}
theorem Spo.start{J:zc}{m:Int}{rs:Rd2}{r a b tr:Addr}{p:Int}:Spo J m rs r a b tr p false false false false (.int m) (.ref r) (.ref a) (.ref b) (.int p) (.ref tr) :=
 ⟨fun _=>⟨rfl,rfl⟩,fun h=>(by cases h),fun _=>rfl,fun h=>(by cases h),fun _=>rfl,fun h=>(by cases h),fun _=>⟨rfl,rfl⟩,fun h=>(by cases h)⟩
theorem zg1(F:SpF T)(hc:FnW T "_law_cell_at" 2 1 (jM T))(h:FnW T "_law_spoilt" 4 6 (yi T)){m p way last:Int}{rs:Rd2}{s r a b tr gd:Addr}{f g:Nat->Int}{t ns:List Int}(hs:jE J s ns)(G:zaq J m rs r a b tr f g p t)
  (hgd:J gd=some (.list [.int m,.ref r,.ref a,.ref b,.int p,.ref tr]))
  (hq:∀ c q ce cf s1 s2 s3 s4 vm vr v1 v2 vp vt J',SQ J J' m rs r a b tr p cf q ce s1 s2 s3 s4 vm vr v1 v2 vp vt->J' c=some (.tup [.ref q,.int (jd way last s1 s2 s3 s4)])->Q (.ref c) J'):zp T (d+3) "_law_spoilt" [.ref s,.int way,.ref gd,.int last] J Q P:=by
 refine h (d+2) _ _ _ _ rfl ?_
 have H:zqe J m rs r a b tr p (fun k=>jq ns (43+(k:Int))) way last (fun o (_:zK) J'=>Q (match o with | .ret v=>v | .next=>.none) J'):=fun c q ce s1 s2 s3 s4 vm vr v1 v2 vp vt Z J' X hcv=>hq c q ce _ s1 s2 s3 s4 vm vr v1 v2 vp vt J' X hcv
 revert H
 unfold yi
 unfold zqr
 intro H
 refine ⟨by decide,jX hgd (zi fun c1 J1 _ e1 h1=>?_)⟩
 refine zI h1 ⟨rfl,?_⟩
 show (zt (zY 4 (zfl (loc 2))) _) [some (.ref s),some (.int way),some (.ref gd),some (.int last),none,none,none,some (.int m),some (.ref r),none] J1 _ P
 refine qm (e1 _ _ hgd) (zi fun q J2 kq e2 h2=>?_)
 simp only [qh,zu,zj,zk,zw,zx]
 rw [zD,qh]
 have q0:J q=none:=e1.none kq
 refine yU (m:=4) (by decide) (by decide) (fun J Q P=>rfl) (fun k=>jq ns (43+(k:Int))) (fun i J' K' hi e' hk=>?_) fun ce J3 kc e3 hce=>?_
 ·simp only [zL,zC,zM,q9,z1,zu,zj,zk,ze]
  exact qn (d:=d+1) hc (hs.ext (e1.trans (e2.trans e'))) (by exact nnI _) (by exact lit r1 (.add (.num 43) V0) (.num 1073741824) [(1,1,V0,.num 4)] rfl hi) fun J'' e''=>hk _ e''
 ·have ne:∀ {x:Addr} {o:O},J x=some o->V.ref x≠.ref q:=fun hx e=>by cases e;rw [q0] at hx;cases hx
  obtain ⟨vs,hr1,_⟩:=id G.hr
  have X:SQ J J3 m rs r a b tr p (fun k=>jq ns (43+(k:Int))) q ce false false false false (.int m) (.ref r) (.ref a) (.ref b) (.int p) (.ref tr) :=
   ⟨e1.trans (e2.trans e3),q0,e3 _ _ h2,hce,fun e=>(by rw [e,h2] at kc;cases kc),Spo.start,⟨ne hr1,ne G.ha,ne G.hb,ne G.ht⟩⟩
  exact zk9 (d:=d) F G hgd X H
end
structure L14(T:TC):Prop where
 A:yg T
 law:zc2 T
 again:zjk T
 low:FnW T "_law_low" 4 2 (za3 T)
 sp:SpF T
 asked:FnW T "_law_asked" 7 0 (yb T)
 told:FnW T "_law_told" 7 2 (wd T)
 last:FnW T "_law_last" 6 0 (wf T)
 tree:FnW T "_law_tree" 2 6 (y9 T)
 spoilt:FnW T "_law_spoilt" 4 6 (yi T)
section
variable {T:TC} {d:Nat} {J J0:zc} {P:Nat->zc->Prop} {m:Int} {rs:Rd2} {r a b tr s gd:Addr} {f g:Nat->Int} {p way last:Int} {t ns:List Int} {K:Out->zK->zc->Prop}
noncomputable abbrev lE(s:Addr)(way:Int)(a b:Addr)(p:Int)(o5 o6:Option V)(m:Int)(r:Addr)(o9 o10:Option V):zK:=[some (.ref s),some (.int way),some (.ref a),some (.ref b),some (.int p),o5,o6,some (.int m),some (.ref r),o9,o10]
theorem zrl:jd way last false false false false=last:=by unfold jd;rw [if_neg kan,if_neg (fun h=>kan h.1),if_neg (fun h=>kan h.1),if_neg (fun h=>kan h.1)]
theorem zq6(F:L14 T){cf:Nat->Int}{q ce:Addr}{s1 s2 s3 s4:Bool}{vm vr v1 v2 vp vt:V}(G:zaq J0 m rs r a b tr f g p t)(hgd:J0 gd=some (.list [.int m,.ref r,.ref a,.ref b,.int p,.ref tr]))(X:SQ J0 J m rs r a b tr p cf q ce s1 s2 s3 s4 vm vr v1 v2 vp vt)(Y:zjK m rs f g p way last)
  (w0:0<=way) (w1:way<=13) (wm:way=12->0<m) (hK:∀ Z J',K (.ret (.bool true)) Z J'):zeu T (d+10) (lE s way a b p (some (.ref gd)) (some (.int last)) m r (some (.ref q)) (some (.int (jd way last s1 s2 s3 s4)))) J K P:=by
 unfold zeu
 rw [zD,qr]
 simp only [zm6,zL,zC,zM,qv,z1,zu,zj,zk,zg,ze]
 refine ⟨by decide,qm X.hq (qq (i:=0) rfl ⟨by decide,qm X.hq (qq (i:=1) rfl ⟨by decide,qm X.hq (qq (i:=2) rfl ⟨by decide,qm X.hq (qq (i:=3) rfl ⟨by decide,qm X.hq (qq (i:=4) rfl ⟨by decide,qm X.hq (qq (i:=5) rfl ?_)⟩)⟩)⟩)⟩)⟩)⟩
 refine zhL (d:=d) F.A F.asked F.told (ztE (G.ext X.e) X.S w0 w1 wm Y) fun J1 e1=>?_
 refine ⟨_,_,.int _,.int _,by rfl,by rfl,?_⟩
 refine zQ (by first | (show (!decide (jd way last s1 s2 s3 s4=jd way last s1 s2 s3 s4))=false;simp) | (show (!(jd way last s1 s2 s3 s4==jd way last s1 s2 s3 s4))=false;simp) | simp [PyData.eqv]) ?_
 simp only [qQ,jQ,qA,zL,zC,zM,qv,z1,zu,zj,zk,zg,ze]
 have e01:=X.e.trans e1
 refine ⟨by decide,qm (e01 _ _ hgd) (qq (i:=5) rfl ?_)⟩
 have A:=ztE (G.ext e01) (Spo.start (J:=J1) (m:=m) (rs:=rs) (r:=r) (a:=a) (b:=b) (tr:=tr) (p:=p)) w0 w1 wm Y
 rw [zrl] at A
 refine zhL (d:=d) F.A F.asked F.told A fun J2 e2=>?_
 simp only [ze,Cmp.run,beq_self_eq_true]
 exact hK _ _
theorem zq7(F:L14 T)(hs:jE J s ns)(G:zaq J m rs r a b tr f g p t)(hgd:J gd=some (.list [.int m,.ref r,.ref a,.ref b,.int p,.ref tr]))(Y:zjK m rs f g p way last)
  (w0:0<=way) (w1:way<=13) (wm:way=12->0<m) (hK:∀ Z J',K (.ret (.bool true)) Z J'):zev T (d+10) (lE s way a b p (some (.ref gd)) (some (.int last)) m r none none) J K P:=by
 unfold zev
 refine zg1 (d:=d+7) F.sp F.law.cell F.spoilt hs G hgd fun c q ce cf s1 s2 s3 s4 vm vr v1 v2 vp vt J' X hcv=>?_
 refine wE hcv ⟨rfl,?_⟩
 exact zq6 (d:=d) F G hgd X Y w0 w1 wm hK
theorem zq8(F:L14 T)(hs:jE J s ns)(n:Net m rs)(hr:zS J r rs)(ha:L J a m.toNat f)(hf:qB m f)(hb:L J b m.toNat g)(hg:qB m g)(hp:0<m->0<=p/\p<m)
  (w0:0<=way) (w1:way<=13) (wm:way=12->0<m) (hK:∀ Z J',K (.ret (.bool true)) Z J'):za4 T (d+10) (lE s way a b p none none m r none none) J K P:=by
 unfold za4
 refine zfi (d:=d+9) F.tree n hr fun tr t J1 e1 _ ht ok=>⟨(by decide:6<=lim),zi fun gd J2 _ e2 hgd=>?_⟩
 have e12:=e1.trans e2
 have G:zaq J2 m rs r a b tr f g p t:=⟨n,hr.ext e12,ha.ext e12,hf,hb.ext e12,hg,hp,ht.ext e2,ok⟩
 refine znK (d:=d+7) F.again F.law.degs F.last n G.hr G.ha G.hb (fun h=>hp (wm h)) fun last J3 e3 Y=>?_
 exact zq7 F (hs.ext (e12.trans e3)) (G.ext e3) (e3 _ _ hgd) Y w0 w1 wm hK
end
end Mine
end
section
open PySem
namespace Mine
section
variable {T:TC} {d:Nat} {J J0:zc} {P:Nat->zc->Prop} {m:Int} {rs:Rd2} {r a b s:Addr} {f g:Nat->Int} {p way:Int} {ns:List Int} {K:Out->zK->zc->Prop}
structure M14(J0 J:zc)(s:Addr)(ns:List Int)(m:Int)(rs:Rd2)(r a b:Addr)(f g:Nat->Int)(p:Int):Prop where
 hs:jE J0 s ns
 n:Net m rs
 hr:zS J0 r rs
 e:Ext J0 J
 a0:J0 a=none
 ne:b≠a
 ha:L J a m.toNat f
 hf:qB m f
 hb:L J b m.toNat g
 hg:qB m g
 hp:0<m->0<=p/\p<m
theorem M14.ext{J':zc}(M:M14 J0 J s ns m rs r a b f g p)(e:Ext J J'):M14 J0 J' s ns m rs r a b f g p:=⟨M.hs,M.n,M.hr,M.e.trans e,M.a0,M.ne,M.ha.ext e,M.hf,M.hb.ext e,M.hg,M.hp⟩
theorem M14.set(M:M14 J0 J s ns m rs r a b f g p){x:Int}(h0:0<=x)(h1:x<=1000000000):M14 J0 (put J a (.list (zs (lst m.toNat (upd f p.toNat x))))) s ns m rs r a b (upd f p.toNat x) g p:=by
 refine ⟨M.hs,M.n,M.hr,M.e.put M.a0 _,M.a0,M.ne,zB _ _ _,⟨fun v hv=>?_,fun v hv=>?_⟩,?_,M.hg,M.hp⟩
 ·unfold upd;split
  ·exact h0
  ·exact M.hf.lo v hv
 ·unfold upd;split
  ·exact h1
  ·exact M.hf.hi v hv
 ·have:=M.hb;unfold L qJ at this ⊢;rw [zO _ M.ne];exact this
theorem zq9(F:L14 T)(M:M14 J0 J s ns m rs r a b f g p)(w0:0<=way)(w1:way<=13)(wm:way=12->0<m)(hK:∀ Z J',K (.ret (.bool true)) Z J'):zew T (d+10) (lE s way a b p none none m r none none) J K P:=by
 have hm:=M.n.m0;have hm':=M.n.m10
 have nn:∀ p∈rs,0<=p.1/\0<=p.2:=fun p hp=>⟨(M.n.ends p hp).1.1,(M.n.ends p hp).2.1.1⟩
 have fin:∀ {J:zc} {f:Nat->Int},M14 J0 J s ns m rs r a b f g p->za4 T (d+10) (lE s way a b p none none m r none none) J K P:=fun M=>zq8 F (M.hs.ext M.e) M.n (M.hr.ext M.e) M.ha M.hf M.hb M.hg M.hp w0 w1 wm hK
 have two:∀ {J:zc} {f:Nat->Int},M14 J0 J s ns m rs r a b f g p->(zt (qy (wQ (qk .eq (jG (zr T (d+10) "_law_cell_at" (zd (loc 0) (zd (val (.int 41)) zv))) (val (.int 16))) (val (.int 2))) (wQ (zbg .lt .lt (val (.int 0)) (loc 7) (val (.int 3))) (qk .lt (yO (loc 8)) (val (.int 9))))) (zaj (loc 2) (loc 4) (zmI (val (.int 10)) (val (.int 9)))) zP) (za4 T (d+10))) (lE s way a b p none none m r none none) J K P:=fun {J f} M=>by
  rw [zD,qr]
  simp only [zam,qA,jv,zL,zC,zM,z1,zu,zj,zk]
  refine qn (d:=d+9) F.law.cell (M.hs.ext M.e) (by decide) (by decide) fun J1 e1=>?_
  have M:=M.ext e1
  refine ⟨by decide,?_⟩
  by_cases h1:(jq ns 41).fmod 16=2
  ·refine zZ (beq_iff_eq.mpr h1) ?_
   by_cases h2:0<m
   ·refine zZ (decide_eq_true h2) ?_
    by_cases h3:m<3
    ·refine zZ (decide_eq_true h3) ?_
     obtain ⟨vs,hr1,hr2⟩:=M.hr.ext M.e
     simp only [jw,zu,zj,zk,zg]
     refine qa hr1 ?_
     obtain ⟨p0,p1⟩:=M.hp h2
     by_cases h4:(vs.length:Int)<9
     ·refine zZ (decide_eq_true h4) ?_
      simp only [zsf,zpO,zbM,zbP,yF,yZ,wP,je]
      refine ⟨zrM,M.ha.set p0 (by exact Mine.lt_toNat ‹_›) fun J' e=>?_⟩
      rw [e]
      exact fin (M.set (x:=10 ^ (9:Int).toNat) (by decide +kernel) (by decide +kernel))
     ·refine zQ (decide_eq_false h4) ?_
      exact fin M
    ·refine zQ (decide_eq_false h3) ?_
     exact fin M
   ·refine zQ (decide_eq_false h2) ?_
    exact fin M
  ·refine zQ (beq_eq_false_iff_ne.mpr h1) ?_
   exact fin M
 unfold zew
 rw [zD,qr]
 simp only [zam,qA,jv,zL,zC,zM,z1,zu,zj,zk]
 refine qn (d:=d+9) F.law.cell (M.hs.ext M.e) (by decide) (by decide) fun J1 e1=>?_
 have M:=M.ext e1
 refine ⟨by decide,?_⟩
 by_cases h1:(jq ns 41).fmod 2=1
 ·refine zZ (beq_iff_eq.mpr h1) ?_
  by_cases h2:m>0
  ·refine zZ (decide_eq_true h2) ?_
   obtain ⟨p0,p1⟩:=M.hp h2
   simp only [wo,qv,zL,zC,zM,zu,zj,zk,zg,ze]
   refine yl (d:=d+9) F.law.degs hm hm' (M.hr.ext M.e) nn fun c J2 e2 _ hcv=>?_
   rw [zaA hm nn] at hcv
   have hcl:L J2 c m.toNat (z4 rs):=hcv
   refine hcl.at p0 (by exact Mine.lt_toNat ‹_›) ?_
   have M:=M.ext e2
   refine M.ha.set p0 (by exact Mine.lt_toNat ‹_›) fun J' e=>?_
   rw [e]
   exact two (M.set (zgx _) (by have:=zjz M.n p.toNat;exact lin r1 V0 (.num 1000000000) [(0,1,V0,.num 40)] rfl this))
  ·refine zQ (decide_eq_false h2) ?_
   exact two M
 ·refine zQ (beq_eq_false_iff_ne.mpr h1) ?_
  exact two M
end
section
variable {T:TC} {d:Nat} {J:zc} {Q:V->zc->Prop} {P:Nat->zc->Prop} {m:Int} {rs:Rd2} {r s:Addr} {way:Int} {ns:List Int} {K:Out->zK->zc->Prop}
theorem zra(F:L14 T)(hs:jE J s ns)(n:Net m rs)(hr:zS J r rs)(w0:0<=way)(w1:way<=13)(wm:way=12->0<m)(hK:∀ Z J',K (.ret (.bool true)) Z J') :
  zcn T (d+10) [some (.ref s),some (.int way),none,none,none,none,none,some (.int m),some (.ref r),none,none] J K P:=by
 have hm:=n.m0;have hm':=n.m10
 have hp:∀ {k:Nat->Int},Nn m k->(∀ v:Nat,(v:Int)<m->k v<z4 rs v)->qB m k:=fun h1 h2=>⟨fun v hv=>h1 v hv,fun v hv=>by have:=h2 v hv;have:=zjz n v;exact lin r2 V0 (.num 1000000000) [(1,1,V0,V1),(0,1,V1,.num 40)] rfl ‹_› this⟩
 unfold zcn
 refine zdo (d:=d+8) F.law.cell F.law.degs F.low n hs hr (by decide) (by decide) fun a f J1 e1 ka ha f1 f2=>?_
 refine zdo (d:=d+8) F.law.cell F.law.degs F.low n (hs.ext e1) (hr.ext e1) (by decide) (by decide) fun b g J2 e2 kb hb g1 g2=>?_
 refine qn (d:=d+9) F.law.cell (hs.ext (e1.trans e2)) (by decide) (by decide) fun J3 e3=>?_
 simp only [ze]
 have hmx:(0:Int)<(if m>1 then m else 1):=by split<;>(first | exact kaA ‹_› | decide)
 refine ⟨by exact kbG ‹_›,?_⟩
 obtain ⟨i0,i1⟩:=zdd (c:=jq ns 40) hmx
 have hle:0<m->(if m>1 then m else 1)<=m:=by intro h;split<;>(first | assumption | exact kaW _)
 have ne:b≠a:=fun e=>by rw [e] at kb;unfold L qJ at ha;rw [kb] at ha;cases ha
 exact zq9 (d:=d) F ⟨hs,n,hr,e1.trans (e2.trans e3),ka,ne,ha.ext (e2.trans e3),hp f1 f2,hb.ext e3,hp g1 g2,fun h=>⟨i0,kco i1 (hle h)⟩⟩ w0 w1 wm hK
theorem zln(F:L14 T)(h:FnW T "law" 1 10 (zfW T))(hs:jE J s ns)(hq:∀ J',Q (.bool true) J'):zp T (d+11) "law" [.ref s] J Q P:=by
 refine h (d+10) _ _ _ _ rfl ?_
 unfold zfW
 refine zoX (d:=d+8) F.law hs (by decide) (by decide) fun tp r J1 m rs e1 htp hr n _ _=>?_
 have hm:=n.m0
 refine wE htp ⟨rfl,?_⟩
 show (zt (zY 1 _) _) [some (.ref s),none,none,none,none,none,none,some (.int m),some (.ref r),none,none] J1 _ P
 refine ⟨(by decide:18<=lim),zi fun l J2 _ e2 hl=>?_⟩
 simp only [jv,zL,zC,zM,z1,zu,zj,zk]
 refine qn (d:=d+9) F.law.cell (hs.ext (e1.trans e2)) (by decide) (by decide) fun J3 e3=>?_
 obtain ⟨i0,i1⟩:=zdd (c:=jq ns 19) (n:=18) (by decide)
 refine ⟨by decide,zcF (e3 _ _ hl) i0 i1 fun v hv=>?_⟩
 obtain ⟨w,rfl,w0,w1⟩:∃ w,v=.int w/\0<=w/\w<=13:=by
  simp only [kad,kay,or_false] at hv
  rcases hv with rfl | rfl | rfl | rfl | rfl | rfl | rfl | rfl | rfl | rfl | rfl | rfl | rfl | rfl | rfl | rfl | rfl | rfl<;>exact ⟨_,rfl,by decide,by decide⟩
 have e13:=e1.trans (e2.trans e3)
 have fin:∀ w:Int,0<=w->w<=13->(w=12->0<m)->zcn T (d+10) [some (.ref s),some (.int w),none,none,none,none,none,some (.int m),some (.ref r),none,none] J3 (fun o _ J'=>Q (match o with | .ret v=>v | .next=>.none) J') P:=fun w w0 w1 wm=>zra (d:=d) F (hs.ext e13) n (hr.ext (e2.trans e3)) w0 w1 wm fun _ J'=>hq J'
 by_cases h0:m=0
 ·refine zZ (beq_iff_eq.mpr h0) ?_
  by_cases h12:w=12
  ·refine zZ (beq_iff_eq.mpr h12) ?_
   exact fin 13 (by decide) (by decide) fun h=>absurd h (by decide)
  ·refine zQ (beq_eq_false_iff_ne.mpr h12) ?_
   exact fin w w0 w1 fun h=>absurd h h12
 ·refine zQ (beq_eq_false_iff_ne.mpr h0) ?_
  exact fin w w0 w1 fun _=>by exact (yN (hm) (Ne.symm h0))
end
end Mine
end
section
open PySem
namespace Mine
open PySem.W PySem.Calls PyProof.Rows
theorem znj{vs:List Value}{ns:List Int}(h:IntsAre vs ns):yf (zs ns) vs:=by
 induction h with
 | nil=>exact .nil
 | cons n t _ ih=>exact .cons (.int n t) ih
noncomputable def σ0(scr:Addr)(ns:List Int):zc:=fun a=>if a=scr then some (.ro (zs ns)) else none
theorem J0_script(scr:Addr)(ns:List Int)(h:ns.length<=63):jE (σ0 scr ns) scr ns:=⟨.inl (by simp [σ0]),h⟩
section
variable {view prog:Program} {loose:List Str} {mean:ExcName->Option Value} {mg mb:Str->Option Value} {w:World} {sB:Shared} {scr:Addr}
theorem ztQ(Tp:Top view loose mean mg mb sB.heap):∃ o,sB.heap.get? kaL=some o:=let ⟨o,_,_,ho,_⟩:=Tp.g;⟨o,ho⟩
noncomputable def zhM(prog:Program)(w:World)(scr:Addr)(Tp:Top view loose mean mg mb sB.heap):TC:=⟨prog,w,sB,sB.heap,scr,mg,mb,ztQ Tp,[],none⟩
theorem zs9(Tp:Top view loose mean mg mb sB.heap)(hi:importsNone view=true):(zhM prog w scr Tp).Ok:=⟨Tp.g,Tp.b,Tp.nolimit,Tp.builtins,let ⟨_,⟨o,_,_,ho,_⟩,_⟩:=(Tp.seer hi).mods;⟨o,ho⟩⟩
theorem TC.Ok.at{T:TC}(ok:T.Ok)(fr:List Env):(T.at fr).Ok:=⟨ok.g,ok.b,ok.nolimit,ok.builtins,ok.sysm⟩
theorem Blt.at{T:TC}(B:Blt T)(fr:List Env):Blt (T.at fr):=⟨B.none⟩
theorem zs3(Tp:Top view loose mean mg mb sB.heap){vs:List Value}{ns:List Int}(hL:sB.heap.IsList scr vs.toArray)(hI:IntsAre vs ns)(hl:ns.length<=63):St (zhM prog w scr Tp) (σ0 scr ns) sB:=by
 have only:∀ a,(σ0 scr ns a).isSome->a=scr:=fun a h=>by
  unfold σ0 at h;split at h
  ·assumption
  ·cases h
 refine ⟨⟨sB.heap,sB.toks,rfl⟩,fun b o h=>h,fun a so h=>?_,fun a h hn=>absurd (only a h) hn,fun a h hn=>absurd (only a h) hn,⟨zs ns,by simp [σ0,zhM]⟩,fun env he=>by cases he⟩
 have:=only a (by rw [h];rfl)
 subst this
 simp only [σ0,if_true] at h
 cases h
 obtain ⟨o,ho,hc,n,hd⟩:=hL
 exact ⟨o,ho,by rw [qb];unfold lim;exact leN (lin r1 V0 (.num 1000000) [(0,1,V0,.num 63)] rfl (leI hl)),hc,_,n,hd,by simpa using znj hI⟩
noncomputable def zps:List Str:=["len","isinstance","list","int","bool","tuple","range","all","any","sum","max","min","sorted","set","dict","enumerate","reversed","ValueError"]
noncomputable def zsH(view:Program)(loose:List Str):Bool:=zps.all fun x =>
 !startupNames.contains x && !loose.contains x && !((recsOf view).map (·.name)).contains x && !((litsOf view).map (·.1)).contains x && !((clssOf view loose).map (·.name)).contains x
theorem zsG(Tp:Top view loose mean mg mb sB.heap)(h:zsH view loose=true):Blt (zhM prog w scr Tp):=by
 refine ⟨fun x hx=>?_⟩
 have:=kaX.mp h x hx
 simp only [kaJ,kbD] at this
 obtain ⟨⟨⟨⟨h1,h2⟩,h3⟩,h4⟩,h5⟩:=this
 have no:∀ {l:List Str},l.contains x=false->x∉l:=fun hc hm=>by rw [kbh.mpr hm] at hc;cases hc
 exact Tp.free x (no h1) (no h2) (no h3) (no h4) (no h5)
theorem zgu(Tp:Top view loose mean mg mb sB.heap){x:Str}{i:Int}(h:valOf view x=some (.int i)):∃ t,(zhM prog w scr Tp).mg x=some (.int i t):=by
 obtain ⟨v,hv,hr⟩:=Tp.const x _ h
 have:=hr sB.heap
 cases this with
 | int _ t=>exact ⟨t,hv⟩
theorem zpd(Tp:Top view loose mean mg mb sB.heap){pw:Program}{l:List (Str × Nat)}(h:(recsOf view).map (fun d=>(d.name,d.params,d.body,d.scope))=l.map fun p=>(p.1,jA (zF pw p.2),zJ (zF pw p.2),zz (zF pw p.2))) :
  ∀ p∈l,zoz (zhM prog w scr Tp) p.1 (jA (zF pw p.2)) (zJ (zF pw p.2)) (zz (zF pw p.2)):=by
 intro p hp
 have hm:=List.mem_map_of_mem (f:=fun p:Str × Nat=>(p.1,jA (zF pw p.2),zJ (zF pw p.2),zz (zF pw p.2))) hp
 rw [<-h] at hm
 obtain ⟨d,hd,e⟩:=kau.mp hm
 simp only [Prod.mk.injEq] at e
 obtain ⟨h1,h2,h3,h4⟩:=e
 obtain ⟨a,o,pm,code,doc,q1,q2,q3,q4⟩:=Tp.fn d hd
 exact ⟨a,o,_,by rw [<-h1];exact q1,q2,q3,h2,by rw [<-h3];rfl,h4,rfl,rfl,rfl,rfl,rfl,q4⟩
theorem zsx{T:TC}(ok:T.Ok){f:Str}{st:Stmt}{ctx:List Str}{n k:Nat}{w:Nat->SW}(fa:zoz T f (jA st) (zJ st) (zz st))(fo:zlG (jA st) (zz st) ctx n=true)(hk:ctx.length - n=k)
  (hb:∀ fd us,fd.params=jA st->fd.defaults=.none->fd.kwdefaults=.none->us.length=n->bindArgs fd ⟨us,[]⟩=pure (((jA st).args.map (·.arg)).zip us))
  (hs:∀ d fr,qP (T.at fr) d (zz st) ctx (zJ st) (w d)):FnW T f n k w:=fun d vs J Q P hn hw=>zm5 ok fa (zm4 fo) hb (fun fr=>(hs d fr).own) hn (by rw [hk];exact hw)
theorem zrh{T:TC}(ok:T.Ok){f:Str}{st:Stmt}{ctx:List Str}{n k:Nat}{w:Nat->SW}(fa:zoz T f (jA st) (zJ st) (zz st))(fo:zlG (jA st) (zz st) ctx n=true)(hk:ctx.length - n=k)
  (hb:∀ fd us,fd.params=jA st->fd.defaults=.none->fd.kwdefaults=.none->us.length=n->bindArgs fd ⟨us,[]⟩=pure (((jA st).args.map (·.arg)).zip us))
  (hs:∀ d fr,zrC (T.at fr) d (zz st) ctx (zJ st) (w d)):FnW T f n k w:=fun d vs J Q P hn hw=>zm5 ok fa (zm4 fo) hb (fun fr=>hs d fr) hn (by rw [hk];exact hw)
theorem zbJ{fd:FuncData}{params:Arguments}{us:List Value}{r:Sem (List (Str × Value))}(h1:fd.params=params)(h2:fd.defaults=.none)(h3:fd.kwdefaults=.none)
  (h:∀ fd:FuncData,bindArgs {fd with params:=params,defaults:=.none,kwdefaults:=.none} ⟨us,[]⟩=r):bindArgs fd ⟨us,[]⟩=r:=by
 have:=h fd
 cases fd
 simp only at h1 h2 h3
 subst h1 h2 h3
 exact this
theorem zaC{us:List Value}{n:Nat}(h:us.length=n+1):∃ a r,us=a::r/\r.length=n:=by
 cases us with
 | nil=>cases h
 | cons a r=>exact ⟨a,r,rfl,Nat.succ.inj h⟩
theorem ztv{fd:FuncData}{params:Arguments}{us:List Value}{names:List Str}(h1:fd.params=params)(h2:fd.defaults=.none)(h3:fd.kwdefaults=.none)(hn:us.length=1)
  (h:∀ (fd:FuncData) a0,bindArgs {fd with params:=params,defaults:=.none,kwdefaults:=.none} ⟨[a0],[]⟩=pure (names.zip [a0])):bindArgs fd ⟨us,[]⟩=pure (names.zip us):=by
 obtain ⟨a0,u0,rfl,k0⟩:=zaC hn
 obtain rfl:=kaz k0
 exact zbJ h1 h2 h3 fun fd=>h fd a0
theorem ztu{fd:FuncData}{params:Arguments}{us:List Value}{names:List Str}(h1:fd.params=params)(h2:fd.defaults=.none)(h3:fd.kwdefaults=.none)(hn:us.length=2)
  (h:∀ (fd:FuncData) a0 a1,bindArgs {fd with params:=params,defaults:=.none,kwdefaults:=.none} ⟨[a0,a1],[]⟩=pure (names.zip [a0,a1])):bindArgs fd ⟨us,[]⟩=pure (names.zip us):=by
 obtain ⟨a0,u0,rfl,k0⟩:=zaC hn
 obtain ⟨a1,u1,rfl,k1⟩:=zaC k0
 obtain rfl:=kaz k1
 exact zbJ h1 h2 h3 fun fd=>h fd a0 a1
theorem ztt{fd:FuncData}{params:Arguments}{us:List Value}{names:List Str}(h1:fd.params=params)(h2:fd.defaults=.none)(h3:fd.kwdefaults=.none)(hn:us.length=3)
  (h:∀ (fd:FuncData) a0 a1 a2,bindArgs {fd with params:=params,defaults:=.none,kwdefaults:=.none} ⟨[a0,a1,a2],[]⟩=pure (names.zip [a0,a1,a2])):bindArgs fd ⟨us,[]⟩=pure (names.zip us):=by
 obtain ⟨a0,u0,rfl,k0⟩:=zaC hn
 obtain ⟨a1,u1,rfl,k1⟩:=zaC k0
 obtain ⟨a2,u2,rfl,k2⟩:=zaC k1
 obtain rfl:=kaz k2
 exact zbJ h1 h2 h3 fun fd=>h fd a0 a1 a2
theorem zts{fd:FuncData}{params:Arguments}{us:List Value}{names:List Str}(h1:fd.params=params)(h2:fd.defaults=.none)(h3:fd.kwdefaults=.none)(hn:us.length=4)
  (h:∀ (fd:FuncData) a0 a1 a2 a3,bindArgs {fd with params:=params,defaults:=.none,kwdefaults:=.none} ⟨[a0,a1,a2,a3],[]⟩=pure (names.zip [a0,a1,a2,a3])):bindArgs fd ⟨us,[]⟩=pure (names.zip us):=by
 obtain ⟨a0,u0,rfl,k0⟩:=zaC hn
 obtain ⟨a1,u1,rfl,k1⟩:=zaC k0
 obtain ⟨a2,u2,rfl,k2⟩:=zaC k1
 obtain ⟨a3,u3,rfl,k3⟩:=zaC k2
 obtain rfl:=kaz k3
 exact zbJ h1 h2 h3 fun fd=>h fd a0 a1 a2 a3
theorem ztr{fd:FuncData}{params:Arguments}{us:List Value}{names:List Str}(h1:fd.params=params)(h2:fd.defaults=.none)(h3:fd.kwdefaults=.none)(hn:us.length=5)
  (h:∀ (fd:FuncData) a0 a1 a2 a3 a4,bindArgs {fd with params:=params,defaults:=.none,kwdefaults:=.none} ⟨[a0,a1,a2,a3,a4],[]⟩=pure (names.zip [a0,a1,a2,a3,a4])):bindArgs fd ⟨us,[]⟩=pure (names.zip us):=by
 obtain ⟨a0,u0,rfl,k0⟩:=zaC hn
 obtain ⟨a1,u1,rfl,k1⟩:=zaC k0
 obtain ⟨a2,u2,rfl,k2⟩:=zaC k1
 obtain ⟨a3,u3,rfl,k3⟩:=zaC k2
 obtain ⟨a4,u4,rfl,k4⟩:=zaC k3
 obtain rfl:=kaz k4
 exact zbJ h1 h2 h3 fun fd=>h fd a0 a1 a2 a3 a4
theorem ztq{fd:FuncData}{params:Arguments}{us:List Value}{names:List Str}(h1:fd.params=params)(h2:fd.defaults=.none)(h3:fd.kwdefaults=.none)(hn:us.length=6)
  (h:∀ (fd:FuncData) a0 a1 a2 a3 a4 a5,bindArgs {fd with params:=params,defaults:=.none,kwdefaults:=.none} ⟨[a0,a1,a2,a3,a4,a5],[]⟩=pure (names.zip [a0,a1,a2,a3,a4,a5])):bindArgs fd ⟨us,[]⟩=pure (names.zip us):=by
 obtain ⟨a0,u0,rfl,k0⟩:=zaC hn
 obtain ⟨a1,u1,rfl,k1⟩:=zaC k0
 obtain ⟨a2,u2,rfl,k2⟩:=zaC k1
 obtain ⟨a3,u3,rfl,k3⟩:=zaC k2
 obtain ⟨a4,u4,rfl,k4⟩:=zaC k3
 obtain ⟨a5,u5,rfl,k5⟩:=zaC k4
 obtain rfl:=kaz k5
 exact zbJ h1 h2 h3 fun fd=>h fd a0 a1 a2 a3 a4 a5
theorem ztp{fd:FuncData}{params:Arguments}{us:List Value}{names:List Str}(h1:fd.params=params)(h2:fd.defaults=.none)(h3:fd.kwdefaults=.none)(hn:us.length=7)
  (h:∀ (fd:FuncData) a0 a1 a2 a3 a4 a5 a6,bindArgs {fd with params:=params,defaults:=.none,kwdefaults:=.none} ⟨[a0,a1,a2,a3,a4,a5,a6],[]⟩=pure (names.zip [a0,a1,a2,a3,a4,a5,a6])):bindArgs fd ⟨us,[]⟩=pure (names.zip us):=by
 obtain ⟨a0,u0,rfl,k0⟩:=zaC hn
 obtain ⟨a1,u1,rfl,k1⟩:=zaC k0
 obtain ⟨a2,u2,rfl,k2⟩:=zaC k1
 obtain ⟨a3,u3,rfl,k3⟩:=zaC k2
 obtain ⟨a4,u4,rfl,k4⟩:=zaC k3
 obtain ⟨a5,u5,rfl,k5⟩:=zaC k4
 obtain ⟨a6,u6,rfl,k6⟩:=zaC k5
 obtain rfl:=kaz k6
 exact zbJ h1 h2 h3 fun fd=>h fd a0 a1 a2 a3 a4 a5 a6
theorem zrk(Tp:Top view loose mean mg mb sB.heap){vs:List Value}{ns:List Int}{fa:Addr}{d:Nat}(hL:sB.heap.IsList scr vs.toArray)(hI:IntsAre vs ns)(hl:ns.length<=63)(hmg:mg "law" = some (.ref fa))(hd:d<=600)
  (hc:zp (zhM prog w scr Tp) d "law" [.ref scr] (σ0 scr ns) (fun v _=>v=.bool true) (fun _ _=>False)) {Q:Value->Shared->Prop} {E:Value->Shared->Prop}
  (hq:∀ s',(∀ b o,sB.heap.get? b=some o->s'.heap.get? b=some o)->s'.os=sB.os->s'.gens=sB.gens->Q (.bool true) s') :
  wpAny (model prog w) callerA (call (.ref fa) [.ref scr]) Q E sB:=by
 obtain ⟨fa',o,fd,h1,h2,h3,h⟩:=hc
 have e:fa'=fa:=by
  have:(zhM prog w scr Tp).mg "law" = some (.ref fa):=hmg
  rw [h1] at this;cases this;rfl
 subst e
 have st:=zs3 (prog:=prog) (w:=w) Tp hL hI hl
 have ro:zag ((zhM prog w scr Tp).at []) callerA d:=⟨rfl,rfl,by show 1+claimMargin+d<recursionLimit;have:claimMargin=300:=rfl;have:recursionLimit=1000:=rfl;(first | lia | omega),by show 4+4*d+100<cLine;have:cLine>3000:=(by decide +kernel);(first | lia | omega)⟩
 refine kat (h [] callerA sB [.ref scr] ro st (.cons (.ref scr) .nil)) (fun v s' hp=>?_) fun e s' hp=>?_
 ·obtain ⟨v',J',hv,st',p,rfl⟩:=hp
  cases hv
  obtain ⟨h',tk,rfl⟩:=st'.rest
  refine hq _ (fun b o hb=>p.keepX ?_ (by simp) (fun h=>by cases h) hb) rfl rfl
  unfold zrZ σ0
  by_cases hbs:b=scr
  ·exact .inr hbs
  ·exact .inl (by simp [hbs])
 ·obtain ⟨_,_,_,_,_,f⟩:=hp;exact f.elim
end
noncomputable def zo9:List Stmt->List Stmt
 | (.Try _ (.ExceptHandler _ _ b _::_) _ _ _)::_=>b
 | _=>[]
noncomputable def zc0(x:Nat):List Str:=if x=0 then [] else ["YardError"]
noncomputable def zjx(h:Heap)(name:Str):Bool:=match h.clsAt kaL name with
 | some (_,_,cd)=>zgt.all fun n=>(h.nsMap cd.ns n).isNone
 | none=>false
noncomputable def zqw(xs:List Nat)(h:Heap):Bool:=h.isNs kaL && xs.contains 0 && xs.all fun x=>h.ownExcOk (qO x) (zc0 x) bmV "ValueError.__new__" && zjx h (qO x) && xs.all fun y=>decide (h.nsMap kaL (qO x)=h.nsMap kaL (qO y))==(x==y)
theorem zpP{h:Heap}{x:Nat}(a:h.ownExcOk (qO x) (zc0 x) bmV "ValueError.__new__" = true)(b:zjx h (qO x)=true) :
  ∃ (C:Addr) (p:CP),h.nsMap kaL (qO x)=some (.ref C) /\
   p.bm=((zc0 x).map fun n=>(h.nsMap kaL n).getD .none)++bmV/\h.get? C=some (p.obj C "ValueError.__new__")/\h.Ns p.N (h.nsMap p.N)/\∀ n∈zgt,h.nsMap p.N n=none:=by
 obtain ⟨C,N,nm,q,bs,hdct,sn,sub,ab,col,dd,k0,k1,k2,k3,k5,hb,hC,hN,_⟩:=Heap.ownExc_of_ok a
 refine ⟨C,⟨nm,q,N,bs,_,hdct,sn,sub,ab,col,dd,k0,k1,k2,k3,k5⟩,hb,rfl,hC,hN,fun n hn=>?_⟩
 unfold zjx at b
 cases hf:h.clsAt kaL (qO x) with
 | none=>rw [hf] at b;cases b
 | some z =>
  obtain ⟨C',o',cd'⟩:=z
  rw [hf] at b
  obtain ⟨hn',ho',hd'⟩:=Heap.clsAt_spec hf
  rw [hb] at hn'
  obtain rfl:C=C':=by injection hn' with q1;injection q1
  rw [hC] at ho'
  obtain rfl:=Option.some.inj ho'
  obtain rfl:_=cd':=by injection hd'
  exact Option.isNone_iff_eq_none.mp (kaX.mp b n hn)
theorem zs0{xs:List Nat}{h:Heap}(e:zqw xs h=true):XG (h.nsMap kaL) h xs:=by
 unfold zqw at e
 rw [kaJ,kaJ] at e
 obtain ⟨⟨_,e0⟩,e⟩:=e
 have h0:0∈xs:=kbh.mp e0
 have each:∀ x∈xs,(h.ownExcOk (qO x) (zc0 x) bmV "ValueError.__new__" = true/\zjx h (qO x)=true)/\∀ y∈xs,(h.nsMap kaL (qO x)=h.nsMap kaL (qO y) ↔ x=y):=by
  intro x hx
  have:=kaX.mp e x hx
  rw [kaJ,kaJ] at this
  refine ⟨this.1,fun y hy=>?_⟩
  have:=kaX.mp this.2 y hy
  rw [beq_iff_eq] at this
  rw [<-decide_eq_true_iff (p:=h.nsMap kaL (qO x)=h.nsMap kaL (qO y)),this,beq_iff_eq]
 intro x hx
 obtain ⟨C,p,hb,hbm,hC,hN,hq⟩:=zpP (each x hx).1.1 (each x hx).1.2
 obtain ⟨C',p',hb',hbm',hC',hN',hq'⟩:=zpP (each 0 h0).1.1 (each 0 h0).1.2
 have hb0:h.nsMap kaL "YardError" = some (.ref C'):=hb'
 have ref_eq:∀ y∈xs,∀ Cy,h.nsMap kaL (qO y)=some (.ref Cy)->(Value.ref Cy==Value.ref C)=(x==y)/\(Value.ref Cy==Value.ref C')=(y==0):=by
  intro y hy Cy hCy
  have a1:=(each x hx).2 y hy
  have a2:=(each y hy).2 0 h0
  rw [hb,hCy] at a1
  rw [hb',hCy] at a2
  constructor
  ·rw [ka6,beq_iff_eq,beq_iff_eq,<-a1]
   exact ⟨fun q=>by rw [q],fun q=>(Option.some.inj q).symm⟩
  ·rw [ka6,beq_iff_eq,beq_iff_eq,<-a2]
   exact ⟨fun q=>by rw [q],fun q=>Option.some.inj q⟩
 have bmN:∀ Cy:Addr,bmV.contains (Value.ref Cy)=false:=fun Cy=>rfl
 refine ⟨C,hb,p,_,hC,hN,hq,?_,fun y hy Cy hCy=>?_⟩<;>rw [hbm]
 ·by_cases hx0:x=0
  ·subst hx0;exact .base
  ·unfold zc0
   rw [if_neg hx0]
   show zdi h ((h.nsMap kaL "YardError").getD .none::bmV)
   rw [hb0]
   exact .own hC' hN' hq' .base
 ·obtain ⟨r1,r2⟩:=ref_eq y hy Cy hCy
  by_cases hx0:x=0
  ·subst hx0
   show (Value.ref C::bmV).contains (Value.ref Cy)=_
   rw [kbl,bmN,r1,kde,zfy,ka6,kbu,beq_iff_eq,beq_iff_eq]
   exact ⟨.inl,fun q=>q.elim id Eq.symm⟩
  ·unfold zc0
   rw [if_neg hx0]
   show (Value.ref C::(h.nsMap kaL "YardError").getD .none::bmV).contains (Value.ref Cy)=_
   rw [hb0]
   show (Value.ref C::Value.ref C'::bmV).contains (Value.ref Cy)=_
   rw [kbl,kbl,bmN,r1,r2,kde,zfy]
theorem XG.keeps{mg:Str->Option Value}{h h':Heap}{xs:List Nat}(X:XG mg h xs)(hk:∀ b o,h.get? b=some o->h'.get? b=some o):XG mg h' xs:=fun x hx=>by
 obtain ⟨C,hm,p,mN,hC,hN,hq,hT,hs⟩:=X x hx
 exact ⟨C,hm,p,mN,hk _ _ hC,hN.keeps hk,hq,hT.keeps hk,hs⟩
noncomputable def zjo(xs:List Nat):Hook:=⟨Bool,fun s=>zqw xs s.heap,fun _=>true,fun _ h=>∃ m,h.Ns kaL m/\XG m h xs,
 fun _ s e=>⟨_,.of_isNs (by have e':zqw xs s.heap=true:=e;unfold zqw at e';rw [kaJ,kaJ] at e';exact e'.1.1),zs0 e⟩,
 fun _ h h' ⟨m,a,b⟩ hk=>⟨m,a.keeps hk,b.keeps hk⟩⟩
theorem zs1{view prog:Program}{loose:List Str}{mean:ExcName->Option Value}{mg mb:Str->Option Value}{w:World}{sB:Shared}{scr:Addr}(Tp:Top view loose mean mg mb sB.heap){xs:List Nat}(Y:(zjo xs).says w sB.heap):XF (zhM prog w scr Tp) xs:=by
 obtain ⟨m,hm,X⟩:=Y
 obtain rfl:m=mg:=funext fun n=>hm.agree Tp.g n
 exact X
end Mine
end
section
open PySem
set_option maxRecDepth 100000
set_option maxHeartbeats 2000000
namespace Mine
open PySem.Calls PyProof.Rows
noncomputable def zqp:List (Str × Nat):=("is_within", 12)::("is_road", 13)::("come_to", 14)::("need_net", 15)::("need_heap", 16)::("need_place", 17)::("need_tree", 18)::("other_end", 20)::("counts_at", 21)::("pit_counts", 22)::("degrees", 23)::("table_of", 24)::("swapped", 26)::("first_other", 27)::("determinant", 28)::("solved", 29)::("after", 31)::("least_times", 32)::("fallen", 33)::("rests", 34)::("at_rest", 35)::("toppled", 36)::("settled", 37)::("is_again", 40)::("need_again", 41)::("comes_again", 42)::("turns_for", 43)::("led_from", 44)::("led", 45)::("alike", 46)::("towards", 47)::("together", 49)::("nothing", 50)::("undoing", 51)::("roads_to", 53)::("least_of", 54)::("keys_of", 55)::("tree_of", 56)::("heap_of", 57)::("how_many", 58)::("_law_cell_at", 60)::("_law_mixed", 61)::("_law_turned", 62)::("_law_net", 63)::("_law_degrees", 64)::("_law_low", 65)::("_law_again", 66)::("_law_odd", 67)::("_law_put", 68)::("_law_cut_off", 69)::("_law_no_net", 70)::("_law_no_heap", 71)::("_law_no_tree", 72)::("_law_tree", 73)::("_law_asked", 74)::("_law_told", 75)::("_law_last", 76)::("_law_spoilt", 77)::("law", 78)::[]
noncomputable def zfv:List Str:=zqp.map (·.1)
noncomputable def zlu:List (Str × Int):=[("MOST_PLACES", 10),("MOST_ROADS", 40),("MOST_GRAINS", 1000000000),("ENOUGH", 41)]
theorem sC{T:TC}{fr:List Env}{d:Nat}{sc:Scope}{ctx:List Str}(ok:(T.at fr).Ok)(F:∀ f∈zfv,zc3 T f){f:Str}{p pos e r}{ws:EWs}(h:zgM (T.at fr) d sc ctx (e::r) ws)(hx:sc.names.lookup f=some .globalImplicit:=by kernel_rfl)(hm:zfv.contains f=true:=by kernel_rfl)(hd:(f==("__debug__" : Str))=false:=by kernel_rfl)(he:∀ env,starEach (e::r) env=(false,eval e env)::starEach r env:=by intro _;rfl):zG (T.at fr) d sc ctx (.Call (.Name f p) (e::r) [] pos) (zr T d f ws):=zqS ok h hx hd he (F _ (kbh.mp hm))
theorem sA{T:TC}{d:Nat}{sc:Scope}{ctx:List Str}{x e p pos}{a:EW}(i:Nat)(h:zG T d sc ctx e a)(hx:ctx[i]?=some x:=by rfl)(hk:zcu (sc.names.lookup x)=true:=by kernel_rfl)(hs:∀ env,swapsWith e (some (.Name x p)) pos.line env=pure false:=by intro _;rfl):za0 T d sc ctx (.Assign [.Name x p] e pos) (zY i a):=zpL i hx hk h hs
theorem tN{sc:Scope}{ctx:List Str}{x:Str}{p i}(h:ctx[i]?=some x:=by rfl)(hk:zcu (sc.names.lookup x)=true:=by kernel_rfl):zl4 sc ctx false (.Name x p) (.nm i):=.nm h hk (by intro h;cases h)
theorem tC{sc:Scope}{ctx:List Str}{x:Str}{p i r is}(n:j3 sc ctx false r is)(h:ctx[i]?=some x:=by rfl)(hk:zcu (sc.names.lookup x)=true:=by kernel_rfl):j3 sc ctx false (.Name x p::r) (i::is):=.cons h hk (by intro h;cases h) n
noncomputable abbrev zal:Stmt:=zF kaa 75
theorem zea{T:TC}{c:Addr}(C:T.calm=some c){d:Nat}(ok:T.Ok)(B:Blt T)(F:∀ f∈zfv,zc3 T f)(G:∀ p∈zlu,∃ t,T.mg p.1=some (.int p.2 t))(X:XF T [0,1,2,3,4,5,6]):qP T d (zz zal) zbn (zo9 (zJ zal)) (y0 T d c) :=
 (zh (sA 8 (zW (zb (zcD ok B X 1 (by decide) (za 7)) (zb (zcD ok B X 2 (by decide) (za 7)) (zb (zcD ok B X 3 (by decide) (za 7)) (zb (zcD ok B X 4 (by decide) (za 7)) zm))))))
  (zh (sA 8 (zbG (za 8) (zW (zb (zcD ok B X 5 (by decide) (za 7)) (zb (zcD ok B X 6 (by decide) (za 7)) zm)))))
  (zh (zH (zE (jc (jz (z5 (zqQ ok B X (za 7)))) (qV (zo .ne rfl (qC ok B (jt zU (zqL (za 8) (C:=C)) (z5 (za 3)) (za 3))) zf)))) (zl (zA zf)) zy)
  (zl (zA (zqR (za 8) ql (fun _ _ _ _ h=>h)))))))
section
variable {T:TC} {fr:List Env} {d:Nat} (ok:(T.at fr).Ok) (B:Blt (T.at fr)) (C:(T.at fr).calm=none) (F:∀ f∈zfv,zc3 T f) (G:∀ p∈zlu,∃ t,T.mg p.1=some (.int p.2 t)) (X:XF (T.at fr) [0,1,2,3,4,5,6])
include ok B C F G X
noncomputable abbrev ze0:Stmt:=zF kaa 12
theorem zg9:qP (T.at fr) d (zz ze0) zkq (zJ ze0) (qF T d) :=
 (zl (zA (zey (za9 (zdF ok B .int (za 0)) (za9 (zsd (zdF ok B .bool (za 0))) (zi2 (zoL .le .le rfl rfl (za 1) (za 0) (za 2))))))))
noncomputable abbrev zh2:Stmt:=zF kaa 13
theorem zjZ:qP (T.at fr) d (zz zh2) zn4 (zJ zh2) (za6 T d) :=
 (zh (zH (zE (jc (jz (z5 (zdF ok B .tuple (za 1)))) (qV (zo .ne rfl (qC ok B (za 1)) zf)))) (zl (zA ql)) zy)
  (zl (zA (zey (za9 (sC ok F (zb (zq (za 1) zf) (zb zf (zb (za 0) zm)))) (za9 (sC ok F (zb (zq (za 1) zf) (zb zf (zb (za 0) zm)))) (zi2 (zav .ne rfl (zq (za 1) zf) (zq (za 1) zf)))))))))
noncomputable abbrev zh5:Stmt:=zF kaa 14
theorem zj2:qP (T.at fr) d (zz zh5) zn7 (zJ zh5) (za8 T d) :=
 (zh (sA 2 (zca (za 0) ql))
  (zh (sA 3 ql)
  (zh (zdW (z5 (za 3)) (zh (sA 3 ql)
  (zl (jb (.tup (tC (tC .nil))) (qH (za 1)) (zl (zH (zgP true rfl (zjp false rfl (za 4) (za 2)) (zjp false rfl (za 5) (za 2))) (zh (ja (za 2) (za 4) ql)
  (zh (ja (za 2) (za 5) ql)
  (zl (sA 3 ql)))) zy))))))
  (zl (zA (za 2))))))
noncomputable abbrev zds:Stmt:=zF kaa 15
theorem zfC:qP (T.at fr) d (zz zds) ziQ (zJ zds) (yr T d) :=
 (zh (zH (zE (jc (jz (z5 (sC ok F (zb (za 0) (zb zf (zb (zed ok (G ("MOST_PLACES", 10) (by decide +kernel))) zm)))))) (jc (jz (z5 (zdF ok B .list (za 1)))) (qV (zo .gt rfl (qC ok B (za 1)) (zed ok (G ("MOST_ROADS", 40) (by decide +kernel)))))))) (zl (yQ ok X (x:=1) (by decide))) zy)
  (zl (zH (zE (jc (jz (z5 (zga ok B (jt zU (qH (za 1)) trivial (sC ok F (zb (za 0) (zb (za 2) zm))))))) (qV (zo .ne rfl (qC ok B (sC ok F (zb (za 0) (zb (za 1) zm)))) (zR (za 0) zf))))) (zl (yQ ok X (x:=1) (by decide))) zy)))
noncomputable abbrev zcM:Stmt:=zF kaa 16
theorem ze6:qP (T.at fr) d (zz zcM) zhr (zJ zcM) (ya T d) :=
 (zh (zH (zE (jc (jz (z5 (zdF ok B .list (za 1)))) (qV (zo .ne rfl (qC ok B (za 1)) (za 0))))) (zl (yQ ok X (x:=2) (by decide))) zy)
  (zl (zH (jz (z5 (zga ok B (jt zU (qH (za 1)) trivial (sC ok F (zb (za 2) (zb zf (zb (zed ok (G ("MOST_GRAINS", 1000000000) (by decide +kernel))) zm)))))))) (zl (yQ ok X (x:=2) (by decide))) zy)))
noncomputable abbrev zdr:Stmt:=zF kaa 17
theorem zfB:qP (T.at fr) d (zz zdr) ziP (zJ zdr) (yq T d) :=
 (zl (zH (jz (z5 (sC ok F (zb (za 1) (zb zf (zb (qX (za 0) zf) zm)))))) (zl (yQ ok X (x:=3) (by decide))) zy))
noncomputable abbrev zeV:Stmt:=zF kaa 18
theorem zg4:qP (T.at fr) d (zz zeV) zkm (zJ zeV) (yk T d) :=
 (zh (zH (zE (jc (jz (z5 (zdF ok B .list (za 2)))) (qV (zo .ne rfl (qC ok B (za 2)) (za 0))))) (zl (yQ ok X (x:=4) (by decide))) zy)
  (zh (zH (zE (jc (jz (z5 (zga ok B (jt zU (qH (za 2)) trivial (sC ok F (zb (za 3) (zb zf (zb (qX (qC ok B (za 1)) zf) zm)))))))) (qV (zo .ne rfl (znx ok B (za 2) (by decide +kernel) (by kernel_rfl)) (za 0))))) (zl (yQ ok X (x:=4) (by decide))) zy)
  (zl (zH (zo .ne rfl (qC ok B (sC ok F (zb (za 0) (zb (jt zU (qH (za 2)) trivial (zq (za 1) (za 3))) zm)))) (zR (za 0) zf)) (zl (yQ ok X (x:=4) (by decide))) zy))))
noncomputable abbrev zeU:Stmt:=zF kaa 20
theorem zg3:qP (T.at fr) d (zz zeU) zkl (zJ zeU) (jZ T d) :=
 (zl (zA (zs5 (zo .eq rfl (zq (za 0) zf) (za 1)) (zq (za 0) zf) (zq (za 0) zf))))
noncomputable abbrev ze1:Stmt:=zF kaa 21
theorem zha:qP (T.at fr) d (zz ze1) zkr (zJ ze1) (qS T d) :=
 (zh (sA 2 (zac (zW (zb zf zm)) (za 0)))
  (zh (jb tN (qH (za 1)) (zl (jb tN (qH (za 3)) (zl (zH (zo .lt rfl (za 4) (za 0)) (zl (ja (za 2) (za 4) (zR (zq (za 2) (za 4)) zf))) zy)))))
  (zl (zA (za 2)))))
noncomputable abbrev zdq:Stmt:=zF kaa 22
theorem zfA:qP (T.at fr) d (zz zdq) ziO (zJ zdq) (yp T d) :=
 (zh (sA 2 (zac (zW (zb zf zm)) (za 0)))
  (zh (jb tN (qH (za 1)) (zl (zH (zdY false rfl (za 0) (za 3)) (zh (sA 4 (sC ok F (zb (za 3) (zb (za 0) zm))))
  (zl (ja (za 2) (za 4) (zR (zq (za 2) (za 4)) zf)))) zy)))
  (zl (zA (za 2)))))
noncomputable abbrev zh4:Stmt:=zF kaa 23
theorem zj1:qP (T.at fr) d (zz zh4) zn6 (zJ zh4) (zco T d) :=
 (zh (z2 (sC ok F (zb (za 0) (zb (za 1) zm))))
  (zl (zA (sC ok F (zb (za 0) (zb (za 1) zm))))))
noncomputable abbrev zgm:Stmt:=zF kaa 24
theorem zit:qP (T.at fr) d (zz zgm) zlP (zJ zgm) (wG T d) :=
 (zh (ju (i:=2) rfl (by kernel_rfl) zU (qj ok B (za 0)) trivial (zac (zW (zb zf zm)) (za 0)))
  (zh (jb (.tup (tC (tC .nil))) (qH (za 1)) (zl (jb (.tup (tC (tC .nil))) (qH (zW (zb (jC (zb (za 3) (zb (za 4) zm))) (zb (jC (zb (za 4) (zb (za 3) zm))) zm)))) (zl (zH (zo .lt rfl (za 5) (za 0)) (zh (ja (zq (za 2) (za 5)) (za 5) (zR (zq (zq (za 2) (za 5)) (za 5)) zf))
  (zl (zH (zo .lt rfl (za 6) (za 0)) (zl (ja (zq (za 2) (za 5)) (za 6) (qX (zq (zq (za 2) (za 5)) (za 6)) zf))) zy))) zy)))))
  (zl (zA (za 2)))))
noncomputable abbrev zhW:Stmt:=zF kaa 26
theorem zjT:qP (T.at fr) d (zz zhW) znY (zJ zhW) (za2 T d) :=
 (zh (sA 3 (zee ok B (za 0)))
  (zh (ja (za 3) (za 1) (zq (za 0) (za 2)))
  (zh (ja (za 3) (za 2) (zq (za 0) (za 1)))
  (zl (zA (za 3))))))
noncomputable abbrev zcR:Stmt:=zF kaa 27
theorem zfb:qP (T.at fr) d (zz zcR) zhw (zJ zcR) (yB T d) :=
 (zh (jb tN (zdX ok B (za 1) (qC ok B (za 0))) (zl (zH (zo .ne rfl (zq (zq (za 0) (za 2)) (za 1)) zf) (zl (zA (za 2))) zy)))
  (zl (zA wy)))
noncomputable abbrev zcS:Stmt:=zF kaa 28
theorem zfc:qP (T.at fr) d (zz zcS) zhx (zJ zcS) (wH T d) :=
 (zh (ju (i:=0) rfl (by kernel_rfl) zU (qH (za 0)) trivial (zee ok B (za 6)))
  (zh (sA 1 zf)
  (zh (sA 2 zf)
  (zh (jb tN (qj ok B (qC ok B (za 0))) (zh (sA 4 (sC ok F (zb (za 0) (zb (za 3) zm))))
  (zh (zH (zj4 false rfl (za 4)) (zl (zA zf)) zy)
  (zh (zH (zo .ne rfl (za 4) (za 3)) (zh (sA 0 (sC ok F (zb (za 0) (zb (za 3) (zb (za 4) zm)))))
  (zl (sA 1 (qX zf (za 1))))) zy)
  (zh (jb tN (zdX ok B (zR (za 3) zf) (qC ok B (za 0))) (zl (jb tN (zdX ok B (zR (za 3) zf) (qC ok B (za 0))) (zh (sA 8 (qX (js (zq (zq (za 0) (za 5)) (za 7)) (zq (zq (za 0) (za 3)) (za 3))) (js (zq (zq (za 0) (za 5)) (za 3)) (zq (zq (za 0) (za 3)) (za 7)))))
  (zl (ja (zq (za 0) (za 5)) (za 7) (qp (za 8) (za 2))))))))
  (zl (sA 2 (zq (zq (za 0) (za 3)) (za 3)))))))))
  (zl (zA (js (za 1) (za 2))))))))
noncomputable abbrev zkL:Stmt:=zF kaa 29
theorem zlc:qP (T.at fr) d (zz zkL) zpq (zJ zkL) (zbc T d) :=
 (zh (sA 2 (zW zm))
  (zh (jb tN (qj ok B (qC ok B (za 0))) (zh (ju (i:=4) rfl (by kernel_rfl) zU (qH (za 0)) trivial (zee ok B (za 6)))
  (zh (jb tN (qj ok B (qC ok B (za 0))) (zl (ja (zq (za 4) (za 5)) (za 3) (zq (za 1) (za 5)))))
  (zl (z2 (zdG (za 2) (sC ok F (zb (za 4) zm))))))))
  (zl (zA (za 2)))))
noncomputable abbrev zmZ:Stmt:=zF kaa 31
theorem znw:qP (T.at fr) d (zz zmZ) zrx (zJ zmZ) (zcz T d) :=
 (zh (sA 3 (zee ok B (za 1)))
  (zh (jb tN (qj ok B (qC ok B (za 1))) (zl (jb tN (qj ok B (qC ok B (za 1))) (zl (ja (za 3) (za 5) (qX (zq (za 3) (za 5)) (js (zq (zq (za 0) (za 4)) (za 5)) (zq (za 2) (za 4)))))))))
  (zl (zA (za 3)))))
noncomputable abbrev zcN:Stmt:=zF kaa 32
theorem ze7:qP (T.at fr) d (zz zcN) zhs (zJ zcN) (yA T d) :=
 (zh (sA 2 (sC ok F (zb (za 0) zm)))
  (zh (ju (i:=3) rfl (by kernel_rfl) zU (qj ok B (qC ok B (za 1))) trivial (zR (qX (zq (za 1) (za 4)) (zq (zq (za 0) (za 4)) (za 4))) zf))
  (zl (zA (jt zU (qH (sC ok F (zb (za 0) (zb (za 3) zm)))) trivial (zi1 ok B zf (qX zf (qp (qX zf (za 5)) (za 2)))))))))
noncomputable abbrev zkM:Stmt:=zF kaa 33
theorem zld:qP (T.at fr) d (zz zkM) zpr (zJ zkM) (zdQ T d) :=
 (zh (sA 3 (sC ok F (zb (za 0) (zb (za 1) zm))))
  (zh (sA 4 (sC ok F (zb (za 3) (zb (za 2) zm))))
  (zh (sA 5 (sC ok F (zb (za 3) (zb (za 2) (zb (za 4) zm)))))
  (zh (sA 6 ql)
  (zh (zdW (z5 (za 6)) (zh (sA 6 ql)
  (zl (jb tN (qj ok B (za 0)) (zl (zH (zo .ge rfl (zq (za 5) (za 7)) (zq (zq (za 3) (za 7)) (za 7))) (zh (sA 8 (zac (zW (zb zf zm)) (za 0)))
  (zh (ja (za 8) (za 7) (qp (zq (za 5) (za 7)) (zq (zq (za 3) (za 7)) (za 7))))
  (zh (sA 5 (sC ok F (zb (za 3) (zb (za 5) (zb (za 8) zm)))))
  (zh (ja (za 4) (za 7) (zR (zq (za 4) (za 7)) (zq (za 8) (za 7))))
  (zl (sA 6 ql)))))) zy))))))
  (zl (zA (jC (zb (za 5) (zb (za 4) zm))))))))))
noncomputable abbrev zmW:Stmt:=zF kaa 34
theorem znt:qP (T.at fr) d (zz zmW) zru (zJ zmW) (zbE T d) :=
 (zh (sA 3 (sC ok F (zb (za 0) (zb (za 1) zm))))
  (zl (zA (zga ok B (jt zU (qj ok B (za 0)) trivial (zav .lt rfl (zq (za 2) (za 4)) (zq (za 3) (za 4))))))))
noncomputable abbrev zh6:Stmt:=zF kaa 35
theorem zj3:qP (T.at fr) d (zz zh6) zn8 (zJ zh6) (zcp T d) :=
 (zh (z2 (sC ok F (zb (za 0) (zb (za 1) zm))))
  (zh (z2 (sC ok F (zb (za 0) (zb (za 2) zm))))
  (zl (zA (sC ok F (zb (za 0) (zb (za 1) (zb (za 2) zm))))))))
noncomputable abbrev zhV:Stmt:=zF kaa 36
theorem zjS:qP (T.at fr) d (zz zhV) znX (zJ zhV) (zcj T d) :=
 (zh (z2 (sC ok F (zb (za 0) (zb (za 1) zm))))
  (zh (z2 (sC ok F (zb (za 0) (zb (za 2) zm))))
  (zh (z2 (sC ok F (zb (za 0) (zb (za 3) zm))))
  (zh (zH (zo .lt rfl (zq (za 2) (za 3)) (zq (sC ok F (zb (za 0) (zb (za 1) zm))) (za 3))) (zl (yQ ok X (x:=5) (by decide))) zy)
  (zh (sA 4 (zac (zW (zb zf zm)) (za 0)))
  (zh (ja (za 4) (za 3) zf)
  (zl (zA (sC ok F (zb (sC ok F (zb (za 0) (zb (za 1) zm))) (zb (za 2) (zb (za 4) zm))))))))))))
noncomputable abbrev zhX:Stmt:=zF kaa 37
theorem zjU:qP (T.at fr) d (zz zhX) znZ (zJ zhX) (zck T d) :=
 (zh (z2 (sC ok F (zb (za 0) (zb (za 1) zm))))
  (zh (z2 (sC ok F (zb (za 0) (zb (za 2) zm))))
  (zl (zA (sC ok F (zb (za 0) (zb (za 1) (zb (za 2) zm))))))))
noncomputable abbrev zgq:Stmt:=zF kaa 40
theorem zix:qP (T.at fr) d (zz zgq) zlT (zJ zgq) (zas T d) :=
 (zh (zH (jz (z5 (sC ok F (zb (za 0) (zb (za 1) (zb (za 2) zm)))))) (zl (zA ql)) zy)
  (zh (sA 3 (sC ok F (zb (za 0) (zb (za 1) zm))))
  (zh (ju (i:=4) rfl (by kernel_rfl) zU (qj ok B (za 0)) trivial (zR (zq (za 2) (za 5)) (zq (za 3) (za 5))))
  (zl (zA (zs6 false rfl (zq (sC ok F (zb (za 0) (zb (za 1) (zb (za 4) zm)))) zf) (za 2)))))))
noncomputable abbrev zdt:Stmt:=zF kaa 41
theorem zfD:qP (T.at fr) d (zz zdt) ziR (zJ zdt) (yt T d) :=
 (zl (zH (jz (z5 (sC ok F (zb (za 0) (zb (za 1) (zb (za 2) zm)))))) (zl (yQ ok X (x:=6) (by decide))) zy))
noncomputable abbrev zcT:Stmt:=zF kaa 42
theorem zfd:qP (T.at fr) d (zz zcT) zhy (zJ zcT) (wI T d) :=
 (zh (z2 (sC ok F (zb (za 0) (zb (za 1) zm))))
  (zh (z2 (sC ok F (zb (za 0) (zb (za 2) zm))))
  (zl (zA (sC ok F (zb (za 0) (zb (za 1) (zb (za 2) zm))))))))
noncomputable abbrev zeT:Stmt:=zF kaa 43
theorem zg2:qP (T.at fr) d (zz zeT) zkk (zJ zeT) (yV T d) :=
 (zl (zA (zR (qp (zqP ok B (zbG (zW (zb (zed ok (G ("ENOUGH", 41) (by decide +kernel))) zm)) (za 1))) (za 0)) zf)))
noncomputable abbrev zgo:Stmt:=zF kaa 44
theorem ziv:qP (T.at fr) d (zz zgo) zlR (zJ zgo) (zbs T d) :=
 (zh (sA 3 (sC ok F (zb (za 0) (zb (za 1) zm))))
  (zh (sA 4 (sC ok F (zb (za 3) zm)))
  (zh (sA 5 (sC ok F (zb (za 4) (zb (jt zU (qH (za 2)) trivial (qX (zed ok (G ("ENOUGH", 41) (by decide +kernel))) (za 9))) zm))))
  (zh (ju (i:=6) rfl (by kernel_rfl) zU (qH (sC ok F (zb (za 3) (zb (zac (zW (zb zf zm)) (za 0)) zm)))) trivial (js (za 9) (za 5)))
  (zh (zf9 (tC (tC .nil)) (sC ok F (zb (za 0) (zb (za 1) (zb (jt zU (qH (za 2)) trivial (zR (za 9) (js (za 4) (za 5)))) zm)))))
  (zl (zA (jC (zb (za 7) (zb (jt zU (qj ok B (za 0)) trivial (qX (zq (za 8) (za 10)) (zq (za 6) (za 10)))) zm))))))))))
noncomputable abbrev zrS:Stmt:=zF kaa 45
theorem zqI:qP (T.at fr) d (zz zrS) zto (zJ zrS) (zk2 T d) :=
 (zh (z2 (sC ok F (zb (za 0) (zb (za 1) zm))))
  (zh (z2 (sC ok F (zb (za 0) (zb (za 2) zm))))
  (zl (zA (sC ok F (zb (za 0) (zb (za 1) (zb (za 2) zm))))))))
noncomputable abbrev zmY:Stmt:=zF kaa 46
theorem znv:qP (T.at fr) d (zz zmY) zrw (zJ zmY) (zfX T d) :=
 (zh (z2 (sC ok F (zb (za 0) (zb (za 1) zm))))
  (zh (z2 (sC ok F (zb (za 0) (zb (za 2) zm))))
  (zh (z2 (sC ok F (zb (za 0) (zb (za 3) zm))))
  (zh (sA 4 (sC ok F (zb (za 0) (zb (za 1) zm))))
  (zh (sA 5 (sC ok F (zb (za 4) zm)))
  (zh (sA 6 (sC ok F (zb (za 4) (zb (jt zU (qj ok B (za 0)) trivial (qX (zq (za 2) (za 8)) (zq (za 3) (za 8)))) zm))))
  (zh (zH (z5 (zqU ok B (jt zU (qH (za 6)) trivial (zav .ne rfl (zN (za 7) (za 5)) zf)))) (zl (zA wy)) zy)
  (zl (zA (jt zU (qH (za 6)) trivial (qp (za 7) (za 5))))))))))))
noncomputable abbrev zhU:Stmt:=zF kaa 47
theorem zjR:qP (T.at fr) d (zz zhU) znW (zJ zhU) (za1 T d) :=
 (zh (z2 (sC ok F (zb (za 0) (zb (za 1) zm))))
  (zh (z2 (sC ok F (zb (za 0) (zb (za 2) zm))))
  (zh (z2 (sC ok F (zb (za 0) (zb (za 3) zm))))
  (zh (z2 (sC ok F (zb (za 0) (zb (za 1) (zb (za 3) zm)))))
  (zh (sA 4 (sC ok F (zb (sC ok F (zb (za 0) (zb (za 1) zm))) zm)))
  (zh (sA 5 (sC ok F (zb (za 4) (zb (za 2) zm))))
  (zl (zA (jt zU (qj ok B (za 0)) trivial (zR (qX (zq (za 3) (za 6)) (zq (za 2) (za 6))) (js (za 4) (za 5))))))))))))
noncomputable abbrev zgl:Stmt:=zF kaa 49
theorem zis:qP (T.at fr) d (zz zgl) zlO (zJ zgl) (zbp T d) :=
 (zh (z2 (sC ok F (zb (za 0) (zb (za 1) zm))))
  (zh (z2 (sC ok F (zb (za 0) (zb (za 2) zm))))
  (zh (z2 (sC ok F (zb (za 0) (zb (za 3) zm))))
  (zl (zA (zq (sC ok F (zb (za 0) (zb (za 1) (zb (jt zU (qj ok B (za 0)) trivial (zR (zq (za 2) (za 4)) (zq (za 3) (za 4)))) zm)))) zf))))))
noncomputable abbrev zhY:Stmt:=zF kaa 50
theorem zjV:qP (T.at fr) d (zz zhY) zn0 (zJ zhY) (zcl T d) :=
 (zh (z2 (sC ok F (zb (za 0) (zb (za 1) zm))))
  (zl (zA (zq (sC ok F (zb (za 0) (zb (za 1) (zb (zac (zW (zb zf zm)) (za 0)) zm)))) zf))))
noncomputable abbrev zhS:Stmt:=zF kaa 51
theorem zjP:qP (T.at fr) d (zz zhS) znU (zJ zhS) (zch T d) :=
 (zh (z2 (sC ok F (zb (za 0) (zb (za 1) zm))))
  (zh (z2 (sC ok F (zb (za 0) (zb (za 2) zm))))
  (zl (zA (zq (sC ok F (zb (za 0) (zb (za 1) (zb (jt zU (qH (za 2)) trivial (qX zf (za 3))) zm)))) zf)))))
noncomputable abbrev zgn:Stmt:=zF kaa 53
theorem ziu:qP (T.at fr) d (zz zgn) zlQ (zJ zgn) (zbq T d) :=
 (zl (zA (zoK ok B zpn (za 0) (by decide +kernel) (zE (z9 (zdY false rfl (za 1) (za 4)) (z7 (zbd false rfl (sC ok F (zb (za 4) (zb (za 1) zm))) (za 2))))) (za 3))))
noncomputable abbrev zgp:Stmt:=zF kaa 54
theorem ziw:qP (T.at fr) d (zz zgp) zlS (zJ zgp) (zbt T d) :=
 (zh (sA 5 (zR (qC ok B (sC ok F (zb (za 1) (zb (za 2) (zb (za 3) zm))))) (qC ok B (sC ok F (zb (za 1) (zb (za 2) (zb (za 4) zm)))))))
  (zl (zA (qX (zq (sC ok F (zb (za 0) (zb (za 1) zm))) (za 2)) (za 5)))))
noncomputable abbrev zh1:Stmt:=zF kaa 55
theorem zjY:qP (T.at fr) d (zz zh1) zn3 (zJ zh1) (za5 T d) :=
 (zh (sA 2 (zoJ ok B (za 0)))
  (zh (z2 (zsc (za 2) (za 1)))
  (zl (zA (za 2)))))
noncomputable abbrev zhT:Stmt:=zF kaa 56
theorem zjQ:qP (T.at fr) d (zz zhT) znV (zJ zhT) (zci T d) :=
 (zh (z2 (sC ok F (zb (za 0) (zb (za 1) zm))))
  (zh (z2 (sC ok F (zb (za 0) (zb (za 2) zm))))
  (zh (z2 (sC ok F (zb (za 0) (zb (za 1) (zb (za 2) zm)))))
  (zh (sA 3 (zW zm))
  (zh (sA 4 zaz)
  (zh (sA 5 (zca (za 0) ql))
  (zh (zdW (zo .gt rfl (qC ok B (za 5)) zf) (zh (sA 6 (sC ok F (zb (za 4) (zb (za 5) zm))))
  (zh (sA 7 zaz)
  (zh (jb tN (qj ok B (za 0)) (zh (sA 9 (sC ok F (zb (za 0) (zb (za 1) (zb (za 8) (zb (za 4) (zb (za 5) zm)))))))
  (zl (zH (zE (z9 (zbd true rfl (za 8) (za 6)) (z7 (zo .ge rfl (zq (za 2) (za 8)) (za 9))))) (zh (z2 (zdG (za 3) (zq (sC ok F (zb (za 1) (zb (za 8) (zb (za 5) zm)))) (qX (zq (za 2) (za 8)) (za 9)))))
  (zl (ja (za 7) (za 8) ql))) zy))))
  (zh (sA 4 (za 6))
  (zl (sA 5 (za 7))))))))
  (zl (zA (zqM ok B (za 3)))))))))))
noncomputable abbrev zh3:Stmt:=zF kaa 57
theorem zj0:qP (T.at fr) d (zz zh3) zn5 (zJ zh3) (za7 T d) :=
 (zh (z2 (sC ok F (zb (za 0) (zb (za 1) zm))))
  (zh (z2 (sC ok F (zb (za 0) (zb (za 1) (zb (za 2) zm)))))
  (zh (sA 3 (zac (zW (zb zf zm)) (za 0)))
  (zh (sA 4 zaz)
  (zh (sA 5 (zca (za 0) ql))
  (zh (zdW (zo .gt rfl (qC ok B (za 5)) zf) (zh (sA 6 (sC ok F (zb (za 4) (zb (za 5) zm))))
  (zh (sA 7 zaz)
  (zh (jb tN (qj ok B (za 0)) (zh (sA 9 (sC ok F (zb (za 1) (zb (za 8) (zb (za 5) zm)))))
  (zh (ju (i:=10) rfl (by kernel_rfl) zU (qH (za 9)) (zdY false rfl (za 11) (za 2)) (za 11))
  (zl (zH (zE (z9 (zbd true rfl (za 8) (za 6)) (z7 (zo .gt rfl (qC ok B (za 10)) zf)))) (zh (ja (za 3) (za 8) (zR (sC ok F (zb (za 0) (zb (za 1) (zb (za 8) (zb (za 4) (zb (za 5) zm)))))) (zse (za 9) (zq (za 10) zf))))
  (zl (ja (za 7) (za 8) ql))) zy)))))
  (zh (sA 4 (za 6))
  (zl (sA 5 (za 7))))))))
  (zl (zA (za 3)))))))))
noncomputable abbrev zgr:Stmt:=zF kaa 58
theorem ziy:qP (T.at fr) d (zz zgr) zlU (zJ zgr) (zbu T d) :=
 (zh (z2 (sC ok F (zb (za 0) (zb (za 1) zm))))
  (zl (zA (sC ok F (zb (sC ok F (zb (za 0) (zb (za 1) zm))) zm)))))
noncomputable abbrev zcP:Stmt:=zF kaa 60
theorem ze9:qP (T.at fr) d (zz zcP) zhu (zJ zcP) (jM T d) :=
 (zh (zH (zo .lt rfl (za 1) (qC ok B (za 0))) (zl (zA (zq (za 0) (za 1)))) zy)
  (zh (zH (zbF false rfl (za 0) (zW zm)) (zl (zA zf)) zy)
  (zh (sA 2 (zN (zR (js (zq (za 0) (zN (za 1) (qC ok B (za 0)))) zf) (js (za 1) zf)) zf))
  (zl (zA (zN (zR (js (za 2) (za 2)) (js zf (za 1))) zf))))))
noncomputable abbrev zeY:Stmt:=zF kaa 61
theorem zg7:qP (T.at fr) d (zz zeY) zkp (zJ zeY) (wZ T d) :=
 (zh (sA 2 (zN (zR (js (za 0) zf) (js (js (zR (za 1) zf) zf) (zR (zN (za 0) zf) zf))) zf))
  (zl (zA (zN (zR (js (za 2) (za 2)) (js zf (za 1))) zf))))
noncomputable abbrev zdu:Stmt:=zF kaa 62
theorem zfE:qP (T.at fr) d (zz zdu) ziS (zJ zdu) (y8 T d) :=
 (zh (zH (zo .eq rfl (za 0) (za 1)) (zl (zA (za 1))) zy)
  (zh (zH (zo .eq rfl (zN (qp (za 2) zf) zf) zf) (zl (zA (qX (qX (za 1) zf) (zN (zR (za 0) (za 2)) (za 1))))) zy)
  (zl (zA (zN (zR (za 0) (za 2)) (za 1))))))
noncomputable abbrev zhZ:Stmt:=zF kaa 63
theorem zjW:qP (T.at fr) d (zz zhZ) zn1 (zJ zhZ) (zcm T d) :=
 (zh (sA 2 (sC ok F (zb (za 0) (zb zf zm))))
  (zh (sA 3 (zN (za 2) zf))
  (zh (sA 4 (zey (za9 (zav .eq rfl (zN (qp (za 2) zf) zf) zf) (zi2 (zav .gt rfl (za 1) zf)))))
  (zh (zH (z5 (za 4)) (zl (sA 3 (zR zf (zN (qp (za 2) zf) (zq (zW (zb zf (zb zf (zb zf (zb zf zm))))) (za 1)))))) zy)
  (zh (sA 5 (zW zm))
  (zh (jb tN (qj ok B (za 3)) (zh (sA 11 (sC ok F (zb (za 0) (zb (zR zf (za 6)) zm))))
  (zh (sA 12 (zN (za 11) (zR (za 6) zf)))
  (zh (zH (zE (z9 (z5 (za 4)) (z9 (zo .gt rfl (zN (za 11) zf) zf) (z7 (zo .eq rfl (zN (qp (za 2) zf) zf) zf))))) (zl (sA 12 (za 6))) zy)
  (zl (z2 (zdG (za 5) (jC (zb (za 6) (zb (zq (zW (zb (za 3) (zb (qX (za 12) zf) zm))) (zmD ok B (zav .gt rfl (za 12) zf))) zm))))))))))
  (zh (sA 7 (zN (sC ok F (zb (za 0) (zb zf zm))) zf))
  (zh (zH (zE (z9 (z5 (za 4)) (z7 (zo .lt rfl (za 1) zf)))) (zl (sA 7 (zN (za 7) zf))) zy)
  (zh (zH (zE (z9 (zo .eq rfl (zN (qp (sC ok F (zb (za 0) (zb zf zm))) zf) zf) zf) (z7 (zE (jc (zo .lt rfl (za 3) zf) (qV (zo .eq rfl (za 1) zf))))))) (zl (sA 7 (qX zf (za 3)))) zy)
  (zh (jb tN (qj ok B (js (za 7) (zmD ok B (zav .gt rfl (za 3) zf)))) (zh (sA 11 (sC ok F (zb (sC ok F (zb (za 0) (zb (zR zf (zN (za 6) zf)) zm))) (zb (za 6) zm))))
  (zh (sA 13 (zN (za 11) (zR (za 3) zf)))
  (zl (z2 (zdG (za 5) (jC (zb (za 13) (zb (zN (zR (zR (za 13) zf) (zN (qp (za 11) zf) (za 3))) (zR (za 3) zf)) zm)))))))))
  (zh (sA 8 (zN (sC ok F (zb (za 0) (zb zf zm))) zf))
  (zh (sA 9 (zN (sC ok F (zb (za 0) (zb zf zm))) (zR (qC ok B (za 5)) zf)))
  (zh (sA 10 (zW zm))
  (zh (jb (.tup (tC (tC .nil))) (qH (zbG (zf8 (za 5) (za 9)) (zi0 (za 5) (za 9)))) (zh (sA 15 (jC (zb (sC ok F (zb (za 13) (zb (za 3) (zb (za 8) zm)))) (zb (sC ok F (zb (za 14) (zb (za 3) (zb (za 8) zm)))) zm))))
  (zh (zH (zo .eq rfl (zN (zR (qp (sC ok F (zb (za 0) (zb zf zm))) zf) (qC ok B (za 10))) zf) zf) (zl (sA 15 (jC (zb (zq (za 15) zf) (zb (zq (za 15) zf) zm))))) zy)
  (zl (z2 (zdG (za 10) (za 15)))))))
  (zl (zA (jC (zb (za 3) (zb (za 10) zm)))))))))))))))))))
noncomputable abbrev zcO:Stmt:=zF kaa 64
theorem ze8:qP (T.at fr) d (zz zcO) zht (zJ zcO) (jf T d) :=
 (zh (sA 2 (zac (zW (zb zf zm)) (za 0)))
  (zh (jb (.tup (tC (tC .nil))) (qH (za 1)) (zl (jb tN (qH (zW (zb (za 3) (zb (za 4) zm)))) (zl (zH (zo .lt rfl (za 5) (za 0)) (zl (ja (za 2) (za 5) (zR (zq (za 2) (za 5)) zf))) zy)))))
  (zl (zA (za 2)))))
noncomputable abbrev zh0:Stmt:=zF kaa 65
theorem zjX:qP (T.at fr) d (zz zh0) zn2 (zJ zh0) (za3 T d) :=
 (zh (sA 4 (sC ok F (zb (za 2) (zb (za 3) zm))))
  (zl (zA (jt zU (qj ok B (za 2)) trivial (zN (sC ok F (zb (za 0) (zb (zR (za 1) (za 5)) zm))) (zq (za 4) (za 5)))))))
noncomputable def zfS:List Str := "_law_many"::"_law_roads"::"_law_heap"::"_law_most"::"_law_burnt"::"_law_turn"::"_law_k"::"_law_fire"::"_law_road" :: []
noncomputable abbrev zeZ:Stmt:=zF kaa 66
theorem zg8:qP (T.at fr) d (zz zeZ) zfS (zJ zeZ) (zaE T d) :=
 (zh (sA 3 (sC ok F (zb (za 0) (zb (za 1) zm))))
  (zh (zH (zbF true rfl (jt zU (qj ok B (za 0)) (jz (zbv .le .lt rfl rfl zf (zq (za 2) (za 6)) (zq (za 3) (za 6)))) (za 6)) (zW zm)) (zl (zA ql)) zy)
  (zh (sA 4 (zca (za 0) ql))
  (zh (jb tN (qj ok B (za 0)) (zl (jb tN (qj ok B (za 0)) (zh (ju (i:=7) rfl (by kernel_rfl) zU (qH (za 1)) (zE (z9 (zdY false rfl (za 6) (za 8)) (z7 (zE (jc (zbd false rfl (zq (za 8) zf) (za 4)) (qV (zbd false rfl (zq (za 8) zf) (za 4)))))))) (za 8))
  (zl (zH (zE (z9 (zbd true rfl (za 6) (za 4)) (z7 (zo .ge rfl (zR (zq (za 2) (za 6)) (qC ok B (za 7))) (zq (za 3) (za 6)))))) (zl (ja (za 4) (za 6) ql)) zy))))))
  (zl (zA (zav .eq rfl (qC ok B (za 4)) (zR (za 0) zf))))))))
noncomputable abbrev zeX:Stmt:=zF kaa 67
theorem zg6:qP (T.at fr) d (zz zeX) zko (zJ zeX) (yW T d) :=
 (zl (zA (zq (zW (zb wy (zb (zcC zf) (zb ql (zb zhb (zb (zR (zf7 zf zf) zf) (zb (zW (zb zf zm)) (zb ql (zb (jC (zb zf zm)) zm))))))))) (zN (za 0) zf))))
noncomputable abbrev zeW:Stmt:=zF kaa 68
theorem zg5:qP (T.at fr) d (zz zeW) zkn (zJ zeW) (jI T d) :=
 (zh (sA 3 (zN (za 2) (zi1 ok B zf (qC ok B (za 0)))))
  (zl (zA (zbG (zbG (zi0 (za 0) (za 3)) (zW (zb (za 1) zm))) (zf8 (za 0) (zR (za 3) zf))))))
noncomputable abbrev zbA:Stmt:=zF kaa 69
theorem zdl:qP (T.at fr) d (zz zbA) zfp (zJ zbA) (jB T d) :=
 (zh (sA 3 (zN (za 2) (za 0)))
  (zh (ju (i:=4) rfl (by kernel_rfl) zU (qj ok B (za 0)) (zE (jc (zo .eq rfl (za 6) (za 3)) (qV (zo .lt rfl (zN (js (zR (qp (za 2) zf) (js zf (za 6))) (zR (za 6) zf)) zf) zf)))) (za 6))
  (zh (ju (i:=5) rfl (by kernel_rfl) zU (qH (za 1)) (zgP false rfl (zpK false rfl (zq (za 7) zf) (za 4)) (zpK false rfl (zq (za 7) zf) (za 4))) (za 7))
  (zh (jb tN (zdX ok B zf (qC ok B (za 4))) (zl (zH (zo .lt rfl (qC ok B (za 5)) zf) (zl (z2 (zdG (za 5) (jC (zb (zq (za 4) (qX (za 6) zf)) (zb (zq (za 4) (za 6)) zm)))))) zy)))
  (zl (zA (za 5)))))))
noncomputable abbrev zbZ:Stmt:=zF kaa 70
theorem zec:qP (T.at fr) d (zz zbZ) zfR (zJ zbZ) (yj T d) :=
 (zh (sA 3 (zN (za 2) zf))
  (zh (zH (zo .eq rfl (za 3) zf) (zl (zA (jC (zb (zq (zW (zb wy (zb (zcC zf) (zb ql (zb ql (zb zhb (zb zf (zb (zf7 zf zf) zm)))))))) (zN (qp (za 2) zf) zf)) (zb (za 1) zm))))) zy)
  (zh (zH (zo .eq rfl (za 3) zf) (zl (zA (jC (zb (za 0) (zb (zq (zW (zb wy (zb (zc7 ok B (za 1)) (zb zaz zm)))) (zN (qp (za 2) zf) zf)) zm))))) zy)
  (zh (zH (zE (z9 (zo .eq rfl (za 3) zf) (z7 (zo .gt rfl (za 0) zf)))) (zl (zA (jC (zb (za 0) (zb (sC ok F (zb (za 0) (zb (za 1) (zb (qp (za 2) zf) zm)))) zm))))) zy)
  (zh (zH (zE (z9 (zo .eq rfl (za 3) zf) (z7 (zo .gt rfl (za 0) zf)))) (zl (zA (jC (zb (za 0) (zb (zoI (zac (za 1) zf) zf) zm))))) zy)
  (zh (sA 4 (zW (zb (jC (zb zf (zb zf zm))) (zb (jC (zb zf (zb (zR (za 0) zf) zm))) (zb (jC (zb (zcC zf) (zb (za 0) zm))) (zb (zW (zb zf (zb (za 0) zm))) (zb (jC (zb zf zm)) (zb (jC (zb zf (zb (za 0) (zb zf zm)))) (zb wy (zb (jC (zb ql (zb (za 0) zm))) (zb (jC (zb zhb (zb (za 0) zm))) zm)))))))))))
  (zh (sA 5 (zq (za 4) (zN (qp (za 2) zf) zf)))
  (zh (zH (zE (z9 (z5 (zdF ok B .tuple (za 5))) (z7 (zo .eq rfl (zN (qp (za 2) zf) zf) zf)))) (zl (sA 5 (zqO (za 5) (zcC zf) (fun _ _ _ _ h=>h)))) zy)
  (zl (zA (jC (zb (za 0) (zb (sC ok F (zb (za 1) (zb (za 5) (zb (qp (za 2) zf) zm)))) zm)))))))))))))
noncomputable abbrev zbz:Stmt:=zF kaa 71
theorem zdk:qP (T.at fr) d (zz zbz) zfo (zJ zbz) (j5 T d) :=
 (zh (sA 2 (zN (za 1) zf))
  (zh (zH (zo .eq rfl (za 2) zf) (zl (zA (zq (zW (zb wy (zb (zc7 ok B (za 0)) (zb zaz zm)))) (zN (qp (za 1) zf) zf)))) zy)
  (zh (zH (zE (z9 (zo .eq rfl (za 2) zf) (z7 (zbF true rfl (za 0) (zW zm))))) (zl (zA (zf8 (za 0) zf))) zy)
  (zh (zH (zE (jc (zo .eq rfl (za 2) zf) (qV (zbF false rfl (za 0) (zW zm))))) (zl (zA (zbG (za 0) (zW (zb zf zm))))) zy)
  (zl (zA (sC ok F (zb (za 0) (zb (sC ok F (zb (qp (za 1) zf) zm)) (zb (qp (za 1) zf) zm))))))))))
noncomputable abbrev zby:Stmt:=zF kaa 72
theorem zdj:qP (T.at fr) d (zz zby) zfn (zJ zby) (j4 T d) :=
 (zh (sA 3 (zN (za 2) zf))
  (zh (zH (zo .eq rfl (za 3) zf) (zl (zA (zq (zW (zb wy (zb (zc7 ok B (za 0)) (zb zaz zm)))) (zN (qp (za 2) zf) zf)))) zy)
  (zh (zH (zE (z9 (zo .eq rfl (za 3) zf) (z7 (zbF true rfl (za 0) (zW zm))))) (zl (zA (zf8 (za 0) zf))) zy)
  (zh (zH (zE (jc (zo .eq rfl (za 3) zf) (qV (zbF false rfl (za 0) (zW zm))))) (zl (zA (zbG (za 0) (zW (zb zf zm))))) zy)
  (zl (zA (sC ok F (zb (za 0) (zb (zq (zW (zb wy (zb (zcC zf) (zb ql (zb zhb (zb (qC ok B (za 1)) (zb ql zm))))))) (zN (qp (za 2) zf) zf)) (zb (qp (za 2) zf) zm))))))))))
noncomputable abbrev zdv:Stmt:=zF kaa 73
theorem zfF:qP (T.at fr) d (zz zdv) ziT (zJ zdv) (y9 T d) :=
 (zh (sA 2 (zca (za 0) ql))
  (zh (sA 3 (zW zm))
  (zh (jb tN (qj ok B (za 0)) (zl (jb tN (qj ok B (qC ok B (za 1))) (zh (zf9 (tC (tC .nil)) (zq (za 1) (za 5)))
  (zl (zH (zgP true rfl (zjp false rfl (za 6) (za 2)) (zjp false rfl (za 7) (za 2))) (zh (ja (za 2) (za 6) ql)
  (zh (ja (za 2) (za 7) ql)
  (zl (z2 (zdG (za 3) (za 5)))))) zy))))))
  (zl (zA (za 3))))))
noncomputable abbrev zcQ:Stmt:=zF kaa 74
theorem zfa:qP (T.at fr) d (zz zcQ) zhv (zJ zcQ) (yb T d) :=
 (zh (zH (zo .eq rfl (za 0) zf) (zl (zA (sC ok F (zb (za 1) (zb (za 2) zm))))) zy)
  (zh (zH (zo .eq rfl (za 0) zf) (zl (zA (sC ok F (zb (za 1) (zb (za 2) zm))))) zy)
  (zh (zH (zo .eq rfl (za 0) zf) (zl (zA (sC ok F (zb (za 1) (zb (za 2) zm))))) zy)
  (zh (zH (zo .eq rfl (za 0) zf) (zl (zA (sC ok F (zb (za 1) (zb (za 2) (zb (za 3) zm)))))) zy)
  (zh (zH (zo .eq rfl (za 0) zf) (zl (zA (sC ok F (zb (za 1) (zb (za 2) (zb (za 3) zm)))))) zy)
  (zh (zH (zo .eq rfl (za 0) zf) (zl (zA (sC ok F (zb (za 1) (zb (za 2) (zb (za 3) zm)))))) zy)
  (zh (zH (zo .eq rfl (za 0) zf) (zl (zA (sC ok F (zb (za 1) (zb (za 2) (zb (za 3) zm)))))) zy)
  (zh (zH (zo .eq rfl (za 0) zf) (zl (zA (sC ok F (zb (za 1) (zb (za 2) (zb (za 3) zm)))))) zy)
  (zh (zH (zo .eq rfl (za 0) zf) (zl (zA (sC ok F (zb (za 1) (zb (za 2) (zb (za 3) (zb (za 4) zm))))))) zy)
  (zh (zH (zo .eq rfl (za 0) zf) (zl (zA (sC ok F (zb (za 1) (zb (za 2) (zb (za 3) (zb (za 4) zm))))))) zy)
  (zh (zH (zo .eq rfl (za 0) zf) (zl (zA (sC ok F (zb (za 1) (zb (za 2) (zb (za 3) (zb (za 4) zm))))))) zy)
  (zh (zH (zo .eq rfl (za 0) zf) (zl (zA (sC ok F (zb (za 1) (zb (za 2) (zb (za 3) zm)))))) zy)
  (zh (zH (zo .eq rfl (za 0) zf) (zl (zA (sC ok F (zb (za 1) (zb (za 2) (zb (za 3) (zb (za 5) zm))))))) zy)
  (zl (zA (sC ok F (zb (za 1) (zb (za 2) (zb (za 6) zm)))))))))))))))))))
theorem zfG:zrC (T.at fr) d (zz zal) zbn (zJ zal) (wd T d) :=
 (zqK ok X (by decide) 7 (sC ok F (zb (za 0) (zb (za 1) (zb (za 2) (zb (za 3) (zb (za 4) (zb (za 5) (zb (za 6) zm)))))))) (fun c=>zea (c:=c) (C:=rfl) ok.cold B.cold F G X)
  (zl (zA zf)) rfl (by kernel_rfl) (by kernel_rfl))
noncomputable abbrev zdw:Stmt:=zF kaa 76
theorem zfH:qP (T.at fr) d (zz zdw) ziU (zJ zdw) (wf T d) :=
 (zh (zH (zE (jc (zE (z9 (zo .eq rfl (za 0) zf) (z7 (jz (z5 (sC ok F (zb (za 1) (zb (za 2) (zb (za 4) zm))))))))) (qV (zE (z9 (zo .eq rfl (za 0) zf) (z7 (jz (z5 (sC ok F (zb (za 1) (zb (za 2) (zb (za 3) zm)))))))))))) (zl (zA zf)) zy)
  (zh (zH (zE (z9 (zo .eq rfl (za 0) zf) (z7 (zo .lt rfl (zq (za 3) (za 5)) (zq (sC ok F (zb (za 1) (zb (za 2) zm))) (za 5)))))) (zl (zA zf)) zy)
  (zl (zA zf))))
noncomputable abbrev zbY:Stmt:=zF kaa 77
theorem zeb:qP (T.at fr) d (zz zbY) zfQ (zJ zbY) (yi T d) :=
 (zh (zqT (tC (tC .nil)) (zi0 (za 2) zf))
  (zh (sA 4 (zee ok B (za 2)))
  (zh (sA 5 (za 3))
  (zh (ju (i:=6) rfl (by kernel_rfl) zU (qj ok B zf) trivial (sC ok F (zb (za 0) (zb (zR zf (za 9)) zm))))
  (zh (zH (zo .eq rfl (zN (zq (za 6) zf) zf) zf) (zh (ja (za 4) zf (zq (zW (zb (zcC zf) (zb (za 7) (zb wy (zb ql (zb zhb (zb (zf7 zf zf) zm))))))) (zN (qp (zq (za 6) zf) zf) zf)))
  (zh (ja (za 4) zf (sC ok F (zb (zq (za 2) zf) (zb (za 8) (zb (qp (zq (za 6) zf) zf) zm)))))
  (zl (zH (zo .gt rfl (za 1) zf) (zl (sA 5 (qX (za 1) zf))) zy)))) zy)
  (zh (zH (zo .eq rfl (zN (zq (za 6) zf) zf) zf) (zh (ja (za 4) zf (sC ok F (zb (zq (za 2) zf) (zb (qp (zq (za 6) zf) zf) zm))))
  (zl (zH (zbv .lt .lt rfl rfl zf (za 1) zf) (zl (sA 5 zf)) zy))) zy)
  (zh (zH (zo .eq rfl (zN (zq (za 6) zf) zf) zf) (zh (ja (za 4) zf (sC ok F (zb (zq (za 2) zf) (zb (qp (zq (za 6) zf) zf) zm))))
  (zl (zH (zbv .lt .lt rfl rfl zf (za 1) zf) (zl (sA 5 zf)) zy))) zy)
  (zh (zH (zo .eq rfl (zN (zq (za 6) zf) zf) zf) (zh (zqN (za 4) zf (za 4) zf (sC ok F (zb (za 7) (zb (za 8) (zb (qp (zq (za 6) zf) zf) zm)))))
  (zl (sA 5 zf))) zy)
  (zl (zA (jC (zb (za 4) (zb (za 5) zm)))))))))))))
noncomputable abbrev zmX:Stmt:=zF kaa 78
theorem znu:qP (T.at fr) d (zz zmX) zrv (zJ zmX) (zfW T d) :=
 (zh (zf9 (tC (tC .nil)) (sC ok F (zb (za 0) (zb zf zm))))
  (by
  refine zh ?_ ?_
  ·refine zpL 1 ?_ ?_ ?_ ?_
   ·rfl
   ·decide +kernel
   ·refine zq ?_ ?_ ?_
    ·refine zW ?_
     exact (zqJ (.cons (.cons (.cons (.cons (.cons (.cons (.cons (.cons (.cons (.cons (.cons (.cons (.cons (.cons (.cons (.cons (.cons (.cons .nil)))))))))))))))))))
    ·exact (zN (sC ok F (zb (za 0) (zb zf zm))) zf)
    ·intro _ _;rfl
   ·intro _;rfl
  ·exact (zh (zH (zE (z9 (zo .eq rfl (za 7) zf) (z7 (zo .eq rfl (za 1) zf)))) (zl (sA 1 zf)) zy)
  (zh (sA 2 (sC ok F (zb (za 0) (zb zf (zb (za 7) (zb (za 8) zm))))))
  (zh (sA 3 (sC ok F (zb (za 0) (zb zf (zb (za 7) (zb (za 8) zm))))))
  (zh (sA 4 (zN (sC ok F (zb (za 0) (zb zf zm))) (zi1 ok B zf (za 7))))
  (zh (zH (zE (z9 (zo .eq rfl (zN (sC ok F (zb (za 0) (zb zf zm))) zf) zf) (z7 (zo .gt rfl (za 7) zf)))) (zl (ja (za 2) (za 4) (zq (sC ok F (zb (za 7) (zb (za 8) zm))) (za 4)))) zy)
  (zh (zH (zE (z9 (zo .eq rfl (zN (sC ok F (zb (za 0) (zb zf zm))) zf) zf) (z9 (zbv .lt .lt rfl rfl zf (za 7) zf) (z7 (zo .lt rfl (qC ok B (za 8)) zf))))) (zl (ja (za 2) (za 4) (zf7 zf zf))) zy)
  (zh (sA 5 (zW (zb (za 7) (zb (za 8) (zb (za 2) (zb (za 3) (zb (za 4) (zb (sC ok F (zb (za 7) (zb (za 8) zm))) zm))))))))
  (zh (sA 6 (sC ok F (zb (za 1) (zb (za 7) (zb (za 8) (zb (za 2) (zb (za 3) (zb (za 4) zm))))))))
  (zh (zf9 (tC (tC .nil)) (sC ok F (zb (za 0) (zb (za 1) (zb (za 5) (zb (za 6) zm))))))
  (zh (zH (zbF true rfl (sC ok F (zb (za 1) (zb (zq (za 9) zf) (zb (zq (za 9) zf) (zb (zq (za 9) zf) (zb (zq (za 9) zf) (zb (zq (za 9) zf) (zb (zq (za 9) zf) zm)))))))) (za 10)) (zl (zA ql)) zy)
  (zl (zA (zav .eq rfl (sC ok F (zb (za 1) (zb (za 7) (zb (za 8) (zb (za 2) (zb (za 3) (zb (za 4) (zb (zq (za 5) zf) zm)))))))) (za 6))))))))))))))))
end
structure Fns(T:TC):Prop where
 a:∀ p∈zqp,zoz T p.1 (jA (zF kaa p.2)) (zJ (zF kaa p.2)) (zz (zF kaa p.2))
 g:∀ p∈zlu,∃ t,T.mg p.1=some (.int p.2 t)
theorem Fns.known{T:TC}(h:Fns T):∀ f∈zfv,zc3 T f:=fun f hf=>by
 obtain ⟨p,hp,e⟩:=kau.mp hf
 exact e▸(h.a p hp).known
theorem b1_{params:Arguments}{names:List Str}(h:∀ (fd:FuncData) a0,bindArgs {fd with params:=params,defaults:=.none,kwdefaults:=.none} ⟨[a0],[]⟩=pure (names.zip [a0])):∀ (fd:FuncData) (us:List Value),fd.params=params->fd.defaults=.none->fd.kwdefaults=.none->us.length=1->bindArgs fd ⟨us,[]⟩=pure (names.zip us):=fun _ _ x y z u=>ztv x y z u h
theorem b2_{params:Arguments}{names:List Str}(h:∀ (fd:FuncData) a0 a1,bindArgs {fd with params:=params,defaults:=.none,kwdefaults:=.none} ⟨[a0,a1],[]⟩=pure (names.zip [a0,a1])):∀ (fd:FuncData) (us:List Value),fd.params=params->fd.defaults=.none->fd.kwdefaults=.none->us.length=2->bindArgs fd ⟨us,[]⟩=pure (names.zip us):=fun _ _ x y z u=>ztu x y z u h
theorem b3_{params:Arguments}{names:List Str}(h:∀ (fd:FuncData) a0 a1 a2,bindArgs {fd with params:=params,defaults:=.none,kwdefaults:=.none} ⟨[a0,a1,a2],[]⟩=pure (names.zip [a0,a1,a2])):∀ (fd:FuncData) (us:List Value),fd.params=params->fd.defaults=.none->fd.kwdefaults=.none->us.length=3->bindArgs fd ⟨us,[]⟩=pure (names.zip us):=fun _ _ x y z u=>ztt x y z u h
theorem b4_{params:Arguments}{names:List Str}(h:∀ (fd:FuncData) a0 a1 a2 a3,bindArgs {fd with params:=params,defaults:=.none,kwdefaults:=.none} ⟨[a0,a1,a2,a3],[]⟩=pure (names.zip [a0,a1,a2,a3])):∀ (fd:FuncData) (us:List Value),fd.params=params->fd.defaults=.none->fd.kwdefaults=.none->us.length=4->bindArgs fd ⟨us,[]⟩=pure (names.zip us):=fun _ _ x y z u=>zts x y z u h
theorem b5_{params:Arguments}{names:List Str}(h:∀ (fd:FuncData) a0 a1 a2 a3 a4,bindArgs {fd with params:=params,defaults:=.none,kwdefaults:=.none} ⟨[a0,a1,a2,a3,a4],[]⟩=pure (names.zip [a0,a1,a2,a3,a4])):∀ (fd:FuncData) (us:List Value),fd.params=params->fd.defaults=.none->fd.kwdefaults=.none->us.length=5->bindArgs fd ⟨us,[]⟩=pure (names.zip us):=fun _ _ x y z u=>ztr x y z u h
theorem b6_{params:Arguments}{names:List Str}(h:∀ (fd:FuncData) a0 a1 a2 a3 a4 a5,bindArgs {fd with params:=params,defaults:=.none,kwdefaults:=.none} ⟨[a0,a1,a2,a3,a4,a5],[]⟩=pure (names.zip [a0,a1,a2,a3,a4,a5])):∀ (fd:FuncData) (us:List Value),fd.params=params->fd.defaults=.none->fd.kwdefaults=.none->us.length=6->bindArgs fd ⟨us,[]⟩=pure (names.zip us):=fun _ _ x y z u=>ztq x y z u h
theorem b7_{params:Arguments}{names:List Str}(h:∀ (fd:FuncData) a0 a1 a2 a3 a4 a5 a6,bindArgs {fd with params:=params,defaults:=.none,kwdefaults:=.none} ⟨[a0,a1,a2,a3,a4,a5,a6],[]⟩=pure (names.zip [a0,a1,a2,a3,a4,a5,a6])):∀ (fd:FuncData) (us:List Value),fd.params=params->fd.defaults=.none->fd.kwdefaults=.none->us.length=7->bindArgs fd ⟨us,[]⟩=pure (names.zip us):=fun _ _ x y z u=>ztp x y z u h
section
variable {T:TC} (ok:T.Ok) (B:Blt T) (C:T.calm=none) (X:XF T [0,1,2,3,4,5,6]) (h:Fns T)
include ok B C X h
theorem fW{f:Str}{i:Nat}{ctx:List Str}{n k:Nat}{w:Nat->SW}(S:∀ {fr:List Env} {d:Nat},(T.at fr).Ok->Blt (T.at fr)->(T.at fr).calm=none->(∀ f∈zfv,zc3 T f)->(∀ p∈zlu,∃ t,T.mg p.1=some (.int p.2 t))->XF (T.at fr) [0,1,2,3,4,5,6]->qP (T.at fr) d (zz (zF kaa i)) ctx (zJ (zF kaa i)) (w d))(hb:∀ fd us,fd.params=jA (zF kaa i)->fd.defaults=.none->fd.kwdefaults=.none->us.length=n->bindArgs fd ⟨us,[]⟩=pure (((jA (zF kaa i)).args.map (·.arg)).zip us))(hm:zqp.contains (f,i)=true:=by kernel_rfl)(fo:zlG (jA (zF kaa i)) (zz (zF kaa i)) ctx n=true:=by kernel_rfl)(hk:ctx.length - n=k:=by rfl):FnW T f n k w:=zsx ok (h.a (f,i) (kbh.mp hm)) fo hk hb fun d fr=>S (ok.at fr) (B.at fr) C h.known h.g X
theorem zX:FnW T "is_within" 3 0 (qF T):=fW ok B C X h zg9 (b3_ fun _ _ _ _=>rfl)
theorem jx:FnW T "is_road" 2 0 (za6 T):=fW ok B C X h zjZ (b2_ fun _ _ _=>rfl)
theorem jy:FnW T "come_to" 2 4 (za8 T):=fW ok B C X h zj2 (b2_ fun _ _ _=>rfl)
theorem qu:FnW T "need_net" 2 1 (yr T):=fW ok B C X h zfC (b2_ fun _ _ _=>rfl)
theorem qM:FnW T "need_heap" 2 1 (ya T):=fW ok B C X h ze6 (b2_ fun _ _ _=>rfl)
theorem zhj:FnW T "need_place" 2 0 (yq T):=fW ok B C X h zfB (b2_ fun _ _ _=>rfl)
theorem ziF:FnW T "need_tree" 3 1 (yk T):=fW ok B C X h zg4 (b3_ fun _ _ _ _=>rfl)
theorem wh:FnW T "other_end" 2 0 (jZ T):=fW ok B C X h zg3 (b2_ fun _ _ _=>rfl)
theorem jH:FnW T "counts_at" 2 3 (qS T):=fW ok B C X h zha (b2_ fun _ _ _=>rfl)
theorem zaP:FnW T "pit_counts" 2 3 (yp T):=fW ok B C X h zfA (b2_ fun _ _ _=>rfl)
theorem zlE:FnW T "degrees" 2 0 (zco T):=fW ok B C X h zj1 (b2_ fun _ _ _=>rfl)
theorem jK:FnW T "table_of" 2 5 (wG T):=fW ok B C X h zit (b2_ fun _ _ _=>rfl)
theorem ym:FnW T "swapped" 3 1 (za2 T):=fW ok B C X h zjT (b3_ fun _ _ _ _=>rfl)
theorem qY:FnW T "first_other" 2 1 (yB T):=fW ok B C X h zfb (b2_ fun _ _ _=>rfl)
theorem qZ:FnW T "determinant" 1 8 (wH T):=fW ok B C X h zfc (b1_ fun _ _=>rfl)
theorem wW:FnW T "solved" 2 5 (zbc T):=fW ok B C X h zlc (b2_ fun _ _ _=>rfl)
theorem zad:FnW T "after" 3 3 (zcz T):=fW ok B C X h znw (b3_ fun _ _ _ _=>rfl)
theorem jn:FnW T "least_times" 2 4 (yA T):=fW ok B C X h ze7 (b2_ fun _ _ _=>rfl)
theorem wX:FnW T "fallen" 3 6 (zdQ T):=fW ok B C X h zld (b3_ fun _ _ _ _=>rfl)
theorem zd2:FnW T "rests" 3 2 (zbE T):=fW ok B C X h znt (b3_ fun _ _ _ _=>rfl)
theorem zlF:FnW T "at_rest" 3 0 (zcp T):=fW ok B C X h zj3 (b3_ fun _ _ _ _=>rfl)
theorem zly:FnW T "toppled" 4 1 (zcj T):=fW ok B C X h zjS (b4_ fun _ _ _ _ _=>rfl)
theorem zlz:FnW T "settled" 3 0 (zck T):=fW ok B C X h zjU (b3_ fun _ _ _ _=>rfl)
theorem zb8:FnW T "is_again" 3 3 (zas T):=fW ok B C X h zix (b3_ fun _ _ _ _=>rfl)
theorem zcW:FnW T "need_again" 3 0 (yt T):=fW ok B C X h zfD (b3_ fun _ _ _ _=>rfl)
theorem zfP:FnW T "comes_again" 3 0 (wI T):=fW ok B C X h zfd (b3_ fun _ _ _ _=>rfl)
theorem zdy:FnW T "turns_for" 2 0 (yV T):=fW ok B C X h zg2 (b2_ fun _ _ _=>rfl)
theorem zkf:FnW T "led_from" 3 8 (zbs T):=fW ok B C X h ziv (b3_ fun _ _ _ _=>rfl)
theorem zsv:FnW T "led" 3 0 (zk2 T):=fW ok B C X h zqI (b3_ fun _ _ _ _=>rfl)
theorem zpc:FnW T "alike" 4 5 (zfX T):=fW ok B C X h znv (b4_ fun _ _ _ _ _=>rfl)
theorem zlx:FnW T "towards" 4 3 (za1 T):=fW ok B C X h zjR (b4_ fun _ _ _ _ _=>rfl)
theorem zke:FnW T "together" 4 1 (zbp T):=fW ok B C X h zis (b4_ fun _ _ _ _ _=>rfl)
theorem zlA:FnW T "nothing" 2 0 (zcl T):=fW ok B C X h zjV (b2_ fun _ _ _=>rfl)
theorem zlv:FnW T "undoing" 3 1 (zch T):=fW ok B C X h zjP (b3_ fun _ _ _ _=>rfl)
theorem ze2:FnW T "roads_to" 3 2 (zbq T):=fW ok B C X h ziu (b3_ fun _ _ _ _=>rfl)
theorem ze3:FnW T "least_of" 5 1 (zbt T):=fW ok B C X h ziw (b5_ fun _ _ _ _ _ _=>rfl)
theorem zgv:FnW T "keys_of" 2 1 (za5 T):=fW ok B C X h zjY (b2_ fun _ _ _=>rfl)
theorem zlw:FnW T "tree_of" 3 7 (zci T):=fW ok B C X h zjQ (b3_ fun _ _ _ _=>rfl)
theorem zlD:FnW T "heap_of" 3 9 (za7 T):=fW ok B C X h zj0 (b3_ fun _ _ _ _=>rfl)
theorem zkg:FnW T "how_many" 2 0 (zbu T):=fW ok B C X h ziy (b2_ fun _ _ _=>rfl)
theorem zfN:FnW T "_law_cell_at" 2 1 (jM T):=fW ok B C X h ze9 (b2_ fun _ _ _=>rfl)
theorem ziI:FnW T "_law_mixed" 2 1 (wZ T):=fW ok B C X h zg7 (b2_ fun _ _ _=>rfl)
theorem zhk:FnW T "_law_turned" 3 0 (y8 T):=fW ok B C X h zfE (b3_ fun _ _ _ _=>rfl)
theorem zlB:FnW T "_law_net" 2 14 (zcm T):=fW ok B C X h zjW (b2_ fun _ _ _=>rfl)
theorem zb0:FnW T "_law_degrees" 2 4 (jf T):=fW ok B C X h ze8 (b2_ fun _ _ _=>rfl)
theorem zlC:FnW T "_law_low" 4 2 (za3 T):=fW ok B C X h zjX (b4_ fun _ _ _ _ _=>rfl)
theorem ziJ:FnW T "_law_again" 3 6 (zaE T):=fW ok B C X h zg8 (b3_ fun _ _ _ _=>rfl)
theorem ziH:FnW T "_law_odd" 1 0 (yW T):=fW ok B C X h zg6 (b1_ fun _ _=>rfl)
theorem ziG:FnW T "_law_put" 3 1 (jI T):=fW ok B C X h zg5 (b3_ fun _ _ _ _=>rfl)
theorem zeq:FnW T "_law_cut_off" 3 5 (jB T):=fW ok B C X h zdl (b3_ fun _ _ _ _=>rfl)
theorem zfk:FnW T "_law_no_net" 3 3 (yj T):=fW ok B C X h zec (b3_ fun _ _ _ _=>rfl)
theorem zep:FnW T "_law_no_heap" 2 1 (j5 T):=fW ok B C X h zdk (b2_ fun _ _ _=>rfl)
theorem zeo:FnW T "_law_no_tree" 3 1 (j4 T):=fW ok B C X h zdj (b3_ fun _ _ _ _=>rfl)
theorem zhl:FnW T "_law_tree" 2 6 (y9 T):=fW ok B C X h zfF (b2_ fun _ _ _=>rfl)
theorem zfO:FnW T "_law_asked" 7 0 (yb T):=fW ok B C X h zfa (b7_ fun _ _ _ _ _ _ _ _=>rfl)
theorem zhm:FnW T "_law_told" 7 2 (wd T):=zrh ok (h.a ("_law_told", 75) (by decide +kernel)) (ctx:=zbn) (by decide +kernel) rfl (b7_ fun _ _ _ _ _ _ _ _=>rfl) fun _ r=>zfG (ok.at r) (B.at r) C h.known h.g X
theorem zhn:FnW T "_law_last" 6 0 (wf T):=fW ok B C X h zfH (b6_ fun _ _ _ _ _ _ _=>rfl)
theorem zfj:FnW T "_law_spoilt" 4 6 (yi T):=fW ok B C X h zeb (b4_ fun _ _ _ _ _=>rfl)
theorem zpb:FnW T "law" 1 10 (zfW T):=fW ok B C X h znu (b1_ fun _ _=>rfl)
end
end Mine
end
open PySem PySem.W PyProof.Rows
set_option maxRecDepth 100000
namespace Mine
theorem zo4{T:TC}{J:zc}{s:Addr}{ns:List Int}(ok:T.Ok)(B:Blt T)(C:T.calm=none)(X:XF T [0,1,2,3,4,5,6])(h:Fns T)(hs:jE J s ns):zp T 300 "law" [.ref s] J (fun v _=>v=.bool true) (fun _ _=>False) :=
 zln (d:=289) ⟨⟨⟨(zda ⟨(zX ok B C X h),(jx ok B C X h),(jy ok B C X h)⟩ (qu ok B C X h)),(qu ok B C X h),(qM ok B C X h)⟩,(jH ok B C X h),(zlE ok B C X h),⟨(zda ⟨(zX ok B C X h),(jx ok B C X h),(jy ok B C X h)⟩ (qu ok B C X h)),⟨(qY ok B C X h),(ym ok B C X h),(qZ ok B C X h)⟩,(jK ok B C X h),(zkg ok B C X h)⟩,⟨⟨(zda ⟨(zX ok B C X h),(jx ok B C X h),(jy ok B C X h)⟩ (qu ok B C X h)),⟨⟨(qY ok B C X h),(ym ok B C X h),(qZ ok B C X h)⟩,(wW ok B C X h),(jn ok B C X h),(jK ok B C X h),(zad ok B C X h),(wX ok B C X h)⟩,(zmP (zX ok B C X h) (qM ok B C X h)),(zdy ok B C X h),(zkf ok B C X h)⟩,(zke ok B C X h),(zlA ok B C X h),(zlv ok B C X h)⟩,⟨(zda ⟨(zX ok B C X h),(jx ok B C X h),(jy ok B C X h)⟩ (qu ok B C X h)),(zmP (zX ok B C X h) (qM ok B C X h)),(jH ok B C X h),(zd2 ok B C X h),(zlF ok B C X h)⟩,⟨(zda ⟨(zX ok B C X h),(jx ok B C X h),(jy ok B C X h)⟩ (qu ok B C X h)),⟨⟨(qY ok B C X h),(ym ok B C X h),(qZ ok B C X h)⟩,(wW ok B C X h),(jn ok B C X h),(jK ok B C X h),(zad ok B C X h),(wX ok B C X h)⟩,(zmP (zX ok B C X h) (qM ok B C X h)),(zlz ok B C X h)⟩,⟨(zda ⟨(zX ok B C X h),(jx ok B C X h),(jy ok B C X h)⟩ (qu ok B C X h)),⟨⟨(qY ok B C X h),(ym ok B C X h),(qZ ok B C X h)⟩,(wW ok B C X h),(jn ok B C X h),(jK ok B C X h),(zad ok B C X h),(wX ok B C X h)⟩,(zmP (zX ok B C X h) (qM ok B C X h)),(jH ok B C X h),(zd2 ok B C X h),(wh ok B C X h),(zaP ok B C X h),(zb8 ok B C X h),(zfP ok B C X h)⟩,(zsv ok B C X h),⟨(zda ⟨(zX ok B C X h),(jx ok B C X h),(jy ok B C X h)⟩ (qu ok B C X h)),⟨⟨(qY ok B C X h),(ym ok B C X h),(qZ ok B C X h)⟩,(wW ok B C X h),(jn ok B C X h),(jK ok B C X h),(zad ok B C X h),(wX ok B C X h)⟩,(zmP (zX ok B C X h) (qM ok B C X h)),(zpc ok B C X h)⟩,⟨⟨(zda ⟨(zX ok B C X h),(jx ok B C X h),(jy ok B C X h)⟩ (qu ok B C X h)),⟨⟨(qY ok B C X h),(ym ok B C X h),(qZ ok B C X h)⟩,(wW ok B C X h),(jn ok B C X h),(jK ok B C X h),(zad ok B C X h),(wX ok B C X h)⟩,(zmP (zX ok B C X h) (qM ok B C X h)),(zdy ok B C X h)⟩,⟨⟨⟨(qY ok B C X h),(ym ok B C X h),(qZ ok B C X h)⟩,(wW ok B C X h),(jn ok B C X h),(jK ok B C X h),(zad ok B C X h),(wX ok B C X h)⟩,(jH ok B C X h),(zd2 ok B C X h),(wh ok B C X h),(zaP ok B C X h),(zb8 ok B C X h)⟩,(zcW ok B C X h)⟩,(zlx ok B C X h),⟨(zda ⟨(zX ok B C X h),(jx ok B C X h),(jy ok B C X h)⟩ (qu ok B C X h)),(zmP (zX ok B C X h) (qM ok B C X h)),⟨⟨⟨(qY ok B C X h),(ym ok B C X h),(qZ ok B C X h)⟩,(wW ok B C X h),(jn ok B C X h),(jK ok B C X h),(zad ok B C X h),(wX ok B C X h)⟩,(jH ok B C X h),(zd2 ok B C X h),(wh ok B C X h),(zaP ok B C X h),(zb8 ok B C X h)⟩,(zcW ok B C X h),⟨⟨⟨(wh ok B C X h),(ze2 ok B C X h)⟩,(jH ok B C X h),(ze3 ok B C X h)⟩,(zgv ok B C X h)⟩,(zlw ok B C X h)⟩,⟨(zda ⟨(zX ok B C X h),(jx ok B C X h),(jy ok B C X h)⟩ (qu ok B C X h)),(zmP (zX ok B C X h) (qM ok B C X h)),(zhj ok B C X h),(jH ok B C X h),(jK ok B C X h),(zad ok B C X h),(zly ok B C X h)⟩,⟨⟨(zda ⟨(zX ok B C X h),(jx ok B C X h),(jy ok B C X h)⟩ (qu ok B C X h)),(ziF ok B C X h)⟩,⟨⟨⟨(wh ok B C X h),(ze2 ok B C X h)⟩,(jH ok B C X h),(ze3 ok B C X h)⟩,(zgv ok B C X h)⟩,(zlD ok B C X h)⟩⟩,⟨(zfN ok B C X h),(ziI ok B C X h),(zhk ok B C X h),(zlB ok B C X h),(zb0 ok B C X h)⟩,⟨(zb0 ok B C X h),(ziJ ok B C X h)⟩,(zlC ok B C X h),⟨(ziG ok B C X h),(ziH ok B C X h),(zeq ok B C X h),(zfk ok B C X h),(zep ok B C X h),(zeo ok B C X h)⟩,(zfO ok B C X h),(zhm ok B C X h),(zhn ok B C X h),(zhl ok B C X h),(zfj ok B C X h)⟩ (zpb ok B C X h) hs fun _=>rfl
end Mine
set_option maxHeartbeats 8000000 in
theorem PySem.Challenge.cw_uf020031_14_holds : PySem.Challenge.rw_uf020031_14.Holds := by
 w_on
 refine holds_law Mine.ztL fun said => ?_
 refine holds_open (q := Mine.vW) (loose := []) (Xt := Mine.xtW) (XP := XL Mine.vW []) (Yf := Hook.obs (Mine.zjo [0, 1, 2, 3, 4, 5, 6])) (Ya := Hook.val (Mine.zjo [0, 1, 2, 3, 4, 5, 6])) (YP := Hook.says (Mine.zjo [0, 1, 2, 3, 4, 5, 6])) (d := Mine.dW.1) (kwd := Mine.dW.2) (N := 6858) Mine.zst (Hook.of (Mine.zjo [0, 1, 2, 3, 4, 5, 6])) (Hook.keeps (Mine.zjo [0, 1, 2, 3, 4, 5, 6])) (fun s e => xl_of s (kaT.mp e).1) XL.keeps (by kernel_rfl) (by kernel_rfl) (by kernel_rfl) (fun s e => recFacts_of (kaT.mp e).2) (by rfl) (by first | assumption | decide +kernel) (by kernel_rfl) ⟨rfl, rfl, rfl, rfl, rfl, by decide +kernel⟩ ?hw ?hc
 case hw => w_witness2
 intro w sa sB mg mb G Y fa o pm cd doc dV kV ho hd hcd hD hmg hg args vals as hpre hlay hrd hwl hlo
 clear hd hcd hD
 refine Ground.open G ?_
 intro T B D TE TW
 wrow_args hpre hlay hrd hwl hlo
 rename_i ns _ _ _ _ _ _ _ scr vs _ hL _ _ _ hI _ hlen _
 have hl : ns.length <= 63 := by
  simp only [kb0] at hlen
  omega
 have fns : Mine.Fns (Mine.zhM PySem.Challenge.rw_uf020031_14.row.prog w scr T) := ⟨Mine.zpd T (by kernel_rfl), by
  intro p hp
  simp only [Mine.zlu, kad, kay, or_false] at hp
  rcases hp with rfl | rfl | rfl | rfl
  ·exact Mine.zgu T (by kernel_rfl)
  ·exact Mine.zgu T (by kernel_rfl)
  ·exact Mine.zgu T (by kernel_rfl)
  ·exact Mine.zgu T (by kernel_rfl)⟩
 have ok := Mine.zs9 (prog := PySem.Challenge.rw_uf020031_14.row.prog) (w := w) (scr := scr) T (by kernel_rfl)
 have bl : Mine.Blt (Mine.zhM PySem.Challenge.rw_uf020031_14.row.prog w scr T) := Mine.zsG T (by kernel_rfl)
 refine Mine.zrk T hL hI hl hmg (d := 300) (by omega) (Mine.zo4 ok bl rfl (Mine.zs1 T Y) fns (Mine.J0_script scr ns hl)) fun s' hk hos hgen => ?_
 exact GoodW.toG ⟨.inl ⟨_, .bool true, [], rfl, raisesW_false (by wrow_none_raised), .bool true, by wrow_post, unshared_nil⟩, hk, hos, hgen.trans hg⟩
