import PyProof.Rows.All
import PyProof.RulesTry
import PyProof.TupleIter
import PyProof.AttrMissSeq
import PyProof.ForAny
import PyProof.CompMap
import PyProof.CompUse
import PyProof.StrWalks
import PyProof.Draws
import PyProof.EnumMake
import PyProof.NeKinds
import PyProof.ExcFactsAll.ValueError
import PyProof.WalksMore
import PyProof.RangeFor
import PyProof.ZipIter
import Open.Line
import OpenK.KLine
import KE.KDictOf
import KE.KIsAll
import Wide.All
import Lean
import PySem.Challenge.RW_nt0231_01
set_option Elab.async false
set_option tactic.hygienic false
set_option genSizeOf false
set_option genInjectivity false
set_option genCtorIdx false
set_option maxRecDepth 1000000
set_option maxHeartbeats 0
set_option linter.all false
set_option autoImplicit true
set_option relaxedAutoImplicit true
set_option compiler.extract_closed false
namespace Mine.Internal
open Array renaming getElem?_eq_getElem->Zn1,eraseIdxIfInBounds->Zm1
open Bool renaming and_eq_true_iff->cN,or_eq_true_iff->b9,rec->Zz4,false_ne_true->Zx5,eq_iff_iff->Zv5,noConfusion->Zu2,not_eq_true'->Zr6,and_eq_true->Zk0,or_false->Zf0
open Eq renaming ndrec->Zn3,trans->Ze1
open False renaming elim->Zr7
open ForInStep renaming yield->Zo7
open Int renaming natCast_nonneg->aQ,negSucc_lt_zero->aK,ofNat_lt->Zy5,ofNat_le->Zw9,le_trans->Zt4,ofNat->Zt0,add_sub_cancel->Zs4,negSucc->Zs1,lt_trans->Zo1,lt_of_le_of_lt->Zo0,eq_ofNat_of_zero_le->Zl2,max_eq_right->Zk3,lt_irrefl->Ze6,not_lt->Ze5
open Int.ofNat renaming inj->Ze7
open List renaming length_append->cS,mem_singleton->cP,length_map->cM,mem_cons->cJ,mem_append_left->cH,mem_append_right->cC,append_nil->cB,append_assoc->cz,getElem?_eq_getElem->cy,size_toArray->b_,mem_append->bX,nodup_cons->bU,length_eq_zero_iff->bQ,count_append->bM,length_cons->bG,getElem?_eq_some_iff->bE,count_pos_iff->bD,map_append->bw,mem_map->bu,getElem?_toArray->aY,mem_cons_of_mem->aR,length_singleton->aO,length_reverse->aN,all_eq_true->aJ,length_range->aI,length_set->aB,mem_of_getElem?->au,getElem?_set_ne->aq,getD_eq_getElem?_getD->aj,getElem?_eq_none->Zz8,nodup_append->Zy4,getElem?_append_right->Zy0,not_mem_nil->Zx9,lookup_cons->Zx8,map_nil->Zx0,range->Zw3,nil_append->Zv6,getElem?_map->Zv3,reverse_cons->Zv2,getElem?_append_left->Zu3,cons_ne_nil->Zu1,isEmpty_iff->Zu0,mem_map_of_mem->Zt7,reverse_append->Zt6,map_congr_left->Zt5,count_eq_zero->Zt1,length_nil->Zs9,zip_cons_cons->Zs6,mem_filter->Zs5,take_of_length_le->Zs3,nodup_nil->Zr2,cons_append->Zq5,length_drop->Zq4,any_eq_true->Zq3,map_cons->Zp9,length->Zp1,length_pos_iff->Zo6,exists_cons_of_ne_nil->Zo4,map_map->Zo2,mem_filterMap->Zn8,drop_eq_getElem_cons->Zm9,ext_getElem?->Zm4,filterMap_cons_some->Zl6,any_cons->Zl4,all_cons->Zl1,filter_cons_of_neg->Zk8,length_take->Zk6,getElem_inj->Zk5,any_toArray->Zk4,drop_length->Zk1,mem_reverse->Zj9,getElem?_set_self->Zj6,find?_cons->Zj1,getElem?_reverse->Zi9,toArray->Zi8,of_mem_zip->Zi4,contains_iff_mem->Zi2,mem_iff_getElem?->Zi0,reverse_reverse->Zh5,length_take_le'->Zh4,nodup_iff_count->Zh3,getElem_toArray->Zh1,mem_of_mem_drop->Zg8,replicate->Zg6,append_toArray->Zf9,filterMap_cons->Zf8,lookup->Zf5,map_eq_nil_iff->Zf4
open Nat renaming le_trans->c7,beq->cZ,eq_of_beq_eq_true->cW,le_of_eq->cV,le_add_right->cR,le_refl->cO,le_of_ble_eq_true->cL,add_eq_zero_iff->cF,lt_of_le_of_lt->cD,succ_le_succ->cu,le_add_left->cj,eq_zero_of_add_eq_zero_left->b8,eq_zero_of_add_eq_zero_right->b6,le_succ_of_le->bZ,beq_refl->bY,zero_le->bV,le_succ->bH,le_antisymm->bF,add_le_add_right->bx,ble_eq_true_of_le->br,blt->bk,sub_add_cancel->bg,zero_add->a_,add_assoc->aZ,mul_le_mul_left->aX,ne_of_beq_eq_false->aW,add_le_add->aU,lt_succ_of_le->aT,add_le_add_left->aP,le_add_left_of_le->aM,add_comm->aH,lt_of_not_le->aF,ne_of_lt->aD,lt_of_lt_of_le->aA,le_zero->ah,ne_of_gt->Zz9,le_of_lt->Zz7,lt_succ_self->Zz1,le_of_succ_le_succ->Zy1,add_right_comm->Zx7,not_lt->Zx3,le_of_lt_succ->Zx2,le_of_succ_le->Zx1,le_of_not_lt->Zw5,blt_eq->Zw4,ble->Zw0,le_add_right_of_le->Zv9,eq_zero_or_pos->Zv8,sub_le->Zv0,not_succ_le_zero->Zu8,not_succ_le_self->Zu7,min_eq_left->Zs8,succ_ne_zero->Zq1,pos_iff_ne_zero->Zp3,le_of_add_le_add_right->Zo5,le_total->Zo3,sub_self->Zn9,not_le->Zm5,min_eq_right->Zk2,le_max_right->Zj7,not_lt_zero->Zj4,mul_le_mul_right->Zg7,mul_add->Zg1,succ_pos->Ze2,div->Ze0
open Nat.succ renaming inj->Zq9
open Ne renaming symm->Zp2
open Option renaming some_ne_none->cG,ne_none_iff_exists'->bW,map_eq_some_iff->bK,isSome_iff_exists->Zz2,rec->Zx4,bind_some->Zt9,isNone_iff_eq_none->Zm7,isSome_map->Zm6,isSome->Zl5,none->Zg2
open Option.some renaming inj->cU
open Or renaming imp_right->Zr0
open Prod.mk renaming inj->Zt8
open PyProof.Rows renaming assignInOrder_cons->Zn5
open PySem renaming wpAny_bind->cY,Shared->cK,wpAny_pure->b7,wpAny->bT,wpAny_mono->bO,wpAny_holding->bJ,wpAny_standAt->bB,Thread->bh,Addr->aV,Around->aC,Scope->aa,Stmt->Zz3,Heap->Zz0,NameKind->Zy9,mem_of_lookup->Zy8,wpAny_truthy_bool->Zy3,wpAny_evalPart_none->Zy2,DictEntry->Zx6,Program->Zw8,mainGlobals->Zw6,wpAny_Constant_int->Zv7,holding->Zv4,wpAny_loadPart_at->Zu9,treeTable->Zu6,World->Zt2,call_meets->Zs0,cameBackBy->Zr8,standAt->Zr5,getMethod_builtin->Zr4,wpAny_assign_Name->Zr3,rawInt->Zq8,eval->Zq2,Params->Zq0,behindInMarks->Zp8,swappedStores->Zp7,builtinsNs->Zp6,importedModules->Zp4,intKind->Zp0,wpAny_evalPart_some->Zo8,starEach->Zn7,compEnvC->Zn4,wpAny_tryCompare_declines->Zm8,wpAny_call->Zm3,stored->Zm2,wpAny_newObj_type->Zm0,assignEach->Zl8,swapsWith->Zl7,valueAt->Zl3,Comprehension->Zl0,comprehension->Zk7,wpAny_comp_letGo->Zj8,compareOp->Zj0,slicePick->Zi7,codeAny->Zi6,letOwnedTupleGo->Zi3,evalEach->Zh6,cLine->Zh2,wpAny_setField->Zg5,assign->Zg4,isSubtype_type->Zg3,wpAny_field->Zf7,relabel->Zf2,richCompare->Zf1,noteFrame->Ze9,wpAny_rule->Ze4,isTrue->Zd9
open PySem.Around renaming under_plainId->Zg9
open PySem.AutoSeq1 renaming wpAny_loadPart'->Zl9
open PySem.Builtin.Dict renaming updateFrom->Zk9
open PySem.Builtin.Int renaming intBits->Zg0
open PySem.Builtin.Range renaming small->Zf3
open PySem.Builtin.SmallTypes renaming nextOf->Zn0
open PySem.Calls renaming spliced_cons->Zn6
open PySem.F renaming slot_list_getattribute->Zt3,cmp_object->Zn2
open PySem.Heap renaming get?_push_of_some->cA,get?_push_size->bR,lt_size->ao,get?_update_self->Zz6,dictOf_iff->Zz5,SameBut->Zy6,size_push->Zw1,get?_update_other->Zs2
open PySem.Heap.SameBut renaming update->Zw7
open PySem.NameKind renaming free->Zy7
open PySem.Obj renaming mapSeq->Zw2,data_mapFields->Zs7,IsDictOf->Zj2,isFreed_of_fields->Zi5
open PySem.PyData renaming keyHash->Zu5
open PySem.SeqAt.RcNeAt renaming lists_lengths->Zh0
open PySem.Str renaming ofString->bN
open PySem.Value renaming none->Zr9,ref->Zq6
open PySem.Value.ref renaming inj->Zv1
open PySem.Value.type renaming inj->Zu4
open PySem.W renaming SharedT->bI,instObj->ak,boot_heap->Zr1,findIn->Zq7,stepOk->Zp5,emptyDict->Zo9,through->Zj5,dictOf->Zj3,look_both->Zh8,handedIn->Zh7,hideAll_get->Zf6,kitOne->Ze3
open PySem.W.Looks renaming of_pure->Ze8,ld->Zd8
open PySem.W.WShape renaming hasItems->Zh9
open PySem.swappedStores renaming match_8->Zi1
@[elab_as_elim]theorem Vc{α:Sort u}{a b:α}{P:α->Prop}(m:P b)(h:a=b):P a:=h▸m
@[elab_as_elim]theorem jF{α:Sort u}{a b:α}{P:α->Prop}(m:P a)(h:a=b):P b:=h▸m
theorem Zv{P:Prop}(h:false=true):P:=Zu2 h
theorem Wf{P:Prop}(h:true=false):P:=Zu2 h
theorem ZE{α:Type u}{a:α}{P:Prop}(h:none=some a):P:=Zv (congrArg Zl5 h)
theorem XD{α:Type u}{a:α}{P:Prop}(h:some a=none):P:=Wf (congrArg Zl5 h)
theorem xT{α:Type u}{a:α}{l:List α}{P:Prop}(h:[]=a::l):P:=absurd h.symm (Zu1 a l)
theorem rW{α:Type u}{a:α}{l:List α}{P:Prop}(h:a::l=[]):P:=absurd h (Zu1 a l)
@[elab_as_elim]theorem gen{α:Sort u}{P:α->Prop}(a:α)(h:∀x,P x):P a:=h a
@[elab_as_elim]theorem jC{α:Sort u}{P:α->Prop}(a:α)(h:∀x,a=x->P x):P a:=h a rfl
theorem eE{α:Sort u}{p:α->Prop}{P:Prop}(h:∃x,p x)(f:∀x,p x->P):P:=h.elim f
theorem aE{a b P:Prop}(h:a/\b)(f:a->b->P):P:=f h.1 h.2
theorem hG{G:Prop}(h:let P:=G;P):G:=h
theorem hM{α:Sort u}{P:α->Prop}(h:let M:=P;∀t,M t):∀t,P t:=h
theorem xm{α:Type u}{a:α}{P:Prop}(h:a∈[]):P:=absurd h Zx9
universe u v
abbrev jL:=@List.casesOn.{0,u}
abbrev jB:=@Bool.casesOn.{0}
abbrev jO:=@Option.casesOn.{0,u}
abbrev jI:=@Int.casesOn.{0}
abbrev jN:=@Nat.casesAuxOn.{0}
local macro_rules
 |`(tactic|rewrite[$rs,*])=>do
  let l<-rs.getElems.mapM λr=>`(tactic|first|with_reducible refine$(Lean.mkIdent (bif r.raw[0].isNone then`Mine.Internal.Vc else`Mine.Internal.jF)) ?_ ($(⟨r.raw[1]⟩) ..)|rewrite[$r]at⊢)
  `(tactic|($[$l];*))
local macro_rules
 |`(tactic|show$t:term)=>`(tactic|refine(?_:$t))
section
open PySem PySem.W PySem.Calls PyProof.Rows PySem.SeqAt
noncomputable abbrev pw:Zw8:=PySem.Challenge.pw_nt0231_01
noncomputable def xS(stp:bI->bh->Option (bI×bh))(ok:bh->Bool):Nat->bI->bh->Option (bI×bh)
 |0,s,t=>some (s,t)
 |n+1,s,t=>match Zj5 t with
  |true=>some (s,t)
  |false=>match ok t with
   |false=>none
   |true=>match stp s t with
    |some (s',t')=>xS stp ok n s' t'
    |none=>none
theorem GN:∀{s s':bI} {t t':bh},xS (stepT (denote Zu6) p w) (Zp5 n₀ ann) n s t=some (s',t')->Zj5 t'=true->topRun Zu6 p w n₀ ann (n+1) s.abs t=some s'.abs:=by
 induction n with
 |zero=>
  intro s s' t t' h k
  cases h
  unfold topRun;rw[k]
 |succ n ih=>
  intro s s' t t' h k
  unfold topRun
  have h:(match Zj5 t with|true=>some (s,t)|false=>match Zp5 n₀ ann t with|false=>none|true=>match stepT (denote Zu6) p w s t with|some (s',t')=>xS (stepT (denote Zu6) p w) (Zp5 n₀ ann) n s' t'|none=>none)=some (s',t'):=h
  induction ht:Zj5 t using jB with
  |true=>rw[ht]at h;cases h;rfl
  |false=>
   rw[ht]at h
   induction hk:Zp5 n₀ ann t using jB with
   |false=>rw[hk]at h;exact ZE h
   |true=>
    rw[hk]at h
    induction hs:stepT (denote Zu6) p w s t using jO with
    |none=>rw[hs]at h;exact ZE h
    |some r=>
     rw[hs]at h
     dsimp only
     rw[stepT_spec (s':=r.1) (t':=r.2) hs]
     exact ih h k
noncomputable def GL(t:BT):Nat->Option Obj:=BT.rec (motive:=λY=>Nat->Option Obj) (λY=>none) (λv Y Y l r i=>Zz4 (motive:=λY=>Option Obj) (Zz4 (motive:=λY=>Option Obj) (r (Nat.sub (Ze0 i 2) 1)) (l (Ze0 i 2)) (cZ (Nat.mod i 2) 1)) (some v) (cZ i 0)) t
theorem M8{t:BT}{i:Nat}:GL t i=t.get i:=by
 induction t generalizing i with
 |nil=>rfl
 |node v l r il ir=>
  show Zz4 (motive:=λY=>Option Obj) (Zz4 (motive:=λY=>Option Obj) (GL r (i/2-1)) (GL l (i/2)) (cZ (i%2) 1)) (some v) (cZ i 0)=(match cZ i 0 with|true=>some v|false=>match cZ (i%2) 1 with|true=>l.get (i/2)|false=>r.get (i/2-1))
  rw[il,ir]
  generalize cZ i 0=a
  generalize cZ (i%2) 1=b
  cases a
  ·cases b<;>rfl
  ·rfl
noncomputable def wR(t:BT):Nat->(Obj->Obj)->BT:=BT.rec (motive:=λY=>Nat->(Obj->Obj)->BT) (λY Y=>.nil) (λv a b l r i f=>Zz4 (motive:=λY=>BT) (Zz4 (motive:=λY=>BT) (.node v a (r (Nat.sub (Ze0 i 2) 1) f)) (.node v (l (Ze0 i 2) f) b) (cZ (Nat.mod i 2) 1)) (.node (f v) a b) (cZ i 0)) t
theorem dP{t:BT}{i:Nat}{f:Obj->Obj}:wR t i f=t.set i f:=by
 induction t generalizing i with
 |nil=>rfl
 |node v l r il ir=>
  show Zz4 (motive:=λY=>BT) (Zz4 (motive:=λY=>BT) (.node v l (wR r (i/2-1) f)) (.node v (wR l (i/2) f) r) (cZ (i%2) 1)) (.node (f v) l r) (cZ i 0)=(match cZ i 0 with|true=>.node (f v) l r|false=>match cZ (i%2) 1 with|true=>.node v (l.set (i/2) f) r|false=>.node v l (r.set (i/2-1) f))
  rw[il,ir]
  generalize cZ i 0=a
  generalize cZ (i%2) 1=b
  cases a
  ·cases b<;>rfl
  ·rfl
noncomputable def inR(t:BT):Nat->Obj->BT:=BT.rec (motive:=λY=>Nat->Obj->BT) (λY o=>.node o .nil .nil) (λv a b l r i f=>Zz4 (motive:=λY=>BT) (Zz4 (motive:=λY=>BT) (.node v a (r (Nat.sub (Ze0 i 2) 1) f)) (.node v (l (Ze0 i 2) f) b) (cZ (Nat.mod i 2) 1)) (.node f a b) (cZ i 0)) t
theorem wQ{t:BT}{i:Nat}{f:Obj}:inR t i f=t.ins i f:=by
 induction t generalizing i with
 |nil=>rfl
 |node v l r il ir=>
  show Zz4 (motive:=λY=>BT) (Zz4 (motive:=λY=>BT) (.node v l (inR r (i/2-1) f)) (.node v (inR l (i/2) f) r) (cZ (i%2) 1)) (.node f l r) (cZ i 0)=(match cZ i 0 with|true=>.node f l r|false=>match cZ (i%2) 1 with|true=>.node v (l.ins (i/2) f) r|false=>.node v l (r.ins (i/2-1) f))
  rw[il,ir]
  generalize cZ i 0=a
  generalize cZ (i%2) 1=b
  cases a
  ·cases b<;>rfl
  ·rfl
noncomputable def wO(P:Zq0):BT:=(Zr1 P).objs.toList.foldl (λ(x:BT×Nat) o=>(x.1.ins x.2 o,x.2+1)) (BT.nil,0)|>.1
noncomputable def S0(w:Zt2)(os:OsState):bI:=⟨wO w.params,11,(Zr1 w.params).life,#[],boot_drawn,boot_toks,os⟩
theorem qX(w:Zt2)(os:OsState):(S0 w os).abs=⟨Zr1 w.params,#[],boot_drawn,boot_toks,os⟩:=by kernel_rfl
theorem Z7{x y a b:Nat}(h:x<=y)(e:a+y<=b+x:=by simp+arith only):a<=b:=Zo5 (c7 (aP h a) e)
theorem KJ(a b:Nat):a<=a-b+b:=(Zo3 b a).elim (λh=>cV (bg h).symm) λh=>c7 h (cj ..)
theorem LU{a b:Nat}(h:b<=a):a-b+b<=a:=cV (bg h)
abbrev Ad:=Nat
inductive AV where
 |none
 |bool (b:Bool)
 |int (i:Int)
 |str (k:Nat)
 |g (k:Nat)
 |tup (xs:List AV)
 |lst (xs:List AV)
 |inst (c:Nat) (vs:List AV)
 |bm (f:Nat) (self:AV)
 |ref (a:Ad)
inductive AO where
 |list (xs:List AV)
 |di (es:List (Int×AV))
 |ds (es:List (Nat×AV))
 |fields (fs:List (Nat×AV))
 |inst (c:Nat) (d:Ad)
abbrev jV:=@AV.casesOn.{0}
abbrev jA:=@AO.casesOn.{0}
noncomputable def AO.ix(o:AO):Nat:=AO.rec (motive:=λY=>Nat) (λY=>0) (λY=>1) (λY=>2) (λY=>3) (λY Y=>4) o
theorem xA{a b:AO}{P:Prop}(h:a=b)(q:cZ a.ix b.ix=false):P:=by
 rw[h,bY]at q;exact Wf q
noncomputable def AO.len(o:AO):Nat:=AO.rec (motive:=λY=>Nat) (λxs=>xs.length) (λY=>0) (λY=>0) (λY=>0) (λY Y=>0) o
theorem xL{P:Prop}(h:some (AO.list xs)=some (.list ys))(q:cZ xs.length ys.length=false):P:=by
 rw[show xs.length=ys.length from congrArg AO.len (cU h),bY]at q;exact Wf q
noncomputable def AV.GX(o:AV):Bool:=AV.casesOn (motive_1:=λY=>Bool) o false (λY=>false) (λY=>true) (λY=>false) (λY=>false) (λY=>false) (λY=>false) (λY Y=>false) (λY Y=>false) λY=>false
noncomputable def AO.ns(o:AO):List Bool:=AO.rec (motive:=λY=>List Bool) (λxs=>xs.map AV.GX) (λY=>[]) (λY=>[]) (λY=>[]) (λY Y=>[]) o
theorem xN{P:Prop}(h:some (AO.list xs)=some (.list ys))(k:Nat)(q:(((xs.map AV.GX).getD k true).xor ((ys.map AV.GX).getD k true))=true):P:=by
 rw[show xs.map AV.GX=ys.map AV.GX from congrArg AO.ns (cU h),Bool.xor_self]at q;exact Zv q
theorem xO{a b:AO}{P:Prop}(h:some a=some b)(q:cZ a.ix b.ix=false):P:=by
 rw[cU h,bY]at q;exact Wf q
abbrev US:=Ad->Option AO
noncomputable def upd(U:US)(a:Ad)(o:Option AO):US:=λx=>if x=a then o else U x
inductive UO where
 |not|GK|KC|abs|ord|list|tuple|int|M7|Va|rev|pop|N9|dL|dM|dT|M6|Df|rU|Xa|SZ|zz (n:Nat)
inductive BO where
 |add|sub|mul|fdiv|mod|cat|ieq|rT|KB|qW|rS|wN|seq|rR|geq|xR|emp|Pz|is|GX|inD|LS|GJ|GI|sL|sT|xQ|xP|M5|xM|GH|append|extend|get|TP|zz (n:Nat)
abbrev jQ:=@BO.casesOn.{0}
abbrev jU:=@UO.casesOn.{0}
noncomputable def BO.ix(o:BO):Nat:=BO.rec (motive:=λY=>Nat) 0 1 2 3 4 5 6 7 8 9 10 11 12 13 14 15 16 17 18 19 20 21 22 23 24 25 26 27 28 29 30 31 32 33 34 (λY=>35) o
noncomputable def UO.ix(o:UO):Nat:=UO.rec (motive:=λY=>Nat) 0 1 2 3 4 5 6 7 8 9 10 11 12 13 14 15 16 17 18 19 20 (λY=>21) o
noncomputable abbrev BO.tab{α:Type u}(o:BO)(l:List α)(d:α):α:=l.getD o.ix d
noncomputable abbrev UO.tab{α:Type u}(o:UO)(l:List α)(d:α):α:=l.getD o.ix d
inductive X where
 |loc (i:Nat)
 |cst (v:AV)
 |glob (k:Nat) (v:AV)
 |u (o:UO) (a:X)
 |b (o:BO) (a c:X)
 |lm (o:BO) (a c:X)
 |and (a b:X)
 |or (a b:X)
 |ite (t a b:X)
 |De (a b c:X)
 |attr (a:X) (n:Nat)
 |call (f as:X)
 |mk (k c:Nat) (as:X)
 |SY (a:X) (n:Nat) (as:X)
 |KA (a:X) (cs:List Nat)
 |dict (i:Bool) (ks vs:X)
 |comp (m f:Bool) (elt:X) (tgt:List Nat) (it cond:X)
 |nil
 |cons (h t:X)
inductive S where
 |nil
 |asg (i:Nat) (e:X) (k:S)
 |N8 (a:X) (n:Nat) (e:X) (k:S)
 |Pw (o:BO) (a i e:X) (k:S)
 |N7 (is:List Nat) (e:X) (k:S)
 |expr (e:X) (k:S)
 |ret (e:X)
 |ite (t:X) (a b k:S)
 |guard (t e:X) (k:S)
 |while(t:X) (b k:S)
 |for(t:List Nat) (it:X) (b k:S)
 |try(b:S) (i:Nat) (va:AV) (j:Nat) (vd:AV) (k:S)
 |bad
abbrev jX:=@X.casesOn.{0}
abbrev jS:=@S.casesOn.{0}
structure Fi where
 np:Nat
 nm:List Nat
 raises:Bool
 body:S
noncomputable def X7{α:Type}(n:Nat):List (Nat×α)->Option α
 |[]=>none
 |(m,v)::r=>bif cZ m n then some v else X7 n r
noncomputable abbrev B5:Nat:=31
noncomputable abbrev LR:Nat:=23
noncomputable abbrev QN:Nat:=208
noncomputable abbrev SX:Nat:=207
noncomputable abbrev SW:Nat:=205
noncomputable def Ro:List (Nat×(List Nat)):=[(3,[39]),(4,[26]),(5,[17]),(6,[26,39]),(7,[17,39]),(8,[63,65,64]),(9,[11,6,8,57]),(10,[5,7]),(11,[66]),(12,[62,7]),(13,[2,94,57]),(20,[13,10]),(23,[18]),(27,[26,95]),(28,[76,77]),(29,[52,73]),(30,[96]),(31,[78]),(32,[97]),(33,[98]),(34,[99,98]),(35,[26]),(36,[18]),(40,[29,31,37,36,79,34,38,35,32,33]),(44,[26,80]),(45,[81]),(47,[26,80,86]),(48,[26,80,87]),(50,[81,86]),(55,[90,91,12,92,93])]
noncomputable def fieldsOf(k:Nat):List Nat:=(X7 k Ro).getD []
noncomputable def Uh:List (Nat×(List (Nat×Nat))):=[(2,[(3,300)]),(3,[(3,300)]),(4,[(3,300)]),(5,[(3,300)]),(6,[(3,306),(4,307)]),(7,[(3,309),(4,310)]),(8,[(3,312),(4,313)]),(9,[(3,315),(4,316),(0,317),(88,318)]),(10,[(3,320),(4,321)]),(11,[(3,323),(4,324)]),(12,[(3,326),(4,327)]),(20,[(75,332),(11,333),(14,334)]),(40,[(83,353),(82,355),(84,356),(30,358)]),(44,[(14,360)]),(45,[(85,362),(14,363)]),(47,[(14,365)]),(48,[(14,367)]),(50,[(89,369),(14,370)]),(53,[(14,371)]),(55,[(9,373)])]
noncomputable def Kz(k:Nat):List (Nat×Nat):=(X7 k Uh).getD []
noncomputable def Xq(c n:Nat):Option Nat:=X7 n (Kz c)
noncomputable def Th:List (Nat×Nat):=[(3,302),(4,303),(5,304),(6,305),(7,308),(8,311),(9,314),(10,319),(11,322),(12,325),(13,328),(20,331),(23,335),(27,336),(28,337),(29,344),(30,345),(31,346),(32,347),(33,348),(34,349),(35,350),(36,351),(40,352),(44,359),(45,361),(47,364),(48,366),(50,368),(55,372)]
noncomputable def Ug(k:Nat):Option Nat:=X7 k Th
noncomputable def Wv(n:Nat):List Nat->Bool
 |[]=>false
 |m::r=>cZ m n||Wv n r
noncomputable def fM(k:Nat):Bool:=Wv k [2,3,4,5,6,7,8,9,10,11,12,13,20,23,27,28,29,30,31,32,33,34,35,36,40,44,45,47,48,50,53,55]
noncomputable def dN(k:Nat):Bool:=Wv k [14,15,16,17,18,19,21,22,37,38,39,41,42,43,46,49,51,52,54,56,57,58,59,60,61,62,63,64,65,66,67,68,69,70,71,72,73,74,75,76,77]
noncomputable def QM:List (Nat×Int):=[(2,(.negSucc 0)),(3,(.ofNat 0)),(4,(.ofNat 1)),(5,(.ofNat 2)),(6,(.ofNat 3)),(7,(.ofNat 4)),(8,(.ofNat 6)),(9,(.ofNat 7)),(10,(.ofNat 8)),(11,(.ofNat 9)),(12,(.ofNat 10)),(13,(.ofNat 11))]
noncomputable def wM(k:Nat):Option Int:=X7 k QM
noncomputable def LP(c n:Nat):Option Int:=bif cZ n 1 then wM c else none
noncomputable def B4:List (Nat×(List Nat)):=[(3,[3,2]),(4,[4,2]),(5,[5,2]),(6,[6,2]),(7,[7,2]),(8,[8,2]),(9,[9,2]),(10,[10,2]),(11,[11,2]),(12,[12,2]),(13,[13,2])]
noncomputable def Xp(k:Nat):List Nat:=(X7 k B4).getD [k]
noncomputable def U_(k:Nat):Option Nat:=bif Wv k [24,25,26]then some 23 else none
noncomputable def Pu(k n:Nat):Option Nat:=bif cZ n 18 then X7 k [(24,27),(25,28),(26,60)]else none
noncomputable def Ky(k:Nat):Option Nat:=bif cZ k 74 then some 115 else none
noncomputable def qU(n:Nat):AV:=.tup [.str (n/512),.int (.ofNat (n/64%8)),.int (bif cZ (n/8%8) 7 then .negSucc 0 else .ofNat (n/8%8)),.int (.ofNat (n%8))]
noncomputable def Yp:AV:=.tup ([51274,51786,52370,52808,25744,53392,53905,54344,25160,24208,54928,26697,37449,55442,55954,26184,56392,56905,57417,57929,58441,58953,59465,59977,60489,61001,61513,62025,62537,63049,63561,64073,64585,65097,65609,66121,66633,67145,67657,68169,68681,69193,69705,70217,70729,71241,24632,71753,72249,72761,73289,73873,74385,74897,75409,75921,76433,76872,77393,10808,77897,78481,79066,79433,79945,80457,81042,81480,81992,82504,83016,83528,84041,84553,85177,85689,86201,86713,87225,87625,88137,88649,89161,89673,90233,90745,91193,91705,92281,92793,93257,93841,94353,94865,95289,95801,96329,96841,97353,97865,98377,98889,99473,99913,100425,100937,101449,101961,102473,102985,103497,104017,104593,105033,105545,106065,106577,107080,107665,108177,108689,109201,109713,110225,110737,111249,111761,112273,112713,113225,113737,114249,114761,115273,115785,116297,116809,117320,117833,118345,118856,119377,10297,119881,120465,121050,121489,122001,122513,123025,123537,124049,124561,125073,125585,126097,126681,127033,127561,128073,128585,129170,129608,130120,130562,131074,131658,132170,132682,133194,133706,134146,134730,135242,135754,14858,136202,136714,137226,137800,138322,138834,139274,139858,140360,23162,140873,141384,141897,142409,142994,143505].map qU)
end
section
open X renaming loc->a,cons->b,nil->c,cst->e,attr->f,glob->g,call->i,b->l,u->q,SY->v,KA->x,dict->zD,mk->zE,comp->zF,and->zG,ite->zJ,lm->zU
open Int renaming ofNat->d,negSucc->zA
open AV renaming int->h,str->k,g->s,bool->z
open S renaming nil->j,guard->m,ret->n,asg->o,N8->p,ite->r,expr->y,Pw->zC,N7->zZ
open UO renaming GK->t,dL->zB,Df->zI,Xa->zL,dT->zM,not->zP,dM->zV
open BO renaming sL->u,ieq->w,xQ->zH,append->zK,rS->zN,cat->zO,xP->zQ,M5->zR,sub->zS,seq->zT,add->zW,wN->zX,rT->zY
noncomputable def jz:S:=
(m (l w (f (a 0) 1) (g 0 (h (d 7)))) (v (a 0) 0 c) (n (zJ (l w (f (a 0) 1) (g 1 (h (d 11)))) (f (a 0) 2) (q zB c))))
noncomputable def jy:S:=
(m (l zY (q t (a 0)) (q t (a 1))) (e (z false)) (.for [2] (q zL (q t (a 0))) (m (l .GX (l u (a 0) (a 2)) (l u (a 1) (a 2))) (e (z false)) j) (n (e (z true)))))
noncomputable def rQ:S:=
(o 2 (q zV c) (o 3 (q zV (b (q zM (b (a 0) (b (e (z false)) c))) c)) (.while (l zN (q t (a 3)) (e (h (d 0)))) (zZ [5,6] (q .pop (a 3)) (o 4 (v (a 5) 3 c) (r (zG (q zP (a 6)) (l zN (q t (a 4)) (e (h (d 0))))) (y (zU zK (a 3) (q zM (b (a 5) (b (e (z true)) c)))) (.for [7] (q zI (q .rev (a 4))) (y (zU zK (a 3) (q zM (b (a 7) (b (e (z false)) c)))) j) j)) (o 8 (l zS (q t (a 2)) (q t (a 4))) (o 9 (l zR (a 2) (a 8)) (o 2 (l .GH (a 2) (a 8)) (r (q zP (i (g 2 (s 15)) (b (a 4) (b (a 9) c)))) (o 5 (v (a 5) 4 (b (a 9) c)) j) j (y (zU zK (a 2) (i (a 1) (b (a 5) c))) j))))) j))) (n (l u (a 2) (e (h (d 0))))))))
noncomputable def rP:S:=
(o 1 (q zV c) (o 2 (q zV (b (a 0) c)) (.while (l zN (q t (a 2)) (e (h (d 0)))) (o 3 (q .pop (a 2)) (y (zU zK (a 1) (a 3)) (.for [4] (q zI (q .rev (v (a 3) 3 c))) (y (zU zK (a 2) (a 4)) j) j))) (n (q .M6 (a 1))))))
noncomputable def jx:S:=
(n (zE 4 10 (b (zE 3 9 (b (a 0) (b (a 1) (b (e (h (zA 0))) (b (a 3) c))))) (b (a 2) c))))
noncomputable def jw:S:=
(m (.or (l zY (f (a 0) 1) (g 5 (h (d 8)))) (l zY (f (f (a 0) 5) 1) (g 0 (h (d 7))))) (e (z false)) (n (zG (l .KB (f (f (a 0) 5) 8) (e (h (d 0)))) (l w (q t (f (f (a 0) 5) 6)) (q t (f (a 0) 7))))))
noncomputable def lW:S:=
(o 2 (i (g 6 (s 20)) c) (.for [3] (q zI (i (g 7 (s 17)) (b (a 0) c))) (r (l w (f (a 3) 1) (g 0 (h (d 7)))) (o 5 (v (a 1) 9 c) (zC zH (f (a 2) 10) (f (a 3) 11) (a 5) (r (l .inD (f (a 3) 11) (f (a 1) 12)) (zC zH (f (a 1) 12) (a 5) (l zH (f (a 1) 12) (f (a 3) 11)) j) j j))) j (.for [4] (q zI (i (g 8 (s 14)) (b (a 3) c))) (zC zH (f (a 2) 13) (a 4) (v (a 1) 9 c) j) j)) (n (i (g 9 (s 16)) (b (a 0) (b (f (a 2) 14) c))))))
noncomputable def jv:S:=
(o 3 (q zV c) (o 4 (q zV c) (.for [5,6] (l .TP (f (f (a 0) 5) 6) (f (a 0) 7)) (r (l .LS (a 5) (a 1)) (y (zU zK (a 3) (a 5)) (y (zU zK (a 4) (a 6)) j)) j j) (n (zJ (l zN (q t (a 3)) (e (h (d 0)))) (i (g 10 (s 18)) (b (f (f (a 0) 5) 11) (b (q .M6 (a 3)) (b (q .M6 (a 4)) (b (a 2) c))))) (a 2))))))
noncomputable def ju:S:=
(n (i (g 11 (s 31)) (b (zF false false (q .ord (a 1)) [1] (q .rU (a 0)) c) c)))
noncomputable def jr:S:=
(m (x (a 0) [208]) (e (k 15)) (m (x (a 0) [29]) (e (k 16)) (m (x (a 0) [27]) (e (k 17)) (m (x (a 0) [23]) (f (a 0) 18) (m (x (a 0) [30]) (e (k 19)) (m (x (a 0) [31]) (e (k 20)) (m (x (a 0) [32]) (e (k 21)) (m (x (a 0) [36]) (e (k 22)) (m (x (a 0) [34]) (e (k 23)) (m (x (a 0) [33]) (e (k 24)) (n (zJ (x (a 0) [35]) (e (k 25)) (e (k 26))))))))))))))
noncomputable def jq:S:=
(n (l .GJ (i (g 12 (s 38)) (b (a 0) c)) (g 13 (.tup [(k 15),(k 26),(k 17),(k 19),(k 27),(k 28)]))))
noncomputable def jo:S:=
(zC zH (a 0) (a 1) (l zW (zU .get (a 0) (b (a 1) (b (e (h (d 0))) c))) (e (h (d 1)))) j)
noncomputable def qT:S:=
(r (l w (f (a 1) 1) (g 15 (h (d 1)))) (y (i (g 14 (s 41)) (b (f (a 0) 29) (b (f (a 1) 26) c))) (y (v (a 0) 30 (b (f (a 1) 26) (b (a 2) c))) j)) (r (l w (f (a 1) 1) (g 16 (h (d 3)))) (y (i (g 14 (s 41)) (b (f (a 0) 31) (b (f (a 1) 26) c))) (y (v (a 0) 30 (b (f (a 1) 26) (b (a 2) c))) j)) (r (l w (f (a 1) 1) (g 17 (h (d 2)))) (y (i (g 14 (s 41)) (b (f (a 0) 32) (b (f (a 1) 17) c))) j) (r (l .GJ (f (a 1) 1) (q zM (b (g 19 (h (d 4))) (b (g 18 (h (d 5))) c)))) (y (i (g 14 (s 41)) (b (f (a 0) 33) (b (f (a 1) 17) c))) j) (r (l w (f (a 1) 1) (g 1 (h (d 11)))) .bad (r (l w (f (a 1) 1) (g 0 (h (d 7)))) (zC zH (f (a 0) 34) (f (a 1) 11) (a 2) (zC zH (f (a 0) 35) (f (a 1) 11) (zD true c c) (.for [3] (q zI (v (a 1) 0 c)) (zC zH (f (a 0) 36) (a 3) (f (a 1) 11) j) j))) (r (l w (f (a 1) 1) (g 5 (h (d 8)))) (r (l w (f (f (a 1) 5) 1) (g 15 (h (d 1)))) (y (i (g 14 (s 41)) (b (f (a 0) 37) (b (f (f (a 1) 5) 26) c))) j) j (r (i (g 20 (s 19)) (b (a 1) c)) (zC zH (f (a 0) 38) (f (f (a 1) 5) 11) (e (z true)) j) j j)) j j) j) j) j) j) j) j)
noncomputable def qR:S:=
(o 1 (i (g 21 (s 40)) c) (.for [2] (q zI (a 0)) (o 3 (q zV (b (q zM (b (a 2) (b (g 22 (h (zA 0))) c))) c)) (.while (l zN (q t (a 3)) (e (h (d 0)))) (zZ [6,7] (q .pop (a 3)) (y (i (g 23 (s 42)) (b (a 1) (b (a 6) (b (a 7) c)))) (o 4 (zJ (l w (f (a 6) 1) (g 0 (h (d 7)))) (f (a 6) 11) (a 7)) (.for [5] (q zI (q .rev (v (a 6) 3 c))) (y (zU zK (a 3) (q zM (b (a 5) (b (a 4) c)))) j) j)))) j)) (n (a 1))))
noncomputable def jm:S:=
(n (i (g 9 (s 16)) (b (a 0) (b (f (zE 25 45 (b (i (g 24 (s 43)) (b (q zB (b (a 0) c)) c)) c)) 14) c))))
noncomputable def lV:S:=
(o 1 (i (g 7 (s 17)) (b (a 0) c)) (m (l zN (q t (a 1)) (g 26 (h (d 9)))) (e (z false)) (.for [2] (q zI (a 1)) (m (zG (l w (f (a 2) 1) (g 28 (h (d 0)))) (q zP (i (g 27 (s 39)) (b (f (a 2) 39) c)))) (e (z false)) j) (n (e (z true))))))
noncomputable def jl:S:=
(n (i (g 9 (s 16)) (b (a 0) (b (f (zE 29 50 (b (i (g 24 (s 43)) (b (q zB (b (a 0) c)) c)) (b (a 1) c))) 14) c))))
noncomputable def qQ:S:=
(.for [1,2] (q .SZ (g 30 Yp)) (m (l zT (l .sT (a 2) (e (h (d 0)))) (a 0)) (a 1) j) (n (e (h (zA 0)))))
noncomputable def jk:S:=
(n (i (g 9 (s 16)) (b (a 0) (b (f (zE 31 53 c) 14) c))))
noncomputable def ji:S:=
(o 1 (zF false false (q .abs (a 2)) [2] (q zI (l .xM (a 0) (e (h (d 20))))) c) (n (q zV (b (zF true true (a 2) [2] (q zI (a 1)) (l zX (a 2) (e (h (d 1000000000000000000))))) (b (l zO (a 1) (q zB (b (l zW (e (h (d 417))) (q t (a 1))) c))) (b (e (h (d 0))) c))))))
noncomputable def jh:S:=
(r (l .Pz (l u (a 0) (e (h (d 0)))) (q zB c)) (o 3 (l u (l u (a 0) (e (h (d 0)))) (e (h (d 0)))) (zC u (l u (a 0) (e (h (d 0)))) (e (h (d 0))) (l .fdiv (a 3) (a 1)) (r (l w (l u (l u (a 0) (e (h (d 0)))) (e (h (d 0)))) (e (h (d 0)))) (y (q .N9 (l u (a 0) (e (h (d 0))))) j) j (n (l .mod (a 3) (a 1)))))) j (zC u (a 0) (e (h (d 2))) (l zW (l u (a 0) (e (h (d 2)))) (e (h (d 1)))) (o 2 (l .mod (l zW (l u (l u (a 0) (e (h (d 1)))) (l .mod (l u (a 0) (e (h (d 2)))) (q t (l u (a 0) (e (h (d 1))))))) (l .mul (e (h (d 1640531527))) (l u (a 0) (e (h (d 2)))))) (e (h (d 4294966297)))) (o 2 (l .mod (l zW (l .mul (a 2) (a 2)) (l .mul (e (h (d 122949823))) (l u (a 0) (e (h (d 2)))))) (e (h (d 4294966237)))) (n (l .mod (l .fdiv (l .mod (l .mul (a 2) (a 2)) (e (h (d 4294966187)))) (e (h (d 1024)))) (a 1)))))))
noncomputable def jg:S:=
(n (l u (a 1) (i (g 32 (s 57)) (b (a 0) (b (q t (a 1)) c)))))
noncomputable def jf:S:=
(r (x (a 0) [205]) (m (l zT (l u (a 0) (e (h (d 0)))) (e (k 16))) (q zM (b (e (k 16)) (b (i (g 33 (s 59)) (b (l u (a 0) (e (h (d 1)))) c)) (b (i (g 33 (s 59)) (b (l u (a 0) (e (h (d 2)))) c)) c)))) (n (zJ (l zT (l u (a 0) (e (h (d 0)))) (e (k 40))) (q .tuple (l zO (q zB (b (l u (a 0) (e (h (d 0)))) c)) (zF false false (i (g 33 (s 59)) (b (a 1) c)) [1] (q zI (l zR (a 0) (e (h (d 1))))) c))) (q zM (b (l u (a 0) (e (h (d 0)))) c))))) j (m (x (a 0) [31]) (a 0) (m (x (a 0) [208]) (q zM (b (e (k 41)) (b (a 0) c))) (m (x (a 0) [207]) (q zM (b (e (k 42)) (b (a 0) c))) (n (zJ (l .is (a 0) (g 34 (s 24))) (q zM (b (e (k 43)) c)) (q zM (b (e (k 44)) c))))))))
noncomputable def je:S:=
(zC zQ (a 0) (e (k 45)) (q zM (b (a 1) (b (a 2) c))) j)
noncomputable def jd:S:=
(m (.or (x (a 0) [205]) (x (a 1) [205])) (zG (x (a 0) [205]) (zG (x (a 1) [205]) (l .geq (l u (a 0) (e (h (zA 0)))) (l u (a 1) (e (h (zA 0))))))) (n (l .geq (i (g 33 (s 59)) (b (a 0) c)) (i (g 33 (s 59)) (b (a 1) c)))))
noncomputable def jc:S:=
(zC zQ (a 0) (e (k 46)) (l zW (l zQ (a 0) (e (k 46))) (e (h (d 1)))) (n (l zO (l zO (q zB (b (a 1) c)) (a 2)) (q zB (b (l zQ (a 0) (e (k 46))) c)))))
noncomputable def lU:S:=
(m (l zT (a 0) (e (k 47))) (i (g 35 (s 62)) (b (a 2) (b (e (k 16)) (b (a 1) c)))) (r (l zT (a 0) (e (k 48))) (o 4 (g 34 (s 24)) (.for [5] (q zI (q .rev (a 1))) (o 4 (i (g 35 (s 62)) (b (a 2) (b (e (k 16)) (b (q zB (b (a 5) (b (a 4) c))) c)))) j) (n (a 4)))) j (m (l zT (a 0) (e (k 49))) (zG (x (l u (a 1) (e (h (d 0)))) [208]) (q zP (l u (a 1) (e (h (d 0)))))) (m (l zT (a 0) (e (k 50))) (i (g 36 (s 61)) (b (l u (a 1) (e (h (d 0)))) (b (l u (a 1) (e (h (d 1)))) c))) (o 3 (zG (x (l u (a 1) (e (h (d 0)))) [205]) (l zT (l u (l u (a 1) (e (h (d 0)))) (e (h (d 0)))) (e (k 16)))) (m (l zT (a 0) (e (k 51))) (a 3) (r (q zP (a 3)) (y (i (g 37 (s 60)) (b (a 2) (b (a 0) (b (i (g 33 (s 59)) (b (l u (a 1) (e (h (d 0)))) c)) c)))) j) j (n (zJ (l zT (a 0) (e (k 52))) (l u (l u (a 1) (e (h (d 0)))) (e (h (d 1)))) (l u (l u (a 1) (e (h (d 0)))) (e (h (d 2)))))))))))))
noncomputable def lT:S:=
(m (zG (x (a 0) [205]) (l zT (l u (a 0) (e (h (d 0)))) (e (k 53)))) (zJ (l w (q t (a 1)) (e (h (d 1)))) (l u (a 1) (e (h (d 0)))) (l zO (q zB (b (e (k 40)) c)) (a 1))) (r (.or (q zP (x (a 0) [205])) (l .rR (l u (a 0) (e (h (d 0)))) (e (k 55)))) (y (i (g 37 (s 60)) (b (a 2) (b (e (k 54)) (b (i (g 33 (s 59)) (b (a 0) c)) c)))) j) j (zZ [3,4] (q zM (b (l u (a 0) (e (h (d 1)))) (b (q .M7 (l u (a 0) (e (h (d 2))))) c))) (r (.or (l .KB (q t (a 1)) (q t (f (a 3) 6))) (zG (l zN (q t (a 1)) (q t (f (a 3) 6))) (l .KB (f (a 3) 8) (e (h (d 0)))))) (y (i (g 37 (s 60)) (b (a 2) (b (e (k 56)) (b (q t (a 1)) c)))) j) j (.for [5,6] (l .TP (f (a 3) 6) (a 1)) (zC zH (a 4) (a 5) (q zV (b (a 6) c)) j) (r (l zX (f (a 3) 8) (e (h (d 0)))) (zC zH (a 4) (f (a 3) 8) (q zV (b (i (g 38 (s 63)) (b (e (k 48)) (b (l zR (a 1) (q t (f (a 3) 6))) (b (a 2) c)))) c)) j) j (n (i (g 39 (s 66)) (b (f (a 3) 57) (b (a 4) (b (a 2) c)))))))))))
noncomputable def i_:S:=
(o 3 (i (g 39 (s 66)) (b (a 0) (b (a 1) (b (a 2) c)))) (r (zG (x (a 3) [205]) (l zT (l u (a 3) (e (h (d 0)))) (e (k 40)))) (y (i (g 37 (s 60)) (b (a 2) (b (e (k 40)) (b (l zS (q t (a 3)) (e (h (d 1)))) c)))) j) j (n (a 3))))
noncomputable def lR:S:=
(zC zQ (a 2) (e (k 58)) (l zS (l zQ (a 2) (e (k 58))) (e (h (d 1)))) (r (l .KB (l zQ (a 2) (e (k 58))) (e (h (d 0)))) (y (i (g 37 (s 60)) (b (a 2) (b (e (k 59)) (b (e (h (d 0))) c)))) j) j (m (x (a 0) [3]) (f (a 0) 39) (r (x (a 0) [4]) (r (l .is (l u (l zH (a 1) (f (a 0) 26)) (e (h (d 0)))) (g 40 (s 26))) (y (i (g 37 (s 60)) (b (a 2) (b (e (k 60)) (b (e (h (d 0))) c)))) j) j (n (l u (l zH (a 1) (f (a 0) 26)) (e (h (d 0)))))) j (r (x (a 0) [10]) (o 3 (i (g 41 (s 65)) (b (f (a 0) 5) (b (a 1) (b (a 2) c)))) (n (i (g 42 (s 64)) (b (a 3) (b (zF false false (i (g 41 (s 65)) (b (a 5) (b (a 1) (b (a 2) c)))) [5] (q zI (f (a 0) 7)) c) (b (a 2) c)))))) j (m (x (a 0) [12]) (i (g 38 (s 63)) (b (l zH (l zQ (a 2) (e (k 61))) (f (a 0) 62)) (b (zF false false (i (g 41 (s 65)) (b (a 5) (b (a 1) (b (a 2) c)))) [5] (q zI (f (a 0) 7)) c) (b (a 2) c)))) (r (x (a 0) [8]) (o 4 (i (g 41 (s 65)) (b (f (a 0) 63) (b (a 1) (b (a 2) c)))) (n (i (g 39 (s 66)) (b (zJ (zG (x (a 4) [208]) (q zP (a 4))) (f (a 0) 64) (f (a 0) 65)) (b (a 1) (b (a 2) c)))))) j (m (x (a 0) [9]) (i (g 35 (s 62)) (b (a 2) (b (e (k 55)) (b (q zB (b (a 0) (b (a 1) c))) c)))) (r (x (a 0) [11]) (.for [5] (q zI (l .xM (f (a 0) 66) (e (h (zA 0))))) (y (i (g 39 (s 66)) (b (a 5) (b (a 1) (b (a 2) c)))) j) (n (i (g 39 (s 66)) (b (l u (f (a 0) 66) (e (h (zA 0)))) (b (a 1) (b (a 2) c)))))) j (n (i (g 43 (s 67)) (b (a 0) (b (a 1) (b (a 2) c))))))))))))))
noncomputable def i9:S:=
(r (x (a 0) [13]) .bad j (r (x (a 0) [6]) (o 5 (i (g 41 (s 65)) (b (f (a 0) 39) (b (a 1) (b (a 2) c)))) (zC u (l zH (a 1) (f (a 0) 26)) (e (h (d 0))) (a 5) (n (g 44 (s 25))))) j (r (x (a 0) [7]) (o 5 (i (g 41 (s 65)) (b (f (a 0) 39) (b (a 1) (b (a 2) c)))) (y (zU zK (l zQ (a 2) (e (k 67))) (q zM (b (f (a 0) 17) (b (i (g 33 (s 59)) (b (a 5) c)) c)))) j)) j (r (l .LS (f (a 0) 17) (l zQ (a 2) (e (k 69)))) (y (i (g 37 (s 60)) (b (a 2) (b (e (k 68)) (b (f (a 0) 17) c)))) j) j (m (x (a 0) [5]) (l zH (l zQ (a 2) (e (k 69))) (f (a 0) 17)) (zC zH (l zQ (a 2) (e (k 69))) (f (a 0) 17) (a 5) (n (g 44 (s 25)))))))))
noncomputable def lQ:S:=
(o 2 (zD false (b (e (k 58)) (b (e (k 46)) (b (e (k 67)) (b (e (k 69)) (b (e (k 45)) (b (e (k 61)) c)))))) (b (e (h (d 5000))) (b (e (h (d 0))) (b (q zV c) (b (zD true (b (e (h (d 1))) (b (e (h (d 2))) (b (e (h (d 4))) c))) (b (e (h (d 5))) (b (e (z false)) (b (q zB (b (e (k 53)) c)) c)))) (b (e .none) (b (a 1) c))))))) (.try (o 3 (q zM (b (e (k 70)) (b (i (g 33 (s 59)) (b (i (g 39 (s 66)) (b (a 0) (b (zD true c c) (b (a 2) c)))) c)) c))) j) 3 (k 71) 2 (k 45) (n (q zB (b (a 3) (b (q .M6 (l zQ (a 2) (e (k 67)))) (b (zF false false (i (g 33 (s 59)) (b (l zH (l zQ (a 2) (e (k 69))) (a 4)) c)) [4] (q zI (q zM (b (e (h (d 1))) (b (e (h (d 2))) c)))) c) c)))))))
noncomputable def qP:S:=
(o 3 (q zB c) (r (x (a 0) [9]) (o 3 (l zO (f (a 0) 6) (zJ (l zX (f (a 0) 8) (e (h (d 0)))) (q zB (b (f (a 0) 8) c)) (q zB c))) (m (l .GJ (q zM (b (e (k 11)) (b (f (a 0) 11) c))) (a 2)) (e (z false)) (y (zU zK (a 2) (q zM (b (e (k 11)) (b (f (a 0) 11) c)))) j))) j (r (x (a 0) [13]) .bad j (m (l .Pz (zF false true (a 4) [4] (q zI (a 3)) (l .GJ (a 4) (a 2))) (q zB c)) (e (z false)) (y (zU .extend (a 2) (a 3)) (m (zG (x (a 0) [4,6]) (l .GI (f (a 0) 26) (a 1))) (e (z false)) (n (l .emp (zF false true (e (h (d 1))) [5] (q zI (v (a 0) 3 c)) (q zP (i (g 45 (s 69)) (b (a 5) (b (l zO (a 1) (a 3)) (b (a 2) c)))))) (q zB c)))))))))
noncomputable def lP:S:=
(o 3 (zF false true (a 4) [4,5] (q zI (a 1)) (l .geq (a 5) (e (k 72)))) (m (zG (l .Pz (a 3) (q zB c)) (l zN (i (g 32 (s 57)) (b (a 0) (b (e (h (d 4))) c))) (e (h (d 0))))) (zE 47 4 (b (i (g 46 (s 58)) (b (a 0) (b (l zR (a 3) (e (h (zA 2)))) c))) c)) (n (zE 48 3 (b (i (g 46 (s 58)) (b (a 0) (b (l zO (q zB (b (e (h (d 0))) (b (e (h (d 1))) (b (e (z false)) (b (e (z true)) (b (g 34 (s 24)) c)))))) (l u (a 2) (e (h (d 1))))) c))) c)))))
noncomputable def i8:S:=
(zZ [7,8] (q zM (b (v (a 1) 9 c) (b (v (a 1) 9 c) c))) (r (l w (i (g 32 (s 57)) (b (a 0) (b (e (h (d 2))) c))) (e (h (d 0)))) (o 9 (i (g 49 (s 76)) (b (a 0) (b (a 1) (b (a 2) (b (l zS (a 3) (e (h (d 1)))) (b (a 4) c)))))) (o 10 (i (g 49 (s 76)) (b (a 0) (b (a 1) (b (l zO (a 2) (q zB (b (q zM (b (a 7) (b (e (k 72)) c))) c))) (b (l zS (a 3) (e (h (d 1)))) (b (a 4) c)))))) (n (zE 4 10 (b (zE 3 9 (b (a 8) (b (q zB (b (a 7) c)) (b (e (h (zA 0))) (b (a 10) c))))) (b (q zB (b (a 9) c)) c)))))) j (o 5 (i (g 50 (s 72)) (b (a 0) (b (a 1) (b (a 2) (b (a 3) (b (a 4) c)))))) (o 6 (q zM (b (q t (f (a 5) 6)) (b (l zX (f (a 5) 8) (e (h (d 0)))) c))) (n (zE 4 10 (b (zE 3 9 (b (a 8) (b (q zB (b (a 7) c)) (b (e (h (zA 0))) (b (i (g 49 (s 76)) (b (a 0) (b (a 1) (b (l zO (a 2) (q zB (b (q zM (b (a 7) (b (a 6) c))) c))) (b (a 3) (b (a 4) c)))))) c))))) (b (q zB (b (a 5) c)) c))))))))
noncomputable def lO:S:=
(o 5 (zF false false (v (a 1) 9 c) [9] (q zL (i (g 32 (s 57)) (b (a 0) (b (e (h (d 3))) c)))) c) (o 6 (zJ (l w (i (g 32 (s 57)) (b (a 0) (b (e (h (d 4))) c))) (e (h (d 0)))) (v (a 1) 9 c) (e (h (zA 0)))) (o 7 (l zO (a 5) (zJ (l zX (a 6) (e (h (d 0)))) (q zB (b (a 6) c)) (q zB c))) (o 8 (i (g 49 (s 76)) (b (a 0) (b (a 1) (b (l zO (a 2) (zF false false (q zM (b (a 10) (b (e (k 72)) c))) [10] (q zI (a 7)) c)) (b (l zS (a 3) (e (h (d 1)))) (b (a 4) c)))))) (n (zE 3 9 (b (v (a 1) 9 c) (b (a 5) (b (a 6) (b (a 8) c))))))))))
noncomputable def qO:S:=
(o 7 (zJ (a 6) (i (g 32 (s 57)) (b (a 0) (b (e (h (d 3))) c))) (q .int (l w (i (g 32 (s 57)) (b (a 0) (b (e (h (d 9))) c))) (e (h (d 0)))))) (n (zF false false (i (g 49 (s 76)) (b (a 0) (b (a 1) (b (a 2) (b (l zS (a 3) (e (h (d 1)))) (b (a 4) c)))))) [8] (q zL (l zW (a 5) (a 7))) c)))
noncomputable def lN:S:=
(o 5 (zF false true (q zM (b (a 7) (b (a 8) c))) [7,8] (q zI (a 2)) (l .xR (a 8) (e (k 72)))) (r (zG (l .Pz (a 5) (q zB c)) (l zN (i (g 32 (s 57)) (b (a 0) (b (e (h (d 3))) c))) (e (h (d 0))))) (zZ [7,8] (i (g 46 (s 58)) (b (a 0) (b (l zR (a 5) (e (h (zA 1)))) c))) (n (zE 4 10 (b (zE 47 4 (b (a 7) c)) (b (i (g 51 (s 73)) (b (a 0) (b (a 1) (b (a 2) (b (a 3) (b (a 4) (b (l .sT (a 8) (e (h (d 0)))) (b (l .sT (a 8) (e (h (d 1)))) c)))))))) c))))) j (m (l w (i (g 32 (s 57)) (b (a 0) (b (e (h (d 3))) c))) (e (h (d 0)))) (zE 4 10 (b (zE 52 5 (b (e (h (d 4))) c)) (b (zF false false (i (g 49 (s 76)) (b (a 0) (b (a 1) (b (a 2) (b (l zS (a 3) (e (h (d 1)))) (b (a 4) c)))))) [9] (q zL (i (g 32 (s 57)) (b (a 0) (b (e (h (d 3))) c)))) c) c))) (o 6 (i (g 50 (s 72)) (b (a 0) (b (a 1) (b (a 2) (b (a 3) (b (a 4) c)))))) (n (zE 4 10 (b (a 6) (b (i (g 51 (s 73)) (b (a 0) (b (a 1) (b (a 2) (b (a 3) (b (a 4) (b (q t (f (a 6) 6)) (b (l zX (f (a 6) 8) (e (h (d 0)))) c)))))))) c))))))))
noncomputable def qN:S:=
(o 5 (zF false true (a 8) [8,9] (q zI (a 2)) (l .geq (a 9) (e (k 72)))) (o 6 (i (g 49 (s 76)) (b (a 0) (b (a 1) (b (a 2) (b (l zS (a 3) (e (h (d 1)))) (b (a 4) c)))))) (r (zG (l .Pz (a 5) (q zB c)) (l w (i (g 32 (s 57)) (b (a 0) (b (e (h (d 2))) c))) (e (h (d 0))))) (o 7 (zE 53 6 (b (i (g 46 (s 58)) (b (a 0) (b (l zR (a 5) (e (h (zA 2)))) c))) (b (a 6) c))) j) (o 7 (i (g 46 (s 58)) (b (a 0) (b (q zB (b (zE 54 7 (b (e (h (d 1))) (b (a 6) c))) (b (zE 54 7 (b (e (h (d 2))) (b (a 6) c))) (b (a 6) (b (zE 54 7 (b (e (h (d 3))) (b (a 6) c))) c))))) c))) j) (n (zE 55 11 (b (q zB (b (a 7) (b (i (g 49 (s 76)) (b (a 0) (b (a 1) (b (a 2) (b (l zS (a 3) (e (h (d 1)))) (b (a 4) c)))))) c))) c))))))
noncomputable def lM:S:=
(zC u (a 4) (e (h (d 0))) (l zS (l u (a 4) (e (h (d 0)))) (e (h (d 1)))) (o 5 (zJ (zG (l zN (a 3) (e (h (d 0)))) (l zN (l u (a 4) (e (h (d 0)))) (e (h (d 0))))) (i (g 32 (s 57)) (b (a 0) (b (e (h (d 14))) c))) (e (h (d 13)))) (m (l .KB (a 5) (e (h (d 4)))) (i (g 56 (s 71)) (b (a 0) (b (a 1) (b (a 2) (b (a 3) (b (a 4) c)))))) (m (l .KB (a 5) (e (h (d 6)))) (i (g 57 (s 74)) (b (a 0) (b (a 1) (b (a 2) (b (a 3) (b (a 4) c)))))) (m (l .KB (a 5) (e (h (d 8)))) (i (g 58 (s 75)) (b (a 0) (b (a 1) (b (a 2) (b (a 3) (b (a 4) c)))))) (m (l w (a 5) (e (h (d 8)))) (zE 52 5 (b (l zW (e (h (d 1))) (i (g 32 (s 57)) (b (a 0) (b (e (h (d 3))) c)))) c)) (r (l w (a 5) (e (h (d 9)))) (o 8 (zF false false (i (g 49 (s 76)) (b (a 0) (b (a 1) (b (a 2) (b (l zS (a 3) (e (h (d 1)))) (b (a 4) c)))))) [9] (q zL (e (h (d 3)))) c) (n (zE 59 8 (b (l u (a 8) (e (h (d 0)))) (b (l u (a 8) (e (h (d 1)))) (b (l u (a 8) (e (h (d 2)))) c)))))) j (m (l zN (a 5) (e (h (d 11)))) (i (g 60 (s 70)) (b (a 0) (b (a 2) (b (a 4) c)))) (o 6 (i (g 46 (s 58)) (b (a 0) (b (q zB (b (e (k 47)) (b (e (k 52)) (b (e (k 73)) (b (e (k 49)) (b (e (k 51)) (b (e (k 50)) c))))))) c))) (o 7 (zJ (l .GJ (a 6) (q zM (b (e (k 47)) (b (e (k 50)) c)))) (e (h (d 2))) (e (h (d 1)))) (n (zE 62 12 (b (i (g 61 (s 52)) (b (a 6) c)) (b (zF false false (i (g 49 (s 76)) (b (a 0) (b (a 1) (b (a 2) (b (l zS (a 3) (e (h (d 1)))) (b (a 4) c)))))) [9] (q zL (a 7)) c) c))))))))))))))
noncomputable def wL:S:=
(zZ [3,4] (q zM (b (i (g 64 (s 56)) (b (a 0) c)) (b (i (g 63 (s 55)) c) c))) (o 1 (q .Va (zF false false (q zM (b (i (g 61 (s 52)) (b (a 9) c)) (b (a 9) c))) [9] (q zI (q zB (b (e (k 47)) (b (e (k 52)) (b (e (k 73)) (b (e (k 49)) (b (e (k 51)) (b (e (k 50)) (b (e (k 48)) c))))))))) c)) (.for [2] (q zL (e (h (d 2)))) (o 5 (i (g 56 (s 71)) (b (a 3) (b (a 4) (b (q zB c) (b (e (h (d 5))) (b (q zV (b (e (h (d 11))) (b (q zB (b (i (g 65 (s 37)) (b (e (k 74)) c)) (b (i (g 65 (s 37)) (b (e (k 74)) c)) c))) c))) c)))))) (o 6 (i (g 66 (s 68)) (b (a 5) (b (a 1) c))) (.for [7] (q zL (e (h (d 2)))) (o 8 (i (g 32 (s 57)) (b (a 3) (b (e (h (d 3))) c))) (o 5 (zJ (l w (a 8) (e (h (d 0)))) (i (g 67 (s 54)) (b (a 5) c)) (zJ (l w (a 8) (e (h (d 1)))) (i (g 68 (s 46)) (b (a 5) c)) (i (g 69 (s 51)) (b (a 5) (b (a 4) c))))) (m (.or (q zP (i (g 45 (s 69)) (b (a 5) (b (q zB c) (b (q zV c) c))))) (l .xR (i (g 66 (s 68)) (b (a 5) (b (a 1) c))) (a 6))) (e (z false)) j))) j))) (n (e (z true))))))
noncomputable def qM:S:=
(n (q zB c))
noncomputable def qL:S:=
(p (a 0) 39 (a 1) j)
noncomputable def qK:S:=
(p (a 0) 26 (a 1) j)
noncomputable def qJ:S:=
(p (a 0) 17 (a 1) j)
noncomputable def qI:S:=
(p (a 0) 26 (a 1) (p (a 0) 39 (a 2) j))
noncomputable def qH:S:=
(n (q zB (b (f (a 0) 39) c)))
noncomputable def qG:S:=
(n (zE 53 6 (b (f (a 0) 26) (b (l u (a 1) (e (h (d 0)))) c))))
noncomputable def qF:S:=
(p (a 0) 17 (a 1) (p (a 0) 39 (a 2) j))
noncomputable def qE:S:=
(n (q zB (b (f (a 0) 39) c)))
noncomputable def qD:S:=
(n (zE 54 7 (b (f (a 0) 17) (b (l u (a 1) (e (h (d 0)))) c))))
noncomputable def qC:S:=
(p (a 0) 63 (a 1) (p (a 0) 65 (a 2) (p (a 0) 64 (a 3) j)))
noncomputable def qB:S:=
(n (q zB (b (f (a 0) 63) (b (f (a 0) 65) (b (f (a 0) 64) c)))))
noncomputable def qA:S:=
(n (zE 59 8 (b (l u (a 1) (e (h (d 0)))) (b (l u (a 1) (e (h (d 1)))) (b (l u (a 1) (e (h (d 2)))) c)))))
noncomputable def qz:S:=
(p (a 0) 11 (a 1) (p (a 0) 6 (a 2) (p (a 0) 8 (a 3) (p (a 0) 57 (a 4) j))))
noncomputable def qy:S:=
(n (q zB (b (f (a 0) 57) c)))
noncomputable def qx:S:=
(n (zE 3 9 (b (f (a 0) 11) (b (f (a 0) 6) (b (f (a 0) 8) (b (l u (a 1) (e (h (d 0)))) c))))))
noncomputable def qw:S:=
(n (zJ (l zX (f (a 0) 8) (e (h (d 0)))) (l zO (f (a 0) 6) (q zB (b (f (a 0) 8) c))) (q .list (f (a 0) 6))))
noncomputable def qu:S:=
(n (.or (l w (a 1) (q t (f (a 0) 6))) (zG (l zN (a 1) (q t (f (a 0) 6))) (l zX (f (a 0) 8) (e (h (d 0)))))))
noncomputable def qt:S:=
(p (a 0) 5 (a 1) (p (a 0) 7 (a 2) j))
noncomputable def qs:S:=
(n (l zO (q zB (b (f (a 0) 5) c)) (f (a 0) 7)))
noncomputable def qq:S:=
(n (zE 4 10 (b (l u (a 1) (e (h (d 0)))) (b (l zR (a 1) (e (h (d 1)))) c))))
noncomputable def qp:S:=
(p (a 0) 66 (a 1) j)
noncomputable def qo:S:=
(n (q .list (f (a 0) 66)))
noncomputable def qm:S:=
(n (zE 55 11 (b (a 1) c)))
noncomputable def ql:S:=
(p (a 0) 62 (a 1) (p (a 0) 7 (a 2) j))
noncomputable def qk:S:=
(n (q .list (f (a 0) 7)))
noncomputable def qj:S:=
(n (zE 62 12 (b (f (a 0) 62) (b (a 1) c))))
noncomputable def qi:S:=
(p (a 0) 13 (zD true c c) (p (a 0) 10 (zD true c c) j))
noncomputable def qh:S:=
(n (zU .get (f (a 0) 13) (b (a 1) (b (a 1) c))))
noncomputable def qg:S:=
(n (zU .get (f (a 0) 10) (b (a 1) (b (a 1) c))))
noncomputable def qe:S:=
(m (l w (f (a 1) 1) (g 15 (h (d 1)))) (zJ (l .inD (f (a 1) 26) (f (a 0) 13)) (zE 47 4 (b (v (a 0) 75 (b (f (a 1) 26) c)) c)) (a 1)) (m (l w (f (a 1) 1) (g 16 (h (d 3)))) (zE 53 6 (b (v (a 0) 75 (b (f (a 1) 26) c)) (b (f (a 1) 39) c))) (r (l w (f (a 1) 1) (g 0 (h (d 7)))) (o 2 (zF false false (v (a 0) 75 (b (a 4) c)) [4] (q zI (f (a 1) 6)) c) (o 3 (zJ (l zX (f (a 1) 8) (e (h (d 0)))) (v (a 0) 75 (b (f (a 1) 8) c)) (e (h (zA 0)))) (n (zE 3 9 (b (v (a 0) 11 (b (f (a 1) 11) c)) (b (a 2) (b (a 3) (b (f (a 1) 57) c)))))))) j (r (l w (f (a 1) 1) (g 1 (h (d 11)))) .bad j (n (a 1))))))
noncomputable def qd:S:=
(p (a 0) 76 (q zV c) (p (a 0) 77 (zD false c c) j))
noncomputable def qc:S:=
(p (a 0) 78 (a 1) j)
noncomputable def qb:S:=
(p (a 0) 29 (zD true c c) (p (a 0) 31 (zD true c c) (p (a 0) 37 (zD true c c) (p (a 0) 36 (zD true c c) (p (a 0) 79 (zD true c c) (p (a 0) 34 (zD true c c) (p (a 0) 38 (zD true c c) (p (a 0) 35 (zD true c c) (p (a 0) 32 (zD true c c) (p (a 0) 33 (zD true c c) j))))))))))
noncomputable def qa:S:=
(n (l zN (zU .get (f (a 0) 31) (b (a 1) (b (e (h (d 0))) c))) (e (h (d 0)))))
noncomputable def p_:S:=
(n (zU .get (f (a 0) 29) (b (a 1) (b (e (h (d 0))) c))))
noncomputable def p8:S:=
(n (zU .get (f (a 0) 37) (b (a 1) (b (e (h (d 0))) c))))
noncomputable def B3:S:=
(o 3 (a 2) (.while (l zY (a 3) (l zH (f (a 0) 36) (a 1))) (zC zH (l zH (f (a 0) 35) (a 3)) (a 1) (e (z true)) (r (l .LS (a 3) (f (a 0) 38)) (zC zH (f (a 0) 79) (a 1) (e (z true)) j) j (o 3 (l zH (f (a 0) 34) (a 3)) j))) j))
noncomputable def p7:S:=
(p (a 0) 26 (a 1) (p (a 0) 80 (a 2) j))
noncomputable def p6:S:=
(m (zG (l w (f (a 1) 1) (g 5 (h (d 8)))) (zG (l w (f (f (a 1) 5) 1) (g 15 (h (d 1)))) (l w (f (f (a 1) 5) 26) (f (a 0) 26)))) (zE 4 10 (b (f (a 0) 80) (b (f (a 1) 7) c))) (n (a 1)))
noncomputable def p5:S:=
(p (a 0) 81 (a 1) j)
noncomputable def p0:S:=
(m (.or (v (f (a 0) 81) 83 (b (a 1) c)) (l zY (v (f (a 0) 81) 82 (b (a 1) c)) (e (h (d 1))))) (e (z false)) (n (l w (v (f (a 0) 81) 84 (b (a 1) c)) (e (h (d 1))))))
noncomputable def wK:S:=
(m (q zP (i (g 20 (s 19)) (b (a 1) c))) (a 1) (o 2 (zD true c c) (o 3 (f (f (a 1) 5) 57) (.for [4,5] (l .TP (f (f (a 1) 5) 6) (f (a 1) 7)) (r (zG (l w (f (a 5) 1) (g 0 (h (d 7)))) (v (a 0) 85 (b (a 4) c))) (zC zH (a 2) (a 4) (e (z true)) (o 3 (i (g 9 (s 16)) (b (a 3) (b (f (zE 70 44 (b (a 4) (b (a 5) c))) 14) c))) j)) j j) (n (zJ (l zN (q .KC (a 2)) (e (h (d 0)))) (i (g 71 (s 22)) (b (a 1) (b (a 2) (b (a 3) c)))) (a 1)))))))
noncomputable def pZ:S:=
(p (a 0) 26 (a 1) (p (a 0) 80 (a 2) (p (a 0) 86 (a 3) j)))
noncomputable def pY:S:=
(m (zG (l w (f (a 1) 1) (g 5 (h (d 8)))) (zG (l w (f (f (a 1) 5) 1) (g 15 (h (d 1)))) (l w (f (f (a 1) 5) 26) (f (a 0) 26)))) (zE 4 10 (b (i (g 72 (s 21)) (b (f (a 0) 80) (b (f (a 0) 86) c))) (b (f (a 1) 7) c))) (n (a 1)))
noncomputable def pX:S:=
(p (a 0) 26 (a 1) (p (a 0) 80 (a 2) (p (a 0) 87 (e (z true)) j)))
noncomputable def pW:S:=
(r (zG (l w (f (a 1) 1) (g 5 (h (d 8)))) (zG (l w (f (f (a 1) 5) 1) (g 15 (h (d 1)))) (l w (f (f (a 1) 5) 26) (f (a 0) 26)))) (p (a 0) 87 (zG (f (a 0) 87) (v (f (a 0) 80) 88 (b (q t (f (a 1) 7)) c))) j) j (n (a 1)))
noncomputable def pT:S:=
(p (a 0) 81 (a 1) (p (a 0) 86 (a 2) j))
noncomputable def pS:S:=
(o 4 (v (f (a 0) 81) 82 (b (a 1) c)) (m (.or (v (f (a 0) 81) 83 (b (a 1) c)) (.or (q zP (.De (e (h (d 0))) (a 4) (g 73 (h (d 4))))) (l zY (v (f (a 0) 81) 84 (b (a 1) c)) (a 4)))) (e (z false)) (m (q zP (i (g 74 (s 49)) (b (a 2) c))) (e (z false)) (o 5 (i (g 75 (s 48)) (b (a 1) (b (a 2) c))) (y (i (g 9 (s 16)) (b (a 3) (b (f (a 5) 14) c))) (n (f (a 5) 87)))))))
noncomputable def wJ:S:=
(m (q zP (i (g 20 (s 19)) (b (a 1) c))) (a 1) (o 2 (zD true c c) (o 3 (f (f (a 1) 5) 57) (.for [4,5] (l .TP (f (f (a 1) 5) 6) (f (a 1) 7)) (r (zG (l w (f (a 5) 1) (g 0 (h (d 7)))) (v (a 0) 89 (b (a 4) (b (a 5) (b (a 3) c))))) (zC zH (a 2) (a 4) (e (z true)) (o 3 (i (g 9 (s 16)) (b (a 3) (b (f (zE 76 47 (b (a 4) (b (a 5) (b (f (a 0) 86) c)))) 14) c))) j)) j j) (n (zJ (l zN (q .KC (a 2)) (e (h (d 0)))) (i (g 71 (s 22)) (b (a 1) (b (a 2) (b (a 3) c)))) (a 1)))))))
noncomputable def pR:S:=
(m (.or (l zY (f (a 1) 1) (g 5 (h (d 8)))) (l zY (f (f (a 1) 5) 1) (g 0 (h (d 7))))) (a 1) (m (i (g 20 (s 19)) (b (a 1) c)) (zJ (l zN (q t (f (a 1) 7)) (e (h (d 0)))) (a 1) (f (f (a 1) 5) 57)) (o 2 (f (a 1) 5) (m (.or (l .KB (f (a 2) 8) (e (h (d 0)))) (q zP (v (a 2) 88 (b (q t (f (a 1) 7)) c)))) (a 1) (o 3 (q t (f (a 2) 6)) (o 4 (l zO (l .xM (f (a 1) 7) (a 3)) (q zB (b (zE 62 12 (b (g 77 (h (d 46))) (b (l zR (f (a 1) 7) (a 3)) c))) c))) (n (i (g 10 (s 18)) (b (f (a 2) 11) (b (l zO (f (a 2) 6) (q zB (b (f (a 2) 8) c))) (b (a 4) (b (f (a 2) 57) c))))))))))))
noncomputable def pQ:S:=
(p (a 0) 90 (i (g 78 (s 28)) c) (p (a 0) 91 (e (h (d 0))) (p (a 0) 12 (zD true c c) (p (a 0) 92 (zD true c c) (p (a 0) 93 (e .none) j)))))
noncomputable def pO:S:=
(p (a 0) 91 (l zW (f (a 0) 91) (e (h (d 1)))) (n (f (a 0) 91)))
noncomputable def xK:Fi:=⟨3,[314,294,329,300,63,322],false,lR⟩
noncomputable def lK:Fi:=⟨1,[326,61,332,290,313,314,293,281,334,336],false,wL⟩
noncomputable def pM:List (Nat×Fi):=[(14,⟨1,[314],false,jz⟩),(15,⟨2,[317,321,283],false,jy⟩),(16,⟨2,[314,287,292,333,3,301,302,322,295,9],false,rQ⟩),(17,⟨1,[314,297,333,301,322],false,rP⟩),(18,⟨4,[11,2,40,57],false,jx⟩),(19,⟨1,[314],false,jw⟩),(21,⟨2,[314,86,313,301,26,11],false,lW⟩),(22,⟨3,[307,298,57,6,7,26,318],false,jv⟩),(37,⟨1,[70,308],false,ju⟩),(38,⟨1,[289],false,jr⟩),(39,⟨1,[289],false,jq⟩),(41,⟨2,[288,305],false,jo⟩),(42,⟨3,[81,314,11,26],false,qT⟩),(43,⟨1,[315,81,314,333,335,322,301,11],false,qR⟩),(46,⟨1,[314],false,jm⟩),(49,⟨1,[80,315,301],false,lV⟩),(51,⟨2,[314,86],false,jl⟩),(52,⟨1,[312,323,324],false,qQ⟩),(54,⟨1,[314],false,jk⟩),(56,⟨1,[326,286,285],false,ji⟩),(57,⟨2,[290,53,310,8],false,jh⟩),(58,⟨2,[290,66],false,jg⟩),(59,⟨1,[39,304],false,jf⟩),(60,⟨3,[329,336,330],true,je⟩),(61,⟨2,[316,320],false,jd⟩),(62,⟨3,[329,336,97],false,jc⟩),(63,⟨3,[336,282,329,303,297,304],false,lU⟩),(64,⟨3,[300,282,329,80,35,26,39],false,lT⟩),(65,⟨3,[314,294,329,297],false,i_⟩),(66,xK),(67,⟨3,[314,294,329,35,26,39,80],false,i9⟩),(68,⟨2,[314,61,329,70,17],false,lQ⟩),(69,⟨3,[314,306,309,0,26,322],false,qP⟩),(70,⟨3,[290,325,58,319,26,328],false,lP⟩),(71,⟨5,[290,313,325,291,58,80,328,26,11,39,57],false,i8⟩),(72,⟨5,[290,313,325,291,58,6,8,36,57,332,26],false,lO⟩),(73,⟨7,[290,313,325,291,58,53,299,311,332],false,qO⟩),(74,⟨5,[290,313,325,291,58,284,80,26,328,332],false,lN⟩),(75,⟨5,[290,313,325,291,58,319,39,295,26,328],false,qN⟩),(76,⟨5,[290,313,325,291,58,334,336,53,3,332],false,lM⟩),(77,lK),(300,⟨1,[327],false,qM⟩),(302,⟨2,[327,39],false,qL⟩),(303,⟨2,[327,26],false,qK⟩),(304,⟨2,[327,17],false,qJ⟩),(305,⟨3,[327,26,39],false,qI⟩),(306,⟨1,[327],false,qH⟩),(307,⟨2,[327,3],false,qG⟩),(308,⟨3,[327,17,39],false,qF⟩),(309,⟨1,[327],false,qE⟩),(310,⟨2,[327,3],false,qD⟩),(311,⟨4,[327,63,65,64],false,qC⟩),(312,⟨1,[327],false,qB⟩),(313,⟨2,[327,3],false,qA⟩),(314,⟨5,[327,11,6,8,57],false,qz⟩),(315,⟨1,[327],false,qy⟩),(316,⟨2,[327,3],false,qx⟩),(317,⟨1,[327],false,qw⟩),(318,⟨2,[327,53],false,qu⟩),(319,⟨3,[327,5,7],false,qt⟩),(320,⟨1,[327],false,qs⟩),(321,⟨2,[327,3],false,qq⟩),(322,⟨2,[327,66],false,qp⟩),(323,⟨1,[327],false,qo⟩),(324,⟨2,[327,3],false,qm⟩),(325,⟨3,[327,62,7],false,ql⟩),(326,⟨1,[327],false,qk⟩),(327,⟨2,[327,3],false,qj⟩),(331,⟨1,[327],false,qi⟩),(332,⟨2,[327,26],false,qh⟩),(333,⟨2,[327,26],false,qg⟩),(334,⟨2,[327,314,6,8,26],false,qe⟩),(337,⟨1,[327],false,qd⟩),(346,⟨2,[327,78],false,qc⟩),(352,⟨1,[327],false,qb⟩),(353,⟨2,[327,26],false,qa⟩),(355,⟨2,[327,26],false,p_⟩),(356,⟨2,[327,26],false,p8⟩),(358,⟨3,[327,26,11,283],false,B3⟩),(359,⟨3,[327,26,80],false,p7⟩),(360,⟨2,[327,314],false,p6⟩),(361,⟨2,[327,81],false,p5⟩),(362,⟨2,[327,26],false,p0⟩),(363,⟨2,[327,314,298,57,26,318],false,wK⟩),(364,⟨4,[327,26,80,86],false,pZ⟩),(365,⟨2,[327,314],false,pY⟩),(366,⟨3,[327,26,80],false,pX⟩),(367,⟨2,[327,314],false,pW⟩),(368,⟨3,[327,81,86],false,pT⟩),(369,⟨4,[327,26,80,57,331,296],false,pS⟩),(370,⟨2,[327,314,298,57,26,318],false,wJ⟩),(371,⟨2,[327,314,80,295,7],false,pR⟩),(372,⟨1,[327],false,pQ⟩),(373,⟨1,[327],false,pO⟩)]
noncomputable def fnOf(k:Nat):Option Fi:=X7 k pM
noncomputable def pK:List String:=["binders","kind","numbers","parts","with_parts","operator","params","operands","rest","fresh","labels","label","titles","locals","turned","boolean","pair","symbol","title","char","string","vector","procedure","promise","box","port","number","empty","unspecified","read","meet","set","read_globals","set_globals","parent","inner","bound","called","lets","value","values","truth","whole","none","nothing","error","made","cons","list","not","eq?","pair?","car","many","call","fun","arity","body","left","end","unassigned","words","op","test","no","yes","items","trace","unbound","globals","told","failed","plain","cdr","s","local","rows","by_text","codes","caught","own","facts","times_read","is_set","times_called","is_once","world","is_so","takes","is_fit","table","last","ops","root","lambdas","text","code","things","content","is_done","%box","%unbox","%set-box!","%unassigned?","eqv?","equal?","boolean?","%cons","set-car!","set-cdr!","null?","caar","cadr","cdar","cddr","caaar","caadr","cadar","caddr","cdaar","cdadr","cddar","cdddr","caaaar","caaadr","caadar","caaddr","cadaar","cadadr","caddar","cadddr","cdaaar","cdaadr","cdadar","cdaddr","cddaar","cddadr","cdddar","cddddr","list?","length","append","%append","reverse","list-tail","list-ref","memq","memv","assq","assv","vector?","make-vector","vector-length","vector-ref","vector-set!","vector->list","list->vector","%list->vector","vector-fill!","number?","complex?","real?","rational?","integer?","exact?","inexact?","=","<",">","<=",">=","zero?","positive?","negative?","odd?","even?","max","min","+","*","-","/","abs","quotient","remainder","modulo","gcd","lcm","numerator","denominator","floor","ceiling","truncate","round","rationalize","exp","sin","cos","tan","log","asin","acos","sqrt","atan","expt","exact->inexact","inexact->exact","number->string","string->number","char?","char=?","char<?","char>?","char<=?","char>=?","char-ci=?","char-ci<?","char-ci>?","char-ci<=?","char-ci>=?","char-alphabetic?","char-numeric?","char-whitespace?","char-upper-case?","char-lower-case?","char-upcase","char-downcase","char->integer","integer->char","symbol?","symbol->string","string->symbol","string?","make-string","string-length","string-ref","string-set!","string=?","string<?","string>?","string<=?","string>=?","string-ci=?","string-ci<?","string-ci>?","string-ci<=?","string-ci>=?","substring","string-append","string->list","list->string","string-copy","string-fill!","input-port?","output-port?","current-input-port","current-output-port","%set-current-input!","%set-current-output!","open-input-file","open-output-file","open-input-string","open-output-string","get-output-string","close-input-port","close-output-port","read-char","peek-char","char-ready?","eof-object?","write","display","newline","write-char","procedure?","%make-promise","%promise?","%promise-done?","%promise-content","%settle!","%memv","again","args","at","callees","cell","cells","change","counts","datum","deck","deep","done","due","env","first","fitting","found","gone","has_rest","head","here","is_left","is_pair","item","key","known","let","letter","met","mixed","more","name","names","node","nodes","one","ones","operand","ordinary","other","others","part","place","row","scope","script","self","sort","state","thing","times","turn","waiting","way","within","word"]
noncomputable def fU:List String:=["LAMBDA","FIX","are_same_list","Lambda","Call","CALL","Renaming","all_nodes","binders_of","rebuilt","let_node","Text","kind_word","ATOMS","count_in","LOCAL","SET_LOCAL","GLOBAL","DEFINE","SET_GLOBAL","is_let","Facts","TOP","note_node","facts_of","Inlining","SMALL_SIZE","is_atom","CONST","Small","PRIM_ROWS","Beta","_law_draw","_law_seen","EMPTY","_law_made","_law_same","_law_fail","_law_prim","_law_run","UNASSIGNED","_law_want","_law_called","_law_acted","UNSPECIFIED","_law_is_well","_law_one","Local","Const","_law_value","_law_lambda","_law_operands","Global","SetLocal","SetGlobal","Seq","_law_let","_law_use","_law_deed","If","_law_leaf","op_of","Prim","Names","_law_deck","make_text","_law_outcome","betaed","inlined","spread_small","Calling","without_locals","renumbered","SMALL_TIMES","is_small","Fitting","Spreading","LIST","SymbolTable"]
end
section
open PySem PySem.W PySem.Calls PyProof.Rows PySem.SeqAt
noncomputable def strN:List Str:=pK.map bN
noncomputable def ZU(k:Nat):Str:=(strN[k]?).getD default
noncomputable abbrev Xe(cls:String)(vs:List Value)(n:Nat):Obj:={cls:=.type cls,data:=.seq vs.toArray n}
noncomputable abbrev ZN:="object"
noncomputable abbrev ZL:="scheme.core"
noncomputable abbrev Zp:="__doc__"
noncomputable abbrev Zk:="__module__"
noncomputable abbrev Zj:="__firstlineno__"
noncomputable abbrev Zi:="__static_attributes__"
noncomputable abbrev Zd:="__init__"
noncomputable abbrev YJ:="scheme.data"
noncomputable abbrev YE:="law_nt0231_01"
noncomputable abbrev Yo:="__dict__"
noncomputable abbrev Za:="__weakref__"
noncomputable abbrev Y5:="scheme.inlining"
noncomputable def pJ:List (Nat×Nat):=[(2,45),(3,66),(4,85),(5,104),(6,137),(7,170),(8,203),(9,250),(10,283),(11,316),(12,349),(13,382),(20,462),(23,497),(27,527),(28,590),(29,611),(30,632),(31,653),(32,674),(33,695),(34,716),(35,737),(36,758),(40,841),(44,890),(45,925),(47,960),(48,988),(50,1030),(53,1258),(55,1349),(24,503),(25,506),(26,509),(14,391),(15,398),(16,405),(17,412),(18,419),(19,426),(21,473),(22,480),(37,767),(38,774),(39,782),(41,852),(42,859),(43,866),(46,936),(49,999),(51,1041),(52,1241),(54,1269),(56,1358),(57,1365),(58,1372),(59,1377),(60,1384),(61,1391),(62,1398),(63,1405),(64,1412),(65,1419),(66,1424),(67,1431),(68,1436),(69,1441),(70,1446),(71,1453),(72,1458),(73,1463),(74,1468),(75,1473),(76,1478),(77,1483),(300,35),(302,63),(303,82),(304,101),(305,120),(306,127),(307,134),(308,153),(309,160),(310,167),(311,186),(312,193),(313,200),(314,219),(315,226),(316,233),(317,240),(318,247),(319,266),(320,273),(321,280),(322,299),(323,306),(324,313),(325,332),(326,339),(327,346),(328,365),(331,440),(332,447),(333,454),(334,459),(335,494),(336,524),(337,545),(344,608),(345,629),(346,650),(347,671),(348,692),(349,713),(350,734),(351,755),(352,796),(353,803),(355,817),(356,824),(358,838),(359,880),(360,887),(361,908),(362,915),(363,922),(364,950),(365,957),(366,978),(367,985),(368,1013),(369,1020),(370,1027),(371,1255),(372,1283),(373,1290)]
noncomputable def rO:List (Nat×Value):=[(200,.builtin "len"),(201,.builtin "isinstance"),(202,.builtin "abs"),(203,.builtin "ord"),(204,.type "dict"),(205,.type "list"),(206,.type "tuple"),(207,.type "int"),(208,.type "bool"),(209,.type "ValueError"),(210,.type "range"),(211,.type "zip"),(212,.type "enumerate")]
noncomputable def RC(k:Nat):Value:=match X7 k pJ with|some a=>.ref a|none=>(X7 k rO).getD .none
noncomputable def rN:AV:=.tup [(.str 15),(.str 26),(.str 17),(.str 19),(.str 27),(.str 28)]
noncomputable def wI:List (String×AV):=[("LAMBDA",.int (.ofNat 7)),("FIX",.int (.ofNat 11)),("CALL",.int (.ofNat 8)),("LOCAL",.int (.ofNat 1)),("SET_LOCAL",.int (.ofNat 3)),("GLOBAL",.int (.ofNat 2)),("DEFINE",.int (.ofNat 5)),("SET_GLOBAL",.int (.ofNat 4)),("TOP",.int (.negSucc 0)),("SMALL_SIZE",.int (.ofNat 9)),("CONST",.int (.ofNat 0)),("SMALL_TIMES",.int (.ofNat 4)),("LIST",.int (.ofNat 46)),("binders_of",.g 14),("are_same_list",.g 15),("rebuilt",.g 16),("all_nodes",.g 17),("let_node",.g 18),("is_let",.g 19),("renumbered",.g 21),("without_locals",.g 22),("make_text",.g 37),("kind_word",.g 38),("is_atom",.g 39),("count_in",.g 41),("note_node",.g 42),("facts_of",.g 43),("inlined",.g 46),("is_small",.g 49),("spread_small",.g 51),("op_of",.g 52),("betaed",.g 54),("_law_deck",.g 56),("_law_draw",.g 57),("_law_one",.g 58),("_law_seen",.g 59),("_law_fail",.g 60),("_law_same",.g 61),("_law_made",.g 62),("_law_prim",.g 63),("_law_called",.g 64),("_law_want",.g 65),("_law_run",.g 66),("_law_acted",.g 67),("_law_outcome",.g 68),("_law_is_well",.g 69),("_law_leaf",.g 70),("_law_let",.g 71),("_law_lambda",.g 72),("_law_operands",.g 73),("_law_use",.g 74),("_law_deed",.g 75),("_law_value",.g 76),("law",.g 77),("Node",.g 2),("Const",.g 3),("Local",.g 4),("Global",.g 5),("SetLocal",.g 6),("SetGlobal",.g 7),("If",.g 8),("Lambda",.g 9),("Call",.g 10),("Seq",.g 11),("Prim",.g 12),("Fix",.g 13),("Renaming",.g 20),("Special",.g 23),("Symbol",.g 27),("SymbolTable",.g 28),("Pair",.g 29),("Char",.g 30),("Text",.g 31),("Vector",.g 32),("Box",.g 33),("Promise",.g 34),("PortRef",.g 35),("Procedure",.g 36),("Facts",.g 40),("Calling",.g 44),("Inlining",.g 45),("Spreading",.g 47),("Fitting",.g 48),("Small",.g 50),("Beta",.g 53),("Names",.g 55),("EMPTY",.g 24),("UNSPECIFIED",.g 25),("UNASSIGNED",.g 26)]
noncomputable def pI:List (String×AV×Nat):=[("ATOMS",rN,775),("PRIM_ROWS",Yp,1234)]
noncomputable def RE:List Nat:=[2,3,4,5,6,7,8,9,10,11,12,13,20,23,27,28,29,30,31,32,33,34,35,36,40,44,45,47,48,50,53,55]
noncomputable def rM:List (String×Nat):=[("len",200),("isinstance",201),("abs",202),("ord",203),("dict",204),("list",205),("tuple",206),("int",207),("bool",208),("ValueError",209),("range",210),("zip",211),("enumerate",212)]
structure FR where
 k:Nat
 a:Nat
 c:Nat
 q:String
 i:Nat
 j:Option Nat
 m:String
 t:Nat
 u:Nat
noncomputable def Kx:List FR:=[⟨14,391,390,"binders_of",26,none,ZL,194,702⟩,⟨15,398,397,"are_same_list",27,none,ZL,194,709⟩,⟨16,405,404,"rebuilt",28,none,ZL,194,718⟩,⟨17,412,411,"all_nodes",29,none,ZL,194,734⟩,⟨18,419,418,"let_node",30,none,ZL,194,745⟩,⟨19,426,425,"is_let",31,none,ZL,194,755⟩,⟨21,473,472,"renumbered",33,none,ZL,194,813⟩,⟨22,480,479,"without_locals",35,none,"scheme.copying",824,827⟩,⟨37,767,766,"make_text",51,none,YJ,839,1234⟩,⟨38,774,773,"kind_word",52,none,YJ,839,1240⟩,⟨39,782,781,"is_atom",55,none,"scheme.corelike",1246,1256⟩,⟨41,852,851,"count_in",59,none,"scheme.facts",1262,1355⟩,⟨42,859,858,"note_node",60,none,"scheme.facts",1262,1363⟩,⟨43,866,865,"facts_of",61,none,"scheme.facts",1262,1373⟩,⟨46,936,935,"inlined",67,none,Y5,1386,1481⟩,⟨49,999,998,"is_small",70,none,Y5,1386,1569⟩,⟨51,1041,1040,"spread_small",72,none,Y5,1386,1633⟩,⟨52,1241,1240,"op_of",76,none,"scheme.primnames",1640,2434⟩,⟨54,1269,1268,"betaed",79,none,"scheme.beta",2442,2476⟩,⟨56,1358,1357,"_law_deck",83,none,YE,2589,2592⟩,⟨57,1365,1364,"_law_draw",84,none,YE,2589,2598⟩,⟨58,1372,1371,"_law_one",85,none,YE,2589,2608⟩,⟨59,1377,1376,"_law_seen",86,none,YE,2589,2616⟩,⟨60,1384,1383,"_law_fail",87,none,YE,2589,2622⟩,⟨61,1391,1390,"_law_same",88,none,YE,2589,2631⟩,⟨62,1398,1397,"_law_made",89,none,YE,2589,2639⟩,⟨63,1405,1404,"_law_prim",90,none,YE,2589,2648⟩,⟨64,1412,1411,"_law_called",91,none,YE,2589,2660⟩,⟨65,1419,1418,"_law_want",92,none,YE,2589,2673⟩,⟨66,1424,1423,"_law_run",93,none,YE,2589,2683⟩,⟨67,1431,1430,"_law_acted",94,none,YE,2589,2689⟩,⟨68,1436,1435,"_law_outcome",95,none,YE,2589,2702⟩,⟨69,1441,1440,"_law_is_well",96,none,YE,2589,2708⟩,⟨70,1446,1445,"_law_leaf",97,none,YE,2589,2714⟩,⟨71,1453,1452,"_law_let",98,none,YE,2589,2720⟩,⟨72,1458,1457,"_law_lambda",99,none,YE,2589,2737⟩,⟨73,1463,1462,"_law_operands",100,none,YE,2589,2743⟩,⟨74,1468,1467,"_law_use",101,none,YE,2589,2749⟩,⟨75,1473,1472,"_law_deed",102,none,YE,2589,2755⟩,⟨76,1478,1477,"_law_value",103,none,YE,2589,2761⟩,⟨77,1483,1482,"law",104,none,YE,2589,2767⟩,⟨300,35,34,"Node.parts",14,some 1,ZL,194,236⟩,⟨302,63,62,"Const.__init__",15,some 1,ZL,194,272⟩,⟨303,82,81,"Local.__init__",16,some 1,ZL,194,298⟩,⟨304,101,100,"Global.__init__",17,some 1,ZL,194,324⟩,⟨305,120,119,"SetLocal.__init__",18,some 1,ZL,194,350⟩,⟨306,127,126,"SetLocal.parts",18,some 2,ZL,194,359⟩,⟨307,134,133,"SetLocal.with_parts",18,some 3,ZL,194,366⟩,⟨308,153,152,"SetGlobal.__init__",19,some 1,ZL,194,393⟩,⟨309,160,159,"SetGlobal.parts",19,some 2,ZL,194,402⟩,⟨310,167,166,"SetGlobal.with_parts",19,some 3,ZL,194,409⟩,⟨311,186,185,"If.__init__",20,some 1,ZL,194,436⟩,⟨312,193,192,"If.parts",20,some 2,ZL,194,446⟩,⟨313,200,199,"If.with_parts",20,some 3,ZL,194,453⟩,⟨314,219,218,"Lambda.__init__",21,some 1,ZL,194,481⟩,⟨315,226,225,"Lambda.parts",21,some 2,ZL,194,492⟩,⟨316,233,232,"Lambda.with_parts",21,some 3,ZL,194,499⟩,⟨317,240,239,"Lambda.binders",21,some 4,ZL,194,507⟩,⟨318,247,246,"Lambda.takes",21,some 5,ZL,194,514⟩,⟨319,266,265,"Call.__init__",22,some 1,ZL,194,543⟩,⟨320,273,272,"Call.parts",22,some 2,ZL,194,552⟩,⟨321,280,279,"Call.with_parts",22,some 3,ZL,194,559⟩,⟨322,299,298,"Seq.__init__",23,some 1,ZL,194,586⟩,⟨323,306,305,"Seq.parts",23,some 2,ZL,194,594⟩,⟨324,313,312,"Seq.with_parts",23,some 3,ZL,194,601⟩,⟨325,332,331,"Prim.__init__",24,some 1,ZL,194,627⟩,⟨326,339,338,"Prim.parts",24,some 2,ZL,194,636⟩,⟨327,346,345,"Prim.with_parts",24,some 3,ZL,194,643⟩,⟨328,365,364,"Fix.__init__",25,some 1,ZL,194,670⟩,⟨331,440,439,"Renaming.__init__",32,some 0,ZL,194,774⟩,⟨332,447,446,"Renaming.local",32,some 1,ZL,194,781⟩,⟨333,454,453,"Renaming.label",32,some 2,ZL,194,789⟩,⟨334,459,458,"Renaming.turned",32,some 3,ZL,194,797⟩,⟨335,494,493,"Special.__init__",37,some 0,YJ,839,854⟩,⟨336,524,523,"Symbol.__init__",41,some 0,YJ,839,901⟩,⟨337,545,544,"SymbolTable.__init__",42,some 0,YJ,839,932⟩,⟨344,608,607,"Pair.__init__",43,some 0,YJ,839,1010⟩,⟨345,629,628,"Char.__init__",44,some 0,YJ,839,1041⟩,⟨346,650,649,"Text.__init__",45,some 0,YJ,839,1070⟩,⟨347,671,670,"Vector.__init__",46,some 0,YJ,839,1099⟩,⟨348,692,691,"Box.__init__",47,some 0,YJ,839,1128⟩,⟨349,713,712,"Promise.__init__",48,some 0,YJ,839,1157⟩,⟨350,734,733,"PortRef.__init__",49,some 0,YJ,839,1188⟩,⟨351,755,754,"Procedure.__init__",50,some 0,YJ,839,1217⟩,⟨352,796,795,"Facts.__init__",58,some 0,"scheme.facts",1262,1280⟩,⟨353,803,802,"Facts.is_set",58,some 1,"scheme.facts",1262,1287⟩,⟨355,817,816,"Facts.times_read",58,some 3,"scheme.facts",1262,1303⟩,⟨356,824,823,"Facts.times_called",58,some 4,"scheme.facts",1262,1311⟩,⟨358,838,837,"Facts.meet",58,some 6,"scheme.facts",1262,1327⟩,⟨359,880,879,"Calling.__init__",65,some 0,Y5,1386,1405⟩,⟨360,887,886,"Calling.turned",65,some 1,Y5,1386,1414⟩,⟨361,908,907,"Inlining.__init__",66,some 0,Y5,1386,1444⟩,⟨362,915,914,"Inlining.is_once",66,some 1,Y5,1386,1452⟩,⟨363,922,921,"Inlining.turned",66,some 2,Y5,1386,1460⟩,⟨364,950,949,"Spreading.__init__",68,some 0,Y5,1386,1500⟩,⟨365,957,956,"Spreading.turned",68,some 1,Y5,1386,1510⟩,⟨366,978,977,"Fitting.__init__",69,some 0,Y5,1386,1541⟩,⟨367,985,984,"Fitting.turned",69,some 1,Y5,1386,1550⟩,⟨368,1013,1012,"Small.__init__",71,some 0,Y5,1386,1590⟩,⟨369,1020,1019,"Small.is_fit",71,some 1,Y5,1386,1599⟩,⟨370,1027,1026,"Small.turned",71,some 2,Y5,1386,1611⟩,⟨371,1255,1254,"Beta.turned",78,some 0,"scheme.beta",2442,2457⟩,⟨372,1283,1282,"Names.__init__",81,some 0,"scheme.names",2482,2497⟩,⟨373,1290,1289,"Names.fresh",81,some 1,"scheme.names",2482,2504⟩]
structure CR where
 a:Nat
 n:String
 b:List Value
 o:List Value
 d:Nat
 s:List Value
 x:Option Value
 t:Nat
 u:Nat
 y:List (Option Value)
noncomputable def lJ:List CR:=[⟨45,"Node",[.type ZN],[.ref 45,.type ZN],44,[.ref 66,.ref 85,.ref 104,.ref 137,.ref 170,.ref 203,.ref 250,.ref 283,.ref 316,.ref 349,.ref 382],none,220,228,[some (.bool true)]⟩,⟨66,"Const",[.ref 45],[.ref 66,.ref 45,.type ZN],65,[],some (.ref 50),258,266,[some (.bool true)]⟩,⟨85,"Local",[.ref 45],[.ref 85,.ref 45,.type ZN],84,[],some (.ref 69),284,292,[some (.bool true)]⟩,⟨104,"Global",[.ref 45],[.ref 104,.ref 45,.type ZN],103,[],some (.ref 88),310,318,[some (.bool true)]⟩,⟨137,"SetLocal",[.ref 45],[.ref 137,.ref 45,.type ZN],136,[],some (.ref 107),336,344,[some (.bool true)]⟩,⟨170,"SetGlobal",[.ref 45],[.ref 170,.ref 45,.type ZN],169,[],some (.ref 140),379,387,[some (.bool true)]⟩,⟨203,"If",[.ref 45],[.ref 203,.ref 45,.type ZN],202,[],some (.ref 173),422,430,[some (.bool true)]⟩,⟨250,"Lambda",[.ref 45],[.ref 250,.ref 45,.type ZN],249,[],some (.ref 206),467,475,[some (.bool true)]⟩,⟨283,"Call",[.ref 45],[.ref 283,.ref 45,.type ZN],282,[],some (.ref 253),529,537,[some (.bool true)]⟩,⟨316,"Seq",[.ref 45],[.ref 316,.ref 45,.type ZN],315,[],some (.ref 286),572,580,[some (.bool true)]⟩,⟨349,"Prim",[.ref 45],[.ref 349,.ref 45,.type ZN],348,[],some (.ref 319),613,621,[some (.bool true)]⟩,⟨382,"Fix",[.ref 45],[.ref 382,.ref 45,.type ZN],381,[],some (.ref 352),656,664,[some (.bool true)]⟩,⟨462,"Renaming",[.type ZN],[.ref 462,.type ZN],461,[],none,761,769,[some (.bool true)]⟩,⟨497,"Special",[.type ZN],[.ref 497,.type ZN],496,[],none,841,849,[some (.bool true)]⟩,⟨527,"Symbol",[.type ZN],[.ref 527,.type ZN],526,[],none,888,896,[some (.bool true)]⟩,⟨590,"SymbolTable",[.type ZN],[.ref 590,.type ZN],589,[],none,919,927,[some (.bool true)]⟩,⟨611,"Pair",[.type ZN],[.ref 611,.type ZN],610,[],none,997,1005,[some (.bool true)]⟩,⟨632,"Char",[.type ZN],[.ref 632,.type ZN],631,[],none,1028,1036,[some (.bool true)]⟩,⟨653,"Text",[.type ZN],[.ref 653,.type ZN],652,[],none,1057,1065,[some (.bool true)]⟩,⟨674,"Vector",[.type ZN],[.ref 674,.type ZN],673,[],none,1086,1094,[some (.bool true)]⟩,⟨695,"Box",[.type ZN],[.ref 695,.type ZN],694,[],none,1115,1123,[some (.bool true)]⟩,⟨716,"Promise",[.type ZN],[.ref 716,.type ZN],715,[],none,1144,1152,[some (.bool true)]⟩,⟨737,"PortRef",[.type ZN],[.ref 737,.type ZN],736,[],none,1175,1183,[some (.bool true)]⟩,⟨758,"Procedure",[.type ZN],[.ref 758,.type ZN],757,[],none,1204,1212,[some (.bool true)]⟩,⟨841,"Facts",[.type ZN],[.ref 841,.type ZN],840,[],none,1267,1275,[some (.bool true)]⟩,⟨890,"Calling",[.type ZN],[.ref 890,.type ZN],889,[],none,1392,1400,[some (.bool true)]⟩,⟨925,"Inlining",[.type ZN],[.ref 925,.type ZN],924,[],none,1431,1439,[some (.bool true)]⟩,⟨960,"Spreading",[.type ZN],[.ref 960,.type ZN],959,[],none,1487,1495,[some (.bool true)]⟩,⟨988,"Fitting",[.type ZN],[.ref 988,.type ZN],987,[],none,1528,1536,[some (.bool true)]⟩,⟨1030,"Small",[.type ZN],[.ref 1030,.type ZN],1029,[],none,1577,1585,[some (.bool true)]⟩,⟨1258,"Beta",[.type ZN],[.ref 1258,.type ZN],1257,[],none,2444,2452,[some (.bool true)]⟩,⟨1349,"Names",[.type ZN],[.ref 1349,.type ZN],1348,[],none,2484,2492,[some (.bool true)]⟩]
noncomputable def pH:List (Nat×List (String×Nat×Value)×Nat):=[(3,[("__name__",165,.str YE 2589),(Zp,166,.none),("__package__",167,.none),("__loader__",168,.builtin "__main__.__loader__#opaque"),("__spec__",169,.none),("__annotations__",170,.ref 6),("__builtins__",171,.ref 4),("__file__",173,.str "/claim/cut.py" 172),("__cached__",174,.none),("_wall",193,.ref 21),("CONST",197,.int (0) 196),("LOCAL",199,.int (1) 198),("GLOBAL",201,.int (2) 200),("SET_LOCAL",203,.int (3) 202),("SET_GLOBAL",205,.int (4) 204),("DEFINE",207,.int (5) 206),("IF",209,.int (6) 208),("LAMBDA",211,.int (7) 210),("CALL",213,.int (8) 212),("SEQ",215,.int (9) 214),("PRIM",217,.int (10) 216),("FIX",219,.int (11) 218),("Node",257,.ref 45),("Const",283,.ref 66),("Local",309,.ref 85),("Global",335,.ref 104),("SetLocal",378,.ref 137),("SetGlobal",421,.ref 170),("If",466,.ref 203),("Lambda",528,.ref 250),("Call",571,.ref 283),("Seq",612,.ref 316),("Prim",655,.ref 349),("Fix",700,.ref 382),("binders_of",707,.ref 391),("are_same_list",716,.ref 398),("rebuilt",732,.ref 405),("all_nodes",743,.ref 412),("let_node",753,.ref 419),("is_let",760,.ref 426),("Renaming",811,.ref 462),("renumbered",823,.ref 473),("without_locals",838,.ref 480),("Special",869,.ref 497),("EMPTY",875,.ref 503),("UNSPECIFIED",881,.ref 506),("UNASSIGNED",887,.ref 509),("Symbol",918,.ref 527),("SymbolTable",996,.ref 590),("Pair",1027,.ref 611),("Char",1056,.ref 632),("Text",1085,.ref 653),("Vector",1114,.ref 674),("Box",1143,.ref 695),("Promise",1174,.ref 716),("PortRef",1203,.ref 737),("Procedure",1232,.ref 758),("make_text",1238,.ref 767),("kind_word",1245,.ref 774),("ATOMS",1254,.ref 775),("is_atom",1261,.ref 782),("TOP",1266,.int (-1) 1265),("Facts",1353,.ref 841),("count_in",1361,.ref 852),("note_node",1371,.ref 859),("facts_of",1385,.ref 866),("SMALL_SIZE",1389,.int (9) 1388),("SMALL_TIMES",1391,.int (4) 1390),("Calling",1430,.ref 890),("Inlining",1479,.ref 925),("inlined",1486,.ref 936),("Spreading",1527,.ref 960),("Fitting",1567,.ref 988),("is_small",1576,.ref 999),("Small",1631,.ref 1030),("spread_small",1639,.ref 1041),("LIST",1643,.int (46) 1642),("PRIM_ROWS",2432,.ref 1234),("op_of",2441,.ref 1241),("Beta",2474,.ref 1258),("betaed",2481,.ref 1269),("Names",2588,.ref 1349),("_law_deck",2596,.ref 1358),("_law_draw",2606,.ref 1365),("_law_one",2614,.ref 1372),("_law_seen",2620,.ref 1377),("_law_fail",2629,.ref 1384),("_law_same",2637,.ref 1391),("_law_made",2646,.ref 1398),("_law_prim",2658,.ref 1405),("_law_called",2671,.ref 1412),("_law_want",2681,.ref 1419),("_law_run",2687,.ref 1424),("_law_acted",2700,.ref 1431),("_law_outcome",2706,.ref 1436),("_law_is_well",2712,.ref 1441),("_law_leaf",2718,.ref 1446),("_law_let",2735,.ref 1453),("_law_lambda",2741,.ref 1458),("_law_operands",2747,.ref 1463),("_law_use",2753,.ref 1468),("_law_deed",2759,.ref 1473),("_law_value",2765,.ref 1478),("law",2771,.ref 1483)],104),(1,[("builtins",162,.ref 4),("__main__",163,.ref 5)],2),(44,[(Zk,227,.str ZL 194),(Zj,231,.int (17) 230),("kind",234,.int (-1) 233),("parts",241,.ref 35),("with_parts",249,.ref 42),(Zi,250,.ref 43),(Yo,252,.ref 46),(Za,254,.ref 47),(Zp,255,.none)],4),(65,[(Zk,265,.str ZL 194),(Zj,269,.int (25) 268),("kind",270,.int (0) 196),(Zd,278,.ref 63),(Zi,280,.ref 64),(Zp,281,.none)],2),(84,[(Zk,291,.str ZL 194),(Zj,295,.int (30) 294),("kind",296,.int (1) 198),(Zd,304,.ref 82),(Zi,306,.ref 83),(Zp,307,.none)],2),(103,[(Zk,317,.str ZL 194),(Zj,321,.int (35) 320),("kind",322,.int (2) 200),(Zd,330,.ref 101),(Zi,332,.ref 102),(Zp,333,.none)],2),(136,[(Zk,343,.str ZL 194),(Zj,347,.int (40) 346),("kind",348,.int (3) 202),(Zd,357,.ref 120),("parts",364,.ref 127),("with_parts",372,.ref 134),(Zi,375,.ref 135),(Zp,376,.none)],2),(169,[(Zk,386,.str ZL 194),(Zj,390,.int (52) 389),("kind",391,.int (4) 204),(Zd,400,.ref 153),("parts",407,.ref 160),("with_parts",415,.ref 167),(Zi,418,.ref 168),(Zp,419,.none)],2),(202,[(Zk,429,.str ZL 194),(Zj,433,.int (64) 432),("kind",434,.int (6) 208),(Zd,444,.ref 186),("parts",451,.ref 193),("with_parts",459,.ref 200),(Zi,463,.ref 201),(Zp,464,.none)],2),(249,[(Zk,474,.str ZL 194),(Zj,478,.int (77) 477),("kind",479,.int (7) 210),(Zd,490,.ref 219),("parts",497,.ref 226),("with_parts",505,.ref 233),("binders",512,.ref 240),("takes",520,.ref 247),(Zi,525,.ref 248),(Zp,526,.none)],2),(282,[(Zk,536,.str ZL 194),(Zj,540,.int (97) 539),("kind",541,.int (8) 212),(Zd,550,.ref 266),("parts",557,.ref 273),("with_parts",565,.ref 280),(Zi,568,.ref 281),(Zp,569,.none)],2),(315,[(Zk,579,.str ZL 194),(Zj,583,.int (109) 582),("kind",584,.int (9) 214),(Zd,592,.ref 299),("parts",599,.ref 306),("with_parts",607,.ref 313),(Zi,609,.ref 314),(Zp,610,.none)],2),(348,[(Zk,620,.str ZL 194),(Zj,624,.int (120) 623),("kind",625,.int (10) 216),(Zd,634,.ref 332),("parts",641,.ref 339),("with_parts",649,.ref 346),(Zi,652,.ref 347),(Zp,653,.none)],2),(381,[(Zk,663,.str ZL 194),(Zj,667,.int (132) 666),("kind",668,.int (11) 218),(Zd,678,.ref 365),("parts",685,.ref 372),("with_parts",693,.ref 379),(Zi,697,.ref 380),(Zp,698,.none)],2),(461,[(Zk,768,.str ZL 194),(Zj,772,.int (189) 771),(Zd,779,.ref 440),("local",787,.ref 447),("label",795,.ref 454),("turned",801,.ref 459),(Zi,804,.ref 460),(Yo,806,.ref 463),(Za,808,.ref 464),(Zp,809,.none)],4),(496,[(Zk,848,.str YJ 839),(Zj,852,.int (234) 851),(Zd,860,.ref 494),(Zi,862,.ref 495),(Yo,864,.ref 498),(Za,866,.ref 499),(Zp,867,.none)],4),(526,[(Zk,895,.str YJ 839),(Zj,899,.int (241) 898),(Zd,908,.ref 524),(Zi,911,.ref 525),(Yo,913,.ref 528),(Za,915,.ref 529),(Zp,916,.none)],4),(589,[(Zk,926,.str YJ 839),(Zj,930,.int (246) 929),(Zd,937,.ref 545),("symbol",946,.ref 552),("fresh",955,.ref 559),("by_number",963,.ref 566),("find",971,.ref 573),("is_interned",979,.ref 580),("size",986,.ref 587),(Zi,989,.ref 588),(Yo,991,.ref 591),(Za,993,.ref 592),(Zp,994,.none)],4),(610,[(Zk,1004,.str YJ 839),(Zj,1008,.int (276) 1007),(Zd,1017,.ref 608),(Zi,1020,.ref 609),(Yo,1022,.ref 612),(Za,1024,.ref 613),(Zp,1025,.none)],4),(631,[(Zk,1035,.str YJ 839),(Zj,1039,.int (281) 1038),(Zd,1047,.ref 629),(Zi,1049,.ref 630),(Yo,1051,.ref 633),(Za,1053,.ref 634),(Zp,1054,.none)],4),(652,[(Zk,1064,.str YJ 839),(Zj,1068,.int (285) 1067),(Zd,1076,.ref 650),(Zi,1078,.ref 651),(Yo,1080,.ref 654),(Za,1082,.ref 655),(Zp,1083,.none)],4),(673,[(Zk,1093,.str YJ 839),(Zj,1097,.int (289) 1096),(Zd,1105,.ref 671),(Zi,1107,.ref 672),(Yo,1109,.ref 675),(Za,1111,.ref 676),(Zp,1112,.none)],4),(694,[(Zk,1122,.str YJ 839),(Zj,1126,.int (293) 1125),(Zd,1134,.ref 692),(Zi,1136,.ref 693),(Yo,1138,.ref 696),(Za,1140,.ref 697),(Zp,1141,.none)],4),(715,[(Zk,1151,.str YJ 839),(Zj,1155,.int (297) 1154),(Zd,1164,.ref 713),(Zi,1167,.ref 714),(Yo,1169,.ref 717),(Za,1171,.ref 718),(Zp,1172,.none)],4),(736,[(Zk,1182,.str YJ 839),(Zj,1186,.int (302) 1185),(Zd,1194,.ref 734),(Zi,1196,.ref 735),(Yo,1198,.ref 738),(Za,1200,.ref 739),(Zp,1201,.none)],4),(757,[(Zk,1211,.str YJ 839),(Zj,1215,.int (306) 1214),(Zd,1223,.ref 755),(Zi,1225,.ref 756),(Yo,1227,.ref 759),(Za,1229,.ref 760),(Zp,1230,.none)],4),(840,[(Zk,1274,.str "scheme.facts" 1262),(Zj,1278,.int (340) 1277),(Zd,1285,.ref 796),("is_set",1293,.ref 803),("is_set_global",1301,.ref 810),("times_read",1309,.ref 817),("times_called",1317,.ref 824),("free",1325,.ref 831),("meet",1335,.ref 838),(Zi,1346,.ref 839),(Yo,1348,.ref 842),(Za,1350,.ref 843),(Zp,1351,.none)],4),(889,[(Zk,1399,.str Y5 1386),(Zj,1403,.int (416) 1402),(Zd,1412,.ref 880),("turned",1420,.ref 887),(Zi,1423,.ref 888),(Yo,1425,.ref 891),(Za,1427,.ref 892),(Zp,1428,.none)],4),(924,[(Zk,1438,.str Y5 1386),(Zj,1442,.int (426) 1441),(Zd,1450,.ref 908),("is_once",1458,.ref 915),("turned",1470,.ref 922),(Zi,1472,.ref 923),(Yo,1474,.ref 926),(Za,1476,.ref 927),(Zp,1477,.none)],4),(959,[(Zk,1494,.str Y5 1386),(Zj,1498,.int (448) 1497),(Zd,1508,.ref 950),("turned",1516,.ref 957),(Zi,1520,.ref 958),(Yo,1522,.ref 961),(Za,1524,.ref 962),(Zp,1525,.none)],4),(987,[(Zk,1535,.str Y5 1386),(Zj,1539,.int (459) 1538),(Zd,1548,.ref 978),("turned",1556,.ref 985),(Zi,1560,.ref 986),(Yo,1562,.ref 989),(Za,1564,.ref 990),(Zp,1565,.none)],4),(1029,[(Zk,1584,.str Y5 1386),(Zj,1588,.int (478) 1587),(Zd,1597,.ref 1013),("is_fit",1609,.ref 1020),("turned",1621,.ref 1027),(Zi,1624,.ref 1028),(Yo,1626,.ref 1031),(Za,1628,.ref 1032),(Zp,1629,.none)],4),(1257,[(Zk,2451,.str "scheme.beta" 2442),(Zj,2455,.int (515) 2454),("turned",2466,.ref 1255),(Zi,2467,.ref 1256),(Yo,2469,.ref 1259),(Za,2471,.ref 1260),(Zp,2472,.none)],4),(1348,[(Zk,2491,.str "scheme.names" 2482),(Zj,2495,.int (531) 2494),(Zd,2502,.ref 1283),("fresh",2509,.ref 1290),("symbol",2517,.ref 1297),("number_of_name",2525,.ref 1304),("text_of_symbol",2533,.ref 1311),("set_title",2542,.ref 1318),("title_of",2550,.ref 1325),("give_ops",2558,.ref 1332),("op_at",2566,.ref 1339),("fold",2575,.ref 1346),(Zi,2581,.ref 1347),(Yo,2583,.ref 1350),(Za,2585,.ref 1351),(Zp,2586,.none)],4),(502,[("title",874,.str "empty" 870)],1),(505,[("title",880,.str "unspecified" 876)],1),(508,[("title",886,.str "unassigned" 882)],1)]
noncomputable def rL:List (Nat×Nat):=[(503,502),(506,505),(509,508)]
noncomputable def i7:Nat:=497
noncomputable def lI:Nat:=1234
noncomputable def lH:Nat:=1042
noncomputable def i6:Nat:=1644
noncomputable def atT:Nat:=1248
noncomputable def xJ:Nat×Nat×Nat:=(652,1057,1065)
noncomputable def lG:Nat:=775
noncomputable def N6{α:Type}(d:α):List α->Nat->α
 |[],_=>d
 |x::r,n=>bif cZ n 0 then x else N6 d r (n-1)
abbrev lF:=Arguments×List Zz3×aa
noncomputable def lE(st:Zz3):lF:=match st with
 |.FunctionDef _ a b _ _ _ s _ _ _=>(a,b,s)
 |_=>default
noncomputable def lD(st:Zz3):List Zz3:=match st with
 |.ClassDef _ _ _ b _ _ _ _ _ _ _=>b
 |_=>[]
noncomputable def eW(i:Nat)(j:Option Nat):lF:=match j with
 |none=>lE (N6 (.Pass default) pw.main.body i)
 |some j=>lE (N6 (.Pass default) (lD (N6 (.Pass default) pw.main.body i)) j)
noncomputable def pG(f:AV->AV->Bool):List AV->List AV->Bool
 |[],[]=>true
 |x::xs,y::ys=>f x y&&pG f xs ys
 |_,_=>false
noncomputable def pF:Nat->AV->AV->Bool
 |0,_,_=>false
 |n+1,x,y=>match x with
  |.g k=>(match y with|.g j=>cZ k j|_=>false)
  |.int i=>(match y with|.int j=>i==j|_=>false)
  |.str k=>(match y with|.str j=>cZ k j|_=>false)
  |.tup xs=>(match y with|.tup ys=>pG (pF n) xs ys|_=>false)
  |_=>false
noncomputable def pD:List (Str×AV):=(wI.map λx=>(bN x.1,x.2))++((pI.map λx=>(bN x.1,x.2.1))++rM.map λx=>(bN x.1,.g x.2))
noncomputable def gG(n:Str)(v:AV):Bool:=pD.any λx=>x.1==n&&pF 3 x.2 v
noncomputable def wF(P:Zq0)(es:List (String×Nat×Value))(n:Nat):Obj:=⟨.type "dict",none,.dict (es.map λx=>⟨Zu5 P (bN x.1),.str (bN x.1) x.2.1,x.2.2⟩).toArray n,#[]⟩
noncomputable def iZ(r:CR):Obj:=
 ⟨.type "type",none,.cls {name:=bN r.n,bases:=r.b,mro:=r.o,ns:=r.d,qualname:=bN r.n,subclasses:=r.s},(r.x::none::some (.str (bN r.n) r.t)::some (.str (bN r.n) r.u)::some (.builtin "object.__new__")::r.y).toArray⟩
noncomputable def lC(st:Zz3):Str:=match st with
 |.FunctionDef n _ _ _ _ _ _ _ _ _=>n
 |_=>default
noncomputable def pC(i:Nat)(j:Option Nat):Str:=match j with
 |none=>lC (N6 (.Pass default) pw.main.body i)
 |some j=>lC (N6 (.Pass default) (lD (N6 (.Pass default) pw.main.body i)) j)
noncomputable def lB(r:FR):FuncData:={docDef (pC r.i r.j) (eW r.i r.j).1 (eW r.i r.j).2.1 (eW r.i r.j).2.2 (.str (bN r.m) r.t) (.ref r.c) .none with qualname:=bN r.q}
noncomputable def lA(r:FR):Obj:=⟨.type "function",none,.func (lB r),#[]⟩
noncomputable def K0(P:Zq0):Frag:=(lJ.map λr=>(r.a,iZ r))++(pH.map λr=>(r.1,wF P r.2.1 r.2.2))++(rL.map λr=>(r.1,ak i7 r.2))++Kx.map λr=>(r.a,lA r)
noncomputable def lq:List Nat:=lJ.map (·.a)++pH.map (·.1)++rL.map (·.1)++Kx.map (·.a)
theorem B0(P:Zq0):lq=(K0 P).map (·.1):=by kernel_rfl
noncomputable def wD(x:AV)(t:Nat):Value×Nat:=match x with
 |.str k=>(.str (ZU k) t,t+1)
 |.int i=>(match i with|.ofNat _=>(.int i t,t+1)|.negSucc _=>(.int i (t+1),t+2))
 |_=>(.none,t)
noncomputable def Kw:List AV->Nat->List Value×Nat
 |[],t=>([],t)
 |x::r,t=>let v:=wD x t;let w:=Kw r v.2;(v.1::w.1,w.2)
noncomputable def Pq(x:AV):List AV:=match x with|.tup xs=>xs|_=>[]
noncomputable def BZ:List AV->Nat->Nat->Frag
 |[],_,_=>[]
 |x::r,a,t=>let w:=Kw (Pq x) t;(a,Xe "tuple" w.1 0)::BZ r (a+1) w.2
noncomputable def BY:List AV->Nat->List Value
 |[],_=>[]
 |_::r,a=>.ref a::BY r (a+1)
noncomputable def R0:Frag:=(lI,Xe "tuple" (BY (Pq Yp) lH) 0)::(lG,Xe "tuple" (Kw (Pq rN) atT).1 0)::BZ (Pq Yp) lH i6
noncomputable def iY:List Nat:=R0.map (·.1)
noncomputable def BX(get:aV->Option Obj)(c:aV):Option Value:=match get c with
 |some ⟨_,_,.fields vs,_⟩=>vs[1]?
 |_=>none
noncomputable def BW(s:bI)(a:aV):Option Obj:=Zz4 (motive:=λY=>Option Obj) none (alive ((GL s.tree a).getD default)) (bk a s.n)
theorem GG(s:bI):s.abs.heap.get?=BW s:=by
 funext a
 show(absHeap s.tree s.n s.life).get? a=_
 unfold BW Heap.get?
 rw[absHeap_at,M8]
 induction q:bk a s.n using jB with
 |true=>
  rw[if_pos (Zw4.mp q)]
  obtain⟨c,d,dt,sl⟩:=(s.tree.get a).getD default
  cases dt<;>rfl
 |false=>rw[if_neg λz=>by rw[Zw4.mpr z]at q;exact Wf q]
noncomputable def rK(get:aV->Option Obj):List (Option Obj)×List (Option Obj)×List (Option Value):=(lq.map get,iY.map get,Kx.map λr=>BX get r.c)
noncomputable def dm(P:Zq0):List (Option Obj)×List (Option Obj)×List (Option Value):=((K0 P).map λp=>some p.2,R0.map λp=>some p.2,Kx.map λr=>some (.str (bN r.q) r.u))
structure YP(w:Zt2)(h:Zz0):Prop where
 k:(K0 w.params).In h
 r:∀p∈R0,h.get? p.1=some p.2
 cd:∀r∈Kx,h.CodeRec (.ref r.c) (bN r.q)
theorem Z1{α β:Type}{f g:α->β}:∀{l:List α},l.map f=l.map g->∀x∈l,f x=g x:=λh x m=>List.map_inj_left.mp h x m
theorem wC{h:Zz0}{a:aV}{q:Str}{t:Nat}(e:BX h.get? a=some (.str q t)):h.CodeRec (.ref a) q:=by
 unfold BX at e
 induction k:h.get? a using jO with
 |none=>rw[k]at e;exact ZE e
 |some o=>
 rw[k]at e
 refine hG ?_;intro PP
 rcases o with⟨c,d,dt,sl⟩
 cases dt with
 |fields vs=>exact⟨_,_,vs,t,rfl,k,rfl,e⟩
 |_=>exact ZE e
theorem wB(w:Zt2)(s:cK)(e:rK s.heap.get?=dm w.params):YP w s.heap:=by
 obtain⟨e1,e⟩:=Zt8 e
 obtain⟨e2,e3⟩:=Zt8 e
 exact⟨Frag.in_of (B0 _) e1,λp m=>Z1 (f:=λp:Nat×Obj=>s.heap.get? p.1) (g:=λp=>some p.2) (Zo2.symm.trans e2) p m,λr m=>wC (Z1 e3 r m)⟩
theorem YP.keeps(w:Zt2)(h h':Zz0)(dc:YP w h)(k:∀b o,h.get? b=some o->h'.get? b=some o):YP w h':=
 ⟨dc.k.keeps k,λp m=>k _ _ (dc.r p m),λr m=>(dc.cd r m).keeps k⟩
noncomputable abbrev N5:=Fast.tw10156331382660048174 (Fast.tw11892475500146522536 Fast.tw14364793385576792824)
theorem iX:stepT (denote Zu6)=N5:=by
 rw[Fast.te10156331382660048174,Fast.te11892475500146522536,Fast.te14364793385576792824]
noncomputable def qV:Zw8:=view pw [104]
noncomputable def QL:List Str:=pw.boundNames.filter λn=>n !=("law":Str)
noncomputable def wz(w:Zt2)(s:cK):Bool:=staticsOk [] (Zr1 w.params) s.heap&&namesBound pw s.heap&&gensDone s&&laidKept (Zr1 w.params) s.heap
theorem l1:pw.main.body.length=105:=by kernel_rfl
theorem l2:Zp4 pw.main.body=[]:=by kernel_rfl
theorem l4:(defOf qV ("law":Str)).isSome=true:=by kernel_rfl
theorem l5:chainsOk qV=true:=by kernel_rfl
theorem l6:opening pw=plainProg pw.main.scope.names:=by kernel_rfl
noncomputable def M4(p:Zw8)(w:Zt2)(K:bI->bh->Option (bI×bh))(s:bI)(t:bh):Option (bI×bh):=
 Zx4 (motive:=λY=>Option (bI×bh)) none (λr=>K r.1 r.2) (N5 p w s t)
noncomputable def Kv(p:Zw8)(w:Zt2)(ok:bh->Bool)(K:bI->bh->Option (bI×bh))(s:bI)(t:bh):Option (bI×bh):=match Zj5 t with
 |true=>some (s,t)
 |false=>match ok t with
  |false=>none
  |true=>match N5 p w s t with
   |some (s',t')=>K s' t'
   |none=>none
noncomputable def ldG(T:BT)(n a:Nat)(K:Obj->Option (bI×bh)):Option (bI×bh):=
 Zz4 (motive:=λY=>Option (bI×bh)) none (Zx4 (motive:=λY=>Option (bI×bh)) none (λo=>Zx4 (motive:=λY=>Option (bI×bh)) none K (alive o)) (GL T a)) (bk a n)
theorem Dd{T:BT}{n a:Nat}{F:Obj->bI×bh}{K:bI->bh->Option (bI×bh)}:ldG T n a (λo=>K (F o).1 (F o).2)=Zx4 (motive:=λY=>Option (bI×bh)) none (λr=>K r.1 r.2) (match bk a n with
 |true=>match T.get a with
  |some o=>match alive o with
   |some o'=>some (F o')
   |none=>none
  |none=>none
 |false=>none):=by
 unfold ldG
 rw[M8]
 generalize bk a n=x
 generalize T.get a=y
 cases x
 ·rfl
 ·cases y with
  |none=>rfl
  |some o=>
   show Zx4 (motive:=λY=>Option (bI×bh)) none _ (alive o)=Zx4 (motive:=λY=>Option (bI×bh)) none _ (match alive o with|some o'=>some (F o')|none=>none)
   generalize alive o=z
   cases z<;>rfl
noncomputable def lg(p:Zw8)(w:Zt2)(ok:bh->Bool)(K:bI->bh->Option (bI×bh))(s:bI)(t:bh):Option (bI×bh):=
 SharedT.rec (motive:=λY=>Option (bI×bh)) (λT n life gens drawn toks os=>Thread.rec (motive:=λY=>Option (bI×bh)) (λcur c q st=>Sem.casesOn (motive:=λY=>Option (bI×bh)) cur
  (λf=>PySem.Fin.rec (motive:=λY=>Option (bI×bh)) (λf=>List.casesOn (motive:=λY=>Option (bI×bh)) st (some (⟨T,n,life,gens,drawn,toks,os⟩,⟨.pure (.done f),c,q,st⟩)) λa r=>M4 p w K ⟨T,n,life,gens,drawn,toks,os⟩ ⟨.pure (.done f),c,q,a::r⟩) (λb=>Kv p w ok K ⟨T,n,life,gens,drawn,toks,os⟩ ⟨.pure (.again b),c,q,st⟩) f)
  (λe=>M4 p w K ⟨T,n,life,gens,drawn,toks,os⟩ ⟨.raise e,c,q,st⟩) (λY=>none) (λe=>M4 p w K ⟨T,n,life,gens,drawn,toks,os⟩ ⟨.finish e,c,q,st⟩) (λa k=>K ⟨T,n,life,gens,drawn,toks,os⟩ ⟨k (),c,q,st⟩)
  (λa k=>K ⟨T,n,life,gens,drawn,toks,os⟩ ⟨k (),c,a,st⟩)
  (λa b k=>ldG T n a λo=>K ⟨T,n,life,gens,drawn,toks,os⟩ ⟨k o,c,q,st⟩)
  (λa b f k=>Zz4 (motive:=λY=>Option (bI×bh)) none (ldG T n a λY=>K ⟨wR T a f,n,life,gens,drawn,toks,os⟩ ⟨k (),c,q,st⟩) (ok ⟨.update a b f k,c,q,st⟩))
  (λo k=>Zz4 (motive:=λY=>Option (bI×bh)) none (K ⟨inR T n o,n+1,life,gens,drawn,toks,os⟩ ⟨k n,c,q,st⟩) (Zx4 (motive:=λY=>Bool) false (λY=>true) (GL (inR T n o) n)))
  (λa k=>Zz4 (motive:=λY=>Option (bI×bh)) (K ⟨T,n,life,gens,drawn,toks,os⟩ ⟨k none,c,q,st⟩) (Zx4 (motive:=λY=>Option (bI×bh)) none (λo=>K ⟨T,n,life,gens,drawn,toks,os⟩ ⟨k (alive o),c,q,st⟩) (GL T a)) (bk a n)) (λa k=>K ⟨T,n,life,gens,drawn,toks,os⟩ ⟨k (),c,q,st⟩) (λa k=>Kv p w ok K ⟨T,n,life,gens,drawn,toks,os⟩ ⟨.register a k,c,q,st⟩)
  (λk=>K ⟨T,n,life,gens,drawn,toks+1,os⟩ ⟨k toks,c,q,st⟩)
  (λk=>K ⟨T,n,life,gens,drawn,toks,os⟩ ⟨k ⟨p,w.params⟩,c,q,st⟩) (λa b k=>M4 p w K ⟨T,n,life,gens,drawn,toks,os⟩ ⟨.choose a b k,c,q,st⟩) (λa b k=>Kv p w ok K ⟨T,n,life,gens,drawn,toks,os⟩ ⟨.os a b k,c,q,st⟩) (λa b d e k=>M4 p w K ⟨T,n,life,gens,drawn,toks,os⟩ ⟨.call a b d e k,c,q,st⟩)
  (λa k=>M4 p w K ⟨T,n,life,gens,drawn,toks,os⟩ ⟨.handled a k,c,q,st⟩) (λa k=>M4 p w K ⟨T,n,life,gens,drawn,toks,os⟩ ⟨.newGen a k,c,q,st⟩) (λa k=>M4 p w K ⟨T,n,life,gens,drawn,toks,os⟩ ⟨.genState a k,c,q,st⟩) (λa b d k=>M4 p w K ⟨T,n,life,gens,drawn,toks,os⟩ ⟨.resume a b d k,c,q,st⟩)
  (λa b d k=>Kv p w ok K ⟨T,n,life,gens,drawn,toks,os⟩ ⟨.yield a b d k,c,q,st⟩) (λk=>M4 p w K ⟨T,n,life,gens,drawn,toks,os⟩ ⟨.stack k,c,q,st⟩) (λa k=>Kv p w ok K ⟨T,n,life,gens,drawn,toks,os⟩ ⟨.fork a k,c,q,st⟩) (λk=>M4 p w K ⟨T,n,life,gens,drawn,toks,os⟩ ⟨.thread k,c,q,st⟩)
  λa b d e k=>Kv p w ok K ⟨T,n,life,gens,drawn,toks,os⟩ ⟨.await a b d e k,c,q,st⟩) t) s
theorem SV{p:Zw8}{w:Zt2}{ok:bh->Bool}{K:bI->bh->Option (bI×bh)}{s:bI}{t:bh}(h:Zj5 t=false)(k:ok t=true):M4 p w K s t=Kv p w ok K s t:=by
 unfold M4 Kv
 rw[h,k]
 show _=match N5 p w s t with|some (s',t')=>K s' t'|none=>none
 generalize N5 p w s t=x
 cases x<;>rfl
theorem wu{p:Zw8}{w:Zt2}{n₀:Nat}{ann:Option Value}{K:bI->bh->Option (bI×bh)}{s:bI}{t:bh}:lg p w (Zp5 n₀ ann) K s t=Kv p w (Zp5 n₀ ann) K s t:=by
 obtain⟨T,n,life,gens,drawn,toks,os⟩:=s
 obtain⟨cur,c,q,st⟩:=t
 cases cur with
 |pure f=>
  cases f with
  |done f=>cases st with
   |nil=>rfl
   |cons a r=>exact SV (by rfl) (by rfl)
  |again b=>rfl
 |load a b k=>exact Ze1 (b:=M4 p w K ⟨T,n,life,gens,drawn,toks,os⟩ ⟨.load a b k,c,q,st⟩) (Dd (F:=λo=>(⟨T,n,life,gens,drawn,toks,os⟩,⟨k o,c,q,st⟩))) (SV (by cases st<;>rfl) (by rfl))
 |update a b f k=>
  have h:Zj5 ⟨.update a b f k,c,q,st⟩=false:=by cases st<;>rfl
  by_cases e:Zp5 n₀ ann ⟨.update a b f k,c,q,st⟩=true
  ·refine Ze1 ?_ (SV h e)
   show Zz4 (motive:=λY=>Option (bI×bh)) none (ldG T n a λY=>K ⟨wR T a f,n,life,gens,drawn,toks,os⟩ ⟨k (),c,q,st⟩) (Zp5 n₀ ann ⟨.update a b f k,c,q,st⟩)=_
   rw[e,dP]
   exact Dd (F:=λY=>(⟨T.set a f,n,life,gens,drawn,toks,os⟩,⟨k (),c,q,st⟩))
  ·have e:Zp5 n₀ ann ⟨.update a b f k,c,q,st⟩=false:=Bool.eq_false_iff.mpr e
   show Zz4 (motive:=λY=>Option (bI×bh)) none _ (Zp5 n₀ ann ⟨.update a b f k,c,q,st⟩)=_
   unfold Kv
   rw[h,e]
 |unsupported e=>cases st<;>rfl
 |alloc o k=>
  refine Ze1 ?_ (SV (by cases st<;>rfl) (by rfl))
  show Zz4 (motive:=λY=>Option (bI×bh)) none (K ⟨inR T n o,n+1,life,gens,drawn,toks,os⟩ ⟨k n,c,q,st⟩) (Zx4 (motive:=λY=>Bool) false (λY=>true) (GL (inR T n o) n))=Zx4 (motive:=λY=>Option (bI×bh)) none (λr=>K r.1 r.2) (match((T.ins n o).get n).isSome with|true=>some (⟨T.ins n o,n+1,life,gens,drawn,toks,os⟩,⟨k n,c,q,st⟩)|false=>none)
  rw[wQ,M8]
  generalize (T.ins n o).get n=x
  cases x<;>rfl
 |loadIfAlive a k=>
  refine Ze1 ?_ (SV (by cases st<;>rfl) (by rfl))
  show Zz4 (motive:=λY=>Option (bI×bh)) _ (Zx4 (motive:=λY=>Option (bI×bh)) none _ (GL T a)) (bk a n)=Zx4 (motive:=λY=>Option (bI×bh)) none (λr=>K r.1 r.2) (match bk a n with
   |true=>match T.get a with
    |some o=>some (⟨T,n,life,gens,drawn,toks,os⟩,⟨k (alive o),c,q,st⟩)
    |none=>none
   |false=>some (⟨T,n,life,gens,drawn,toks,os⟩,⟨k none,c,q,st⟩))
  rw[M8]
  generalize bk a n=x
  generalize T.get a=y
  cases x
  ·rfl
  ·cases y<;>rfl
 |_=>first|rfl|exact SV (by cases st<;>rfl) (by rfl)|(refine Ze1 ?_ (SV (by cases st<;>rfl) (by rfl));rfl)
noncomputable def k_(p:Zw8)(w:Zt2)(ok:bh->Bool)(n:Nat):bI->bh->Option (bI×bh):=
 Nat.rec (motive:=λY=>bI->bh->Option (bI×bh)) (λs t=>some (s,t)) (λY K s t=>lg p w ok K s t) n
theorem BV{p:Zw8}{w:Zt2}{n₀:Nat}{ann:Option Value}{n:Nat}:xS (N5 p w) (Zp5 n₀ ann) n=k_ p w (Zp5 n₀ ann) n:=by
 induction n with
 |zero=>rfl
 |succ n ih=>exact funext λs=>funext λt=>(show Kv p w (Zp5 n₀ ann) (xS (N5 p w) (Zp5 n₀ ann) n) s t=_ from ih▸wu.symm)
theorem head(w:Zt2)(os:OsState):(k_ pw w (Zp5 11 (some (.ref 6))) 14000 (S0 w os) (topStub pw)).map (λr=>(Zj5 r.2,wz w r.1.abs,openSeen qV QL [] (λY=>true) true r.1.abs,rK (BW r.1)))=some (true,true,openGood qV QL,dm w.params):=by kernel_rfl
end
namespace Pl
theorem hG{G:Prop}(h:let P:=G;P):G:=h
theorem Z7{x y a b:Nat}(h:x<=y)(e:a+y<=b+x:=by simp+arith only):a<=b:=Zo5 (c7 (aP h a) e)
theorem KJ(a b:Nat):a<=a-b+b:=(Zo3 b a).elim (λh=>cV (bg h).symm) λh=>c7 h (cj ..)
theorem LU{a b:Nat}(h:b<=a):a-b+b<=a:=cV (bg h)
inductive fL where
 |int (i:Int)
 |bool (b:Bool)
 |empty
 |XY
 |text (a:Nat)
 |pair (id:Nat) (GF Dc:fL)
 |N4
 |U7 (h t:fL)
set_option genCtorIdx true in
inductive Op where|cons|GF|Dc|not|Rm|BU|list
inductive Er where
 |prim (op:Op) (v:fL)
 |arity (n:Nat)
 |values (n:Nat)
 |VY (s:Nat)
 |stuck
structure St where
 cells:List fL
 np:Nat
 trace:List (Nat×fL)
 g1:fL
 g2:fL
inductive Hd where
 |const (v:fL)
 |loc (x:Nat)
 |glob (s:Nat)
 |YG (x:Nat)
 |setG (s:Nat)
 |ite
 |seq
 |prim (op:Op)
 |X3
inductive T where
 |node (h:Hd) (ts:T)
 |app (l:Nat) (ps:List Nat) (r:Option Nat) (b as:T)
 |ZT (l f l':Nat) (ps:List Nat) (r:Option Nat) (b body:T)
 |ZZ (f:Nat) (as:T)
 |nil
 |cons (h t:T)
inductive e_(α:Type)where
 |ok (a:α) (st:St)
 |er (e:Er) (st:St)
abbrev jW:=@fL.casesOn.{0}
abbrev jD:=@Hd.casesOn.{0}
abbrev jT:=@T.casesOn.{0}
abbrev jK:=@e_.casesOn.{0}
abbrev jJ:=@Op.casesOn.{0}
noncomputable def e_.isOk{α:Type}(o:e_ α):Bool:=e_.rec (motive:=λY=>Bool) (λY Y=>true) (λY Y=>false) o
theorem xE{α:Type}{e:Er}{s st:St}{v:α}{P:Prop}(h:e_.er e s=.ok v st):P:=Zv (congrArg e_.isOk h)
noncomputable def e_.bind{α β:Type}(o:e_ α)(f:α->St->e_ β):e_ β:=match o with
 |.ok a st=>f a st
 |.er e st=>.er e st
abbrev D:=St->e_ fL
inductive c8 where
 |cell (l:Nat)
 |proc (p:List fL->D) (c:Nat)
theorem xB{P:Prop}(h:some (c8.cell l)=some (.proc p c)):P:=Wf (congrArg (λo:c8=>c8.rec (motive:=λY=>Bool) (λY=>true) (λY Y=>false) o) (cU h))
abbrev Env:=Nat->Option c8
noncomputable def Env.put(B:Env)(x:Nat)(b:c8):Env:=λy=>if y=x then some b else B y
noncomputable def fL.Ue:fL->Bool
 |.N4=>true
 |.U7 _ _=>true
 |_=>false
noncomputable def fL.Ku:fL->Nat
 |.U7 _ t=>t.Ku+1
 |_=>0
noncomputable def fL.ofList:List fL->fL
 |[]=>.N4
 |x::r=>.U7 x (fL.ofList r)
noncomputable def ff(d:D):D:=λst=>(d st).bind λv st=>match v.Ue with
 |true=>.er (.values v.Ku) st
 |false=>.ok v st
noncomputable def ZQ:List D->St->e_ (List fL)
 |[],st=>.ok [] st
 |d::ds,st=>(ff d st).bind λv st=>(ZQ ds st).bind λvs st=>.ok (v::vs) st
noncomputable def Wc:List fL->Nat->fL
 |[],_=>.empty
 |x::r,n=>.pair (n+r.length) x (Wc r n)
noncomputable def putAll(B:Env):List Nat->Nat->Env
 |[],_=>B
 |p::ps,c=>putAll (B.put p (.cell c)) ps (c+1)
noncomputable def RB(n m:Nat)(r:Bool):Bool:=cZ n m||(r&&Zw0 m n)
noncomputable def envOf(B:Env)(ps:List Nat)(r:Option Nat)(c:Nat):Env:=match r with
 |none=>putAll B ps c
 |some x=>(putAll B ps c).put x (.cell (c+ps.length))
noncomputable def pA(m:Nat)(r:Bool)(vs:List fL)(st:St):St:=match r with
 |false=>{st with cells:=st.cells++vs.take m}
 |true=>{st with cells:=st.cells++vs.take m++[Wc (vs.drop m) st.np],np:=st.np+(vs.length-m)}
noncomputable def fB(B:Env)(ps:List Nat)(r:Option Nat)(k:Env->D)(vs:List fL):D:=λst=>match RB vs.length ps.length r.isSome with
 |false=>.er (.arity vs.length) st
 |true=>k (envOf B ps r st.cells.length) (pA ps.length r.isSome vs st)
noncomputable def same:fL->fL->Bool
 |.pair i _ _,b=>match b with|.pair j _ _=>cZ i j|_=>false
 |.int i,b=>match b with|.int j=>decide (i=j)|_=>false
 |.bool i,b=>match b with|.bool j=>i==j|_=>false
 |.text i,b=>match b with|.text j=>cZ i j|_=>false
 |.empty,b=>match b with|.empty=>true|_=>false
 |.XY,b=>match b with|.XY=>true|_=>false
 |_,_=>false
noncomputable def Yh(op:Op)(vs:List fL):D:=λst=>match op with
 |.list=>.ok (Wc vs st.np) {st with np:=st.np+vs.length}
 |.cons=>match vs with|[a,b]=>.ok (.pair st.np a b) {st with np:=st.np+1}|_=>.er .stuck st
 |.BU=>match vs with|[a,b]=>.ok (.bool (same a b)) st|_=>.er .stuck st
 |.not=>match vs with|[a]=>.ok (.bool (match a with|.bool b=>!b|_=>false)) st|_=>.er .stuck st
 |.Rm=>match vs with|[a]=>.ok (.bool (match a with|.pair _ _ _=>true|_=>false)) st|_=>.er .stuck st
 |.GF=>match vs with|[a]=>(match a with|.pair _ x _=>.ok x st|v=>.er (.prim .GF v) st)|_=>.er .stuck st
 |.Dc=>match vs with|[a]=>(match a with|.pair _ _ x=>.ok x st|v=>.er (.prim .Dc v) st)|_=>.er .stuck st
noncomputable def wm(s:Nat):D:=λst=>match s with
 |1=>.ok st.g1 st
 |2=>.ok st.g2 st
 |_=>.er (.VY s) st
noncomputable def wk(s:Nat)(v:fL):D:=λst=>match s with
 |1=>.ok .XY {st with trace:=st.trace++[(s,v)],g1:=v}
 |2=>.ok .XY {st with trace:=st.trace++[(s,v)],g2:=v}
 |_=>.er (.VY s) {st with trace:=st.trace++[(s,v)]}
noncomputable def stuck:D:=λst=>.er .stuck st
noncomputable def one(l:List D):D:=match l with
 |[d]=>d
 |_=>stuck
noncomputable def Hd.var:Hd->Option Nat
 |.loc x=>some x
 |.YG x=>some x
 |_=>none
noncomputable def sem(h:Hd)(b:Option c8)(ds:List D):D:=match h with
 |.const v=>λst=>.ok v st
 |.loc _=>λst=>match b with|some (.cell l)=>.ok (st.cells.getD l .empty) st|_=>.er .stuck st
 |.glob s=>wm s
 |.YG _=>λst=>(ff (one ds) st).bind λv st=>match b with|some (.cell l)=>.ok .XY {st with cells:=st.cells.set l v}|_=>.er .stuck st
 |.setG s=>λst=>(ff (one ds) st).bind λv st=>wk s v st
 |.ite=>match ds with|[a,b,c]=>λst=>(ff a st).bind λv st=>(match v with|.bool false=>c st|_=>b st)|_=>stuck
 |.seq=>match ds with|[a,b]=>λst=>(a st).bind λY st=>b st|_=>stuck
 |.prim op=>λst=>(ZQ ds st).bind λvs st=>Yh op vs st
 |.X3=>λst=>(ZQ ds st).bind λvs st=>.ok (match vs with|[x]=>x|l=>fL.ofList l) st
noncomputable def Hd.w:Hd->Nat
 |.YG _=>1
 |.setG _=>1
 |_=>0
noncomputable def Vu(b:Option c8)(vs:List fL):D:=match b with
 |some (.proc p _)=>p vs
 |_=>stuck
noncomputable def YD(b:Option c8):Nat:=match b with
 |some (.proc _ c)=>c
 |_=>0
noncomputable def rr(r:Option Nat):Nat:=match r with|none=>1|some _=>2
structure Rs where
 ds:List D
 n:Nat
noncomputable def fQ:T->Env->Rs
 |.node h ts,B=>⟨[sem h (h.var.bind B) (fQ ts B).ds],(fQ ts B).n+h.w⟩
 |.app _ ps r b as,B=>⟨[λst=>(ZQ (fQ as B).ds st).bind (fB B ps r λB=>one (fQ b B).ds)],(fQ as B).n+((fQ b (envOf B ps r 0)).n+rr r)⟩
 |.ZT _ f _ ps r b body,B=>
  ⟨[one (fQ body (B.put f (.proc (fB B ps r λB=>one (fQ b B).ds) ((fQ b (envOf B ps r 0)).n+rr r)))).ds],
   (fQ body (B.put f (.proc (fB B ps r λB=>one (fQ b B).ds) ((fQ b (envOf B ps r 0)).n+rr r)))).n+((fQ b (envOf B ps r 0)).n+rr r)+1⟩
 |.ZZ f as,B=>⟨[λst=>(ZQ (fQ as B).ds st).bind (Vu (B f))],(fQ as B).n+YD (B f)⟩
 |.nil,_=>⟨[],0⟩
 |.cons h t,B=>⟨(fQ h B).ds++(fQ t B).ds,(fQ h B).n+(fQ t B).n+1⟩
structure Lm where
 l:Nat
 ps:List Nat
 r:Option Nat
 b:T
noncomputable def Lm.Yd(m:Lm)(B:Env):c8:=.proc (fB B m.ps m.r λB=>one (fQ m.b B).ds) ((fQ m.b (envOf B m.ps m.r 0)).n+rr m.r)
noncomputable def Lm.on(m:Lm)(as:T):T:=.app m.l m.ps m.r m.b as
noncomputable abbrev bs(ps:List Nat)(r:Option Nat):List Nat:=ps++r.toList
noncomputable def T.tc(x:Nat):T->Nat
 |.node _ ts=>ts.tc x
 |.app l ps r b as=>(l::bs ps r).count x+b.tc x+as.tc x
 |.ZT l f l' ps r b body=>(l::f::l'::bs ps r).count x+b.tc x+body.tc x
 |.ZZ _ as=>as.tc x
 |.nil=>0
 |.cons h t=>h.tc x+t.tc x
theorem Xo:(T.app l ps r b a).tc x=(l::bs ps r).count x+b.tc x+a.tc x:=rfl
theorem XT:(T.ZT l f l' ps r b a).tc x=(l::f::l'::bs ps r).count x+b.tc x+a.tc x:=rfl
theorem Ks:(T.ZZ f a).tc x=a.tc x:=rfl
theorem XS:(T.cons b a).tc x=b.tc x+a.tc x:=rfl
abbrev Sc:=Nat->Prop
noncomputable def T.sc:T->Sc->Sc->Prop
 |.node h ts,V,P=>(∀x,h.var=some x->V x)/\ts.sc V P
 |.app _ ps r b as,V,P=>as.sc V P/\b.sc (λx=>x∈bs ps r\/V x) P
 |.ZT _ f _ ps r b body,V,P=>b.sc (λx=>x∈bs ps r\/V x) P/\body.sc V (λx=>x=f\/P x)
 |.ZZ f as,V,P=>P f/\as.sc V P
 |.nil,_,_=>True
 |.cons h t,V,P=>h.sc V P/\t.sc V P
theorem Y7:∀{t:T} {V P V' P':Sc},t.sc V P->(∀x,V x->V' x)->(∀x,P x->P' x)->t.sc V' P'
 |.node _ _,_,_,_,_,h,a,b=>⟨λx e=>a x (h.1 x e),Y7 h.2 a b⟩
 |.app ..,_,_,_,_,h,a,b=>⟨Y7 h.1 a b,Y7 h.2 (λx=>Or.imp id (a x)) b⟩
 |.ZT ..,_,_,_,_,h,a,b=>⟨Y7 h.1 (λx=>Or.imp id (a x)) b,Y7 h.2 a λx=>Or.imp id (b x)⟩
 |.ZZ _ _,_,_,_,_,h,a,b=>⟨b _ h.1,Y7 h.2 a b⟩
 |.nil,_,_,_,_,_,_,_=>trivial
 |.cons _ _,_,_,_,_,h,a,b=>⟨Y7 h.1 a b,Y7 h.2 a b⟩
inductive Xd:Option c8->Option c8->Prop
 |none:Xd none none
 |cell {l}:Xd (some (.cell l)) (some (.cell l))
 |proc {p c d}:c<=d->Xd (some (.proc p c)) (some (.proc p d))
theorem Xd.refl:∀b,Xd b b
 |.none=>.none
 |some (.cell _)=>.cell
 |some (.proc _ _)=>.proc (cO _)
theorem Xd.call(h:Xd a b):Vu a=Vu b:=by cases h<;>rfl
theorem Xd.cost(h:Xd a b):YD a<=YD b:=by
 cases h with
 |proc h=>exact h
 |_=>exact cO _
theorem Xd.sem(h:Xd a b)(x:Hd)(ds:List D):sem x a ds=sem x b ds:=by cases h<;>first|rfl|(cases x<;>rfl)
structure W_(x y:Rs):Prop where
 e:x.ds=y.ds
 l:x.n<=y.n
theorem W_.refl:W_ x x:=⟨rfl,cO _⟩
theorem W_.trans(h:W_ x y)(k:W_ y z):W_ x z:=⟨h.e.trans k.e,c7 h.l k.l⟩
theorem W_.cons{a b c d:Rs}(h:W_ a b)(k:W_ c d):W_ ⟨a.ds++c.ds,a.n+c.n+1⟩ ⟨b.ds++d.ds,b.n+d.n+1⟩:=⟨by rw[h.e,k.e],bx (aU h.l k.l) 1⟩
theorem W_.node(k:Xd a b)(e:W_ x y):W_ ⟨[sem h a x.ds],x.n+h.w⟩ ⟨[sem h b y.ds],y.n+h.w⟩:=⟨by rw[e.e,k.sem],bx e.l _⟩
theorem Yn{B:Env}{x:Nat}{b:c8}:B.put x b x=some b:=if_pos rfl
theorem Zx{B:Env}{x y:Nat}{b:c8}(h:y≠x):B.put x b y=B y:=if_neg h
theorem W9{B ρ':Env}{x y z w:Nat}{b b':c8}(h:y=z↔x=w)(k:Xd (some b') (some b))(e:x≠w->Xd (ρ' y) (B x)):Xd (ρ'.put z b' y) (B.put w b x):=by
 unfold Env.put
 by_cases q:x=w
 ·rw[if_pos q,if_pos (h.mpr q)];exact k
 ·rw[if_neg q,if_neg λk=>q (h.mp k)];exact e q
theorem SU:∀(ps:List Nat) {B ρ':Env} {c:Nat},(x∉ps->Xd (ρ' (σ x)) (B x))->(∀p,p∈ps->σ x=σ p->x=p)->Xd (putAll ρ' (ps.map σ) c (σ x)) (putAll B ps c x):=by
 refine hM ?_;intro MM ps;induction ps with
 |nil=>
  intro _ _ _ h _
  exact h (xm ·)
 |cons p ps ih=>
  intro _ _ _ h i
  exact ih (λn=>W9 ⟨i p (.head _),λe=>congrArg σ e⟩ .cell λe=>h λm=>(cJ.mp m).elim e n) λq m=>i q (.tail _ m)
theorem VX(h:x∉bs ps r->Xd (ρ' (σ x)) (B x))(i:∀p,p∈bs ps r->σ x=σ p->x=p):Xd (envOf ρ' (ps.map σ) (r.map σ) c (σ x)) (envOf B ps r c x):=by
 have a:∀p,p∈ps->σ x=σ p->x=p:=λp m=>i p (cH _ m)
 induction r using jO with
 |none=>exact SU ps (λn=>h λm=>n ((bX.mp m).resolve_right (xm ·))) a
 |some y=>
  show Xd ((putAll ρ' (ps.map σ) c).put (σ y) (.cell (c+(ps.map σ).length)) (σ x)) ((putAll B ps c).put y (.cell (c+ps.length)) x)
  rw[cM]
  exact W9 ⟨i y (cC _ (.head _)),λe=>congrArg σ e⟩ .cell λe=>SU ps (λn=>h λm=>(bX.mp m).elim n λm=>e (cP.mp m)) a
theorem Vo(h:x∉bs ps r->Xd (ρ' x) (B x)):Xd (envOf ρ' ps r c x) (envOf B ps r c x):=by
 have:=VX (σ:=id) (c:=c) h λY Y e=>e
 rwa [List.map_id,Option.map_id]at this
theorem Vn{x:Nat}:∀(ps:List Nat) {B:Env} {c:Nat},x∉ps->putAll B ps c x=B x
 |[],_,_,_=>rfl
 |_::ps,_,_,n=>(Vn ps λm=>n (.tail _ m)).trans (Zx λe=>n (e▸.head _))
theorem VW{B:Env}{ps:List Nat}{r:Option Nat}{c x:Nat}(n:x∉bs ps r):envOf B ps r c x=B x:=by
 have a:putAll B ps c x=B x:=Vn ps λm=>n (cH _ m)
 induction r using jO with
 |none=>exact a
 |some y=>exact(Zx λe=>n (cC _ (cP.mpr e))).trans a
theorem XX{m m':Lm}{B ρ':Env}(hl:m'.ps.length=m.ps.length)(hr:m'.r.isSome=m.r.isSome)(hk:∀c,W_ (fQ m'.b (envOf ρ' m'.ps m'.r c)) (fQ m.b (envOf B m.ps m.r c))):Xd (some (m'.Yd ρ')) (some (m.Yd B)):=by
 have e:(fB ρ' m'.ps m'.r λB=>one (fQ m'.b B).ds)=fB B m.ps m.r λB=>one (fQ m.b B).ds:=by
  funext vs st;unfold fB;rw[hl,hr];dsimp only;rw[(hk st.cells.length).e]
 have e2:rr m'.r=rr m.r:=by revert hr;induction m'.r using jO<;>induction m.r using jO<;>intro h<;>first|rfl|cases h
 unfold Lm.Yd
 rw[e,e2]
 exact .proc (bx (hk 0).l _)
theorem SR{m m':Lm}{as as':T}{B ρ':Env}(h:Xd (some (m'.Yd ρ')) (some (m.Yd B)))(k:W_ (fQ as' ρ') (fQ as B)):W_ (fQ (m'.on as') ρ') (fQ (m.on as) B):=
 ⟨show[λst=>(ZQ (fQ as' ρ').ds st).bind (Vu (some (m'.Yd ρ')))]=[λst=>(ZQ (fQ as B).ds st).bind (Vu (some (m.Yd B)))] by rw[h.call,k.e],aU k.l h.cost⟩
theorem BS{f:Nat}{m:Lm}{as as':T}{B ρ':Env}(h:Xd (some (m.Yd ρ')) (B f))(k:W_ (fQ as' ρ') (fQ as B)):W_ (fQ (m.on as') ρ') (fQ (.ZZ f as) B):=
 ⟨show[λst=>(ZQ (fQ as' ρ').ds st).bind (Vu (some (m.Yd ρ')))]=[λst=>(ZQ (fQ as B).ds st).bind (Vu (B f))] by rw[h.call,k.e],aU k.l h.cost⟩
theorem Wb(h:Xd (ρ' g) (B f))(k:W_ (fQ as' ρ') (fQ as B)):W_ (fQ (.ZZ g as') ρ') (fQ (.ZZ f as) B):=
 ⟨show[λst=>(ZQ (fQ as' ρ').ds st).bind (Vu (ρ' g))]=[λst=>(ZQ (fQ as B).ds st).bind (Vu (B f))] by rw[h.call,k.e],aU k.l h.cost⟩
theorem VV{l l' f f':Nat}{m m':Lm}{t t':T}{B ρ':Env}(h:Xd (some (m'.Yd ρ')) (some (m.Yd B)))(k:W_ (fQ t' (ρ'.put f' (m'.Yd ρ'))) (fQ t (B.put f (m.Yd B)))):
 W_ (fQ (.ZT l' f' m'.l m'.ps m'.r m'.b t') ρ') (fQ (.ZT l f m.l m.ps m.r m.b t) B):=
 ⟨show[one (fQ t' (ρ'.put f' (m'.Yd ρ'))).ds]=[one (fQ t (B.put f (m.Yd B))).ds] by rw[k.e],bx (aU k.l h.cost) 1⟩
theorem N3:∀(t:T) {V P:Sc} {B ρ':Env},t.sc V P->(∀x,V x\/P x->Xd (ρ' x) (B x))->W_ (fQ t ρ') (fQ t B):=by
 refine hM ?_;intro MM t;induction t with
 |node h ts ih=>
  intro V P B ρ' s e
  refine W_.node ?_ (ih s.2 e)
  induction q:h.var using jO with
  |none=>exact .none
  |some x=>exact e x (.inl (s.1 x q))
 |app l ps r b as ib N2=>
  intro V P B ρ' s e
  exact SR (m:=⟨l,ps,r,b⟩) (m':=⟨l,ps,r,b⟩) (XX rfl rfl λc=>ib s.2 λx hx=>Vo λn=>e x (hx.imp_left λq=>q.resolve_left n)) (N2 s.1 e)
 |ZT l f l' ps r b t ib it=>
  intro V P B ρ' s e
  have h:Xd (some (Lm.Yd ⟨l',ps,r,b⟩ ρ')) (some (Lm.Yd ⟨l',ps,r,b⟩ B)):=XX rfl rfl λc=>ib s.1 λx hx=>Vo λn=>e x (hx.imp_left λq=>q.resolve_left n)
  exact VV (m:=⟨l',ps,r,b⟩) (m':=⟨l',ps,r,b⟩) h (it s.2 λx hx=>W9 Iff.rfl h λn=>e x (hx.imp_right λq=>q.resolve_left n))
 |ZZ f as ih=>
  intro V P B ρ' s e
  exact Wb (e f (.inr s.1)) (ih s.2 e)
 |nil=>
  intro _ _ _ _ _ _
  exact .refl
 |cons h t ih it=>
  intro V P B ρ' s e
  exact W_.cons (ih s.1 e) (it s.2 e)
theorem WM:∀(t:T) {V P:Sc},(∀x,V x)->(∀x,P x)->t.sc V P
 |.node _ ts,_,_,a,b=>⟨λx Y=>a x,WM ts a b⟩
 |.app _ _ _ p q,_,_,a,b=>⟨WM q a b,WM p (λx=>.inr (a x)) b⟩
 |.ZT _ _ _ _ _ p q,_,_,a,b=>⟨WM p (λx=>.inr (a x)) b,WM q a λx=>.inr (b x)⟩
 |.ZZ f as,_,_,a,b=>⟨b f,WM as a b⟩
 |.nil,_,_,_,_=>trivial
 |.cons h t,_,_,a,b=>⟨WM h a b,WM t a b⟩
theorem Tg(t:T)(e:∀x,Xd (ρ' x) (B x)):W_ (fQ t ρ') (fQ t B):=N3 t (V:=λY=>True) (P:=λY=>True) (WM t (λY=>trivial) λY=>trivial) λx Y=>e x
noncomputable def Lm.tc(x:Nat)(m:Lm):Nat:=(m.l::bs m.ps m.r).count x+m.b.tc x
noncomputable def Lm.sc(m:Lm)(V P:Sc):Prop:=m.b.sc (λx=>x∈bs m.ps m.r\/V x) P
noncomputable def Pp(x:Nat):List Lm->Nat
 |[]=>0
 |m::r=>m.tc x+Pp x r
theorem GD:Pp x [m]=m.tc x+0:=rfl
theorem UZ:∀(a b:List Lm),Pp x (a++b)=Pp x a+Pp x b
 |[],_=>(a_ _).symm
 |m::a,b=>by show m.tc x+Pp x (a++b)=m.tc x+Pp x a+Pp x b;rw[UZ a b,aZ]
noncomputable def T.Zw:T->Bool
 |.nil=>false
 |.cons _ _=>false
 |_=>true
noncomputable def T.len:T->Nat
 |.cons _ t=>t.len+1
 |_=>0
noncomputable def rJ(s:Nat):Bool:=cZ s 1||(cZ s 2||cZ s 3)
noncomputable def Hd.ar(n:Nat):Hd->Bool
 |.YG _=>cZ n 1
 |.setG s=>rJ s&&cZ n 1
 |.glob s=>rJ s&&cZ n 0
 |.ite=>cZ n 3
 |.seq=>cZ n 2
 |.prim op=>match op with|.cons=>cZ n 2|.BU=>cZ n 2|.list=>true|_=>cZ n 1
 |.X3=>true
 |_=>cZ n 0
noncomputable def T.wf:T->Prop
 |.node h ts=>h.ar ts.len=true/\ts.Zw=false/\ts.wf
 |.app _ ps r b as=>(b.Zw=true/\b.wf/\(bs ps r).length<=3)/\as.Zw=false/\as.wf
 |.ZT _ _ _ ps r b t=>(b.Zw=true/\b.wf/\(bs ps r).length<=3)/\t.Zw=true/\t.wf
 |.ZZ _ as=>as.Zw=false/\as.wf
 |.nil=>True
 |.cons h t=>(h.Zw=true/\h.wf)/\t.Zw=false/\t.wf
noncomputable def Lm.wf(m:Lm):Prop:=m.b.Zw=true/\m.b.wf/\(bs m.ps m.r).length<=3
theorem Yc(h:t.Zw=true)(B:Env):(fQ t B).ds=[one (fQ t B).ds]:=by
 induction t using jT<;>first|rfl|exact Zv h
structure Wl(t t':T):Prop where
 e:t'.Zw=t.Zw
 l:t'.len=t.len
 w:t.wf->t'.wf
theorem Wl.b{b b':T}{n:Nat}(h:Wl b b')(k:b.Zw=true/\b.wf/\n<=3):b'.Zw=true/\b'.wf/\n<=3:=⟨h.e.trans k.1,h.w k.2.1,k.2.2⟩
theorem Wl.c{v:Bool}{b b':T}(h:Wl b b')(k:b.Zw=v/\b.wf):b'.Zw=v/\b'.wf:=⟨h.e.trans k.1,h.w k.2⟩
def wj(f:Nat)(R:T->List Lm->T->Prop):Prop:=(∀{h ts cs ts'},R ts cs ts'->R (.node h ts) cs (.node h ts'))/\(∀{l ps r b as c b' c' as'},R b c b'->R as c' as'->R (.app l ps r b as) (c++c') (.app l ps r b' as'))/\
 (∀{l g l' ps r b t c b' c' t'},R t c' t'->R b c b'->R (.ZT l g l' ps r b t) (c'++c) (.ZT l g l' ps r b' t'))/\(∀{as c as'} (m:Lm),R as c as'->R (.ZZ f as) (c++[m]) (m.on as'))/\(∀{g as c as'},g≠f->R as c as'->R (.ZZ g as) c (.ZZ g as'))/\R .nil [] .nil/\∀{h t c h' c' t'},R h c h'->R t c' t'->R (.cons h t) (c++c') (.cons h' t')
def Y9(f:Nat)(t:T)(cs:List Lm)(t':T):Prop:=∀R,wj f R->R t cs t'
section
variable{f g l l':Nat}{h:Hd}{ps:List Nat}{r:Option Nat}{a a' b b' t t' as as':T}{c c':List Lm}
theorem Y9.node(k:Y9 f t c t'):Y9 f (.node h t) c (.node h t'):=λR z=>z.1 (k R z)
theorem Y9.app(k:Y9 f b c b')(k':Y9 f as c' as'):Y9 f (.app l ps r b as) (c++c') (.app l ps r b' as'):=λR z=>z.2.1 (k R z) (k' R z)
theorem Y9.ZT(k:Y9 f t c' t')(k':Y9 f b c b'):Y9 f (.ZT l g l' ps r b t) (c'++c) (.ZT l g l' ps r b' t'):=λR z=>z.2.2.1 (k R z) (k' R z)
theorem Y9.hit(m:Lm)(k:Y9 f as c as'):Y9 f (.ZZ f as) (c++[m]) (m.on as'):=λR z=>z.2.2.2.1 m (k R z)
theorem Y9.ZZ(n:g≠f)(k:Y9 f as c as'):Y9 f (.ZZ g as) c (.ZZ g as'):=λR z=>z.2.2.2.2.1 n (k R z)
theorem Y9.nil:Y9 f .nil [] .nil:=λR z=>z.2.2.2.2.2.1
theorem Y9.cons(k:Y9 f a c a')(k':Y9 f t c' t'):Y9 f (.cons a t) (c++c') (.cons a' t'):=λR z=>z.2.2.2.2.2.2 (k R z) (k' R z)
end
theorem Y9.wl(h:Y9 f t cs t'):(∀m∈cs,m.wf)->Wl t t':=by
 refine h (λt cs t'=>(∀m∈cs,m.wf)->Wl t t') ⟨λih=>?_,λi j=>?_,λi j=>?_,λc ih=>?_,λY ih=>?_,?_,λi j=>?_⟩
 ·exactλm=>⟨rfl,rfl,λw=>⟨(ih m).l▸w.1,(ih m).c w.2⟩⟩
 ·exactλm=>⟨rfl,rfl,λw=>⟨(i λc k=>m c (cH _ k)).b w.1,(j λc k=>m c (cC _ k)).c w.2⟩⟩
 ·exactλm=>⟨rfl,rfl,λw=>⟨(j λc k=>m c (cC _ k)).b w.1,(i λc k=>m c (cH _ k)).c w.2⟩⟩
 ·exactλm=>⟨rfl,rfl,λw=>⟨m c (cC _ (.head _)),(ih λc k=>m c (cH _ k)).c w⟩⟩
 ·exactλm=>⟨rfl,rfl,(ih m).c⟩
 ·exactλY=>⟨rfl,rfl,id⟩
 ·exactλm=>⟨rfl,congrArg (·+1) (j λc k=>m c (cC _ k)).l,λw=>⟨(i λc k=>m c (cH _ k)).c w.1,(j λc k=>m c (cC _ k)).c w.2⟩⟩
theorem Y9.tc(h:Y9 f t cs t'):t'.tc x=t.tc x+Pp x cs:=by
 refine h (λt cs t'=>t'.tc x=t.tc x+Pp x cs) ⟨λih=>?_,λi j=>?_,λi j=>?_,λm ih=>?_,λY ih=>?_,?_,λi j=>?_⟩
 ·exact ih
 ·simp only[Xo,XT,XS,i,j,UZ];simp+arith only
 ·simp only[Xo,XT,XS,i,j,UZ];simp+arith only
 ·simp only[Xo,Ks,Lm.on,ih,UZ,GD,Lm.tc];simp+arith only
 ·exact ih
 ·exact rfl
 ·simp only[Xo,XT,XS,i,j,UZ];simp+arith only
theorem Y9.sc(h:Y9 f t cs t'):∀{V P Q:Sc},t.sc V Q->(∀x,Q x->x≠f->P x)->(∀m∈cs,m.sc V P)->t'.sc V P:=by
 refine h (λt cs t'=>∀{V P Q:Sc},t.sc V Q->(∀x,Q x->x≠f->P x)->(∀m∈cs,m.sc V P)->t'.sc V P) ⟨λih=>?_,λi j=>?_,λi j=>?_,λm ih=>?_,λn ih=>?_,?_,λi j=>?_⟩
 ·exactλs q m=>⟨s.1,ih s.2 q m⟩
 ·exactλs q m=>⟨j s.1 q λc k=>m c (cC _ k),i s.2 q λc k=>Y7 (m c (cH _ k)) (λY=>Or.imp id .inr) λY=>id⟩
 ·exactλs q m=>⟨j s.1 q λc k=>Y7 (m c (cC _ k)) (λY=>Or.imp id .inr) λY=>id,
   i s.2 (λx k n=>k.imp id λk=>q x k n) λc k=>Y7 (m c (cH _ k)) (λY=>id) λY=>.inr⟩
 ·exactλs q k=>⟨ih s.2 q λc e=>k c (cH _ e),k m (cC _ (.head _))⟩
 ·exactλs q m=>⟨q _ s.1 n,ih s.2 q m⟩
 ·exactλY Y Y=>trivial
 ·exactλs q m=>⟨i s.1 q λc k=>m c (cH _ k),j s.2 q λc k=>m c (cC _ k)⟩
theorem pq(h:a≠0):a+b≠0:=λz=>h (cF.mp z).1
theorem xG(h:b≠0):a+b≠0:=λz=>h (cF.mp z).2
theorem Y9.le{f:Nat}{F:Sc}{Po:Env}{t t':T}{cs:List Lm}(h:Y9 f t cs t'):∀{B:Env},(∀x,t.tc x≠0->x≠f/\¬F x)->(∀x,F x->Xd (B x) (Po x))->
 (∀m∈cs,∀ρ',(∀x,F x->Xd (ρ' x) (Po x))->Xd (some (m.Yd ρ')) (B f))->W_ (fQ t' B) (fQ t B):=by
 refine h (λt cs t'=>∀{B:Env},(∀x,t.tc x≠0->x≠f/\¬F x)->(∀x,F x->Xd (B x) (Po x))->(∀m∈cs,∀ρ',(∀x,F x->Xd (ρ' x) (Po x))->Xd (some (m.Yd ρ')) (B f))->W_ (fQ t' B) (fQ t B)) ⟨λih=>?_,λ{l ps r b as c b' c' as'} i j=>?_,λ{l g l' ps r b t c b' c' t'} i j=>?_,λm ih=>?_,λY ih=>?_,?_,λi j=>?_⟩
 ·exactλn e m=>W_.node (.refl _) (ih n e m)
 ·intro B n e m
  have n1:∀x,x=f\/F x->x∉bs ps r:=λx k q=>by
   have:=n x (by simp only[Xo,XT,XS];have:=bD.mpr (aR l q);exact Zz9 (Z7 this))
   exact k.elim this.1 this.2
  have k:∀c x,x=f\/F x->envOf B ps r c x=B x:=λc x h=>VW (n1 x h)
  refine SR (m:=⟨l,ps,r,b⟩) (m':=⟨l,ps,r,b'⟩) (XX rfl rfl λc=>i (λx q=>n x (pq (xG q))) (λx q=>by rw[k c x (.inr q)];exact e x q) λc' q ρ' z=>by rw[k c f (.inl rfl)];exact m c' (cH _ q) ρ' z) (j (λx q=>n x (xG q)) e λc q=>m c (cC _ q))
 ·intro B n e m
  have n1:∀x,x=f\/F x->x∉bs ps r:=λx k q=>by
   have:=n x (by simp only[Xo,XT,XS];have:=bD.mpr (aR l (aR g (aR l' q)));exact Zz9 (Z7 this))
   exact k.elim this.1 this.2
  have n2:∀x,x=f\/F x->x≠g:=λx k q=>by
   have:=n x (by simp only[Xo,XT,XS,q];have:=bD.mpr (aR l (List.mem_cons_self (a:=g) (l:=l'::bs ps r)));exact Zz9 (Z7 this))
   exact k.elim this.1 this.2
  have k:∀c x,x=f\/F x->envOf B ps r c x=B x:=λc x h=>VW (n1 x h)
  have h1:Xd (some (Lm.Yd ⟨l',ps,r,b'⟩ B)) (some (Lm.Yd ⟨l',ps,r,b⟩ B)):=XX rfl rfl λc=>j (λx q=>n x (pq (xG q))) (λx q=>by rw[k c x (.inr q)];exact e x q) λc' q ρ' z=>by rw[k c f (.inl rfl)];exact m c' (cC _ q) ρ' z
  refine VV (m:=⟨l',ps,r,b⟩) (m':=⟨l',ps,r,b'⟩) h1 ((i (λx q=>n x (xG q)) (λx q=>?_) λc q ρ' z=>?_).trans ?_)
  ·rw[Zx (n2 x (.inr q))];exact e x q
  ·rw[Zx (n2 f (.inl rfl))];exact m c (cH _ q) ρ' z
  ·exact Tg t λx=>W9 Iff.rfl h1 λY=>.refl _
 ·exactλn e k=>BS (k m (cC _ (.head _)) _ e) (ih n e λc q=>k c (cH _ q))
 ·exactλn e m=>Wb (.refl _) (ih n e m)
 ·exactλY Y Y=>.refl
 ·exactλn e m=>W_.cons (i (λx q=>n x (pq q)) e λc k=>m c (cH _ k)) (j (λx q=>n x (xG q)) e λc k=>m c (cC _ k))
structure Gr(n n':Nat)(a a':Nat->Nat):Prop where
 le:n<=n'
 old:∀x,x<=n->a' x<=a x
 new:∀x,n<x->x<=n'->a' x<=1
 out:∀x,n'<x->a' x=0
theorem Gr.refl(h:∀x,n<x->a x=0):Gr n n a a:=⟨cO _,λY Y=>cO _,λY h1 h2=>absurd h1 (Zx3.mpr h2),h⟩
theorem Gr.add(h:Gr n n1 a a')(k:Gr n1 n2 b b')(hb:∀x,n<x->b x=0):Gr n n2 (λx=>a x+b x) λx=>a' x+b' x:=by
 refine⟨c7 h.le k.le,λx q=>aU (h.old x q) (k.old x (c7 q h.le)),λx q q'=>?_,λx q=>?_⟩
 ·have e:=hb x q
  by_cases z:x<=n1
  ·show a' x+b' x<=1;exact Z7 (h.new x q z) (Z7 (k.old x z) (Z7 (cV e)))
  ·show a' x+b' x<=1;exact Z7 (cV (h.out x (aF z))) (Z7 (k.new x (aF z) q'))
 ·show a' x+b' x=0
  rw[h.out x (cD k.le q),k.out x q]
theorem Gr.trans(h:Gr n n1 a b)(k:Gr n1 n2 b c):Gr n n2 a c:=by
 refine⟨c7 h.le k.le,λx q=>c7 (k.old x (c7 q h.le)) (h.old x q),λx q q'=>?_,k.out⟩
 by_cases z:x<=n1
 ·exact c7 (k.old x z) (h.new x q z)
 ·exact k.new x (aF z) q'
theorem Gr.one(h:Gr n n' a a')(h1:∀x,a x<=1)(x:Nat):a' x<=1:=by
 by_cases q:x<=n
 ·exact c7 (h.old x q) (h1 x)
 ·by_cases q':x<=n'
  ·exact h.new x (aF q) q'
  ·rw[h.out x (aF q')];exact bV _
theorem Gr.zero(h:Gr n n' a a')(e:a x=0)(q:x<=n):a' x=0:=ah.mp (e▸h.old x q)
structure Iv(n:Nat)(V P:Sc)(t:T):Prop where
 sc:t.sc V P
 w:t.wf
 u:∀x,t.tc x<=1
 k:∀x,V x\/P x->t.tc x=0/\x<=n
 b:∀x,n<x->t.tc x=0
theorem Iv.mono(h:Iv n V P t)(q:n<=n'):Iv n' V P t:=⟨h.sc,h.w,h.u,λx z=>⟨(h.k x z).1,c7 (h.k x z).2 q⟩,λx z=>h.b x (cD q z)⟩
theorem Iv.part(h:Iv n V P t)(e:s.sc V P)(w:s.wf)(q:∀x,s.tc x<=t.tc x):Iv n V P s:=
 ⟨e,w,λx=>c7 (q x) (h.u x),λx z=>⟨ah.mp ((h.k x z).1▸q x),(h.k x z).2⟩,λx z=>ah.mp (h.b x z▸q x)⟩
theorem Iv.in(ns:List Nat)(h:Iv n V P t)(e:s.sc V' P')(w:s.wf)(q:∀x,ns.count x+s.tc x<=t.tc x)(z:∀x,V' x\/P' x->x∈ns\/V x\/P x):Iv n V' P' s:=by
 refine⟨e,w,λx=>?_,λx k=>?_,λx k=>?_⟩
 ·exact Z7 (q x) (Z7 (h.u x))
 ·have a:=q x
  rcases z x k with m|m
  ·have p:=bD.mpr m
   exact⟨ah.mp (Z7 a (Z7 (h.u x) (Z7 p))),Zx3.mp λl=>absurd (Z7 p (Z7 a (Z7 (cV (h.b x l)))):1<=0) (by decide)⟩
  ·have:=h.k x m;exact⟨bF (Z7 a (Z7 (cV this.1))) (bV _),this.2⟩
 ·exact ah.mp (Z7 (q x) (Z7 (cV (h.b x k))))
structure Cs(n:Nat)(m:Lm)(cs:List Lm)(n':Nat):Prop where
 le:n<=n'
 wf:m.wf->∀c∈cs,c.wf
 ok:∀V P:Sc,m.sc V P->(∀x,V x\/P x->x<=n/\m.tc x=0)->∀c∈cs,c.sc V P/\∀B ρ',(∀x,V x\/P x->Xd (ρ' x) (B x))->Xd (some (c.Yd ρ')) (some (m.Yd B))
 old:∀x,x<=n->Pp x cs<=m.tc x
 new:∀x,n<x->x<=n'->Pp x cs<=1
 out:∀x,n'<x->Pp x cs=0
abbrev d7:=Nat->Lm->List Lm->Nat->Prop
def wh(M:d7)(R:T->Nat->T->Nat->Prop):Prop:=(∀{h ts n ts' n'},R ts n ts' n'->R (.node h ts) n (.node h ts') n')/\(∀{l ps r b as n b' n1 as' n2},R b n b' n1->R as n1 as' n2->R (.app l ps r b as) n (.app l ps r b' as') n2)/\
 (∀{l f l' ps r b t n t' n1 b' n2},R t n t' n1->R b n1 b' n2->R (.ZT l f l' ps r b t) n (.ZT l f l' ps r b' t') n2)/\(∀{l f l' ps r b t n t' n1 b' n2 cs n3 t''},R t n t' n1->R b n1 b' n2->M n2 ⟨l',ps,r,b'⟩ cs n3->Y9 f t' cs t''->R (.ZT l f l' ps r b t) n t'' n3)/\
 (∀{g as n as' n1},R as n as' n1->R (.ZZ g as) n (.ZZ g as') n1)/\(∀{n},R .nil n .nil n)/\∀{h t n h' n1 t' n2},R h n h' n1->R t n1 t' n2->R (.cons h t) n (.cons h' t') n2
def Pass(M:d7)(t:T)(n:Nat)(t':T)(n':Nat):Prop:=∀R,wh M R->R t n t' n'
section
variable{M:d7}{f g l l' n n1 n2 n3:Nat}{h:Hd}{ps:List Nat}{r:Option Nat}{a a' b b' t t' t'' as as':T}{cs:List Lm}
theorem Pass.node(k:Pass M t n t' n1):Pass M (.node h t) n (.node h t') n1:=λR z=>z.1 (k R z)
theorem Pass.app(k:Pass M b n b' n1)(k':Pass M as n1 as' n2):Pass M (.app l ps r b as) n (.app l ps r b' as') n2:=λR z=>z.2.1 (k R z) (k' R z)
theorem Pass.ZT(k:Pass M t n t' n1)(k':Pass M b n1 b' n2):Pass M (.ZT l f l' ps r b t) n (.ZT l f l' ps r b' t') n2:=λR z=>z.2.2.1 (k R z) (k' R z)
theorem Pass.gone(k:Pass M t n t' n1)(k':Pass M b n1 b' n2)(m:M n2 ⟨l',ps,r,b'⟩ cs n3)(s:Y9 f t' cs t''):Pass M (.ZT l f l' ps r b t) n t'' n3:=λR z=>z.2.2.2.1 (k R z) (k' R z) m s
theorem Pass.ZZ(k:Pass M as n as' n1):Pass M (.ZZ g as) n (.ZZ g as') n1:=λR z=>z.2.2.2.2.1 (k R z)
theorem Pass.nil:Pass M .nil n .nil n:=λR z=>z.2.2.2.2.2.1
theorem Pass.cons(k:Pass M a n a' n1)(k':Pass M t n1 t' n2):Pass M (.cons a t) n (.cons a' t') n2:=λR z=>z.2.2.2.2.2.2 (k R z) (k' R z)
end
theorem Kr{t:T}(h:t.Zw=true):t.len=0:=by induction t using jT<;>first|rfl|exact Zv h
structure Kept(n n':Nat)(V P:Sc)(t t':T):Prop where
 g:Gr n n' (λx=>t.tc x) λx=>t'.tc x
 sc:t'.sc V P
 wl:Wl t t'
 le:∀B,W_ (fQ t' B) (fQ t B)
theorem Kept.iv(h:Kept n n' V P t t')(i:Iv n V P t):Iv n' V P t':=
 ⟨h.sc,h.wl.w i.w,h.g.one i.u,λx z=>⟨h.g.zero (i.k x z).1 (i.k x z).2,c7 (i.k x z).2 h.g.le⟩,h.g.out⟩
theorem Pass.kept(HM:∀n m cs n',M n m cs n'->(∀x,m.tc x<=1)->(∀x,n<x->m.tc x=0)->Cs n m cs n')(h:Pass M t n t' n'):∀{V P:Sc},Iv n V P t->Kept n n' V P t t':=by
 have own:∀{n:Nat} {ns:List Nat} {c:Nat->Nat},(∀x,n<x->ns.count x+c x=0)->Gr n n (λx=>ns.count x) λx=>ns.count x:=λh=>.refl λx q=>b6 (h x q)
 intro V P i
 refine h (λt n t' n'=>∀{V P:Sc},Iv n V P t->Kept n n' V P t t') ⟨λih=>?_,λ{l ps r b as n b' n1 as' n2} ihb iha=>?_,λ{l f l' ps r b t n t' n1 b' n2} wg ihb=>?_,λ{l f l' ps r b t n t' n1 b' n2 cs n3 t''} wg ihb hm hs=>?_,λih=>?_,λi=>⟨.refl i.b,trivial,⟨rfl,rfl,id⟩,λY=>.refl⟩,λih1 ih2=>?_⟩ i
 ·intro V P i
  have k:=ih (i.part i.sc.2 i.w.2.2 λY=>cO _)
  exact⟨k.g,⟨i.sc.1,k.sc⟩,⟨rfl,rfl,λw=>⟨k.wl.l▸w.1,k.wl.c w.2⟩⟩,λB=>W_.node (.refl _) (k.le B)⟩
 ·intro V P i
  have kb:=ihb (i.in (l::bs ps r) i.sc.2 i.w.1.2.1 (λx=>cR _ _) λx z=>z.elim (λz=>z.imp (.tail _) .inl) λz=>.inr (.inr z))
  have ka:=iha ((i.part i.sc.1 i.w.2.2 λx=>cj _ _).mono kb.g.le)
  exact⟨((own λx q=>b6 (i.b x q)).add kb.g λx q=>b8 (b6 (i.b x q))).add ka.g λx q=>b8 (i.b x q),⟨ka.sc,kb.sc⟩,⟨rfl,rfl,λw=>⟨kb.wl.b w.1,ka.wl.c w.2⟩⟩,
   λB=>SR (m:=⟨l,ps,r,b⟩) (m':=⟨l,ps,r,b'⟩) (XX rfl rfl λc=>kb.le _) (ka.le B)⟩
 ·intro V P i
  have q1:∀x,(l::f::l'::bs ps r).count x+t.tc x<=(l::f::l'::bs ps r).count x+b.tc x+t.tc x:=λx=>bx (cR _ _) _
  have kt:=wg (i.in (l::f::l'::bs ps r) i.sc.2 i.w.2.2 q1 λx z=>z.elim (λz=>.inr (.inl z)) λz=>z.elim (λz=>.inl (z▸.tail _ (.head _))) λz=>.inr (.inr z))
  have kb:=ihb ((i.in (l::f::l'::bs ps r) i.sc.1 i.w.1.2.1 (λx=>cR _ _) λx z=>z.elim (λz=>z.imp (λz=>.tail _ (.tail _ (.tail _ z))) .inl) λz=>.inr (.inr z)).mono kt.g.le)
  have h1:∀B,Xd (some (Lm.Yd ⟨l',ps,r,b'⟩ B)) (some (Lm.Yd ⟨l',ps,r,b⟩ B)):=λB=>XX rfl rfl λc=>kb.le _
  have z:=λx q=>b6 (i.b x q)
  have g:=((own z).add kt.g λx q=>b8 (i.b x q)).add kb.g λx q=>b8 (z x q)
  refine⟨⟨g.le,λx q=>?_,λx q q'=>?_,λx q=>?_⟩,⟨kb.sc,kt.sc⟩,⟨rfl,rfl,λw=>⟨kb.wl.b w.1,kt.wl.c w.2⟩⟩,λB=>VV (m:=⟨l',ps,r,b⟩) (m':=⟨l',ps,r,b'⟩) (h1 B) ((kt.le _).trans (Tg t λx=>W9 Iff.rfl (h1 B) λY=>.refl _))⟩
  ·have:=g.old x q;simp only[Xo,XT,XS]at this⊢;exact Z7 this
  ·have:=g.new x q q';simp only[Xo,XT,XS]at this⊢;exact Z7 this
  ·have:=g.out x q;simp only[Xo,XT,XS]at this⊢;exact bF (Z7 (cV this)) (bV _)
 ·intro V P i
  have q1:∀x,(l::f::l'::bs ps r).count x+t.tc x<=(l::f::l'::bs ps r).count x+b.tc x+t.tc x:=λx=>bx (cR _ _) _
  have kt:=wg (i.in (l::f::l'::bs ps r) i.sc.2 i.w.2.2 q1 λx z=>z.elim (λz=>.inr (.inl z)) λz=>z.elim (λz=>.inl (z▸.tail _ (.head _))) λz=>.inr (.inr z))
  have kb:=ihb ((i.in (l::f::l'::bs ps r) i.sc.1 i.w.1.2.1 (λx=>cR _ _) λx z=>z.elim (λz=>z.imp (λz=>.tail _ (.tail _ (.tail _ z))) .inl) λz=>.inr (.inr z)).mono kt.g.le)
  have h1:∀B,Xd (some (Lm.Yd ⟨l',ps,r,b'⟩ B)) (some (Lm.Yd ⟨l',ps,r,b⟩ B)):=λB=>XX rfl rfl λc=>kb.le _
  have z:=λx q=>b6 (i.b x q)
  have g:=((own z).add kt.g λx q=>b8 (i.b x q)).add kb.g λx q=>b8 (z x q)
  have u:=i.u
  have co:∀x,(l::f::l'::bs ps r).count x=[l].count x+[f].count x+(l'::bs ps r).count x:=λx=>by
   rw[show l::f::l'::bs ps r=[l]++[f]++(l'::bs ps r)from rfl,bM,bM]
  have one:∀x,(l::f::l'::bs ps r).count x+t'.tc x+b'.tc x<=1:=g.one λx=>by have:=u x;simp only[Xo,XT,XS]at this;exact Z7 this
  have mt:∀x,Lm.tc x ⟨l',ps,r,b'⟩=(l'::bs ps r).count x+b'.tc x:=λY=>rfl
  have c:=HM _ _ _ _ hm (λx=>by rw[mt];exact Z7 (cV (co x).symm) (Z7 (one x))) λx q=>by rw[mt];exact ah.mp (Z7 (cV (co x).symm) (Z7 (cV (g.out x q))))
  have old:∀x,x<=n2->Pp x cs<=(l'::bs ps r).count x+b'.tc x:=λx q=>c.old x q
  have tc:=λx=>hs.tc (x:=x)
  have vk:∀x,V x\/P x->x≠f/\t'.tc x=0/\Lm.tc x ⟨l',ps,r,b'⟩=0/\x<=n2:=λx h=>by
   have a:=i.k x h
   have a1:(l::f::l'::bs ps r).count x+b.tc x+t.tc x=0:=a.1
   have e:=g.old x a.2
   have ne:x≠f:=λq=>by subst q;have:=bD.mpr (aR l (List.mem_cons_self (a:=x) (l:=l'::bs ps r)));exact absurd (Z7 this (Z7 (cV a1)):1<=0) (by decide)
   have:=co x
   exact⟨ne,bF (Z7 e (Z7 (cV a1))) (bV _),by rw[mt];exact bF (Z7 (cV this.symm) (Z7 e (Z7 (cV a1)))) (bV _),c7 a.2 g.le⟩
  have ok:=c.ok V P kb.sc λx h=>⟨(vk x h).2.2.2,(vk x h).2.2.1⟩
  refine⟨⟨c7 g.le c.le,λx q=>?_,λx q q'=>?_,λx q=>?_⟩,hs.sc kt.sc (λx h n=>h.resolve_left n) λm h=>(ok m h).1,?_,λB=>?_⟩
  ·show t''.tc x<=(l::f::l'::bs ps r).count x+b.tc x+t.tc x;exact Z7 (cV (tc x)) (Z7 (old x (c7 q g.le)) (Z7 (cV (co x).symm) (Z7 (g.old x q))))
  ·show t''.tc x<=1
   rw[tc x]
   by_cases k:x<=n2
   ·exact Z7 (old x k) (Z7 (cV (co x).symm) (Z7 (one x)))
   ·exact Z7 (c.new x (aF k) q') (Z7 (cV (g.out x (aF k))))
  ·show t''.tc x=0
   rw[tc x];exact ah.mp (Z7 (cV (c.out x q)) (Z7 (cV (g.out x (cD c.le q)))))
  ·have w:=hs.wl (c.wf (kb.wl.b i.w.1))
   exact⟨w.e.trans (kt.wl.e.trans i.w.2.1),(Kr (w.e.trans (kt.wl.e.trans i.w.2.1))).trans rfl,λk=>w.w (kt.wl.w k.2.2)⟩
  ·have k1:W_ (fQ (.ZT l f l' ps r b' t') B) (fQ (.ZT l f l' ps r b t) B):=VV (m:=⟨l',ps,r,b⟩) (m':=⟨l',ps,r,b'⟩) (h1 B) ((kt.le _).trans (Tg t λx=>W9 Iff.rfl (h1 B) λY=>.refl _))
   refine W_.trans ?_ k1
   have fe:=one f
   have pn:1<=(l::f::l'::bs ps r).count f:=bD.mpr (.tail _ (.head _))
   have d:=hs.le (F:=λx=>V x\/P x) (Po:=B) (B:=B.put f (Lm.Yd ⟨l',ps,r,b'⟩ B)) (λx h=>⟨λe=>absurd (ah.mp (Z7 pn (Z7 fe))) (e▸h),λh'=>h (vk x h').2.1⟩)
    (λx h=>by rw[Zx (vk x h).1];exact .refl _) λm h ρ' e=>by rw[Yn];exact(ok m h).2 _ _ e
   have d2:W_ (fQ t'' B) (fQ t'' (B.put f (Lm.Yd ⟨l',ps,r,b'⟩ B))):=N3 t'' (hs.sc kt.sc (λx h n=>h.resolve_left n) λm h=>(ok m h).1) λx h=>by rw[Zx (vk x h).1];exact .refl _
   have d3:=d2.trans d
   exact⟨d3.e.trans (Yc (kt.wl.e.trans i.w.2.1) _),c7 d3.l (c7 (cR _ _) (cR _ _))⟩
 ·intro V P i
  have k:=ih (i.part i.sc.2 i.w.2 λY=>cO _)
  exact⟨k.g,⟨i.sc.1,k.sc⟩,⟨rfl,rfl,k.wl.c⟩,λB=>Wb (.refl _) (k.le B)⟩
 ·intro V P i
  have k1:=ih1 (i.part i.sc.1 i.w.1.2 λx=>cR _ _)
  have k2:=ih2 ((i.part i.sc.2 i.w.2.2 λx=>cj _ _).mono k1.g.le)
  exact⟨k1.g.add k2.g λx q=>b8 (i.b x q),⟨k1.sc,k2.sc⟩,⟨rfl,congrArg (·+1) k2.wl.l,λw=>⟨k1.wl.c w.1,k2.wl.c w.2⟩⟩,λB=>W_.cons (k1.le B) (k2.le B)⟩
noncomputable def Hd.Wu(σ:Nat->Nat):Hd->Hd
 |.loc x=>.loc (σ x)
 |.YG x=>.YG (σ x)
 |h=>h
noncomputable def T.Wu(σ:Nat->Nat):T->T
 |.node h ts=>.node (h.Wu σ) (ts.Wu σ)
 |.app l ps r b as=>.app (σ l) (ps.map σ) (r.map σ) (b.Wu σ) (as.Wu σ)
 |.ZT l f l' ps r b t=>.ZT (σ l) (σ f) (σ l') (ps.map σ) (r.map σ) (b.Wu σ) (t.Wu σ)
 |.ZZ f as=>.ZZ (σ f) (as.Wu σ)
 |.nil=>.nil
 |.cons h t=>.cons (h.Wu σ) (t.Wu σ)
noncomputable def Lm.Wu(σ:Nat->Nat)(m:Lm):Lm:=⟨σ m.l,m.ps.map σ,m.r.map σ,m.b.Wu σ⟩
noncomputable def T.tags:T->List Nat
 |.node _ ts=>ts.tags
 |.app l ps r b as=>(l::bs ps r)++b.tags++as.tags
 |.ZT l f l' ps r b t=>(l::f::l'::bs ps r)++b.tags++t.tags
 |.ZZ _ as=>as.tags
 |.nil=>[]
 |.cons h t=>h.tags++t.tags
theorem Yb(x:Nat):∀t:T,t.tc x=t.tags.count x
 |.node _ ts=>Yb x ts
 |.app l ps r b as=>by show _+b.tc x+as.tc x=((l::bs ps r)++b.tags++as.tags).count x;rw[bM,bM,Yb x b,Yb x as]
 |.ZT l f l' ps r b t=>by show _+b.tc x+t.tc x=((l::f::l'::bs ps r)++b.tags++t.tags).count x;rw[bM,bM,Yb x b,Yb x t]
 |.ZZ _ as=>Yb x as
 |.nil=>rfl
 |.cons h t=>by show h.tc x+t.tc x=(h.tags++t.tags).count x;rw[bM,Yb x h,Yb x t]
theorem GC{t:T}{x:Nat}:x∈t.tags↔t.tc x≠0:=by rw[Yb,<-Zp3,bD]
theorem Wa:bs (ps.map σ) (r.map σ)=(bs ps r).map σ:=by induction r using jO<;>simp[bs]
theorem X_:∀t:T,(t.Wu σ).tags=t.tags.map σ
 |.node _ ts=>X_ ts
 |.app l ps r b as=>by show(σ l::bs (ps.map σ) (r.map σ))++(b.Wu σ).tags++(as.Wu σ).tags=_;rw[Wa,X_ b,X_ as];exact(bw (l₁:=(l::bs ps r)++b.tags).trans (congrArg (·++as.tags.map σ) (bw (l₁:=l::bs ps r)))).symm
 |.ZT l f l' ps r b t=>by show(σ l::σ f::σ l'::bs (ps.map σ) (r.map σ))++(b.Wu σ).tags++(t.Wu σ).tags=_;rw[Wa,X_ b,X_ t];exact(bw (l₁:=(l::f::l'::bs ps r)++b.tags).trans (congrArg (·++t.tags.map σ) (bw (l₁:=l::f::l'::bs ps r)))).symm
 |.ZZ _ as=>X_ as
 |.nil=>rfl
 |.cons h t=>by show(h.Wu σ).tags++(t.Wu σ).tags=_;rw[X_ h,X_ t];exact bw.symm
theorem XH:∀t:T,Wl t (t.Wu σ)
 |.node h ts=>⟨rfl,rfl,λw=>⟨(XH ts).l.symm▸(show(h.Wu σ).ar ts.len=true by induction h using jD<;>exact w.1),(XH ts).c w.2⟩⟩
 |.app l ps r b as=>⟨rfl,rfl,λw=>⟨by rw[Wa,cM];exact(XH b).b w.1,(XH as).c w.2⟩⟩
 |.ZT l f l' ps r b t=>⟨rfl,rfl,λw=>⟨by rw[Wa,cM];exact(XH b).b w.1,(XH t).c w.2⟩⟩
 |.ZZ _ as=>⟨rfl,rfl,(XH as).c⟩
 |.nil=>⟨rfl,rfl,id⟩
 |.cons h t=>⟨rfl,congrArg (·+1) (XH t).l,λw=>⟨(XH h).c w.1,(XH t).c w.2⟩⟩
theorem BR:∀(t:T) {V P V' P':Sc},t.sc V P->(∀x,V x->V' (σ x))->(∀x,P x->P' (σ x))->(t.Wu σ).sc V' P':=by
 refine hM ?_;intro MM t;induction t with
 |node h ts ih=>
  intro _ _ _ _ s a b
  exact⟨λx e=>by induction h using jD<;>cases e<;>exact a _ (s.1 _ rfl),ih s.2 a b⟩
 |app l ps r p as ip N2=>
  intro _ _ _ _ s a b
  exact⟨N2 s.1 a b,ip s.2 (λx h=>h.imp (λh=>Wa▸Zt7 h) (a x)) b⟩
 |ZT l f l' ps r p t ip it=>
  intro _ _ _ _ s a b
  exact⟨ip s.1 (λx h=>h.imp (λh=>Wa▸Zt7 h) (a x)) b,it s.2 a λx h=>h.imp (congrArg σ) (b x)⟩
 |ZZ f as ih=>
  intro _ _ _ _ s a b
  exact⟨b _ s.1,ih s.2 a b⟩
 |nil=>
  intro _ _ _ _ _ _ _
  exact trivial
 |cons h t ih it=>
  intro _ _ _ _ s a b
  exact⟨ih s.1 a b,it s.2 a b⟩
theorem BQ:∀(t:T) {V P:Sc} {B ρ':Env},t.sc V P->(∀x y,(V x\/P x\/x∈t.tags)->(V y\/P y\/y∈t.tags)->σ x=σ y->x=y)->(∀x,V x\/P x->Xd (ρ' (σ x)) (B x))->W_ (fQ (t.Wu σ) ρ') (fQ t B):=by
 refine hM ?_;intro MM t;induction t with
 |node h ts ih=>
  intro V P B ρ' s j e
  have k:Xd ((h.Wu σ).var.bind ρ') (h.var.bind B):=by
   induction h using jD<;>first|exact .none|exact e _ (.inl (s.1 _ rfl))
  have z:∀b ds,sem (h.Wu σ) b ds=sem h b ds:=λb ds=>by induction h using jD<;>rfl
  have q:=ih s.2 j e
  exact⟨show[sem (h.Wu σ) _ _]=[sem h _ _] by rw[z,q.e,k.sem],aU q.l (cV (by induction h using jD<;>rfl))⟩
 |app l ps r b as ib N2=>
  intro V P B ρ' s j e
  have m1:∀{x},x∈bs ps r->x∈T.tags (.app l ps r b as):=λh=>cH _ (cH _ (.tail _ h))
  have m2:∀{x},x∈b.tags->x∈T.tags (.app l ps r b as):=λh=>cH _ (cC _ h)
  have m3:∀{x},x∈as.tags->x∈T.tags (.app l ps r b as):=λh=>cC _ h
  have w:∀x,(x∈bs ps r\/V x)\/P x\/x∈b.tags->V x\/P x\/x∈T.tags (.app l ps r b as):=λx h=>h.elim (λh=>h.elim (λh=>.inr (.inr (m1 h))) .inl) λh=>.inr (h.imp_right m2)
  exact SR (m:=⟨l,ps,r,b⟩) (m':=⟨σ l,ps.map σ,r.map σ,b.Wu σ⟩) (XX (cM ..) Zm6 λc=>ib s.2 (λx y hx hy=>j x y (w x hx) (w y hy)) λx h=>
   VX (λn=>e x (h.imp_left λq=>q.resolve_left n)) λp hp=>j x p (w x (h.imp_right .inl)) (.inr (.inr (m1 hp)))) (N2 s.1 (λx y hx hy=>j x y (hx.imp_right (Zr0 m3)) (hy.imp_right (Zr0 m3))) e)
 |ZT l f l' ps r b t ib it=>
  intro V P B ρ' s j e
  have m1:∀{x},x∈bs ps r->x∈T.tags (.ZT l f l' ps r b t):=λh=>cH _ (cH _ (.tail _ (.tail _ (.tail _ h))))
  have m2:∀{x},x∈b.tags->x∈T.tags (.ZT l f l' ps r b t):=λh=>cH _ (cC _ h)
  have m3:∀{x},x∈t.tags->x∈T.tags (.ZT l f l' ps r b t):=λh=>cC _ h
  have mf:f∈T.tags (.ZT l f l' ps r b t):=cH _ (cH _ (.tail _ (.head _)))
  have w:∀x,(x∈bs ps r\/V x)\/P x\/x∈b.tags->V x\/P x\/x∈T.tags (.ZT l f l' ps r b t):=λx h=>h.elim (λh=>h.elim (λh=>.inr (.inr (m1 h))) .inl) λh=>.inr (h.imp_right m2)
  have w2:∀x,V x\/(x=f\/P x)\/x∈t.tags->V x\/P x\/x∈T.tags (.ZT l f l' ps r b t):=λx h=>h.imp_right λh=>h.elim (λh=>h.elim (λh=>.inr (h▸mf)) .inl) λh=>.inr (m3 h)
  have h1:Xd (some (Lm.Yd ⟨σ l',ps.map σ,r.map σ,b.Wu σ⟩ ρ')) (some (Lm.Yd ⟨l',ps,r,b⟩ B)):=XX (cM ..) Zm6 λc=>ib s.1 (λx y hx hy=>j x y (w x hx) (w y hy)) λx h=>
   VX (λn=>e x (h.imp_left λq=>q.resolve_left n)) λp hp=>j x p (w x (h.imp_right .inl)) (.inr (.inr (m1 hp)))
  exact VV (m:=⟨l',ps,r,b⟩) (m':=⟨σ l',ps.map σ,r.map σ,b.Wu σ⟩) h1 (it s.2 (λx y hx hy=>j x y (w2 x hx) (w2 y hy)) λx h=>
   W9 ⟨λq=>j x f (w2 x (h.imp_right .inl)) (.inr (.inr mf)) q,λq=>congrArg σ q⟩ h1 λn=>e x (h.imp_right λq=>q.resolve_left n))
 |ZZ f as ih=>
  intro V P B ρ' s j e
  exact Wb (e f (.inr s.1)) (ih s.2 j e)
 |nil=>
  intro _ _ _ _ _ _ _
  exact .refl
 |cons h t ih it=>
  intro V P B ρ' s j e
  exact W_.cons (ih s.1 (λx y hx hy=>j x y (hx.imp_right (Zr0 (cH _))) (hy.imp_right (Zr0 (cH _)))) e)
   (it s.2 (λx y hx hy=>j x y (hx.imp_right (Zr0 (cC _))) (hy.imp_right (Zr0 (cC _)))) e)
structure LO(m:Lm)(n:Nat)(c:Lm)(n':Nat):Prop where
 le:n<=n'
 ex:∃σ:Nat->Nat,c=m.Wu σ/\(∀x,m.tc x≠0->n<σ x/\σ x<=n')/\(∀x,m.tc x=0->σ x=x)/\∀x y,m.tc x≠0->m.tc y≠0->σ x=σ y->x=y
def we(R:Nat->Lm->Nat->Prop)(c_:Nat->List Lm->Nat->Prop):Prop:=(∀{n},c_ n [] n)/\∀{n c n1 cs n2},R n c n1->c_ n1 cs n2->c_ n (c::cs) n2
def UY(R:Nat->Lm->Nat->Prop)(n:Nat)(cs:List Lm)(n':Nat):Prop:=∀c_,we R c_->c_ n cs n'
theorem UY.nil:UY R n [] n:=λc_ z=>z.1
theorem UY.cons{R:Nat->Lm->Nat->Prop}{n n1 n2:Nat}{c:Lm}{cs:List Lm}(h:R n c n1)(k:UY R n1 cs n2):UY R n (c::cs) n2:=λc_ z=>z.2 h (k c_ z)
abbrev LM(m:Lm):Nat->List Lm->Nat->Prop:=UY (LO m)
theorem LK{σ:Nat->Nat}:∀{l:List Nat},(∀x y,x∈l->y∈l->σ x=σ y->x=y)->(∀x,l.count x<=1)->∀z,(l.map σ).count z<=1:=by
 intro l;induction l with
 |nil=>
  intro _ _ _
  exact bV _
 |cons a l ih=>
  intro j u z
  have ih:=ih (λx y h k=>j x y (.tail _ h) (.tail _ k)) (λx=>c7 (List.count_le_count_cons ..) (u x)) z
  rw[Zp9,List.count_cons]
  by_cases q:σ a=z
  ·have:(l.map σ).count z=0:=Zt1.mpr λh=>by
    obtain⟨b,hb,e⟩:=bu.mp h
    have:=j b a (.tail _ hb) (.head _) (e.trans q.symm)
    subst this
    have k:=u b
    rw[List.count_cons_self]at k
    exact Zz9 (bD.mpr hb) (ah.mp (Zy1 k))
   rw[this]
   split
   ·exact cO _
   ·exact bV _
  ·rw[if_neg (by simpa using q)];exact ih
theorem LO.tc{m c:Lm}{n n':Nat}(h:LO m n c n')(u:∀x,m.tc x<=1):∀x,(x<=n->c.tc x=0)/\c.tc x<=1/\(n'<x->c.tc x=0):=by
 refine hG ?_;intro PP
 obtain⟨_,σ,rfl,a,_,j⟩:=h
 have e:∀x,Lm.tc x m=(T.tags (.app m.l m.ps m.r m.b .nil)).count x:=λx=>Yb x (.app m.l m.ps m.r m.b .nil)
 have e':∀x,Lm.tc x (m.Wu σ)=((T.tags (.app m.l m.ps m.r m.b .nil)).map σ).count x:=λx=>by rw[<-X_];exact Yb x (.app (σ m.l) (m.ps.map σ) (m.r.map σ) (m.b.Wu σ) .nil)
 have i:∀{x},x∈T.tags (.app m.l m.ps m.r m.b .nil)->m.tc x≠0:=λh=>by rw[e];exact Zz9 (bD.mpr h)
 have z:∀x,(∀y,m.tc y≠0->σ y≠x)->Lm.tc x (m.Wu σ)=0:=λx h=>by
  rw[e'];exact Zt1.mpr λk=>eE (bu.mp k) λy Z=>aE Z λhy q=>h y (i hy) q
 refineλx=>⟨λk=>z x λy hy q=>?_,?_,λk=>z x λy hy q=>?_⟩
 ·have:=a y hy;exact absurd (Z7 this.1 (Z7 (cV q) (Z7 k)):1<=0) (by decide)
 ·rw[e'];exact LK (λx y hx hy=>j x y (i hx) (i hy)) (λx=>e x▸u x) x
 ·have:=a y hy;exact absurd (Z7 k (Z7 (cV q.symm) (Z7 this.2)):1<=0) (by decide)
theorem LM.cs{m:Lm}{n n':Nat}{cs:List Lm}(h:LM m n cs n')(u:∀x,m.tc x<=1):(∀x,n<x->m.tc x=0)->Cs n m cs n':=by
 refine h (λn cs n'=>(∀x,n<x->m.tc x=0)->Cs n m cs n') ⟨?_,λ{n c n1 cs n2} h ih=>?_⟩
 ·exactλY=>⟨cO _,λY c h=>(xm h),λY Y Y Y c h=>(xm h),λY Y=>bV _,λY Y Y=>bV _,λY Y=>rfl⟩
 ·intro b
  have t:=h.tc u
  have ih:=ih λx q=>b x (cD h.le q)
  obtain⟨hl,σ,rfl,a,z,j⟩:=h
  refine⟨c7 hl ih.le,λw c hc=>?_,λV P s k c hc=>?_,λx q=>?_,λx q q'=>?_,λx q=>?_⟩
  ·rcases cJ.mp hc with rfl|hc
   ·exact⟨(XH m.b).e.trans w.1,(XH m.b).w w.2.1,by show(bs (m.ps.map σ) (m.r.map σ)).length<=3;rw[Wa,cM];exact w.2.2⟩
   ·exact ih.wf w c hc
  ·rcases cJ.mp hc with rfl|hc
   ·have f:∀x,V x\/P x->σ x=x:=λx h=>z x (k x h).2
    have tm:∀{x},x∈bs m.ps m.r\/x∈m.b.tags->m.tc x≠0:=λ{x} h=>by
     unfold Lm.tc
     rcases h with h|h
     ·have:=bD.mpr (aR m.l h);exact Zz9 (Zv9 this)
     ·exact xG (GC.mp h)
    have jj:∀x y,(V x\/P x\/m.tc x≠0)->(V y\/P y\/m.tc y≠0)->σ x=σ y->x=y:=λx y hx hy e=>by
     by_cases p:m.tc x=0<;>by_cases q:m.tc y=0
     ·rwa [z x p,z y q]at e
     ·rw[z x p]at e;exact absurd (e▸(k x (hx.elim .inl λh=>.inr (h.resolve_right λh=>h p))).1) (Zm5.mpr (a y q).1)
     ·rw[z y q]at e;exact absurd (e▸(k y (hy.elim .inl λh=>.inr (h.resolve_right λh=>h q))).1) (Zm5.mpr (a x p).1)
     ·exact j x y p q e
    refine⟨BR m.b s (λx h=>h.imp (λh=>Wa▸Zt7 h) λh=>(f x (.inl h)).symm▸h) λx h=>(f x (.inr h)).symm▸h,λB ρ' e=>?_⟩
    have w:∀{x},(x∈bs m.ps m.r\/V x)\/P x\/x∈m.b.tags->V x\/P x\/m.tc x≠0:=λh=>h.elim (λh=>h.elim (λh=>.inr (.inr (tm (.inl h)))) .inl) λh=>.inr (h.imp_right λh=>tm (.inr h))
    exact XX (cM ..) Zm6 λc=>BQ m.b s (λx y hx hy=>jj x y (w hx) (w hy)) λx h=>
     VX (λn=>by rw[f x (h.imp_left λq=>q.resolve_left n)];exact e x (h.imp_left λq=>q.resolve_left n)) λp hp=>jj x p (w (h.imp_right .inl)) (.inr (.inr (tm (.inl hp))))
   ·exact ih.ok V P s (λx h=>⟨c7 (k x h).1 hl,(k x h).2⟩) c hc
  ·show Lm.tc x (m.Wu σ)+Pp x cs<=_
   rw[(t x).1 q,a_];exact ih.old x (c7 q hl)
  ·show Lm.tc x (m.Wu σ)+Pp x cs<=1
   by_cases p:x<=n1
   ·exact Z7 (t x).2.1 (Z7 (ih.old x p) (Z7 (cV (b x q))))
   ·rw[(t x).2.2 (aF p),a_];exact ih.new x (aF p) q'
  ·show Lm.tc x (m.Wu σ)+Pp x cs=0
   rw[(t x).2.2 (cD ih.le q),ih.out x q]
def LJ:d7:=λn m cs n'=>n'=n/\(cs=[]\/cs=[m])
theorem BP{n n':Nat}{m:Lm}{cs:List Lm}(h:LJ n m cs n')(b:∀x,n<x->m.tc x=0):Cs n m cs n':=by
 obtain⟨rfl,rfl|rfl⟩:=h
 ·exact⟨cO _,λY c h=>(xm h),λY Y Y Y c h=>(xm h),λY Y=>bV _,λY Y Y=>bV _,λY Y=>rfl⟩
 ·refine⟨cO _,λw c h=>cP.mp h▸w,λV P s Y c h=>?_,λY Y=>cO _,λx q q'=>absurd q (Zx3.mpr q'),λx q=>b x q⟩
  obtain rfl:=cP.mp h
  exact⟨s,λB ρ' e=>XX rfl rfl λc=>N3 _ s λx h=>Vo λn=>e x (h.imp_left λq=>q.resolve_left n)⟩
theorem WX{t t':T}{n n':Nat}{V P:Sc}(h:Pass LJ t n t' n')(i:Iv n V P t):Kept n n' V P t t':=h.kept (λY Y Y Y m Y b=>BP m b) i
theorem XN{t t':T}{n n':Nat}{V P:Sc}(h:Pass (λn m cs n'=>LM m n cs n') t n t' n')(i:Iv n V P t):Kept n n' V P t t':=h.kept (λY Y Y Y m u b=>LM.cs m u b) i
noncomputable def T.wrap:Nat->T->T
 |n+1,.cons h t=>.cons h (t.wrap n)
 |_,t=>.cons (.node (.prim .list) t) .nil
noncomputable def ZH(l:Nat)(ps:List Nat)(r:Option Nat)(b as:T):T:=match r with
 |none=>bif cZ ps.length 0&&cZ as.len 0 then b else .app l ps none b as
 |some x=>bif Zw0 ps.length as.len then .app l (ps++[x]) none b (as.wrap ps.length)else .app l ps (some x) b as
noncomputable def T.beta:T->T
 |.node h ts=>.node h ts.beta
 |.app l ps r b as=>ZH l ps r b.beta as.beta
 |.ZT l f l' ps r b t=>.ZT l f l' ps r b.beta t.beta
 |.ZZ f as=>.ZZ f as.beta
 |.nil=>.nil
 |.cons h t=>.cons h.beta t.beta
theorem Ud(t:T):t.wrap 0=.cons (.node (.prim .list) t) .nil:=by induction t using jT<;>rfl
theorem Xw{α β γ:Type}(o:e_ α)(f:α->St->e_ β)(g:β->St->e_ γ):(o.bind f).bind g=o.bind λa st=>(f a st).bind g:=by induction o using jK<;>rfl
theorem GB{α β:Type}{a:α}{st:St}{f:α->St->e_ β}:(e_.ok a st).bind f=f a st:=rfl
theorem Tf{α β:Type}{o:e_ α}{f g:α->St->e_ β}(h:∀a st,o=.ok a st->f a st=g a st):o.bind f=o.bind g:=by
 induction o using jK with
 |ok a st=>exact h a st rfl
 |er e st=>rfl
theorem WL(ds:List D):∀(st:St) {vs:List fL} {st':St},ZQ ds st=.ok vs st'->vs.length=ds.length:=by
 induction ds with
 |nil=>intro st vs st' h;cases h;rfl
 |cons d ds ih=>
  intro st vs st' h
  have h:((ff d st).bind λv st=>(ZQ ds st).bind λvs st=>.ok (v::vs) st)=.ok vs st':=h
  induction q:ff d st using jK with
  |er e s=>rw[q]at h;exact xE h
  |ok v s=>
   rw[q]at h
   have h:((ZQ ds s).bind λvs st=>.ok (v::vs) st)=.ok vs st':=h
   induction q':ZQ ds s using jK with
   |er e s=>rw[q']at h;exact xE h
   |ok ws s'=>rw[q']at h;cases h;exact congrArg (·+1) (ih s q')
@[elab_as_elim]theorem T.Kp{P:T->Prop}{t:T}(h:t.Zw=false)(n:P .nil)(c:∀a b,P (.cons a b)):P t:=by
 induction t using jT with
 |nil=>exact n
 |cons=>exact c _ _
 |_=>exact Wf h
@[elab_as_elim]theorem T.pg{P:T->Prop}{t:T}(h:t.Zw=false)(n:P .nil)(c:∀a b,(b.Zw=false->P b)->P (.cons a b)):P t:=by
 induction t with
 |nil=>exact n
 |cons a b _ ih=>exact c a b ih
 |_=>exact Wf h
theorem M3{t:T}(h:t.Zw=false):t.wf->∀B,(fQ t B).ds.length=t.len:=by
 refine T.pg h (λ_ _=>rfl) λh t ih w B=>?_
 show((fQ h B).ds++(fQ t B).ds).length=t.len+1
 rw[Yc w.1.1,cS,ih w.2.1 w.2.2]
 exact aH _ _
theorem Ko{n:Nat}:∀{t:T},t.Zw=false->t.wf->n<=t.len->∀B,(∀st,ZQ (fQ (t.wrap n) B).ds st=(ZQ (fQ t B).ds st).bind λvs st=>.ok (vs.take n++[Wc (vs.drop n) st.np]) {st with np:=st.np+(vs.length-n)})/\(fQ (t.wrap n) B).n<=(fQ t B).n+1:=by
 induction n with
 |zero=>
  intro t Y Y Y B
  rw[Ud]
  refine⟨λst=>?_,cO _⟩
  show((ff (λst=>(ZQ (fQ t B).ds st).bind λvs st=>Yh .list vs st) st).bind λv st=>.ok [v] st)=_
  unfold ff
  rw[Xw,Xw]
  refine Tf λvs s Y=>?_
  induction vs using jL<;>rfl
 |succ n ih=>
  intro t he
  refine T.Kp he (λY l=>absurd l (Zu8 _)) λh t w l B=>?_
  obtain⟨a,b⟩:=ih w.2.1 w.2.2 (Zy1 l) B
  refine⟨λst=>?_,bx (aP b _) 1⟩
  show ZQ ((fQ h B).ds++(fQ (t.wrap n) B).ds) st=(ZQ ((fQ h B).ds++(fQ t B).ds) st).bind _
  rw[Yc w.1.1]
  show((ff (one (fQ h B).ds) st).bind λv st=>(ZQ (fQ (t.wrap n) B).ds st).bind λvs st=>.ok (v::vs) st)=((ff (one (fQ h B).ds) st).bind λv st=>(ZQ (fQ t B).ds st).bind λvs st=>.ok (v::vs) st).bind _
  rw[Xw]
  refine Tf λv s Y=>?_
  rw[a s,Xw,Xw]
  refine Tf λvs s' Y=>?_
  show e_.ok _ _=e_.ok _ _
  rw[List.take_succ_cons,List.drop_succ_cons,bG,Nat.add_sub_add_right];rfl
theorem putAll_snoc(x:Nat):∀(ps:List Nat) (B:Env) (c:Nat),putAll B (ps++[x]) c=(putAll B ps c).put x (.cell (c+ps.length))
 |[],_,_=>rfl
 |p::ps,B,c=>by
  show putAll (B.put p (.cell c)) (ps++[x]) (c+1)=_
  rw[putAll_snoc x ps,bG,aZ,aH 1];rfl
theorem GA{l:Nat}{ps:List Nat}{r:Option Nat}{b as:T}{B:Env}(hb:b.Zw=true)(ha:as.Zw=false)(wa:as.wf):W_ (fQ (ZH l ps r b as) B) (fQ (.app l ps r b as) B):=by
 unfold ZH
 induction r using jO with
 |none=>
  show W_ (fQ (bif _ then b else .app l ps none b as) B) _
  induction h:cZ ps.length 0&&cZ as.len 0 using jB with
  |false=>exact .refl
  |true=>
   obtain⟨h1,h2⟩:=cN.mp h
   obtain rfl:=bQ.mp (cW h1)
   have e:as=.nil:=by induction as using jT<;>first|rfl|exact Zu2 (show true=false from ha)|exact Zu2 (show false=true from h2)
   subst e
   refine⟨(Yc hb B).trans ?_,show(fQ b B).n<=0+((fQ b B).n+1) by simp+arith only⟩
   show[one (fQ b B).ds]=[λst=>one (fQ b B).ds {st with cells:=st.cells++[]}]
   simp only[cB]
 |some x=>
  show W_ (fQ (bif _ then .app l (ps++[x]) none b (as.wrap ps.length)else .app l ps (some x) b as) B) _
  induction h:Zw0 ps.length as.len using jB with
  |false=>exact .refl
  |true=>
   have h:=cL h
   obtain⟨e,q⟩:=Ko (n:=ps.length) ha wa h B
   have k:envOf B (ps++[x]) none=envOf B ps (some x):=funext λc=>putAll_snoc x ps B c
   refine⟨?_,?_⟩
   ·show[λst=>(ZQ (fQ (as.wrap ps.length) B).ds st).bind (fB B (ps++[x]) none λB=>one (fQ b B).ds)]=[λst=>(ZQ (fQ as B).ds st).bind (fB B ps (some x) λB=>one (fQ b B).ds)]
    congr 1
    funext st
    rw[e st,Xw]
    refine Tf λvs s hs=>?_
    have n:=(WL _ _ hs).trans (M3 ha wa B)
    have e1:(vs.take ps.length).length=ps.length:=by rw[Zk6];lia
    have e2:(vs.take ps.length++[Wc (vs.drop ps.length) s.np]).length=ps.length+1:=by rw[cS,e1];rfl
    rw[GB]
    unfold fB
    rw[e2,show(ps++[x]).length=ps.length+1 from cS,k]
    have a1:RB (ps.length+1) (ps.length+1) (Zl5 (none:Option Nat))=true:=by unfold RB;rw[bY];rfl
    have a2:RB vs.length ps.length (Zl5 (some x))=true:=by unfold RB;rw[br (n▸h)];simp
    rw[a1,a2]
    show one _ {s with cells:=s.cells++_,np:=_}=one _ {s with cells:=_,np:=_}
    rw[Zs3 (cV e2),cz]
   ·show(fQ (as.wrap ps.length) B).n+((fQ b (envOf B (ps++[x]) none 0)).n+1)<=(fQ as B).n+((fQ b (envOf B ps (some x) 0)).n+2)
    rw[k];exact Z7 q
theorem M0{x:Nat}:∀(n:Nat) (t:T),(t.wrap n).tc x=t.tc x
 |0,t=>by rw[Ud];rfl
 |n+1,.cons h t=>congrArg (h.tc x+·) (M0 n t)
 |_+1,.node ..|_+1,.app ..|_+1,.ZT ..|_+1,.ZZ ..|_+1,.nil=>rfl
theorem MZ{V P:Sc}:∀{n:Nat} {t:T},t.sc V P->(t.wrap n).sc V P
 |0,t,h=>by rw[Ud];exact⟨⟨λY e=>(ZE e),h⟩,trivial⟩
 |n+1,.cons _ t,h=>⟨h.1,MZ h.2⟩
 |_+1,.node ..,h|_+1,.app ..,h|_+1,.ZT ..,h|_+1,.ZZ ..,h|_+1,.nil,h=>⟨⟨λY e=>(ZE e),h⟩,trivial⟩
theorem QK{n:Nat}:∀{t:T},t.Zw=false->t.wf->(t.wrap n).Zw=false/\(t.wrap n).wf:=by
 induction n with
 |zero=>exactλ{t} h w=>by rw[Ud];exact⟨rfl,⟨rfl,rfl,h,w⟩,rfl,trivial⟩
 |succ n ih=>exactλ{t} h=>T.Kp h (λw=>⟨rfl,⟨rfl,rfl,rfl,w⟩,rfl,trivial⟩) λY Y w=>⟨rfl,w.1,ih w.2.1 w.2.2⟩
theorem N1{l:Nat}{ps:List Nat}{r:Option Nat}{b as:T}(w:T.wf (.app l ps r b as)):(ZH l ps r b as).Zw=true/\(ZH l ps r b as).wf:=by
 unfold ZH
 induction r using jO with
 |none=>
  show(bif _ then b else .app l ps none b as).Zw=true/\(bif _ then b else .app l ps none b as).wf
  induction cZ ps.length 0&&cZ as.len 0 using jB with
  |false=>exact⟨rfl,w⟩
  |true=>exact⟨w.1.1,w.1.2.1⟩
 |some x=>
  show(bif _ then T.app l (ps++[x]) none b (as.wrap ps.length)else .app l ps (some x) b as).Zw=true/\(bif _ then T.app l (ps++[x]) none b (as.wrap ps.length)else .app l ps (some x) b as).wf
  induction Zw0 ps.length as.len using jB with
  |false=>exact⟨rfl,w⟩
  |true=>exact⟨rfl,⟨w.1.1,w.1.2.1,by rw[show bs (ps++[x]) none=bs ps (some x)from cB _];exact w.1.2.2⟩,QK w.2.1 w.2.2⟩
theorem Yz:∀t:T,t.wf->Wl t t.beta
 |.node h ts,w=>⟨rfl,rfl,λw=>⟨(Yz ts w.2.2).l▸w.1,(Yz ts w.2.2).c w.2⟩⟩
 |.app l ps r b as,w=>have k:=N1 (l:=l) (ps:=ps) (r:=r) (b:=b.beta) (as:=as.beta) ⟨(Yz b w.1.2.1).b w.1,(Yz as w.2.2).c w.2⟩;⟨k.1,Kr k.1,λY=>k.2⟩
 |.ZT _ _ _ _ _ b t,w=>⟨rfl,rfl,λw=>⟨(Yz b w.1.2.1).b w.1,(Yz t w.2.2).c w.2⟩⟩
 |.ZZ _ as,w=>⟨rfl,rfl,(Yz as w.2).c⟩
 |.nil,_=>⟨rfl,rfl,id⟩
 |.cons h t,w=>⟨rfl,congrArg (·+1) (Yz t w.2.2).l,λw=>⟨(Yz h w.1.2).c w.1,(Yz t w.2.2).c w.2⟩⟩
theorem Kn{n l:Nat}{ps:List Nat}{r:Option Nat}{b as:T}{V P:Sc}(i:Iv n V P (.app l ps r b as)):Kept n n V P (.app l ps r b as) (ZH l ps r b as):=by
 obtain⟨hs,hw,_,_,hb⟩:=i
 have le:=λB=>GA (l:=l) (ps:=ps) (r:=r) (B:=B) hw.1.1 hw.2.1 hw.2.2
 have id:Kept n n V P (.app l ps r b as) (.app l ps r b as):=⟨.refl hb,hs,⟨rfl,rfl,id⟩,λY=>.refl⟩
 have mk:∀{t},ZH l ps r b as=t->(∀x,t.tc x<=T.tc x (.app l ps r b as))->t.sc V P->t.Zw=true->t.wf->Kept n n V P (.app l ps r b as) t:=λe c s ie w=>
  ⟨⟨cO _,λx Y=>c x,λx q q'=>absurd q (Zx3.mpr q'),λx q=>ah.mp (hb x q▸c x)⟩,s,⟨ie,Kr ie,λY=>w⟩,λB=>e▸le B⟩
 induction r using jO with
 |none=>
  induction h:cZ ps.length 0&&cZ as.len 0 using jB with
  |false=>
   have e:ZH l ps none b as=.app l ps none b as:=by unfold ZH;dsimp only;rw[h];rfl
   rw[e];exact id
  |true=>
   have e:ZH l ps none b as=b:=by unfold ZH;dsimp only;rw[h];rfl
   rw[e]
   obtain rfl:=bQ.mp (cW (cN.mp h).1)
   exact mk e (λx=>show _<=_+b.tc x+as.tc x by simp+arith only) (Y7 hs.2 (λx h=>h.resolve_left λh=>xm h) λY=>_root_.id) hw.1.1 hw.1.2.1
 |some x=>
  induction h:Zw0 ps.length as.len using jB with
  |false=>
   have e:ZH l ps (some x) b as=.app l ps (some x) b as:=by unfold ZH;dsimp only;rw[h];rfl
   rw[e];exact id
  |true=>
   have e:ZH l ps (some x) b as=.app l (ps++[x]) none b (as.wrap ps.length):=by unfold ZH;dsimp only;rw[h];rfl
   rw[e]
   have k:bs (ps++[x]) none=bs ps (some x):=cB _
   refine mk e (λy=>?_) ⟨MZ hs.1,k▸hs.2⟩ rfl ⟨⟨hw.1.1,hw.1.2.1,k▸hw.1.2.2⟩,QK hw.2.1 hw.2.2⟩
   show(l::bs (ps++[x]) none).count y+b.tc y+(as.wrap ps.length).tc y<=(l::bs ps (some x)).count y+b.tc y+as.tc y
   rw[k,M0];exact cO _
theorem Kept.trans{n n1 n2:Nat}{V P:Sc}{t t' t'':T}(h:Kept n n1 V P t t')(k:Kept n1 n2 V P t' t''):Kept n n2 V P t t'':=
 ⟨h.g.trans k.g,k.sc,⟨k.wl.e.trans h.wl.e,k.wl.l.trans h.wl.l,λw=>k.wl.w (h.wl.w w)⟩,λB=>(k.le B).trans (h.le B)⟩
theorem LI:∀{t:T} {n:Nat} {V P:Sc},Iv n V P t->Kept n n V P t t.beta:=by
 intro t;induction t with
 |node h ts ih=>
  intro n V P i
  have k:=ih (i.part i.sc.2 i.w.2.2 λY=>cO _)
  exact⟨k.g,⟨i.sc.1,k.sc⟩,⟨rfl,rfl,λw=>⟨k.wl.l▸w.1,k.wl.c w.2⟩⟩,λB=>W_.node (.refl _) (k.le B)⟩
 |app l ps r b as ib N2=>
  intro n V P i
  have kb:=ib (i.in (l::bs ps r) i.sc.2 i.w.1.2.1 (λx=>cR _ _) λx z=>z.elim (λz=>z.imp (.tail _) .inl) λz=>.inr (.inr z))
  have ka:=N2 (i.part i.sc.1 i.w.2.2 λx=>cj _ _)
  have k:Kept n n V P (.app l ps r b as) (.app l ps r b.beta as.beta):=⟨((Gr.refl λx q=>b6 (b6 (i.b x q))).add kb.g λx q=>b8 (b6 (i.b x q))).add ka.g λx q=>b8 (i.b x q),
   ⟨ka.sc,kb.sc⟩,⟨rfl,rfl,λw=>⟨kb.wl.b w.1,ka.wl.c w.2⟩⟩,λB=>SR (m:=⟨l,ps,r,b⟩) (m':=⟨l,ps,r,b.beta⟩) (XX rfl rfl λc=>kb.le _) (ka.le B)⟩
  exact k.trans (Kn (k.iv i))
 |ZT l f l' ps r b t ib it=>
  intro n V P i
  have q1:∀x,(l::f::l'::bs ps r).count x+t.tc x<=(l::f::l'::bs ps r).count x+b.tc x+t.tc x:=λx=>bx (cR _ _) _
  have kt:=it (i.in (l::f::l'::bs ps r) i.sc.2 i.w.2.2 q1 λx z=>z.elim (λz=>.inr (.inl z)) λz=>z.elim (λz=>.inl (z▸.tail _ (.head _))) λz=>.inr (.inr z))
  have kb:=ib (i.in (l::f::l'::bs ps r) i.sc.1 i.w.1.2.1 (λx=>cR _ _) λx z=>z.elim (λz=>z.imp (λz=>.tail _ (.tail _ (.tail _ z))) .inl) λz=>.inr (.inr z))
  have h1:∀B,Xd (some (Lm.Yd ⟨l',ps,r,b.beta⟩ B)) (some (Lm.Yd ⟨l',ps,r,b⟩ B)):=λB=>XX rfl rfl λc=>kb.le _
  exact⟨((Gr.refl λx q=>b6 (b6 (i.b x q))).add kb.g λx q=>b8 (b6 (i.b x q))).add kt.g λx q=>b8 (i.b x q),
   ⟨kb.sc,kt.sc⟩,⟨rfl,rfl,λw=>⟨kb.wl.b w.1,kt.wl.c w.2⟩⟩,λB=>VV (m:=⟨l',ps,r,b⟩) (m':=⟨l',ps,r,b.beta⟩) (h1 B) ((kt.le _).trans (Tg t λx=>W9 Iff.rfl (h1 B) λY=>.refl _))⟩
 |ZZ f as ih=>
  intro n V P i
  have k:=ih (i.part i.sc.2 i.w.2 λY=>cO _)
  exact⟨k.g,⟨i.sc.1,k.sc⟩,⟨rfl,rfl,k.wl.c⟩,λB=>Wb (.refl _) (k.le B)⟩
 |nil=>
  intro n V P i
  exact⟨.refl i.b,trivial,⟨rfl,rfl,id⟩,λY=>.refl⟩
 |cons h t ih it=>
  intro n V P i
  have k1:=ih (i.part i.sc.1 i.w.1.2 λx=>cR _ _)
  have k2:=it (i.part i.sc.2 i.w.2.2 λx=>cj _ _)
  exact⟨k1.g.add k2.g λx q=>b8 (i.b x q),⟨k1.sc,k2.sc⟩,⟨rfl,congrArg (·+1) k2.wl.l,λw=>⟨k1.wl.c w.1,k2.wl.c w.2⟩⟩,λB=>W_.cons (k1.le B) (k2.le B)⟩
end Pl
section
open Pl (Env Hd Iv Kept Lm d7 Op Pass UY LO LM Sc Y9 T fL bs fQ LJ WX XN)
abbrev Loc:=List (Option AV)
abbrev fP:=AV->US->Prop
abbrev ZV:=Nat->List AV->fP->(US->Prop)->US->Prop
noncomputable def LN:Nat:=10000000
noncomputable def EQ:Nat:=600
structure Bx(p:Prop):Prop where
 h:p
noncomputable def Wk(v:AV)(K:Bool->Prop):Prop:=match v with|.bool b=>K b|_=>False
noncomputable def Vz(v:AV)(K:Int->Prop):Prop:=match v with|.int i=>K i|_=>False
def Km(v:AV)(K:Nat->Prop):Prop:=match v with|.str k=>K k|_=>False
def Wj(v:AV)(K:List AV->Prop):Prop:=match v with|.tup xs=>K xs|_=>False
noncomputable def Rl(v:AV)(K:List AV->Prop):Prop:=match v with|.lst xs=>K xs|_=>False
def SQ(v:AV)(K:Ad->Prop):Prop:=match v with|.ref a=>K a|_=>False
@[irreducible]def oL(o:Option AO)(K:List AV->Prop):Prop:=Bx (match o with|some (.list xs)=>K xs|_=>False)
@[irreducible]def LH(o:Option AO)(K:List (Int×AV)->Prop):Prop:=Bx (match o with|some (.di es)=>K es|_=>False)
@[irreducible]def xF(o:Option AO)(K:List (Nat×AV)->Prop):Prop:=Bx (match o with|some (.ds es)=>K es|_=>False)
@[irreducible]def oF(o:Option AO)(K:List (Nat×AV)->Prop):Prop:=Bx (match o with|some (.fields es)=>K es|_=>False)
@[irreducible]def oI(o:Option AO)(K:Nat->Ad->Prop):Prop:=Bx (match o with|some (.inst c d)=>K c d|_=>False)
def aL(U:US)(v:AV)(K:List AV->Prop):Prop:=match v with|.lst xs=>K xs|.ref a=>oL (U a) K|_=>False
def oA{α:Type}(o:Option α)(K:α->Prop):Prop:=match o with|some x=>K x|none=>False
def fF(b:Bool)(x y:Prop):Prop:=match b with|true=>x|false=>y
noncomputable def eN{α:Type}:List α->Nat->(α->Prop)->Prop
 |x::_,0,K=>K x
 |_::r,i+1,K=>eN r i K
 |[],_,_=>False
def Gz(xs:List AV)(i:Int)(K:AV->Prop):Prop:=match i with|.ofNat n=>eN xs n K|.negSucc n=>eN xs.reverse n K
noncomputable def Gy:Loc->Nat->(AV->Prop)->Prop
 |o::_,0,K=>oA o K
 |_::r,i+1,K=>Gy r i K
 |[],_,_=>False
noncomputable def XI:Int->Int->Bool
 |.ofNat a,.ofNat b=>cZ a b
 |.negSucc a,.negSucc b=>cZ a b
 |_,_=>false
noncomputable def fh:Int->Int->Bool
 |.ofNat a,.ofNat b=>bk a b
 |.negSucc _,.ofNat _=>true
 |.ofNat _,.negSucc _=>false
 |.negSucc a,.negSucc b=>bk b a
noncomputable def Zr{α:Type}(es:List (Int×α))(k:Int):Option α:=match es with
 |[]=>none
 |(a,v)::r=>bif XI a k then some v else Zr r k
noncomputable def fJ{α:Type}(es:List (Int×α))(k:Int)(v:α):List (Int×α):=match es with
 |[]=>[(k,v)]
 |(a,x)::r=>bif XI a k then(a,v)::r else(a,x)::fJ r k v
noncomputable def Vm{α:Type}(es:List (Nat×α))(k:Nat):Option α:=match es with
 |[]=>none
 |(a,v)::r=>bif cZ a k then some v else Vm r k
noncomputable def Xc{α:Type}(es:List (Nat×α))(k:Nat)(v:α):List (Nat×α):=match es with
 |[]=>[(k,v)]
 |(a,x)::r=>bif cZ a k then(a,v)::r else(a,x)::Xc r k v
noncomputable def fH(n:Nat):List Nat->Option Nat
 |[]=>none
 |m::r=>bif cZ m n then some 0 else(fH n r).map (·+1)
noncomputable def Zh(n:Nat):List Nat->Bool
 |[]=>false
 |m::r=>cZ m n||Zh n r
noncomputable def Vl(U:US)(a:Ad):Bool:=match U a with|some (.inst c _)=>cZ c B5|_=>false
noncomputable def X0(f:AV->AV->Option Bool):List AV->List AV->Option Bool
 |x::xs,y::ys=>match f x y,X0 f xs ys with
  |some a,some b=>some (a&&b)
  |_,_=>none
 |_,_=>some true
noncomputable def rI(f:AV->AV->Option Bool)(xs ys:List AV):Option Bool:=bif cZ xs.length ys.length then X0 f xs ys else some false
noncomputable def b2i(b:Bool):Int:=match b with|true=>1|false=>0
noncomputable def UX(U:US):Nat->AV->AV->Option Bool
 |0,_,_=>none
 |n+1,a,b=>match a with
  |.bool x=>match b with|.bool y=>some (x==y)|.int y=>some (XI (b2i x) y)|_=>none
  |.int x=>match b with|.int y=>some (XI x y)|.bool y=>some (XI x (b2i y))|.tup _=>some false|_=>none
  |.str x=>match b with|.str y=>some (cZ x y)|.tup _=>some false|_=>none
  |.ref x=>match b with|.ref y=>bif Vl U x&&Vl U y then some (cZ x y)else none|.tup _=>bif Vl U x then some false else none|_=>none
  |.tup xs=>match b with
   |.tup ys=>(X0 (UX U n) xs ys).map (·&&cZ xs.length ys.length)
   |.int _=>some false
   |.str _=>some false
   |.ref y=>bif Vl U y then some false else none
   |_=>none
  |.lst xs=>match b with|.lst ys=>rI (UX U n) xs ys|_=>none
  |_=>none
noncomputable def XG(U:US)(a:AV):List AV->Option Bool
 |[]=>some false
 |y::ys=>(UX U EQ y a).bind λr=>(XG U a ys).map (r||·)
def C_(m:Bool)(xs:List AV)(Q:fP)(U:US):Prop:=match m with
 |false=>Q (.lst xs) U
 |true=>∀a,U a=none->Q (.ref a) (upd U a (some (.list xs)))
mutual
noncomputable def VU(U:US):AV->Bool
 |.none=>true
 |.bool _=>true
 |.int _=>true
 |.str _=>true
 |.g k=>(U_ k).isSome
 |.tup xs=>VT U xs
 |.lst xs=>VT U xs
 |.inst c xs=>!cZ c LR&&fM c&&VT U xs
 |.bm _ _=>false
 |.ref a=>(U a).isSome
noncomputable def VT(U:US):List AV->Bool
 |[]=>true
 |x::xs=>VU U x&&VT U xs
end
@[irreducible]def LG(a b:AV)(Q:Bool->Prop)(U:US):Prop:=Bx (match b with
 |.g y=>(U_ y).isSome=true/\match a with
  |.g x=>(U_ x).isSome=true/\Q (cZ x y)
  |.ref x=>(U x).isSome=true/\Q false
  |.int _=>Q false
  |.bool _=>Q false
  |.lst _=>Q false
  |_=>False
 |.inst c' vs'=>match a with
  |.inst c vs=>VU U (.inst c vs)=true/\VU U (.inst c' vs')=true/\∀r,(r=true->AV.inst c vs=.inst c' vs')->Q r
  |_=>False
 |_=>False)
@[irreducible]def BN(U:US)(a:Ad)(K:List Nat->Prop):Prop:=Bx (match U a with
 |some (.inst c d)=>fM c=true/\oF (U d) λY=>K (Xp c)
 |some (.list _)=>K [SW]
 |_=>False)
def k9(U:US)(v:AV)(K:List Nat->Prop):Prop:=match v with
 |.bool _=>K [QN,SX]
 |.int _=>K [SX]
 |.lst _=>K [SW]
 |.inst c _=>fM c=true/\K (Xp c)
 |.g k=>oA (U_ k) λc=>K (Xp c)
 |.ref a=>BN U a K
 |_=>False
@[irreducible]def Kl(U:US)(v:AV)(K:List Nat->Prop):Prop:=Bx (k9 U v K)
theorem Z4(h:k9 U v K):Kl U v K:=by unfold Kl;exact⟨h⟩
def Xv(c n:Nat)(self:AV)(K:AV->Prop):Prop:=match LP c n with
 |some i=>K (.int i)
 |none=>oA (Xq c n) λk=>K (.bm k self)
def xy(fs:List (Nat×AV))(n:Nat)(x:Prop):Prop:=match Vm fs n with
 |none=>x
 |some _=>False
def Kh(v:AV)(n:Nat)(K:AV->Prop)(U:US):Prop:=match v with
 |.inst c vs=>match fH n (fieldsOf c)with
  |some i=>eN vs i K
  |none=>Xv c n v K
 |.ref a=>oI (U a) λc d=>oF (U d) λfs=>match fH n (fieldsOf c)with
  |some _=>oA (Vm fs n) K
  |none=>xy fs n (Xv c n v K)
 |.g k=>oA (Pu k n) λx=>K (.str x)
 |_=>False
def MY(v:AV)(n:Nat)(K:Nat->Prop)(U:US):Prop:=match v with
 |.inst c _=>match fH n (fieldsOf c)with|none=>oA (Xq c n) K|some _=>False
 |.ref a=>oI (U a) λc d=>oF (U d) λfs=>match fH n (fieldsOf c)with|none=>xy fs n (oA (Xq c n) K)|some _=>False
 |_=>False
@[irreducible]def QJ(v:AV)(Q:fP)(U:US):Prop:=Bx (SQ v λa=>match U a with
 |some (.list xs)=>Q (.lst xs) (upd U a none)
 |some (.inst c d)=>oF (U d) λfs=>fs.map (·.1)=fieldsOf c/\Q (.inst c (fs.map (·.2))) (upd (upd U a none) d none)
 |_=>False)
theorem Pn(h:U a=some (.list xs))(q:Q (.lst xs) (upd U a none)):QJ (.ref a) Q U:=by
 unfold QJ;constructor
 show match U a with|some (.list xs)=>_|some (.inst c d)=>_|_=>False
 rw[h];exact q
def Rk(C:ZV)(f:AV)(args:List AV)(Q:fP)(E:US->Prop)(U:US):Prop:=match f with
 |.bm k self=>C k (self::args) Q E U
 |.g k=>match fM k with
  |true=>∀a d,a≠d->U a=none->U d=none->match Ug k with
   |some i=>C i (.ref a::args) (λv U2=>v=.none/\Q (.ref a) U2) E (upd (upd U a (some (.inst k d))) d (some (.fields [])))
   |none=>args=[]/\Q (.ref a) (upd (upd U a (some (.inst k d))) d (some (.fields [])))
  |false=>dN k=true/\C k args Q E U
 |_=>False
@[irreducible]def RA(C:ZV)(c:Nat)(args:List AV)(Q:fP)(E:US->Prop)(U:US):Prop:=Bx (Rk C (.g c) args (λv U1=>QJ v Q U1) E U)
noncomputable def AV.BL{β:Type}(x:AV)(K:List AV->Option β):Option β:=match x with|.tup xs=>K xs|_=>Zg2
noncomputable def AV.v_{β:Type}(x:AV)(K:Int->Option β):Option β:=match x with|.int i=>K i|_=>Zg2
noncomputable def AV.v9{β:Type}(x:AV)(K:Nat->Option β):Option β:=match x with|.str i=>K i|_=>Zg2
noncomputable def MX{α β:Type}(x:List α)(K:α->List α->Option β):Option β:=match x with|y::r=>K y r|_=>none
noncomputable def pairsOf:List AV->Option (List (Int×AV))
 |[]=>some []
 |x::r=>x.BL λxs=>MX xs λk xs=>k.v_ λk=>MX xs λv xs=>match xs with|[]=>(pairsOf r).map ((k,v)::·)|_::_=>none
noncomputable def TN:Nat->List AV->List AV
 |_,[]=>[]
 |i,x::r=>.tup [.int (.ofNat i),x]::TN (i+1) r
noncomputable def Pk:List AV->List AV->List AV
 |x::xs,y::ys=>.tup [x,y]::Pk xs ys
 |_,_=>[]
@[irreducible]def Gx(xs:List AV)(K:AV->List AV->Prop):Prop:=Bx (match xs.reverse with|x::r=>K x r.reverse|[]=>False)
def uA(o:UO)(v:AV)(Q:fP)(U:US):Prop:=match o with
 |.not=>Wk v λb=>Q (.bool (!b)) U
 |.GK=>aL U v λxs=>Q (.int (.ofNat xs.length)) U
 |.KC=>SQ v λa=>LH (U a) λes=>Q (.int (.ofNat es.length)) U
 |.abs=>Vz v λi=>Q (.int (.ofNat i.natAbs)) U
 |.ord=>Km v λk=>oA (Ky k) λc=>Q (.int (.ofNat c)) U
 |.list=>aL U v λxs=>Q (.lst xs) U
 |.tuple=>aL U v λxs=>Q (.tup xs) U
 |.int=>Wk v λb=>Q (.int (match b with|true=>1|false=>0)) U
 |.M7=>SQ v λa=>LH (U a) λes=>∀b,U b=none->Q (.ref b) (upd U b (some (.di es)))
 |.Va=>Rl v λxs=>oA (pairsOf xs) λes=>∀b,U b=none->Q (.ref b) (upd U b (some (.di (es.foldl (λd e=>fJ d e.1 e.2) []))))
 |.rev=>aL U v λxs=>Q (.lst xs.reverse) U
 |.pop=>SQ v λa=>oL (U a) λxs=>Gx xs λx r=>Q x (upd U a (some (.list r)))
 |.N9=>SQ v λa=>oL (U a) λxs=>match xs with|x::r=>Q x (upd U a (some (.list r)))|[]=>False
 |.dL=>Wj v λxs=>Q (.lst xs) U
 |.dM=>Wj v λxs=>∀a,U a=none->Q (.ref a) (upd U a (some (.list xs)))
 |.dT=>Q v U
 |.M6=>QJ v Q U
 |.Df=>match v with|.lst xs=>Q (.lst xs) U|.tup xs=>Q (.lst xs) U|_=>False
 |.rU=>Km v λk=>(Ky k).isSome=true/\Q (.lst [v]) U
 |.Xa=>Vz v λi=>match i with|.ofNat n=>n<=LN/\Q (.lst ((Zw3 n).map λi=>AV.int (.ofNat i))) U|_=>False
 |.SZ=>Wj v λxs=>Q (.lst (TN 0 xs)) U
 |.zz _=>False
def ii(v w:AV)(K:Int->Int->Prop):Prop:=Vz v λx=>Vz w λy=>K x y
@[irreducible]def xx(v w:AV)(K:Bool->Prop)(U:US):Prop:=Bx (VU U v=true/\VU U w=true/\oA (UX U EQ v w) K)
def iW(v:AV)(y:Nat)(K:Bool->Prop):Prop:=match v with|.str x=>K (cZ x y)|.tup _=>K false|_=>False
@[irreducible]def BK(v w:AV)(K:Bool->Prop)(U:US):Prop:=Bx (match w with
 |.str y=>iW v y K
 |w=>Rl v λY=>Rl w λY=>VU U v=true/\VU U w=true/\oA (UX U EQ v w) K)
@[irreducible]def UW(v w:AV)(K:Bool->Prop)(U:US):Prop:=Bx (VU U v=true/\match w with|.tup xs=>VT U xs=true/\oA (XG U v xs) K|w=>aL U w λxs=>VT U xs=true/\oA (XG U v xs) K)
def BJ(v w:AV)(K:Bool->Prop)(U:US):Prop:=Vz v λi=>SQ w λa=>LH (U a) λes=>K (Zr es i).isSome
def BI(v w:AV)(K:Bool->Prop)(U:US):Prop:=Rl w λys=>ys=[]/\aL U v λxs=>K xs.isEmpty
def bA(o:BO)(v w:AV)(Q:fP)(U:US):Prop:=match o with
 |.add=>ii v w λx y=>∀z,z=x+y->Q (.int z) U
 |.sub=>ii v w λx y=>∀z,z=x-y->Q (.int z) U
 |.mul=>ii v w λx y=>(x.natAbs<2^63\/y.natAbs<2^63)/\∀z,z=x*y->Q (.int z) U
 |.fdiv=>ii v w λx y=>(y≠0/\y.natAbs<1073741824)/\∀z,z=x.fdiv y->Q (.int z) U
 |.mod=>ii v w λx y=>y≠0/\∀z,z=x.fmod y->Q (.int z) U
 |.cat=>Rl v λxs=>Rl w λys=>xs.length+ys.length<=LN/\Q (.lst (xs++ys)) U
 |.ieq=>ii v w λx y=>Q (.bool (XI x y)) U
 |.rT=>ii v w λx y=>Q (.bool (!XI x y)) U
 |.KB=>ii v w λx y=>Q (.bool (fh x y)) U
 |.qW=>ii v w λx y=>Q (.bool (!fh y x)) U
 |.rS=>ii v w λx y=>Q (.bool (fh y x)) U
 |.wN=>ii v w λx y=>Q (.bool (!fh x y)) U
 |.seq=>Km v λx=>Km w λy=>Q (.bool (cZ x y)) U
 |.rR=>Km v λx=>Km w λy=>Q (.bool (!cZ x y)) U
 |.geq=>xx v w (λr=>Q (.bool r) U) U
 |.xR=>BK v w (λr=>Q (.bool (!r)) U) U
 |.emp=>BI v w (λr=>Q (.bool r) U) U
 |.Pz=>BI v w (λr=>Q (.bool (!r)) U) U
 |.is=>LG v w (λr=>Q (.bool r) U) U
 |.GX=>LG v w (λr=>Q (.bool (!r)) U) U
 |.inD=>BJ v w (λr=>Q (.bool r) U) U
 |.LS=>BJ v w (λr=>Q (.bool (!r)) U) U
 |.GJ=>UW v w (λr=>Q (.bool r) U) U
 |.GI=>UW v w (λr=>Q (.bool (!r)) U) U
 |.sL=>Vz w λk=>aL U v λxs=>Gz xs k λx=>Q x U
 |.sT=>Vz w λk=>Wj v λxs=>Gz xs k λx=>Q x U
 |.xQ=>Vz w λk=>SQ v λa=>LH (U a) λes=>oA (Zr es k) λx=>Q x U
 |.xP=>Km w λk=>SQ v λa=>xF (U a) λes=>oA (Vm es k) λx=>Q x U
 |.M5=>aL U v λxs=>Vz w λk=>∀zs,zs=(match k with|.ofNat n=>xs.drop n|.negSucc n=>xs.drop (xs.length-(n+1)))->Q (.lst zs) U
 |.xM=>aL U v λxs=>Vz w λk=>∀zs,zs=(match k with|.ofNat n=>xs.take n|.negSucc n=>xs.take (xs.length-(n+1)))->Q (.lst zs) U
 |.GH=>aL U v λxs=>Vz w λk=>∀zs,zs=(match k with|.ofNat n=>xs.take n|.negSucc n=>xs.take (xs.length-(n+1)))->∀a,U a=none->Q (.ref a) (upd U a (some (.list zs)))
 |.append=>SQ v λa=>oL (U a) λxs=>xs.length<LN/\Q .none (upd U a (some (.list (xs++[w]))))
 |.extend=>SQ v λa=>oL (U a) λxs=>Rl w λys=>xs.length+ys.length<=LN/\Q .none (upd U a (some (.list (xs++ys))))
 |.get=>SQ v λa=>LH (U a) λes=>Wj w λws=>eN ws 0 λk=>Vz k λk=>eN ws 1 λd=>Q ((Zr es k).getD d) U
 |.TP=>Rl v λxs=>Rl w λys=>Q (.lst (Pk xs ys)) U
 |.zz _=>False
def v8(Q:fP)(U:US)(ks xs:List AV):Prop:=∃es:List (Int×AV),ks=es.map (λe=>.int e.1)/\xs=es.map (·.2)/\(es.map (·.1)).Nodup/\∀a,U a=none->Q (.ref a) (upd U a (some (.di es)))
def v7(Q:fP)(U:US)(ks xs:List AV):Prop:=∃es:List (Nat×AV),ks=es.map (λe=>.str e.1)/\xs=es.map (·.2)/\(es.map (·.1)).Nodup/\∀a,U a=none->Q (.ref a) (upd U a (some (.ds es)))
def v5(i:Bool)(Q:fP)(U:US)(ks xs:List AV):Prop:=ks.length=xs.length/\match i with|true=>v8 Q U ks xs|false=>v7 Q U ks xs
def vZ(o:BO)(v:AV)(U:US)(x:Prop):Prop:=bif cZ o.ix 33 then SQ v λa=>LH (U a) λY=>x else SQ v λa=>oL (U a) λY=>x
noncomputable def Zs:List Nat->List AV->Loc->(Loc->Prop)->Prop
 |[],[],L,K=>K L
 |i::is,v::vs,L,K=>Zs is vs (L.set i (some v)) K
 |_,_,_,_=>False
def ZB(is:List Nat)(v:AV)(L:Loc)(K:Loc->Prop):Prop:=match is with
 |[i]=>K (L.set i (some v))
 |is=>Wj v λvs=>Zs is vs L K
noncomputable def Zo(c:AV->(Bool->US->Prop)->US->Prop)(e:AV->fP->US->Prop):List AV->List AV->(List AV->US->Prop)->US->Prop
 |[],acc,Q,U=>Q acc U
 |x::r,acc,Q,U=>c x (λb U1=>fF b (e x (λv U2=>Zo c e r (acc++[v]) Q U2) U1) (Zo c e r acc Q U1)) U
noncomputable def ZK(C:ZV)(E:US->Prop):X->Loc->fP->US->Prop
 |.loc i,L,Q,U=>Gy L i λv=>Q v U
 |.cst v,_,Q,U=>Q v U
 |.glob _ v,_,Q,U=>Q v U
 |.u o a,L,Q,U=>ZK C E a L (λv U1=>uA o v Q U1) U
 |.b o a c,L,Q,U=>ZK C E a L (λv U1=>ZK C E c L (λw U2=>bA o v w Q U2) U1) U
 |.lm o a c,L,Q,U=>ZK C E a L (λv U1=>vZ o v U1 (ZK C E c L (λw U2=>bA o v w Q U2) U1)) U
 |.and a b,L,Q,U=>ZK C E a L (λv U1=>Wk v λr=>fF r (ZK C E b L Q U1) (Q (.bool false) U1)) U
 |.or a b,L,Q,U=>ZK C E a L (λv U1=>Wk v λr=>fF r (Q (.bool true) U1) (ZK C E b L Q U1)) U
 |.ite t a b,L,Q,U=>ZK C E t L (λv U1=>Wk v λr=>fF r (ZK C E a L Q U1) (ZK C E b L Q U1)) U
 |.De a b c,L,Q,U=>ZK C E a L (λv U1=>ZK C E b L (λw U2=>ii v w λx y=>fF (fh x y) (ZK C E c L (λu U3=>Vz u λz=>Q (.bool (!fh z y)) U3) U2) (Q (.bool false) U2)) U1) U
 |.attr a n,L,Q,U=>ZK C E a L (λv U1=>Kh v n (λx=>Q x U1) U1) U
 |.call f as,L,Q,U=>ZK C E f L (λf U1=>ZK C E as L (λvs U2=>Wj vs λvs=>Rk C f vs Q E U2) U1) U
 |.mk _ c as,L,Q,U=>ZK C E as L (λvs U2=>Wj vs λvs=>RA C c vs Q E U2) U
 |.SY a n as,L,Q,U=>ZK C E a L (λv U1=>MY v n (λk=>ZK C E as L (λvs U2=>Wj vs λvs=>C k (v::vs) Q E U2) U1) U1) U
 |.KA a cs,L,Q,U=>ZK C E a L (λv U1=>Kl U1 v λts=>Q (.bool (cs.any λc=>Zh c ts)) U1) U
 |.dict i ks vs,L,Q,U=>ZK C E ks L (λkv U1=>ZK C E vs L (λxv U2=>Wj kv λks=>Wj xv λxs=>v5 i Q U2 ks xs) U1) U
 |.comp m f e t it c,L,Q,U=>ZK C E it L (λxv U1=>Rl xv λxs=>Zo
  (match f with|true=>(λx K U2=>ZB t x L λL'=>ZK C E c L' (λb U3=>Wk b λb=>K b U3) U2)|false=>(λY K U2=>K true U2))
  (λx K U2=>ZB t x L λL'=>ZK C E e L' K U2) xs [] (λvs U3=>C_ m vs Q U3) U1) U
 |.nil,_,Q,U=>Q (.tup []) U
 |.cons h t,L,Q,U=>ZK C E h L (λv U1=>ZK C E t L (λvs U2=>Wj vs λvs=>Q (.tup (v::vs)) U2) U1) U
abbrev ZD:=Option AV->Loc->US->Prop
def Y4(Q:ZD)(K:Loc->US->Prop):ZD:=λo L U=>match o with|some v=>Q (some v) L U|none=>K L U
noncomputable def WK(t:Loc->(Bool->US->Prop)->US->Prop)(b:ZD->Loc->US->Prop)(Q:ZD):Nat->Loc->US->Prop
 |0,_,_=>False
 |n+1,L,U=>t L (λr U1=>fF r (b (Y4 Q λL2 U2=>WK t b Q n L2 U2) L U1) (Q none L U1)) U
noncomputable def Zc(t:List Nat)(b:ZD->Loc->US->Prop)(Q:ZD):List AV->Loc->US->Prop
 |[],L,U=>Q none L U
 |x::r,L,U=>ZB t x L λL'=>b (Y4 Q λL2 U2=>Zc t b Q r L2 U2) L' U
def QI(o:BO)(v i x:AV)(Q:US->Prop)(U:US):Prop:=o.tab [False,False,False,False,False,False,False,False,False,False,False,False,False,False,False,False,False,False,False,False,False,False,False,False,Vz i λk=>SQ v λa=>oL (U a) λxs=>match k with|.ofNat n=>n<xs.length/\Q (upd U a (some (.list (xs.set n x))))|_=>False,False,
 Vz i λk=>SQ v λa=>LH (U a) λes=>es.length<LN/\Q (upd U a (some (.di (fJ es k x)))),Km i λk=>SQ v λa=>xF (U a) λes=>es.length<LN/\Q (upd U a (some (.ds (Xc es k x))))] False
def WW(v:AV)(n:Nat)(x:AV)(Q:US->Prop)(U:US):Prop:=SQ v λa=>oI (U a) λc d=>oF (U d) λfs=>(fH n (fieldsOf c)).isSome=true/\fs.length<64/\Q (upd U d (some (.fields (Xc fs n x))))
def S.vY(k:S)(x y:Prop):Prop:=match k with
 |.nil=>x
 |_=>y
noncomputable def Gv(va:AV)(j:Nat)(vd:AV):X:=.u .dT (.cons (.cst va) (.cons (.b .xP (.loc j) (.cst vd)) .nil))
noncomputable def wpS(C:ZV):S->ZD->(Loc->US->Prop)->Loc->US->Prop
 |.nil,Q,_,L,U=>Q none L U
 |.asg i e k,Q,E,L,U=>ZK C (E L) e L (λv U1=>wpS C k Q E (L.set i (some v)) U1) U
 |.N8 a n e k,Q,E,L,U=>ZK C (E L) e L (λx U1=>ZK C (E L) a L (λv U2=>WW v n x (λU3=>wpS C k Q E L U3) U2) U1) U
 |.Pw o a i e k,Q,E,L,U=>ZK C (E L) e L (λx U1=>ZK C (E L) a L (λv U2=>ZK C (E L) i L (λj U3=>QI o v j x (λU4=>wpS C k Q E L U4) U3) U2) U1) U
 |.N7 is e k,Q,E,L,U=>ZK C (E L) e L (λv U1=>Wj v λvs=>Zs is vs L λL2=>wpS C k Q E L2 U1) U
 |.expr e k,Q,E,L,U=>ZK C (E L) e L (λY U1=>wpS C k Q E L U1) U
 |.ret e,Q,E,L,U=>ZK C (E L) e L (λv U1=>Q (some v) L U1) U
 |.ite t a b k,Q,E,L,U=>k.vY (ZK C (E L) t L (λv U1=>Wk v λr=>fF r (wpS C a Q E L U1) (wpS C b Q E L U1)) U)
  (ZK C (E L) t L (λv U1=>Wk v λr=>fF r (wpS C a (Y4 Q λL2 U2=>Bx (wpS C k Q E L2 U2)) E L U1) (wpS C b (Y4 Q λL2 U2=>Bx (wpS C k Q E L2 U2)) E L U1)) U)
 |.guard t e k,Q,E,L,U=>ZK C (E L) t L (λv U1=>Wk v λr=>fF r (ZK C (E L) e L (λv U2=>Q (some v) L U2) U1) (wpS C k Q E L U1)) U
 |.while t b k,Q,E,L,U=>k.vY (∃n,WK (λL K U1=>ZK C (E L) t L (λv U2=>Wk v λr=>K r U2) U1) (λQ' L U1=>wpS C b Q' E L U1) Q n L U)
  (∃n,WK (λL K U1=>ZK C (E L) t L (λv U2=>Wk v λr=>K r U2) U1) (λQ' L U1=>wpS C b Q' E L U1) (Y4 Q λL2 U2=>Bx (wpS C k Q E L2 U2)) n L U)
 |.for t it b k,Q,E,L,U=>k.vY (ZK C (E L) it L (λxv U1=>Rl xv λxs=>Zc t (λQ' L U1=>wpS C b Q' E L U1) Q xs L U1) U)
  (ZK C (E L) it L (λxv U1=>Rl xv λxs=>Zc t (λQ' L U1=>wpS C b Q' E L U1) (Y4 Q λL2 U2=>Bx (wpS C k Q E L2 U2)) xs L U1) U)
 |.try b i va j vd k,Q,E,L,U=>wpS C b (Y4 Q λL2 U2=>Bx (wpS C k Q E L2 U2)) (λL2 U2=>ZK C (E L2) (Gv va j vd) L2 (λv U3=>Y4 Q (λL3 U4=>Bx (wpS C k Q E L3 U4)) none (L2.set i (some v)) U3) U2) L U
 |.bad,_,_,_,_=>False
noncomputable def Fi.loc(fi:Fi)(args:List AV):Loc:=args.map some++Zg6 (fi.nm.length-fi.np) none
def YC(Q:fP):ZD:=λo Y U'=>Q (o.getD .none) U'
def Y8(E:US->Prop):Loc->US->Prop:=λY=>E
def Gu(C:ZV)(fi:Fi)(args:List AV)(Q:fP)(E:US->Prop)(U:US):Prop:=fF (cZ args.length fi.np) (match fi.raises with
 |true=>wpS C fi.body (λo Y U'=>o=none/\E U') (Y8 E) (fi.loc args) U
 |false=>wpS C fi.body (YC Q) (Y8 E) (fi.loc args) U) False
noncomputable def WV(k:Nat):Bool:=Zw0 300 k&&Wv k (Th.map (·.2))
noncomputable def TM:Nat->ZV
 |0=>λY Y Y Y Y=>False
 |n+1=>λk args Q E U=>Bx (oA (fnOf k) λfi=>Gu (TM n) fi args Q E U)
noncomputable def C9:Nat->ZV
 |0=>λY Y Y Y Y=>False
 |n+1=>λk args Q E U=>Bx (oA (fnOf k) λfi=>Gu (bif WV k then TM 1 else C9 n) fi args Q E U)
@[irreducible]def Z8(n:Nat):ZV:=C9 n
theorem SP(n k:Nat)(args:List AV)(Q:fP)(E:US->Prop)(U:US):Z8 (n+1) k args Q E U=Bx (oA (fnOf k) λfi=>Gu (bif WV k then TM 1 else Z8 n) fi args Q E U):=by unfold Z8;rfl
theorem go(h:oA (fnOf k) λfi=>Gu (Z8 n) fi args Q E U)(hk:WV k=false:=by rfl):Z8 (n+1) k args Q E U:=by rw[SP,hk];exact⟨h⟩
theorem QH(h:oA (fnOf k) λfi=>Gu (TM 1) fi args Q E U)(hk:WV k=true:=by rfl):Z8 (n+1) k args Q E U:=by rw[SP,hk];exact⟨h⟩
theorem iV(h:oA (fnOf k) λfi=>Gu (TM n) fi args Q E U):TM (n+1) k args Q E U:=⟨h⟩
theorem Z_:upd U a o a=o:=if_pos rfl
theorem Z9(h:b≠a):upd U a o b=U b:=if_neg h
theorem Zt:upd (upd U a o) a o'=upd U a o':=by funext x;unfold upd;split<;>rfl
theorem UU(h:a≠b):upd (upd U a o) b o'=upd (upd U b o') a o:=by
 funext x;unfold upd
 by_cases h1:x=a
 ·subst h1;rw[if_neg h,if_pos rfl,if_pos rfl]
 ·rw[if_neg h1,if_neg h1]
theorem V_(h:U a=o):upd U a o=U:=by funext x;unfold upd;split<;>first|rfl|(subst x;exact h.symm)
theorem ZJ(h:o=some (.list xs))(q:K xs):oL o K:=by rw[h];unfold oL;exact⟨q⟩
theorem Z3(h:o=some (.di es))(q:K es):LH o K:=by rw[h];unfold LH;exact⟨q⟩
theorem YU(h:o=some (.ds es))(q:K es):xF o K:=by rw[h];unfold xF;exact⟨q⟩
theorem ZY(h:o=some (.fields es))(q:K es):oF o K:=by rw[h];unfold oF;exact⟨q⟩
theorem ZX(h:o=some (.inst c d))(q:K c d):oI o K:=by rw[h];unfold oI;exact⟨q⟩
theorem XZ{α:Type}{o:Option α}{x:α}{K:α->Prop}(h:o=some x)(q:K x):oA o K:=h▸q
theorem V9(h:U a=some (.list xs))(q:K xs):aL U (.ref a) K:=ZJ h q
theorem QG{α:Type}{xs:List α}{x:α}{K:α->Prop}:∀{i:Nat},xs[i]?=some x->K x->eN xs i K:=by
 induction xs with
 |nil=>exactλh=>ZE h
 |cons y r ih=>exactλ{i} h q=>match i with|0=>by cases h;exact q|i+1=>ih (i:=i) h q
theorem XR:∀{L:Loc} {i:Nat} {x:AV} {K:AV->Prop},(L:List (Option AV))[i]?=some (some x)->K x->Gy L i K
 |_::_,0,_,_,h,q=>by cases h;exact q
 |_::r,i+1,_,_,h,q=>XR (L:=r) (i:=i) h q
theorem Zu{x y:Prop}(h:b=true)(q:x):fF b x y:=h▸q
theorem Z2{x y:Prop}(h:b=false)(q:y):fF b x y:=h▸q
theorem ZC(b:Bool){x y:Prop}(h:b=true->x)(k:b=false->y):fF b x y:=by
 induction b using jB with
 |true=>exact h rfl
 |false=>exact k rfl
theorem Te(q:K v ws):Gx (ws++[v]) K:=by
 unfold Gx;constructor;rw[Zt6];show K v ws.reverse.reverse;rwa [Zh5]
theorem beq_false(h:a≠b):cZ a b=false:=by
 induction q:cZ a b using jB with
 |false=>rfl
 |true=>exact absurd (cW q) h
theorem Rj(h:b<a):Zw0 a b=false:=by
 induction q:Zw0 a b using jB with
 |false=>rfl
 |true=>exact absurd (cL q) (Zm5.mpr h)
theorem WU(h:b<=a):bk a b=false:=Rj (aT h)
theorem Uj:LN=10000000:=rfl
noncomputable def S.Z5:S->S
 |.asg _ _ k=>k
 |.N8 _ _ _ k=>k
 |.Pw _ _ _ _ k=>k
 |.N7 _ _ k=>k
 |.expr _ k=>k
 |.ite _ _ _ k=>k
 |.guard _ _ k=>k
 |.while _ _ k=>k
 |.for _ _ _ k=>k
 |s=>s
noncomputable def S.body:S->S
 |.while _ b _=>b
 |.for _ _ b _=>b
 |.ite _ b _ _=>b
 |s=>s
noncomputable def S.LF:S->S
 |.ite _ _ b _=>b
 |s=>s
noncomputable def S.test:S->X
 |.while t _ _=>t
 |_=>.nil
abbrev wG(C:ZV)(E:Loc->US->Prop)(c:X)(b:S)(Q:ZD)(n:Nat)(L:Loc)(U:US):Prop:=
 WK (λL K U1=>ZK C (E L) c L (λv U2=>Wk v λr=>K r U2) U1) (λQ' L U1=>wpS C b Q' E L U1) Q n L U
theorem VS{α:Type}{xs:List α}(h:xs≠[]):fh (.ofNat 0) (.ofNat xs.length)=true:=by induction xs using jL with|nil=>exact absurd rfl h|cons=>rfl
theorem Td{α:Type}{xs:List α}{x:α}:xs++[x]≠[]:=λh=>by exact rW ((List.append_eq_nil_iff.mp h).2)
theorem QF(J:Nat->Loc->US->Prop)(xs:List AV):∀(i:Nat) {L:Loc} {U:US},J i L U->
 (∀j x L U K,xs[j]?=some x->J (i+j) L U->(∀L' U',J (i+j+1) L' U'->K L' U')->ZB t x L λL'=>b (Y4 Q K) L' U)->(∀L U,J (i+xs.length) L U->Q none L U)->Zc t b Q xs L U:=by
  induction xs with
  |nil=>exactλi L U h s k=>k L U h
  |cons x r ih=>exactλi L U h s k=>s 0 x L U _ rfl h λL' U' h'=>ih (i+1) h' (λj y L U K e h=>by
   have:=s (j+1) y L U K e
   rw[<-aZ,Zx7]at this
   exact this h) λL U h=>k L U (by rw[bG,<-aZ,Zx7];exact h)
theorem LD(xs:List AV):∀(acc:List AV),(∀x Q,x∈xs->Q (f x) U->e x Q U)->Q (acc++xs.map f) U->Zo (λY K U2=>K true U2) e xs acc Q U:=by
 induction xs with
 |nil=>exactλacc _ q=>by rw[Zx0,cB]at q;exact q
 |cons x r ih=>exactλacc h q=>h x _ (.head _) (ih (acc++[f x]) (λy Q m=>h y Q (.tail _ m)) (by rwa [cz]))
noncomputable def MW:List Nat->Bool
 |[]=>true
 |x::r=>!Zh x r&&MW r
theorem Pj:∀{l:List Nat},x∈l->Zh x l=true
 |a::r,h=>b9.mpr ((cJ.mp h).imp (λ(e:x=a)=>e▸bY x) Pj)
theorem UT:∀{l:List Nat},MW l=true->l.Nodup
 |[],_=>.nil
 |x::r,h=>by
  obtain⟨a,b⟩:=cN.mp h
  refine bU.mpr ⟨λm=>?_,UT b⟩
  rw[Pj m]at a;exact Zv a
section
variable{β:Type}{b:β}
@[elab_as_elim]theorem MV{P:AV->Prop}{x:AV}{K:List AV->Option β}(h:x.BL K=some b)(q:∀xs,K xs=some b->P (.tup xs)):P x:=by induction x using jV<;>first|exact q _ h|exact ZE h
@[elab_as_elim]theorem Gq{P:AV->Prop}{x:AV}{K:Int->Option β}(h:x.v_ K=some b)(q:∀xs,K xs=some b->P (.int xs)):P x:=by induction x using jV<;>first|exact q _ h|exact ZE h
@[elab_as_elim]theorem Gp{P:AV->Prop}{x:AV}{K:Nat->Option β}(h:x.v9 K=some b)(q:∀xs,K xs=some b->P (.str xs)):P x:=by induction x using jV<;>first|exact q _ h|exact ZE h
@[elab_as_elim]theorem SO{α:Type}{P:List α->Prop}{x:List α}{K:α->List α->Option β}(h:MX x K=some b)(q:∀y r,K y r=some b->P (y::r)):P x:=by induction x using jL<;>first|exact q _ _ h|exact ZE h
theorem Ph{P:AV->List (Int×AV)->Prop}{x:AV}{r:List AV}{es:List (Int×AV)}(h:pairsOf (x::r)=some es)(q:∀k v es',pairsOf r=some es'->P (.tup [.int k,v]) ((k,v)::es')):P x es:=by
 refine MV (P:=λx=>P x es) h λxs h=>SO (P:=λxs=>P (.tup xs) es) h λk xs h=>Gq (P:=λk=>P (.tup (k::xs)) es) h λk h=>SO (P:=λxs=>P (.tup (.int k::xs)) es) h λv xs h=>?_
 induction xs using jL with
 |nil=>exact(bK.mp h).elim λes' h=>h.2▸q k v es' h.1
 |cons _ _=>exact ZE h
end
inductive H where
 |const (v:AV)
 |loc (x:Nat)
 |glob (s:Nat)
 |YG (x:Nat)
 |setG (s:Nat)
 |ite
 |lam (l:Nat) (ps:List Nat) (r:Option Nat)
 |call
 |seq
 |prim (op:Nat)
abbrev jH:=@H.casesOn.{0}
noncomputable def H.ix(o:H):Nat:=H.rec (motive:=λY=>Nat) (λY=>0) (λY=>1) (λY=>2) (λY=>3) (λY=>4) 5 (λY Y Y=>6) 7 8 (λY=>9) o
theorem xH{a b:H}{P:Prop}(h:a=b)(q:cZ a.ix b.ix=false):P:=by
 rw[h,bY]at q;exact Wf q
inductive N where
 |node (h:H) (ts:N)
 |nil
 |cons (h t:N)
abbrev jM:=@N.casesOn.{0}
noncomputable def TL:Option Nat->Int
 |none=>.negSucc 0
 |some x=>.ofNat x
noncomputable abbrev fO(n:Nat):AV:=.int (.ofNat n)
noncomputable abbrev fN(l:List Nat):List AV:=l.map fO
noncomputable def H.cls:H->Nat
 |.const _=>3
 |.loc _=>4
 |.glob _=>5
 |.YG _=>6
 |.setG _=>7
 |.ite=>8
 |.lam _ _ _=>9
 |.call=>10
 |.seq=>11
 |.prim _=>12
noncomputable def H.fs:H->List AV->List AV
 |.const v,_=>[v]
 |.loc x,_=>[fO x]
 |.glob s,_=>[fO s]
 |.YG x,xs=>fO x::xs
 |.setG s,xs=>fO s::xs
 |.ite,xs=>xs
 |.lam l ps r,xs=>fO l::.lst (fN ps)::.int (TL r)::xs
 |.call,xs=>match xs with|f::as=>[f,.lst as]|[]=>[]
 |.seq,xs=>[.lst xs]
 |.prim op,xs=>[fO op,.lst xs]
noncomputable def H.av(h:H)(xs:List AV):AV:=.inst h.cls (h.fs xs)
noncomputable def N.ZS:N->List AV
 |.node h ts=>[h.av ts.ZS]
 |.nil=>[]
 |.cons h t=>h.ZS++t.ZS
noncomputable def N.av:N->AV
 |.node h ts=>h.av ts.ZS
 |_=>.none
noncomputable def N.Zw:N->Bool
 |.node _ _=>true
 |_=>false
noncomputable def N.len:N->Nat
 |.node _ _=>1
 |.nil=>0
 |.cons h t=>t.len+h.len
noncomputable def H.ar(n:Nat):H->Bool
 |.const _=>cZ n 0
 |.loc _=>cZ n 0
 |.glob _=>cZ n 0
 |.YG _=>cZ n 1
 |.setG _=>cZ n 1
 |.ite=>cZ n 3
 |.lam _ _ _=>cZ n 1
 |.call=>Zw0 1 n
 |.seq=>cZ n 2
 |.prim _=>true
noncomputable def N.wf:N->Prop
 |.node h ts=>h.ar ts.len=true/\ts.wf
 |.nil=>True
 |.cons h t=>h.wf/\t.wf
noncomputable def H.sz:H->Nat
 |.lam _ ps _=>ps.length
 |_=>0
noncomputable def N.sz:N->Nat
 |.node h ts=>ts.sz+h.sz+1
 |.nil=>0
 |.cons h t=>h.sz+t.sz
theorem UR{h:H}{ts:N}:(N.node h ts).sz=ts.sz+h.sz+1:=rfl
theorem Tc{h t:N}:(N.cons h t).sz=h.sz+t.sz:=rfl
theorem ZG:∀t:N,t.ZS.length=t.len
 |.node _ _=>rfl
 |.nil=>rfl
 |.cons h t=>by show(h.ZS++t.ZS).length=t.len+h.len;rw[cS,ZG h,ZG t,aH]
theorem Xn:∀t:N,t.len<=t.sz
 |.node _ _=>cj _ _
 |.nil=>cO _
 |.cons h t=>by show t.len+h.len<=h.sz+t.sz;rw[aH];exact aU (Xn h) (Xn t)
noncomputable def H.kind:H->Nat
 |.const _=>0
 |.loc _=>1
 |.glob _=>2
 |.YG _=>3
 |.setG _=>4
 |.ite=>6
 |.lam _ _ _=>7
 |.call=>8
 |.seq=>9
 |.prim _=>10
theorem XW(h:H)(xs:List AV){K:AV->Prop}(q:K (fO h.kind)):Kh (h.av xs) 1 K (λY=>none):=by induction h using jH<;>exact q
noncomputable def H.pm:H->Nat
 |.YG _=>306
 |.setG _=>309
 |.ite=>312
 |.lam _ _ _=>315
 |.call=>320
 |.seq=>323
 |.prim _=>326
 |_=>300
theorem UQ(h:H)(xs:List AV){K:Nat->Prop}(q:K h.pm):MY (h.av xs) 3 K (λY=>none):=by induction h using jH<;>exact q
theorem BH(h:H)(xs:List AV){K:Nat->Prop}(hp:xs≠[])(ar:h.ar xs.length=true)(q:K (h.pm+1)):MY (h.av xs) 4 K (λY=>none):=by
 induction h using jH<;>first|exact q|exact absurd (bQ.mp (cW ar)) hp
theorem YT{U:US}{a d c:Nat}{fs:List (Nat×AV)}{Q:fP}(hne:a≠d)(ha:U a=none)(hd:U d=none)(hf:fs.map (·.1)=fieldsOf c)(q:Q (.inst c (fs.map (·.2))) U):
 QJ (.ref a) Q (upd (upd U a (some (.inst c d))) d (some (.fields fs))):=by
 have e1:(upd (upd U a (some (.inst c d))) d (some (.fields fs))) a=some (.inst c d):=(Z9 hne).trans Z_
 unfold QJ;constructor
 show match(upd (upd U a (some (.inst c d))) d (some (.fields fs))) a with|some (.list xs)=>_|some (.inst c d)=>_|_=>False
 rw[e1]
 refine ZY Z_ ⟨hf,?_⟩
 rwa [UU hne.symm,Zt,Zt,UU hne,V_ hd,V_ ha]
theorem UP{C:ZV}{E:Loc->US->Prop}{U:US}{a d c i n:Nat}{L:Loc}{v:AV}{fs:List (Nat×AV)}{k:S}{Q:ZD}(hne:a≠d)(h0:(L:List (Option AV))[0]?=some (some (.ref a)))(hi:(L:List (Option AV))[i]?=some (some v))(hp:(fH n (fieldsOf c)).isSome=true)(hl:bk fs.length 64=true)
 (q:wpS C k Q E L (upd (upd U a (some (.inst c d))) d (some (.fields (Xc fs n v))))):wpS C (.N8 (.loc 0) n (.loc i) k) Q E L (upd (upd U a (some (.inst c d))) d (some (.fields fs))):=by
 refine XR hi (XR h0 ?_)
 refine ZX ((Z9 hne).trans Z_) (ZY Z_ ⟨hp,cL hl,?_⟩)
 rwa [Zt]
theorem Xm{C:ZV}{c:Nat}{args:List AV}{Q:fP}{E:US->Prop}{U:US}(h:Rk C (.g c) args (λv U1=>QJ v Q U1) E U):RA C c args Q E U:=by unfold RA;exact⟨h⟩
theorem o_{n:Nat}{v:AV}{Q:fP}{E:US->Prop}{U:US}(q:Q (.inst 3 [v]) U):RA (Z8 (n+1)) 3 [v] Q E U:=
 Xm λY Y hne ha hd=>QH (UP hne rfl rfl rfl rfl ⟨rfl,YT hne ha hd rfl q⟩)
theorem BG{n:Nat}{v:AV}{Q:fP}{E:US->Prop}{U:US}(q:Q (.inst 4 [v]) U):RA (Z8 (n+1)) 4 [v] Q E U:=
 Xm λY Y hne ha hd=>QH (UP hne rfl rfl rfl rfl ⟨rfl,YT hne ha hd rfl q⟩)
theorem vX{n:Nat}{v:AV}{Q:fP}{E:US->Prop}{U:US}(q:Q (.inst 5 [v]) U):RA (Z8 (n+1)) 5 [v] Q E U:=
 Xm λY Y hne ha hd=>QH (UP hne rfl rfl rfl rfl ⟨rfl,YT hne ha hd rfl q⟩)
theorem BF{n:Nat}{v w:AV}{Q:fP}{E:US->Prop}{U:US}(q:Q (.inst 6 [v,w]) U):RA (Z8 (n+1)) 6 [v,w] Q E U:=
 Xm λY Y hne ha hd=>QH (UP hne rfl rfl rfl rfl (UP hne rfl rfl rfl rfl ⟨rfl,YT hne ha hd rfl q⟩))
theorem Go{n:Nat}{v w:AV}{Q:fP}{E:US->Prop}{U:US}(q:Q (.inst 7 [v,w]) U):RA (Z8 (n+1)) 7 [v,w] Q E U:=
 Xm λY Y hne ha hd=>QH (UP hne rfl rfl rfl rfl (UP hne rfl rfl rfl rfl ⟨rfl,YT hne ha hd rfl q⟩))
theorem vW{n:Nat}{u v w:AV}{Q:fP}{E:US->Prop}{U:US}(q:Q (.inst 8 [u,v,w]) U):RA (Z8 (n+1)) 8 [u,v,w] Q E U:=
 Xm λY Y hne ha hd=>QH (UP hne rfl rfl rfl rfl (UP hne rfl rfl rfl rfl (UP hne rfl rfl rfl rfl ⟨rfl,YT hne ha hd rfl q⟩)))
theorem NZ{n:Nat}{t u v w:AV}{Q:fP}{E:US->Prop}{U:US}(q:Q (.inst 9 [t,u,v,w]) U):RA (Z8 (n+1)) 9 [t,u,v,w] Q E U:=
 Xm λY Y hne ha hd=>QH (UP hne rfl rfl rfl rfl (UP hne rfl rfl rfl rfl (UP hne rfl rfl rfl rfl (UP hne rfl rfl rfl rfl ⟨rfl,YT hne ha hd rfl q⟩))))
theorem UN{n:Nat}{v w:AV}{Q:fP}{E:US->Prop}{U:US}(q:Q (.inst 10 [v,w]) U):RA (Z8 (n+1)) 10 [v,w] Q E U:=
 Xm λY Y hne ha hd=>QH (UP hne rfl rfl rfl rfl (UP hne rfl rfl rfl rfl ⟨rfl,YT hne ha hd rfl q⟩))
theorem C8{n:Nat}{v:AV}{Q:fP}{E:US->Prop}{U:US}(q:Q (.inst 11 [v]) U):RA (Z8 (n+1)) 11 [v] Q E U:=
 Xm λY Y hne ha hd=>QH (UP hne rfl rfl rfl rfl ⟨rfl,YT hne ha hd rfl q⟩)
theorem Kg{n:Nat}{v w:AV}{Q:fP}{E:US->Prop}{U:US}(q:Q (.inst 12 [v,w]) U):RA (Z8 (n+1)) 12 [v,w] Q E U:=
 Xm λY Y hne ha hd=>QH (UP hne rfl rfl rfl rfl (UP hne rfl rfl rfl rfl ⟨rfl,YT hne ha hd rfl q⟩))
theorem QE{α:Type}{xs:List α}(h:cZ xs.length 1=true):∃a,xs=[a]:=List.length_eq_one_iff.mp (cW h)
theorem vV{α:Type}{xs:List α}(h:cZ xs.length 2=true):∃a b,xs=[a,b]:=by
 induction xs using jL with
 |nil=>exact Zv h
 |cons a r=>exact eE (QE (xs:=r) h) λb e=>⟨a,b,congrArg _ e⟩
theorem vU{α:Type}{xs:List α}(h:cZ xs.length 3=true):∃a b c,xs=[a,b,c]:=by
 induction xs using jL with
 |nil=>exact Zv h
 |cons a r=>exact eE (vV (xs:=r) h) λb e=>eE e λc e=>⟨a,b,c,congrArg _ e⟩
theorem vR{α:Type}{xs:List α}(h:cZ xs.length 0=true):xs=[]:=bQ.mp (cW h)
theorem vQ{α:Type}{xs:List α}(h:Zw0 1 xs.length=true):∃a r,xs=a::r:=by
 induction xs using jL with
 |nil=>exact Zu2 (show false=true from h)
 |cons a r=>exact⟨a,r,rfl⟩
theorem UM{n:Nat}{h:H}{xs:List AV}{Q:fP}{E:US->Prop}{U:US}(ar:h.ar xs.length=true)(hs:xs.length<=LN)(q:Q (.lst xs) U):Z8 (n+1) h.pm [h.av xs] Q E U:=by
 induction h using jH with
 |YG x=>obtain⟨e,rfl⟩:=QE ar;exact go q
 |setG x=>obtain⟨e,rfl⟩:=QE ar;exact go q
 |ite=>obtain⟨a,b,c,rfl⟩:=vU ar;exact go q
 |lam=>obtain⟨e,rfl⟩:=QE ar;exact go q
 |call=>obtain⟨f,as,rfl⟩:=vQ ar;exact go ⟨by rw[aH];exact hs,q⟩
 |seq=>exact go q
 |prim op=>exact go q
 |_=>obtain rfl:=vR ar;exact go q
theorem BE{n:Nat}{h:H}{xs ys:List AV}{Q:fP}{E:US->Prop}{U:US}(hp:ys≠[])(ar:h.ar ys.length=true)(q:Q (h.av ys) U):Z8 (n+2) (h.pm+1) [h.av xs,.lst ys] Q E U:=by
 induction h using jH with
 |YG x=>obtain⟨e,rfl⟩:=QE ar;exact go (BF q)
 |setG x=>obtain⟨e,rfl⟩:=QE ar;exact go (Go q)
 |ite=>obtain⟨a,b,c,rfl⟩:=vU ar;exact go (vW q)
 |lam=>obtain⟨e,rfl⟩:=QE ar;exact go (NZ q)
 |call=>obtain⟨f,as,rfl⟩:=vQ ar;exact go λzs hz=>by subst hz;exact UN q
 |seq=>exact go (C8 q)
 |prim op=>exact go (Kg q)
 |_=>exact absurd (vR ar) hp
def vP(U:US)(x:AV):Prop:=(∃c vs,x=.inst c vs)/\VU U x=true
theorem dF{α:Type}{xs ys:List α}{i:Nat}(h:∀j,j<i->xs[j]?=ys[j]?)(e:xs[i]?=ys[i]?):∀j,j<0+i+1->xs[j]?=ys[j]?:=λj k=>by
 rcases Nat.lt_or_eq_of_le (Zx2 (a_ i▸k))with k|rfl
 ·exact h j k
 ·exact e
theorem BD(hx:vP U x)(hy:vP U y)(q:∀r,(r=true->x=y)->Q r):LG x y Q U:=by
 obtain⟨⟨c,vs,rfl⟩,h1⟩:=hx
 obtain⟨⟨c',vs',rfl⟩,h2⟩:=hy
 unfold LG;exact⟨h1,h2,q⟩
theorem LC(h:((Zw3 n).map λi=>AV.int (.ofNat i))[i]?=some x):i<n/\x=fO i:=by
 rw[Zv3]at h
 obtain⟨j,hj,rfl⟩:=bK.mp h
 obtain⟨k,e⟩:=bE.mp hj
 rw[aI]at k
 rw[List.getElem_range]at e
 exact⟨k,congrArg fO e.symm⟩
theorem BC{n:Nat}{xs ys:List AV}{Q:fP}{E:US->Prop}{U:US}(hx:∀x∈xs,vP U x)(hy:∀y∈ys,vP U y)(hl:xs.length<=LN)(q:∀r,(r=true->xs=ys)->(xs=[]->ys=[]->r=true)->Q (.bool r) U):Z8 (n+1) 15 [.lst xs,.lst ys] Q E U:=by
 refine go ?_
 induction h:cZ xs.length ys.length using jB with
 |false=>exact Zu (b:=!cZ xs.length ys.length) (by rw[h];rfl) (q false (Zv ·) λe1 e2=>by subst e1;subst e2;exact Wf h)
 |true=>
  have h:=cW h
  refine Z2 (b:=!cZ xs.length ys.length) (by rw[h,bY];rfl) ⟨hl,?_⟩
  refine QF (λi L U'=>U'=U/\(∃z,L=[some (.lst xs),some (.lst ys),z])/\∀j,j<i->xs[j]?=ys[j]?) _ 0 ⟨rfl,⟨_,rfl⟩,λj h=>absurd h (Zj4 j)⟩ (λi x L U' K hi J hK=>?_) λL U' J=>?_
  ·obtain⟨rfl,⟨z,rfl⟩,hp⟩:=J
   rw[a_]at hp
   obtain⟨hlt,rfl⟩:=LC hi
   obtain⟨x,e1⟩:∃x,xs[i]?=some x:=⟨_,cy hlt⟩
   obtain⟨y,e2⟩:∃y,ys[i]?=some y:=⟨_,cy (h▸hlt)⟩
   refine QG e1 (QG e2 (BD (hx _ (au e1)) (hy _ (au e2)) λr hr=>?_))
   induction r using jB with
   |false=>exact q false (Zv ·) λe=>by subst e;cases hlt
   |true=>exact hK _ _ ⟨rfl,⟨_,rfl⟩,dF hp (e1.trans ((congrArg some (hr rfl)).trans e2.symm))⟩
  ·obtain⟨rfl,_,hp⟩:=J
   rw[cM,aI,a_]at hp
   refine⟨q true (λY=>Zm4 λj=>?_) λY Y=>rfl⟩
   by_cases k:j<xs.length
   ·exact hp j k
   ·rw[Zz8 (Zx3.mp k),Zz8 (h▸Zx3.mp k)]
def CV(tx:Ad->Prop):AV->Prop
 |.int _=>True
 |.bool _=>True
 |.g k=>k=24
 |.ref a=>tx a
 |_=>False
noncomputable def H.cs(tx:Ad->Prop):H->Prop
 |.const v=>CV tx v
 |_=>True
noncomputable def N.cs(tx:Ad->Prop):N->Prop
 |.node h ts=>h.cs tx/\ts.cs tx
 |.nil=>True
 |.cons h t=>h.cs tx/\t.cs tx
theorem MU:∀{xs ys:List AV},VT U xs=true->VT U ys=true->VT U (xs++ys)=true
 |[],_,_,h=>h
 |_::_,_,h,k=>aE (cN.mp h) λa b=>cN.mpr ⟨a,MU b k⟩
theorem UL:∀l:List Nat,VT U (fN l)=true
 |[]=>rfl
 |_::l=>UL l
theorem C7{tx:Ad->Prop}{U:US}(ht:∀a,tx a->U a≠none){h:H}{xs:List AV}(c:h.cs tx)(k:VT U xs=true):VU U (h.av xs)=true:=by
 have two:∀{a b},a=true->b=true->(a&&b)=true:=λh k=>cN.mpr ⟨h,k⟩
 induction h using jH with
 |const v=>
  refine two ?_ rfl
  induction v using jV with
  |ref a=>exact Option.isSome_iff_ne_none.mpr (ht a c)
  |g k=>obtain rfl:k=24:=c;rfl
  |int|bool=>rfl
  |_=>exact c.elim
 |lam l ps r=>exact two (UL ps) k
 |call=>induction xs using jL with
  |nil=>rfl
  |cons f as=>obtain⟨a,b⟩:=cN.mp k;exact two a (two b rfl)
 |seq=>exact two k rfl
 |prim op=>exact two k rfl
 |loc|glob=>rfl
 |_=>exact k
theorem QD(ht:∀a,tx a->U a≠none):∀{t:N},t.cs tx->VT U t.ZS=true
 |.node _ _,c=>cN.mpr ⟨C7 ht c.1 (QD ht c.2),rfl⟩
 |.nil,_=>rfl
 |.cons _ _,c=>MU (QD ht c.1) (QD ht c.2)
theorem S_(ht:∀a,tx a->U a≠none):∀{t:N},t.cs tx->∀x∈t.ZS,vP U x
 |.node _ _,c,x,m=>by obtain rfl:=cP.mp m;exact⟨⟨_,_,rfl⟩,C7 ht c.1 (QD ht c.2)⟩
 |.cons _ _,c,x,m=>(bX.mp m).elim (S_ ht c.1 x) (S_ ht c.2 x)
structure Zf(D:Ad->Prop)(U U':US):Prop where
 on:∀a,U a≠none->U' a≠none
 eq:∀a,¬D a->U a≠none->U' a=U a
theorem Zf.refl:Zf D U U:=⟨λY h=>h,λY Y Y=>rfl⟩
theorem Zf.trans(h:Zf D U U')(h':Zf D U' TJ):Zf D U TJ:=⟨λa z=>h'.on a (h.on a z),λa d z=>(h'.eq a d (h.on a z)).trans (h.eq a d z)⟩
theorem Zf.mono(h:Zf D U U')(k:∀a,D a->D' a):Zf D' U U':=⟨h.on,λa d z=>h.eq a (λq=>d (k a q)) z⟩
theorem Zf.new(h:Zf D U U')(hU:U a=none):Zf D U (upd U' a o):=by
 have ne:∀b,U b≠none->b≠a:=λb z e=>z (e▸hU)
 exact⟨λb z=>by rw[Z9 (ne b z)];exact h.on b z,λb d z=>by rw[Z9 (ne b z)];exact h.eq b d z⟩
theorem Zf.set(h:Zf D U U')(d:D a):Zf D U (upd U' a (some o)):=
 ⟨λb z=>by
  by_cases e:b=a
  ·rw[e,Z_];exact cG _
  ·rw[Z9 e];exact h.on b z,λb n z=>(Z9 λ(e:b=a)=>n (e.symm▸d)).trans (h.eq b n z)⟩
theorem Zf.at(h:Zf D U U')(e:U a=some o)(d:¬D a):U' a=some o:=(h.eq a d (e▸cG _)).trans e
theorem Zf.free(h:Zf D U U')(e:U' a=none):U a=none:=by
 induction q:U a using jO with
 |none=>rfl
 |some o=>exact absurd e (h.on a (q▸cG _))
abbrev GW(D:Ad->Prop)(U U':US):Prop:=(∀a,D a->U' a=U a)/\∀a,U a≠none->U' a≠none
theorem GW.upd(h:¬D a):GW D U (Mine.Internal.upd U a (some o)):=
 ⟨λb hb=>Z9 λ(e:b=a)=>h (e▸hb),λb hb=>by
  by_cases e:b=a
  ·rw[e,Z_];exact cG _
  ·rw[Z9 e];exact hb⟩
noncomputable def o9:S:=rQ.Z5.Z5.body
noncomputable def iU:X:=rQ.Z5.Z5.test
noncomputable def iT:S:=o9.Z5.Z5.LF
noncomputable abbrev xw(x:AV):AV:=.tup [x,.bool false]
section
variable{m:Nat}{cv:AV}{tx D:Ad->Prop}{E:Loc->US->Prop}{Q:ZD}{U0:US}
inductive Rb(cv:AV)(D:Ad->Prop)(U0:US):Loc->US->List AV->List AV->Prop
 |mk {node x4 x5 x6 x7 x8 x9:Option AV} {d w:Ad} {ds ws:List AV} {U:US}:U d=some (.list ds)->U w=some (.list ws)->d≠w->¬D d->¬D w->U0 d=none->U0 w=none->Zf D U0 U->
  Rb cv D U0 [node,some cv,some (.ref d),some (.ref w),x4,x5,x6,x7,x8,x9] U ds ws
abbrev rG(m:Nat)(E:Loc->US->Prop)(Q:ZD)(k:Nat)(L:Loc)(U:US):Prop:=wG (Z8 m) E iU o9 Q k L U
theorem Gn:∀(ys ws:List AV) {U:US} {x7:Option AV},U w=some (.list ws)->ws.length+ys.length<=LN->(∀x7,Q none [x0,x1,x2,some (.ref w),x4,x5,x6,x7,x8,x9] (upd U w (some (.list (ws++ys.map xw)))))->
 Zc [7] (λQ' L U1=>wpS C o9.Z5.Z5.body.Z5.body Q' E L U1) Q ys [x0,x1,x2,some (.ref w),x4,x5,x6,x7,x8,x9] U:=by
  refine hM ?_;intro MM ys;induction ys with
  |nil=>
   intro ws U x7 h _ q
   have q:=q x7
   rwa [Zx0,cB,V_ h]at q
  |cons y ys ih=>
   intro ws U x7 h hl q
   rw[bG]at hl
   refine ZJ h (ZJ h ⟨Z7 hl,ih (ws++[xw y]) Z_ (by rw[cS,aO];exact Z7 hl) λx7=>?_⟩)
   rw[Zt,cz]
   exact q x7
theorem Gm{k:Nat}{L:Loc}{U:US}{ds ws:List AV}{h:H}{xs:List AV}(hp:xs≠[])(ar:h.ar xs.length=true)(sz:ws.length+xs.length+1<=LN)(R:Rb cv D U0 L U ds (ws++[xw (h.av xs)]))
 (q:∀L' U',Rb cv D U0 L' U' ds (ws++[.tup [h.av xs,.bool true]]++xs.reverse.map xw)->GW D U U'->rG (m+1) E Q k L' U'):rG (m+1) E Q (k+1) L U:=by
 cases R with|mk hd hW hne nD nW d0 w0 fr=>
 refine V9 hW (Zu (VS Td) (ZJ hW (Te (UQ h xs (UM ar (Z7 sz) (Zu (VS hp) (ZJ Z_ (ZJ Z_ ⟨Z7 sz,?_⟩))))))))
 refine Gn xs.reverse (ws++[.tup [h.av xs,.bool true]]) Z_ (by rw[cS,aN,aO];exact Z7 sz) λx7=>?_
 rw[Zt,Zt]
 exact q _ _ (.mk (by rw[Z9 hne];exact hd) Z_ hne nD nW d0 w0 (fr.new w0)) (.upd nW)
abbrev xu(σ:Type):=σ->N->(σ->N->Prop)->Prop
noncomputable def QC{σ:Type}(RD:xu σ):N->σ->(σ->N->Prop)->Prop
 |.node h ts,s,P=>QC RD ts s λs ts'=>RD s (.node h ts') P
 |.nil,s,P=>P s .nil
 |.cons h t,s,P=>QC RD h s λs h'=>QC RD t s λs t'=>P s (.cons h' t')
theorem SM{σ:Type}{RD:xu σ}:∀(t:N) {s:σ} {P:σ->N->Prop},t.len=0->QC RD t s P->P s t
 |.node _ _,_,_,h,_=>nomatch h
 |.nil,_,_,_,r=>r
 |.cons h t,s,P,e,r=>
  have r:QC RD h s (λs h'=>QC RD t s λs t'=>P s (.cons h' t')):=r
  have r:=SM h (b8 e) r
  SM t (P:=λs t'=>P s (.cons h t')) (b6 e) r
structure V8{σ:Type}(m:Nat)(cv:AV)(tx D:Ad->Prop)(XC:σ->US->Prop)(RD:xu σ):Prop where
 run:∀{s:σ} {t:N} {P:σ->N->Prop} {U:US} {Q:fP} {E:US->Prop},t.Zw=true->t.wf->t.cs tx->RD s t P->XC s U->
  (∀s' t' U',P s' t'->t'.Zw=true->t'.wf->t'.cs tx->XC s' U'->Zf D U U'->Q t'.av U')->Rk (Z8 m) cv [t.av] Q E U
 hold:∀{s:σ} {U U':US},XC s U->GW D U U'->XC s U'
 foot:∀{s:σ} {U:US} {a:Ad},XC s U->D a->U a≠none
 txt:∀{s:σ} {U:US} {a:Ad},XC s U->tx a->U a≠none
section
variable{σ:Type}{XC:σ->US->Prop}{RD:xu σ}
theorem ZP{t:N}(h:t.Zw=true):t.ZS=[t.av]/\t.len=1:=by induction t using jM<;>first|exact⟨rfl,rfl⟩|exact Zv h
theorem BB(h:z=Zt0 a-Zt0 b)(e:a=n+b):z=.ofNat n:=by subst e;rw[h];show((n+b:Nat):Int)-(b:Int)=(n:Int);lia
theorem Gl{U:US}{ds ws:List AV}{h:H}{ts ys:N}{node x6 x7 x8 x9:Option AV}{d w:Ad}{s:σ}{P:σ->N->Prop}{QQ:ZD}(G:V8 (m+2) cv tx D XC RD)(C6:h.ar ts.len=true)(hcs:h.cs tx)(htc:ts.cs tx)(hl:ys.len=ts.len)(o8:ys.wf)(hyc:ys.cs tx)
 (hn:ts.len<=LN) (hds:ds.length<LN) (hd:U d=some (.list (ds++ys.ZS))) (hW:U w=some (.list ws)) (nW:¬D w) (w0:U0 w=none) (fr:Zf D U0 U) (hs:XC s U) (hc:RD s (.node h ys) P)
 (q:∀s' t' L' U',P s' t'->t'.Zw=true->t'.wf->t'.cs tx->XC s' U'->Rb cv D U0 L' U' (ds++[t'.av]) ws->QQ none L' U'):
 wpS (Z8 (m+2)) iT QQ E [node,some cv,some (.ref d),some (.ref w),some (.lst ts.ZS),some (h.av ts.ZS),x6,x7,x8,x9] U:=by
 have el:ys.ZS.length=ts.ZS.length:=by rw[ZG,ZG,hl]
 refine V9 hd λz hz=>?_
 obtain rfl:z=.ofNat ds.length:=BB hz (by rw[cS,el])
 refine V9 hd λzs o7=>?_
 obtain rfl:zs=ys.ZS:=o7.trans List.drop_left
 refine V9 hd λzs o7 d' hd'=>?_
 obtain rfl:zs=ds:=o7.trans List.take_left
 have oZ:U0 d'=none:=fr.free hd'
 have vO:w≠d':=λe=>by rw[e,hd']at hW;exact ZE hW
 have rH:¬D d':=λz=>G.foot hs z hd'
 have hs1:XC s (upd U d' (some (.list zs))):=G.hold hs (.upd rH)
 have k8:∀a,tx a->upd U d' (some (.list zs)) a≠none:=λa ha=>G.txt hs1 ha
 have last:∀(x9:Option AV),wpS (Z8 (m+2)) (.expr (.lm .append (.loc 2) (.call (.loc 1) (.cons (.loc 5) .nil))) .nil) QQ E
  [node,some cv,some (.ref d'),some (.ref w),some (.lst ts.ZS),some (h.av ys.ZS),x6,x7,some (.int (.ofNat zs.length)),x9] (upd U d' (some (.list zs))):=λx9=>
  ZJ Z_ (G.run (t:=.node h ys) rfl ⟨hl▸C6,o8⟩ ⟨hcs,hyc⟩ hc hs1 λs' t' U' hP h1 h2 h3 hH hF=>ZJ (hF.at Z_ rH) ⟨hds,
   q s' t' _ _ hP h1 h2 h3 (G.hold hH (.upd rH)) (.mk Z_ (by rw[Z9 vO];exact hF.at (by rw[Z9 vO];exact hW) nW) vO.symm rH nW oZ w0 (((fr.new oZ).trans hF).new oZ))⟩)
 refine⟨rfl,BC (S_ k8 htc) (S_ k8 hyc) (by rw[ZG];exact hn) λr hr hr0=>?_⟩
 induction r using jB with
 |true=>
  have:=last (some (.lst ys.ZS))
  rw[<-hr rfl]at this⊢
  exact⟨this⟩
 |false=>
  have hp:ys.ZS≠[]:=λe=>by
   have e':ts.ZS=[]:=bQ.mp (by rw[<-el,e];rfl)
   exact Zv (hr0 e' e)
  have ar:h.ar ys.ZS.length=true:=by rw[ZG,hl];exact C6
  exact BH h ts.ZS (λe=>hp (bQ.mp (by rw[el,e];rfl))) (by rw[ZG];exact C6) (BE hp ar (⟨last _⟩))
end
end
section
variable{σ:Type}{m:Nat}{cv:AV}{tx D:Ad->Prop}{XC:σ->US->Prop}{RD:xu σ}{E:Loc->US->Prop}{Q:ZD}{U0:US}
def oY(m:Nat)(cv:AV)(tx D:Ad->Prop)(XC:σ->US->Prop)(RD:xu σ)(E:Loc->US->Prop)(Q:ZD)(U0:US)(t:N):Prop:=
 ∃st,∀{k:Nat} {L:Loc} {U:US} {ds ws:List AV} {s:σ} {P:σ->N->Prop},ds.length+ws.length+2*t.sz<LN->Rb cv D U0 L U ds (ws++t.ZS.reverse.map xw)->XC s U->QC RD t s P->
  (∀s' t' L' U',P s' t'->(t.Zw=true->t'.Zw=true)/\t'.len=t.len->t'.wf->t'.cs tx->XC s' U'->Rb cv D U0 L' U' (ds++t'.ZS) ws->rG (m+2) E Q k L' U')->rG (m+2) E Q (k+st) L U
theorem Kf{k:Nat}{L:Loc}{U:US}{ds ws:List AV}{h:H}{ts ys:N}{fl:Bool}{s:σ}{P:σ->N->Prop}(G:V8 (m+2) cv tx D XC RD)(C6:h.ar ts.len=true)(hcs:h.cs tx)(htc:ts.cs tx)(hl:ys.len=ts.len)(o8:ys.wf)(hyc:ys.cs tx)
 (hf:(fl||ts.ZS.isEmpty)=true) (sz:ds.length+ts.len<LN) (R:Rb cv D U0 L U (ds++ys.ZS) (ws++[.tup [h.av ts.ZS,.bool fl]])) (hs:XC s U) (hc:RD s (.node h ys) P)
 (q:∀s' t' L' U',P s' t'->t'.Zw=true->t'.wf->t'.cs tx->XC s' U'->Rb cv D U0 L' U' (ds++[t'.av]) ws->rG (m+2) E Q k L' U'):rG (m+2) E Q (k+1) L U:=by
 cases R with|@mk node x4 x5 x6 x7 x8 x9 d w _ _ _ hd hW hne nD nW d0 w0 fr=>
 have e:ts.ZS.length=ts.len:=ZG _
 refine V9 hW (Zu (VS Td) (ZJ hW (Te (UQ h ts.ZS (UM (by rw[e];exact C6) (by rw[e];exact Z7 sz) ?_)))))
 have tl:=Gl (node:=node) (x6:=some (.bool fl)) (x7:=x7) (x8:=x8) (x9:=x9) (E:=E) (QQ:=Y4 (Y4 Q λL2 U2=>rG (m+2) E Q k L2 U2) λL2 U2=>wpS (Z8 (m+2)) .nil (Y4 Q λL2 U2=>rG (m+2) E Q k L2 U2) E L2 U2) G C6 hcs htc hl o8 hyc (Z7 sz) (Z7 sz) ((Z9 hne).trans hd) (Z_ (U:=U)) nW w0 (fr.new w0) (G.hold hs (.upd nW)) hc λs' t' L' U' p a b c d e=>q s' t' L' U' p a b c d e
 induction fl using jB with
 |true=>exact tl
 |false=>
  have e0:ts.ZS=[]:=Zu0.mp hf
  refine Z2 (b:=fh (.ofNat 0) (.ofNat ts.ZS.length)) (by rw[e0];rfl) tl
theorem Gk(G:V8 (m+2) cv tx D XC RD):∀t:N,t.wf->t.cs tx->oY m cv tx D XC RD E Q U0 t
 |.nil,_,_=>⟨0,λY R hs hr q=>q _ _ _ _ hr ⟨id,rfl⟩ trivial trivial hs (by rw[show N.ZS .nil=[]from rfl,cB];rwa [show N.ZS .nil=[]from rfl,List.reverse_nil,Zx0,cB]at R)⟩
 |.cons h t,hw,hc=>by
  obtain⟨s1,h1⟩:=Gk G h hw.1 hc.1
  obtain⟨s2,h2⟩:=Gk G t hw.2 hc.2
  refine⟨s2+s1,λ{k L U ds ws s P} sz R hs hr q=>?_⟩
  have sz:ds.length+ws.length+2*(h.sz+t.sz)<LN:=sz
  have lt:=Xn t
  rw[<-ZG]at lt
  rw[<-aZ]
  refine h1 (ds:=ds) (ws:=ws++t.ZS.reverse.map xw) (by rw[cS,cM,aN];exact Z7 sz (Z7 lt)) ?_ hs hr λs' h' L' U' hr' e1 w1 c1 hs' R'=>?_
  ·rwa [show(N.cons h t).ZS=h.ZS++t.ZS from rfl,Zt6,bw,<-cz]at R
  ·have lh:=Xn h
   have e2:=ZG h'
   have e3:=e1.2
   refine h2 (ds:=ds++h'.ZS) (ws:=ws) (by rw[cS];exact Z7 sz (Z7 (cV e2) (Z7 (cV e3) (Z7 lh)))) R' hs' hr' λs'' t' BA TJ p e w c oX oW=>q s'' (.cons h' t') BA TJ p ⟨(Zv ·),show t'.len+h'.len=t.len+h.len by rw[e1.2,e.2]⟩ ⟨w1,w⟩ ⟨c1,c⟩ oX ?_
   rwa [cz]at oW
 |.node h ts,hw,hc=>by
  obtain⟨st,hd⟩:=Gk G ts hw.2 hc.2
  have lt:=Xn ts
  have e:=ZG ts
  by_cases hp:ts.ZS=[]
  ·refine⟨1,λ{k L U ds ws s P} sz R hs hr q=>?_⟩
   have sz:ds.length+ws.length+2*(ts.sz+h.sz+1)<LN:=sz
   have z:ts.len=0:=by rw[<-e,hp];rfl
   exact Kf (U0:=U0) (ws:=ws) (ds:=ds) (ys:=ts) (fl:=false) G hw.1 hc.1 hc.2 rfl hw.2 hc.2 (by rw[hp];rfl) (Z7 sz (Z7 (cV z))) (by rw[show ds++ts.ZS=ds by rw[hp,cB]];exact R) hs (SM ts z hr) λs' t' L' U' p a b c d R'=>q s' t' L' U' p ⟨λY=>a,(ZP a).2⟩ b c d (by rw[(ZP a).1];exact R')
  ·refine⟨1+st+1,λ{k L U ds ws s P} sz R hs hr q=>?_⟩
   have sz:ds.length+ws.length+2*(ts.sz+h.sz+1)<LN:=sz
   rw[<-aZ,<-aZ]
   refine Gm hp (by rw[e];exact hw.1) (Z7 sz (Z7 (cV e) (Z7 lt))) R λL' U' R' hD=>?_
   refine hd (ds:=ds) (ws:=ws++[.tup [h.av ts.ZS,.bool true]]) (by rw[cS,aO];exact Z7 sz) R' (G.hold hs hD) hr λs' ys BA TJ p e1 w c hs' oW=>?_
   exact Kf (ds:=ds) (fl:=true) G hw.1 hc.1 hc.2 e1.2 w c rfl (Z7 sz (Z7 lt)) oW hs' p λs' t' L' U' p a b c d R'=>q s' t' L' U' p ⟨λY=>a,(ZP a).2⟩ b c d (by rw[(ZP a).1];exact R')
theorem XV{t:N}{s:σ}{P:σ->N->Prop}{U:US}{Q:fP}{E:US->Prop}(G:V8 (m+2) cv tx D XC RD)(he:t.Zw=true)(hw:t.wf)(hc:t.cs tx)(hz:2*t.sz+1<LN)(hs:XC s U)(hr:QC RD t s P)
 (q:∀s' t' U',P s' t'->t'.Zw=true->t'.wf->t'.cs tx->XC s' U'->Zf D U U'->Q t'.av U'):Z8 (m+3) 16 [t.av,cv] Q E U:=by
 refine go λd hd w Oa=>?_
 have hs1:XC s (upd U d (some (.list []))):=G.hold hs (.upd λz=>G.foot hs z hd)
 have ne:w≠d:=λe=>by rw[e,Z_]at Oa;exact XD Oa
 have w0:U w=none:=by rwa [Z9 ne]at Oa
 obtain⟨st,h⟩:=Gk (E:=λY=>E) (Q:=Y4 (λo Y U'=>Q (o.getD .none) U') λL2 U2=>Bx (wpS (Z8 (m+2)) rQ.Z5.Z5.Z5 (λo Y U'=>Q (o.getD .none) U') (λY U'=>E U') L2 U2)) (U0:=U) G t hw hc
 refine⟨1+st,h (k:=1) (ds:=[]) (ws:=[]) (P:=P) (by show 0+0+2*t.sz<LN;exact Z7 hz) ?_ (G.hold hs1 (.upd λz=>G.foot hs1 z Oa)) hr λs' t' L' U' p e w' c hH R=>?_⟩
 ·rw[(ZP he).1]
  exact .mk ((Z9 ne.symm).trans Z_) Z_ ne.symm (λz=>G.foot hs z hd) (λz=>G.foot hs1 z Oa) hd w0 ((Zf.refl.new hd).new w0)
 ·cases R with|mk hd hW _ _ _ _ _ fr=>
  refine V9 hW ⟨V9 hd ?_⟩
  have e:=e.1 he
  rw[show[]++t'.ZS=[t'.av]from(ZP e).1]
  exact q s' t' U' p e w' c hH fr
end
section
variable{n:Nat}{Q:fP}{E:US->Prop}{U:US}
theorem WT{h:H}(n:h≠.call):cZ h.kind 8=false:=by induction h using jH<;>first|rfl|exact absurd rfl n
theorem UK{h:H}(n:∀l ps r,h≠.lam l ps r):cZ h.kind 7=false:=by induction h using jH<;>first|rfl|exact absurd rfl (n _ _ _)
theorem UJ{h:H}(n:∀x,h≠.loc x):cZ h.kind 1=false:=by induction h using jH<;>first|rfl|exact absurd rfl (n _)
noncomputable abbrev UI(f:AV)(as:List AV):AV:=.inst 10 [f,.lst as]
noncomputable abbrev Vk(l:Nat)(ps:List Nat)(r:Option Nat)(b:AV):AV:=.inst 9 [fO l,.lst (fN ps),.int (TL r),b]
theorem Ke{h:H}{xs:List AV}(hn:h≠.call)(q:Q (.bool false) U):Z8 (n+1) 19 [h.av xs] Q E U:=go (XW h xs (Zu (b:=!cZ h.kind 8) (by rw[WT hn];rfl) q))
theorem NY{h:H}{xs as:List AV}(hn:∀l ps r,h≠.lam l ps r)(q:Q (.bool false) U):Z8 (n+1) 19 [UI (h.av xs) as] Q E U:=
 go (XW h xs (Zu (b:=!cZ h.kind 7) (by rw[UK hn];rfl) q))
noncomputable def eK(ps:List Nat)(r:Option Nat)(n:Nat):Bool:=r.isNone&&cZ (fN ps).length n
theorem XQ(q:Q (.bool (eK ps r as.length)) U):Z8 (n+1) 19 [UI ((H.lam l ps r).av ys) as] Q E U:=by
 induction r using jO with
 |none=>exact go q
 |some x=>exact go q
theorem NX(q:Q (UI (.inst 9 [fO l,.lst ps,.int (.negSucc 0),b]) as) U):Z8 (n+2) 18 [fO l,.lst ps,.lst as,b] Q E U:=go (NZ (UN q))
theorem QB(q:Q (.bool (cZ k (fN ps).length||(bk (fN ps).length k&&r.isSome))) U):Z8 (n+1) 318 [Vk l ps r b,fO k] Q E U:=by
 refine go ?_
 induction h:cZ k (fN ps).length using jB with
 |true=>rw[h]at q;exact Zu (b:=cZ k (fN ps).length) h q
 |false=>
  rw[h]at q
  refine Z2 (b:=cZ k (fN ps).length) h ?_
  induction h':bk (fN ps).length k using jB with
  |false=>rw[h']at q;exact Z2 (b:=bk (fN ps).length k) h' q
  |true=>
   rw[h']at q
   refine Zu (b:=bk (fN ps).length k) h' ?_
   induction r using jO<;>exact q
end
noncomputable abbrev ZA(f as:N):N:=.node .call (.cons f as)
noncomputable abbrev Zn(l:Nat)(ps:List Nat)(r:Option Nat)(b:N):N:=.node (.lam l ps r) (.cons b .nil)
inductive Vt(tx:Ad->Prop)(P:Unit->N->Prop):N->Prop
 |other {h ts}:h≠.call->P () (.node h ts)->Vt tx P (.node h ts)
 |V7 {h ts as}:(∀l ps r,h≠.lam l ps r)->P () (ZA (.node h ts) as)->Vt tx P (ZA (.node h ts) as)
 |full {l ps b as}:b.Zw=true->cZ ps.length as.len=true->as.len≠0->P () (ZA (Zn l ps none b) as)->Vt tx P (ZA (Zn l ps none b) as)
 |none {l b as}:b.Zw=true->as.len=0->P () b->Vt tx P (ZA (Zn l [] none b) as)
 |C5 {l ps b as}:b.Zw=true->cZ ps.length as.len=false->P () (ZA (Zn l ps none b) as)->Vt tx P (ZA (Zn l ps none b) as)
 |few {l ps x b as}:b.Zw=true->Zw0 ps.length as.len=false->P () (ZA (Zn l ps (some x) b) as)->Vt tx P (ZA (Zn l ps (some x) b) as)
 |rest {l ps x b as as'}:b.Zw=true->Zw0 ps.length as.len=true->ps.length+as.len+2<=LN->as'.ZS=as.ZS.take ps.length++[(H.prim 46).av (as.ZS.drop ps.length)]->as'.wf->(as.cs tx->as'.cs tx)->P () (ZA (Zn l (ps++[x]) none b) as')->Vt tx P (ZA (Zn l ps (some x) b) as)
abbrev WI:Ad->Prop:=λY=>False
theorem Vj(h:b.Zw=true):(N.cons b .nil).ZS=[b.av]:=by induction b using jM<;>first|rfl|exact Zv h
theorem WH(h:b.Zw=true):(ZA (Zn l ps r b) as).av=UI (Vk l ps r b.av) as.ZS:=by
 show(H.call.av ((H.lam l ps r).av (N.cons b .nil).ZS::as.ZS))=_
 rw[Vj h];rfl
theorem vN(q:Q (.inst 53 []) U):RA C 53 [] Q E U:=Xm λY Y hne ha hd=>⟨rfl,YT hne ha hd rfl q⟩
theorem YR(l:List Nat):(fN l).length=l.length:=cM ..
theorem Gj{m:Nat}{tx:Ad->Prop}:V8 (m+3) (.bm 371 (.inst 53 [])) tx WI (λ(_:Unit) U=>∀a,tx a->U a≠none) (λY t P=>Vt tx P t):=by
 refine⟨λ{s t P U Q E} he hw hc hr hs q=>?_,λh k a t=>k.2 a (h a t),λY d=>d.elim,λh t=>h _ t⟩
 have same:∀{t},P () t->t.Zw=true->t.wf->t.cs tx->Q t.av U:=λp a b c=>q () _ U p a b c hs .refl
 cases hr with
 |@other h ts hn p=>exact go (XW h ts.ZS (Zu (b:=!cZ h.kind 8) (by rw[WT hn];rfl) (same p rfl hw hc)))
 |@V7 h ts as hl p=>exact go (XW h ts.ZS (Zu (b:=!cZ h.kind 7) (by rw[UK hl];rfl) (same p rfl hw hc)))
 |@full l ps b as hb e n p=>
  have s:=same p rfl hw hc
  rw[WH hb]at s⊢
  refine go ⟨rfl,XQ (Zu (b:=eK ps none as.ZS.length) (by show cZ (fN ps).length as.ZS.length=true;rw[YR,ZG];exact e) (Zu (VS λz=>n ?_) s))⟩
  rw[<-ZG,z];rfl
 |@none l b as hb e p=>
  have s:=same p hb hw.2.1.2.1 hc.2.1.2.1
  have e':as.ZS=[]:=bQ.mp (by rw[ZG,e])
  rw[WH hb,e']
  exact go ⟨rfl,XQ s⟩
 |@C5 l ps b as hb e p=>
  have s:=same p rfl hw hc
  rw[WH hb]at s⊢
  exact go ⟨rfl,XQ (Z2 (b:=eK ps Zg2 as.ZS.length) (by show cZ (fN ps).length as.ZS.length=false;rw[YR,ZG];exact e) s)⟩
 |@few l ps x b as hb e p=>
  have s:=same p rfl hw hc
  rw[WH hb]at s⊢
  have lt:as.len<ps.length:=aF λk=>by rw[br k]at e;exact Wf e
  refine go ⟨rfl,XQ (QB (Zu (b:=!(cZ as.ZS.length (fN ps).length||(bk (fN ps).length as.ZS.length&&true))) ?_ s))⟩
  rw[YR,ZG,show cZ as.len ps.length=false from beq_false (aD lt),show bk ps.length as.len=false from WU (Zz7 lt)];rfl
 |@rest l ps x b as as' hb e ln iS hwf hcs p=>
  have s:=same p rfl ⟨rfl,⟨hw.2.1,hwf⟩⟩ ⟨trivial,hc.2.1,hcs hc.2.2⟩
  rw[WH hb]at s⊢
  rw[iS]at s
  have le:=cL e
  refine go ⟨rfl,XQ (QB (Z2 (b:=!(cZ as.ZS.length (fN ps).length||(bk (fN ps).length as.ZS.length&&true))) ?_ λzs hz zs' hz'=>Kg ⟨?_,?_,rfl,NX ?_⟩))⟩
  ·rw[YR,ZG]
   rcases Nat.lt_or_eq_of_le le with k|k
   ·rw[show bk ps.length as.len=true from br k];simp
   ·rw[<-k,bY];rfl
  ·show zs.length+1<=LN
   have:=Zh4 ps.length as.ZS
   rw[ZG]at this
   rw[hz];show(as.ZS.take (fN ps).length).length+1<=LN
   rw[YR];exact Z7 this (Z7 ln)
  ·show(fN ps).length+1<=LN
   rw[YR];exact Z7 ln
  ·have e1:zs=as.ZS.take ps.length:=by rw[hz];show as.ZS.take (fN ps).length=_;rw[YR]
   have e2:zs'=as.ZS.drop ps.length:=by rw[hz'];show as.ZS.drop (fN ps).length=_;rw[YR]
   rw[e1,e2]
   have s:Q (UI (.inst 9 [fO l,.lst (fN (ps++[x])),.int (TL none),b.av]) _) U:=s
   rw[show fN (ps++[x])=fN ps++[fO x]from bw]at s
   exact s
theorem Kd(he:t.Zw=true)(hw:t.wf)(hc:t.cs tx)(hz:2*t.sz+1<LN)(hs:∀a,tx a->U a≠none)(hr:QC (λY t P=>Vt tx P t) t () P)
 (q:∀t' U',P () t'->t'.Zw=true->t'.wf->t'.cs tx->Zf WI U U'->Q t'.av U'):Z8 (m+5) 54 [t.av] Q E U:=
  go (vN ⟨rfl,XV Gj he hw hc hz hs hr λY t' U' p a b c Y f=>q t' U' p a b c f⟩)
abbrev jW:=@Pl.fL.casesOn.{0}
abbrev jD:=@Pl.Hd.casesOn.{0}
abbrev jT:=@Pl.T.casesOn.{0}
abbrev jK:=@Pl.e_.casesOn.{0}
abbrev jJ:=@Pl.Op.casesOn.{0}
noncomputable def vc:fL->AV
 |.int i=>.int i
 |.bool b=>.bool b
 |.empty=>.g 24
 |.text a=>.ref a
 |_=>.none
noncomputable def C4:Op->Nat
 |.cons=>9|.GF=>11|.Dc=>12|.not=>8|.Rm=>15|.BU=>4|.list=>46
noncomputable def hN:Hd->H
 |.const v=>.const (vc v)
 |.loc x=>.loc x
 |.glob s=>.glob s
 |.YG x=>.YG x
 |.setG s=>.setG s
 |.ite=>.ite
 |.seq=>.seq
 |.prim op=>.prim (C4 op)
 |.X3=>.call
noncomputable def UH:Hd->N->N
 |.X3,ts=>.cons (.node (.glob 4) .nil) ts
 |_,ts=>ts
noncomputable def toN:T->N
 |.node h ts=>.node (hN h) (UH h (toN ts))
 |.app l ps r b as=>ZA (Zn l ps r (toN b)) (toN as)
 |.ZT l f l' ps r b t=>ZA (Zn l [f] none (toN t)) (.cons (Zn l' ps r (toN b)) .nil)
 |.ZZ f as=>ZA (.node (.loc f) .nil) (toN as)
 |.nil=>.nil
 |.cons h t=>.cons (toN h) (toN t)
theorem toN_node:toN (.node h ts)=.node (hN h) (UH h (toN ts)):=rfl
theorem toN_calln:toN (.node .X3 ts)=.node .call (.cons (.node (.glob 4) .nil) (toN ts)):=rfl
theorem toN_callv:toN (.ZZ f a)=ZA (.node (.loc f) .nil) (toN a):=rfl
theorem toN_cons:toN (.cons h t)=.cons (toN h) (toN t):=rfl
theorem toN_E(h:t.Zw=true):(toN t).Zw=true:=by induction t using jT<;>first|rfl|exact Zv h
theorem toN_len(e:t.Zw=false)(w:t.wf):(toN t).len=t.len:=by
 induction t with
 |nil=>rfl
 |cons h t ih it=>show(toN _).len+(toN _).len=_;rw[it w.2.1 w.2.2,(ZP (toN_E w.1.1)).2];rfl
 |_=>exact Wf e
theorem W3:1<=Pl.rr r:=by
 induction r using jO
 ·exact cO 1
 ·exact bH 1
theorem toN_wf(w:t.wf):(toN t).wf:=by
 induction t with
 |node h ts ih=>
  have l:=toN_len w.2.1 w.2.2
  have k:=ih w.2.2
  induction h using jD with
  |X3=>exact⟨rfl,⟨rfl,trivial⟩,k⟩
  |prim=>exact⟨rfl,k⟩
  |glob|setG=>exact⟨by show H.ar (toN ts).len _=true;rw[l];exact(cN.mp w.1).2,k⟩
  |_=>exact⟨by show H.ar (toN ts).len _=true;rw[l];exact w.1,k⟩
 |app l ps r b as ib ia=>exact⟨rfl,⟨by show H.ar (0+(toN _).len) _=true;rw[(ZP (toN_E w.1.1)).2];rfl,ib w.1.2.1,trivial⟩,ia w.2.2⟩
 |ZT l f l' ps r b t ib it=>exact⟨rfl,⟨by show H.ar (0+(toN _).len) _=true;rw[(ZP (toN_E w.2.1)).2];rfl,it w.2.2,trivial⟩,⟨by show H.ar (0+(toN _).len) _=true;rw[(ZP (toN_E w.1.1)).2];rfl,ib w.1.2.1,trivial⟩,trivial⟩
 |ZZ f as ih=>exact⟨rfl,⟨rfl,trivial⟩,ih w.2⟩
 |nil=>trivial
 |cons h t ih it=>exact⟨ih w.1.2,it w.2.2⟩
theorem QA(ps:List Nat)(r:Option Nat):(Pl.bs ps r).length<=ps.length+1:=by
 rw[cS]
 induction r using jO with
 |none=>exact bH _
 |some _=>exact cO _
theorem C3:∀(t:T),t.wf->∀B,(toN t).sz<=8*(Pl.fQ t B).n+(match t.Zw with|true=>5|false=>0):=by
 refine hM ?_;intro MM t;induction t with
 |node h ts ih=>
  intro w B
  have:=ih w.2.2 B
  rw[w.2.1]at this
  have e:(UH h (toN ts)).sz<=(toN ts).sz+1:=by induction h using jD<;>first|exact bH _|(show 0+0+1+(toN ts).sz<=_;simp+arith only)
  have e0:(hN h).sz=0:=by induction h using jD<;>rfl
  show(UH h (toN ts)).sz+(hN h).sz+1<=8*((Pl.fQ ts B).n+h.w)+5
  dsimp only at this;exact Z7 e (Z7 (cV e0) (Z7 this))
 |app l ps r b as ib N2=>
  intro w B
  have k1:=ib w.1.2.1 (Pl.envOf B ps r 0)
  have k2:=N2 w.2.2 B
  rw[w.1.1]at k1;rw[w.2.1]at k2
  have k3:=w.1.2.2
  rw[cS]at k3
  have k4:=aX 8 (W3 (r:=r))
  show((toN b).sz+0)+ps.length+1+(toN as).sz+0+1<=8*((Pl.fQ as B).n+((Pl.fQ b (Pl.envOf B ps r 0)).n+Pl.rr r))+5
  dsimp only at k1 k2;exact Z7 k1 (Z7 k2 (Z7 k3 (Z7 k4)))
 |ZT l f l' ps r b t ib it=>
  intro w B
  have k1:=ib w.1.2.1 (Pl.envOf B ps r 0)
  have k2:=it w.2.2 (B.put f (Pl.Lm.Yd ⟨l',ps,r,b⟩ B))
  rw[w.1.1]at k1;rw[w.2.1]at k2
  have k3:=w.1.2.2
  rw[cS]at k3
  have k4:=aX 8 (W3 (r:=r))
  show((toN t).sz+0)+[f].length+1+(((toN b).sz+0)+ps.length+1+0)+0+1<=8*((Pl.fQ t (B.put f (Pl.Lm.Yd ⟨l',ps,r,b⟩ B))).n+((Pl.fQ b (Pl.envOf B ps r 0)).n+Pl.rr r)+1)+5
  rw[aO]
  dsimp only at k1 k2;exact Z7 k1 (Z7 k2 (Z7 k3 (Z7 k4)))
 |ZZ f as ih=>
  intro w B
  have:=ih w.2 B
  rw[w.1]at this
  show(0+0+1+(toN as).sz)+0+1<=8*((Pl.fQ as B).n+Pl.YD (B f))+5
  dsimp only at this;exact Z7 this
 |nil=>
  intro _ _
  exact bV _
 |cons h t ih it=>
  intro w B
  have k1:=ih w.1.2 B
  have k2:=it w.2.2 B
  rw[w.1.1]at k1;rw[w.2.1]at k2
  show(toN h).sz+(toN t).sz<=8*((Pl.fQ h B).n+(Pl.fQ t B).n+1)+0
  dsimp only at k1 k2;exact Z7 k1 (Z7 k2)
theorem Kc(e:t.Zw=false)(w:t.wf):(toN (t.wrap n)).ZS=(toN t).ZS.take n++[(H.prim 46).av ((toN t).ZS.drop n)]:=by
 induction n generalizing t with
 |zero=>
  rw[Pl.Ud];rfl
 |succ n ih=>
  induction t using jT with
  |nil=>rfl
  |cons h t=>
   show(toN h).ZS++(toN (t.wrap n)).ZS=((toN h).ZS++(toN t).ZS).take (n+1)++[(H.prim 46).av (((toN h).ZS++(toN t).ZS).drop (n+1))]
   rw[(ZP (toN_E w.1.1)).1,ih w.2.1 w.2.2];rfl
  |_=>exact Wf e
theorem MT:∀{n:Nat} {t:T},(toN t).cs tx->(toN (t.wrap n)).cs tx
 |0,t,c=>by rw[Pl.Ud];exact⟨⟨trivial,c⟩,trivial⟩
 |n+1,.cons h t,c=>⟨c.1,MT c.2⟩
 |_+1,.node ..,c|_+1,.app ..,c|_+1,.ZT ..,c|_+1,.ZZ ..,c|_+1,.nil,c=>⟨⟨trivial,c⟩,trivial⟩
theorem Gi(n:h≠.X3):hN h≠.call/\∀ts,UH h ts=ts:=by induction h using jD<;>first|exact⟨(xH · rfl),λY=>rfl⟩|exact absurd rfl n
theorem Ka:∀(t:T) {P:Unit->N->Prop},t.wf->2*(toN t).sz+5<=LN->P () (toN t.beta)->QC (λY t P=>Vt tx P t) (toN t) () P:=by
 refine hM ?_;intro MM t;induction t with
 |node h ts ih=>
  intro P w z p
  by_cases n:h=.X3
  ·subst n
   exact .other (xH · rfl) (ih w.2.2 (by simp only[toN_calln,UR,Tc]at z;exact Z7 z) (.V7 (λY Y Y h=>xH h rfl) p))
  ·obtain⟨a,b⟩:=Gi n
   simp only[toN_node,b,UR]at z⊢
   refine ih w.2.2 (Z7 z) (.other a ?_)
   have p:P () (.node (hN h) (UH h (toN ts.beta))):=p
   rwa [b]at p
 |app l ps r b as ib N2=>
  intro P w z p
  have z:2*((toN b).sz+0+(H.lam l ps r).sz+1+(toN as).sz+0+1)+5<=LN:=z
  refine ib w.1.2.1 (Z7 z) (.other (xH · rfl) (N2 w.2.2 (Z7 z) ?_))
  have sb:=Pl.Yz b w.1.2.1
  have sa:=Pl.Yz as w.2.2
  have eb:=toN_E (sb.e.trans w.1.1)
  have ea:=sa.e.trans w.2.1
  have wa:=sa.w w.2.2
  have la:=toN_len ea wa
  have lz:=Xn (toN as)
  rw[toN_len w.2.1 w.2.2,<-sa.l]at lz
  have p:P () (toN (Pl.ZH l ps r b.beta as.beta)):=p
  induction r using jO with
  |none=>
   induction h:cZ ps.length (toN as.beta).len using jB with
   |false=>
    have e:Pl.ZH l ps none b.beta as.beta=.app l ps none b.beta as.beta:=by
     unfold Pl.ZH
     induction q:cZ ps.length 0&&cZ as.beta.len 0 using jB with
     |false=>rfl
     |true=>obtain⟨q1,q2⟩:=cN.mp q;rw[la,cW q1,cW q2]at h;exact Wf h
    exact .C5 eb h (by rw[e]at p;exact p)
   |true=>
    have h':=cW h
    induction q:cZ as.beta.len 0 using jB with
    |true=>
     have q:=cW q
     obtain rfl:ps=[]:=bQ.mp (by rw[h',la,q])
     have e:Pl.ZH l [] none b.beta as.beta=b.beta:=by unfold Pl.ZH;dsimp only;rw[q];rfl
     exact .none eb (la.trans q) (by rw[e]at p;exact p)
    |false=>
     have e:Pl.ZH l ps none b.beta as.beta=.app l ps none b.beta as.beta:=by unfold Pl.ZH;dsimp only;rw[q,Bool.and_false];rfl
     exact .full eb h (λz=>by rw[la]at z;rw[z]at q;exact Wf q) (by rw[e]at p;exact p)
  |some x=>
   induction h:Zw0 ps.length (toN as.beta).len using jB with
   |false=>
    have e:Pl.ZH l ps (some x) b.beta as.beta=.app l ps (some x) b.beta as.beta:=by unfold Pl.ZH;dsimp only;rw[<-la,h];rfl
    exact .few eb h (by rw[e]at p;exact p)
   |true=>
    have e:Pl.ZH l ps (some x) b.beta as.beta=.app l (ps++[x]) none b.beta (as.beta.wrap ps.length):=by unfold Pl.ZH;dsimp only;rw[<-la,h];rfl
    have hl:=cL h
    exact .rest eb h (Z7 hl (Z7 (cV la) (Z7 (cV la) (Z7 lz (Z7 lz (Z7 z)))))) (Kc ea wa) (toN_wf (Pl.QK ea wa).2) MT (by rw[e]at p;exact p)
 |ZT l f l' ps r b t ib it=>
  intro P w z p
  have z:2*((toN t).sz+0+[f].length+1+((toN b).sz+0+(H.lam l' ps r).sz+1+0)+0+1)+5<=LN:=z
  exact it w.2.2 (Z7 z) (.other (xH · rfl) (ib w.1.2.1 (Z7 z) (.other (xH · rfl) (.full (toN_E ((Pl.Yz t w.2.2).e.trans w.2.1)) rfl nofun p))))
 |ZZ f as ih=>
  intro P w z p
  exact .other (xH · rfl) (ih w.2 (by simp only[toN_callv,toN_cons,UR,Tc]at z;exact Z7 z) (.V7 (λY Y Y h=>xH h rfl) p))
 |nil=>
  intro P w z p
  exact p
 |cons h t ih it=>
  intro P w z p
  exact ih w.1.2 (by simp only[toN_callv,toN_cons,UR,Tc]at z;exact Z7 z) (it w.2.2 (by simp only[toN_callv,toN_cons,UR,Tc]at z;exact Z7 z) p)
theorem Yy:XI a b=true↔a=b:=by
 induction a using jI with
 |ofNat a=>induction b using jI with
  |ofNat b=>exact⟨λh=>congrArg Zt0 (cW h),λh=>by injection h with h;subst h;exact bY a⟩
  |negSucc b=>exact⟨(Zv ·),(nomatch·)⟩
 |negSucc a=>induction b using jI with
  |ofNat b=>exact⟨(Zv ·),(nomatch·)⟩
  |negSucc b=>exact⟨λh=>congrArg Zs1 (cW h),λh=>by injection h with h;subst h;exact bY a⟩
theorem Pg:∀(js:List Int),XG U (.int i) (js.map .int)=some (js.any (XI · i))
 |[]=>rfl
 |j::js=>by
  show(some (XI j i)).bind (λr=>(XG U (.int i) (js.map .int)).map (r||·))=_
  rw[Pg js];rfl
theorem Pf:∀js:List Int,VT U (js.map .int)=true
 |[]=>rfl
 |_::js=>Pf js
theorem UG(js:List Int)(q:K (js.any (XI · i))):UW (.int i) (.tup (js.map .int)) K U:=by
 unfold UW;exact⟨rfl,Pf js,XZ (Pg js) q⟩
theorem Ym{α:Type}{v:α}{k j:Int}:∀{es:List (Int×α)},Zr (fJ es k v) j=if j=k then some v else Zr es j
 |[]=>by
  show(bif XI k j then some v else none)=_
  by_cases h:j=k
  ·rw[if_pos h,Yy.mpr h.symm];rfl
  ·rw[if_neg h];induction q:XI k j using jB with|true=>exact absurd (Yy.mp q).symm h|false=>rfl
 |(a,x)::r=>by
  show Zr (bif XI a k then(a,v)::r else(a,x)::fJ r k v) j=if j=k then some v else bif XI a j then some x else Zr r j
  induction q:XI a k using jB with
  |true=>
   obtain rfl:=Yy.mp q
   show(bif XI a j then some v else Zr r j)=_
   by_cases h:j=a
   ·rw[if_pos h,Yy.mpr h.symm];rfl
   ·rw[if_neg h];induction q':XI a j using jB with|true=>exact absurd (Yy.mp q').symm h|false=>rfl
  |false=>
   show(bif XI a j then some x else Zr (fJ r k v) j)=_
   rw[Ym (es:=r)]
   induction q':XI a j using jB with
   |true=>
    obtain rfl:=Yy.mp q'
    exact(show some x=if a=k then some v else some x from(if_neg λe=>by rw[Yy.mpr e]at q;exact Wf q).symm)
   |false=>rfl
theorem YQ{α:Type}{v:α}{k:Int}:∀{es:List (Int×α)},(fJ es k v).length<=es.length+1
 |[]=>cO _
 |(a,x)::r=>by
  show(bif XI a k then(a,v)::r else(a,x)::fJ r k v).length<=_
  induction XI a k using jB with
  |true=>exact bH _
  |false=>exact cu (YQ (es:=r))
theorem Pe{α:Type}{v:α}{k:Nat}:∀{es:List (Nat×α)},k∉es.map (·.1)->Xc es k v=es++[(k,v)]
 |[],_=>rfl
 |(a,x)::r,h=>by
  show(bif cZ a k then(a,v)::r else(a,x)::Xc r k v)=_
  rw[beq_false λ(e:a=k)=>h (e▸.head _),Pe λm=>h (.tail _ m)];rfl
theorem Gg(h:∀r,U r=none->Q (.ref r) (upd U r (some (.di [])))):ZK C E (.dict true .nil .nil) L Q U:=⟨rfl,[],rfl,rfl,.nil,h⟩
noncomputable def C0:List Nat->S
 |[]=>.nil
 |f::r=>.N8 (.loc 0) f (.dict true .nil .nil) (C0 r)
structure Laid(U0:US)(c:Nat)(a d:Ad)(fs:List (Nat×AV))(rs:List Ad)(U:US):Prop where
 ha:U a=some (.inst c d)
 hd:U d=some (.fields fs)
 hr:∀r∈rs,U r=some (.di [])
 nd:(a::d::rs).Nodup
 z:∀x∈a::d::rs,U0 x=none
 fr:Zf WI U0 U
theorem CZ{C:ZV}{c:Nat}{a d:Ad}{U0:US}{Q:ZD}{E:Loc->US->Prop}{L:Loc}(h0:(L:List (Option AV))[0]?=some (some (.ref a))):∀(ns:List Nat) {fs:List (Nat×AV)} {rs:List Ad} {U:US},
 (∀f∈ns,(fH f (fieldsOf c)).isSome=true)->(fs.map (·.1)++ns).Nodup->(fs.map (·.1)++ns).length<64->Laid U0 c a d fs rs U->(∀rs' U',rs'.length=ns.length->Laid U0 c a d (fs++ns.zip (rs'.map .ref)) (rs++rs') U'->Q none L U')->wpS C (C0 ns) Q E L U:=by
 refine hM ?_;intro MM ns;induction ns with
 |nil=>
  intro fs rs U _ _ _ l q
  exact q [] U rfl (by rw[List.zip_nil_left,cB,cB];exact l)
 |cons f ns ih=>
  intro fs rs U hp hn hl l q
  refine Gg λr hr=>XR h0 ?_
  have ra:a≠r:=λe=>by rw[<-e,l.ha]at hr;exact XD hr
  have rd:d≠r:=λe=>by rw[<-e,l.hd]at hr;exact XD hr
  have rn:r∉rs:=λe=>by rw[l.hr r e]at hr;exact XD hr
  have nd:=bU.mp l.nd
  have vM:=bU.mp nd.2
  have ad:a≠d:=λe=>nd.1 (e▸.head _)
  have nf:f∉fs.map (·.1):=λm=>(Zy4.mp hn).2.2 f m f (.head _) rfl
  refine ZX ((Z9 ra).trans l.ha) (ZY ((Z9 rd).trans l.hd) ⟨hp f (.head _),by rw[cS,cM]at hl;exact Z7 hl,?_⟩)
  rw[Pe nf]
  refine ih (fs:=fs++[(f,.ref r)]) (rs:=rs++[r]) (λg m=>hp g (.tail _ m)) (by rw[bw,cz];exact hn) (by rw[bw,cz];exact hl) ⟨?_,Z_,λx m=>?_,?_,λx m=>?_,?_⟩ λrs' U' e l'=>q (r::rs') U' (congrArg (·+1) e) ?_
  ·rw[Z9 ad,Z9 ra];exact l.ha
  ·rewrite[Z9 λe=>?_]at⊢
   ·rcases bX.mp m with m|m
    ·rw[Z9 (b:=x) (a:=r) λe=>rn (e▸m)];exact l.hr x m
    ·rw[cP.mp m];exact Z_
   ·subst e
    rcases bX.mp m with m|m
    ·exact vM.1 m
    ·exact rd (cP.mp m)
  ·rw[<-Zq5,<-Zq5,Zy4]
   refine⟨l.nd,bU.mpr ⟨(xm ·),.nil⟩,λx hx y hy=>?_⟩
   rw[cP.mp hy]
   rcases cJ.mp hx with rfl|hx
   ·exact ra
   ·rcases cJ.mp hx with rfl|hx
    ·exact rd
    ·exactλe=>rn (e▸hx)
  ·rw[<-Zq5,<-Zq5]at m
   rcases bX.mp m with m|m
   ·exact l.z x m
   ·rw[cP.mp m];exact l.fr.free hr
  ·exact(l.fr.new (l.fr.free hr)).new (l.z d (.tail _ (.head _)))
  ·rw[cz,cz]at l';exact l'
theorem By{L:List Ad}(h:L.Nodup){i j:Nat}(hi:i<L.length)(hj:j<L.length)(e:L.getD i 0=L.getD j 0):i=j:=by
 rw[aj,aj,cy hi,cy hj]at e
 exact(Zk5 h).mp e
theorem Bw(h:v=.int i)(q:K i):Vz v K:=by rw[h];exact q
structure Gh where
 cl:Nat->Nat
 bd:Nat->Option Int
 pa:Int->Option Int
noncomputable def X6{α β:Type}[DecidableEq α](f:α->β)(k:α)(v:β):α->β:=λx=>if x=k then v else f x
def Dk(F:Gh)(YB:Int->Option Ad)(i:Nat)(es:List (Int×AV)):Prop:=
 if i=4 then∀x,(Zr es (.ofNat x)).getD (fO 0)=fO (F.cl x)else
 if i=5 then∀x l,F.bd x=some l->Zr es (.ofNat x)=some (.int l)else
 if i=7 then∀l l',F.pa l=some l'->Zr es l=some (.int l')else
 if i=9 then∀l a,YB l=some a->Zr es l=some (.ref a)else
 i≠6->i≠8->∀k,∃n,(Zr es k).getD (fO 0)=fO n
theorem NW{c:Prop}[Decidable c]{A c8 A' B':Prop}(h:c->A->A')(h':¬c->c8->B')(k:if c then A else c8):if c then A' else B':=by
 by_cases e:c
 ·rw[if_pos e]at k⊢;exact h e k
 ·rw[if_neg e]at k⊢;exact h' e k
theorem Gf{c:Prop}[Decidable c]{A c8:Prop}(h:c->A)(h':¬c->c8):if c then A else c8:=by
 by_cases e:c
 ·rw[if_pos e];exact h e
 ·rw[if_neg e];exact h' e
structure FI(p:Nat->Ad)(YB:Int->Option Ad)(U0:US)(F:Gh)(c:Nat)(U:US):Prop where
 o:U (p 0)=some (.inst 40 (p 1))
 f:U (p 1)=some (.fields [(29,.ref (p 2)),(31,.ref (p 3)),(37,.ref (p 4)),(36,.ref (p 5)),(79,.ref (p 6)),(34,.ref (p 7)),(38,.ref (p 8)),(35,.ref (p 9)),(32,.ref (p 10)),(33,.ref (p 11))])
 d:∀i,2<=i->i<12->∃es,U (p i)=some (.di es)/\es.length<=c/\Dk F YB i es
 j:∀i j,i<12->j<12->p i=p j->i=j
 z:∀i,i<12->U0 (p i)=none
 ia:∀l a,YB l=some a->∃es,U a=some (.di es)/\es.length<=c/\(∀i,i<12->a≠p i)/\U0 a=none
 ip:∀l l',F.pa l=some l'->∃a,YB l=some a
 fr:Zf WI U0 U
section
variable{p:Nat->Ad}{YB:Int->Option Ad}{U0 U:US}{F F':Gh}{c c':Nat}{n:Nat}{Q:fP}{E:US->Prop}
theorem FI.set(h:FI p YB U0 F c U)(i:Nat)(h2:2<=i)(hi:i<12)(hl:es'.length<=c')(hc:c<=c')(hd:Dk F' YB i es')(ho:∀j es,j≠i->Dk F YB j es->Dk F' YB j es)(hp:F'.pa=F.pa):
 FI p YB U0 F' c' (upd U (p i) (some (.di es'))):=by
  have ne:∀j,j<12->j≠i->p j≠p i:=λj hj n e=>n (h.j _ _ hj hi e)
  refine⟨(Z9 (ne 0 (by decide) (aD (Zx1 h2)))).trans h.o,(Z9 (ne 1 (by decide) (aD (h2)))).trans h.f,λj k1 k2=>?_,h.j,h.z,λl a e=>?_,λl l' e=>h.ip l l' (hp▸e),h.fr.new (h.z i hi)⟩
  ·by_cases q:j=i
   ·subst q;exact⟨es',Z_,hl,hd⟩
   ·obtain⟨es,a,b,k⟩:=h.d j k1 k2
    exact⟨es,(Z9 (ne j k2 q)).trans a,c7 b hc,ho j es q k⟩
  ·obtain⟨es,a1,b,k,z⟩:=h.ia l a e
   exact⟨es,(Z9 (k i hi)).trans a1,c7 b hc,k,z⟩
theorem FI.inner(h:FI p YB U0 F c U)(e:YB l=some a)(hl:es'.length<=c')(hc:c<=c'):FI p YB U0 F c' (upd U a (some (.di es'))):=by
 obtain⟨_,_,_,ne,az⟩:=h.ia l a e
 refine⟨(Z9 (ne 0 (by decide)).symm).trans h.o,(Z9 (ne 1 (by decide)).symm).trans h.f,λj k1 k2=>?_,h.j,h.z,λl b e=>?_,h.ip,h.fr.new az⟩
 ·obtain⟨es,a,b,k⟩:=h.d j k1 k2
  exact⟨es,(Z9 (ne j k2).symm).trans a,c7 b hc,k⟩
 ·obtain⟨es,a1,b1,k,z⟩:=h.ia l b e
  by_cases q:b=a
  ·subst q;exact⟨es',Z_,hl,k,z⟩
  ·exact⟨es,(Z9 q).trans a1,c7 b1 hc,k,z⟩
theorem FI.le(h:FI p YB U0 F c U)(hc:c<=c'):FI p YB U0 F c' U:=
 ⟨h.o,h.f,λj k1 k2=>eE (h.d j k1 k2) λes Z=>aE Z λa Z=>aE Z λb k=>⟨es,a,c7 b hc,k⟩,h.j,h.z,λl a e=>eE (h.ia l a e) λes Z=>aE Z λa1 Z=>aE Z λb k=>⟨es,a1,c7 b hc,k⟩,h.ip,h.fr⟩
theorem MS(h:U a=some (.di es))(hm:(Zr es (.ofNat k)).getD (fO 0)=fO m)(hl:es.length<LN)(q:Q .none (upd U a (some (.di (fJ es (.ofNat k) (fO (m+1))))))):Z8 (n+1) 41 [.ref a,fO k] Q E U:=
 go (Z3 h (Z3 h (Bw hm λz hz=>Z3 h ⟨hl,by subst hz;exact q⟩)))
theorem Ge(h:∀k,∃n,(Zr es k).getD (fO 0)=fO n):∀j,∃n,(Zr (fJ es k (fO m)) j).getD (fO 0)=fO n:=λj=>by
 rw[Ym]
 by_cases e:j=k
 ·rw[if_pos e];exact⟨m,rfl⟩
 ·rw[if_neg e];exact h j
theorem SK(h:F'.cl=F.cl\/i≠4)(h1:F'.bd=F.bd\/i≠5)(h2:F'.pa=F.pa\/i≠7)(k:Dk F YB i es):Dk F' YB i es:=by
 refine NW (λe=>?_) (λY=>NW (λe=>?_) λY=>NW (λe=>?_) λY=>id) k
 ·rw[h.resolve_right (absurd e)];exact id
 ·rw[h1.resolve_right (absurd e)];exact id
 ·rw[h2.resolve_right (absurd e)];exact id
inductive fu(F:Gh)(b:Int):Int->Nat->Prop
 |here:fu F b b 0
 |up {l l' k}:l≠b->F.pa l=some l'->fu F b l' k->fu F b l (k+1)
noncomputable def iR:X:=B3.Z5.test
noncomputable def k7:S:=B3.Z5.body
theorem LB(h:FI p YB U0 F c U)(hp:F.pa l=some l')(hc:c+1<LN)(q:∀U',FI p YB U0 F (c+1) U'->K [some (.ref (p 0)),some (fO x),x2,some (.int l')] U'):
 wpS (Z8 n) k7 (Y4 QQ K) E' [some (.ref (p 0)),some (fO x),x2,some (.int l)] U:=by
  refine hG ?_;intro PP
  obtain⟨xt,d1,d2,d3⟩:=h.d 9 (by decide) (by decide)
  obtain⟨a,ha⟩:=h.ip _ _ hp
  obtain⟨fs,a1,a2,a3,a4⟩:=h.ia _ _ ha
  refine ZX h.o (ZY h.f (Z3 d1 (XZ (d3 _ _ ha) (Z3 a1 ⟨Z7 a2 (Z7 hc),?_⟩))))
  have h1:=h.inner (c':=c+1) ha (c7 (YQ (k:=.ofNat x) (v:=.bool true)) (cu a2)) (bH c)
  have last:∀{U':US},FI p YB U0 F (c+1) U'->Bx (wpS (Z8 n) (.asg 3 (.b .xQ (.attr (.loc 0) 34) (.loc 3)) .nil) (Y4 QQ K) E' [some (.ref (p 0)),some (fO x),x2,some (.int l)] U'):=λ{U'} h'=>by
   refine hG ?_;intro PP
   obtain⟨k6,b1,_,b2⟩:=h'.d 7 (by decide) (by decide)
   exact⟨ZX h'.o (ZY h'.f (Z3 b1 (XZ (b2 _ _ hp) (q _ h'))))⟩
  refine hG ?_;intro PP
  obtain⟨iQ,f1,f2,_⟩:=h1.d 8 (by decide) (by decide)
  refine ZX h1.o (ZY h1.f (Z3 f1 ?_))
  induction z:(Zr iQ l).isSome using jB with
  |true=>exact last h1
  |false=>
   refine hG ?_;intro PP
   obtain⟨fT,g1,g2,_⟩:=h.d 6 (by decide) (by decide)
   have iP:=(Z9 (a:=a) (o:=some (.di (fJ fs (.ofNat x) (.bool true)))) (a3 6 (by decide)).symm).trans g1
   exact ZX h1.o (ZY h1.f (Z3 iP ⟨Z7 g2 (Z7 hc),last (h1.set 6 (by decide) (by decide) (c7 YQ (cu g2)) (cO _) (λh Y=>absurd rfl h) (λY Y Y k=>k) rfl)⟩))
theorem Gd(ch:fu F b l k):∀{c:Nat} {U:US},FI p YB U0 F c U->F.bd x=some b->c+k<LN->(∀L U',FI p YB U0 F (c+k) U'->QQ none L U')->
 wG (Z8 n) E' iR k7 QQ (k+1) [some (.ref (p 0)),some (fO x),x2,some (.int l)] U:=by
  induction ch with
  |here=>
   intro c U h hb Y q
   refine hG ?_;intro PP
   obtain⟨es,e1,_,e2⟩:=h.d 5 (by decide) (by decide)
   refine ZX h.o (ZY h.f (Z3 e1 (XZ (e2 x _ hb) (Z2 (b:=!XI b b) ?_ (q _ _ h)))))
   rw[Yy.mpr rfl];rfl
  |@up l l' k hn hp _ ih=>
   intro c U h hb hc q
   refine hG ?_;intro PP
   obtain⟨es,e1,_,e2⟩:=h.d 5 (by decide) (by decide)
   refine ZX h.o (ZY h.f (Z3 e1 (XZ (e2 x _ hb) (Zu (b:=!XI l b) ?_ ?_))))
   ·induction z:XI l b using jB with|false=>rfl|true=>exact absurd (Yy.mp z) hn
   exact LB h hp (Z7 hc) λU' h'=>ih h' hb (Z7 hc) λL U' h=>q L U' (by rwa [aZ,aH 1]at h)
theorem J_(h:FI p YB U0 F c U)(hb:F.bd x=some b)(ch:fu F b l k)(hc:c+k<LN)(q:∀U',FI p YB U0 F (c+k) U'->Q .none U'):Z8 (n+1) 358 [.ref (p 0),fO x,.int l] Q E U:=
 go ⟨k+1,Gd ch h hb hc λY U' h=>q U' h⟩
end
def FS(p:Nat->Ad)(U0:US)(F:Gh)(c:Nat)(U:US):Prop:=∃YB,FI p YB U0 F c U
noncomputable def H.Gb:H->Option Nat
 |.loc g=>some g
 |_=>none
noncomputable def nt(F:Gh)(l:Int)(h:H)(op:Option Nat):Gh:=match h with
 |.lam Yu ps r=>⟨F.cl,λx=>if x∈bs ps r then some (.ofNat Yu)else F.bd x,X6 F.pa (.ofNat Yu) (some l)⟩
 |.call=>match op with
  |some g=>⟨X6 F.cl g (F.cl g+1),F.bd,F.pa⟩
  |none=>F
 |_=>F
def J9(F:Gh)(c_:Nat)(l:Int)(h:H):Prop:=match h with
 |.loc x=>∃b k,F.bd x=some b/\fu F b l k/\k+1<=c_
 |.YG x=>∃b k,F.bd x=some b/\fu F b l k/\k+1<=c_
 |.lam l ps r=>F.pa (.ofNat l)=none/\(bs ps r).length+3<=c_
 |_=>2<=c_
section
variable{p:Nat->Ad}{YB:Int->Option Ad}{U0 U:US}{F F':Gh}{c c' c_:Nat}{n:Nat}{Q:fP}{E:US->Prop}
theorem Ri(hl:ps.length+1<=LN)(q:Q (.lst (fN (bs ps r))) U):Z8 (n+1) 317 [(H.lam l ps r).av ys] Q E U:=by
 induction r using jO with
 |none=>rw[show bs ps none=ps from cB _]at q;exact go q
 |some x=>rw[show fN (bs ps (some x))=fN ps++[fO x]from bw]at q;exact go ⟨by rw[YR];exact hl,q⟩
noncomputable def iO:S:=qT.LF.LF.LF.LF.LF.body.Z5.Z5.body
theorem Ga:∀(ns:List Nat) {F:Gh} {c:Nat} {U:US} {x3:Option AV},FI p YB U0 F c U->c+ns.length<LN->
 (∀L U',FI p YB U0 ⟨F.cl,λx=>if x∈ns then some (.ofNat Yu)else F.bd x,F.pa⟩ (c+ns.length) U'->QQ none L U')->Zc [3] (λQ' L U1=>wpS C iO Q' E' L U1) QQ (fN ns) [some (.ref (p 0)),some ((H.lam Yu ps r).av ys),x2,x3] U:=by
  refine hM ?_;intro MM ns;induction ns with
  |nil=>
   intro F c U x3 h _ q
   exact q _ _ h
  |cons m ns ih=>
   intro F c U x3 h hc q
   rw[bG]at hc
   obtain⟨es,e1,e2,e3⟩:=h.d 5 (by decide) (by decide)
   refine ZX h.o (ZY h.f (Z3 e1 ⟨Z7 e2 (Z7 hc),ih (F:=⟨F.cl,X6 F.bd m (some (.ofNat Yu)),F.pa⟩) (c:=c+1) (h.set 5 (by decide) (by decide) (c7 YQ (cu e2)) (bH c) (λx l e=>?_) (λj es n=>SK (.inl rfl) (.inr n) (.inl rfl)) rfl) (Z7 hc) λL U' h'=>q L U' ?_⟩))
   ·rw[Ym]
    by_cases q:x=m
    ·subst q
     have e:X6 F.bd x (some (.ofNat Yu)) x=some l:=e
     rw[show X6 F.bd x (some (Zt0 Yu)) x=some (.ofNat Yu)from if_pos rfl]at e
     rw[if_pos rfl];exact congrArg (some∘AV.int) (cU e)
    ·have e:X6 F.bd m (some (.ofNat Yu)) x=some l:=e
     rw[show X6 F.bd m (some (Zt0 Yu)) x=F.bd x from if_neg q]at e
     rw[if_neg λk=>q (by injection k)];exact e3 x l e
   ·rw[bG]
    have e:(λx=>if x∈m::ns then some (Zt0 Yu)else F.bd x)=λx=>if x∈ns then some (Zt0 Yu)else X6 F.bd m (some (.ofNat Yu)) x:=by
     funext x
     by_cases q:x∈ns
     ·rw[if_pos q,if_pos (aR _ q)]
     ·rw[if_neg q]
      by_cases k:x=m
      ·exact(if_pos (show x∈m::ns from k▸List.Mem.head _)).trans (if_pos k).symm
      ·rw[if_neg λz=>(cJ.mp z).elim k q];exact(if_neg k).symm
    rw[e,aH ns.length,<-aZ];exact h'
theorem FI.cnt(h:FI p YB U0 F c U)(i k:Nat)(hi:i=2\/i=3\/i=10\/i=11)(hc:c<LN)(q:∀U',FI p YB U0 F (c+1) U'->QQ .none U'):Z8 (n+1) 41 [.ref (p i),fO k] QQ E U:=by
 have h2:2<=i/\i<12:=by rcases hi with rfl|rfl|rfl|rfl<;>decide
 obtain⟨es,e1,e2,e3⟩:=h.d i h2.1 h2.2
 have e3:∀k,∃n,(Zr es k).getD (fO 0)=fO n:=by rcases hi with rfl|rfl|rfl|rfl<;>exact e3 (by decide) (by decide)
 obtain⟨m,hm⟩:=e3 (.ofNat k)
 refine MS e1 hm (cD e2 hc) (q _ (h.set i h2.1 h2.2 (c7 YQ (cu e2)) (bH c) ?_ (λY Y Y k=>k) rfl))
 have:=Ge (k:=.ofNat k) (m:=m+1) e3
 rcases hi with rfl|rfl|rfl|rfl<;>exactλY Y=>this
theorem Bv(h:i≠9)(k:Dk F YB i es):Dk F iN i es:=by
 exact NW (λY=>id) (λY=>NW (λY=>id) λY=>NW (λY=>id) λY=>NW (λe=>absurd e h) λY=>id) k
theorem FI.add(h:FI p YB U0 F c U)(_:F.pa (.ofNat Yu)=none)(e7:U (p 7)=some (.di k6))(iM:Zr k6 (.ofNat Yu)=some (.int l))(hr:U r0=none)(nr:∀i,i<12->p i≠r0)(d1:U (p 9)=some (.di xt))(d2:xt.length<=c)(d3:Dk F YB 9 xt):
 FI p (X6 YB (.ofNat Yu) (some r0)) U0 ⟨F.cl,F.bd,X6 F.pa (.ofNat Yu) (some l)⟩ (c+1) (upd (upd U r0 (some (.di []))) (p 9) (some (.di (fJ xt (.ofNat Yu) (.ref r0))))):=by
  have ne:∀j,j<12->j≠9->p j≠p 9:=λj hj n e=>n (h.j _ _ hj (by decide) e)
  have up:∀j o,j<12->j≠9->U (p j)=some o->(upd (upd U r0 (some (.di []))) (p 9) (some (.di (fJ xt (.ofNat Yu) (.ref r0))))) (p j)=some o:=λj o hj n e=>by rw[Z9 (ne j hj n),Z9 (nr j hj)];exact e
  refine⟨up 0 _ (by decide) (by decide) h.o,up 1 _ (by decide) (by decide) h.f,λj k1 k2=>?_,h.j,h.z,λl' a e=>?_,λl1 l2 e=>?_,(h.fr.new (h.fr.free hr)).new (h.z 9 (by decide))⟩
  ·by_cases q:j=9
   ·subst q
    refine⟨_,Z_,c7 YQ (cu d2),λl' a e=>?_⟩
    rw[Ym]
    by_cases k:l'=.ofNat Yu
    ·subst k;rw[if_pos rfl,<-cU ((if_pos rfl).symm.trans e)]
    ·rw[if_neg k];exact d3 l' a ((if_neg k).symm.trans e)
   ·obtain⟨es,a,b,k⟩:=h.d j k1 k2
    refine⟨es,up j _ k2 q a,bZ b,?_⟩
    by_cases q7:j=7
    ·subst q7
     rw[e7]at a;cases a
     intro l1 l2 e
     by_cases z:l1=.ofNat Yu
     ·subst z;rw[iM,<-cU ((if_pos rfl).symm.trans e)]
     ·exact k l1 l2 ((if_neg z).symm.trans e)
    ·exact Bv q (SK (F:=F) (F':=⟨F.cl,F.bd,X6 F.pa (.ofNat Yu) (some l)⟩) (.inl rfl) (.inl rfl) (.inr q7) k)
  ·by_cases q:l'=.ofNat Yu
   ·subst q
    obtain rfl:=cU ((if_pos rfl).symm.trans e)
    exact⟨[],(Z9 (nr 9 (by decide)).symm).trans Z_,bV _,λi hi z=>nr i hi z.symm,h.fr.free hr⟩
   ·obtain⟨es,a1,b,k,z⟩:=h.ia l' a ((if_neg q).symm.trans e)
    exact⟨es,(Z9 (k 9 (by decide))).trans ((Z9 λz=>by rw[z,hr]at a1;exact ZE a1).trans a1),bZ b,k,z⟩
  ·by_cases q:l1=.ofNat Yu
   ·exact⟨r0,if_pos q⟩
   ·obtain⟨a,e⟩:=h.ip l1 l2 ((if_neg q).symm.trans e);exact⟨a,(if_neg q).trans e⟩
theorem F_{h:H}{xs:List AV}{l:Int}(hk:(cZ h.kind 0||cZ h.kind 6||cZ h.kind 9||cZ h.kind 10)=true)(q:Q .none U):Z8 (n+2) 42 [.ref (p 0),h.av xs,.int l] Q E U:=by
 induction h using jH with
 |const|ite|seq|prim=>exact go (UG [4,5] q)
 |_=>exact Zv hk
variable{l:Int}
theorem LA(ok:2<=c_)(hI:FS p U0 F c U)(hc:c+c_<LN)(q:∀U',FS p U0 F (c+c_) U'->Q .none U'):Z8 (n+2) 42 [.ref (p 0),(H.glob s).av xs,.int l] Q E U:=
 let⟨_,hI⟩:=hI
 go (ZX hI.o (ZY hI.f ⟨rfl,hI.cnt 10 s (by decide) (Z7 hc) λU' h=>q U' ⟨_,h.le (Z7 ok)⟩⟩))
theorem Lz(ok:2<=c_)(hI:FS p U0 F c U)(hc:c+c_<LN)(q:∀U',FS p U0 F (c+c_) U'->Q .none U'):Z8 (n+2) 42 [.ref (p 0),(H.setG s).av xs,.int l] Q E U:=
 let⟨_,hI⟩:=hI
 go (UG [4,5] (ZX hI.o (ZY hI.f ⟨rfl,hI.cnt 11 s (by decide) (Z7 hc) λU' h=>q U' ⟨_,h.le (Z7 ok)⟩⟩)))
theorem J8(hb:F.bd x=some b)(ch:fu F b l k)(hz:k+1<=c_)(hI:FS p U0 F c U)(hc:c+c_<LN)(q:∀U',FS p U0 F (c+c_) U'->Q .none U'):Z8 (n+2) 42 [.ref (p 0),(H.loc x).av xs,.int l] Q E U:=
 let⟨_,hI⟩:=hI
 go (ZX hI.o (ZY hI.f ⟨rfl,hI.cnt 2 x (by decide) (Z7 hc) λU' h=>ZX h.o (ZY h.f (J_ h hb ch (Z7 hc (Z7 hz)) λU' h=>q U' ⟨_,h.le (Z7 hz)⟩))⟩))
theorem Ly(hb:F.bd x=some b)(ch:fu F b l k)(hz:k+1<=c_)(hI:FS p U0 F c U)(hc:c+c_<LN)(q:∀U',FS p U0 F (c+c_) U'->Q .none U'):Z8 (n+2) 42 [.ref (p 0),(H.YG x).av xs,.int l] Q E U:=
 let⟨_,hI⟩:=hI
 go (ZX hI.o (ZY hI.f ⟨rfl,hI.cnt 3 x (by decide) (Z7 hc) λU' h=>ZX h.o (ZY h.f (J_ h hb ch (Z7 hc (Z7 hz)) λU' h=>q U' ⟨_,h.le (Z7 hz)⟩))⟩))
theorem Rh{QQ:ZD}{E':Loc->US->Prop}{h':H}{ys as:List AV}{x3:Option AV}(hI:FI p YB U0 F c U)(hc:c<LN)(q:∀L U',FS p U0 F (c+1) U'->QQ none L U'):Bx (wpS (Z8 (n+1)) qT.LF.LF.LF.LF.LF.LF.body.Z5 QQ E' [some (.ref (p 0)),some (UI (h'.av ys) as),some (.int l),x3] U):=by
 constructor
 by_cases hl:∀l ps r,h'≠.lam l ps r
 ·exact⟨rfl,NY hl (q _ _ ⟨YB,hI.le (bH c)⟩)⟩
 ·have⟨l',ps,r,e⟩:∃l ps r,h'=.lam l ps r:=by
   induction h' using jH<;>first|exact⟨_,_,_,rfl⟩|exact absurd (λY Y Y=>(xH · rfl)) hl
  subst e
  refine⟨rfl,XQ ?_⟩
  induction eK ps r as.length using jB with
  |false=>exact q _ _ ⟨YB,hI.le (bH c)⟩
  |true=>
   refine hG ?_;intro PP
   obtain⟨es,e1,e2,_⟩:=hI.d 8 (by decide) (by decide)
   exact ZX hI.o (ZY hI.f (Z3 e1 ⟨cD e2 hc,q _ _ ⟨YB,hI.set 8 (by decide) (by decide) (c7 YQ (cu e2)) (bH c) (λY h=>absurd rfl h) (λY Y Y k=>k) rfl⟩⟩))
theorem J7(hf:F.pa (.ofNat Yu)=none)(ok:(bs ps r).length+3<=c_)(hI:FS p U0 F c U)(hc:c+c_<LN)(q:∀U',FS p U0 (nt F l (.lam Yu ps r) none) (c+c_) U'->Q .none U'):Z8 (n+2) 42 [.ref (p 0),(H.lam Yu ps r).av xs,.int l] Q E U:=by
 refine hG ?_;intro PP
 obtain⟨YB,hI⟩:=hI
 obtain⟨es,e1,e2,e3⟩:=hI.d 7 (by decide) (by decide)
 have lb:ps.length<=(bs ps r).length:=by rw[cS];exact cR _ _
 have h1:=hI.set (F':=F) (c':=c+1) (es':=fJ es (.ofNat Yu) (.int l)) 7 (by decide) (by decide) (c7 YQ (cu e2)) (bH c) (λl0 l' e=>by
  rw[Ym,if_neg λz=>by rw[z,hf]at e;exact ZE e];exact e3 l0 l' e) (λY Y Y k=>k) rfl
 refine go (UG [4,5] (ZX hI.o (ZY hI.f (Z3 e1 ⟨Z7 e2 (Z7 hc),rfl,[],rfl,rfl,.nil,λr0 hr=>?_⟩))))
 refine hG ?_;intro PP
 obtain⟨xt,d1,d2,d3⟩:=h1.d 9 (by decide) (by decide)
 have nr:∀i,i<12->p i≠r0:=λi hi e=>by
  by_cases k:2<=i
  ·obtain⟨x,y,_⟩:=h1.d i k hi;rw[e,hr]at y;exact ZE y
  ·by_cases k0:i=0
   ·subst k0;have:=h1.o;rw[e,hr]at this;exact ZE this
   ·obtain rfl:i=1:=by lia
    have:=h1.f;rw[e,hr]at this;exact ZE this
 refine ZX ((Z9 (nr 0 (by decide))).trans h1.o) (ZY ((Z9 (nr 1 (by decide))).trans h1.f) (Z3 ((Z9 (nr 9 (by decide))).trans d1) ⟨Z7 d2 (Z7 hc (Z7 ok)),?_⟩))
 have h2:=FI.add (l:=l) h1 hf Z_ (by rw[Ym,if_pos rfl]) hr nr d1 d2 d3
 exact Ri (Z7 lb (Z7 ok (Z7 hc))) (Ga (r:=r) (bs ps r) (F:=⟨F.cl,F.bd,X6 F.pa (.ofNat Yu) (some l)⟩) h2 (Z7 hc (Z7 ok)) λL U' h=>q U' ⟨_,h.le (Z7 ok)⟩)
theorem Lx{h':H}{ys as:List AV}(hg:∀g,h'≠.loc g)(ok:2<=c_)(hI:FS p U0 F c U)(hc:c+c_<LN)(q:∀U',FS p U0 F (c+c_) U'->Q .none U'):Z8 (n+2) 42 [.ref (p 0),UI (h'.av ys) as,.int l] Q E U:=
 let⟨_,hI⟩:=hI
 go (UG [4,5] (XW h' ys (Z2 (b:=cZ h'.kind 1) (UJ hg) (Rh hI (Z7 hc) λY U' Z=>eE Z λi h=>q U' ⟨i,h.le (Z7 ok)⟩))))
theorem NV{g:Nat}{ys as:List AV}(ok:2<=c_)(hI:FS p U0 F c U)(hc:c+c_<LN)(q:∀U',FS p U0 ⟨X6 F.cl g (F.cl g+1),F.bd,F.pa⟩ (c+c_) U'->Q .none U'):Z8 (n+2) 42 [.ref (p 0),UI ((H.loc g).av ys) as,.int l] Q E U:=by
 refine hG ?_;intro PP
 obtain⟨YB,hI⟩:=hI
 obtain⟨es,e1,e2,e3⟩:=hI.d 4 (by decide) (by decide)
 refine go (UG [4,5] (ZX hI.o (ZY hI.f ⟨rfl,MS e1 (e3 g) (Z7 e2 (Z7 hc)) (Rh (F:=⟨X6 F.cl g (F.cl g+1),F.bd,F.pa⟩) (c:=c+1) (hI.set 4 (by decide) (by decide) (c7 YQ (cu e2)) (bH c) (λx=>?_) (λj es n=>SK (.inr n) (.inl rfl) (.inl rfl)) rfl) (Z7 hc (Z7 ok)) λY U' Z=>eE Z λi h=>q U' ⟨i,h.le (Z7 ok)⟩)⟩)))
 show(Zr (fJ es (.ofNat g) (fO (F.cl g+1))) (.ofNat x)).getD (fO 0)=fO (X6 F.cl g (F.cl g+1) x)
 rw[Ym]
 by_cases k:x=g
 ·subst k;rw[if_pos rfl,show X6 F.cl x (F.cl x+1) x=F.cl x+1 from if_pos rfl];rfl
 ·rw[if_neg λz=>k (by injection z),show X6 F.cl g (F.cl g+1) x=F.cl x from if_neg k];exact e3 x
theorem Bu{h:H}{xs:List AV}{op:Option Nat}(hop:h=.call->∃(h':H) (ys as:List AV),xs=h'.av ys::as/\op=h'.Gb)(ok:J9 F c_ l h)(hI:FS p U0 F c U)(hc:c+c_<LN)(q:∀U',FS p U0 (nt F l h op) (c+c_) U'->Q .none U'):
 Z8 (n+2) 42 [.ref (p 0),h.av xs,.int l] Q E U:=by
 induction h using jH with
 |loc x=>obtain⟨b,k,hb,ch,hz⟩:=ok;exact J8 hb ch hz hI hc q
 |YG x=>obtain⟨b,k,hb,ch,hz⟩:=ok;exact Ly hb ch hz hI hc q
 |glob s=>exact LA ok hI hc q
 |setG s=>exact Lz ok hI hc q
 |lam=>exact J7 ok.1 ok.2 hI hc q
 |call=>
  obtain⟨h',ys,as,rfl,rfl⟩:=hop rfl
  by_cases hg:∃g,h'=.loc g
  ·obtain⟨g,rfl⟩:=hg;exact NV ok hI hc q
  ·have ho:h'.Gb=none:=by induction h' using jH<;>first|rfl|exact absurd ⟨_,rfl⟩ hg
   rw[ho]at q
   exact Lx (λg e=>hg ⟨g,e⟩) ok hI hc q
 |_=>exact F_ rfl (q _ (eE hI λi h=>⟨i,h.le (cR _ _)⟩))
end
noncomputable def H.inl(h:H)(l:Int):Int:=match h with
 |.lam Yu _ _=>.ofNat Yu
 |_=>l
noncomputable def N.op:N->Option Nat
 |.cons (.node h _) _=>h.Gb
 |_=>none
noncomputable def WS:N->Gh->Int->Gh
 |.node h ts,F,l=>WS ts (nt F l h ts.op) (h.inl l)
 |.nil,F,_=>F
 |.cons a b,F,l=>WS b (WS a F l) l
noncomputable def dY(c_:Nat):N->Gh->Int->Prop
 |.node h ts,F,l=>(J9 F c_ l h/\(h=.call->∃(h':H) (ys as:List AV),ts.ZS=h'.av ys::as/\ts.op=h'.Gb))/\dY c_ ts (nt F l h ts.op) (h.inl l)
 |.nil,_,_=>True
 |.cons a b,F,l=>dY c_ a F l/\dY c_ b (WS a F l) l
noncomputable def N.nn:N->Nat
 |.node _ ts=>ts.nn+1
 |.nil=>0
 |.cons a b=>b.nn+a.nn
theorem J6(t:N):t.nn<=t.sz:=by
 induction t with
 |node h ts ih=>show ts.nn+1<=ts.sz+h.sz+1;exact Z7 ih
 |nil=>exact cO _
 |cons a b ia ib=>show b.nn+a.nn<=a.sz+b.sz;exact Z7 ia (Z7 ib)
section
variable{p:Nat->Ad}{YB:Int->Option Ad}{V U0 U:US}{F F':Gh}{c c' c_:Nat}{n:Nat}
theorem FI.put{w:Ad}{o:AO}(h:FI p YB V F c U)(hw:U w=none\/V w≠none):FI p YB (upd V w (some o)) F c (upd U w (some o)):=by
 have ne:∀a,V a=none->U a≠none->a≠w:=λa x y e=>hw.elim (λk=>y (e▸k)) λk=>k (e▸x)
 have np:∀i,i<12->p i≠w:=λi hi=>ne _ (h.z i hi) λe=>by
  by_cases k:2<=i
  ·obtain⟨x,y,_⟩:=h.d i k hi;rw[e]at y;exact ZE y
  ·by_cases k0:i=0
   ·subst k0;have:=h.o;rw[e]at this;exact ZE this
   ·obtain rfl:i=1:=bF (Zx2 (Zm5.mp k)) (Nat.pos_of_ne_zero k0)
    have:=h.f;rw[e]at this;exact ZE this
 refine⟨(Z9 (np 0 (by decide))).trans h.o,(Z9 (np 1 (by decide))).trans h.f,λi h2 hi=>eE (h.d i h2 hi) λes Z=>aE Z λa b=>⟨es,(Z9 (np i hi)).trans a,b⟩,h.j,λi hi=>(Z9 (np i hi)).trans (h.z i hi),λl a e=>?_,h.ip,λa z=>?_,λa Y z=>?_⟩
 ·obtain⟨es,a1,b,k,z⟩:=h.ia l a e
  have na:=ne a z λe=>by rw[e]at a1;exact ZE a1
  exact⟨es,(Z9 na).trans a1,b,k,(Z9 na).trans z⟩
 ·by_cases e:a=w
  ·subst e;rw[Z_];exact cG _
  ·rw[Z9 e]at z⊢;exact h.fr.on a z
 ·by_cases e:a=w
  ·subst e;rw[Z_,Z_]
  ·rw[Z9 e]at z;rw[Z9 e,Z9 e];exact h.fr.eq a (λz=>z) z
theorem FI.base(h:FI p YB V F c U)(f:Zf WI U0 V):FI p YB U0 F c U:=
 ⟨h.o,h.f,h.d,h.j,λi hi=>f.free (h.z i hi),λl a e=>eE (h.ia l a e) λes Z=>aE Z λa1 Z=>aE Z λb Z=>aE Z λk z=>⟨es,a1,b,k,f.free z⟩,h.ip,f.trans h.fr⟩
abbrev FW(p:Nat->Ad)(V:US)(w:Ad)(ws:List AV)(F:Gh)(c:Nat)(U:US):Prop:=FS p (upd V w (some (.list ws))) F c U
theorem FW.at(h:FW p V w ws F c U):U w=some (.list ws):=eE h λ_ h=>h.fr.at Z_ λz=>z
theorem FW.set{w:Ad}{ws ws':List AV}(h:FW p V w ws F c U):FW p V w ws' F c (upd U w (some (.list ws'))):=
 eE h λi h=>⟨i,Zt▸h.put (o:=.list ws') (.inr (by rw[Z_];exact cG _))⟩
noncomputable def iL:X:=qR.Z5.body.Z5.test
noncomputable def oV:S:=qR.Z5.body.Z5.body
noncomputable abbrev pr(l:Int)(x:AV):AV:=.tup [x,.int l]
theorem F9:∀(ys ws:List AV) {U:US} {x5:Option AV},FW p V w ws F c U->ws.length+ys.length<=LN->(∀x5 U',FW p V w (ws++ys.map (pr l)) F c U'->Q none [x0,x1,x2,some (.ref w),some (.int l),x5,x6,x7] U')->
 Zc [5] (λQ' L U1=>wpS C oV.Z5.Z5.Z5.body Q' E L U1) Q ys [x0,x1,x2,some (.ref w),some (.int l),x5,x6,x7] U:=by
  refine hM ?_;intro MM ys;induction ys with
  |nil=>
   intro ws U x5 h _ q
   exact q x5 U (by rwa [Zx0,cB])
  |cons y ys ih=>
   intro ws U x5 h hl q
   rw[bG]at hl
   exact ZJ h.at (ZJ h.at ⟨Z7 hl,ih (ws++[pr l y]) h.set (by rw[cS,aO];exact Z7 hl) λx5 U' h=>q x5 U' (by rwa [cz]at h)⟩)
noncomputable def S.ex:S->X
 |.asg _ e _=>e
 |_=>.nil
theorem Bt{C:ZV}{E:US->Prop}{x0 x1 x2 x3 x4 x5:Option AV}{g:H}{xs:List AV}{l:Int}{Q:fP}(q:Q (.int (g.inl l)) U):ZK C E oV.Z5.Z5.ex [x0,x1,x2,x3,x4,x5,some (g.av xs),some (.int l)] Q U:=by induction g using jH<;>exact q
abbrev fG(n:Nat)(E:Loc->US->Prop)(Q:ZD)(k:Nat)(L:Loc)(U:US):Prop:=wG (Z8 n) E iL oV Q k L U
theorem vL:∀(t:N) {l:Int} {F:Gh} {c k:Nat} {ws:List AV} {x4 x5 x6 x7:Option AV} {U:US},t.wf->dY c_ t F l->FW p V w (ws++(t.ZS.map (pr l)).reverse) F c U->ws.length+t.sz<LN->c+c_*t.nn<LN->
 (∀x4 x5 x6 x7 U',FW p V w ws (WS t F l) (c+c_*t.nn) U'->fG (n+2) E Q k [x0,some (.ref (p 0)),x2,some (.ref w),x4,x5,x6,x7] U')->fG (n+2) E Q (k+t.nn) [x0,some (.ref (p 0)),x2,some (.ref w),x4,x5,x6,x7] U:=by
  refine hM ?_;intro MM t;induction t with
  |nil=>
   intro _ _ _ _ ws _ _ _ _ _ _ _ h _ _ q
   exact q _ _ _ _ _ (by rw[show(N.ZS .nil).map _=[]from rfl,List.reverse_nil,cB]at h;exact h)
  |cons a b ia ib=>
   intro l F c k ws _ _ _ _ U hw ok h hl hc q
   have hc:c+c_*(b.nn+a.nn)<LN:=hc
   have hl:ws.length+(a.sz+b.sz)<LN:=hl
   have e:(N.cons a b).ZS=a.ZS++b.ZS:=rfl
   rw[e,bw,Zt6,<-cz]at h
   show fG (n+2) E Q (k+(b.nn+a.nn)) _ U
   rw[Zg1]at hc
   rw[<-aZ]
   refine ia hw.1 ok.1 h (by rw[cS,aN,cM,ZG];exact Z7 (Xn b) (Z7 hl)) (Z7 hc) λx4 x5 x6 x7 U' h=>ib hw.2 ok.2 h (Z7 hl) (Z7 hc) λx4 x5 x6 x7 U' h=>q x4 x5 x6 x7 U' ?_
   show FW p V w ws (WS b (WS a F l) l) (c+c_*(b.nn+a.nn)) U'
   rwa [Zg1,aH (c_*b.nn),<-aZ]
  |node g ts ih=>
   intro l F c k ws _ _ _ _ U hw ok h hl hc q
   have hc:c+c_*(ts.nn+1)<LN:=hc
   rw[Nat.mul_succ]at hc
   have hl:ws.length+(ts.sz+g.sz+1)<LN:=hl
   have e:=ZG ts
   have le:=Xn ts
   refine V9 h.at (Zu (VS Td) (ZJ h.at (Te ⟨rfl,Bu ok.1.2 ok.1.1 h.set (Z7 hc) λU' h=>?_⟩)))
   refine Bt (UQ g ts.ZS (UM (by rw[e];exact hw.1) (Z7 (cV e) (Z7 le (Z7 hl))) (F9 (l:=g.inl l) ts.ZS.reverse ws h (by rw[aN];exact Z7 hl (Z7 (cV e) (Z7 le))) λx5 U' h=>?_)))
   rw[List.map_reverse]at h
   refine ih hw.2 ok.2 h (Z7 hl) (Z7 hc) λx4 x5 x6 x7 U' h=>q x4 x5 x6 x7 U' ?_
   show FW p V w ws (WS ts (nt F l g ts.op) (g.inl l)) (c+c_*(ts.nn+1)) U'
   rwa [Nat.mul_succ,aH _ c_,<-aZ]
noncomputable def F0:Gh:=⟨λY=>0,λY=>none,λY=>none⟩
noncomputable def vK:List Nat->(Nat->Ad)->List (Nat×AV)
 |[],_=>[]
 |n::ns,f=>(n,.ref (f 0))::vK ns λi=>f (i+1)
theorem CY:∀{ns:List Nat} {rs:List Ad},rs.length=ns.length->ns.zip (rs.map .ref)=vK ns λi=>rs.getD i 0
 |[],[],_=>rfl
 |_::ns,_::rs,h=>congrArg _ (CY (ns:=ns) (rs:=rs) (Zq9 h))
theorem getD_mem{rs:List Ad}{i:Nat}(h:i<rs.length):rs.getD i 0∈rs:=by
 rw[aj,cy h];exact List.getElem_mem h
noncomputable abbrev iK:List Nat:=[29,31,37,36,79,34,38,35,32,33]
theorem F8{a d:Ad}{Q:fP}{E:US->Prop}(hne:a≠d)(ha:U a=none)(hd:U d=none)(q:∀p U',p 0=a->FS p U F0 0 U'->Q .none U'):Z8 (n+1) 352 [.ref a] Q E (upd (upd U a (some (.inst 40 d))) d (some (.fields []))):=by
 refine QH (CZ (U0:=U) (a:=a) (d:=d) (c:=40) (fs:=[]) (rs:=[]) rfl iK (by decide) (by decide) (by decide) ⟨(Z9 hne).trans Z_,Z_,(λY h=>xm h),bU.mpr ⟨λh=>hne (cP.mp h),bU.mpr ⟨(xm ·),.nil⟩⟩,λx m=>?_,(Zf.refl.new ha).new hd⟩ λrs U' hl l=>?_)
 ·rcases cJ.mp m with rfl|m
  ·exact ha
  ·rw[cP.mp m];exact hd
 ·have hl:rs.length=10:=hl
  have lt:∀{i},i<12->i<(a::d::rs).length:=λh=>by rw[bG,bG,hl];exact h
  refine q (λi=>(a::d::rs).getD i 0) U' rfl ⟨λY=>none,l.ha,?_,λi h2 hi=>?_,λi j hi hj=>By l.nd (lt hi) (lt hj),λi hi=>l.z _ (getD_mem (lt hi)),(λY Y h=>ZE h),(λY Y h=>ZE h),l.fr⟩
  ·have:=l.hd
   rw[Zv6,CY hl]at this;exact this
  ·obtain⟨j,rfl⟩:∃j,i=j+2:=⟨i-2,(bg (h2)).symm⟩
   refine⟨[],l.hr _ (getD_mem (rs:=rs) (i:=j) (Z7 hi (Z7 (cV hl.symm)))),cO _,?_⟩
   exact Gf (λY Y=>rfl) λY=>Gf (λY Y Y h=>ZE h) λY=>Gf (λY Y Y h=>ZE h) λY=>Gf (λY Y Y h=>ZE h) λY Y Y Y=>⟨0,rfl⟩
theorem MR(he:t.Zw=true)(hw:t.wf)(ok:dY c_ t F0 (.negSucc 0))(hz:t.sz<LN)(hc:c_*t.nn<LN)(q:∀p U',FS p U (WS t F0 (.negSucc 0)) (c_*t.nn) U'->Q (.ref (p 0)) U'):Z8 (n+4) 43 [.lst [t.av]] Q E U:=by
 refine go λa d hne ha hd=>F8 (n:=n+2) hne ha hd λp U1 e h=>⟨rfl,λw Oa=>⟨1+t.nn,?_⟩⟩
 subst e
 obtain⟨i,h⟩:=h
 refine vL t (V:=U) (l:=.negSucc 0) (ws:=[]) hw ok ⟨i,?_⟩ (by rw[Zs9,a_];exact hz) (by rw[a_];exact hc) λx4 x5 x6 x7 U' h'=>V9 h'.at ⟨q p U' ?_⟩
 ·rw[(ZP he).1];exact h.put (.inl Oa)
 ·obtain⟨i,h'⟩:=h'
  rw[a_]at h'
  exact⟨i,h'.base (Zf.refl.new (h.fr.free Oa))⟩
end
noncomputable def Pl.T.cc(f:Nat):T->Nat
 |.node _ ts=>ts.cc f
 |.app _ _ _ b as=>b.cc f+as.cc f
 |.ZT _ _ _ _ _ b t=>t.cc f+b.cc f
 |.ZZ g as=>(bif cZ g f then 1 else 0)+as.cc f
 |.nil=>0
 |.cons h t=>h.cc f+t.cc f
structure Fe(F F':Gh)(c a:Nat->Nat):Prop where
 pk:∀l l',F.pa l=some l'->F'.pa l=some l'
 px:∀x,a x=0->F'.pa (.ofNat x)=F.pa (.ofNat x)
 bd:∀x,a x=0->F'.bd x=F.bd x
 cl:∀f,F'.cl f=F.cl f+c f
theorem Fe.refl:Fe F F (λY=>0) a:=⟨λY Y h=>h,λY Y=>rfl,λY Y=>rfl,λY=>rfl⟩
theorem Fe.trans(h:Fe F F' c a)(h':Fe F' vJ c' a')(ha:∀x,a'' x=0->a x=0/\a' x=0)(hc:∀f,c'' f=c f+c' f):Fe F vJ c'' a'':=
 ⟨λl l' e=>h'.pk l l' (h.pk l l' e),λx e=>(h'.px x (ha x e).2).trans (h.px x (ha x e).1),λx e=>(h'.bd x (ha x e).2).trans (h.bd x (ha x e).1),λf=>by rw[h'.cl,h.cl,hc,aZ]⟩
theorem fu.mono(h:∀l l',F.pa l=some l'->F'.pa l=some l')(c:fu F b l k):fu F' b l k:=by
 induction c with
 |here=>exact .here
 |up n e _ ih=>exact .up n (h _ _ e) ih
def Bd(F:Gh)(l:Int)(d:Nat)(V P:Sc):Prop:=∀x,V x\/P x->∃b k,F.bd x=some b/\F.pa b≠none/\fu F b l k/\k<=d
section
variable{F F':Gh}{l:Int}{d c_:Nat}{V P:Sc}{c a:Nat->Nat}
theorem Bd.fe(h:Bd F l d V P)(e:Fe F F' c a)(z:∀x,V x\/P x->a x=0):Bd F' l d V P:=λx hx=>by
 refine hG ?_;intro PP
 obtain⟨b,k,h1,h2,h3,h4⟩:=h x hx
 obtain⟨b',hb⟩:=bW.mp h2
 exact⟨b,k,(e.bd x (z x hx)).trans h1,by rw[e.pk b b' hb];exact cG _,h3.mono e.pk,h4⟩
theorem Qz(hf:F.pa (.ofNat Yu)=none):Fe F (nt F l (.lam Yu ps r) none) (λY=>0) λx=>(Yu::bs ps r).count x:=by
 have ne:∀{x},(Yu::bs ps r).count x=0->x≠Yu/\x∉bs ps r:=λe=>let h:=Zt1.mp e;⟨λe=>h (e▸.head _),λm=>h (.tail _ m)⟩
 refine⟨λl1 l2 e=>(if_neg λq=>?_).trans e,λx e=>if_neg λq=>(ne e).1 (by injection q),λx e=>if_neg (ne e).2,λY=>rfl⟩
 rw[q,hf]at e;exact ZE e
theorem NU(hf:F.pa (.ofNat Yu)=none)(h:Bd F l d V P):Bd (nt F l (.lam Yu ps r) none) (.ofNat Yu) (d+1) (λx=>x∈bs ps r\/V x) P:=λx hx=>by
 have pl:(nt F l (.lam Yu ps r) none).pa (.ofNat Yu)=some l:=if_pos rfl
 by_cases q:x∈bs ps r
 ·exact⟨.ofNat Yu,0,if_pos q,by rw[pl];exact cG _,.here,bV _⟩
 ·obtain⟨b,k,h1,h2,h3,h4⟩:=h x (hx.imp_left λh=>h.resolve_left q)
  have nb:b≠.ofNat Yu:=λe=>h2 (e▸hf)
  have pk:=(Qz (l:=l) (ps:=ps) (r:=r) hf).pk
  refine hG ?_;intro PP
  obtain⟨b',hb⟩:=bW.mp h2
  exact⟨b,k+1,(if_neg q).trans h1,by rw[pk b b' hb];exact cG _,.up nb.symm pl (h3.mono pk),cu h4⟩
theorem VR{b:Nat->Nat}(h:∀x,b x≠0->F.pa (.ofNat x)=none)(e:Fe F F' c a)(u:∀x,a x+b x<=1)(x:Nat)(hx:b x≠0):F'.pa (.ofNat x)=none:=by
 rw[e.px x (by have:=u x;lia)];exact h x hx
theorem Bd.cast(h:Bd F l d V P)(k:∀x,V' x\/P' x->V x\/P x):Bd F l d V' P':=λx hx=>h x (k x hx)
theorem SJ(hf:F.pa (.ofNat Yu)=none)(hl:(bs ps r).length+3<=c_)(h:dY c_ b (nt F l (.lam Yu ps r) none) (.ofNat Yu)):dY c_ (Zn Yu ps r b) F l:=
 ⟨⟨⟨hf,hl⟩,(xH · rfl)⟩,h,trivial⟩
theorem Qy{a b c d:Nat}(h:a+b+c+d<=1):(a+d<=1/\a+d+b<=1)/\b+c<=1/\a+b+d+c<=1:=⟨⟨Z7 h,Z7 h⟩,Z7 h,Z7 h⟩
theorem dU{a b:Nat}:0+0+a+b=a+b:=by rw[a_]
theorem Bs{a b c:Nat}:0+a+b+c=a+b+c:=by rw[a_]
theorem Lw{a b c d:Nat}(h:a+b+c+d=0):a=0/\b=0/\c=0/\d=0:=
 let h1:=cF.mp h;let h2:=cF.mp h1.1;let h3:=cF.mp h2.1;⟨h3.1,h3.2,h2.2,h1.2⟩
theorem Lv{a b c d:Nat}:(a≠0->a+b+c+d≠0)/\(b≠0->a+b+c+d≠0)/\(c≠0->a+b+c+d≠0)/\(d≠0->a+b+c+d≠0):=⟨λh k=>h (Lw k).1,λh k=>h (Lw k).2.1,λh k=>h (Lw k).2.2.1,λh k=>h (Lw k).2.2.2⟩
theorem XU{a b:Nat}(h:a+b<=1)(k:a≠0):b=0:=ah.mp (Z7 h (Z7 (Nat.pos_of_ne_zero k)))
theorem Br{a b:Nat}(h:a+b<=1):a<=1:=c7 (cR _ _) h
theorem J5{a b:Nat}(h:a+b<=1):b<=1:=c7 (cj _ _) h
theorem V6{x:Nat}{l:List Nat}(h:x∈l):l.count x≠0:=Zp3.mp (bD.mpr h)
def iJ(c_:Nat)(t:T):Prop:=∀{F:Gh} {l:Int} {d:Nat} {V P:Sc},t.sc V P->t.wf->(∀x,t.tc x<=1)->(∀x,V x\/P x->t.tc x=0)->(∀x,t.tc x≠0->F.pa (.ofNat x)=none)->Bd F l d V P->d+(toN t).nn+6<=c_->
 dY c_ (toN t) F l/\Fe F (WS (toN t) F l) (λf=>t.cc f) λx=>t.tc x
theorem kZ(t:T):iJ c_ t:=by
 induction t with
 |nil=>
  intro _ _ _ _ _ _ _ _ _ _ _ _
  exact⟨trivial,.refl⟩
 |cons h t F7 ih1=>
  intro F l d V P s w u z fr b hz
  have hz:d+((toN t).nn+(toN h).nn)+6<=c_:=hz
  have u':∀x,0+0+h.tc x+t.tc x<=1:=λx=>c7 (cV dU) (u x)
  have z':∀x,V x\/P x->0+0+h.tc x+t.tc x=0:=λx k=>dU.trans (z x k)
  have J4:∀x,0+0+h.tc x+t.tc x≠0->F.pa (.ofNat x)=none:=λx k=>fr x λe=>k (dU.trans e)
  obtain⟨o1,e1⟩:=F7 s.1 w.1.2 (λx=>J5 (Qy (u' x)).2.1) (λx k=>(Lw (z' x k)).2.2.1) (λx k=>J4 x (Lv.2.2.1 k)) b (Z7 hz)
  obtain⟨o2,e2⟩:=ih1 s.2 w.2.2 (λx=>J5 (u' x)) (λx k=>(Lw (z' x k)).2.2.2) (VR (λx k=>J4 x (Lv.2.2.2 k)) e1 u) (b.fe e1 λx k=>(Lw (z' x k)).2.2.1) (Z7 hz)
  exact⟨⟨o1,o2⟩,e1.trans e2 (λx k=>cF.mp k) λf=>rfl⟩
 |node h ts F7=>
  intro F l d V P s w u z fr b hz
  have hz:d+((UH h (toN ts)).nn+1)+6<=c_:=hz
  have hn:(toN ts).nn<=(UH h (toN ts)).nn:=by induction h using jD<;>first|exact cO _|exact bH _
  obtain⟨o,e⟩:=F7 s.2 w.2.2 u z fr b (Z7 hz (Z7 hn))
  have two:2<=c_:=c7 (cj _ _) hz
  have lc:∀x,h.var=some x->∃b k,F.bd x=some b/\fu F b l k/\k+1<=c_:=λx q=>eE (b x (.inl (s.1 x q))) λb Z=>eE Z λk Z=>aE Z λh1 Z=>aE Z λ_ Z=>aE Z λh3 h4=>⟨b,k,h1,h3,Z7 h4 (Z7 hz)⟩
  induction h using jD with
  |X3=>exact⟨⟨⟨two,λY=>⟨_,_,_,rfl,rfl⟩⟩,⟨⟨two,(xH · rfl)⟩,trivial⟩,o⟩,e⟩
  |loc x=>exact⟨⟨⟨lc x rfl,(xH · rfl)⟩,o⟩,e⟩
  |YG x=>exact⟨⟨⟨lc x rfl,(xH · rfl)⟩,o⟩,e⟩
  |_=>exact⟨⟨⟨two,(xH · rfl)⟩,o⟩,e⟩
 |ZZ f as F7=>
  intro F l d V P s w u z fr b hz
  have hz:d+((toN as).nn+(0+1)+1)+6<=c_:=hz
  have e0:Fe F ⟨X6 F.cl f (F.cl f+1),F.bd,F.pa⟩ (λg=>bif cZ f g then 1 else 0) λx=>as.tc x:=⟨λY Y h=>h,λY Y=>rfl,λY Y=>rfl,λg=>by
   show X6 F.cl f (F.cl f+1) g=_
   by_cases q:g=f
   ·subst q;rw[bY];exact if_pos rfl
   ·rw[beq_false (Zp2 q)];exact if_neg q⟩
  obtain⟨o,e⟩:=F7 (F:=⟨X6 F.cl f (F.cl f+1),F.bd,F.pa⟩) s.2 w.2 u z fr (b.fe e0 z) (Z7 hz)
  obtain⟨b',k,h1,_,h3,h4⟩:=b f (.inr s.1)
  exact⟨⟨⟨(c7 (cj _ _) hz:2<=c_),λY=>⟨_,_,_,rfl,rfl⟩⟩,⟨⟨⟨b',k,h1,h3.mono e0.pk,Z7 h4 (Z7 hz)⟩,(xH · rfl)⟩,trivial⟩,o⟩,e0.trans e (λx k=>⟨k,k⟩) λg=>rfl⟩
 |app Yu ps r p as F7 ih1=>
  intro F l d V P s w u z fr b hz
  have hz:d+((toN as).nn+(0+(toN p).nn+1)+1)+6<=c_:=hz
  have u':∀x,0+(Yu::bs ps r).count x+p.tc x+as.tc x<=1:=λx=>c7 (cV Bs) (u x)
  have z':∀x,V x\/P x->0+(Yu::bs ps r).count x+p.tc x+as.tc x=0:=λx k=>Bs.trans (z x k)
  have J4:∀x,0+(Yu::bs ps r).count x+p.tc x+as.tc x≠0->F.pa (.ofNat x)=none:=λx k=>fr x λe=>k (Bs.trans e)
  have hf:=J4 Yu (Lv.2.1 (V6 (.head _)))
  have e0:=Qz (F:=F) (l:=l) (ps:=ps) (r:=r) hf
  obtain⟨o1,e1⟩:=F7 s.2 w.1.2.1 (λx=>J5 (Qy (u' x)).2.1) (λx k=>by
   by_cases m:x∈bs ps r
   ·exact XU (Qy (u' x)).2.1 (V6 (.tail _ m))
   ·exact(Lw (z' x (k.imp_left λk=>k.resolve_left m))).2.2.1) (VR (λx k=>J4 x (Lv.2.2.1 k)) e0 λx=>(Qy (u' x)).2.1) (NU hf b) (Z7 hz)
  have e2:=e0.trans (c'':=λf=>p.cc f) (a'':=λx=>(Yu::bs ps r).count x+p.tc x) e1 (λx k=>cF.mp k) λf=>(a_ _).symm
  obtain⟨o3,e3⟩:=ih1 s.1 w.2.2 (λx=>J5 (u' x)) (λx k=>(Lw (z' x k)).2.2.2) (VR (λx k=>J4 x (Lv.2.2.2 k)) e2 u) (b.fe e2 λx k=>(cF.mp (z x k)).1) (Z7 hz)
  exact⟨⟨⟨(c7 (cj _ _) hz:2<=c_),λY=>⟨_,_,_,rfl,rfl⟩⟩,SJ hf (by have:=w.1.2.2;exact Z7 this (Z7 hz)) o1,o3⟩,e2.trans e3 (λx k=>cF.mp k) λf=>rfl⟩
 |ZT Yu f l' ps r p t F7 ih1=>
  intro F l d V P s w u z fr b hz
  have hz:d+((0+(0+(toN p).nn+1))+(0+(toN t).nn+1)+1)+6<=c_:=hz
  have cs:∀x,T.tc x (.ZT Yu f l' ps r p t)=(Yu::bs [f] none).count x+(l'::bs ps r).count x+p.tc x+t.tc x:=λx=>congrArg (·+p.tc x+t.tc x) (bM (l₁:=[Yu,f]) (l₂:=l'::bs ps r))
  have u':∀x,(Yu::bs [f] none).count x+(l'::bs ps r).count x+p.tc x+t.tc x<=1:=λx=>c7 (cV (cs x).symm) (u x)
  have z':∀x,V x\/P x->(Yu::bs [f] none).count x+(l'::bs ps r).count x+p.tc x+t.tc x=0:=λx k=>(cs x).symm.trans (z x k)
  have J4:∀x,(Yu::bs [f] none).count x+(l'::bs ps r).count x+p.tc x+t.tc x≠0->F.pa (.ofNat x)=none:=λx k=>fr x λe=>k ((cs x).symm.trans e)
  have hf:=J4 Yu (Lv.1 (V6 (.head _)))
  have e0:=Qz (F:=F) (l:=l) (ps:=[f]) (r:=none) hf
  obtain⟨o1,e1⟩:=ih1 s.2 w.2.2 (λx=>J5 (u' x)) (λx k=>by
   by_cases m:x=f
   ·exact XU (Qy (u' x)).1.1 (V6 (.tail _ (m▸.head _)))
   ·exact(Lw (z' x (k.imp_right λk=>k.resolve_left m))).2.2.2) (VR (λx k=>J4 x (Lv.2.2.2 k)) e0 λx=>(Qy (u' x)).1.1) ((NU hf b).cast λx k=>k.elim (λk=>.inl (.inr k)) λk=>k.elim (λk=>.inl (.inl (k▸.head _))) .inr) (Z7 hz)
  have e2:=e0.trans (c'':=λg=>t.cc g) (a'':=λx=>(Yu::bs [f] none).count x+t.tc x) e1 (λx k=>cF.mp k) λf=>(a_ _).symm
  have b2:=b.fe e2 λx k=>let q:=Lw (z' x k);cF.mpr ⟨q.1,q.2.2.2⟩
  have hf':=VR (b:=λx=>(l'::bs ps r).count x) (λx k=>J4 x (Lv.2.1 k)) e2 (λx=>(Qy (u' x)).1.2) l' (V6 (.head _))
  have e3:=Qz (l:=l) (ps:=ps) (r:=r) hf'
  have e4:=e2.trans (c'':=λg=>t.cc g) (a'':=λx=>(Yu::bs [f] none).count x+(l'::bs ps r).count x+t.tc x) e3 (λx k=>let q:=cF.mp k;let q1:=cF.mp q.1;⟨cF.mpr ⟨q1.1,q.2⟩,q1.2⟩) λf=>rfl
  obtain⟨o5,e5⟩:=F7 s.1 w.1.2.1 (λx=>J5 (Qy (u' x)).2.1) (λx k=>by
   by_cases m:x∈bs ps r
   ·exact XU (Qy (u' x)).2.1 (V6 (.tail _ m))
   ·exact(Lw (z' x (k.imp_left λk=>k.resolve_left m))).2.2.1) (VR (λx k=>J4 x (Lv.2.2.1 k)) e4 λx=>(Qy (u' x)).2.2) (NU hf' b2) (Z7 hz)
  exact⟨⟨⟨(c7 (cj _ _) hz:2<=c_),λY=>⟨_,_,_,rfl,rfl⟩⟩,SJ hf (by show[f].length+0+3<=c_;rw[aO];exact c7 (cj _ _) hz) o1,SJ hf' (by have:=w.1.2.2;exact Z7 this (Z7 hz)) o5,trivial⟩,e4.trans e5 (λx k=>let q:=Lw ((cs x).symm.trans k);⟨cF.mpr ⟨cF.mpr ⟨q.1,q.2.1⟩,q.2.2.2⟩,q.2.2.1⟩) λf=>rfl⟩
end
noncomputable def N.all:N->List AV
 |.node h ts=>h.av ts.ZS::ts.all
 |.nil=>[]
 |.cons a b=>a.all++b.all
theorem WL:∀t:N,t.all.length=t.nn
 |.node _ ts=>congrArg (·+1) (WL ts)
 |.nil=>rfl
 |.cons a b=>by show(a.all++b.all).length=b.nn+a.nn;rw[cS,WL a,WL b,aH]
section
variable{n:Nat}{U:US}{f w:Ad}
noncomputable def iI:X:=rP.Z5.Z5.test
noncomputable def kY:S:=rP.Z5.Z5.body
noncomputable abbrev vI(U:US)(f w:Ad)(fs ws:List AV):US:=upd (upd U f (some (.list fs))) w (some (.list ws))
theorem F6:∀(ys ws:List AV) {x4:Option AV},ws.length+ys.length<=LN->(∀x4,Q none [x0,x1,some (.ref w),x3,x4] (vI U f w fs (ws++ys)))->
 Zc [4] (λQ' L U1=>wpS C kY.Z5.Z5.body Q' E L U1) Q ys [x0,x1,some (.ref w),x3,x4] (vI U f w fs ws):=by
  refine hM ?_;intro MM ys;induction ys with
  |nil=>
   intro ws x4 _ q
   rw[cB]at q;exact q x4
  |cons y ys ih=>
   intro ws x4 hl q
   rw[bG]at hl
   refine ZJ Z_ (ZJ Z_ ⟨Z7 hl,?_⟩)
   rw[Zt]
   exact ih (ws++[y]) (by rw[cS,aO];exact Z7 hl) λx4=>by rw[cz];exact q x4
abbrev aG(n:Nat)(E:Loc->US->Prop)(Q:ZD)(k:Nat)(L:Loc)(U:US):Prop:=wG (Z8 n) E iI kY Q k L U
theorem vH(hne:f≠w):∀(t:N) {k:Nat} {fs ws:List AV} {x3 x4:Option AV},t.wf->ws.length+t.sz<LN->fs.length+t.nn<LN->(∀x3 x4,aG (n+1) E Q k [x0,some (.ref f),some (.ref w),x3,x4] (vI U f w (fs++t.all) ws))->
 aG (n+1) E Q (k+t.nn) [x0,some (.ref f),some (.ref w),x3,x4] (vI U f w fs (ws++t.ZS.reverse)):=by
  refine hM ?_;intro MM t;induction t with
  |nil=>
   intro _ fs ws _ _ _ _ _ q
   rw[show(N.ZS .nil).reverse=[]from rfl,cB]
   rw[show N.all .nil=[]from rfl,cB]at q
   exact q _ _
  |cons a b ia ib=>
   intro k fs ws _ _ hw hl hf q
   have hl:ws.length+(a.sz+b.sz)<LN:=hl
   have hf:fs.length+(b.nn+a.nn)<LN:=hf
   have:=Xn b
   show aG (n+1) E Q (k+(b.nn+a.nn)) _ (vI U f w fs (ws++(a.ZS++b.ZS).reverse))
   rw[Zt6,<-cz,<-aZ]
   refine ia hw.1 (by rw[cS,aN,ZG];exact Z7 hl (Z7 this)) (Z7 hf) λx3 x4=>ib hw.2 (Z7 hl) (by rw[cS,WL];exact Z7 hf) λx3 x4=>?_
   rw[cz];exact q x3 x4
  |node h ts ih=>
   intro k fs ws _ _ hw hl hf q
   have hl:ws.length+(ts.sz+h.sz+1)<LN:=hl
   have hf:fs.length+(ts.nn+1)<LN:=hf
   have e:=ZG ts
   have le:=Xn ts
   refine V9 Z_ (Zu (VS Td) (ZJ Z_ (Te ?_)))
   rw[Zt]
   refine ZJ ((Z9 hne).trans Z_) (ZJ ((Z9 hne).trans Z_) ⟨Z7 hf,?_⟩)
   rw[UU hne.symm,Zt]
   refine UQ h ts.ZS (UM (by rw[e];exact hw.1) (Z7 (cV e) (Z7 le (Z7 hl))) (F6 ts.ZS.reverse ws (by rw[aN];exact Z7 hl (Z7 (cV e) (Z7 le))) λx4=>?_))
   refine ih hw.2 (Z7 hl) (by rw[cS,aO];exact Z7 hf) λx3 x4=>?_
   rw[cz];exact q x3 x4
theorem CX{t:N}{Q:fP}{E:US->Prop}(he:t.Zw=true)(hw:t.wf)(hz:t.sz<LN)(q:∀U',Zf WI U U'->Q (.lst t.all) U'):Z8 (n+2) 17 [t.av] Q E U:=by
 refine go λf hf w Oa=>?_
 have hne:f≠w:=λe=>by rw[<-e,Z_]at Oa;exact XD Oa
 have w0:U w=none:=by rwa [Z9 hne.symm]at Oa
 refine⟨1+t.nn,?_⟩
 have:=vH (n:=n) (U:=U) (E:=λY=>E) (Q:=Y4 (λo Y U'=>Q (o.getD .none) U') λL2 U2=>Bx (wpS (Z8 (n+1)) rP.Z5.Z5.Z5 (λo Y U'=>Q (o.getD .none) U') (λY U'=>E U') L2 U2)) (x0:=some t.av) (x3:=none) (x4:=none) (k:=1) (fs:=[]) (ws:=[]) hne t hw (by rw[Zs9];exact Z7 hz) (by have:=J6 t;rw[Zs9];exact Z7 this (Z7 hz)) λx3 x4=>V9 Z_ ⟨?_⟩
 ·rw[(ZP he).1]at this;exact this
 ·exact Pn ((Z9 hne).trans Z_) (q _ (((Zf.refl.new hf).new w0).new hf))
end
noncomputable def H.rn(g b:Nat->Nat):H->H
 |.loc x=>.loc (g x)
 |.YG x=>.YG (g x)
 |.lam l ps r=>.lam (b l) (ps.map g) (r.map g)
 |h=>h
noncomputable def N.rn(g b:Nat->Nat):N->N
 |.node h ts=>.node (h.rn g b) (ts.rn g b)
 |.nil=>.nil
 |.cons h t=>.cons (h.rn g b) (t.rn g b)
noncomputable def N.kX(g b:Nat->Nat):N->N
 |.node h ts=>.node (h.rn g b) ts
 |t=>t
theorem Qx:∀(t:N) {P:Unit->N->Prop},P () (t.rn g b)->QC (λY t P=>P () (t.kX g b)) t () P
 |.node _ ts,_,h=>Qx ts h
 |.nil,_,h=>h
 |.cons a c,_,h=>Qx a (Qx c h)
structure Rn(a d p q:Ad)(g b:Nat->Option Nat)(U:US):Prop where
 o:U a=some (.inst 20 d)
 f:U d=some (.fields [(13,.ref p),(10,.ref q)])
 g:∃es,U p=some (.di es)/\∀x,Zr es (.ofNat x)=(g x).map fO
 b:∃es,U q=some (.di es)/\∀x,Zr es (.ofNat x)=(b x).map fO
noncomputable abbrev gD(g:Nat->Option Nat)(x:Nat):Nat:=(g x).getD x
section
variable{a d p q:Ad}{g b:Nat->Option Nat}{U:US}{n:Nat}{E:US->Prop}
theorem CW(h:∀x,Zr es (.ofNat x)=(g x).map fO):(Zr es (.ofNat x)).getD (fO x)=fO (gD g x):=by rw[h];unfold gD;induction g x using jO<;>rfl
theorem S9(h:Rn a d p q g b U)(k:Q (fO (gD g x)) U):Z8 (n+1) 332 [.ref a,fO x] Q E U:=by
 obtain⟨es,e1,e2⟩:=h.g
 refine go (ZX h.o (ZY h.f (Z3 e1 (Z3 e1 ?_))))
 show Q ((Zr es (.ofNat x)).getD (fO x)) U
 rw[CW e2];exact k
theorem MQ(h:Rn a d p q g b U)(k:Q (fO (gD b x)) U):Z8 (n+1) 333 [.ref a,fO x] Q E U:=by
 obtain⟨es,e1,e2⟩:=h.b
 refine go (ZX h.o (ZY h.f (Z3 e1 (Z3 e1 ?_))))
 show Q ((Zr es (.ofNat x)).getD (fO x)) U
 rw[CW e2];exact k
def oU(a d p q:Ad)(x:Ad):Prop:=x=a\/x=d\/x=p\/x=q
theorem Rn.PD(h:Rn a d p q g b U)(s:GW (oU a d p q) U U'):Rn a d p q g b U':=
 ⟨(s.1 _ (.inl rfl)).trans h.o,(s.1 _ (.inr (.inl rfl))).trans h.f,eE h.g λes Z=>aE Z λe k=>⟨es,(s.1 _ (.inr (.inr (.inl rfl)))).trans e,k⟩,eE h.b λes Z=>aE Z λe k=>⟨es,(s.1 _ (.inr (.inr (.inr rfl)))).trans e,k⟩⟩
theorem vG:V8 (m+2) (.bm 334 (.ref a)) tx (oU a d p q) (λ(_:Unit) U=>Rn a d p q g b U/\∀a,tx a->U a≠none) (λY t P=>P () (t.kX (gD g) (gD b))):=by
 refine⟨λ{s t P U Q E} he hw hc hr hs k=>?_,λh s=>⟨h.1.PD s,λa t=>s.2 a (h.2 a t)⟩,λ{_ U x} h hx=>?_,λh t=>h.2 _ t⟩
 ·induction t using jM with
  |nil|cons=>exact Zv he
  |node h ts=>
   have k:∀{h'},h.rn (gD g) (gD b)=h'->h'.cs tx->Q (h'.av ts.ZS) U:=λ{_} e c=>k () (.node _ ts) U (e▸hr) rfl ⟨by rw[<-e];induction h using jH<;>exact hw.1,hw.2⟩ ⟨c,hc.2⟩ hs .refl
   induction h using jH with
   |loc x=>
    obtain⟨es,e1,e2⟩:=hs.1.g
    refine go (ZX hs.1.o (ZY hs.1.f (Z3 e1 ?_)))
    refine ZC (Zr es (.ofNat x)).isSome (λY=>ZX hs.1.o (ZY hs.1.f (S9 hs.1 (BG (k rfl trivial))))) λq=>?_
    have:gD g x=x:=by rw[e2]at q;unfold gD;induction z:g x using jO with|none=>rfl|some=>rw[z]at q;exact Wf q
    have k:=k (h':=.loc x) (congrArg H.loc this) trivial
    exact k
   |YG x=>
    obtain⟨e,he⟩:=QE (xs:=ts.ZS) (by rw[ZG];exact hw.1)
    have k:=k rfl trivial
    show Z8 (m+2) 334 [.ref a,(H.YG x).av ts.ZS] Q E U
    rw[he]at k⊢
    exact go (ZX hs.1.o (ZY hs.1.f (S9 hs.1 (BF k))))
   |lam l ps r=>
    obtain⟨e,he⟩:=QE (xs:=ts.ZS) (by rw[ZG];exact hw.1)
    have k:=k rfl trivial
    show Z8 (m+2) 334 [.ref a,(H.lam l ps r).av ts.ZS] Q E U
    rw[he]at k⊢
    refine go (LD (f:=λv=>match v with|.int (.ofNat x)=>fO (gD g x)|v=>v) (fN ps) [] (λv Q hv q=>?_) ?_)
    ·obtain⟨x,_,rfl⟩:=bu.mp hv
     exact ZX hs.1.o (ZY hs.1.f (S9 hs.1 q))
    ·rw[Zv6,show(fN ps).map _=fN (ps.map (gD g)) by rw[Zo2];show _=(ps.map (gD g)).map fO;rw[Zo2];rfl]
     induction r using jO with
     |none=>exact ZX hs.1.o (ZY hs.1.f (MQ hs.1 (NZ k)))
     |some x=>exact ZX hs.1.o (ZY hs.1.f (S9 hs.1 (ZX hs.1.o (ZY hs.1.f (MQ hs.1 (NZ k))))))
   |_=>exact go ⟨⟨k rfl hc.1⟩⟩
 ·rcases hx with rfl|rfl|rfl|rfl
  ·rw[h.1.o];exact cG _
  ·rw[h.1.f];exact cG _
  ·obtain⟨es,e,_⟩:=h.1.g;rw[e];exact cG _
  ·obtain⟨es,e,_⟩:=h.1.b;rw[e];exact cG _
end
structure Wp where
 a:Ad
 d:Ad
 p:Ad
 x:AV
 y:AV
 z:AV
structure Wo(w:Wp)(n:Nat)(U:US):Prop where
 o:U w.a=some (.inst 55 w.d)
 f:U w.d=some (.fields [(90,w.x),(91,fO n),(12,.ref w.p),(92,w.y),(93,w.z)])
 p:U w.p=some (.di [])
structure As where
 n:Nat
 g:Nat->Option Nat
 b:Nat->Option Nat
noncomputable def As.lo(s:As)(x:Nat):As:=⟨s.n+1,X6 s.g x (some (s.n+1)),s.b⟩
noncomputable def As.la(s:As)(l:Nat):As:=⟨s.n+1,s.g,X6 s.b l (some (s.n+1))⟩
noncomputable def Bq:List Nat->As->As
 |[],s=>s
 |x::xs,s=>Bq xs (s.lo x)
noncomputable def H.as(h:H)(s:As):As:=match h with
 |.lam l ps r=>Bq (bs ps r) (s.la l)
 |_=>s
noncomputable def N.as:N->As->As
 |.node h ts,s=>ts.as (h.as s)
 |.nil,s=>s
 |.cons a b,s=>b.as (a.as s)
noncomputable def H.bn:H->List Nat
 |.lam _ ps r=>bs ps r
 |_=>[]
def Dm(es:List (Int×AV))(c:Nat)(g:Nat->Option Nat):Prop:=es.length<=c/\∀x,Zr es (.ofNat x)=(g x).map fO
theorem Dm.put(h:Dm es c g):Dm (fJ es (.ofNat x) (fO v)) (c+1) (X6 g x (some v)):=
 ⟨c7 YQ (cu h.1),λy=>by
  rw[Ym]
  by_cases k:y=x
  ·subst k;rw[if_pos rfl,show X6 g y (some v) y=some v from if_pos rfl];rfl
  ·rw[if_neg λz=>k (by injection z),show X6 g x (some v) y=g y from if_neg k];exact h.2 y⟩
structure Rw(U0:US)(a d p q:Ad)(w:Wp)(c:Nat)(s:As)(U:US):Prop where
 wo:Wo w s.n U
 o:U a=some (.inst 20 d)
 f:U d=some (.fields [(13,.ref p),(10,.ref q)])
 hg:∃es,U p=some (.di es)/\Dm es c s.g
 hb:∃es,U q=some (.di es)/\Dm es c s.b
 n1:d≠w.d
 n2:p≠q
 n3:w.p≠p
 n4:w.p≠q
 z1:U0 p=none
 z2:U0 q=none
 fr:Zf (λx=>x=w.d) U0 U
theorem ZI{U:US}{a b:Ad}{x y:Option AO}(h:U a=x)(k:U b=y)(n:x≠y):a≠b:=λe=>n (h.symm.trans (e▸k))
section
variable{a d p q:Ad}{w:Wp}{c:Nat}{s:As}{U0 U:US}{n:Nat}{E:US->Prop}
theorem Qw{k:Nat}{Q:fP}(h:Wo w k U)(q:Wo w (k+1) (upd U w.d (some (.fields [(90,w.x),(91,fO (k+1)),(12,.ref w.p),(92,w.y),(93,w.z)])))->Q (fO (k+1)) (upd U w.d (some (.fields [(90,w.x),(91,fO (k+1)),(12,.ref w.p),(92,w.y),(93,w.z)])))):Z8 (n+1) 373 [.ref w.a] Q E U:=by
 have e1:=(Z9 (o:=some (.fields [(90,w.x),(91,fO (k+1)),(12,.ref w.p),(92,w.y),(93,w.z)])) (ZI h.o h.f (xO · rfl))).trans h.o
 refine go (ZX h.o (ZY h.f λz hz=>ZX h.o (ZY h.f ⟨rfl,cL rfl,?_⟩)))
 obtain rfl:z=.ofNat (k+1):=hz
 exact ZX e1 (ZY Z_ (q ⟨e1,Z_,(Z9 (ZI h.p h.f (xO · rfl))).trans h.p⟩))
theorem Rw.fresh(h:Rw U0 a d p q w c s U){o:AO}(k:Wo w (s.n+1) (upd U w.d (some o))):Rw U0 a d p q w c ⟨s.n+1,s.g,s.b⟩ (upd U w.d (some o)):=
 ⟨k,(Z9 (ZI h.o h.wo.f (xO · rfl))).trans h.o,(Z9 h.n1).trans h.f,eE h.hg λes Z=>aE Z λe k=>⟨es,(Z9 (ZI e h.wo.f (xO · rfl))).trans e,k⟩,eE h.hb λes Z=>aE Z λe k=>⟨es,(Z9 (ZI e h.wo.f (xO · rfl))).trans e,k⟩,h.n1,h.n2,h.n3,h.n4,h.z1,h.z2,h.fr.set rfl⟩
theorem Rw.lo{s':As}(h:Rw U0 a d p q w c s' U){x:Nat}{es:List (Int×AV)}(e:U p=some (.di es))(k:Dm es c s.g)(hs:s'=⟨s.n+1,s.g,s.b⟩):Rw U0 a d p q w (c+1) (s.lo x) (upd U p (some (.di (fJ es (.ofNat x) (fO (s.n+1)))))):=by
 subst hs
 obtain⟨xr,e2,k2⟩:=h.hb
 exact⟨⟨(Z9 (ZI h.wo.o e (xO · rfl))).trans h.wo.o,(Z9 (ZI h.wo.f e (xO · rfl))).trans h.wo.f,(Z9 h.n3).trans h.wo.p⟩,(Z9 (ZI h.o e (xO · rfl))).trans h.o,(Z9 (ZI h.f e (xO · rfl))).trans h.f,⟨_,Z_,k.put⟩,⟨xr,(Z9 h.n2.symm).trans e2,bZ k2.1,k2.2⟩,h.n1,h.n2,h.n3,h.n4,h.z1,h.z2,h.fr.new h.z1⟩
theorem Rw.la{s':As}(h:Rw U0 a d p q w c s' U){x:Nat}{es:List (Int×AV)}(e:U q=some (.di es))(k:Dm es c s.b)(hs:s'=⟨s.n+1,s.g,s.b⟩):Rw U0 a d p q w (c+1) (s.la x) (upd U q (some (.di (fJ es (.ofNat x) (fO (s.n+1)))))):=by
 subst hs
 obtain⟨xr,e2,k2⟩:=h.hg
 exact⟨⟨(Z9 (ZI h.wo.o e (xO · rfl))).trans h.wo.o,(Z9 (ZI h.wo.f e (xO · rfl))).trans h.wo.f,(Z9 h.n4).trans h.wo.p⟩,(Z9 (ZI h.o e (xO · rfl))).trans h.o,(Z9 (ZI h.f e (xO · rfl))).trans h.f,⟨xr,(Z9 h.n2).trans e2,bZ k2.1,k2.2⟩,⟨_,Z_,k.put⟩,h.n1,h.n2,h.n3,h.n4,h.z1,h.z2,h.fr.new h.z2⟩
theorem F5{h:H}{xs:List AV}{Q:fP}(hl:h.sz+1<=LN)(k:Q (.lst (fN h.bn)) U):Z8 (n+2) 14 [h.av xs] Q E U:=by
 induction h using jH with
 |lam l ps r=>exact go (Ri hl k)
 |_=>exact go k
theorem Rw.le(h:Rw U0 a d p q w c s U)(k:c<=c'):Rw U0 a d p q w c' s U:=
 ⟨h.wo,h.o,h.f,eE h.hg λes Z=>aE Z λe z=>⟨es,e,c7 z.1 k,z.2⟩,eE h.hb λes Z=>aE Z λe z=>⟨es,e,c7 z.1 k,z.2⟩,h.n1,h.n2,h.n3,h.n4,h.z1,h.z2,h.fr⟩
theorem CU(h:H):h.bn.length<=h.sz+1:=by
 induction h using jH with
 |lam l ps r=>
  show(ps++r.toList).length<=ps.length+1
  rw[cS]
  induction r using jO
  ·exact bH _
  ·exact cO _
 |_=>exact bV _
noncomputable def xq:S:=lW.Z5.body
noncomputable def iH:S:=xq.Z5.body
theorem vF{C:ZV}{E':Loc->US->Prop}{QQ:ZD}{x0 x3 x5:Option AV}(hC:C=Z8 (n+1)):∀(ns:List Nat) {s:As} {c:Nat} {U:US} {x4:Option AV},Rw U0 a d p q w c s U->c+ns.length<LN->(∀x4 U',Rw U0 a d p q w (c+ns.length) (Bq ns s) U'->QQ none [x0,some (.ref w.a),some (.ref a),x3,x4,x5] U')->
 Zc [4] (λQ' L U1=>wpS C iH Q' E' L U1) QQ (fN ns) [x0,some (.ref w.a),some (.ref a),x3,x4,x5] U:=by
 refine hM ?_;intro MM ns;induction ns with
 |nil=>
  intro s c U x4 h _ k
  exact k x4 U h
 |cons m ns ih=>
  intro s c U x4 h hc k
  subst hC
  rw[bG]at hc
  refine ZX h.wo.o (ZY h.wo.f (Qw h.wo λz=>?_))
  have h1:=h.fresh z
  refine hG ?_;intro PP
  obtain⟨es,e1,e2⟩:=h1.hg
  refine ZX h1.o (ZY h1.f (Z3 e1 ⟨cD e2.1 (Z7 hc),ih (h1.lo e1 e2 rfl) (Z7 hc) λx4 U' h'=>k x4 U' ?_⟩))
  rw[bG,aH ns.length,<-aZ];exact h'
theorem Pd{E':Loc->US->Prop}{QQ:ZD}{x0 x4 x5:Option AV}{h:H}{xs:List AV}(hr:Rw U0 a d p q w c s U)(hl:h.sz+1<=LN)(hc:c+h.bn.length<LN)(k:∀x4 U',Rw U0 a d p q w (c+h.bn.length) (Bq h.bn s) U'->QQ none [x0,some (.ref w.a),some (.ref a),some (h.av xs),x4,x5] U'):
 Bx (wpS (Z8 (n+2)) xq.Z5 QQ E' [x0,some (.ref w.a),some (.ref a),some (h.av xs),x4,x5] U):=⟨⟨rfl,F5 hl (vF rfl h.bn hr hc k)⟩⟩
theorem Bp{E':Loc->US->Prop}{QQ:ZD}{x0 x3 x4 x5:Option AV}{h:H}{xs:List AV}(hr:Rw U0 a d p q w c s U)(hl:h.sz+1<=LN)(hc:c+h.bn.length+1<LN)(k:∀x3 x4 x5 U',Rw U0 a d p q w (c+h.bn.length+1) (h.as s) U'->QQ none [x0,some (.ref w.a),some (.ref a),x3,x4,x5] U'):
 ZB [3] (h.av xs) [x0,some (.ref w.a),some (.ref a),x3,x4,x5] λL'=>wpS (Z8 (n+2)) xq QQ E' L' U:=by
 have no:h.bn=[]->h.as s=s->Bx (wpS (Z8 (n+2)) xq.Z5 QQ E' [x0,some (.ref w.a),some (.ref a),some (h.av xs),x4,x5] U):=λe1 e2=>Pd hr hl (Nat.lt_of_succ_lt hc) λx4 U' h'=>k _ x4 _ U' (by rw[e1]at h';rw[e1,e2];exact h'.le (bH _))
 induction h using jH with
 |lam l ps r=>
  refine ZX hr.wo.o (ZY hr.wo.f (Qw hr.wo λz=>?_))
  have h1:=hr.fresh z
  refine hG ?_;intro PP
  obtain⟨es,e1,e2⟩:=h1.hb
  have h2:=h1.la (s:=s) (x:=l) e1 e2 rfl
  refine ZX h1.o (ZY h1.f (Z3 e1 ⟨cD e2.1 (Z7 hc),ZX h2.wo.o (ZY h2.wo.f (Z3 h2.wo.p (Pd h2 hl (by rw[Zx7];exact hc) λx4 U' h'=>k _ x4 _ U' ?_)))⟩))
  rw[Zx7];exact h'
 |_=>exact no rfl rfl
theorem vE{E':Loc->US->Prop}{QQ:ZD}{x0:Option AV}:∀(t:N) {rest:List AV} {c:Nat} {s:As} {U:US} {x3 x4 x5:Option AV},Rw U0 a d p q w c s U->t.wf->c+2*t.sz<LN->(∀x3 x4 x5 U',Rw U0 a d p q w (c+2*t.sz) (t.as s) U'->Zc [3] (λQ' L U1=>wpS (Z8 (n+2)) xq Q' E' L U1) QQ rest [x0,some (.ref w.a),some (.ref a),x3,x4,x5] U')->
 Zc [3] (λQ' L U1=>wpS (Z8 (n+2)) xq Q' E' L U1) QQ (t.all++rest) [x0,some (.ref w.a),some (.ref a),x3,x4,x5] U:=by
 refine hM ?_;intro MM t;induction t with
 |nil=>
  intro _ _ _ _ _ _ _ h _ _ k
  exact k _ _ _ _ h
 |cons u v iu iv=>
  intro rest c s U _ _ _ h hw hc k
  have hc:c+2*(u.sz+v.sz)<LN:=hc
  show Zc _ _ QQ ((u.all++v.all)++rest) _ U
  rw[cz]
  refine iu h hw.1 (Z7 hc) λx3 x4 x5 U' h=>iv h hw.2 (Z7 hc) λx3 x4 x5 U' h=>k x3 x4 x5 U' ?_
  show Rw U0 a d p q w (c+2*(u.sz+v.sz)) _ U'
  rw[Zg1,<-aZ];exact h
 |node h ts ih=>
  intro rest c s U _ _ _ hr hw hc k
  have hc:c+2*(ts.sz+h.sz+1)<LN:=hc
  have:=CU h
  refine Bp hr (Z7 hc) (Z7 hc (Z7 this)) λx3 x4 x5 U' h'=>ih (h'.le (c':=c+2*(h.sz+1)) (Z7 this)) hw.2 (Z7 hc) λx3 x4 x5 U' h'=>k x3 x4 x5 U' (h'.le (by show c+2*(h.sz+1)+2*ts.sz<=c+2*(ts.sz+h.sz+1);simp+arith only))
end
section
variable{a d p q:Ad}{w:Wp}{c:Nat}{s:As}{U0 U:US}{n:Nat}{E:US->Prop}
theorem Wo.at(h:Wo w k U)(f:Zf D U U')(n1:¬D w.a)(n2:¬D w.d)(n3:¬D w.p):Wo w k U':=⟨f.at h.o n1,f.at h.f n2,f.at h.p n3⟩
theorem Rw.Rz(h:Rw U0 a d p q w c s U)(f:Zf WI U U'):Rw U0 a d p q w c s U':=
 ⟨h.wo.at f id id id,f.at h.o id,f.at h.f id,eE h.hg λes Z=>aE Z λe z=>⟨es,f.at e id,z⟩,eE h.hb λes Z=>aE Z λe z=>⟨es,f.at e id,z⟩,h.n1,h.n2,h.n3,h.n4,h.z1,h.z2,h.fr.trans (f.mono λY z=>z.elim)⟩
theorem F4(hne:a≠d)(ha:U a=none)(hd:U d=none)(hw:Wo w k U)(z:∀p q U',Rw U a d p q w 0 ⟨k,λY=>none,λY=>none⟩ U'->Q .none U'):Z8 (n+1) 331 [.ref a] Q E (upd (upd U a (some (.inst 20 d))) d (some (.fields []))):=by
 refine QH (CZ (U0:=U) (a:=a) (d:=d) (c:=20) (fs:=[]) (rs:=[]) rfl [13,10] (by decide) (by decide) (by decide) ⟨(Z9 hne).trans Z_,Z_,(λY h=>xm h),bU.mpr ⟨λh=>hne (cP.mp h),bU.mpr ⟨(xm ·),.nil⟩⟩,λx m=>?_,(Zf.refl.new ha).new hd⟩ λrs U' hl l=>?_)
 ·rcases cJ.mp m with rfl|m
  ·exact ha
  ·rw[cP.mp m];exact hd
 ·obtain⟨p,q,rfl⟩:=vV (xs:=rs) (by rw[hl];rfl)
  have nd:=(bU.mp (bU.mp (bU.mp l.nd).2).2).1
  have zp:=l.z p (.tail _ (.tail _ (.head _)))
  have zq:=l.z q (.tail _ (.tail _ (.tail _ (.head _))))
  exact z p q U' ⟨hw.at l.fr id id id,l.ha,l.hd,⟨[],l.hr p (.head _),cO _,λY=>rfl⟩,⟨[],l.hr q (.tail _ (.head _)),cO _,λY=>rfl⟩,(ZI hd hw.f (ZE ·)),λe=>nd (e▸.head _),ZI hw.p zp (XD ·),ZI hw.p zq (XD ·),zp,zq,l.fr.mono λY z=>z.elim⟩
theorem F3{k:Nat}{tx:Ad->Prop}{t:N}{Q:fP}(he:t.Zw=true)(ht:t.wf)(hc:t.cs tx)(hz:2*t.sz+1<LN)(hs:∀a,tx a->U a≠none)(hw:Wo w k U)
 (q:∀U',Wo w (t.as ⟨k,λY=>none,λY=>none⟩).n U'->Zf (λx=>x=w.d) U U'->Q (t.rn (gD (t.as ⟨k,λY=>none,λY=>none⟩).g) (gD (t.as ⟨k,λY=>none,λY=>none⟩).b)).av U'):Z8 (n+5) 21 [t.av,.ref w.a] Q E U:=by
 refine go λa d hne ha hd=>F4 (n:=n+3) hne ha hd hw λp p' U1 h=>⟨rfl,⟨rfl,CX (n:=n+2) he ht (Z7 hz) λU2 f=>?_⟩⟩
 rw[<-cB t.all]
 refine vE (n:=n+2) t (h.Rz f) ht (Z7 hz) λx3 x4 x5 U3 h=>⟨ZX h.o (ZY h.f ⟨rfl,?_⟩)⟩
 have R:Rn a d p p' (t.as ⟨k,λY=>none,λY=>none⟩).g (t.as ⟨k,λY=>none,λY=>none⟩).b U3:=⟨h.o,h.f,eE h.hg λes Z=>aE Z λe z=>⟨es,e,z.2⟩,eE h.hb λes Z=>aE Z λe z=>⟨es,e,z.2⟩⟩
 refine XV (m:=n+1) vG he ht hc hz ⟨R,λx m=>h.fr.on x (hs x m)⟩ (Qx t (P:=λY t'=>t'=t.rn _ _) rfl) λY t' U4 e Y Y Y hH fr=>?_
 subst e
 have na:∀x,U x≠none->¬oU a d p p' x:=λx z k=>by
  rcases k with rfl|rfl|rfl|rfl
  ·exact z ha
  ·exact z hd
  ·exact z h.z1
  ·exact z h.z2
 refine q U4 (h.wo.at fr (na _ (by rw[hw.o];exact cG _)) (na _ (by rw[hw.f];exact cG _)) (na _ (by rw[hw.p];exact cG _))) ⟨λx z=>fr.on x (h.fr.on x z),λx n z=>?_⟩
 rw[fr.eq x (na x z) (h.fr.on x z)];exact h.fr.eq x n z
end
structure PC(n0:Nat)(S:Sc)(s:As):Prop where
 le:n0<=s.n
 out:∀x,¬S x->s.g x=none/\s.b x=none
 rg:∀x v,s.g x=some v\/s.b x=some v->n0<v/\v<=s.n
 ex:∀x v w,s.g x=some v->s.b x=some w->False
 al:∀x,S x->∃v,s.g x=some v\/s.b x=some v
 inj:∀x y v,(s.g x=some v\/s.b x=some v)->(s.g y=some v\/s.b y=some v)->x=y
structure Mo(s s':As):Prop where
 g:∀x v,s.g x=some v->s'.g x=some v
 b:∀x v,s.b x=some v->s'.b x=some v
theorem Mo.refl:Mo s s:=⟨λY Y h=>h,λY Y h=>h⟩
theorem Mo.trans(h:Mo s s')(k:Mo s' s''):Mo s s'':=⟨λx v e=>k.g x v (h.g x v e),λx v e=>k.b x v (h.b x v e)⟩
noncomputable abbrev As.σ(s:As)(x:Nat):Nat:=(s.g x).getD ((s.b x).getD x)
section
variable{n0:Nat}{S:Sc}{s s':As}
theorem UE{f:Nat->Option Nat}{x y v w:Nat}(h:X6 f x (some v) y=some w):y=x/\v=w\/f y=some w:=by
 by_cases k:y=x
 ·exact .inl ⟨k,cU ((if_pos k).symm.trans h)⟩
 ·exact .inr ((if_neg k).symm.trans h)
theorem Uc{f:Nat->Option Nat}{x y v:Nat}(h:y≠x):X6 f x (some v) y=f y:=if_neg h
theorem Qv{f:Nat->Option Nat}{x v:Nat}:X6 f x (some v) x=some v:=if_pos rfl
theorem PC.lo{x:Nat}(h:PC n0 S s)(hx:¬S x):PC n0 (λy=>y=x\/S y) (s.lo x)/\Mo s (s.lo x):=by
 have un:∀{y v},((s.lo x).g y=some v\/(s.lo x).b y=some v)->y=x/\s.n+1=v\/(s.g y=some v\/s.b y=some v):=λk=>k.elim (λk=>(UE k).imp_right .inl) λk=>.inr (.inr k)
 refine⟨⟨bZ h.le,λy k=>?_,λy v k=>?_,λy v w k1 k2=>?_,λy k=>?_,λy z v k1 k2=>?_⟩,λy v e=>(Uc λq=>?_).trans e,λY Y e=>e⟩
 ·have o:=h.out y λq=>k (.inr q)
  exact⟨(Uc λq=>k (.inl q)).trans o.1,o.2⟩
 ·rcases un k with⟨_,rfl⟩|k
  ·exact⟨aT h.le,cO _⟩
  ·exact⟨(h.rg y v k).1,bZ (h.rg y v k).2⟩
 ·rcases UE k1 with⟨rfl,_⟩|k1
  ·rw[show(s.lo y).b y=s.b y from rfl,(h.out y hx).2]at k2;exact ZE k2
  ·exact h.ex y v w k1 k2
 ·by_cases q:y=x
  ·exact⟨s.n+1,.inl (q▸Qv)⟩
  ·obtain⟨v,k⟩:=h.al y (k.resolve_left q)
   exact⟨v,k.imp_left λk=>(Uc q).trans k⟩
 ·rcases un k1 with⟨rfl,e1⟩|j1<;>rcases un k2 with⟨rfl,e2⟩|j2
  ·rfl
  ·have:=(h.rg z v j2).2;rw[<-e1]at this;exact absurd this (Zu7 _)
  ·have:=(h.rg y v j1).2;rw[<-e2]at this;exact absurd this (Zu7 _)
  ·exact h.inj y z v j1 j2
 ·rw[q,(h.out x hx).1]at e;exact ZE e
theorem PC.la{x:Nat}(h:PC n0 S s)(hx:¬S x):PC n0 (λy=>y=x\/S y) (s.la x)/\Mo s (s.la x):=by
 have un:∀{y v},((s.la x).g y=some v\/(s.la x).b y=some v)->y=x/\s.n+1=v\/(s.g y=some v\/s.b y=some v):=λk=>k.elim (λk=>.inr (.inl k)) λk=>(UE k).imp_right .inr
 refine⟨⟨bZ h.le,λy k=>?_,λy v k=>?_,λy v w k1 k2=>?_,λy k=>?_,λy z v k1 k2=>?_⟩,λY Y e=>e,λy v e=>(Uc λq=>?_).trans e⟩
 ·have o:=h.out y λq=>k (.inr q)
  exact⟨o.1,(Uc λq=>k (.inl q)).trans o.2⟩
 ·rcases un k with⟨_,rfl⟩|k
  ·exact⟨aT h.le,cO _⟩
  ·exact⟨(h.rg y v k).1,bZ (h.rg y v k).2⟩
 ·rcases UE k2 with⟨rfl,_⟩|k2
  ·rw[show(s.la y).g y=s.g y from rfl,(h.out y hx).1]at k1;exact ZE k1
  ·exact h.ex y v w k1 k2
 ·by_cases q:y=x
  ·exact⟨s.n+1,.inr (q▸Qv)⟩
  ·obtain⟨v,k⟩:=h.al y (k.resolve_left q)
   exact⟨v,k.imp_right λk=>(Uc q).trans k⟩
 ·rcases un k1 with⟨rfl,e1⟩|j1<;>rcases un k2 with⟨rfl,e2⟩|j2
  ·rfl
  ·have:=(h.rg z v j2).2;rw[<-e1]at this;exact absurd this (Zu7 _)
  ·have:=(h.rg y v j1).2;rw[<-e2]at this;exact absurd this (Zu7 _)
  ·exact h.inj y z v j1 j2
 ·rw[q,(h.out x hx).2]at e;exact ZE e
theorem PC.cast(h:PC n0 S s)(k:∀x,S' x↔S x):PC n0 S' s:=⟨h.le,λx z=>h.out x λq=>z ((k x).mpr q),h.rg,h.ex,λx z=>h.al x ((k x).mp z),h.inj⟩
theorem Bo:∀(ns:List Nat) {S:Sc} {s:As},PC n0 S s->(∀x∈ns,¬S x)->ns.Nodup->PC n0 (λx=>x∈ns\/S x) (Bq ns s)/\Mo s (Bq ns s)/\∀x∈ns,∃v,(Bq ns s).g x=some v:=by
 refine hM ?_;intro MM ns;induction ns with
 |nil=>
  intro _ _ h _ _
  exact⟨h.cast λx=>⟨λk=>k.resolve_left (xm ·),.inr⟩,.refl,(λY h=>xm h)⟩
 |cons y ns ih=>
  intro S s h k nd
  have nd:=bU.mp nd
  obtain⟨h1,m1⟩:=h.lo (k y (.head _))
  obtain⟨h2,m2,a2⟩:=ih h1 (λx hx q=>q.elim (λe=>nd.1 (e▸hx)) (k x (.tail _ hx))) nd.2
  refine⟨h2.cast λx=>?_,m1.trans m2,λx hx=>?_⟩
  ·rw[cJ,or_assoc,or_left_comm]
  ·rcases cJ.mp hx with rfl|hx
   ·exact⟨_,m2.g _ _ Qv⟩
   ·exact a2 x hx
theorem NT{l:Nat}{ps:List Nat}{r:Option Nat}(h:PC n0 S s)(u:∀x,(l::bs ps r).count x<=1)(k:∀x,(l::bs ps r).count x≠0->¬S x):
 PC n0 (λx=>(l::bs ps r).count x≠0\/S x) ((H.lam l ps r).as s)/\Mo s ((H.lam l ps r).as s)/\(∃v,((H.lam l ps r).as s).b l=some v)/\∀x∈bs ps r,∃v,((H.lam l ps r).as s).g x=some v:=by
 have nd:=bU.mp (Zh3.mpr u)
 refine hG ?_;intro PP
 obtain⟨h1,m1⟩:=h.la (k l (V6 (.head _)))
 obtain⟨h2,m2,a2⟩:=Bo (bs ps r) h1 (λx hx q=>q.elim (λe=>nd.1 (e▸hx)) (k x (V6 (.tail _ hx)))) nd.2
 refine⟨h2.cast λx=>?_,m1.trans m2,⟨_,m2.b _ _ Qv⟩,a2⟩
 rw[<-Zp3,bD,cJ,or_assoc,or_left_comm]
theorem F2(h:s.g x=some v):gD s.g x=s.σ x:=by unfold gD As.σ;rw[h];rfl
theorem FZ(h:PC n0 S s)(k:s.b x=some v):gD s.b x=s.σ x:=by
 unfold gD As.σ
 induction q:s.g x using jO with
 |none=>rfl
 |some w=>exact(h.ex x w v q k).elim
structure kW(n0:Nat)(S V P:Sc)(t:T)(s s':As):Prop where
 i:PC n0 (λx=>t.tc x≠0\/S x) s'
 m:Mo s s'
 e:∀{S':Sc} {s2:As},Mo s' s2->PC n0 S' s2->(∀x,V x\/P x->gD s2.g x=s2.σ x)->(toN t).rn (gD s2.g) (gD s2.b)=toN (t.Wu s2.σ)
theorem dW(e:∀x∈bs ps r,g x=h x):ps.map g=ps.map h/\r.map g=r.map h:=
 ⟨Zt5 λx m=>e x (cH _ m),by induction r using jO with|none=>rfl|some x=>exact congrArg some (e x (cC _ (.head _)))⟩
theorem NS(e1:bb l=h l)(e2:∀x∈bs ps r,g x=h x)(e:b.rn g bb=b'):(Zn l ps r b).rn g bb=Zn (h l) (ps.map h) (r.map h) b':=by
 show Zn (bb l) (ps.map g) (r.map g) (b.rn g bb)=_
 rw[e,e1,(dW e2).1,(dW e2).2]
theorem rF{p:Prop}:a+b≠0\/p↔b≠0\/a≠0\/p:=by
 rw[<-or_assoc,show a+b≠0↔b≠0\/a≠0 from⟨λh=>(Zv8 b).elim (λz=>.inr λz'=>h (cF.mpr ⟨z',z⟩)) λp=>.inl (Zz9 p),λh z=>h.elim (λk=>k (cF.mp z).2) λk=>k (cF.mp z).1⟩]
theorem dg{p:Prop}:a+b+c≠0\/p↔c≠0\/b≠0\/a≠0\/p:=by rw[rF,rF]
theorem iG:∀(t:T) {S V P:Sc} {s:As},t.sc V P->PC n0 S s->(∀x,t.tc x<=1)->(∀x,t.tc x≠0->¬S x)->kW n0 S V P t s ((toN t).as s):=by
 refine hM ?_;intro MM t;induction t with
 |nil=>
  intro S V P s _ h _ _
  exact⟨h.cast λx=>⟨λk=>k.resolve_left (absurd rfl),.inr⟩,.refl,λY Y Y=>rfl⟩
 |cons a b ia ib=>
  intro S V P s c h u k
  have u':∀x,a.tc x+b.tc x<=1:=u
  have k':∀x,a.tc x+b.tc x≠0->¬S x:=k
  have A:=ia c.1 h (λx=>Br (u' x)) λx z=>k' x λe=>z (cF.mp e).1
  have c8:=ib c.2 A.i (λx=>J5 (u' x)) λx z q=>q.elim (λq=>z (XU (u' x) q)) (k' x λe=>z (cF.mp e).2)
  refine⟨c8.i.cast λx=>?_,A.m.trans c8.m,λm i f=>?_⟩
  ·exact rF
  ·show N.cons ((toN a).rn _ _) ((toN b).rn _ _)=N.cons (toN _) (toN _)
   rw[A.e (c8.m.trans m) i f,c8.e m i f]
 |node h ts ih=>
  intro S V P s c i0 u k
  have A:=ih c.2 i0 u k
  have e:(UH h (toN ts)).as s=(toN ts).as s:=by induction h using jD<;>rfl
  have e':(toN (.node h ts)).as s=(toN ts).as s:=by
   show(UH h (toN ts)).as ((hN h).as s)=_
   have e0:(hN h).as s=s:=by induction h using jD<;>rfl
   rw[e0,e]
  rw[e']
  refine⟨A.i,A.m,λm i f=>?_⟩
  have q:=A.e m i f
  induction h using jD with
  |loc x=>show N.node (.loc _) ((toN ts).rn _ _)=N.node (.loc _) (toN _);rw[q,f x (.inl (c.1 x rfl))]
  |YG x=>show N.node (.YG _) ((toN ts).rn _ _)=N.node (.YG _) (toN _);rw[q,f x (.inl (c.1 x rfl))]
  |X3=>show N.node .call (.cons _ ((toN ts).rn _ _))=N.node .call (.cons _ (toN _));rw[q];rfl
  |_=>show N.node _ ((toN ts).rn _ _)=N.node _ (toN _);rw[q];rfl
 |ZZ f as ih=>
  intro S V P s c h u k
  have A:=ih c.2 h u k
  refine⟨A.i,A.m,λm i z=>?_⟩
  show ZA (.node (.loc _) .nil) ((toN as).rn _ _)=ZA (.node (.loc _) .nil) (toN _)
  rw[A.e m i z,z f (.inr c.1)]
 |app l ps r b as ib N2=>
  intro S V P s c h u k
  have u':∀x,(l::bs ps r).count x+b.tc x+as.tc x<=1:=u
  have k':∀x,(l::bs ps r).count x+b.tc x+as.tc x≠0->¬S x:=k
  refine hG ?_;intro PP
  obtain⟨h1,m1,⟨v,hv⟩,hb⟩:=NT h (λx=>Br (Br (u' x))) λx z=>k' x λe=>z (cF.mp (cF.mp e).1).1
  have c8:=ib c.2 h1 (λx=>J5 (Br (u' x))) λx z q=>q.elim (λq=>z (XU (Br (u' x)) q)) (k' x λe=>z (cF.mp (cF.mp e).1).2)
  have A:=N2 c.1 c8.i (λx=>J5 (u' x)) λx z q=>by
   rcases q with q|q|q
   ·exact z (XU (u' x) λe=>q (cF.mp e).2)
   ·exact z (XU (u' x) λe=>q (cF.mp e).1)
   ·exact k' x (λe=>z (cF.mp e).2) q
  refine⟨A.i.cast λx=>?_,m1.trans (c8.m.trans A.m),λm i f=>?_⟩
  ·exact dg
  ·have mb:=c8.m.trans (A.m.trans m)
   have eb:∀x∈bs ps r,gD _ x=As.σ _ x:=λx hx=>eE (hb x hx) λw hw=>F2 (mb.g x w hw)
   show ZA ((Zn l ps r (toN b)).rn _ _) ((toN as).rn _ _)=ZA (Zn _ _ _ (toN _)) (toN _)
   rw[A.e m i f,NS (FZ i (mb.b l v hv)) eb (c8.e (A.m.trans m) i λx z=>by
    by_cases q:x∈bs ps r
    ·exact eb x q
    ·exact f x (z.imp_left λz=>z.resolve_left q))]
 |ZT l g l' ps r b t ib it=>
  intro S V P s c h u k
  have cs:∀x,T.tc x (.ZT l g l' ps r b t)=(l::bs [g] none).count x+(l'::bs ps r).count x+b.tc x+t.tc x:=λx=>congrArg (·+b.tc x+t.tc x) (bM (l₁:=[l,g]) (l₂:=l'::bs ps r))
  have u':∀x,(l::bs [g] none).count x+(l'::bs ps r).count x+b.tc x+t.tc x<=1:=λx=>c7 (cV (cs x).symm) (u x)
  have k':∀x,(l::bs [g] none).count x+(l'::bs ps r).count x+b.tc x+t.tc x≠0->¬S x:=λx z=>k x λe=>z ((cs x).symm.trans e)
  obtain⟨h1,m1,⟨v,hv⟩,hb⟩:=NT (r:=none) (ps:=[g]) h (λx=>Br (Qy (u' x)).1.1) λx z=>k' x (Lv.1 z)
  have c8:=it c.2 h1 (λx=>J5 (u' x)) λx z q=>q.elim (λq=>z (XU (Qy (u' x)).1.1 q)) (k' x (Lv.2.2.2 z))
  obtain⟨h2,m2,⟨v',hv'⟩,hb'⟩:=NT (r:=r) (ps:=ps) c8.i (λx=>Br (Qy (u' x)).2.1) λx z q=>by
   rcases q with q|q|q
   ·exact z (XU (Qy (u' x)).1.2 λe=>q (cF.mp e).2)
   ·exact z (XU (Qy (u' x)).1.2 λe=>q (cF.mp e).1)
   ·exact k' x (Lv.2.1 z) q
  have A:=ib c.1 h2 (λx=>J5 (Qy (u' x)).2.1) λx z q=>by
   rcases q with q|q|q|q
   ·exact z (XU (Qy (u' x)).2.1 q)
   ·exact z (XU (Qy (u' x)).2.2 λe=>q (cF.mp e).2)
   ·exact z (XU (Qy (u' x)).2.2 λe=>q (cF.mp (cF.mp e).1).1)
   ·exact k' x (Lv.2.2.1 z) q
  have mA:=m2.trans A.m
  refine⟨A.i.cast λx=>?_,m1.trans (c8.m.trans mA),λm i f=>?_⟩
  ·rw[cs,dg,rF,or_left_comm,or_left_comm (a:=T.tc x t≠0)]
  ·have mb:=A.m.trans m
   have eb:∀x∈bs ps r,gD _ x=As.σ _ x:=λx hx=>eE (hb' x hx) λw hw=>F2 (mb.g x w hw)
   have mt:=c8.m.trans (mA.trans m)
   have eg:∀x∈bs [g] none,gD _ x=As.σ _ x:=λx hx=>eE (hb x hx) λw hw=>F2 (mt.g x w hw)
   show ZA ((Zn l [g] none (toN t)).rn _ _) (.cons ((Zn l' ps r (toN b)).rn _ _) .nil)=ZA (Zn _ _ _ (toN _)) (.cons (Zn _ _ _ (toN _)) .nil)
   rw[NS (FZ i (mt.b l v hv)) eg (c8.e (mA.trans m) i λx z=>by
    by_cases q:x=g
    ·exact eg x (q▸.head _)
    ·exact f x (z.imp_right λz=>z.resolve_left q)),NS (FZ i (mb.b l' v' hv')) eb (A.e m i λx z=>by
    by_cases q:x∈bs ps r
    ·exact eb x q
    ·exact f x (z.imp_left λz=>z.resolve_left q))]
   rfl
end
noncomputable abbrev Ry(m:Lm):N:=Zn m.l m.ps m.r (toN m.b)
noncomputable abbrev As.from(k:Nat):As:=⟨k,λY=>none,λY=>none⟩
theorem Bm{n0:Nat}{S:Sc}{s:As}{x v:Nat}(h:PC n0 S s)(k:s.g x=some v\/s.b x=some v):s.σ x=v:=by
 rcases k with k|k
 ·rw[<-F2 k];unfold gD;rw[k];rfl
 ·rw[<-FZ h k];unfold gD;rw[k];rfl
theorem FY(sc:m.sc V P)(u:∀x,m.tc x<=1)(z:∀x,V x\/P x->m.tc x=0):
 ∃c,LO m k c ((Ry m).as (.from k)).n/\(Ry m).rn (gD ((Ry m).as (.from k)).g) (gD ((Ry m).as (.from k)).b)=Ry c:=by
  have A:kW k (λY=>False) V P (.app m.l m.ps m.r m.b .nil) (.from k) ((Ry m).as (.from k)):=iG (.app m.l m.ps m.r m.b .nil) ⟨trivial,sc⟩ ⟨cO _,λY Y=>⟨rfl,rfl⟩,λY Y h=>(h.elim (ZE ·) (ZE ·)),(λY Y Y h=>ZE h),nofun,λY Y Y h=>(h.elim (ZE ·) (ZE ·))⟩ u λY Y h=>h
  generalize (Ry m).as (.from k)=s at A⊢
  have out:∀x,m.tc x=0->s.g x=none/\s.b x=none:=λx h=>A.i.out x λq=>q.elim (λq=>q h) id
  have e:=A.e .refl A.i λx h=>by unfold gD As.σ;rw[(out x (z x h)).2];rfl
  refine⟨m.Wu s.σ,⟨A.i.le,_,rfl,λx h=>?_,λx h=>?_,λx y hx hy e=>?_⟩,?_⟩
  ·obtain⟨v,hv⟩:=A.i.al x (.inl h)
   rw[Bm A.i hv];exact A.i.rg x v hv
  ·unfold As.σ;rw[(out x h).1,(out x h).2];rfl
  ·obtain⟨v,hv⟩:=A.i.al x (.inl hx)
   obtain⟨w,hw⟩:=A.i.al y (.inl hy)
   rw[Bm A.i hv,Bm A.i hw]at e
   exact A.i.inj x y v hv (e▸hw)
  ·injection e with _ e
   injection e
inductive Xl(f:Nat)(M:Nat->N->Nat->Prop)(s:Nat)(P:Nat->N->Prop):N->Prop
 |other {h ts}:h≠.call->P s (.node h ts)->Xl f M s P (.node h ts)
 |V7 {h ts as}:(∀x,h≠.loc x)->P s (ZA (.node h ts) as)->Xl f M s P (ZA (.node h ts) as)
 |Bl {x as}:x≠f->P s (ZA (.node (.loc x) .nil) as)->Xl f M s P (ZA (.node (.loc x) .nil) as)
 |hit {as}:(∀o s',M s o s'->P s' (ZA o as))->Xl f M s P (ZA (.node (.loc f) .nil) as)
theorem Pl.UY.app(h:UY R n cs n')(k:UY R n' ds oR):UY R n (cs++ds) oR:=λc_ z=>h (λn cs n'=>c_ n' ds oR->c_ n (cs++ds) oR) ⟨λk=>k,λr i k=>z.2 r (i k)⟩ (k c_ z)
theorem Pl.UY.all(h:UY (λn c n'=>c=m/\n'=n) n cs n'):n'=n/\∀c∈cs,c=m:=
 h (λn cs n'=>n'=n/\∀c∈cs,c=m) ⟨⟨rfl,(λY h=>xm h)⟩,λr ih=>⟨ih.1.trans r.2,λc hc=>(cJ.mp hc).elim (·▸r.1) (ih.2 c)⟩⟩
structure oQ(f:Nat)(M:Nat->N->Nat->Prop)(R:Nat->Lm->Nat->Prop)(n:Nat)(t:T)(cs:List Lm)(n':Nat)(t':T):Prop where
 s:Y9 f t cs t'
 r:UY R n cs n'
 l:cs.length=t.cc f
 e:∀P:Nat->N->Prop,P n' (toN t')->QC (λs t P=>Xl f M s P t) (toN t) n P
theorem vD(H:∀n,∃c n',R n c n'/\∀o s',M n o s'->o=Ry c/\s'=n'):∀(t:T) (n:Nat),∃cs n' t',oQ f M R n t cs n' t':=by
 refine hM ?_;intro MM t;induction t with
 |nil=>
  intro n
  exact⟨[],n,.nil,.nil,.nil,rfl,λY h=>h⟩
 |cons a b ia ib=>
  intro n
  exact
  let⟨c1,n1,a',A⟩:=ia n
  let⟨c2,n2,b',c8⟩:=ib n1
  ⟨c1++c2,n2,.cons a' b',.cons A.s c8.s,A.r.app c8.r,by rw[cS,A.l,c8.l];rfl,λP h=>A.e _ (c8.e _ h)⟩
 |node h ts ih=>
  intro n
  exact
  let⟨c1,n1,a',A⟩:=ih n
  ⟨c1,n1,.node h a',.node A.s,A.r,A.l,λP k=>by
   induction h using jD with
   |X3=>exact Xl.other (xH · rfl) (A.e _ (.V7 (λY h=>xH h rfl) k))
   |_=>exact A.e _ (.other (xH · rfl) k)⟩
 |app l ps r b as ib N2=>
  intro n
  exact
  let⟨c1,n1,a',A⟩:=ib n
  let⟨c2,n2,b',c8⟩:=N2 n1
  ⟨c1++c2,n2,.app l ps r a' b',.app A.s c8.s,A.r.app c8.r,by rw[cS,A.l,c8.l];rfl,λP k=>A.e _ (Xl.other (xH · rfl) (c8.e _ (.V7 (λY h=>xH h rfl) k)))⟩
 |ZT l g l' ps r b t ib it=>
  intro n
  exact
  let⟨c1,n1,a',A⟩:=it n
  let⟨c2,n2,b',c8⟩:=ib n1
  ⟨c1++c2,n2,.ZT l g l' ps r b' a',.ZT A.s c8.s,A.r.app c8.r,by rw[cS,A.l,c8.l];rfl,λP k=>A.e _ (Xl.other (xH · rfl) (c8.e _ (Xl.other (xH · rfl) (.V7 (λY h=>xH h rfl) k))))⟩
 |ZZ g as ih=>
  intro n
  refine hG ?_;intro PP
  obtain⟨c1,n1,a',A⟩:=ih n
  by_cases q:g=f
  ·subst q
   refine hG ?_;intro PP
   obtain⟨c,n2,r,z⟩:=H n1
   refine⟨c1++[c],n2,c.on a',.hit c A.s,A.r.app (.cons r .nil),?_,λP k=>Xl.other (xH · rfl) (A.e _ (.hit λo s' hM=>?_))⟩
   ·rw[cS,A.l]
    show _=(bif cZ g g then 1 else 0)+as.cc g
    rw[bY,aH];rfl
   ·obtain⟨rfl,rfl⟩:=z o s' hM
    exact k
  ·refine⟨c1,n1,.ZZ g a',.ZZ q A.s,A.r,?_,λP k=>Xl.other (xH · rfl) (A.e _ (.Bl q k))⟩
   rw[A.l]
   show _=(bif cZ g f then 1 else 0)+as.cc f
   rw[beq_false q];exact(a_ _).symm
abbrev SH(tx:Ad->Prop)(U:US):Prop:=∀a,tx a->U a≠none
theorem Zf.tx{tx D:Ad->Prop}{U U':US}(f:Zf D U U')(h:SH tx U):SH tx U':=λa t=>f.on a (h a t)
section
variable{m f:Nat}{tx:Ad->Prop}{own:N}
theorem FU(ho:own.Zw=true)(wo:own.wf)(co:own.cs tx):V8 (m+2) (.bm 360 (.inst 44 [fO f,own.av])) tx WI (λ(_:Nat) U=>SH tx U) (λs t P=>Xl f (λn o n'=>o=own/\n'=n) s P t):=by
 refine⟨λ{s t P U Q E} he hw hc hr hs q=>?_,λh k a t=>k.2 a (h a t),λY d=>d.elim,λh t=>h _ t⟩
 have same:∀{t},P s t->t.Zw=true->t.wf->t.cs tx->Q t.av U:=λp a b c=>q s _ U p a b c hs .refl
 cases hr with
 |@other h ts hn p=>exact go (XW h ts.ZS (Z2 (b:=cZ h.kind 8) (WT hn) (same p rfl hw hc)))
 |@V7 h ts as hl p=>exact go (XW h ts.ZS (Z2 (b:=cZ h.kind 1) (UJ hl) (same p rfl hw hc)))
 |@Bl x as hx p=>exact go (Z2 (b:=cZ x f) (beq_false hx) (same p rfl hw hc))
 |@hit as p=>
  have s:=same (p own s ⟨rfl,rfl⟩) rfl ⟨by show Zw0 1 (as.len+own.len)=true;rw[(ZP ho).2];exact br (cj _ _),wo,hw.2.2⟩ ⟨trivial,co,hc.2.2⟩
  have s:Q (H.call.av (own.ZS++as.ZS)) U:=s
  rw[(ZP ho).1]at s
  exact go (Zu (b:=cZ f f) (bY f) (UN s))
def KI(w:Wp)(x:Ad):Prop:=x=w.a\/x=w.d\/x=w.p
theorem Wo.PD(h:Wo w n U)(k:GW (KI w) U U'):Wo w n U':=⟨(k.1 _ (.inl rfl)).trans h.o,(k.1 _ (.inr (.inl rfl))).trans h.f,(k.1 _ (.inr (.inr rfl))).trans h.p⟩
theorem Wo.foot(h:Wo w n U)(k:KI w x):U x≠none:=by
 rcases k with rfl|rfl|rfl
 ·rw[h.o];exact cG _
 ·rw[h.f];exact cG _
 ·rw[h.p];exact cG _
def oP(own:N)(n:Nat)(o:N)(n':Nat):Prop:=o=own.rn (gD (own.as (.from n)).g) (gD (own.as (.from n)).b)/\n'=(own.as (.from n)).n
theorem J3:∀(t:N),(t.rn g b).len=t.len/\(t.wf->(t.rn g b).wf)/\(t.cs tx->(t.rn g b).cs tx):=by
 refine hM ?_;intro MM t;induction t with
 |node h ts ih=>
  obtain⟨l,w,c⟩:=ih
  refine⟨rfl,λk=>⟨?_,w k.2⟩,λk=>⟨?_,c k.2⟩⟩
  ·rw[l];induction h using jH<;>exact k.1
  ·induction h using jH<;>exact k.1
 |nil=>
  exact⟨rfl,id,id⟩
 |cons a c ia ic=>
  obtain⟨l,w,k⟩:=ia
  obtain⟨l',w',k'⟩:=ic
  exact⟨by show(c.rn g b).len+(a.rn g b).len=c.len+a.len;rw[l,l'],λz=>⟨w z.1,w' z.2⟩,λz=>⟨k z.1,k' z.2⟩⟩
theorem Lu(ho:own.Zw=true)(wo:own.wf)(co:own.cs tx)(hz:2*own.sz+1<LN):V8 (m+6) (.bm 365 (.inst 47 [fO f,own.av,.ref w.a])) tx (KI w) (λn U=>Wo w n U/\SH tx U) (λs t P=>Xl f (oP own) s P t):=by
 refine⟨λ{s t P U Q E} he hw hc hr hs q=>?_,λh k=>⟨h.1.PD k,λa t=>k.2 a (h.2 a t)⟩,λh d=>h.1.foot d,λh t=>h.2 _ t⟩
 have same:∀{t},P s t->t.Zw=true->t.wf->t.cs tx->Q t.av U:=λp a b c=>q s _ U p a b c hs .refl
 cases hr with
 |@other h ts hn p=>exact go (XW h ts.ZS (Z2 (b:=cZ h.kind 8) (WT hn) (same p rfl hw hc)))
 |@V7 h ts as hl p=>exact go (XW h ts.ZS (Z2 (b:=cZ h.kind 1) (UJ hl) (same p rfl hw hc)))
 |@Bl x as hx p=>exact go (Z2 (b:=cZ x f) (beq_false hx) (same p rfl hw hc))
 |@hit as p=>
  refine go (Zu (b:=cZ f f) (bY f) ⟨rfl,F3 (tx:=tx) ho wo co hz hs.2 hs.1 λU' hW hF=>UN ?_⟩)
  obtain⟨k1,k2,k3⟩:=J3 (g:=gD (own.as (.from s)).g) (b:=gD (own.as (.from s)).b) (tx:=tx) own
  have e:(own.rn (gD (own.as (.from s)).g) (gD (own.as (.from s)).b)).Zw=true:=by induction own using jM<;>first|rfl|exact Zv ho
  have z:=q _ _ U' (p _ _ ⟨rfl,rfl⟩) rfl ⟨by show Zw0 1 (as.len+(own.rn _ _).len)=true;rw[(ZP e).2];exact br (cj _ _),k2 wo,hw.2.2⟩ ⟨trivial,k3 co,hc.2.2⟩ ⟨hW,hF.tx hs.2⟩ (hF.mono λx k=>.inr (.inl k))
  have z:Q (H.call.av ((own.rn _ _).ZS++as.ZS)) U':=z
  rw[(ZP e).1]at z
  exact z
end
structure Fa(p:Nat->Ad)(cl:Nat->Nat)(U:US):Prop where
 o:U (p 0)=some (.inst 40 (p 1))
 f:U (p 1)=some (.fields [(29,.ref (p 2)),(31,.ref (p 3)),(37,.ref (p 4)),(36,.ref (p 5)),(79,.ref (p 6)),(34,.ref (p 7)),(38,.ref (p 8)),(35,.ref (p 9)),(32,.ref (p 10)),(33,.ref (p 11))])
 r:∃es,U (p 2)=some (.di es)/\∀k,∃n,(Zr es k).getD (fO 0)=fO n
 s:∃es,U (p 3)=some (.di es)/\∀k,∃n,(Zr es k).getD (fO 0)=fO n
 c:∃es,U (p 4)=some (.di es)/\∀x,(Zr es (.ofNat x)).getD (fO 0)=fO (cl x)
def FT(p:Nat->Ad)(x:Ad):Prop:=∃i,i<5/\x=p i
section
variable{p:Nat->Ad}{YB:Int->Option Ad}{U0 U U':US}{F:Gh}{cl:Nat->Nat}{c n m f:Nat}{tx D:Ad->Prop}{Q:fP}{E:US->Prop}
theorem FS.fa(h:FS p U0 F c U):Fa p F.cl U:=
 eE h λ_ h=>eE (h.d 2 (by decide) (by decide)) λxr Z=>aE Z λa2 Z=>aE Z λ_ b2=>eE (h.d 3 (by decide) (by decide)) λiF Z=>aE Z λa3 Z=>aE Z λ_ b3=>let⟨iE,a4,_,b4⟩:=h.d 4 (by decide) (by decide)
 ⟨h.o,h.f,⟨xr,a2,b2 (by decide) (by decide)⟩,⟨iF,a3,b3 (by decide) (by decide)⟩,⟨iE,a4,b4⟩⟩
theorem Fa.PD(h:Fa p cl U)(k:GW (FT p) U U'):Fa p cl U':=
 ⟨(k.1 _ ⟨0,by decide,rfl⟩).trans h.o,(k.1 _ ⟨1,by decide,rfl⟩).trans h.f,eE h.r λes Z=>aE Z λa b=>⟨es,(k.1 _ ⟨2,by decide,rfl⟩).trans a,b⟩,eE h.s λes Z=>aE Z λa b=>⟨es,(k.1 _ ⟨3,by decide,rfl⟩).trans a,b⟩,eE h.c λes Z=>aE Z λa b=>⟨es,(k.1 _ ⟨4,by decide,rfl⟩).trans a,b⟩⟩
theorem Fa.foot(h:Fa p cl U)(k:FT p x):U x≠none:=by
 have n:∀{a:Ad} {o},U a=some o->U a≠none:=λe=>by rw[e];exact cG _
 obtain⟨i,hi,rfl⟩:=k
 induction i using jN with|zero=>exact n h.o|succ i=>
 induction i using jN with|zero=>exact n h.f|succ i=>
 induction i using jN with|zero=>exact h.r.elim λes a=>n a.1|succ i=>
 induction i using jN with|zero=>exact h.s.elim λes a=>n a.1|succ i=>
 induction i using jN with|zero=>exact h.c.elim λes a=>n a.1|succ i=>exact absurd hi (Zx3.mpr (cj 5 i))
theorem MP(h:Fa p cl U)(q:∀r,Q (.bool r) U):Z8 (n+1) 353 [.ref (p 0),fO x] Q E U:=by
 obtain⟨es,a,b⟩:=h.s
 obtain⟨k,hk⟩:=b (.ofNat x)
 refine go (ZX h.o (ZY h.f (Z3 a (Z3 a ?_))))
 show Vz ((Zr es (.ofNat x)).getD (fO 0)) _
 rw[hk];exact q _
theorem J2(h:Fa p cl U)(q:∀k,Q (fO k) U):Z8 (n+1) 355 [.ref (p 0),fO x] Q E U:=by
 obtain⟨es,a,b⟩:=h.r
 obtain⟨k,hk⟩:=b (.ofNat x)
 refine go (ZX h.o (ZY h.f (Z3 a (Z3 a ?_))))
 show Q ((Zr es (.ofNat x)).getD (fO 0)) U
 rw[hk];exact q _
theorem Pc(h:Fa p cl U)(q:Q (fO (cl x)) U):Z8 (n+1) 356 [.ref (p 0),fO x] Q E U:=by
 obtain⟨es,a,b⟩:=h.c
 refine go (ZX h.o (ZY h.f (Z3 a (Z3 a ?_))))
 show Q ((Zr es (.ofNat x)).getD (fO 0)) U
 rw[b];exact q
theorem Bk(h:Fa p cl U)(q:∀r,(r=true->cl x=1)->Q (.bool r) U):Z8 (n+2) 362 [.inst 45 [.ref (p 0)],fO x] Q E U:=by
 refine go (ZX h.o (ZY h.f (MP h λr=>?_)))
 induction r using jB with
 |true=>exact q false (Zv ·)
 |false=>
  refine ZX h.o (ZY h.f (J2 h λk=>ZC (!cZ k 1) (λY=>q false (Zv ·)) λY=>ZX h.o (ZY h.f (Pc h (q _ λe=>cW e)))))
theorem Rf(hg:U g=some (.di es))(hf:(Zr es (.ofNat f)).isSome=true)(q:∀U',Zf WI U U'->Q body U'):Z8 (n+1) 22 [UI (.inst 9 [l,.lst [fO f],r,b]) [x],.ref g,body] Q E U:=by
 refine go λa1 h1 a2 h2=>?_
 have ne:a1≠a2:=λe=>by rw[<-e,Z_]at h2;exact XD h2
 have e2:U a2=none:=by rwa [Z9 ne.symm]at h2
 refine Z3 ((Z9 (ZI hg e2 (XD ·))).trans ((Z9 (ZI hg h1 (XD ·))).trans hg)) (Z2 (b:=!(Zr es (.ofNat f)).isSome) (by rw[hf];rfl) ⟨ZJ ((Z9 ne).trans Z_) (q _ ((Zf.refl.new h1).new e2))⟩)
def NL(xs:List AV):Prop:=∀v∈xs,∃(h:H) (ys:List AV),v=h.av ys/\∀l ps r,h≠.lam l ps r
inductive Tu(cl:Nat->Nat)(P:Unit->N->Prop):N->Prop
 |other {h ts}:h≠.call->P () (.node h ts)->Tu cl P (.node h ts)
 |V7 {h ts as}:(∀l ps r,h≠.lam l ps r)->P () (ZA (.node h ts) as)->Tu cl P (ZA (.node h ts) as)
 |plain {l ps r b as}:b.Zw=true->NL as.ZS->P () (ZA (Zn l ps r b) as)->Tu cl P (ZA (Zn l ps r b) as)
 |ZT {l f b l' ps r p}:b.Zw=true->p.Zw=true->2*b.sz+1<LN->P () (ZA (Zn l [f] none b) (.cons (Zn l' ps r p) .nil))->
  (cl f=1->QC (λs t P=>Xl f (λn o n'=>o=Zn l' ps r p/\n'=n) s P t) b 0 λY t'=>P () t')->Tu cl P (ZA (Zn l [f] none b) (.cons (Zn l' ps r p) .nil))
noncomputable def iD:S:=wK.Z5.Z5.Z5.body
theorem J1:∀(ps as:List AV) {x4 x5:Option AV},NL as->(∀x4 x5,QQ none [x0,x1,x2,x3,x4,x5] U)->Zc [4,5] (λQ' L U1=>wpS C iD Q' E' L U1) QQ (Pk ps as) [x0,x1,x2,x3,x4,x5] U
 |[],_,_,_,_,q=>q _ _
 |_::_,[],_,_,_,q=>q _ _
 |p::ps,a::as,_,_,h,q=>by
  obtain⟨g,ys,rfl,hn⟩:=h a (.head _)
  exact XW g ys (Z2 (b:=cZ g.kind 7) (UK hn) (J1 ps as (λv m=>h v (.tail _ m)) q))
theorem vC(q:Q (.inst 44 [x,y]) U):RA (Z8 (n+1)) 44 [x,y] Q E U:=
 Xm λY Y hne ha hd=>QH (UP hne rfl rfl rfl rfl (UP hne rfl rfl rfl rfl ⟨rfl,YT hne ha hd rfl q⟩))
theorem Bj:V8 (m+6) (.bm 363 (.inst 45 [.ref (p 0)])) tx (FT p) (λ(_:Unit) U=>Fa p cl U/\SH tx U) (λY t P=>Tu cl P t):=by
 refine⟨λ{s t P U Q E} he hw hc hr hs q=>?_,λh k=>⟨h.1.PD k,λa t=>k.2 a (h.2 a t)⟩,λh d=>h.1.foot d,λh t=>h.2 _ t⟩
 have same:∀{t},P s t->t.Zw=true->t.wf->t.cs tx->Q t.av U:=λp a b c=>q s _ U p a b c hs .refl
 have nw:∀{g:Ad} {o:AO},U g=none->Fa p cl (upd U g (some o))/\SH tx (upd U g (some o)):=λ{g o} hg=>have k:GW (FT p) U (upd U g (some o)):=.upd λz=>hs.1.foot z hg;⟨hs.1.PD k,λa t=>k.2 a (hs.2 a t)⟩
 cases hr with
 |@other h ts hn p=>exact go ⟨rfl,Ke hn (same p rfl hw hc)⟩
 |@V7 h ts as hl p=>exact go ⟨rfl,NY hl (same p rfl hw hc)⟩
 |@plain l ps r b as hb nl p=>
  have s0:=same p rfl hw hc
  have s1:=λ{g:Ad} (hg:U g=none)=>q s _ (upd U g (some (.di []))) p rfl hw hc (nw hg) (Zf.refl.new hg)
  rw[WH hb]at s0 s1⊢
  refine go ⟨rfl,XQ ?_⟩
  induction eK ps r as.ZS.length using jB with
  |false=>exact s0
  |true=>exact⟨rfl,[],rfl,rfl,.nil,λg hg=>J1 (fN ps) as.ZS nl λx4 x5=>⟨Z3 Z_ (s1 hg)⟩⟩
 |@ZT l f b l' ps r b' hb hb' hz k1 k2=>
  have s1:=λ{g:Ad} (hg:U g=none)=>q s _ (upd U g (some (.di []))) k1 rfl hw hc (nw hg) (Zf.refl.new hg)
  rw[WH hb]at s1⊢
  refine go ⟨rfl,XQ ⟨rfl,[],rfl,rfl,.nil,λg hg=>Bk (nw hg).1 λr0 hr=>?_⟩⟩
  induction r0 using jB with
  |false=>exact⟨Z3 Z_ (s1 hg)⟩
  |true=>
   refine Z3 Z_ ⟨cL rfl,?_⟩
   rw[Zt]
   have h1:=nw (o:=.di (fJ [] (.ofNat f) (.bool true))) hg
   refine vC ⟨rfl,?_⟩
   have wl:(Zn l' ps r b').wf:=hw.2.2.1
   refine XV (FU (own:=Zn l' ps r b') rfl wl hc.2.2.1) hb hw.2.1.2.1 hc.2.1.2.1 hz h1.2 (k2 (hr rfl)) λs' t' U2 k he' Oa hc' hs' f'=>⟨Z3 (f'.at Z_ id) ⟨rfl,Rf (f'.at Z_ id) ?_ λU3 f3=>?_⟩⟩
   ·show(bif XI (.ofNat f) (.ofNat f)then some _ else none).isSome=true
    rw[Yy.mpr rfl];rfl
   ·have f2:=f'.trans f3
    exact q _ _ U3 k he' Oa hc' ⟨h1.1.PD ⟨λa d=>f2.eq a id (h1.1.foot d),f2.on⟩,f2.tx h1.2⟩ ((Zf.refl.new hg).trans (f2.mono λY z=>z.elim))
end
section
variable{p:Nat->Ad}{U0 U U':US}{F:Gh}{c n m c_:Nat}{tx:Ad->Prop}{t:N}{Q:fP}{E:US->Prop}
theorem vB(q:Q (.inst 45 [x]) U):RA (Z8 (n+1)) 45 [x] Q E U:=
 Xm λY Y hne ha hd=>QH (UP hne rfl rfl rfl rfl ⟨rfl,YT hne ha hd rfl q⟩)
theorem FS.Rz(h:FS p U F c U0)(f:Zf (FT p) U0 U'):Zf WI U U':=by
 obtain⟨_,h⟩:=h
 refine⟨λa z=>f.on a (h.fr.on a z),λa n z=>(f.eq a (λk=>?_) (h.fr.on a z)).trans (h.fr.eq a n z)⟩
 obtain⟨i,hi,rfl⟩:=k
 exact z (h.z i (aM hi))
theorem Ls(he:t.Zw=true)(hw:t.wf)(hc:t.cs tx)(ok:dY c_ t F0 (.negSucc 0))(hz:2*t.sz+1<LN)(hn:c_*t.nn<LN)(hs:SH tx U)(hr:QC (λY u P=>Tu (WS t F0 (.negSucc 0)).cl P u) t () P)
 (q:∀t' U',P () t'->t'.Zw=true->t'.wf->t'.cs tx->Zf WI U U'->Q t'.av U'):Z8 (m+8) 46 [t.av] Q E U:=by
  refine go ⟨rfl,MR (n:=m+3) he hw ok (Z7 hz) hn λp U1 h=>vB ⟨rfl,?_⟩⟩
  refine hG ?_;intro PP
  obtain⟨_,h'⟩:=id h
  have G:=Bj (p:=p) (m:=m) (tx:=tx) (cl:=(WS t F0 (.negSucc 0)).cl)
  refine XV (m:=m+4) (s:=()) (P:=P) G he hw hc hz ⟨h.fa,h'.fr.tx hs⟩ hr λY t' U2 k a b c hH f=>q t' U2 k a b c (h.Rz f)
end
noncomputable def NR(g:Nat):List Lm->Nat
 |[]=>0
 |m::r=>m.b.cc g+NR g r
theorem UD:∀(a b:List Lm),NR g (a++b)=NR g a+NR g b
 |[],b=>(a_ _).symm
 |m::a,b=>by show m.b.cc g+NR g (a++b)=m.b.cc g+NR g a+NR g b;rw[UD a b,aZ]
theorem Bh{a b c d a' b':Nat}(h:a'<=a+c)(k:b'<=b+d):a'+b'<=a+b+(c+d):=Z7 h (Z7 k)
theorem Bg{f g:Nat}{t t':T}{cs:List Lm}(h:Y9 f t cs t'):t'.cc g<=t.cc g+NR g cs:=by
 refine h (λt cs t'=>t'.cc g<=t.cc g+NR g cs) ⟨λih=>ih,λi j=>?_,λi j=>?_,λ{as c as'} m ih=>?_,λ{g' as c as'} Y ih=>?_,cO _,λi j=>?_⟩
 ·show _<=_+NR g (_++_);rw[UD];exact Bh i j
 ·show _<=_+NR g (_++_);rw[UD];exact Bh i j
 ·show _<=_+NR g (_++_)
  rw[UD]
  show m.b.cc g+as'.cc g<=(bif cZ f g then 1 else 0)+as.cc g+(NR g c+(m.b.cc g+0))
  exact Z7 ih
 ·show(bif cZ g' g then 1 else 0)+as'.cc g<=(bif cZ g' g then 1 else 0)+as.cc g+NR g c
  exact Z7 ih
 ·show _<=_+NR g (_++_);rw[UD];exact Bh i j
section
variable{n:Nat}{V P:Sc}{l f l':Nat}{ps:List Nat}{r:Option Nat}{b t as:T}
theorem S8(i:Iv n V P (.app l ps r b as)):Iv n (λx=>x∈bs ps r\/V x) P b:=i.in (l::bs ps r) i.sc.2 i.w.1.2.1 (λY=>cR _ _) λY z=>z.elim (λz=>z.imp (.tail _) .inl) λz=>.inr (.inr z)
theorem Qu(i:Iv n V P (.app l ps r b as)):Iv n V P as:=i.part i.sc.1 i.w.2.2 λY=>cj _ _
theorem Qt(i:Iv n V P (.ZT l f l' ps r b t)):Iv n V (λx=>x=f\/P x) t:=
 i.in (l::f::l'::bs ps r) i.sc.2 i.w.2.2 (λY=>bx (cR _ _) _) λY z=>z.elim (λz=>.inr (.inl z)) λz=>z.elim (λz=>.inl (z▸.tail _ (.head _))) λz=>.inr (.inr z)
theorem Qs(i:Iv n V P (.ZT l f l' ps r b t)):Iv n (λx=>x∈bs ps r\/V x) P b:=
 i.in (l::f::l'::bs ps r) i.sc.1 i.w.1.2.1 (λY=>cR _ _) λY z=>z.elim (λz=>z.imp (λz=>.tail _ (.tail _ (.tail _ z))) .inl) λz=>.inr (.inr z)
theorem MO(i:Iv n V P (.cons h t)):Iv n V P h:=i.part i.sc.1 i.w.1.2 λY=>cR _ _
theorem JZ(i:Iv n V P (.cons h t)):Iv n V P t:=i.part i.sc.2 i.w.2.2 λY=>cj _ _
end
theorem vA:t.Zw=false->t.wf->NL (toN t).ZS:=by
 induction t with
 |nil=>exactλY Y Y h=>xm h
 |cons h t i j=>
  refineλY w v m=>(bX.mp m).elim (λm=>?_) λm=>j w.2.1 w.2.2 v m
  clear i j
  induction h using jT with
  |nil|cons=>exact Zv w.1.1
  |node hd ts=>obtain rfl:=cP.mp m;exact⟨_,_,rfl,λY Y Y=>by induction hd using jD<;>exact(xH · rfl)⟩
  |_=>obtain rfl:=cP.mp m;exact⟨_,_,rfl,λY Y Y=>(xH · rfl)⟩
 |_=>exactλe=>Wf e
abbrev Sm(t:T):Prop:=∃B:Env,8*(fQ t B).n+5<=3000
theorem Qq{h:Pl.Hd}{ts:T}(s:Sm (.node h ts)):Sm ts:=s.imp λB z=>c7 (bx (aX 8 (cR _ h.w)) 5) z
theorem CT{t t':T}{n n':Nat}{V P:Sc}(k:Pl.Kept n n' V P t t')(i:Iv n V P t)(h:Sm t):2*(toN t').sz+1<LN:=by
 obtain⟨B,h⟩:=h
 have a:=C3 t' (k.wl.w i.w) B
 have b:=(k.le B).l
 have c:(match t'.Zw with|true=>5|false=>0)<=5:=by induction t'.Zw using jB<;>decide
 exact cD (cu (aX 2 (c7 a (c7 (aU (aX 8 b) c) h)))) (by rw[Uj];decide)
theorem Bf{α:Type}{m:α}{cs:List α}(h:∀c∈cs,c=m)(l:cs.length<=1):cs=[]\/cs=[m]:=by
 induction cs using jL with
 |nil=>exact .inl rfl
 |cons c r=>induction r using jL with
  |nil=>exact .inr (by rw[h c (.head _)])
  |cons d r=>exact absurd (Zy1 l) (Zu8 _)
theorem oO{cl:Nat->Nat}(t:T){n:Nat}{V P:Sc}{Pr:Unit->N->Prop}(i:Iv n V P t)(hc:∀f,t.cc f<=cl f)(s:Sm t)(q:∀t',Pass LJ t n t' n->(∀f,t'.cc f<=t.cc f)->Pr () (toN t')):QC (λY u P=>Tu cl P u) (toN t) () Pr:=by
 have oM:∀{x y z:Nat->Nat},(∀f,x f+y f<=z f)->∀f,x f<=z f:=λh f=>c7 (cR _ _) (h f)
 have rE:∀{x y z:Nat->Nat},(∀f,x f+y f<=z f)->∀f,y f<=z f:=λh f=>c7 (cj _ _) (h f)
 induction t generalizing n V P Pr with
 |nil=>exact q _ .nil λY=>cO _
 |cons a b ja jb=>
  obtain⟨B,hs⟩:=s
  have hs:8*((fQ a B).n+(fQ b B).n+1)+5<=3000:=hs
  have hc:∀f,a.cc f+b.cc f<=cl f:=hc
  exact ja (MO i) (oM hc) ⟨B,Z7 hs⟩ λa' p1 c1=>jb (JZ i) (rE hc) ⟨B,Z7 hs⟩ λb' p2 c2=>q _ (.cons p1 p2) λf=>aU (c1 f) (c2 f)
 |node h ts j=>
  have I:Iv n V P ts:=i.part i.sc.2 i.w.2.2 λY=>cO _
  induction h using jD with
  |X3=>exact Tu.other (xH · rfl) (j I hc (Qq s) λt' p c=>.V7 (λY Y Y h=>xH h rfl) (q _ (.node p) c))
  |_=>exact j I hc (Qq s) λt' p c=>.other (xH · rfl) (q _ (.node p) c)
 |ZZ f as j=>
  obtain⟨B,hs⟩:=s
  have hc:∀g,(bif cZ f g then 1 else 0)+as.cc g<=cl g:=hc
  have hs:8*((fQ as B).n+Pl.YD (B f))+5<=3000:=hs
  have I:Iv n V P as:=i.part i.sc.2 i.w.2 λY=>cO _
  exact Tu.other (xH · rfl) (j I (rE hc) ⟨B,Z7 hs⟩ λt' p c=>.V7 (λY Y Y h=>xH h rfl) (q _ (.ZZ p) λg=>aP (c g) _))
 |app l ps r b as jb ja=>
  obtain⟨B,hs⟩:=s
  have hc:∀f,b.cc f+as.cc f<=cl f:=hc
  have hs:8*((fQ as B).n+((fQ b (Pl.envOf B ps r 0)).n+Pl.rr r))+5<=3000:=hs
  have ia:=Qu i
  have ib:=S8 i
  refine jb ib (oM hc) ⟨Pl.envOf B ps r 0,Z7 hs⟩ λb' p1 c1=>Tu.other (xH · rfl) (ja ia (rE hc) ⟨B,Z7 hs⟩ λas' p2 c2=>?_)
  have k1:=WX p1 ib
  have k2:=WX p2 ia
  exact .plain (toN_E (k1.wl.e.trans i.w.1.1)) (vA (k2.wl.e.trans i.w.2.1) (k2.wl.w ia.w)) (q _ (.app p1 p2) λf=>aU (c1 f) (c2 f))
 |ZT l f l' ps r b t jb jt=>
  obtain⟨B,hs⟩:=s
  have hc:∀f,t.cc f+b.cc f<=cl f:=hc
  have hs:8*((fQ t (B.put f (Lm.Yd ⟨l',ps,r,b⟩ B))).n+((fQ b (Pl.envOf B ps r 0)).n+Pl.rr r)+1)+5<=3000:=hs
  have it:=Qt i
  have ib:=Qs i
  have st:Sm t:=⟨B.put f (Lm.Yd ⟨l',ps,r,b⟩ B),Z7 hs⟩
  refine jt it (oM hc) st λt' p1 c1=>Tu.other (xH · rfl) (jb ib (rE hc) ⟨Pl.envOf B ps r 0,Z7 hs⟩ λb' p2 c2=>Tu.other (xH · rfl) ?_)
  have k1:=WX p1 it
  have k2:=WX p2 ib
  refine .ZT (toN_E (k1.wl.e.trans i.w.2.1)) (toN_E (k2.wl.e.trans i.w.1.1)) (CT k1 it st) (q _ (.ZT p1 p2) λg=>aU (c1 g) (c2 g)) λonce=>?_
  obtain⟨cs,n',t2,C⟩:=vD (f:=f) (M:=λn o n'=>o=Ry ⟨l',ps,r,b'⟩/\n'=n) (R:=λn c n'=>c=⟨l',ps,r,b'⟩/\n'=n) (λn=>⟨_,n,⟨rfl,rfl⟩,λY Y h=>h⟩) t' 0
  have one:=Bf C.r.all.2 (by rw[C.l];exact c7 (c1 f) (c7 (cR _ _) (once▸hc f)))
  refine C.e _ (q t2 (.gone p1 p2 ⟨rfl,one⟩ C.s) λg=>c7 (Bg C.s) (aU (c1 g) (c7 ?_ (c2 g))))
  rcases one with rfl|rfl
  ·exact bV _
  ·exact cO _
theorem FQ(w:t.wf)(h:Sm t):(toN t).sz<=3000:=by
 obtain⟨B,h⟩:=h
 have a:=C3 t w B
 have c:(match t.Zw with|true=>5|false=>0)<=5:=by induction t.Zw using jB<;>decide
 exact c7 a (c7 (aP c _) h)
theorem Lr(he:t.Zw=true)(i:Iv n (λY=>False) (λY=>False) t)(hs:Sm t)(hc:(toN t).cs tx)(ht:SH tx U)
 (q:∀t' U',Pass LJ t n t' n->(toN t').cs tx->Zf WI U U'->Q (toN t').av U'):Z8 (m+8) 46 [(toN t).av] Q E U:=by
  have z:=FQ i.w hs
  have zn:=c7 (J6 (toN t)) z
  have L:LN=10000000:=rfl
  obtain⟨ok,fe⟩:=kZ (c_:=3006) (d:=0) t (F:=F0) (l:=.negSucc 0) i.sc i.w i.u (λY h=>(h.elim id id).elim) (λY Y=>rfl) (λY h=>(h.elim id id).elim) (Z7 zn)
  refine Ls (P:=λY u=>(∃t',Pass LJ t n t' n/\u=toN t')) (toN_E he) (toN_wf i.w) hc ok (Z7 z (Z7 z (Z7 (cV L.symm)))) (cD (aX 3006 zn) (by decide)) ht (oO t i (λf=>by rw[fe.cl];exact cj _ _) hs λt' p Y=>⟨t',p,rfl⟩) λu U' Z Y Y c f=>eE Z λt' Z=>aE Z λp e=>?_
  subst e;exact q t' U' p c f
def WG(td:Ad->Option Ad)(U:US):Prop:=∀a d,td a=some d->U a=some (.inst 31 d)/\∃fs,U d=some (.fields fs)
def tx(td:Ad->Option Ad)(a:Ad):Prop:=∃d,td a=some d
def JY(td:Ad->Option Ad)(x:Ad):Prop:=∃a d,td a=some d/\(x=a\/x=d)
section
variable{td:Ad->Option Ad}{U U':US}{n:Nat}{Q:fP}{E:US->Prop}
theorem WG.ok(h:WG td U):SH (tx td) U:=λa Z=>eE Z λd e=>by rw[(h a d e).1];exact cG _
theorem WG.foot(h:WG td U)(k:JY td x):U x≠none:=by
 obtain⟨a,d,e,rfl|rfl⟩:=k
 ·rw[(h _ _ e).1];exact cG _
 ·obtain⟨fs,k⟩:=(h _ _ e).2;rw[k];exact cG _
theorem WG.PD(h:WG td U)(k:GW (JY td) U U'):WG td U':=λa d e=>⟨(k.1 _ ⟨a,d,e,.inl rfl⟩).trans (h a d e).1,eE ((h a d e).2) λfs z=>⟨fs,(k.1 _ ⟨a,d,e,.inr rfl⟩).trans z⟩⟩
theorem Pb:∀(js:List Nat),XG U (.str i) (js.map .str)=some (js.any (cZ · i))
 |[]=>rfl
 |j::js=>by
  show(some (cZ j i)).bind (λr=>(XG U (.str i) (js.map .str)).map (r||·))=_
  rw[Pb js];rfl
theorem Pa:∀js:List Nat,VT U (js.map .str)=true
 |[]=>rfl
 |_::js=>Pa js
theorem FP(js:List Nat)(q:K (js.any (cZ · i))):UW (.str i) (.tup (js.map .str)) K U:=by
 unfold UW;exact⟨rfl,Pa js,XZ (Pb js) q⟩
theorem Be(hs:WG td U)(hv:CV (tx td) v)(q:∀k,Q (.str k) U):Z8 (n+1) 38 [v] Q E U:=by
 induction v using jV with
 |bool=>exact go (Z4 (q _))
 |int=>exact go (Z4 (Z4 (Z4 (Z4 (Z4 (Z4 (Z4 (Z4 (Z4 (Z4 (Z4 (q _))))))))))))
 |g k=>obtain rfl:k=24:=hv;exact go (Z4 (Z4 (Z4 (Z4 (q _)))))
 |ref a=>
  refine hG ?_;intro PP
  obtain⟨d,e⟩:=hv
  obtain⟨e1,fs,e2⟩:=hs a d e
  have ty:∀{K:List Nat->Prop},K [31]->Kl U (.ref a) K:=λ{K} k=>Z4<|by show BN U a K;unfold BN;constructor;rw[e1];exact⟨rfl,ZY e2 k⟩
  exact go (ty (ty (ty (ty (ty (ty (q _)))))))
 |_=>exact hv.elim
theorem Bc(hs:WG td U)(hv:CV (tx td) v)(q:∀r,Q (.bool r) U):Z8 (n+2) 39 [v] Q E U:=go ⟨rfl,Be hs hv λY=>FP [15,26,17,19,27,28] (q _)⟩
theorem Qp{tx:Ad->Prop}:∀{t:N},t.cs tx->∀v∈t.all,∃(h:H) (xs:List AV),v=h.av xs/\h.cs tx
 |.node _ _,c,v,m=>(cJ.mp m).elim (λe=>⟨_,_,e,c.1⟩) (Qp c.2 v)
 |.cons _ _,c,v,m=>(bX.mp m).elim (Qp c.1 v) (Qp c.2 v)
noncomputable def iC:S:=lV.Z5.Z5.body
theorem JX:∀(vs:List AV) {x2:Option AV},WG td U->(∀v∈vs,∃(h:H) (xs:List AV),v=h.av xs/\h.cs (tx td))->(∀x2,QQ none [x0,x1,x2] U)->(∀L,QQ (some (.bool false)) L U)->Zc [2] (λQ' L U1=>wpS (Z8 (n+2)) iC Q' E' L U1) QQ vs [x0,x1,x2] U:=by
 refine hM ?_;intro MM vs;induction vs with
 |nil=>
  intro x2 _ _ q _
  exact q x2
 |cons v vs ih=>
  intro _ hs hv q q'
  obtain⟨h,xs,rfl,hc⟩:=hv v (.head _)
  have rest:=λx2=>ih (x2:=x2) hs (λv m=>hv v (.tail _ m)) q q'
  induction h using jH with
  |const w=>
   refine⟨rfl,Bc hs hc λr=>?_⟩
   induction r using jB with
   |true=>exact rest _
   |false=>exact q' _
  |_=>exact rest _
theorem FO{t:N}(he:t.Zw=true)(hw:t.wf)(hc:t.cs (tx td))(hz:t.sz<LN)(hs:WG td U)(q:∀r U',Zf WI U U'->Q (.bool r) U'):Z8 (n+3) 49 [t.av] Q E U:=by
 refine go ⟨rfl,CX (n:=n) he hw hz λU' f=>ZC _ (λY=>q false U' f) λY=>JX t.all (U:=U') (λa d e=>⟨f.at (hs a d e).1 id,eE ((hs a d e).2) λfs z=>⟨fs,f.at z id⟩⟩) (Qp hc) (λY=>⟨q true U' f⟩) λY=>q false U' f⟩
end
structure Ft(a d:Ad)(f:Nat)(own:AV)(U:US):Prop where
 o:U a=some (.inst 48 d)
 f:∃b,U d=some (.fields [(26,fO f),(80,own),(87,.bool b)])
def kU(a d x:Ad):Prop:=x=a\/x=d
theorem Qo:∀{t:N},∀v∈t.ZS,∃(h:H) (xs:List AV),v=h.av xs
 |.node _ _,v,m=>⟨_,_,cP.mp m⟩
 |.cons _ _,v,m=>(bX.mp m).elim (Qo v) (Qo v)
section
variable{a d:Ad}{f m n:Nat}{l:Nat}{ps:List Nat}{r:Option Nat}{b:AV}{U U':US}{tx:Ad->Prop}{Q:fP}{E:US->Prop}
theorem Bb:V8 (m+2) (.bm 367 (.ref a)) tx (kU a d) (λ(_:Unit) U=>Ft a d f (Vk l ps r b) U/\SH tx U) (λY t P=>P () t):=by
 refine⟨λ{s t P U Q E} he hw hc hr hs q=>?_,λh k=>⟨⟨(k.1 _ (.inl rfl)).trans h.1.o,eE h.1.f λx e=>⟨x,(k.1 _ (.inr rfl)).trans e⟩⟩,λa t=>k.2 a (h.2 a t)⟩,λ{_ U x} h k=>?_,λh t=>h.2 _ t⟩
 ·have same:=q s t U hr he hw hc hs .refl
  induction t using jM with
  |nil|cons=>exact Zv he
  |node h ts=>
   by_cases hn:h=.call
   ·subst hn
    obtain⟨v,as,e⟩:∃v as,ts.ZS=v::as:=by
     induction z:ts.ZS using jL with
     |nil=>have:=hw.1;rw[<-ZG,z]at this;exact Zv this
     |cons v as=>exact⟨v,as,rfl⟩
    refine hG ?_;intro PP
    obtain⟨h',ys,rfl⟩:=Qo (t:=ts) v (by rw[e];exact .head _)
    have same:Q (H.call.av ts.ZS) U:=same
    show Z8 (m+2) 367 [.ref a,H.call.av ts.ZS] Q E U
    refine hG ?_;intro PP
    obtain⟨x0,Ba⟩:=hs.1.f
    dsimp only[PP]
    have set:∀x',Q (H.call.av ts.ZS) (upd U d (some (.fields [(26,fO f),(80,Vk l ps r b),(87,.bool x')]))):=λx'=>
     have F:Zf (kU a d) U (upd U d (some (.fields [(26,fO f),(80,Vk l ps r b),(87,.bool x')]))):=Zf.refl.set (.inr rfl)
     q s (.node .call ts) _ hr rfl hw hc ⟨⟨(Z9 (ZI hs.1.o Ba (xO · rfl))).trans hs.1.o,x',Z_⟩,F.tx hs.2⟩ F
    rw[e]at same set⊢
    by_cases hg:∃x,h'=.loc x
    ·obtain⟨x,rfl⟩:=hg
     refine go (ZX hs.1.o (ZY Ba (ZC (cZ x f) (λY=>?_) λY=>⟨same⟩)))
     induction x0 using jB with
     |true=>exact ZX hs.1.o (ZY Ba (ZX hs.1.o (ZY Ba (QB (ZX hs.1.o (ZY Ba ⟨rfl,cL rfl,⟨set _⟩⟩))))))
     |false=>exact ZX hs.1.o (ZY Ba (ZX hs.1.o (ZY Ba ⟨rfl,cL rfl,⟨set false⟩⟩)))
    ·exact go (XW h' ys (Z2 (b:=cZ h'.kind 1) (UJ λx e=>hg ⟨x,e⟩) ⟨same⟩))
   ·exact go (XW h ts.ZS (Z2 (b:=cZ h.kind 8) (WT hn) ⟨same⟩))
 ·rcases k with rfl|rfl
  ·rw[h.1.o];exact cG _
  ·obtain⟨x,e⟩:=h.1.f;rw[e];exact cG _
end
section
variable{f m n k:Nat}{l:Nat}{ps:List Nat}{r:Option Nat}{cl:Nat->Nat}{p:Nat->Ad}{td:Ad->Option Ad}{w:Wp}{U U':US}{Q:fP}{E:US->Prop}{own body:N}
theorem FN(hne:a≠d)(ha:U a=none)(hd:U d=none)(q:∀U',Ft a d f x U'->Zf WI U U'->Q .none U'):Z8 (n+1) 366 [.ref a,fO f,x] Q E (upd (upd U a (some (.inst 48 d))) d (some (.fields []))):=by
 refine QH (UP hne rfl rfl rfl rfl (UP hne rfl rfl rfl rfl ?_))
 refine ZX ((Z9 hne).trans Z_) (ZY Z_ ⟨rfl,cL rfl,?_⟩)
 rw[Zt]
 exact q _ ⟨(Z9 hne).trans Z_,true,Z_⟩ ((Zf.refl.new ha).new hd)
theorem Fa.Rz(h:Fa p cl U)(f:Zf WI U U'):Fa p cl U':=h.PD ⟨λa d=>f.eq a id (h.foot d),f.on⟩
theorem WG.Rz(h:WG td U)(f:Zf WI U U'):WG td U':=h.PD ⟨λa d=>f.eq a id (h.foot d),f.on⟩
theorem Wo.Rz(h:Wo w k U)(f:Zf WI U U'):Wo w k U':=h.at f id id id
theorem Zf.off(h:Zf WI U U')(f:Zf D U' TJ)(z:∀a,D a->U a=none):Zf WI U TJ:=
 ⟨λa k=>f.on a (h.on a k),λa d k=>(f.eq a (λe=>k (z a e)) (h.on a k)).trans (h.eq a d k)⟩
theorem Qn:∀(t:N) {P:Unit->N->Prop},P () t->QC (λY t P=>P () t) t () P
 |.node _ ts,_,h=>Qn ts h
 |.nil,_,h=>h
 |.cons a c,_,h=>Qn a (Qn c h)
theorem vt(h:Fa p cl U)(ho:(Zn l ps r b).wf)(hb:b.Zw=true)(co:(Zn l ps r b).cs (tx td))(hz:(Zn l ps r b).sz<LN)(wb:body.wf)(eb:body.Zw=true)(cb:body.cs (tx td))(zb:2*body.sz+1<LN)(hs:WG td U)
 (q:∀r U',Zf WI U U'->Q (.bool r) U'):Z8 (m+5) 369 [.inst 50 [.ref (p 0),.ref w.a],fO f,(Zn l ps r b).av,body.av] Q E U:=by
  refine go (ZX h.o (ZY h.f (J2 h λk=>ZX h.o (ZY h.f (MP h λr1=>?_)))))
  have no:=q false U .refl
  induction r1 using jB with
  |true=>exact no
  |false=>
   refine ZC (fh (.ofNat 0) (.ofNat k)) (λY=>ZC (!(!fh (.ofNat 4) (.ofNat k))) (λY=>no) λY=>ZX h.o (ZY h.f (Pc h (ZC (!cZ (cl f) k) (λY=>no) λY=>⟨rfl,FO rfl ho co hz hs λr2 U1 f1=>?_⟩)))) λY=>no
   induction r2 using jB with
   |false=>exact q false U1 f1
   |true=>
    rw[show(Zn l ps r b).av=Vk l ps r b.av by show(H.lam l ps r).av (N.cons b .nil).ZS=_;rw[Vj hb];rfl]
    refineλa d hne ha hd=>FN hne ha hd λU2 ft f2=>⟨rfl,?_⟩
    obtain⟨x0,e0⟩:=ft.f
    refine ZX ft.o (ZY e0 ⟨rfl,XV (m:=m+1) (s:=()) (P:=λY Y=>True) Bb eb wb cb zb ⟨ft,(f1.trans f2).tx hs.ok⟩ (Qn _ trivial) λY Y U3 Y Y Y Y h3 f3=>?_⟩)
    obtain⟨x3,e3⟩:=h3.1.f
    exact ZX h3.1.o (ZY e3 (q x3 U3 ((f1.trans f2).off f3 λx z=>z.elim (λz=>z▸f1.free ha) λz=>z▸f1.free hd)))
end
inductive Tt(P:Nat->N->Prop)(s:Nat):N->Prop
 |other {h ts}:h≠.call->P s (.node h ts)->Tt P s (.node h ts)
 |V7 {h ts as}:(∀l ps r,h≠.lam l ps r)->P s (ZA (.node h ts) as)->Tt P s (ZA (.node h ts) as)
 |plain {l ps r b as}:b.Zw=true->NL as.ZS->P s (ZA (Zn l ps r b) as)->Tt P s (ZA (Zn l ps r b) as)
 |ZT {l f b l' ps r p}:b.Zw=true->p.Zw=true->2*b.sz+1<LN->2*(Zn l' ps r p).sz+1<LN->P s (ZA (Zn l [f] none b) (.cons (Zn l' ps r p) .nil))->
  QC (λs t P=>Xl f (oP (Zn l' ps r p)) s P t) b s P->Tt P s (ZA (Zn l [f] none b) (.cons (Zn l' ps r p) .nil))
noncomputable def oK:S:=wJ.Z5.Z5.Z5.body
section
variable{m:Nat}{cl:Nat->Nat}{p:Nat->Ad}{td:Ad->Option Ad}{w:Wp}{U U':US}{Q:fP}{E:US->Prop}
theorem MN:∀(ps as:List AV) {x4 x5:Option AV},NL as->(∀x4 x5,QQ none [x0,x1,x2,x3,x4,x5] U)->Zc [4,5] (λQ' L U1=>wpS C oK Q' E' L U1) QQ (Pk ps as) [x0,x1,x2,x3,x4,x5] U
 |[],_,_,_,_,q=>q _ _
 |_::_,[],_,_,_,q=>q _ _
 |p::ps,a::as,_,_,h,q=>by
  obtain⟨g,ys,rfl,hn⟩:=h a (.head _)
  exact XW g ys (Z2 (b:=cZ g.kind 7) (UK hn) (MN ps as (λv m=>h v (.tail _ m)) q))
theorem vq(q:Q (.inst 47 [x,y,z]) U):RA (Z8 (n+1)) 47 [x,y,z] Q E U:=
 Xm λY Y hne ha hd=>QH (UP hne rfl rfl rfl rfl (UP hne rfl rfl rfl rfl (UP hne rfl rfl rfl rfl ⟨rfl,YT hne ha hd rfl q⟩)))
theorem vp(q:Q (.inst 50 [x,y]) U):RA (Z8 (n+1)) 50 [x,y] Q E U:=
 Xm λY Y hne ha hd=>QH (UP hne rfl rfl rfl rfl (UP hne rfl rfl rfl rfl ⟨rfl,YT hne ha hd rfl q⟩))
structure GV(p:Nat->Ad)(cl:Nat->Nat)(w:Wp)(td:Ad->Option Ad)(n:Nat)(U:US):Prop where
 a:Fa p cl U
 w:Wo w n U
 t:WG td U
def A_(p:Nat->Ad)(w:Wp)(td:Ad->Option Ad)(x:Ad):Prop:=FT p x\/KI w x\/JY td x
theorem GV.PD(h:GV p cl w td n U)(k:GW (A_ p w td) U U'):GV p cl w td n U':=
 ⟨h.a.PD ⟨λa d=>k.1 a (.inl d),k.2⟩,h.w.PD ⟨λa d=>k.1 a (.inr (.inl d)),k.2⟩,h.t.PD ⟨λa d=>k.1 a (.inr (.inr d)),k.2⟩⟩
theorem GV.foot(h:GV p cl w td n U)(k:A_ p w td x):U x≠none:=k.elim (h.a.foot ·) λk=>k.elim (h.w.foot ·) (h.t.foot ·)
theorem GV.Rz(h:GV p cl w td n U)(f:Zf WI U U'):GV p cl w td n U':=h.PD ⟨λa d=>f.eq a id (h.foot d),f.on⟩
theorem A9(n1:∀x,FT p x->¬KI w x)(n2:∀x,JY td x->¬KI w x):V8 (m+10) (.bm 370 (.inst 50 [.ref (p 0),.ref w.a])) (tx td) (A_ p w td) (λn U=>GV p cl w td n U) (λs t P=>Tt P s t):=by
 refine⟨λ{s t P U Q E} he hw hc hr hs q=>?_,λh k=>h.PD k,λh d=>h.foot d,λh t=>h.t.ok _ t⟩
 have same:∀{t},P s t->t.Zw=true->t.wf->t.cs (tx td)->Q t.av U:=λp a b c=>q s _ U p a b c hs .refl
 have nw:∀{g:Ad} {o:AO},U g=none->GV p cl w td s (upd U g (some o)):=λhg=>hs.Rz (Zf.refl.new hg)
 cases hr with
 |@other h ts hn p=>exact go ⟨rfl,Ke hn (same p rfl hw hc)⟩
 |@V7 h ts as hl p=>exact go ⟨rfl,NY hl (same p rfl hw hc)⟩
 |@plain l ps r b as hb nl p=>
  have s0:=same p rfl hw hc
  have s1:=λ{g:Ad} (hg:U g=none)=>q s _ (upd U g (some (.di []))) p rfl hw hc (nw hg) (Zf.refl.new hg)
  rw[WH hb]at s0 s1⊢
  refine go ⟨rfl,XQ ?_⟩
  induction eK ps r as.ZS.length using jB with
  |false=>exact s0
  |true=>exact⟨rfl,[],rfl,rfl,.nil,λg hg=>MN (fN ps) as.ZS nl λx4 x5=>⟨Z3 Z_ (s1 hg)⟩⟩
 |@ZT l f b l' ps r b' hb hb' hz hz' k1 k2=>
  have s1:=λ{g:Ad} {U':US} (hg:U g=none) (f:Zf WI (upd U g (some (.di []))) U')=>q s _ U' k1 rfl hw hc ((nw hg).Rz f) ((Zf.refl.new hg).trans (f.mono λY z=>z.elim))
  rw[WH hb]at s1⊢
  have wl:(Zn l' ps r b').wf:=hw.2.2.1
  have wc:(Zn l' ps r b').cs (tx td):=hc.2.2.1
  refine go ⟨rfl,XQ ⟨rfl,[],rfl,rfl,.nil,λg hg=>vt (m:=m+4) (nw hg).a wl hb' wc (Z7 hz') hw.2.1.2.1 hb hc.2.1.2.1 hz (nw hg).t λr0 U1 f1=>?_⟩⟩
  have h1:=(nw (o:=.di []) hg).Rz f1
  have eg:=f1.at Z_ id
  induction r0 using jB with
  |false=>exact⟨Z3 eg (s1 hg f1)⟩
  |true=>
   refine Z3 eg ⟨cL rfl,?_⟩
   have F0:Zf WI U (upd U1 g (some (.di (fJ [] (.ofNat f) (.bool true))))):=((Zf.refl.new hg).trans f1).new hg
   have ng:∀x,KI w x->x≠g:=λx d e=>hs.w.foot d (e▸hg)
   have h2:=hs.Rz F0
   refine vq ⟨rfl,XV (Lu (m:=m+2) (f:=f) (own:=Zn l' ps r b') rfl wl wc hz') hb hw.2.1.2.1 hc.2.1.2.1 hz ⟨h2.w,h2.t.ok⟩ k2 λs' t' U2 k he' Oa hc' hs' f'=>?_⟩
   have kT:=f'.at Z_ λd=>ng g d rfl
   refine⟨Z3 kT ⟨rfl,Rf kT ?_ λU3 f3=>?_⟩⟩
   ·show(bif XI (.ofNat f) (.ofNat f)then some _ else none).isSome=true
    rw[Yy.mpr rfl];rfl
   ·refine q s' t' U3 k he' Oa hc' ⟨(h2.a.PD ⟨λa d=>f'.eq a (n1 a d) (h2.a.foot d),f'.on⟩).Rz f3,hs'.1.Rz f3,(h2.t.PD ⟨λa d=>f'.eq a (n2 a d) (h2.t.foot d),f'.on⟩).Rz f3⟩ ((F0.mono λY z=>z.elim).trans ((f'.mono λx d=>.inr (.inl d)).trans (f3.mono λY z=>z.elim)))
theorem JW(n2:∀x,JY td x->¬KI w x)(he:t.Zw=true)(hw:t.wf)(hc:t.cs (tx td))(ok:dY c_ t F0 (.negSucc 0))(hz:2*t.sz+1<LN)(hn:c_*t.nn<LN)(hs:WG td U)(ho:Wo w n U)(hr:QC (λs u P=>Tt P s u) t n P)
 (q:∀n' t' U',P n' t'->t'.Zw=true->t'.wf->t'.cs (tx td)->Wo w n' U'->WG td U'->Zf (λx=>x=w.d\/JY td x) U U'->Q t'.av U'):Z8 (m+12) 51 [t.av,.ref w.a] Q E U:=by
  refine go ⟨rfl,MR (n:=m+7) he hw ok (Z7 hz) hn λp U1 h=>vp ⟨rfl,?_⟩⟩
  refine hG ?_;intro PP
  obtain⟨_,h'⟩:=id h
  have n1:∀x,FT p x->¬KI w x:=λx Z d=>eE Z λi Z=>aE Z λhi e=>ho.foot d (e▸h'.z i (aM hi))
  refine XV (m:=m+8) (s:=n) (P:=P) (A9 (cl:=(WS t F0 (.negSucc 0)).cl) n1 n2) he hw hc hz ⟨h.fa,ho.Rz h'.fr,hs.Rz h'.fr⟩ hr λn' t' U2 k a b c hH f=>q n' t' U2 k a b c hH.w hH.t ⟨λx z=>f.on x (h'.fr.on x z),λx n z=>?_⟩
  have e:=h'.fr.eq x id z
  by_cases k1:FT p x
  ·obtain⟨i,hi,rfl⟩:=k1;exact absurd (h'.z i (aM hi)) z
  ·by_cases k2:KI w x
   ·rcases k2 with rfl|rfl|rfl
    ·exact hH.w.o.trans ho.o.symm
    ·exact absurd (.inl rfl) n
    ·exact hH.w.p.trans ho.p.symm
   ·exact(f.eq x (λk=>k.elim k1 λk=>k.elim k2 λk=>n (.inr k)) (h'.fr.on x z)).trans e
end
abbrev A8:d7:=λn m cs n'=>LM m n cs n'
theorem oJ(t:T)(i:Iv n V P t)(s:Sm t)(q:∀t' n',Pass A8 t n t' n'->Pr n' (toN t')):QC (λs u P=>Tt P s u) (toN t) n Pr:=by
 induction t generalizing n V P Pr with
 |nil=>exact q _ _ .nil
 |cons a b ja jb=>
  obtain⟨B,hs⟩:=s
  have hs:8*((fQ a B).n+(fQ b B).n+1)+5<=3000:=hs
  exact ja (MO i) ⟨B,Z7 hs⟩ λa' n1 p1=>jb ((JZ i).mono (XN p1 (MO i)).g.le) ⟨B,Z7 hs⟩ λb' n2 p2=>q _ _ (.cons p1 p2)
 |node h ts j=>
  have I:Iv n V P ts:=i.part i.sc.2 i.w.2.2 λY=>cO _
  induction h using jD with
  |X3=>exact Tt.other (xH · rfl) (j I (Qq s) λt' n' p=>.V7 (λY Y Y h=>xH h rfl) (q _ _ (.node p)))
  |_=>exact j I (Qq s) λt' n' p=>.other (xH · rfl) (q _ _ (.node p))
 |ZZ f as j=>
  obtain⟨B,hs⟩:=s
  have hs:8*((fQ as B).n+Pl.YD (B f))+5<=3000:=hs
  have I:Iv n V P as:=i.part i.sc.2 i.w.2 λY=>cO _
  exact Tt.other (xH · rfl) (j I ⟨B,Z7 hs⟩ λt' n' p=>.V7 (λY Y Y h=>xH h rfl) (q _ _ (.ZZ p)))
 |app l ps r b as jb ja=>
  obtain⟨B,hs⟩:=s
  have hs:8*((fQ as B).n+((fQ b (Pl.envOf B ps r 0)).n+Pl.rr r))+5<=3000:=hs
  refine jb (S8 i) ⟨Pl.envOf B ps r 0,Z7 hs⟩ λb' n1 p1=>Tt.other (xH · rfl) ?_
  have k1:=XN p1 (S8 i)
  have ia:=(Qu i).mono k1.g.le
  refine ja ia ⟨B,Z7 hs⟩ λas' n2 p2=>?_
  have k2:=XN p2 ia
  exact .plain (toN_E (k1.wl.e.trans i.w.1.1)) (vA (k2.wl.e.trans i.w.2.1) (k2.wl.w ia.w)) (q _ _ (.app p1 p2))
 |ZT l f l' ps r b t jb jt=>
  obtain⟨B,hs⟩:=s
  have hs':8*((fQ t (B.put f (Lm.Yd ⟨l',ps,r,b⟩ B))).n+((fQ b (Pl.envOf B ps r 0)).n+Pl.rr r)+1)+5<=3000:=hs
  have it:=Qt i
  have st:Sm t:=⟨B.put f (Lm.Yd ⟨l',ps,r,b⟩ B),Z7 hs'⟩
  refine jt it st λt' n1 p1=>Tt.other (xH · rfl) ?_
  have k1:=XN p1 it
  have ib:=(Qs i).mono k1.g.le
  refine jb ib ⟨Pl.envOf B ps r 0,Z7 hs'⟩ λb' n2 p2=>Tt.other (xH · rfl) ?_
  have k2:=XN p2 ib
  have K:=XN (.ZT p1 p2) i
  have z:2*((toN t').sz+0+[f].length+1+((toN b').sz+0+ps.length+1+0)+0+1)+1<LN:=CT K i ⟨B,hs⟩
  have J:=K.iv i
  have mt:∀x,Lm.tc x ⟨l',ps,r,b'⟩<=T.tc x (.ZT l f l' ps r b' t'):=λx=>by
   show(l'::bs ps r).count x+b'.tc x<=([l,f]++(l'::bs ps r)).count x+b'.tc x+t'.tc x
   rw[bM];simp+arith only
  obtain⟨cs,n',t2,C⟩:=vD (f:=f) (M:=oP (Ry ⟨l',ps,r,b'⟩)) (R:=λn c n'=>LO ⟨l',ps,r,b'⟩ n c n') (λn=>
   let⟨c,h1,h2⟩:=FY (m:=⟨l',ps,r,b'⟩) (k:=n) (V:=V) (P:=P) k2.sc (λx=>c7 (mt x) (J.u x)) λx h=>ah.mp ((J.k x h).1▸mt x)
   ⟨c,_,h1,λo s' h=>⟨h.1.trans h2,h.2⟩⟩) t' n2
  refine .ZT (toN_E (k1.wl.e.trans i.w.2.1)) (toN_E (k2.wl.e.trans i.w.1.1)) (Z7 z) (by show 2*((toN b').sz+0+ps.length+1)+1<LN;exact Z7 z) (q _ _ (.ZT p1 p2)) (C.e _ (q t2 _ (.gone p1 p2 C.r C.s)))
theorem JV(n2:∀x,JY td x->¬KI w x)(he:t.Zw=true)(i:Iv n (λY=>False) (λY=>False) t)(hs:Sm t)(hc:(toN t).cs (tx td))(ht:WG td U)(ho:Wo w n U)
 (q:∀t' n' U',Pass A8 t n t' n'->(toN t').cs (tx td)->Wo w n' U'->WG td U'->Zf (λx=>x=w.d\/JY td x) U U'->Q (toN t').av U'):Z8 (m+12) 51 [(toN t).av,.ref w.a] Q E U:=by
  have z:=FQ i.w hs
  have zn:=c7 (J6 (toN t)) z
  have L:LN=10000000:=rfl
  obtain⟨ok,fe⟩:=kZ (c_:=3006) (d:=0) t (F:=F0) (l:=.negSucc 0) i.sc i.w i.u (λY h=>(h.elim id id).elim) (λY Y=>rfl) (λY h=>(h.elim id id).elim) (Z7 zn)
  refine JW (P:=λn' u=>(∃t',Pass A8 t n t' n'/\u=toN t')) n2 (toN_E he) (toN_wf i.w) hc ok (Z7 z (Z7 z (Z7 (cV L.symm)))) (cD (aX 3006 zn) (by decide)) ht ho (oJ t i hs λt' n' p=>⟨t',p,rfl⟩) λn' u U' Z Y Y c a b f=>eE Z λt' Z=>aE Z λp e=>?_
  subst e;exact q t' n' U' p c a b f
end
section
open PySem PySem.W PySem.Calls PyProof.Rows PySem.SeqAt
abbrev jE:=@PySem.Expr.casesOn.{0}
abbrev jZ:=@PySem.Value.casesOn.{0}
noncomputable def SN:Nat:=337
noncomputable def A7(s:Str):Nat:=s.cps.toList.foldr (λc a=>a*256+c+1) 0
theorem FL:(MW (strN.map A7)&&cZ strN.length SN)=true:=by kernel_rfl
theorem WR(hi:i<SN)(hj:j<SN)(h:ZU i=ZU j):i=j:=by
 obtain⟨a,b⟩:=cN.mp FL
 rw[<-cW b]at hi hj
 unfold ZU at h
 rw[cy hi,cy hj]at h
 exact(Zk5 (List.Pairwise.of_map A7 (λY Y k e=>k (congrArg A7 e)) (UT a))).mp h
abbrev fD:=aV->Obj->Prop
inductive SG(V:fD)(cls:String):Value->List Value->Prop
 |mk {a vs n}:V a (Xe cls vs n)->SG V cls (.ref a) vs
inductive JU(gv:Nat->Value)(V:fD)(c:Nat):Value->List Zx6->Prop
 |mk {a C d es n}:gv c=.ref C->V a (ak C d)->V d (Zj3 es n)->JU gv V c (.ref a) es
inductive JT(V:fD)(f:Value):Value->Value->Prop
 |mk {a u}:V a (methodObj f u)->JT V f (.ref a) u
mutual
noncomputable def Enc(gv:Nat->Value)(V:fD):AV->Value->Prop
 |.none,v=>v=.none
 |.bool b,v=>v=.bool b
 |.int i,v=>∃t,v=.int i t
 |.str k,v=>k<SN/\∃t,v=.str (ZU k) t
 |.g k,v=>v=gv k
 |.tup xs,v=>∃vs,SG V "tuple" v vs/\xs.length<=LN/\ZW gv V xs vs
 |.lst xs,v=>∃vs,SG V "list" v vs/\xs.length<=LN/\ZW gv V xs vs
 |.inst c xs,v=>∃es,JU gv V c v es/\Xk gv V xs (fieldsOf c) es
 |.bm f x,v=>∃u,JT V (gv f) v u/\Enc gv V x u
 |.ref a,v=>v=.ref a
noncomputable def ZW(gv:Nat->Value)(V:fD):List AV->List Value->Prop
 |[],vs=>vs=[]
 |x::xs,vs=>∃v ws,vs=v::ws/\Enc gv V x v/\ZW gv V xs ws
noncomputable def Xk(gv:Nat->Value)(V:fD):List AV->List Nat->List Zx6->Prop
 |[],ns,es=>ns=[]/\es=[]
 |x::xs,ns,es=>∃n ns' e es',ns=n::ns'/\es=e::es'/\(n<SN/\∃t,e.key=.str (ZU n) t)/\Enc gv V x e.val/\Xk gv V xs ns' es'
end
section
variable{gv:Nat->Value}{V V':fD}
theorem SG.mono(k:∀a o,V a o->V' a o):SG V cls v vs->SG V' cls v vs
 |⟨h⟩=>⟨k _ _ h⟩
theorem JU.mono(k:∀a o,V a o->V' a o):JU gv V c v es->JU gv V' c v es
 |⟨h0,h1,h2⟩=>⟨h0,k _ _ h1,k _ _ h2⟩
theorem JT.mono(k:∀a o,V a o->V' a o):JT V f v u->JT V' f v u
 |⟨h⟩=>⟨k _ _ h⟩
theorem ZW.el{P:Prop}(h:ZW gv V (x::xs) vs)(k:∀v ws,vs=v::ws->Enc gv V x v->ZW gv V xs ws->P):P:=h.elim λv h=>h.elim λws h=>k v ws h.1 h.2.1 h.2.2
theorem Xk.el{P:Prop}(h:Xk gv V (x::xs) ns es)(k:∀n ns' e es',ns=n::ns'->es=e::es'->(n<SN/\∃t,e.key=.str (ZU n) t)->Enc gv V x e.val->Xk gv V xs ns' es'->P):P:=h.elim λn h=>h.elim λns' h=>h.elim λe h=>h.elim λes' h=>k n ns' e es' h.1 h.2.1 h.2.2.1 h.2.2.2.1 h.2.2.2.2
mutual
theorem Enc.mono(k:∀a o,V a o->V' a o):∀(x:AV) {v:Value},Enc gv V x v->Enc gv V' x v
 |.none=>λh=>h
 |.bool _=>λh=>h
 |.int _=>λh=>h
 |.str _=>λh=>h
 |.g _=>λh=>h
 |.tup xs=>λh=>h.elim λvs h=>⟨vs,h.1.mono k,h.2.1,ZW.mono k xs h.2.2⟩
 |.lst xs=>λh=>h.elim λvs h=>⟨vs,h.1.mono k,h.2.1,ZW.mono k xs h.2.2⟩
 |.inst _ xs=>λh=>h.elim λes h=>⟨es,h.1.mono k,Xk.mono k xs h.2⟩
 |.bm _ x=>λh=>h.elim λu h=>⟨u,h.1.mono k,Enc.mono k x h.2⟩
 |.ref _=>λh=>h
theorem ZW.mono(k:∀a o,V a o->V' a o):∀(xs:List AV) {vs:List Value},ZW gv V xs vs->ZW gv V' xs vs
 |[]=>λh=>h
 |x::xs=>λh=>h.el λv ws e h l=>⟨v,ws,e,Enc.mono k x h,ZW.mono k xs l⟩
theorem Xk.mono(k:∀a o,V a o->V' a o):∀(xs:List AV) {ns:List Nat} {es:List Zx6},Xk gv V xs ns es->Xk gv V' xs ns es
 |[]=>λh=>h
 |x::xs=>λh=>h.el λn ns' e es' e1 e2 e3 h l=>⟨n,ns',e,es',e1,e2,e3,Enc.mono k x h,Xk.mono k xs l⟩
end
theorem ZW.len:∀{vs:List Value},ZW gv V xs vs->vs.length=xs.length:=by
 induction xs with
 |nil=>exactλh=>congrArg Zp1 h
 |cons x xs ih=>exactλh=>h.el λY Y e Y l=>e▸congrArg (·+1) (ih l)
theorem ZW.nil:ZW gv V [] []:=rfl
theorem ZW.cons{x:AV}{xs:List AV}{v:Value}{vs:List Value}(h:Enc gv V x v)(l:ZW gv V xs vs):ZW gv V (x::xs) (v::vs):=⟨v,vs,rfl,h,l⟩
theorem ZW.app'(k:ZW gv V ys ws):∀{vs:List Value},ZW gv V xs vs->ZW gv V (xs++ys) (vs++ws):=by
 induction xs with
 |nil=>exactλh=>h▸k
 |cons x xs ih=>exactλh=>h.el λv Y e h l=>e▸⟨v,_,rfl,h,ih l⟩
theorem ZW.app(h:ZW gv V xs vs)(k:ZW gv V ys ws):ZW gv V (xs++ys) (vs++ws):=ZW.app' k h
theorem ZW.one(h:Enc gv V x v):ZW gv V [x] [v]:=.cons h .nil
theorem ZW.take(n:Nat):∀{vs:List Value},ZW gv V xs vs->ZW gv V (xs.take n) (vs.take n):=by
 induction n generalizing xs with
 |zero=>exactλY=>rfl
 |succ n ih=>
  induction xs using jL with
  |nil=>exactλh=>h▸rfl
  |cons x xs=>exactλh=>h.el λv Y e h l=>e▸⟨v,_,rfl,h,ih l⟩
theorem ZW.drop(n:Nat):∀{vs:List Value},ZW gv V xs vs->ZW gv V (xs.drop n) (vs.drop n):=by
 induction n generalizing xs with
 |zero=>exactλh=>h
 |succ n ih=>
  induction xs using jL with
  |nil=>exactλh=>h▸rfl
  |cons x xs=>exactλh=>h.el λv Y e h l=>e▸ih l
theorem ZW.rev:∀{vs:List Value},ZW gv V xs vs->ZW gv V xs.reverse vs.reverse:=by
 induction xs with
 |nil=>exactλh=>h▸rfl
 |cons x xs ih=>exactλh=>h.el λv ws e h l=>by rw[e,Zv2,Zv2];exact ZW.app' (.one h) (ih l)
theorem ZW.set'(k:Enc gv V x v):∀{vs:List Value} (i:Nat),ZW gv V xs vs->ZW gv V (xs.set i x) (vs.set i v):=by
 induction xs with
 |nil=>exactλY h=>h▸rfl
 |cons y xs ih=>
  intro vs i h
  refine h.el λu ws e h l=>e▸?_
  induction i using jN with
  |zero=>exact⟨v,ws,rfl,k,l⟩
  |succ i=>exact⟨u,_,rfl,h,ih i l⟩
theorem ZW.set(i:Nat)(h:ZW gv V xs vs)(k:Enc gv V x v):ZW gv V (xs.set i x) (vs.set i v):=ZW.set' k i h
inductive kR(gv:Nat->Value)(V:fD)(vs:List Value)(j:Nat)(K:AV->Prop):Prop
 |mk {v x}:vs[j]?=some v->Enc gv V x v->K x->kR gv V vs j K
theorem ZW.at{K:AV->Prop}{xs:List AV}:∀{vs:List Value} {i:Nat},ZW gv V xs vs->eN xs i K->kR gv V vs i K:=by
 induction xs with
 |nil=>exactλ{_ i} Y k=>by induction i using jN<;>exact k.elim
 |cons x xs ih=>
  intro vs i h k
  refine h.el λu ws e h l=>e▸?_
  induction i using jN with
  |zero=>exact⟨rfl,h,k⟩
  |succ i=>exact match ih l k with|⟨a,b,c⟩=>⟨a,b,c⟩
theorem ZW.get:∀{vs:List Value} {i:Nat},ZW gv V xs vs->xs[i]?=some x->∃v,vs[i]?=some v/\Enc gv V x v:=by
 induction xs with
 |nil=>exactλY k=>ZE k
 |cons y xs ih=>
  intro vs i h k
  refine h.el λu ws e h l=>e▸?_
  induction i using jN with
  |zero=>exact⟨u,rfl,cU k▸h⟩
  |succ i=>have q:=ih (i:=i) l k;exact q
end
structure Cx where
 prog:Zw8
 w:Zt2
 gv:Nat->Value
 g:Zz0
 K:Frag
 A:aC
 l:List Env
 X:aV->Prop
noncomputable def Cx.ww(c:Cx)(A:aC)(l:List Env)(X:aV->Prop):Cx:={c with A:=A,l:=l,X:=X}
noncomputable abbrev Cx.M(c:Cx):Model:=model c.prog c.w
structure Vx(X:aV->Prop)(h:Zz0)(U:US)(a:aV)(o:Obj):Prop where
 h:h.get? a=some o
 u:U a=none
 x:¬X a
abbrev Vw(c:Cx):Zz0->US->fD:=Vx c.X
abbrev En(c:Cx)(h:Zz0)(U:US):AV->Value->Prop:=Enc c.gv (Vw c h U)
abbrev V5(c:Cx)(h:Zz0)(U:US):List AV->List Value->Prop:=ZW c.gv (Vw c h U)
noncomputable def EncD{κ N_:Type}(gv:Nat->Value)(V:fD)(f:κ->N_):List (κ×AV)->List (N_×Value)->Prop
 |[],kvs=>kvs=[]
 |e::es,kvs=>∃v r,kvs=(f e.1,v)::r/\Enc gv V e.2 v/\EncD gv V f es r
def Wi(c:Cx)(V:fD):AO->Obj->Prop
 |.list xs,o=>∃vs n,o=Xe "list" vs n/\xs.length<=LN/\ZW c.gv V xs vs
 |.di es,o=>∃kvs,Zj2 (Zp0 c.prog c.w) o kvs/\es.length<=LN/\EncD c.gv V id es kvs
 |.ds es,o=>∃kvs,Zj2 (strKind c.prog c.w) o kvs/\es.length<=LN/\(∀e∈es,e.1<SN)/\EncD c.gv V ZU es kvs
 |.fields fs,o=>∃es n,o=Zj3 es n/\Xk c.gv V (fs.map (·.2)) (fs.map (·.1)) es
 |.inst k d,o=>∃C,c.gv k=.ref C/\o=ak C d
theorem EncD.el{κ N_:Type}{gv:Nat->Value}{V:fD}{f:κ->N_}{e:κ×AV}{es:List (κ×AV)}{kvs:List (N_×Value)}{P:Prop}(h:EncD gv V f (e::es) kvs)(k:∀v r,kvs=(f e.1,v)::r->Enc gv V e.2 v->EncD gv V f es r->P):P:=h.elim λv h=>h.elim λr h=>k v r h.1 h.2.1 h.2.2
theorem EncD.mono{κ N_:Type}{gv:Nat->Value}{V V':fD}{f:κ->N_}(k:∀a o,V a o->V' a o){es:List (κ×AV)}:∀{kvs:List (N_×Value)},EncD gv V f es kvs->EncD gv V' f es kvs:=by
 induction es with
 |nil=>exactλh=>h
 |cons e es ih=>exactλh=>h.el λv r e h l=>⟨v,r,e,h.mono k,ih l⟩
theorem Wi.mono{c:Cx}{V V':fD}(k:∀a o,V a o->V' a o):∀{x:AO} {o:Obj},Wi c V x o->Wi c V' x o
 |.list _,_=>λh=>h.elim λvs h=>h.elim λn h=>⟨vs,n,h.1,h.2.1,h.2.2.mono k⟩
 |.di _,_=>λh=>h.elim λkvs h=>⟨kvs,h.1,h.2.1,h.2.2.mono k⟩
 |.ds _,_=>λh=>h.elim λkvs h=>⟨kvs,h.1,h.2.1,h.2.2.1,h.2.2.2.mono k⟩
 |.fields _,_=>λh=>h.elim λes h=>h.elim λn h=>⟨es,n,h.1,h.2.mono k⟩
 |.inst _ _,_=>λh=>h
def SD(l:List Env)(a:aV):Prop:=∃e∈l,e.frame=some a
structure YF(l:List Env)(h:Zz0)(U:US)(h':Zz0)(U':US):Prop where
 obj:∀a o,h.get? a=some o->U a=none->¬SD l a->h'.get? a=some o
 fr:∀a o,h.get? a=some o->U a=none->∃sl,h'.get? a=some {o with slots:=sl}
 dom:∀a,U' a≠none->U a≠none\/h.get? a=none
theorem YF.refl(l:List Env)(h:Zz0)(U:US):YF l h U h U:=⟨λY Y e Y Y=>e,λY o e Y=>⟨o.slots,e⟩,λY h=>.inl h⟩
theorem fE{α:Type}{o:Option α}(h:o≠none->False):o=none:=by
 induction o using jO with
 |none=>rfl
 |some x=>exact(h (cG x)).elim
theorem VP{h:Zz0}{U U':US}(k:∀a,U' a≠none->U a≠none\/h.get? a=none){a:aV}{o:Obj}(e:h.get? a=some o)(u:U a=none):U' a=none:=
 fE λq=>(k a q).elim (λz=>z u) λz=>by rw[e]at z;exact XD z
theorem Ub{l:List Env}{h h':Zz0}{U U' TJ:US}(k:YF l h U h' U')(k':∀a,TJ a≠none->U' a≠none\/h'.get? a=none):∀a,TJ a≠none->U a≠none\/h.get? a=none:=λa q=>by
 by_cases u:U a=none
 ·induction e:h.get? a using jO with
  |none=>exact .inr rfl
  |some o=>
   obtain⟨sl,e'⟩:=k.fr a o e u
   exact absurd (VP k' e' (VP k.dom e u)) q
 ·exact .inl u
theorem YF.nil{l:List Env}{h h':Zz0}{U U':US}(k:YF l h U h' U'){a:aV}{o:Obj}(e:h.get? a=some o)(u:U a=none):U' a=none:=VP k.dom e u
theorem YF.trans{l:List Env}{h h' h'':Zz0}{U U' TJ:US}(k:YF l h U h' U')(k':YF l h' U' h'' TJ):YF l h U h'' TJ:=
 ⟨λa o e u f=>k'.obj a o (k.obj a o e u f) (k.nil e u) f,λa o e u=>eE (k.fr a o e u) λ_ e'=>eE (k'.fr a _ e' (k.nil e u)) λsl e''=>⟨sl,e''⟩,Ub k k'.dom⟩
structure XF(s s':cK):Prop where
 g:s'.gens=s.gens
 d:s'.drawn=s.drawn
 o:s'.os=s.os
theorem XF.refl(s:cK):XF s s:=⟨rfl,rfl,rfl⟩
theorem XF.trans{s s' s'':cK}(a:XF s s')(b:XF s' s''):XF s s'':=⟨b.g.trans a.g,b.d.trans a.d,b.o.trans a.o⟩
structure VO(c:Cx)(h:Zz0)(U:US):Prop where
 obj:∀a x,U a=some x->¬c.X a/\∃o,h.get? a=some o/\Wi c (Vw c h U) x o
 base:∀a o,c.g.get? a=some o->Vw c h U a o
structure Inv(c:Cx)(s:cK)(U:US):Prop where
 Yr:VO c s.heap U
 Tr:s.heap.FunFrames c.g c.l
 xlt:∀a,c.X a->∃o,s.heap.get? a=some o
 frames:c.A.frames=some c.l
 fx:∀a,SD c.l a->c.X a
structure Nx(c:Cx)(s:cK)(U:US)(s':cK)(U':US):Prop where
 k:YF c.l s.heap U s'.heap U'
 r:XF s s'
theorem Nx.refl{c:Cx}{s:cK}{U:US}:Nx c s U s U:=⟨.refl ..,.refl _⟩
theorem Nx.trans{c:Cx}{s s' s'':cK}{U U' TJ:US}(a:Nx c s U s' U')(b:Nx c s' U' s'' TJ):Nx c s U s'' TJ:=⟨a.k.trans b.k,a.r.trans b.r⟩
inductive Ok{α:Type}(c:Cx)(s:cK)(U:US)(P:α->Zz0->US->Prop)(a:α)(s':cK):Prop
 |mk {U'}:P a s'.heap U'->Inv c s' U'->Nx c s U s' U'->Ok c s U P a s'
structure JS(c:Cx)(h0:Zz0)(U0:US)(c8:Zz0)(ea:aV)(a0 fl:Value)(h:Zz0)(U':US):Prop where
 stays:c8.StaysIn h
 new:c8.get? ea=none
 frames:h.FunFrames c8 c.l
 Yq:h.TracedAtW c8 ea (.type "ValueError") a0 fl
 Yr:VO c c8 U'
 old:∀a o,h0.get? a=some o->U0 a=none->¬SD c.l a->c8.get? a=some o
 fr:∀a o,h0.get? a=some o->U0 a=none->SD c.l a->∃sl,h.get? a=some {o with slots:=sl}
 dom:∀a,U' a≠none->U0 a≠none\/h0.get? a=none
def oH(l:List Env)(fl:Value):Prop:=fl=.none\/∃env l' L,l=env::l'/\env.frame=some L/\fl=Zq8 L
inductive Er(c:Cx)(s:cK)(U:US)(E:US->Prop)(e:Value)(s':cK):Prop
 |mk {ea a0 c8 fl U'}:e=.ref ea->E U'->JS c s.heap U c8 ea a0 fl s'.heap U'->oH c.l fl->XF s s'->Er c s U E e s'
section
variable{c:Cx}{s s₁ s':cK}{U Z6 U':US}{h h':Zz0}
theorem JS.trans{h0 h1 c8:Zz0}{U0:US}{ea:aV}{a0 fl:Value}(k:YF c.l h0 U0 h1 Z6)(f:JS c h1 Z6 c8 ea a0 fl h U'):JS c h0 U0 c8 ea a0 fl h U':=
 ⟨f.stays,f.new,f.frames,f.Yq,f.Yr,λa o e u n=>f.old a o (k.obj a o e u n) (k.nil e u) n,λa o e u n=>eE (k.fr a o e u) λ_ e'=>eE (f.fr a _ e' (k.nil e u) n) λsl e''=>⟨sl,e''⟩,Ub k f.dom⟩
theorem Er.trans{E:US->Prop}{e:Value}(n:Nx c s U s₁ Z6):Er c s₁ Z6 E e s'->Er c s U E e s'
 |⟨h1,h2,h3,h4,h5⟩=>⟨h1,h2,h3.trans n.k,h4,n.r.trans h5⟩
theorem Er.mono{E E':US->Prop}{e:Value}(k:∀U,E U->E' U):Er c s U E e s'->Er c s U E' e s'
 |⟨h1,h2,h3,h4,h5⟩=>⟨h1,k _ h2,h3,h4,h5⟩
theorem Ok.trans{α:Type}{P:α->Zz0->US->Prop}{a:α}(n:Nx c s U s₁ Z6):Ok c s₁ Z6 P a s'->Ok c s U P a s'
 |⟨p,i,k⟩=>⟨p,i,n.trans k⟩
theorem Y3{a:aV}(z:h.objs.size<=a):h.get? a=none:=fE λq=>eE (bW.mp q) λ_ e=>absurd (ao e) (Zx3.mpr z)
theorem VO.un(m:VO c h U){a:aV}(e:h.get? a=none):U a=none:=fE λq=>by
 obtain⟨x,q⟩:=bW.mp q
 obtain⟨_,o,p,_⟩:=m.obj a x q
 rw[e]at p;exact ZE p
theorem Inv.nx(I:Inv c s U){a:aV}(e:s.heap.get? a=none):¬c.X a:=λz=>by obtain⟨o,z⟩:=I.xlt a z;rw[e]at z;exact ZE z
theorem Inv.Wt(I:Inv c s U){a:aV}(x:c.X a):U a=none:=fE λq=>eE (bW.mp q) λ_ q=>(I.Yr.obj a _ q).1 x
theorem Inv.free(I:Inv c s U){a:aV}(f:SD c.l a):U a=none:=I.Wt (I.fx a f)
theorem TH{c8:Zz0}{l:List Env}:(∀a o,SD l a->h.get? a=some o->∃sl,h'.get? a=some {o with slots:=sl})->h.FunFrames c8 l->h'.FunFrames c8 l:=by
 induction l with
 |nil=>exactλY Y=>trivial
 |cons env r ih=>exactλk h=>⟨h.1,h.2.1.elim λL h=>h.elim λo h=>(k L o ⟨env,.head _,h.1⟩ h.2.2.1).elim λsl q=>⟨L,_,h.1,h.2.1,q,h.2.2.2⟩,ih (λx o z=>z.elim λe' z=>k x o ⟨e',.tail _ z.1,z.2⟩) h.2.2⟩
theorem Inv.next(I:Inv c s U)(m:VO c s'.heap U')(k:YF c.l s.heap U s'.heap U'):Inv c s' U':=
 ⟨m,TH (λa o f e=>k.fr a o e (I.free f)) I.Tr,λa x=>eE (I.xlt a x) λo e=>eE (k.fr a o e (I.Wt x)) λ_ e'=>⟨_,e'⟩,I.frames,I.fx⟩
theorem YF.view(k:YF c.l h U h' U')(fx:∀a,SD c.l a->c.X a){a:aV}{o:Obj}(v:Vw c h U a o):Vw c h' U' a o:=⟨k.obj a o v.h v.u λf=>v.x (fx a f),k.nil v.h v.u,v.x⟩
theorem Inv.vw(I:Inv c s U)(n:Nx c s U s' U'):∀a o,Vw c s.heap U a o->Vw c s'.heap U' a o:=λY Y v=>n.k.view I.fx v
theorem Inv.tok(I:Inv c s U){t:Nat}:Inv c {s with toks:=t} U:=⟨I.Yr,I.Tr,I.xlt,I.frames,I.fx⟩
theorem Nx.tok{t:Nat}:Nx c s U {s with toks:=t} U:=⟨.refl ..,rfl,rfl,rfl⟩
theorem YS{α:Type}{P:α->Zz0->US->Prop}{a:α}{t:Nat}(I:Inv c s U)(p:P a s.heap U):Ok c s U P a {s with toks:=t}:=⟨p,I.tok,.tok⟩
theorem X9{α:Type}{P:α->Zz0->US->Prop}{a:α}(I:Inv c s U)(p:P a s.heap U):Ok c s U P a s:=⟨p,I,.refl⟩
abbrev xj{α:Type}(c:Cx)(m:Sem α)(P:α->Zz0->US->Prop)(E:US->Prop)(s:cK)(U:US):Prop:=bT c.M c.A m (Ok c s U P) (Er c s U E) s
abbrev pV(c:Cx)(Q:fP):Value->Zz0->US->Prop:=λv h U=>∃x,Q x U/\En c h U x v
abbrev pB(Q:Bool->US->Prop):Bool->Zz0->US->Prop:=λb Y U=>Q b U
abbrev pL(c:Cx)(Q:fP):List Value->Zz0->US->Prop:=λvs h U=>∃xs,Q (.tup xs) U/\V5 c h U xs vs
abbrev pU(Q:US->Prop):Unit->Zz0->US->Prop:=λY Y U=>Q U
section
variable{α:Type}{P:α->Zz0->US->Prop}{E:US->Prop}{m:Sem α}
theorem step{R:α->cK->Prop}(h:xj c m P E s U)(hf:∀a s₁ Z6,P a s₁.heap Z6->Inv c s₁ Z6->Nx c s U s₁ Z6->R a s₁):bT c.M c.A m R (Er c s U E) s:=
 bO h (λa s₁ ⟨p,i,n⟩=>hf a s₁ _ p i n) λY Y x=>x
theorem d_{R:α->cK->Prop}(n:Nx c s U s₁ Z6)(h:bT c.M c.A m R (Er c s₁ Z6 E) s₁):bT c.M c.A m R (Er c s U E) s₁:=bO h (λY Y z=>z) λY Y z=>z.trans n
theorem fC(n:Nx c s U s₁ Z6)(h:bT c.M c.A m (Ok c s₁ Z6 P) (Er c s₁ Z6 E) s'):bT c.M c.A m (Ok c s U P) (Er c s U E) s':=bO h (λY Y z=>z.trans n) λY Y z=>z.trans n
end
theorem VO.keeps(m:VO c h U)(k:∀b o,h.get? b=some o->h'.get? b=some o):VO c h' U:=
 ⟨λa o e=>aE (m.obj a o e) λx Z=>eE Z λob Z=>aE Z λp q=>⟨x,ob,k _ _ p,q.mono λb o' v=>⟨k _ _ v.h,v.u,v.x⟩⟩,λa o e=>let v:=m.base a o e;⟨k _ _ v.h,v.u,v.x⟩⟩
theorem YF.keeps{l:List Env}(k:∀b o,h.get? b=some o->h'.get? b=some o):YF l h U h' U:=⟨λa o e Y Y=>k a o e,λa o e Y=>⟨o.slots,k a o e⟩,λY q=>.inl q⟩
theorem SA{a b:Ad}{x:AO}{o:Option AO}(q:upd U a o b=some x):b=a/\o=some x\/b≠a/\U b=some x:=by
 by_cases n:b=a
 ·subst n;exact .inl ⟨rfl,by rwa [Z_]at q⟩
 ·exact .inr ⟨n,by rwa [Z9 n]at q⟩
theorem O_{a b:Ad}(n:U b=none):upd U a none b=none:=by
 by_cases e:b=a
 ·rw[e,Z_]
 ·rw[Z9 e];exact n
theorem VO.put{a:aV}{x:AO}{ob:Obj}(m:VO c h U)(nx:¬c.X a)(V:∀b o,Vw c h U b o->h'.get? b=some o/\b≠a)(P:∀b x o,U b=some x->b≠a->h.get? b=some o->h'.get? b=some o)(ho:h'.get? a=some ob)(e:Wi c (Vw c h U) x ob):VO c h' (upd U a (some x)):=by
 have V:∀b o',Vw c h U b o'->Vw c h' (upd U a (some x)) b o':=λb o' v=>aE (V b o' v) λk n=>⟨k,(Z9 n).trans v.u,v.x⟩
 refine⟨λb o' q=>?_,λb o' q=>V b o' (m.base b o' q)⟩
 refine hG ?_;intro PP
 rcases SA q with⟨e1,e2⟩|⟨n,q⟩
 dsimp only[PP]
 ·cases e2;rw[e1];exact⟨nx,_,ho,e.mono V⟩
 ·obtain⟨z,vo,p,r⟩:=m.obj b o' q;exact⟨z,vo,P b _ _ q n p,r.mono V⟩
theorem VO.set{a:aV}{x x₀:AO}{ob:Obj}(m:VO c h U)(u:U a=some x₀)(hs:Zy6 a h h')(ho:h'.get? a=some ob)(e:Wi c (Vw c h U) x ob):VO c h' (upd U a (some x)):=
 m.put (m.obj a _ u).1 (λb o v=>have n:b≠a:=λq=>by rw[q]at v;rw[v.u]at u;exact ZE u
  ⟨(hs.2 b n).trans v.h,n⟩) (λb Y Y Y n p=>(hs.2 b n).trans p) ho e
theorem YF.set{l:List Env}{a:aV}{o:Option AO}{x₀:AO}(u:U a=some x₀)(hs:Zy6 a h h'):YF l h U h' (upd U a o):=by
 have n:∀{b},U b=none->b≠a:=λz q=>by rw[q,u]at z;exact XD z
 refine⟨λb o' e z Y=>(hs.2 b (n z)).trans e,λb o' e z=>⟨o'.slots,(hs.2 b (n z)).trans e⟩,λb q=>?_⟩
 by_cases n:b=a
 ·rw[n,u];exact .inl (cG _)
 ·rw[Z9 n]at q;exact .inl q
theorem VO.new{a:aV}{ob:Obj}{x:AO}(m:VO c h U)(nx:¬c.X a)(k:∀b o,h.get? b=some o->h'.get? b=some o)(ha:h.get? a=none)(ho:h'.get? a=some ob)(e:Wi c (Vw c h U) x ob):VO c h' (upd U a (some x)):=
 m.put nx (λb o v=>⟨k _ _ v.h,λq=>by have:=v.h;rw[q,ha]at this;exact ZE this⟩) (λb Y o Y Y p=>k _ _ p) ho e
theorem YF.new{l:List Env}{a:aV}{o:Option AO}(k:∀b o,h.get? b=some o->h'.get? b=some o)(ha:h.get? a=none):YF l h U h' (upd U a o):=by
 refine⟨λb o' e Y Y=>k b o' e,λb o' e Y=>⟨o'.slots,k b o' e⟩,λb q=>?_⟩
 by_cases n:b=a
 ·subst n;exact .inr ha
 ·rw[Z9 n]at q;exact .inl q
theorem Vw.drop{a b:aV}{o:Obj}(v:Vw c h U b o):Vw c h (upd U a none) b o:=⟨v.h,O_ v.u,v.x⟩
theorem VO.drop{a:aV}(m:VO c h U):VO c h (upd U a none):=by
 refine⟨λb o' q=>?_,λb o' q=>(m.base b o' q).drop⟩
 refine hG ?_;intro PP
 rcases SA q with⟨_,e⟩|⟨_,e⟩
 ·exact ZE e
 ·obtain⟨x,vo,p,r⟩:=m.obj b o' e;exact⟨x,vo,p,r.mono λY Y=>Vw.drop⟩
theorem YF.drop{l:List Env}{a:aV}:YF l h U h (upd U a none):=⟨λY Y e Y Y=>e,λY o e Y=>⟨o.slots,e⟩,λY q=>.inl λz=>q (O_ z)⟩
theorem Inv.made{x:AO}{a:aV}{ob:Obj}(I:Inv c s U)(k:∀b o,s.heap.get? b=some o->s'.heap.get? b=some o)(r:XF s s')(ha:s.heap.get? a=none)(ho:s'.heap.get? a=some ob)(e:Wi c (Vw c s.heap U) x ob):U a=none/\Inv c s' (upd U a (some x))/\Nx c s U s' (upd U a (some x)):=
 have m:=I.Yr.new (I.nx ha) k ha ho e
 have k':=YF.new k ha
 ⟨I.Yr.un ha,I.next m k',k',r⟩
theorem Inv.grow(I:Inv c s U)(k:∀b o,s.heap.get? b=some o->s'.heap.get? b=some o)(r:XF s s'):Inv c s' U/\Nx c s U s' U:=⟨I.next (I.Yr.keeps k) (.keeps k),.keeps k,r⟩
theorem Inv.set{x x₀:AO}{a:aV}{ob:Obj}(I:Inv c s U)(u:U a=some x₀)(hs:Zy6 a s.heap s'.heap)(r:XF s s')(ho:s'.heap.get? a=some ob)(e:Wi c (Vw c s.heap U) x ob):Inv c s' (upd U a (some x))/\Nx c s U s' (upd U a (some x)):=
 ⟨I.next (I.Yr.set u hs ho e) (.set u hs),.set u hs,r⟩
end
theorem X8{α:Type}{o:Option α}{K:α->Prop}(h:oA o K):∃x,o=some x/\K x:=by
 induction o using jO with
 |none=>exact h.elim
 |some x=>exact⟨x,rfl,h⟩
theorem WE{o:Option AO}{K:List AV->Prop}(h:oL o K):∃xs,o=some (.list xs)/\K xs:=by
 unfold oL at h;obtain⟨h⟩:=h;induction o using jO with
 |none=>exact h.elim
 |some o=>induction o using jA<;>first|exact⟨_,rfl,h⟩|exact h.elim
theorem WD{o:Option AO}{K:List (Int×AV)->Prop}(h:LH o K):∃xs,o=some (.di xs)/\K xs:=by
 unfold LH at h;obtain⟨h⟩:=h;induction o using jO with
 |none=>exact h.elim
 |some o=>induction o using jA<;>first|exact⟨_,rfl,h⟩|exact h.elim
theorem ML{o:Option AO}{K:List (Nat×AV)->Prop}(h:xF o K):∃xs,o=some (.ds xs)/\K xs:=by
 unfold xF at h;obtain⟨h⟩:=h;induction o using jO with
 |none=>exact h.elim
 |some o=>induction o using jA<;>first|exact⟨_,rfl,h⟩|exact h.elim
theorem Sz{o:Option AO}{K:List (Nat×AV)->Prop}(h:oF o K):∃xs,o=some (.fields xs)/\K xs:=by
 unfold oF at h;obtain⟨h⟩:=h;induction o using jO with
 |none=>exact h.elim
 |some o=>induction o using jA<;>first|exact⟨_,rfl,h⟩|exact h.elim
theorem NQ{o:Option AO}{K:Nat->Ad->Prop}(h:oI o K):∃c d,o=some (.inst c d)/\K c d:=by
 unfold oI at h;obtain⟨h⟩:=h;induction o using jO with
 |none=>exact h.elim
 |some o=>induction o using jA<;>first|exact⟨_,_,rfl,h⟩|exact h.elim
theorem Y6{v:AV}{K:Ad->Prop}(h:SQ v K):∃a,v=.ref a/\K a:=by induction v using jV<;>first|exact⟨_,rfl,h⟩|exact h.elim
theorem Yx{v:AV}{K:Int->Prop}(h:Vz v K):∃i,v=.int i/\K i:=by induction v using jV<;>first|exact⟨_,rfl,h⟩|exact h.elim
theorem VN{v:AV}{K:Nat->Prop}(h:Km v K):∃i,v=.str i/\K i:=by induction v using jV<;>first|exact⟨_,rfl,h⟩|exact h.elim
theorem UC{v:AV}{K:Bool->Prop}(h:Wk v K):∃i,v=.bool i/\K i:=by induction v using jV<;>first|exact⟨_,rfl,h⟩|exact h.elim
theorem XB{v:AV}{K:List AV->Prop}(h:Wj v K):∃i,v=.tup i/\K i:=by induction v using jV<;>first|exact⟨_,rfl,h⟩|exact h.elim
theorem XA{v:AV}{K:List AV->Prop}(h:Rl v K):∃i,v=.lst i/\K i:=by induction v using jV<;>first|exact⟨_,rfl,h⟩|exact h.elim
theorem isStr_of{v:Value}{m n:Nat}(hm:m<SN/\∃t,v=.str (ZU m) t)(hn:n<SN):v.isStr (ZU n)=cZ m n:=by
 obtain⟨hm,t,rfl⟩:=hm
 have e:(Value.str (ZU m) t).isStr (ZU n)=(ZU m==ZU n):=rfl
 rw[e]
 by_cases q:m=n
 ·rw[q,bY,beq_self_eq_true]
 ·rw[beq_false q,beq_eq_false_iff_ne];exactλe=>q (WR hm hn e)
theorem JR(h:e.key.isStr n=true):getL n (e::es)=some (some e.val):=by
 unfold PySem.W.getL;rw[Zj1,h]
theorem Lq(h:e.key.isStr n=false)(r:e.refKey=false):getL n (e::es)=getL n es:=by
 unfold PySem.W.getL;rw[Zj1,h,Zl4,r];rfl
theorem Rd{e:Zx6}{m:Nat}(h:m<SN/\∃t,e.key=.str (ZU m) t):e.refKey=false:=by
 obtain⟨_,t,h⟩:=h;unfold DictEntry.refKey;rw[h]
section
variable{gv:Nat->Value}{V:fD}
theorem Xk.find(hn:n<SN):∀{ns:List Nat} {es:List Zx6},Xk gv V xs ns es->(∃v x,getL (ZU n) es=some (some v)/\Vm (ns.zip xs) n=some x/\Enc gv V x v)\/(getL (ZU n) es=some none/\Vm (ns.zip xs) n=none):=by
 induction xs with
 |nil=>exactλh=>by rw[h.1,h.2];exact .inr ⟨rfl,rfl⟩
 |cons x xs ih=>
  refineλh=>h.el λm ns e es e1 e2 i ex l=>?_
  rw[e1,e2]
  have q:=isStr_of i hn
  show(∃v y,getL _ (e::es)=some (some v)/\(bif cZ m n then some x else Vm (ns.zip xs) n)=some y/\_)\/(getL _ (e::es)=some none/\(bif cZ m n then some x else Vm (ns.zip xs) n)=none)
  induction b:cZ m n using jB with
  |true=>exact .inl ⟨_,x,JR (q.trans b),rfl,ex⟩
  |false=>rw[Lq (q.trans b) (Rd i)];exact ih l
theorem Xk.ref:∀{ns:List Nat} {es:List Zx6},Xk gv V xs ns es->es.any (·.refKey)=false/\es.length=xs.length:=by
 induction xs with
 |nil=>exactλh=>by rw[h.2];exact⟨rfl,rfl⟩
 |cons x xs ih=>exactλh=>h.el λm ns e es e1 e2 i ex l=>by rw[e2,Zl4,Rd i,(ih l).1];exact⟨rfl,congrArg (·+1) (ih l).2⟩
theorem O9:∀{xs:List AV},match fH n ns with|some i=>∀K,eN xs i K->∃x,Vm (ns.zip xs) n=some x/\K x|none=>Vm (ns.zip xs) n=none:=by
 induction ns with
 |nil=>exact rfl
 |cons m ns ih=>
  intro xs
  have ih:=ih (xs:=xs.tail)
  show match(bif cZ m n then some 0 else(fH n ns).map (·+1))with|some i=>_|none=>_
  induction xs using jL with
  |nil=>
   induction bif cZ m n then some 0 else(fH n ns).map (·+1)using jO with
   |none=>rfl
   |some i=>exactλK h=>by induction i using jN<;>exact h.elim
  |cons x xs=>
   have e:Vm ((m::ns).zip (x::xs)) n=bif cZ m n then some x else Vm (ns.zip xs) n:=rfl
   rw[e]
   induction cZ m n using jB with
   |true=>exactλK h=>⟨x,rfl,h⟩
   |false=>
    induction q:fH n ns using jO with
    |none=>rw[q]at ih;exact ih
    |some i=>rw[q]at ih;exactλK h=>ih K h
theorem Sy{α β:Type}:∀(l:List (α×β)),(l.map (·.1)).zip (l.map (·.2))=l
 |[]=>rfl
 |_::l=>congrArg _ (Sy l)
theorem Xk.put(hn:n<SN)(ex:Enc gv V x v):∀{es:List Zx6},Xk gv V (fs.map (·.2)) (fs.map (·.1)) es->Xk gv V ((Xc fs n x).map (·.2)) ((Xc fs n x).map (·.1)) (putL (ZU n) hs (.str (ZU n) t) v es):=by
 induction fs with
 |nil=>exactλh=>by rw[h.2];exact⟨n,[],_,[],rfl,rfl,⟨hn,t,rfl⟩,ex,rfl,rfl⟩
 |cons p fs ih=>
  obtain⟨m,y⟩:=p
  refineλh=>h.el λm' ns e es e1 e2 i ey l=>?_
  obtain⟨rfl,rfl⟩:=List.cons.inj e1
  rw[e2]
  have q:=isStr_of i hn
  show Xk gv V ((bif cZ m n then(m,x)::fs else(m,y)::Xc fs n x).map (·.2)) ((bif cZ m n then(m,x)::fs else(m,y)::Xc fs n x).map (·.1)) (if e.key.isStr (ZU n)then _ else _)
  rw[q]
  induction b:cZ m n using jB with
  |true=>exact⟨m,_,_,_,rfl,rfl,i,ex,l⟩
  |false=>exact⟨m,_,_,_,rfl,rfl,i,ey,ih l⟩
end
theorem O8:∀{es:List Zx6},(putL nm hs k v es).length<=es.length+1
 |[]=>cO _
 |e::es=>by
  show(if e.key.isStr nm then _ else _:List Zx6).length<=_
  split
  ·exact bH _
  ·exact cu (O8 (es:=es))
noncomputable def Yl(k:Nat):Bool:=fM k||(cZ k QN||(cZ k SX||cZ k SW))
structure Sw(c:Cx)(C:aV)(n f:Nat)(fa:aV):Prop where
 lt:n<SN
 gv:c.gv f=.ref fa
 find:Zq7 c.K (.ref C) (ZU n)=some (some (.ref fa))
 fn:isFn c.K (.ref fa)=true
 ind:fnIn c.K fa=true
 get:specialIn c.K (.ref fa) "__get__"=some (some (.builtin "function.__get__"))
 takes:takesIn c.K (.ref fa)=some false
 cp:copiedNames.contains (ZU n)=false
structure O7(c:Cx)(C:aV)(n:Nat)(i:Int)(t:Tok):Prop where
 lt:n<SN
 find:Zq7 c.K (.ref C) (ZU n)=some (some (.int i t))
 get:specialIn c.K (.int i t) "__get__"=some none
 cp:copiedNames.contains (ZU n)=false
structure Q_(c:Cx)(k:Nat)(C:aV):Prop where
 xh:Zq7 c.K (.ref C) "__getattribute__"=some (some (.builtin "object.__getattribute__"))
 ga:Zq7 c.K (.ref C) "__getattr__"=some none
 sa:Zq7 c.K (.ref C) "__setattr__"=some (some (.builtin "object.__setattr__"))
 hd:hasDictIn c.K C=true
 plain:plainOver c.K C=true
 fld:∀n∈fieldsOf k,n<SN/\Zq7 c.K (.ref C) (ZU n)=some none
 kQ:∀n i,LP k n=some i->∃t,O7 c C n i t
 SY:∀n f,Xq k n=some f->∃fa,Sw c C n f fa
 makes:makesIn c.K C=true
 init:match Ug k with
  |some f=>∃fa,c.gv f=.ref fa/\Zq7 c.K (.ref C) "__init__"=some (some (.ref fa))/\isFn c.K (.ref fa)=true
  |none=>Zq7 c.K (.ref C) "__init__"=some (some (.builtin "object.__init__"))
 keep:keepIn c.K (.ref C)=true
 cn:Zq7 c.K (.ref C) "__class__"=some (some (.builtin "object.__class__"))
 obj:mroIn c.K C (.type "object")=some true
 KA:∀j,Yl j=true->Ze3 c.K (.ref C) (c.gv j)=some (Zh j (Xp k))
structure Wd(c:Cx):Prop where
 kx:c.K.In c.g
 hand:∀k,Zh7 (c.gv k)=true
 cls:∀k,fM k=true->∃C,c.gv k=.ref C/\Q_ c k C
 sp:∀k,(U_ k).isSome=true->∃a C d es n,c.gv k=.ref a/\c.gv 23=.ref C/\c.g.get? a=some (ak C d)/\c.g.get? d=some (Zj3 es n)
 FH:∀k k',fM k=true->fM k'=true->c.gv k=c.gv k'->k=k'
 YO:∀k k',(U_ k).isSome=true->(U_ k').isSome=true->c.gv k=c.gv k'->k=k'
 low:∃o,c.g.get? sysModules=some o
 cg:specialIn c.K (.builtin "object.__class__") "__get__"=some (some (.builtin "getset_descriptor.__get__"))
 ct:takesIn c.K (.builtin "object.__class__")=some true
 A6:∀k,Yl k=true->Ze3 c.K (.type "bool") (c.gv k)=some (Zh k [QN,SX])
 A5:∀k,Yl k=true->Ze3 c.K (.type "int") (c.gv k)=some (Zh k [SX])
 FG:∀k,Yl k=true->Ze3 c.K (.type "list") (c.gv k)=some (Zh k [SW])
 Pu:∀k n x,Pu k n=some x->∃a C d es m t,c.gv k=.ref a/\c.gv 23=.ref C/\c.g.get? a=some (ak C d)/\c.g.get? d=some (Zj3 es m)/\n∈fieldsOf 23/\x<SN/\getL (ZU n) es=some (some (.str (ZU x) t))
section
variable{c:Cx}{s:cK}{U:US}{E:Value->cK->Prop}
theorem Wd.CS(W:Wd c)(m:VO c s.heap U):c.K.In s.heap:=W.kx.keeps λa o e=>(m.base a o e).h
theorem Wd.O6(W:Wd c)(h:fM k=true)(e:c.gv k=.ref C):Q_ c k C:=by
 obtain⟨C',e',h'⟩:=W.cls k h
 rw[e]at e';cases e';exact h'
theorem SG.hand:SG V n v vs->Zh7 v=true
 |⟨_⟩=>rfl
theorem Enc.hand(W:Wd c):∀{x:AV} {v:Value},Enc c.gv V x v->Zh7 v=true
 |.none,_=>λh=>h▸rfl
 |.bool _,_=>λh=>h▸rfl
 |.int _,_=>λh=>h.elim λY h=>h▸rfl
 |.str _,_=>λh=>h.2.elim λY h=>h▸rfl
 |.g k,_=>λh=>h▸W.hand k
 |.tup _,_=>λh=>h.elim λY h=>h.1.hand
 |.lst _,_=>λh=>h.elim λY h=>h.1.hand
 |.inst _ _,_=>λh=>h.elim λY h=>h.1.rec λY Y Y=>rfl
 |.bm _ _,_=>λh=>h.elim λY h=>h.1.rec λY=>rfl
 |.ref _,_=>λh=>h▸rfl
theorem WC(h1:h.get? a=some (ak C d))(h2:h.get? d=some (Zj3 es n)):InstAt h a (ak C d) C (some (Zj3 es n)):=⟨h1,rfl,rfl,h2⟩
theorem Vi{α:Type}{k:Nat}{v:α}:∀{l:List (Nat×α)},(l.map (·.1)).all fM=true->X7 k l=some v->fM k=true
 |(m,u)::r,h,e=>by
  obtain⟨h1,h2⟩:=cN.mp h
  have e:(bif cZ m k then some u else X7 k r)=some v:=e
  induction q:cZ m k using jB with
  |true=>rw[<-cW q];exact h1
  |false=>rw[q]at e;exact Vi h2 e
theorem Sv{α:Type}{k:Nat}{d:α}{l:List (Nat×α)}(hl:(l.map (·.1)).all fM=true)(h:(X7 k l).getD d=d->False):fM k=true:=by
 induction q:X7 k l using jO with
 |none=>exact(h (by rw[q];rfl)).elim
 |some v=>exact Vi hl q
theorem W8{k n:Nat}(h:n∈fieldsOf k):fM k=true:=Sv (l:=Ro) (d:=[]) (by rfl) λe=>by unfold fieldsOf at h;rw[e]at h;cases h
theorem Su{k n f:Nat}(h:Xq k n=some f):fM k=true:=Sv (l:=Uh) (d:=[]) (by rfl) λe=>by unfold Xq Kz at h;rw[e]at h;exact ZE h
theorem Lp{k n:Nat}{i:Int}(h:LP k n=some i):fM k=true:=by
 unfold LP at h
 induction q:cZ n 1 using jB with
 |false=>rw[q]at h;exact ZE h
 |true=>rw[q]at h;exact Vi (l:=QM) (by rfl) h
inductive Ss(c:Cx)(s:cK)(U:US)(k:Nat):Value->AV->List Zx6->Prop
 |mk {a C d es n x}:c.gv k=.ref C->s.heap.get? a=some (ak C d)->s.heap.get? d=some (Zj3 es n)->En c s.heap U x (.ref a)->Ss c s U k (.ref a) x es
set_option tactic.hygienic true in
theorem get_class(W:Wd c)(I:Inv c s U){k n:Nat}{v:Value}{x:AV}{es:List Zx6}{expr:Bool}{Q:fP}(O:Ss c s U k v x es)(hl:n<SN->getL (ZU n) es=some none)(h:Xv k n x λy=>Q y U):
 bT c.M c.A (getAttr v (ZU n) expr) (Ok c s U (pV c Q)) E s:=by
 cases O with|@mk ad _ _ _ _ _ hc h1 h2 e=>
 have kx:=W.CS I.Yr
 unfold Xv at h
 split at h
 ·rename_i i hi
  have O:=W.O6 (Lp hi) hc
  obtain⟨t,A⟩:=O.kQ n i hi
  exact get_value kx (WC h1 h2) O.xh (findObj_cls O.hd A.find A.get rfl A.cp (hl A.lt)) rfl (YS I ⟨_,h,t,rfl⟩)
 ·obtain⟨f,hf,q⟩:=X8 h
  have O:=W.O6 (Su hf) hc
  obtain⟨fa,F⟩:=O.SY n f hf
  have hl:=hl F.lt
  refine get_bind kx (WC h1 h2) O.xh (g:=.builtin "function.__get__") (a:=.ref fa) ?_ O.ga (Zm3 (fn_get (s:={s with toks:=s.toks+1}) kx (beq_iff_eq.mp F.fn) (handed_on rfl ?_)))
  ·obtain⟨cd,hc',hd⟩:=any_some O.hd
   unfold findObj
   rw[hc',Zt9,F.find,Zt9]
   dsimp only
   rw[F.get,Zt9]
   dsimp only
   rw[F.takes,Zt9]
   unfold PySem.W.ownOf
   rw[hd,if_pos rfl]
   dsimp only
   rw[lookIn_dict,hl,Zt9]
   dsimp only
   rw[F.cp,Bool.false_and,if_neg (by decide)]
  ·have ha:s.heap.get? s.heap.objs.size=none:=Y3 (cO _)
   have k:∀b o,s.heap.get? b=some o->(s.heap.push (methodObj (.ref fa) (.ref ad))).get? b=some o:=λb o e=>cA _ e
   obtain⟨I',N⟩:=I.grow (s':={s with heap:=s.heap.push (methodObj (.ref fa) (.ref ad)),toks:=s.toks+1}) k ⟨rfl,rfl,rfl⟩
   refine⟨⟨_,q,?_⟩,I',N⟩
   refine⟨.ref _,⟨?_⟩,e.mono λY Y v=>⟨k _ _ v.h,v.u,v.x⟩⟩
   rw[F.gv]
   exact⟨by heap_get,I.Yr.un ha,I.nx ha⟩
theorem T_(W:Wd c)(I:Inv c s U)(O:Ss c s U k a x es)(hn:n∈fieldsOf k)(hl:getL (ZU n) es=some (some v))(e:En c s.heap U y v)(q:Q y U):
 bT c.M c.A (getAttr a (ZU n) expr) (Ok c s U (pV c Q)) E s:=by
  refine hG ?_;intro PP
  obtain⟨hc,h1,h2,_⟩:=O
  have O:=W.O6 (W8 hn) hc
  exact get_value (W.CS I.Yr) (WC h1 h2) O.xh (findObj_own O.hd (O.fld n hn).2 rfl hl) (e.hand W) (YS I ⟨_,q,e⟩)
theorem Qm:∀{ns:List Nat},fH n ns=some i->n∈ns:=by
 intro ns
 induction ns generalizing i with
 |nil=>exact(ZE ·)
 |cons m ns ih=>
  intro h
  have h:(bif cZ m n then some 0 else(fH n ns).map (·+1))=some i:=h
  induction q:cZ m n using jB with
  |true=>rw[cW q];exact .head _
  |false=>
   rw[q]at h
   obtain⟨j,hj,_⟩:=bK.mp h
   exact .tail _ (ih hj)
theorem Sq(e:En c s.heap U (.inst k xs) v):∃es,Ss c s U k v (.inst k xs) es/\Xk c.gv (Vw c s.heap U) xs (fieldsOf k) es:=by
 have e':=e
 obtain⟨es,I,l⟩:=e'
 obtain⟨h0,h1,h2⟩:=I
 exact⟨es,⟨h0,h1.h,h2.h,e⟩,l⟩
theorem Ql(I:Inv c s U)(h1:U a=some (.inst k d))(h2:U d=some (.fields fs)):∃es,Ss c s U k (.ref a) (.ref a) es/\Xk c.gv (Vw c s.heap U) (fs.map (·.2)) (fs.map (·.1)) es:=by
 refine hG ?_;intro PP
 obtain⟨_,o,p1,C,hc,rfl⟩:=I.Yr.obj _ _ h1
 obtain⟨_,o,p2,es,n,rfl,l⟩:=I.Yr.obj _ _ h2
 exact⟨es,⟨hc,p1,p2,rfl⟩,l⟩
theorem JQ(W:Wd c)(I:Inv c s U){v:AV}{a:Value}{n:Nat}{expr:Bool}{Q:fP}(h:Kh v n (λx=>Q x U) U)(e:En c s.heap U v a):bT c.M c.A (getAttr a (ZU n) expr) (Ok c s U (pV c Q)) E s:=by
 induction v using jV with
 |inst k xs=>
  refine hG ?_;intro PP
  obtain⟨es,O,l⟩:=Sq e
  have h:match fH n (fieldsOf k)with|some i=>eN xs i λx=>Q x U|none=>Xv k n (.inst k xs) λx=>Q x U:=h
  have p:=O9 (n:=n) (ns:=fieldsOf k) (xs:=xs)
  induction q:fH n (fieldsOf k)using jO with
  |some i=>
   rw[q]at h p
   have hm:=Qm q
   refine hG ?_;intro PP
   obtain⟨y,e1,q⟩:=p _ h
   have hc:=O
   refine hG ?_;intro PP
   obtain⟨hc,_,_,_⟩:=hc
   rcases l.find ((W.O6 (W8 hm) hc).fld n hm).1 with⟨w,y',l1,l2,ey⟩|⟨_,l2⟩
   ·rw[e1]at l2;cases l2
    exact T_ W I O hm l1 ey q
   ·rw[e1]at l2;exact XD l2
  |none=>
   rw[q]at h p
   refine get_class W I O (λlt=>?_) h
   refine hG ?_;intro PP
   rcases l.find lt with⟨w,y',l1,l2,ey⟩|⟨l1,_⟩
   ·rw[p]at l2;exact ZE l2
   ·exact l1
 |ref r=>
  refine hG ?_;intro PP
  obtain⟨k,d,h1,h⟩:=NQ (show oI (U r) _ from h)
  obtain⟨fs,h2,h⟩:=Sz h
  obtain rfl:a=.ref r:=e
  refine hG ?_;intro PP
  obtain⟨es,O,l⟩:=Ql I h1 h2
  have F:=λlt=>l.find (n:=n) lt
  rw[Sy]at F
  induction q:fH n (fieldsOf k)using jO with
  |some i=>
   rw[q]at h
   have hm:=Qm q
   refine hG ?_;intro PP
   obtain⟨y,hy,q⟩:=X8 h
   have hc:=O
   refine hG ?_;intro PP
   obtain⟨hc,_,_,_⟩:=hc
   rcases F ((W.O6 (W8 hm) hc).fld n hm).1 with⟨w,y',l1,l2,ey⟩|⟨_,l2⟩
   ·rw[hy]at l2;cases l2
    exact T_ W I O hm l1 ey q
   ·rw[hy]at l2;exact XD l2
  |none=>
   rw[q]at h
   have h:xy fs n (Xv k n (.ref r) λx=>Q x U):=h
   unfold xy at h
   induction q:Vm fs n using jO with
   |some x=>rw[q]at h;exact h.elim
   |none=>
    rw[q]at h
    refine get_class W I O (λlt=>?_) h
    refine hG ?_;intro PP
    rcases F lt with⟨w,y',l1,l2,ey⟩|⟨l1,_⟩
    ·rw[q]at l2;exact ZE l2
    ·exact l1
 |g k=>
  refine hG ?_;intro PP
  obtain⟨x,hx,q⟩:=X8 (show oA (Pu k n) _ from h)
  obtain⟨b,C,d,es,m,t,h1,h2,h3,h4,h5,h6,h7⟩:=W.Pu _ _ _ hx
  dsimp only[PP]
  obtain rfl:a=c.gv k:=e
  have e':En c s.heap U (.g k) (.ref b):=h1.symm
  rw[h1]
  exact T_ (k:=23) (y:=.str x) W I ⟨h2,(I.Yr.base _ _ h3).h,(I.Yr.base _ _ h4).h,e'⟩ h5 h7 ⟨h6,t,rfl⟩ q
 |_=>exact h.elim
end
theorem Ok.at'{α:Type}{c:Cx}{s:cK}{U U':US}{P:α->Zz0->US->Prop}{a:α}{s':cK}(z:Inv c s' U'/\Nx c s U s' U')(p:P a s'.heap U'):Ok c s U P a s':=⟨p,z.1,z.2⟩
theorem Zm{n:Nat}(h:n<=LN):n<=sizeLine:=c7 h (by decide)
theorem ZF{s:cK}{h:Zz0}{t:Nat}:XF s {s with heap:=h,toks:=t}:=⟨rfl,rfl,rfl⟩
section
variable{c:Cx}{s:cK}{U:US}{E:Value->cK->Prop}
theorem O5(W:Wd c)(I:Inv c s U){v x:AV}{a b:Value}{n:Nat}{Q:US->Prop}(h:WW v n x Q U)(e:En c s.heap U v a)(ex:En c s.heap U x b):bT c.M c.A (setAttr a (ZU n) b) (Ok c s U (pU Q)) E s:=by
 refine hG ?_;intro PP
 obtain⟨r,rfl,h⟩:=Y6 h
 obtain⟨k,d,hr,h⟩:=NQ h
 obtain⟨fs,hd,hn,hlen,q⟩:=Sz h
 obtain rfl:a=.ref r:=e
 have kx:=W.CS I.Yr
 have hm:n∈fieldsOf k:=eE (Zz2.mp hn) λi hi=>Qm hi
 refine hG ?_;intro PP
 obtain⟨_,_,p1,C,hc,rfl⟩:=I.Yr.obj _ _ hr
 obtain⟨_,_,p3,es,m,rfl,l⟩:=I.Yr.obj _ _ hd
 have O:=W.O6 (W8 hm) hc
 refine hG ?_;intro PP
 obtain⟨hlt,hf⟩:=O.fld n hm
 refine set_plain kx (WC p1 p3) O.sa (osa_open (s:={s with toks:=s.toks+1}) kx (WC p1 p3) O.plain (r:=none) (by unfold takerIn;rw[hf];rfl) λbb=>?_)
 refine hG ?_;intro PP
 obtain⟨cd,hcd,hd'⟩:=any_some O.hd
 have hp:=putName_dict (ZU n) (Zu5 c.w.params (ZU n)) (.str (ZU n) (s.toks+1)) b es m
 have D':=Zz6 (h:=s.heap) (a:=d) (o:=Zj3 es m) (Obj.putName (ZU n) (Zu5 c.w.params (ZU n)) (.str (ZU n) (s.toks+1)) b) p3 (by rw[hp];rfl)
 rw[hp]at D'
 refine hG ?_;intro PP
 obtain⟨r1,r2⟩:=l.ref
 refine cY (b7 (cY (cY (wpAny_loadPart p1 (cY (looks_clsIn kx hcd _ _ _ _ (λY Y e=>e) ?_))))))
 rw[hd']
 refine b7 (a:=some d) (cY (b7 (cY ?_)))
 unfold nsSet
 refine cY (cY (wpAny_askSetting (b7 (cY (wpAny_mkText (cY (wpAny_loadPart p3 ?_)))))))
 dsimp only
 rw[aRefKeyMayBeTheName_at,show(!es.toArray.any (·.key.isStr (ZU n))&&es.toArray.any (·.refKey))=false by rw[Zk4,Zk4,r1,Bool.and_false]]
 refine wpAny_updatePart p3 (cY (wpAny_lookBehind D' (pastItsLine_dict ?_) (b7 ?_)))
 ·have:=O8 (nm:=ZU n) (hs:=Zu5 c.w.params (ZU n)) (k:=.str (ZU n) (s.toks+1)) (v:=b) (es:=es)
  rw[cM]at r2
  rw[b_,sizeLine_eq];exact Z7 this (Z7 (cV r2) (Z7 hlen))
 ·exact .at' (I.set (x:=.fields (Xc fs n x)) hd (Zw7 ..) ZF D' ⟨_,_,rfl,l.put hlt ex⟩) q
theorem FF(W:Wd c)(I:Inv c s U){v:AV}{a:Value}{n:Nat}{K:Nat->Prop}(h:MY v n K U)(e:En c s.heap U v a):
 ∃k fa,K k/\c.gv k=.ref fa/\∀{A:aC} {pl:Sem Bool} {Q:Value×List Value->cK->Prop} {E:Value->cK->Prop},Q (.ref fa,[a]) s->bT c.M A (getMethod a (ZU n) pl) Q E s:=by
 have fin:∀{k x es},Ss c s U k a x es->(n<SN->getL (ZU n) es=some none)->oA (Xq k n) K->∃k fa,K k/\c.gv k=.ref fa/\∀{A:aC} {pl:Sem Bool} {Q:Value×List Value->cK->Prop} {E:Value->cK->Prop},Q (.ref fa,[a]) s->bT c.M A (getMethod a (ZU n) pl) Q E s:=λO hl h=>by
  refine hG ?_;intro PP
  obtain⟨f,hf,q⟩:=X8 h
  obtain⟨hc,h1,h2,_⟩:=O
  have O:=W.O6 (Su hf) hc
  refine hG ?_;intro PP
  obtain⟨fa,F⟩:=O.SY n f hf
  refine⟨f,fa,q,F.gv,λq=>method_fn (W.CS I.Yr) (WC h1 h2) O.xh O.ga F.find (beq_iff_eq.mp F.fn) ?_ q⟩
  show Option.map (λx=>x.isSome) (lookIn (ZU n) (Zj3 _ _))=some false
  rw[lookIn_dict,hl F.lt];rfl
 induction v using jV with
 |inst k xs=>
  refine hG ?_;intro PP
  obtain⟨es,O,l⟩:=Sq e
  have h:match fH n (fieldsOf k)with|none=>oA (Xq k n) K|some _=>False:=h
  have p:=O9 (n:=n) (ns:=fieldsOf k) (xs:=xs)
  induction q:fH n (fieldsOf k)using jO with
  |some i=>rw[q]at h;exact h.elim
  |none=>
   rw[q]at h p
   refine fin O (λlt=>?_) h
   refine hG ?_;intro PP
   rcases l.find lt with⟨w,y',l1,l2,ey⟩|⟨l1,_⟩
   ·rw[p]at l2;exact ZE l2
   ·exact l1
 |ref r=>
  refine hG ?_;intro PP
  obtain⟨k,d,h1,h⟩:=NQ (show oI (U r) _ from h)
  obtain⟨fs,h2,h⟩:=Sz h
  obtain rfl:a=.ref r:=e
  refine hG ?_;intro PP
  obtain⟨es,O,l⟩:=Ql I h1 h2
  induction q:fH n (fieldsOf k)using jO with
  |some i=>rw[q]at h;exact h.elim
  |none=>
   rw[q]at h
   have h:xy fs n (oA (Xq k n) K):=h
   unfold xy at h
   induction q:Vm fs n using jO with
   |some x=>rw[q]at h;exact h.elim
   |none=>
    rw[q]at h
    refine fin O (λlt=>?_) h
    have F:=l.find (n:=n) lt
    rw[Sy]at F
    refine hG ?_;intro PP
    rcases F with⟨w,y',l1,l2,ey⟩|⟨l1,_⟩
    ·rw[q]at l2;exact ZE l2
    ·exact l1
 |_=>exact h.elim
end
section
variable{κ N_:Type}[DecidableEq N_]{gv:Nat->Value}{V:fD}{f:κ->N_}
structure FE(f:κ->N_)(eq:κ->κ->Bool)(S:κ->Prop):Prop where
 k:∀a b,S a->S b->(eq a b=true↔f a=f b)
noncomputable def NP{α:Type}(eq:κ->κ->Bool)(k:κ):List (κ×α)->Option α
 |[]=>none
 |(a,v)::r=>bif eq a k then some v else NP eq k r
noncomputable def JP{α:Type}(eq:κ->κ->Bool)(k:κ)(v:α):List (κ×α)->List (κ×α)
 |[]=>[(k,v)]
 |(a,x)::r=>bif eq a k then(a,v)::r else(a,x)::JP eq k v r
theorem EncD.get{eq:κ->κ->Bool}{S:κ->Prop}(H:FE f eq S){k:κ}(hk:S k){es:List (κ×AV)}:∀{kvs:List (N_×Value)},(∀e∈es,S e.1)->EncD gv V f es kvs->
 (∃v x,Zl3 kvs (f k)=some v/\NP eq k es=some x/\Enc gv V x v)\/(Zl3 kvs (f k)=none/\NP eq k es=none):=by
 induction es with
 |nil=>intro kvs Y h;obtain rfl:=h;exact .inr ⟨rfl,rfl⟩
 |cons p es ih=>
  intro kvs hs h
  obtain⟨a,y⟩:=p
  refine h.el λv r h ey l=>?_
  rw[h]
  have ih:=ih (λe m=>hs e (.tail _ m)) l
  have e1:Zl3 ((f a,v)::r) (f k)=if f a=f k then some v else Zl3 r (f k):=by
   unfold Zl3;rw[Zj1]
   by_cases q:f a=f k
   ·simp[q]
   ·simp[q]
  rw[e1]
  show(∃w x,_/\(bif eq a k then some y else NP eq k es)=some x/\_)\/(_/\(bif eq a k then some y else NP eq k es)=none)
  induction q:eq a k using jB with
  |true=>rw[if_pos ((H.k a k (hs _ (.head _)) hk).mp q)];exact .inl ⟨v,y,rfl,rfl,ey⟩
  |false=>rw[if_neg λz=>by rw[(H.k a k (hs _ (.head _)) hk).mpr z]at q;exact Wf q];exact ih
theorem EncD.put{eq:κ->κ->Bool}{S:κ->Prop}(H:FE f eq S){k:κ}(hk:S k){v:Value}{x:AV}(ex:Enc gv V x v){es:List (κ×AV)}:∀{kvs:List (N_×Value)},(kvs.map (·.1)).Nodup->(∀e∈es,S e.1)->EncD gv V f es kvs->EncD gv V f (JP eq k x es) (Zm2 kvs (f k) v):=by
 induction es with
 |nil=>intro kvs Y Y h;obtain rfl:=h;exact⟨v,[],rfl,ex,rfl⟩
 |cons p es ih=>
  intro kvs nd hs h
  obtain⟨a,y⟩:=p
  refine h.el λu r h ey l=>?_
  rw[h]at nd
  rw[h]
  obtain⟨n1,n2⟩:=bU.mp nd
  have ih:=ih n2 (λe m=>hs e (.tail _ m)) l
  show EncD gv V f (bif eq a k then(a,x)::es else(a,y)::JP eq k x es) _
  induction q:eq a k using jB with
  |true=>
   have q:=(H.k a k (hs _ (.head _)) hk).mp q
   have same:r.map (λkv=>if kv.1=f k then(kv.1,v)else kv)=r:=by
    conv=>rhs;rw[<-List.map_id r]
    exact Zt5 λp hp=>if_neg λ(z:p.1=f k)=>n1 (by show f a∈_;rw[q,<-z];exact Zt7 hp)
   have e:Zm2 ((f a,u)::r) (f k) v=(f a,v)::r:=by
    unfold Zm2;simp[q,same]
   rw[e];exact⟨v,r,rfl,ex,l⟩
  |false=>
   have q:f a≠f k:=λz=>by rw[(H.k a k (hs _ (.head _)) hk).mpr z]at q;exact Wf q
   have e:Zm2 ((f a,u)::r) (f k) v=(f a,u)::Zm2 r (f k) v:=by
    unfold Zm2
    simp only[Zl4,q,decide_false,Bool.false_or,Zp9,if_false]
    split<;>rfl
   rw[e];exact⟨u,_,rfl,ey,ih⟩
omit[DecidableEq N_]in
theorem EncD.len{es:List (κ×AV)}:∀{kvs:List (N_×Value)},EncD gv V f es kvs->kvs.length=es.length:=by
 induction es with
 |nil=>exactλh=>congrArg Zp1 h
 |cons e es ih=>exactλh=>h.el λY Y h Y l=>h▸congrArg (·+1) (ih l)
end
theorem Xj{α:Type}{k:Int}:∀{es:List (Int×α)},NP XI k es=Zr es k
 |[]=>rfl
 |(a,v)::r=>by show(bif XI a k then _ else _)=(bif XI a k then _ else _);rw[Xj]
theorem So{α:Type}{k:Int}{v:α}:∀{es:List (Int×α)},JP XI k v es=fJ es k v
 |[]=>rfl
 |(a,x)::r=>by show(bif XI a k then _ else _)=(bif XI a k then _ else _);rw[So]
theorem Sl{α:Type}{k:Nat}:∀{es:List (Nat×α)},NP cZ k es=Vm es k
 |[]=>rfl
 |(a,v)::r=>by show(bif cZ a k then _ else _)=(bif cZ a k then _ else _);rw[Sl]
theorem O4{α:Type}{k:Nat}{v:α}:∀{es:List (Nat×α)},JP cZ k v es=Xc es k v
 |[]=>rfl
 |(a,x)::r=>by show(bif cZ a k then _ else _)=(bif cZ a k then _ else _);rw[O4]
theorem Sk{a b:Int}:XI a b=true↔a=b:=by
 induction a using jI<;>induction b using jI<;>first
  |exact⟨λh=>congrArg _ (cW h),λh=>by injection h with h;subst h;exact bY _⟩
  |exact⟨(Zv ·),(nomatch·)⟩
theorem O3:FE (id:Int->Int) XI λY=>True:=⟨λY Y Y Y=>Sk⟩
theorem CQ:FE ZU cZ λk=>k<SN:=⟨λY Y ha hb=>⟨λh=>congrArg ZU (cW h),λh=>by rw[WR ha hb h];exact bY _⟩⟩
section
variable{c:Cx}{s:cK}{U:US}{E:Value->cK->Prop}
theorem Sj{k:Int}{t:Tok}:(Zp0 c.prog c.w).is k (.int k t)=true:=intKind_is c.prog c.w k t
theorem JO{k:Nat}{t:Tok}:(strKind c.prog c.w).is (ZU k) (.str (ZU k) t)=true:=strKind_is c.prog c.w _ t
theorem UB(W:Wd c)(I:Inv c s U){d:Ad}{o:AO}(h:U d=some o):(d==sysModules)=false:=by
 rw[beq_eq_false_iff_ne]
 rintro rfl
 obtain⟨_,ho⟩:=W.low
 rw[(I.Yr.base _ _ ho).u]at h;exact ZE h
theorem MK{κ:Type}[DecidableEq κ]{prog:Zw8}{w:Zt2}{K:PySem.KeyKind prog w κ}{o:Obj}{kvs:List (κ×Value)}(q:Zj2 K o kvs):(kvs.map (·.1)).Nodup:=eE q λ_ Z=>eE Z λ_ Z=>aE Z λ_ Z=>aE Z λ_ Z=>aE Z λ_ Z=>aE Z λ_ nd=>nd
inductive vn(c:Cx)(s:cK)(U:US)(d:Ad)(es:List (Int×AV)):Prop
 |mk {kvs}:s.heap.DictOf (Zp0 c.prog c.w) d kvs->(kvs.map (·.1)).Nodup->es.length<=LN->EncD c.gv (Vw c s.heap U) id es kvs->vn c s U d es
inductive vm(c:Cx)(s:cK)(U:US)(d:Ad)(es:List (Nat×AV)):Prop
 |mk {kvs}:s.heap.DictOf (strKind c.prog c.w) d kvs->(kvs.map (·.1)).Nodup->es.length<=LN->(∀e∈es,e.1<SN)->EncD c.gv (Vw c s.heap U) ZU es kvs->vm c s U d es
theorem Sh(I:Inv c s U){d:Ad}{es:List (Int×AV)}(h:U d=some (.di es)):vn c s U d es:=
 (I.Yr.obj d _ h).2.elim λY p=>p.2.elim λY q=>⟨Zz5.mpr ⟨_,p.1,q.1⟩,MK q.1,q.2.1,q.2.2⟩
theorem CP(I:Inv c s U){d:Ad}{es:List (Nat×AV)}(h:U d=some (.ds es)):vm c s U d es:=
 (I.Yr.obj d _ h).2.elim λY p=>p.2.elim λY q=>⟨Zz5.mpr ⟨_,p.1,q.1⟩,MK q.1,q.2.1,q.2.2.1,q.2.2.2⟩
inductive A4(c:Cx)(s:cK)(U:US)(a:Ad)(xs:List AV):Prop
 |mk {vs n}:s.heap.get? a=some (Xe "list" vs n)->xs.length<=LN->V5 c s.heap U xs vs->A4 c s U a xs
theorem Vs(I:Inv c s U){a:Ad}{xs:List AV}(h:U a=some (.list xs)):A4 c s U a xs:=(I.Yr.obj a _ h).2.elim λY p=>p.2.elim λY q=>q.elim λY q=>⟨q.1▸p.1,q.2.1,q.2.2⟩
theorem TG(I:Inv c s U){v:AV}{a:Value}{K:List AV->Prop}(h:aL U v K)(e:En c s.heap U v a):∃xs p,K xs/\a=.ref p/\A4 c s U p xs:=by
 induction v using jV with
 |lst xs=>obtain⟨vs,⟨h1⟩,l,q⟩:=e;exact⟨xs,_,h,rfl,h1.h,l,q⟩
 |ref r=>obtain⟨xs,hr,h⟩:=WE h;exact⟨xs,r,h,e,Vs I hr⟩
 |_=>exact h.elim
theorem is_list{h:Zz0}{a:aV}{vs:List Value}{n:Nat}(e:h.get? a=some (Xe "list" vs n)):h.IsList a vs.toArray:=⟨_,e,rfl,_,rfl⟩
theorem is_tup{h:Zz0}{a:aV}{vs:List Value}{n:Nat}(e:h.get? a=some (Xe "tuple" vs n)):h.IsTuple a vs.toArray:=⟨_,e,rfl,_,rfl⟩
theorem Rx{a:aV}{items:Array Value}{n:Nat}{k:Int}{t:Tok}{v:Value}{Q:Unit->cK->Prop}(ho:s.heap.get? a=some {cls:=.type "list",data:=.seq items n})(h0:0<=k)(hfit:k<2^63)(hn:k<items.size)
 (hQ:Q () {s with heap:=s.heap.update a (Zw2 (·.setIfInBounds k.toNat v))}):bT c.M c.A (setItem (.ref a) (.int k t) v) Q E s:=by
 have hl:s.heap.IsList a items:=⟨_,ho,rfl,n,rfl⟩
 unfold setItem
 refine bJ (cY (wpAny_sequenceKey hl.typeIs (by decide) ?_))
 refine cY (wpAny_callSpecial?_slot (name:=bN "__setitem__") hl.typeIs slot_list_setitem
  (wpAny_call_entry slot_list_setitem hl.typeIs entry_list_setitem ?_ (args_list_setitem _ _ _)))
 show bT _ _ (Builtin.List.listSubscript? (.int k t)>>=_) _ _ s
 refine cY (wpAny_listSubscript_int (fitsIndex_of h0 hfit) ?_)
 clear hfit
 obtain⟨j,rfl⟩:=Zl2 h0
 have hj:j<items.size:=Zy5.mp hn
 have hx':items[j]?=some items[j]:=Zn1 hj
 show bT _ _ ((seqItemAt a j>>=λr=>pure (r.map (j,·)))>>=_) _ _ s
 refine cY (cY (wpAny_seqItemAt ho rfl (b7 ?_)))
 rw[hx']
 show bT _ _ (setSeqItemAt a j v>>=_) _ _ s
 refine cY (wpAny_setSeqItemAt ho rfl ?_)
 first
  |exact cY (b7 (b7 ⟨.none,rfl,b7 hQ⟩))
  |exact b7 ⟨.none,rfl,b7 hQ⟩
theorem T9{α:Type}{k:Int}{v:α}:∀{es:List (Int×α)},(fJ es k v).length<=es.length+1
 |[]=>cO _
 |(a,x)::r=>by
  show(bif XI a k then(a,v)::r else(a,x)::fJ r k v).length<=_
  induction XI a k using jB with
  |true=>exact bH _
  |false=>exact cu (T9 (es:=r))
theorem O2{α:Type}{k:Nat}{v:α}:∀{es:List (Nat×α)},(Xc es k v).length<=es.length+1
 |[]=>cO _
 |(a,x)::r=>by
  show(bif cZ a k then(a,v)::r else(a,x)::Xc r k v).length<=_
  induction cZ a k using jB with
  |true=>exact bH _
  |false=>exact cu (O2 (es:=r))
theorem O1{α:Type}{k:Nat}{v:α}:∀{es:List (Nat×α)},(∀e∈es,e.1<SN)->k<SN->∀e∈Xc es k v,e.1<SN
 |[],_,hk=>λe m=>cP.mp m▸hk
 |(a,x)::r,hs,hk=>by
  show∀e∈(bif cZ a k then(a,v)::r else(a,x)::Xc r k v),e.1<SN
  induction cZ a k using jB with
  |true=>exactλe m=>(cJ.mp m).elim (λz=>z▸(hs _ (.head _):a<SN)) λz=>hs e (.tail _ z)
  |false=>exactλe m=>(cJ.mp m).elim (λz=>z▸(hs _ (.head _):a<SN)) λz=>O1 (λe m=>hs e (.tail _ m)) hk e z
theorem O0(W:Wd c)(I:Inv c s U){o:BO}{v i x:AV}{va vi vx:Value}{Q:US->Prop}(h:QI o v i x Q U)(ea:En c s.heap U v va)(ei:En c s.heap U i vi)(ex:En c s.heap U x vx):bT c.M c.A (setItem va vi vx) (Ok c s U (pU Q)) E s:=by
 induction o using jQ with
 |sL=>
  refine hG ?_;intro PP
  obtain⟨k,rfl,h⟩:=Yx h
  obtain⟨r,rfl,h⟩:=Y6 h
  obtain⟨xs,hr,h⟩:=WE h
  obtain⟨t,rfl⟩:=ei
  obtain rfl:va=.ref r:=ea
  induction k using jI with
  |negSucc=>exact h.elim
  |ofNat j=>
  refine hG ?_;intro PP
  obtain⟨h1,q⟩:=h
  cases Vs I hr with|@mk vs n ho ll el=>
  have hj:j<vs.toArray.size:=by rw[b_,el.len];exact h1
  refine Rx (k:=.ofNat j) ho (aQ j) (Int.lt_of_lt_of_le (Zy5.mpr h1) (Zt4 (Zw9.mpr ll) (by decide+kernel))) (Zy5.mpr hj) ?_
  have hf:Zw2 (·.setIfInBounds (Zt0 j).toNat vx) (Xe "list" vs n)=Xe "list" (vs.set j vx) n:=by simp[Zw2]
  exact .at' (I.set (x:=.list (xs.set j x)) hr (Zw7 ..) ZF (Zz6 _ ho (by rw[hf];rfl)) ⟨_,n,hf,by rw[aB];exact ll,el.set j ex⟩) q
 |xQ=>
  refine hG ?_;intro PP
  obtain⟨k,rfl,h⟩:=Yx h
  obtain⟨r,rfl,h⟩:=Y6 h
  obtain⟨es,hr,h1,q⟩:=WD h
  obtain⟨t,rfl⟩:=ei
  obtain rfl:va=.ref r:=ea
  cases Sh I hr with|@mk kvs hd nd ll el=>
  refine wpAny_setItem_pairs Sj hd (λh' hd' hs=>?_) (Zm (by rw[el.len];exact ll))
  refine hG ?_;intro PP
  obtain⟨ob,ho,hd'⟩:=Zz5.mp hd'
  have:=el.put O3 (k:=k) trivial ex nd λY Y=>trivial
  rw[So]at this
  exact .at' (I.set (x:=.di (fJ es k x)) hr hs ZF ho ⟨_,hd',c7 T9 h1,this⟩) q
 |xP=>
  refine hG ?_;intro PP
  obtain⟨k,rfl,h⟩:=VN h
  obtain⟨r,rfl,h⟩:=Y6 h
  obtain⟨es,hr,h1,q⟩:=ML h
  obtain⟨hk,t,rfl⟩:=ei
  obtain rfl:va=.ref r:=ea
  cases CP I hr with|@mk kvs hd nd ll hs' el=>
  refine wpAny_setItem_pairs JO hd (λh' hd' hs=>?_) (Zm (by rw[el.len];exact ll))
  refine hG ?_;intro PP
  obtain⟨ob,ho,hd'⟩:=Zz5.mp hd'
  have:=el.put CQ hk ex nd hs'
  rw[O4]at this
  exact .at' (I.set (x:=.ds (Xc es k x)) hr hs ZF ho ⟨_,hd',c7 O2 h1,O1 hs' hk,this⟩) q
 |_=>exact h.elim
end
open Classical in
noncomputable def VD(c:Cx)(h:Zz0)(U:US):Value->Nat
 |.none=>0
 |.bool _=>1
 |.int _ _=>2
 |.str _ _=>3
 |.ref a=>match U a with
  |some _=>4
  |none=>match h.get? a with
   |some o=>if o.cls=.type "tuple"then 5 else if o.cls=.type "list"then 6 else if o.cls=c.gv 23 then 8 else 7
   |none=>9
 |_=>9
noncomputable def AV.code:AV->Nat
 |.none=>0
 |.bool _=>1
 |.int _=>2
 |.str _=>3
 |.ref _=>4
 |.tup _=>5
 |.lst _=>6
 |.inst _ _=>7
 |.g _=>8
 |.bm _ _=>9
section
variable{c:Cx}{s:cK}{U:US}{E:Value->cK->Prop}
theorem Qk(v:Vw c h U a o):VD c h U (.ref a)=if o.cls=.type "tuple"then 5 else if o.cls=.type "list"then 6 else if o.cls=c.gv 23 then 8 else 7:=by
 show(match U a with|some _=>4|none=>match h.get? a with|some o=>_|none=>9)=_
 rw[v.u,v.h]
theorem oG(h:(a&&b&&d)=true):a=true/\b=true/\d=true:=aE (cN.mp h) λh k=>aE (cN.mp h) λh l=>⟨h,l,k⟩
theorem UA(h:VU U (.inst k xs)=true):k≠23/\fM k=true/\VT U xs=true:=by
 obtain⟨a,b,d⟩:=oG h
 exact⟨λe=>(by rw[e]at a;exact Zv a),b,d⟩
theorem Zg(W:Wd c)(I:Inv c s U)(hx:VU U x=true)(e:En c s.heap U x v):VD c s.heap U v=x.code:=by
 induction x using jV with
 |none=>rw[show v=.none from e];rfl
 |bool=>rw[show v=.bool _ from e];rfl
 |int=>obtain⟨t,rfl⟩:=e;rfl
 |str=>obtain⟨_,t,rfl⟩:=e;rfl
 |tup=>obtain⟨vs,⟨h⟩,_⟩:=e;rw[Qk h,if_pos rfl];rfl
 |lst=>obtain⟨vs,⟨h⟩,_⟩:=e;rw[Qk h,if_neg (λz=>absurd (Zu4 z) (by decide)),if_pos rfl];rfl
 |bm=>exact Zv hx
 |ref a=>
  rw[show v=.ref a from e]
  refine hG ?_;intro PP
  obtain⟨o,ho⟩:=Zz2.mp hx
  show(match U a with|some _=>4|none=>_)=4
  rw[ho]
 |g k=>
  refine hG ?_;intro PP
  obtain⟨a,C,d,es,n,h1,h2,h3,_⟩:=W.sp k hx
  dsimp only[PP]
  rw[show v=c.gv k from e,h1,Qk (I.Yr.base _ _ h3),if_neg (nomatch·),if_neg (nomatch·),if_pos h2.symm];rfl
 |inst k xs=>
  refine hG ?_;intro PP
  obtain⟨n1,n2,_⟩:=UA hx
  obtain⟨es,⟨h0,h1,h2⟩,_⟩:=e
  dsimp only[PP]
  rw[Qk h1,if_neg (nomatch·),if_neg (nomatch·),if_neg λz=>n1 (W.FH k 23 n2 rfl (h0.trans z))];rfl
theorem MJ(a:SG (Vw c h U) cls v vs)(b:SG (Vw c h U) cls v ws):vs=ws:=by
 cases a with|mk a=>cases b with|mk b=>
 have e:=cU (a.h.symm.trans b.h)
 injection e with _ _ e _
 injection e with e _
 exact Array.toList_inj.mpr e
mutual
theorem Uz(W:Wd c)(I:Inv c s U):∀(x:AV) {y:AV} {v:Value},VU U x=true->VU U y=true->En c s.heap U x v->En c s.heap U y v->x=y
 |.none,y,v,hx,hy,ex,ey=>by
  have q:=(Zg W I hx ex).symm.trans (Zg W I hy ey)
  induction y using jV<;>first|exact absurd q (aW rfl)|rfl
 |.bool b,y,v,hx,hy,ex,ey=>by
  have q:=(Zg W I hx ex).symm.trans (Zg W I hy ey)
  induction y using jV<;>first|exact absurd q (aW rfl)|(have e:Value.bool b=.bool _:=ex.symm.trans ey;injection e with e;rw[e])
 |.int i,y,v,hx,hy,ex,ey=>by
  have q:=(Zg W I hx ex).symm.trans (Zg W I hy ey)
  obtain⟨t,e1⟩:=ex
  induction y using jV<;>first|exact absurd q (aW rfl)|(obtain⟨u,e⟩:=ey;have e:=e1.symm.trans e;injection e with e;rw[e])
 |.str i,y,v,hx,hy,ex,ey=>by
  have q:=(Zg W I hx ex).symm.trans (Zg W I hy ey)
  obtain⟨l1,t,e1⟩:=ex
  induction y using jV<;>first|exact absurd q (aW rfl)|(obtain⟨l2,u,e⟩:=ey;have e:=e1.symm.trans e;injection e with e;rw[WR l1 l2 e])
 |.ref a,y,v,hx,hy,ex,ey=>by
  have q:=(Zg W I hx ex).symm.trans (Zg W I hy ey)
  induction y using jV<;>first|exact absurd q (aW rfl)|(have e:Zq6 a=.ref _:=ex.symm.trans ey;injection e with e;rw[e])
 |.g k,y,v,hx,hy,ex,ey=>by
  have q:=(Zg W I hx ex).symm.trans (Zg W I hy ey)
  induction y using jV<;>first|exact absurd q (aW rfl)|exact congrArg AV.g (W.YO _ _ hx hy (ex.symm.trans ey))
 |.tup xs,y,v,hx,hy,ex,ey=>by
  have q:=(Zg W I hx ex).symm.trans (Zg W I hy ey)
  obtain⟨vs,e1,_,l1⟩:=ex
  induction y using jV<;>first|exact absurd q (aW rfl)|(obtain⟨ws,e2,_,l2⟩:=ey;exact congrArg AV.tup (Sg W I xs hx hy l1 (MJ e1 e2▸l2)))
 |.lst xs,y,v,hx,hy,ex,ey=>by
  have q:=(Zg W I hx ex).symm.trans (Zg W I hy ey)
  obtain⟨vs,e1,_,l1⟩:=ex
  induction y using jV<;>first|exact absurd q (aW rfl)|(obtain⟨ws,e2,_,l2⟩:=ey;exact congrArg AV.lst (Sg W I xs hx hy l1 (MJ e1 e2▸l2)))
 |.bm _ _,_,_,hx,_,_,_=>Zv hx
 |.inst k xs,y,v,hx,hy,ex,ey=>by
  have q:=(Zg W I hx ex).symm.trans (Zg W I hy ey)
  obtain⟨es,e1,l1⟩:=ex
  induction y using jV<;>first|exact absurd q (aW rfl)|skip
  obtain⟨es',e2,l2⟩:=ey
  cases e1 with|mk a1 a2 a3=>cases e2 with|mk b1 b2 b3=>
  have e:=cU (a2.h.symm.trans b2.h)
  injection e with e1 e2 e3 _
  obtain rfl:=W.FH _ _ (UA hx).2.1 (UA hy).2.1 (a1.trans (e1.trans b1.symm))
  injection e2 with e2
  subst e2
  have e:=cU (a3.h.symm.trans b3.h)
  injection e with _ _ e _
  injection e with e _
  have e:es=es':=Array.toList_inj.mpr e
  rw[<-e]at l2
  exact congrArg (AV.inst k) (OZ W I xs (UA hx).2.2 (UA hy).2.2 l1 l2)
theorem Sg(W:Wd c)(I:Inv c s U):∀(xs:List AV) {ys:List AV} {vs:List Value},VT U xs=true->VT U ys=true->V5 c s.heap U xs vs->V5 c s.heap U ys vs->xs=ys
 |[],ys,_,_,_,h,k=>by
  have e:=h▸k.len
  induction ys using jL with
  |nil=>rfl
  |cons=>cases e
 |x::xs,ys,_,hx,hy,h,k=>by
  have e:=h.len.symm.trans k.len
  induction ys using jL with
  |nil=>cases e
  |cons y ys=>
  refine hG ?_;intro PP
  obtain⟨v,vs,e1,a1,l1⟩:=h
  obtain⟨w,ws,e2,a2,l2⟩:=k
  obtain⟨x1,x2⟩:=cN.mp hx
  obtain⟨y1,y2⟩:=cN.mp hy
  dsimp only[PP]
  rw[e1]at e2
  injection e2 with e2 e3
  rw[Uz W I x x1 y1 a1 (e2▸a2),Sg W I xs x2 y2 l1 (e3▸l2)]
theorem OZ(W:Wd c)(I:Inv c s U):∀(xs:List AV) {ys:List AV} {ns:List Nat} {es:List Zx6},VT U xs=true->VT U ys=true->Xk c.gv (Vw c s.heap U) xs ns es->Xk c.gv (Vw c s.heap U) ys ns es->xs=ys
 |[],ys,_,_,_,_,h,k=>by
  have e:=h.ref.2.symm.trans k.ref.2
  induction ys using jL with
  |nil=>rfl
  |cons=>cases e
 |x::xs,ys,_,_,hx,hy,h,k=>by
  have e:=h.ref.2.symm.trans k.ref.2
  induction ys using jL with
  |nil=>cases e
  |cons y ys=>
  refine hG ?_;intro PP
  obtain⟨_,_,d,es,n1,e1,_,a1,l1⟩:=h
  obtain⟨_,_,d',es',n2,e2,_,a2,l2⟩:=k
  obtain⟨x1,x2⟩:=cN.mp hx
  obtain⟨y1,y2⟩:=cN.mp hy
  dsimp only[PP]
  rw[e1]at e2;rw[n1]at n2
  injection e2 with e2 e3
  injection n2 with _ n3
  rw[Uz W I x x1 y1 a1 (e2▸a2),OZ W I xs x2 y2 l1 (by rw[n3,e3];exact l2)]
end
end
section
variable{c:Cx}{s:cK}{U:US}{E:Value->cK->Prop}
theorem CO(I:Inv c s U)(hx:∀V v,SG V cls v vs->xs.length<=LN->ZW c.gv V xs vs->Enc c.gv V x v)(hl:xs.length<=LN)(q:Q x U)(el:V5 c s.heap U xs vs)
 (k:∀b o,s.heap.get? b=some o->s'.heap.get? b=some o) (r:XF s s') (ha:s.heap.get? a=none) (ho:s'.heap.get? a=some (Xe cls vs n)):Ok c s U (pV c Q) (.ref a) s':=
  .at' (I.grow k r) ⟨x,q,hx _ _ ⟨⟨ho,I.Yr.un ha,I.nx ha⟩⟩ hl (el.mono λY Y v=>⟨k _ _ v.h,v.u,v.x⟩)⟩
theorem T8(I:Inv c s U)(hl:xs.length<=LN)(q:Q (.lst xs) U)(el:V5 c s.heap U xs vs)
 (k:∀b o,s.heap.get? b=some o->s'.heap.get? b=some o) (r:XF s s') (ha:s.heap.get? a=none) (ho:s'.heap.get? a=some (Xe "list" vs n)):Ok c s U (pV c Q) (.ref a) s':=
  CO (x:=.lst xs) I (λY Y a b d=>⟨_,a,b,d⟩) hl q el k r ha ho
theorem JN(I:Inv c s U)(hl:xs.length<=LN)(q:Q (.tup xs) U)(el:V5 c s.heap U xs vs)
 (k:∀b o,s.heap.get? b=some o->s'.heap.get? b=some o) (r:XF s s') (ha:s.heap.get? a=none) (ho:s'.heap.get? a=some (Xe "tuple" vs n)):Ok c s U (pV c Q) (.ref a) s':=
  CO (x:=.tup xs) I (λY Y a b d=>⟨_,a,b,d⟩) hl q el k r ha ho
theorem Sf(I:Inv c s U)(q:∀a,U a=none->Q (.ref a) (upd U a (some x)))(k:∀b o,s.heap.get? b=some o->s'.heap.get? b=some o)(r:XF s s')(ha:s.heap.get? a=none)(ho:s'.heap.get? a=some ob)
 (e:Wi c (Vw c s.heap U) x ob):Ok c s U (pV c Q) (.ref a) s':=
  aE (I.made k r ha ho e) λu z=>.at' z ⟨_,q a u,rfl⟩
theorem JM(I:Inv c s U)(hl:xs.length<=LN)(q:∀a,U a=none->Q (.ref a) (upd U a (some (.list xs))))(el:V5 c s.heap U xs vs)
 (k:∀b o,s.heap.get? b=some o->s'.heap.get? b=some o) (r:XF s s') (ha:s.heap.get? a=none) (ho:s'.heap.get? a=some (Xe "list" vs n)):Ok c s U (pV c Q) (.ref a) s':=Sf I q k r ha ho ⟨vs,n,rfl,hl,el⟩
theorem Y0:∀b x,s.heap.get? b=some x->(s.heap.push o).get? b=some x:=λY Y e=>cA _ e
theorem Zz{h:Zz0}:h.get? h.objs.size=none:=Y3 (cO _)
theorem Se(h:x.natAbs<2^63):Zg0 x<=64:=by
 unfold Zg0
 split
 ·decide
 ·rename_i q
  have:=(Nat.log2_lt (by simpa using q)).mpr h
  exact bZ this
theorem XE{v w:AV}{va vb:Value}{K:Int->Int->Prop}(h:ii v w K)(ea:En c s.heap U v va)(eb:En c s.heap U w vb):∃x y t u,va=.int x t/\vb=.int y u/\K x y:=by
 refine hG ?_;intro PP
 obtain⟨x,rfl,h1⟩:=Yx h
 obtain⟨y,rfl,h2⟩:=Yx h1
 obtain⟨t,rfl⟩:=ea
 obtain⟨u,rfl⟩:=eb
 exact⟨x,y,t,u,rfl,rfl,h2⟩
section
variable{v w:AV}{va vb:Value}{Q:fP}
abbrev NO(c:Cx)(E:Value->cK->Prop)(s:cK)(U:US)(o:BO)(op:PySem.Operator):Prop:=∀{v w:AV} {va vb:Value} {Q:fP},bA o v w Q U->En c s.heap U v va->En c s.heap U w vb->bT c.M c.A (binaryOp op va vb) (Ok c s U (pV c Q)) E s
theorem Sd(I:Inv c s U)(q:Q (.int z) U):Ok c s U (pV c Q) (.int z t) {s with toks:=u}:=YS I ⟨_,q,_,rfl⟩
theorem FD(I:Inv c s U):NO c E s U .add .Add:=λh ea eb=>by obtain⟨x,y,t,u,rfl,rfl,q⟩:=XE h ea eb;exact PyProof.Rows.add_int (Sd I (q _ rfl))
theorem FA(I:Inv c s U):NO c E s U .sub .Sub:=λh ea eb=>by obtain⟨x,y,t,u,rfl,rfl,q⟩:=XE h ea eb;exact PyProof.Rows.sub_int (Sd I (q _ rfl))
theorem Fz(I:Inv c s U):NO c E s U .mul .Mult:=λh ea eb=>by
 obtain⟨x,y,t,u,rfl,rfl,z,q⟩:=XE h ea eb;exact PyProof.Rows.mul_int (Sd I (q _ rfl)) (z.elim (λz=>IntMulOk.of_left (Se z)) λz=>IntMulOk.of_right (Se z))
theorem JL(I:Inv c s U):NO c E s U .fdiv .FloorDiv:=λh ea eb=>by
 refine hG ?_;intro PP
 obtain⟨x,y,t,u,rfl,rfl,z,q⟩:=XE h ea eb;exact PyProof.Rows.floordiv_int z.1 (Sd I (q _ rfl)) (.inl (PyProof.noPylong_small z.2))
theorem Fy(I:Inv c s U):NO c E s U .mod .Mod:=λh ea eb=>by obtain⟨x,y,t,u,rfl,rfl,z,q⟩:=XE h ea eb;exact PyProof.Rows.mod_int' z (Sd I (q _ rfl))
theorem Fw(I:Inv c s U):NO c E s U .cat .Add:=λh ea eb=>by
 refine hG ?_;intro PP
 obtain⟨xs,rfl,h⟩:=XA h
 obtain⟨ys,rfl,hn,q⟩:=XA h
 obtain⟨vs,⟨h1⟩,l1,e1⟩:=ea
 obtain⟨ws,⟨h2⟩,l2,e2⟩:=eb
 have e:vs.toArray++ws.toArray=(vs++ws).toArray:=Zf9 ..
 refine concat_meets ⟨_,h1.h,rfl⟩ ⟨_,h2.h,rfl⟩ noFill_list_add seq_list_add PySem.F.slot_list_add PySem.F.entry_list_add (PySem.F.args_list_add_2 _ _)
  (list_addW _ _ vs.toArray ws.toArray _ _ none none #[] #[] (by rw[b_,b_,e1.len,e2.len];exact Zm hn)) ⟨h1.h,h2.h,?_⟩
 rw[e]
 exact T8 I (by rw[cS];exact hn) q (e1.app e2) Y0 ZF Zz (bR _ rfl)
end
structure W2(c:Cx):Prop where
 refs:∀{A:aC} {s:cK} {C x y dx dy:aV},c.gv 31=.ref C->(∀a o,c.g.get? a=some o->s.heap.get? a=some o)->s.heap.get? x=some (ak C dx)->s.heap.get? y=some (ak C dy)->A.units<Zh2->RcAt A s (.ref x) (.ref y) (x==y)
 A3:∀{A:aC} {s:cK} {C x t dx:aV} {its:Array Value},c.gv 31=.ref C->(∀a o,c.g.get? a=some o->s.heap.get? a=some o)->s.heap.get? x=some (ak C dx)->s.heap.IsTuple t its->A.units<Zh2->RcAt A s (.ref x) (.ref t) false
 A2:∀{A:aC} {s:cK} {C x t dx:aV} {its:Array Value},c.gv 31=.ref C->(∀a o,c.g.get? a=some o->s.heap.get? a=some o)->s.heap.get? x=some (ak C dx)->s.heap.IsTuple t its->A.units<Zh2->RcAt A s (.ref t) (.ref x) false
theorem S7(I:Inv c s U)(h:Vl U x=true):∃C d,c.gv 31=.ref C/\s.heap.get? x=some (ak C d):=by
 unfold Vl at h
 induction e:U x using jO with
 |none=>rw[e]at h;exact Zv h
 |some o=>
 rw[e]at h
 induction o using jA with
 |inst k d=>
  obtain rfl:=cW h
  refine hG ?_;intro PP
  obtain⟨_,_,p,C,hc,rfl⟩:=I.Yr.obj x _ e
  exact⟨C,d,hc,p⟩
 |_=>exact Zv h
theorem Sa:∀{xs:List AV} {r:Bool},(∀a∈xs,∀r,f a a=some r->r=true)->X0 f xs xs=some r->r=true
 |[],_,_,h=>(cU h).symm
 |x::xs,r,ih,h=>by
  have h:(match f x x,X0 f xs xs with|some a,some b=>some (a&&b)|_,_=>none)=some r:=h
  induction h1:f x x using jO with
  |none=>rw[h1]at h;exact ZE h
  |some a=>
   induction h2:X0 f xs xs using jO with
   |none=>rw[h1,h2]at h;exact ZE h
   |some b=>
    rw[h1,h2]at h
    rw[<-cU h,ih x (.head _) a h1,Sa (λa m=>ih a (.tail _ m)) h2];rfl
theorem OY:∀(n:Nat) (a:AV) (r:Bool),UX U n a a=some r->r=true
 |n+1,a,r,h=>by
  have ih:=OY n
  induction a using jV with
  |bool b=>rw[<-cU (show some (b==b)=some r from h)];exact beq_self_eq_true b
  |int i=>rw[<-cU (show some (XI i i)=some r from h)];exact Sk.mpr rfl
  |str i=>rw[<-cU (show some (cZ i i)=some r from h)];exact bY i
  |ref x=>
   have h:(bif Vl U x&&Vl U x then some (cZ x x)else none)=some r:=h
   induction q:Vl U x&&Vl U x using jB with
   |false=>rw[q]at h;exact ZE h
   |true=>rw[q]at h;rw[<-cU (show some (cZ x x)=some r from h)];exact bY x
  |tup xs=>
   obtain⟨b,h',rfl⟩:=bK.mp (show(X0 (UX U n) xs xs).map (·&&cZ xs.length xs.length)=some r from h)
   rw[Sa (λa Y=>ih a) h',bY];rfl
  |lst xs=>
   have h:(bif cZ xs.length xs.length then X0 (UX U n) xs xs else some false)=some r:=h
   rw[bY]at h
   exact Sa (λa Y=>ih a) h
  |_=>exact ZE h
theorem OX(f:AV->AV->Option Bool):∀{xs ys:List AV} {r:Bool},X0 f xs ys=some r->∃e:Nat->Bool,(∀j x y,xs[j]?=some x->ys[j]?=some y->f x y=some (e j))/\r=(Zw3 (min xs.length ys.length)).all e
 |[],_,r,h=>⟨λY=>true,λY Y Y h=>(ZE h),by rw[Zs9,Nat.zero_min];exact(cU h).symm⟩
 |_::_,[],r,h=>⟨λY=>true,λY Y Y Y h=>(ZE h),by rw[Zs9,Nat.min_zero];exact(cU h).symm⟩
 |x::xs,y::ys,r,h=>by
  have h:(match f x y,X0 f xs ys with|some a,some b=>some (a&&b)|_,_=>none)=some r:=h
  induction h1:f x y using jO with
  |none=>rw[h1]at h;exact ZE h
  |some a=>
   induction h2:X0 f xs ys using jO with
   |none=>rw[h1,h2]at h;exact ZE h
   |some b=>
    rw[h1,h2]at h
    refine hG ?_;intro PP
    obtain⟨e,p,q⟩:=OX f h2
    refine⟨λj=>match j with|0=>a|j+1=>e j,λj u v hu hv=>?_,?_⟩
    ·induction j using jN with
     |zero=>rw[<-cU hu,<-cU hv];exact h1
     |succ j=>exact p j u v hu hv
    ·rw[bG,bG,Nat.succ_min_succ,List.range_succ_eq_map,Zl1,List.all_map,<-cU h,q];rfl
abbrev MI(A:aC)(n:Nat):Prop:=A.units+n<Zh2
theorem Qj(ih:∀a b va vb A r,VU U a=true->VU U b=true->UX U n a b=some r->En c s.heap U a va->En c s.heap U b vb->MI A n->EqAt A s va vb r)
 (ox:VT U xs=true) (oy:VT U ys=true) (h:X0 (UX U n) xs ys=some r) (lx:V5 c s.heap U xs vs) (ly:V5 c s.heap U ys ws) (hu:MI A (n+1)):
 ∃e:Nat->Bool,r=(Zw3 (min vs.toArray.size ws.toArray.size)).all e/\∀j (h1:j<vs.toArray.size) (h2:j<ws.toArray.size),EqAt A.in1 s vs.toArray[j] ws.toArray[j] (e j):=by
  refine hG ?_;intro PP
  obtain⟨e,p,q⟩:=OX _ h
  refine⟨e,by rw[b_,b_,lx.len,ly.len];exact q,λj h1 h2=>?_⟩
  refine hG ?_;intro PP
  obtain⟨x,hx⟩:∃x,xs[j]?=some x:=⟨_,cy (by rw[<-lx.len];exact h1)⟩
  obtain⟨y,hy⟩:∃x,ys[j]?=some x:=⟨_,cy (by rw[<-ly.len];exact h2)⟩
  obtain⟨v,hv,ev⟩:=lx.get hx
  obtain⟨u,kP,eu⟩:=ly.get hy
  dsimp only[PP]
  rw[cy h1]at hv
  rw[cy h2]at kP
  rw[Zh1,Zh1,cU hv,cU kP]
  exact ih x y v u A.in1 (e j) (Qj.NN ox hx) (Qj.NN oy hy) (p j x y hx hy) ev eu (by show A.units+1+n<Zh2;have:A.units+(n+1)<Zh2:=hu;exact Z7 this)
where
 NN:∀{xs:List AV} {j:Nat} {x:AV},VT U xs=true->xs[j]?=some x->VU U x=true
  |_::_,0,_,h,e=>cU e▸(cN.mp h).1
  |_::_,j+1,_,h,e=>NN (j:=j) (cN.mp h).2 e
end
section
variable{c:Cx}{s:cK}{U:US}{E:Value->cK->Prop}{A:aC}
theorem OW:(x==y)=XI x y:=by
 rw[Zv5,Sk,beq_iff_eq]
theorem JK(hx:x<SN)(hy:y<SN):(ZU x==ZU y)=cZ x y:=by
 rw[Zv5,beq_iff_eq];exact⟨λh=>by rw[WR hx hy h];exact bY y,λh=>congrArg ZU (cW h)⟩
theorem Qi(b:Bool):b2i b=if b then 1 else 0:=by induction b using jB<;>rfl
theorem Qh(I:Inv c s U):∀a o,c.g.get? a=some o->s.heap.get? a=some o:=λa o e=>(I.Yr.base a o e).h
abbrev oE(c:Cx)(s:cK)(U:US)(n:Nat):Prop:=∀a b va vb A r,VU U a=true->VU U b=true->UX U n a b=some r->En c s.heap U a va->En c s.heap U b vb->MI A n->EqAt A s va vb r
theorem JJ(I:Inv c s U)(ih:oE c s U n)(ox:VT U xs=true)(oy:VT U ys=true)(h:rI (UX U n) xs ys=some r)(h1:s.heap.get? p=some (Xe "list" vs k))(h2:s.heap.get? q=some (Xe "list" ws m))
 (l1:V5 c s.heap U xs vs) (l2:V5 c s.heap U ys ws) (hu:MI A (n+1)):RcAt A s (.ref p) (.ref q) r/\RcNeAt A s (.ref p) (.ref q) (!r):=by
  have Rv:A.units<Zh2:=cD (cR _ _) hu
  have h:(bif cZ xs.length ys.length then X0 (UX U n) xs ys else some false)=some r:=h
  have sx:vs.toArray.size=xs.length:=l1.len
  have sy:ws.toArray.size=ys.length:=l2.len
  induction hl:cZ xs.length ys.length using jB with
  |true=>
   rw[hl]at h
   obtain⟨e,q,he⟩:=Qj (A:=A) ih ox oy h l1 l2 hu
   have hs:vs.toArray.size=ws.toArray.size:=sx.trans ((cW hl).trans sy.symm)
   have t1:=RcAt.lists (e:=e) (is_list h1) (is_list h2) hs Rv he
   have t2:=RcNeAt.lists (e:=e) (is_list h1) (is_list h2) hs Rv he
   rw[<-hs,Nat.min_self]at q
   rw[q];exact⟨t1,t2⟩
  |false=>
   rw[hl]at h
   obtain rfl:=cU h
   have z:(vs.toArray.size !=ws.toArray.size)=true:=by
    rw[sx,sy,bne_iff_ne];exactλe=>by rw[e,bY]at hl;exact Wf hl
   exact⟨RcAt.lists_lengths (is_list h1) (is_list h2) z Rv,Zh0 (is_list h1) (is_list h2) z Rv⟩
theorem CN(T:W2 c)(I:Inv c s U)(ih:oE c s U n)(a b:AV)(oa:VU U a=true)(ob:VU U b=true)(h:UX U (n+1) a b=some r)(ea:En c s.heap U a va)(eb:En c s.heap U b vb)(hu:MI A (n+1)):RcAt A s va vb r:=by
 have Rv:A.units<Zh2:=cD (cR _ _) hu
 induction a using jV with
 |bool x=>induction b using jV with
  |bool y=>obtain rfl:va=_:=ea;obtain rfl:vb=_:=eb;rw[<-cU h];exact RcAt.bool_bool _ _
  |int y=>obtain rfl:va=_:=ea;obtain⟨u,rfl⟩:=eb;rw[<-cU h,<-OW,Qi];exact RcAt.bool_int _ _ _
  |_=>exact ZE h
 |int x=>
  obtain⟨t,rfl⟩:=ea
  induction b using jV with
  |int y=>obtain⟨u,rfl⟩:=eb;rw[<-cU h,<-OW];exact RcAt.int_int _ _ _ _
  |bool y=>obtain rfl:vb=_:=eb;rw[<-cU h,<-OW,Qi];exact RcAt.int_bool _ _ _
  |tup ys=>obtain⟨ws,⟨h2⟩,_⟩:=eb;rw[<-cU h];exact RcAt.int_tuple _ _ (is_tup h2.h) Rv
  |_=>exact ZE h
 |str x=>
  obtain⟨lx,t,rfl⟩:=ea
  induction b using jV with
  |str y=>obtain⟨ly,u,rfl⟩:=eb;rw[<-cU h,<-JK lx ly];exact RcAt.str_str _ _ _ _
  |tup ys=>obtain⟨ws,⟨h2⟩,_⟩:=eb;rw[<-cU h];exact RcAt.str_tuple _ _ (is_tup h2.h) Rv
  |_=>exact ZE h
 |ref x=>
  obtain rfl:va=_:=ea
  induction b using jV with
  |ref y=>
   obtain rfl:vb=_:=eb
   have h:(bif Vl U x&&Vl U y then some (cZ x y)else none)=some r:=h
   induction q:Vl U x&&Vl U y using jB with
   |false=>rw[q]at h;exact ZE h
   |true=>
    rw[q]at h
    obtain⟨q1,q2⟩:=cN.mp q
    obtain⟨C,d,hC,hx⟩:=S7 I q1
    obtain⟨C',d',kO,hy⟩:=S7 I q2
    rw[hC]at kO;cases kO
    have:=T.refs (A:=A) hC (Qh I) hx hy Rv
    rw[<-cU (show some (cZ x y)=some r from h),show cZ x y=(x==y) by rw[Zv5,beq_iff_eq];exact⟨cW,λe=>e▸bY x⟩];exact this
  |tup ys=>
   obtain⟨ws,⟨h2⟩,_⟩:=eb
   have h:(bif Vl U x then some false else none)=some r:=h
   induction q:Vl U x using jB with
   |false=>rw[q]at h;exact ZE h
   |true=>
    rw[q]at h
    obtain⟨C,d,hC,hx⟩:=S7 I q
    rw[<-cU (show some false=some r from h)];exact T.A3 hC (Qh I) hx (is_tup h2.h) Rv
  |_=>exact ZE h
 |tup xs=>
  obtain⟨vs,⟨h1⟩,_,l1⟩:=ea
  induction b using jV with
  |tup ys=>
   obtain⟨ws,⟨h2⟩,_,l2⟩:=eb
   obtain⟨r',h',rfl⟩:=bK.mp (show(X0 (UX U n) xs ys).map (·&&cZ xs.length ys.length)=some r from h)
   obtain⟨e,q,he⟩:=Qj (A:=A) ih oa ob h' l1 l2 hu
   have t:=RcAt.tuples (e:=e) (is_tup h1.h) (is_tup h2.h) Rv he
   rw[<-q]at t
   rw[show cZ xs.length ys.length=(vs.toArray.size==ws.toArray.size) by
    rw[b_,b_,l1.len,l2.len,Zv5,beq_iff_eq];exact⟨cW,λe=>e▸bY _⟩]
   exact t
  |int y=>obtain⟨t,rfl⟩:=eb;rw[<-cU h];exact RcAt.tuple_int _ _ (is_tup h1.h) Rv
  |str y=>obtain⟨_,t,rfl⟩:=eb;rw[<-cU h];exact RcAt.tuple_str _ _ (is_tup h1.h) Rv
  |ref y=>
   obtain rfl:vb=_:=eb
   have h:(bif Vl U y then some false else none)=some r:=h
   induction q:Vl U y using jB with
   |false=>rw[q]at h;exact ZE h
   |true=>
    rw[q]at h
    obtain⟨C,d,hC,hx⟩:=S7 I q
    rw[<-cU (show some false=some r from h)];exact T.A2 hC (Qh I) hx (is_tup h1.h) Rv
  |_=>exact ZE h
 |lst xs=>
  obtain⟨vs,⟨h1⟩,_,l1⟩:=ea
  induction b using jV with
  |lst ys=>obtain⟨ws,⟨h2⟩,_,l2⟩:=eb;exact(JJ I ih oa ob h h1.h h2.h l1 l2 hu).1
  |_=>exact ZE h
 |_=>exact ZE h
theorem MH(W:Wd c)(T:W2 c)(I:Inv c s U):∀n,oE c s U n
 |0=>λY Y Y Y Y Y Y Y h=>ZE h
 |n+1=>λa b va vb A r oa ob h ea eb hu=>by
  have rc:=CN (A:=A) T I (MH W T I n) a b oa ob h ea eb hu
  have Rv:A.units<Zh2:=cD (cR _ _) hu
  have refs:∀{p q:aV},va=.ref p->vb=.ref q->EqAt A s va vb r:=λ{p q} e1 e2=>by
   by_cases z:p=q
   ·obtain rfl:=Uz W I a oa ob ea (by rw[e1,z,<-e2];exact eb)
    rw[OY _ _ _ h,e1,e2,z];exact EqAt.same _
   ·rw[e1,e2]at rc⊢;exact EqAt.of_refs z rc
  have tp:∀{xs:List AV} {v:Value},En c s.heap U (.tup xs) v->∃p,v=.ref p:=λh=>by obtain⟨_,⟨_⟩,_⟩:=h;exact⟨_,rfl⟩
  have ls:∀{xs:List AV} {v:Value},En c s.heap U (.lst xs) v->∃p,v=.ref p:=λh=>by obtain⟨_,⟨_⟩,_⟩:=h;exact⟨_,rfl⟩
  induction a using jV with
  |bool x=>induction b using jV with
   |bool y=>obtain rfl:va=_:=ea;obtain rfl:vb=_:=eb;rw[<-cU h];exact EqAt.bool_bool _ _
   |int y=>obtain rfl:va=_:=ea;obtain⟨u,rfl⟩:=eb;rw[<-cU h,<-OW,Qi];exact EqAt.bool_int _ _ _
   |_=>exact ZE h
  |int x=>induction b using jV with
   |int y=>obtain⟨t,rfl⟩:=ea;obtain⟨u,rfl⟩:=eb;rw[<-cU h,<-OW];exact EqAt.int_int _ _ _ _
   |bool y=>obtain⟨t,rfl⟩:=ea;obtain rfl:vb=_:=eb;rw[<-cU h,<-OW,Qi];exact EqAt.int_bool _ _ _
   |tup ys=>obtain⟨t,rfl⟩:=ea;obtain⟨ws,⟨h2⟩,_⟩:=eb;rw[<-cU h];exact EqAt.int_tuple _ _ (is_tup h2.h) Rv
   |_=>exact ZE h
  |str x=>induction b using jV with
   |str y=>obtain⟨lx,t,rfl⟩:=ea;obtain⟨ly,u,rfl⟩:=eb;rw[<-cU h,<-JK lx ly];exact EqAt.str_str _ _ _ _
   |tup ys=>obtain⟨_,t,rfl⟩:=ea;obtain⟨ws,⟨h2⟩,_⟩:=eb;rw[<-cU h];exact EqAt.str_tuple _ _ (is_tup h2.h) Rv
   |_=>exact ZE h
  |ref x=>induction b using jV with
   |ref y=>exact refs ea eb
   |tup ys=>obtain⟨p,e⟩:=tp eb;exact refs ea e
   |_=>exact ZE h
  |tup xs=>induction b using jV with
   |tup ys=>obtain⟨p,e⟩:=tp ea;obtain⟨q,e'⟩:=tp eb;exact refs e e'
   |int y=>obtain⟨t,rfl⟩:=eb;obtain⟨ws,⟨h2⟩,_⟩:=ea;rw[<-cU h];exact EqAt.tuple_int _ _ (is_tup h2.h) Rv
   |str y=>obtain⟨_,t,rfl⟩:=eb;obtain⟨ws,⟨h2⟩,_⟩:=ea;rw[<-cU h];exact EqAt.tuple_str _ _ (is_tup h2.h) Rv
   |ref y=>obtain⟨p,e⟩:=tp ea;exact refs e eb
   |_=>exact ZE h
  |lst xs=>induction b using jV with
   |lst ys=>obtain⟨p,e⟩:=ls ea;obtain⟨q,e'⟩:=ls eb;exact refs e e'
   |_=>exact ZE h
  |_=>exact ZE h
theorem A0(W:Wd c)(T:W2 c)(I:Inv c s U)(oa:VU U a=true)(ea:En c s.heap U a va)(hu:MI A EQ)(ox:VT U xs=true)(h:XG U a xs=some r)(l:V5 c s.heap U xs vs):
 ∃e:Value->Bool,(∀y∈vs.toArray,EqAt A s y va (e y))/\vs.toArray.any e=r:=by
  classical
  let e:Value->Bool:=λy=>decide (∃x,En c s.heap U x y/\VU U x=true/\UX U EQ x a=some true)
  have he:∀{y x r'},En c s.heap U x y->VU U x=true->UX U EQ x a=some r'->e y=r':=λ{y x r'} h1 h2 h3=>by
   induction r' using jB with
   |true=>exact decide_eq_true ⟨x,h1,h2,h3⟩
   |false=>exact decide_eq_false λZ=>eE Z λx' Z=>aE Z λh4 Z=>aE Z λh5 h6=>by rw[Uz W I x h2 h5 h1 h4,h6]at h3;cases h3
  suffices∀{xs vs r},VT U xs=true->XG U a xs=some r->V5 c s.heap U xs vs->(∀y∈vs,EqAt A s y va (e y))/\vs.any e=r by
   refine hG ?_;intro PP
   obtain⟨p,q⟩:=this ox h l
   exact⟨e,λy m=>p y (List.mem_toArray.mp m),by rw[Zk4];exact q⟩
  intro xs
  induction xs with
  |nil=>intro vs r Y h l;obtain rfl:vs=[]:=l;exact⟨(λY h=>xm h),cU h⟩
  |cons x xs ih=>
   intro vs r ox h l
   refine hG ?_;intro PP
   obtain⟨v,ws,rfl,ex,l⟩:=l
   obtain⟨o1,o2⟩:=cN.mp ox
   refine(Option.bind_eq_some_iff.mp (show(UX U EQ x a).bind (λr=>(XG U a xs).map (r||·))=some r from h)).elim λr1 h=>(bK.mp h.2).elim λr2 h2=>?_
   refine hG ?_;intro PP
   obtain⟨p,q⟩:=ih o2 h2.1 l
   have e1:=he ex o1 h.1
   refine⟨λy m=>(cJ.mp m).elim (λz=>z▸e1▸MH W T I EQ x a v va A r1 o1 oa h.1 ex ea hu) (p y),?_⟩
   rw[Zl4,e1,q];exact h2.2
end
section
variable{c:Cx}{s:cK}{U:US}{E:Value->cK->Prop}
abbrev YM(c:Cx)(E:Value->cK->Prop)(s:cK)(U:US)(o:BO)(op:PySem.CmpOp):Prop:=∀{v w:AV} {va vb:Value} {Q:fP} {P:Value->cK->Prop},bA o v w Q U->En c s.heap U v va->En c s.heap U w vb->(∀r t,Q (.bool r) U->P (.bool r) {s with toks:=t})->bT c.M c.A (Zj0 op va vb) P E s
abbrev vj(c:Cx)(E:Value->cK->Prop)(s:cK)(op op':PySem.CmpOp)(va vb:Value)(K:Bool->Prop)(P:Value->cK->Prop):Prop:=
 ((∀r t,K r->P (.bool r) {s with toks:=t})->bT c.M c.A (Zj0 op va vb) P E s)/\((∀r t,K r->P (.bool (!r)) {s with toks:=t})->bT c.M c.A (Zj0 op' va vb) P E s)
theorem Fv:YM c E s U .ieq .Eq:=λh ea eb k=>by obtain⟨x,y,t,u,rfl,rfl,q⟩:=XE h ea eb;rw[<-OW]at q;exact RcAt.int_int _ _ _ _ _ _ _ _ (k _ s.toks q)
theorem Fq:YM c E s U .rT .NotEq:=λh ea eb k=>by obtain⟨x,y,t,u,rfl,rfl,q⟩:=XE h ea eb;rw[<-OW]at q;exact RcNeAt.int_int _ _ _ _ _ _ _ _ (k _ s.toks q)
theorem S6:fh a b=decide (a<b):=by
 have blt:∀{a b:Nat},bk a b=decide (a<b):=λ{a b}=>by rw[Zv5,decide_eq_true_iff];exact⟨cL,br⟩
 induction a using jI with
 |ofNat a=>induction b using jI with
  |ofNat b=>show bk a b=_;rw[blt];exact decide_eq_decide.mpr (by simp)
  |negSucc b=>exact(decide_eq_false λh=>absurd (Zo1 h (aK b)) (Ze5.mpr (aQ a))).symm
 |negSucc a=>induction b using jI with
  |ofNat b=>exact(decide_eq_true (Int.lt_of_lt_of_le (aK a) (aQ b))).symm
  |negSucc b=>show bk b a=_;rw[blt];exact decide_eq_decide.mpr (by lia)
theorem AZ:(!fh a b)=decide (b<=a):=by rw[S6,<-decide_not,decide_eq_decide];exact Ze5
theorem Fp:YM c E s U .KB .Lt:=λh ea eb k=>by obtain⟨x,y,t,u,rfl,rfl,q⟩:=XE h ea eb;rw[S6]at q;exact PySem.P.lt_int (k _ s.toks q)
theorem Fo:YM c E s U .rS .Gt:=λh ea eb k=>by obtain⟨x,y,t,u,rfl,rfl,q⟩:=XE h ea eb;rw[S6]at q;exact PySem.P.gt_int (k _ s.toks q)
theorem Fl:YM c E s U .qW .LtE:=λh ea eb k=>by obtain⟨x,y,t,u,rfl,rfl,q⟩:=XE h ea eb;rw[AZ]at q;exact PySem.P.le_int (k _ s.toks q)
theorem Fj:YM c E s U .wN .GtE:=λh ea eb k=>by obtain⟨x,y,t,u,rfl,rfl,q⟩:=XE h ea eb;rw[AZ]at q;exact PySem.P.ge_int (k _ s.toks q)
theorem JI{v w:AV}{va vb:Value}{K:Nat->Nat->Prop}(h:Km v λx=>Km w λy=>K x y)(ea:En c s.heap U v va)(eb:En c s.heap U w vb):∃x y t u,va=.str (ZU x) t/\vb=.str (ZU y) u/\x<SN/\y<SN/\K x y:=by
 refine hG ?_;intro PP
 obtain⟨x,rfl,h1⟩:=VN h
 obtain⟨y,rfl,h2⟩:=VN h1
 obtain⟨lx,t,rfl⟩:=ea
 obtain⟨ly,u,rfl⟩:=eb
 exact⟨x,y,t,u,rfl,rfl,lx,ly,h2⟩
theorem Fg:YM c E s U .seq .Eq:=λh ea eb k=>by obtain⟨x,y,t,u,rfl,rfl,lx,ly,q⟩:=JI h ea eb;rw[<-JK lx ly]at q;exact RcAt.str_str _ _ _ _ _ _ _ _ (k _ s.toks q)
theorem Ff:YM c E s U .rR .NotEq:=λh ea eb k=>by obtain⟨x,y,t,u,rfl,rfl,lx,ly,q⟩:=JI h ea eb;rw[<-JK lx ly]at q;exact RcNeAt.str_str _ _ _ _ _ _ _ _ (k _ s.toks q)
theorem Fd(W:Wd c)(T:W2 c)(I:Inv c s U)(hu:MI c.A EQ):YM c E s U .geq .Eq:=λh ea eb k=>by
 have h:xx _ _ _ U:=h
 unfold xx at h
 refine hG ?_;intro PP
 obtain⟨oa,ob,h⟩:=h.h
 obtain⟨r,hr,q⟩:=X8 h
 exact CN (n:=599) T I (MH W T I 599) _ _ oa ob hr ea eb hu _ _ _ _ (k r s.toks q)
theorem Fc{v w:AV}{K:Bool->Prop}(h:BK v w K U):(∃y,w=.str y/\((∃x,v=.str x/\K (cZ x y))\/∃xs,v=.tup xs/\K false))\/Rl v λY=>Rl w λY=>VU U v=true/\VU U w=true/\oA (UX U EQ v w) K:=by
 unfold BK at h
 have h:=h.h
 induction w using jV with
 |str y=>exact .inl ⟨y,rfl,by
  induction v using jV with
  |str x=>exact .inl ⟨x,rfl,h⟩
  |tup xs=>exact .inr ⟨xs,rfl,h⟩
  |_=>exact h.elim⟩
 |_=>exact .inr h
theorem Fb(W:Wd c)(T:W2 c)(I:Inv c s U)(hu:MI c.A EQ):YM c E s U .xR .NotEq:=λh ea eb k=>by
 refine hG ?_;intro PP
 rcases Fc h with⟨y,rfl,⟨x,rfl,q⟩|⟨xs,rfl,q⟩⟩|h
 ·obtain⟨lx,t,rfl⟩:=ea
  refine hG ?_;intro PP
  obtain⟨ly,u,rfl⟩:=eb
  rw[<-JK lx ly]at q
  exact RcNeAt.str_str _ _ _ _ _ _ _ _ (k _ s.toks q)
 ·obtain⟨ly,u,rfl⟩:=eb
  refine hG ?_;intro PP
  obtain⟨vs,⟨h1⟩,_⟩:=ea
  exact RcNeAt.tuple_str _ _ (is_tup h1.h) (cD (cR _ _) hu) _ _ _ _ (k _ s.toks q)
 refine hG ?_;intro PP
 obtain⟨xs,rfl,h⟩:=XA h
 obtain⟨ys,rfl,oa,ob,h⟩:=XA h
 obtain⟨r,hr,q⟩:=X8 h
 obtain⟨vs,⟨h1⟩,_,l1⟩:=ea
 obtain⟨ws,⟨h2⟩,_,l2⟩:=eb
 exact(JJ (n:=599) I (MH W T I 599) oa ob hr h1.h h2.h l1 l2 hu).2 _ _ _ _ (k _ s.toks q)
theorem JH(I:Inv c s U){v w:AV}{va vb:Value}{K:Bool->Prop}(h:BI v w K U)(ea:En c s.heap U v va)(eb:En c s.heap U w vb)(hu:c.A.units<Zh2):∃r,K r/\RcAt c.A s va vb r/\RcNeAt c.A s va vb (!r):=by
 refine hG ?_;intro PP
 obtain⟨ys,rfl,rfl,k⟩:=XA h
 obtain⟨xs,p,q,rfl,⟨h1,_,l1⟩⟩:=TG (K:=λxs=>K xs.isEmpty) I k ea
 obtain⟨ws,⟨h2⟩,_,l2⟩:=eb
 obtain rfl:ws=[]:=l2
 refine⟨_,q,?_⟩
 induction xs using jL with
 |nil=>
  obtain rfl:=l1
  have he:∀j (h1:j<(#[]:Array Value).size) (h2:j<(#[]:Array Value).size),EqAt c.A.in1 s (#[]:Array Value)[j] (#[]:Array Value)[j] ((λY=>true) j):=λj h=>absurd h (Zj4 j)
  exact⟨RcAt.lists (is_list h1) (is_list h2.h) rfl hu he,RcNeAt.lists (is_list h1) (is_list h2.h) rfl hu he⟩
 |cons x xs=>
  refine hG ?_;intro PP
  obtain⟨v,vs,rfl,_,_⟩:=l1
  exact⟨RcAt.lists_lengths (is_list h1) (is_list h2.h) rfl hu,Zh0 (is_list h1) (is_list h2.h) rfl hu⟩
theorem E_(I:Inv c s U)(hu:c.A.units<Zh2):YM c E s U .emp .Eq:=λ{v w _ _ Q _} h ea eb k=>by obtain⟨r,q,z,_⟩:=JH (v:=v) (w:=w) (K:=λr=>Q (.bool r) U) I h ea eb hu;exact z _ _ _ _ (k r s.toks q)
theorem JG(I:Inv c s U)(hu:c.A.units<Zh2):YM c E s U .Pz .NotEq:=λ{v w _ _ Q _} h ea eb k=>by obtain⟨r,q,_,z⟩:=JH (v:=v) (w:=w) (K:=λr=>Q (.bool (!r)) U) I h ea eb hu;exact z _ _ _ _ (k _ s.toks q)
theorem JF(W:Wd c)(I:Inv c s U){v w:AV}{va vb:Value}{K:Bool->Prop}(h:BJ v w K U)(ea:En c s.heap U v va)(eb:En c s.heap U w vb){P:Value->cK->Prop}:vj c E s .In .NotIn va vb K P:=by
 refine hG ?_;intro PP
 obtain⟨i,rfl,h⟩:=Yx h
 obtain⟨d,rfl,h⟩:=Y6 h
 obtain⟨es,hd,q⟩:=WD h
 obtain⟨t,rfl⟩:=ea
 obtain rfl:vb=.ref d:=eb
 cases Sh I hd with|mk hk nd ll el=>
 rename_i kvs
 have e:(Zl3 kvs i).isSome=(Zr es i).isSome:=by
  rcases el.get O3 (k:=i) trivial λY Y=>trivial with⟨v,x,a,b,_⟩|⟨a,b⟩
  ·rw[Xj]at b;rw[b,show Zl3 kvs i=some v from a];rfl
  ·rw[Xj]at b;rw[b,show Zl3 kvs i=none from a];rfl
 exact⟨λk=>wpAny_in_of Sj (UB W I hd) hk.mapOf (by rw[e];exact k _ _ q),λk=>wpAny_notIn_of Sj (UB W I hd) hk.mapOf (by rw[e];exact k _ _ q)⟩
theorem E9(W:Wd c)(I:Inv c s U):YM c E s U .inD .In:=λ{v w _ _ Q _} h ea eb k=>(JF (v:=v) (w:=w) (K:=λr=>Q (.bool r) U) W I h ea eb).1 k
theorem JE(W:Wd c)(I:Inv c s U):YM c E s U .LS .NotIn:=λ{v w _ _ Q _} h ea eb k=>(JF (v:=v) (w:=w) (K:=λr=>Q (.bool (!r)) U) W I h ea eb).2 λr=>k (!r)
theorem JD(W:Wd c)(T:W2 c)(I:Inv c s U)(hu:MI c.A (EQ+1)){v w:AV}{va vb:Value}{K:Bool->Prop}(h:UW v w K U)(ea:En c s.heap U v va)(eb:En c s.heap U w vb){P:Value->cK->Prop}:vj c E s .In .NotIn va vb K P:=by
 have hu1:MI c.A.in1 EQ:=by show c.A.units+1+EQ<Zh2;have:c.A.units+(EQ+1)<Zh2:=hu;exact this
 unfold UW at h
 refine hG ?_;intro PP
 obtain⟨oa,h⟩:=h.h
 have mem:=λ{xs:List AV} {vs:List Value} (h:VT U xs=true/\oA (XG U v xs) K) (l1:V5 c s.heap U xs vs)=>show∃e:Value->Bool,K (vs.toArray.any e)/\∀y∈vs.toArray,EqAt c.A.in1 s y va (e y) by
  refine hG ?_;intro PP
  obtain⟨r,hr,q⟩:=X8 h.2
  obtain⟨e,he,rfl⟩:=A0 (A:=c.A.in1) W T I oa ea hu1 h.1 hr l1
  exact⟨e,q,he⟩
 have lst:=λ(h:aL U w λxs=>VT U xs=true/\oA (XG U v xs) K)=>show vj c E s .In .NotIn va vb K P by
  refine hG ?_;intro PP
  obtain⟨xs,p,h,rfl,⟨h1,_,l1⟩⟩:=TG (K:=λxs=>VT U xs=true/\oA (XG U v xs) K) I h eb
  obtain⟨e,q,he⟩:=mem h l1
  exact⟨λk=>in_listAt e (is_list h1) he (k _ s.toks q),λk=>notIn_listAt e (is_list h1) he (k _ s.toks q)⟩
 induction w using jV with
 |tup xs=>
  refine hG ?_;intro PP
  obtain⟨vs,⟨h1⟩,_,l1⟩:=eb
  obtain⟨e,q,he⟩:=mem h l1
  exact⟨λk=>in_tupleAt e (is_tup h1.h) he (k _ s.toks q),λk=>notIn_tupleAt e (is_tup h1.h) he (k _ s.toks q)⟩
 |_=>exact lst h
theorem E8(W:Wd c)(T:W2 c)(I:Inv c s U)(hu:MI c.A (EQ+1)):YM c E s U .GJ .In:=λ{v w _ _ Q _} h ea eb k=>(JD (v:=v) (w:=w) (K:=λr=>Q (.bool r) U) W T I hu h ea eb).1 k
theorem JC(W:Wd c)(T:W2 c)(I:Inv c s U)(hu:MI c.A (EQ+1)):YM c E s U .GI .NotIn:=λ{v w _ _ Q _} h ea eb k=>(JD (v:=v) (w:=w) (K:=λr=>Q (.bool (!r)) U) W T I hu h ea eb).2 λr=>k (!r)
theorem E7(e:Wi c (Vw c s.heap U) x o):o.cls≠.type "tuple":=by
 induction x using jA with
 |list=>obtain⟨_,_,rfl,_⟩:=e;exactλz=>absurd (Zu4 z) (by decide)
 |di=>obtain⟨_,⟨_,_,k,_⟩,_⟩:=e;rw[k.1];exactλz=>absurd (Zu4 z) (by decide)
 |ds=>obtain⟨_,⟨_,_,k,_⟩,_⟩:=e;rw[k.1];exactλz=>absurd (Zu4 z) (by decide)
 |fields=>obtain⟨_,_,rfl,_⟩:=e;exactλz=>absurd (Zu4 z) (by decide)
 |inst=>obtain⟨_,_,rfl⟩:=e;exact(nomatch·)
theorem CM(W:Wd c)(I:Inv c s U){v w:AV}{va vb:Value}{K:Bool->Prop}(h:LG v w K U)(ea:En c s.heap U v va)(eb:En c s.heap U w vb){P:Value->cK->Prop}:vj c E s .Is .IsNot va vb K P:=by
 unfold LG at h
 have h:=h.h
 have two:∀{p q:aV} {o o':Obj},va=.ref p->vb=.ref q->s.heap.get? p=some o->s.heap.get? q=some o'->o.cls≠.type "tuple"->(p=q->K true)->(p≠q->K false)->vj c E s .Is .IsNot va vb K P:=λ{p q o o'} e1 e2 h1 h2 h3 k1 k2=>by
  subst e1;subst e2
  by_cases z:p=q
  ·subst z;exact⟨λk=>wpAny_is_ref_self (k _ s.toks (k1 rfl)),λk=>wpAny_isNot_ref_self (k _ s.toks (k1 rfl))⟩
  ·exact⟨λk=>wpAny_is_ref_other z h1 h2 h3 (k _ s.toks (k2 z)),λk=>wpAny_isNot_ref_other z h1 h2 h3 (k _ s.toks (k2 z))⟩
 induction w using jV with
 |g y=>
  obtain⟨hy,h⟩:=h
  obtain⟨p2,C2,d2,xr,n2,t1,t2,t3,_⟩:=W.sp y hy
  have t3:=I.Yr.base _ _ t3
  have eb:vb=.ref p2:=eb.trans t1
  induction v using jV with
  |g x=>
   obtain⟨hx,q⟩:=h
   obtain⟨p1,C1,d1,es1,n1,s1,s2,s3,_⟩:=W.sp x hx
   refine two (ea.trans s1) eb (I.Yr.base _ _ s3).h t3.h (nomatch·) (λe=>?_) λe=>?_
   ·rw[W.YO x y hx hy (by rw[s1,t1,e]),bY]at q;exact q
   ·rwa [beq_false λz:x=y=>e (by rw[z,t1]at s1;exact(Zv1 s1).symm)]at q
  |ref x=>
   obtain⟨hx,q⟩:=h
   obtain⟨o,ho⟩:=Zz2.mp hx
   have ea:va=.ref x:=ea
   have ne:x≠p2:=λe=>by have:=t3.u;rw[<-e,ho]at this;exact XD this
   obtain⟨_,ob,p,e⟩:=I.Yr.obj x o ho
   refine two ea eb p t3.h (E7 e) (λe=>absurd e ne) λY=>q
  |int x=>obtain⟨t,rfl⟩:=ea;rw[eb];exact⟨λk=>wpAny_is_other rfl (nomatch·) (k _ s.toks h),λk=>wpAny_isNot_other rfl (nomatch·) (k _ s.toks h)⟩
  |bool x=>obtain rfl:va=.bool x:=ea;rw[eb];exact⟨λk=>wpAny_is_other rfl (nomatch·) (k _ s.toks h),λk=>wpAny_isNot_other rfl (nomatch·) (k _ s.toks h)⟩
  |lst xs=>
   obtain⟨vs,⟨h1⟩,_⟩:=ea
   refine two rfl eb h1.h t3.h (λz=>absurd (Zu4 z) (by decide)) (λe=>?_) λY=>h
   have:=h1.h.symm.trans (e▸t3.h);cases this
  |_=>exact h.elim
 |inst k' ys=>induction v using jV with
  |inst k xs=>
   obtain⟨o1,o2,q⟩:=h
   have i1:=id ea
   have i2:=id eb
   obtain⟨_,⟨_,h1,_⟩,_⟩:=i1
   obtain⟨_,⟨_,h2,_⟩,_⟩:=i2
   exact two rfl rfl h1.h h2.h (nomatch·) (λe=>q true λY=>Uz W I _ o1 o2 ea (e▸eb)) λY=>q false (Zv ·)
  |_=>exact h.elim
 |_=>exact h.elim
theorem AY(W:Wd c)(I:Inv c s U):YM c E s U .is .Is:=λ{v w _ _ Q _} h ea eb k=>(CM (v:=v) (w:=w) (K:=λr=>Q (.bool r) U) W I h ea eb).1 k
theorem E6(W:Wd c)(I:Inv c s U):YM c E s U .GX .IsNot:=λ{v w _ _ Q _} h ea eb k=>(CM (v:=v) (w:=w) (K:=λr=>Q (.bool (!r)) U) W I h ea eb).2 λr=>k (!r)
end
noncomputable def eS{β:Type}(b d:β)(e:Expr)(kn:(n:Str)->(p:Pos)->e=.Name n p->β:=λY Y Y=>b)(kc:(n:Const)->(k:Nat)->(p:Pos)->e=.Constant n k p->β:=λY Y Y Y=>b)(ku:(o:UnaryOp)->(x:Expr)->(p:Pos)->e=.UnaryOp o x p->β:=λY Y Y Y=>b)(kb:(o:PySem.BoolOp)->(x:List Expr)->(p:Pos)->e=.BoolOp o x p->β:=λY Y Y Y=>b)(ki:(x:Expr)->(y:Expr)->(z:Expr)->(p:Pos)->e=.IfExp x y z p->β:=λY Y Y Y Y=>b)(ko:(x:Expr)->(o:Operator)->(y:Expr)->(p:Pos)->e=.BinOp x o y p->β:=λY Y Y Y Y=>b)(km:(x:Expr)->(o:List CmpOp)->(y:List Expr)->(p:Pos)->e=.Compare x o y p->β:=λY Y Y Y Y=>b)(ka:(x:Expr)->(a:Str)->(p:Pos)->e=.Attribute x a p->β:=λY Y Y Y=>b)(kf:(f:Expr)->(as:List Expr)->(kw:List Keyword)->(p:Pos)->e=.Call f as kw p->β:=λY Y Y Y Y=>b)(ks:(x:Expr)->(i:Expr)->(p:Pos)->e=.Subscript x i p->β:=λY Y Y Y=>b)(kl:(a:Option Expr)->(b:Option Expr)->(d:Option Expr)->(p:Pos)->e=.Slice a b d p->β:=λY Y Y Y Y=>b)(kt:(es:List Expr)->(p:Pos)->e=.List es p->β:=λY Y Y=>b)(kp:(es:List Expr)->(k:Nat)->(p:Pos)->e=.Tuple es k p->β:=λY Y Y Y=>b)(kd:(ks:List (Option Expr))->(vs:List Expr)->(p:Pos)->e=.Dict ks vs p->β:=λY Y Y Y=>b)(kg:(x:Expr)->(gs:List Zl0)->(sc:aa)->(p:Pos)->e=.ListComp x gs sc p->β:=λY Y Y Y Y=>b):β:=match(generalizing:=false) h:e with
 |.Name n p=>kn n p h
 |.Constant n k p=>kc n k p h
 |.UnaryOp o x p=>ku o x p h
 |.BoolOp o x p=>kb o x p h
 |.IfExp x y z p=>ki x y z p h
 |.BinOp x o y p=>ko x o y p h
 |.Compare x o y p=>km x o y p h
 |.Attribute x a p=>ka x a p h
 |.Call f as kw p=>kf f as kw p h
 |.Subscript x i p=>ks x i p h
 |.Slice a b d p=>kl a b d p h
 |.List es p=>kt es p h
 |.Tuple es k p=>kp es k p h
 |.Dict ks vs p=>kd ks vs p h
 |.ListComp x gs sc p=>kg x gs sc p h
 |_=>d
noncomputable def WQ(e:Expr):Bool:=eS true true e (kl:=λY Y Y Y Y=>false)
theorem YI(h:WQ sl=true)(o i:Value):subscripted sl false o i=operate [o,i] (getItem o i):=by
 unfold subscripted
 induction sl using jE<;>first|rfl|exact Zv h
section
variable{c:Cx}{s:cK}{U:US}{E:Value->cK->Prop}
theorem JB{α:Type}:∀{xs:List α} {n:Nat} {K:α->Prop},eN xs n K->n<xs.length
 |_::_,0,_,_=>Nat.zero_lt_succ _
 |_::_,n+1,_,h=>Nat.succ_lt_succ (JB (n:=n) h)
theorem ez(h:n<m):Zs1 n+(m:Int)=((m-(n+1):Nat):Int):=Int.subNatNat_of_le h
theorem vh(m n:Nat):m-1-n=m-(n+1):=(Nat.sub_sub m 1 n).trans (congrArg (m-·) (aH 1 n))
theorem Qg(h:k<n):n-1-k<n:=cD (Zv0 _ _) (Nat.sub_lt (cD (bV _) h) Nat.one_pos)
theorem JA{k:Int}{n:Nat}(h:k<n)(l:n<=LN):k<2^63:=Zo1 h (Zo0 (Zw9.mpr l) (by rw[Uj];decide))
theorem Jz{k:Int}{n:Nat}(h:-(n:Int)<=k)(l:n<=LN):-(2^63)<=k:=Zt4 (Zt4 (by rw[Uj];decide) (Int.neg_le_neg (Zw9.mpr l))) h
theorem Jy{V:fD}{xs:List AV}{vs:List Value}{k:Int}{K:AV->Prop}(l:ZW c.gv V xs vs)(h:Gz xs k K):∃v x j,vs[j]?=some v/\Enc c.gv V x v/\K x/\seqIndex? k vs.length=some j/\((0<=k/\j=k.toNat/\k<xs.length)\/(k<0/\-(xs.length:Int)<=k/\j=(k+xs.length).toNat)):=by
 induction k using jI with
 |ofNat n=>
  have lt:=JB (show eN xs n K from h)
  obtain⟨a,b,d⟩:=l.at h
  exact⟨_,_,n,a,b,d,seqIndex_of (aQ n) (by rw[l.len];exact Zy5.mpr lt),.inl ⟨aQ n,rfl,Zy5.mpr lt⟩⟩
 |negSucc n=>
  have lt:=JB (show eN xs.reverse n K from h)
  rw[aN]at lt
  obtain⟨a,b,d⟩:=l.rev.at h
  rw[Zi9 (by rw[l.len];exact lt),l.len]at a
  have e:xs.length-1-n=(Zs1 n+xs.length).toNat:=by rw[ez lt];exact vh _ _
  have g:-(xs.length:Int)<=Zs1 n:=Int.neg_le_neg (Zw9.mpr lt)
  refine⟨_,_,_,a,b,d,?_,.inr ⟨aK n,g,e⟩⟩
  rw[e,<-l.len]
  exact seqIndex_neg (aK n) (by rw[l.len];exact g)
abbrev Y9(c:Cx)(E:Value->cK->Prop)(s:cK)(U:US)(o:BO):Prop:=∀{v i:AV} {va vi:Value} {Q:fP} {value slice:Expr},WQ slice=true->bA o v i Q U->En c s.heap U v va->En c s.heap U i vi->bT c.M c.A (subscriptTail value slice va vi) (Ok c s U (pV c Q)) E s
theorem AX(I:Inv c s U):Y9 c E s U .sL:=λ{v _ va _ Q _ _} hs h ea ei=>by
 refine hG ?_;intro PP
 obtain⟨k,rfl,h1⟩:=Yx h
 obtain⟨t,rfl⟩:=ei
 obtain⟨xs,p,hx,rfl,⟨ho,hl,l⟩⟩:=TG (K:=λxs=>Gz xs k λx=>Q x U) I h1 ea
 obtain⟨y,x,j,a,b,q,_,d⟩:=Jy l hx
 have il:=is_list ho
 have sz:(Zi8 _).size=xs.length:=l.len
 refine tail_any il.typeIs slot_list_getitem.lookup ?_ (YI hs _ _)
 refine hG ?_;intro PP
 rcases d with⟨d1,rfl,d2⟩|⟨d1,d2,rfl⟩
 ·exact wpAny_getItem_list il d1 (JA d2 hl) (by rw[aY];exact a) (X9 I ⟨x,q,b⟩)
 ·exact wpAny_getItem_list_neg il d1 (by rw[sz];exact d2) (Jz d2 hl) (by rw[sz,aY];exact a) (X9 I ⟨x,q,b⟩)
theorem AW(I:Inv c s U):Y9 c E s U .sT:=λ{_ _ _ _ Q _ _} hs h ea ei=>by
 refine hG ?_;intro PP
 obtain⟨k,rfl,h1⟩:=Yx h
 obtain⟨xs,rfl,h2⟩:=XB h1
 obtain⟨t,rfl⟩:=ei
 obtain⟨vs,⟨ho⟩,hl,l⟩:=ea
 obtain⟨y,x,j,a,b,q,hj,d⟩:=Jy (K:=λx=>Q x U) l h2
 refine tail_any (T:="tuple") ⟨_,ho.h,rfl⟩ slot_tuple_getitem.lookup ?_ (YI hs _ _)
 exact getItem_tuple (is_tup ho.h) (d.elim (λz=>Zt4 (by decide) z.1) λz=>Jz z.2.1 hl) (d.elim (λz=>JA z.2.2 hl) λz=>Zo1 z.1 (by decide)) (by rw[b_];exact hj) (by rw[aY];exact a) (X9 I ⟨x,q,b⟩)
theorem E5(I:Inv c s U):Y9 c E s U .xQ:=λ{_ _ _ _ Q _ _} hs h ea ei=>by
 refine hG ?_;intro PP
 obtain⟨k,rfl,h1⟩:=Yx h
 obtain⟨d,rfl,h2⟩:=Y6 h1
 obtain⟨es,hd,h3⟩:=WD h2
 obtain⟨x,hx,q⟩:=X8 h3
 obtain⟨t,rfl⟩:=ei
 obtain rfl:=ea
 cases Sh I hd with|mk hk nd ll el=>
 rcases el.get O3 (k:=k) trivial λY Y=>trivial with⟨v,y,a,b,e⟩|⟨a,b⟩
 ·rw[Xj,hx]at b
  cases b
  exact tail_any hk.typeIs slot_dict_getitem.lookup (wpAny_getItem_of Sj hk.mapOf a (YS I ⟨_,q,e⟩)) (YI hs _ _)
 ·rw[Xj,hx]at b;exact XD b
theorem E4(I:Inv c s U):Y9 c E s U .xP:=λ{_ _ _ _ Q _ _} hs h ea ei=>by
 refine hG ?_;intro PP
 obtain⟨k,rfl,h1⟩:=VN h
 obtain⟨d,rfl,h2⟩:=Y6 h1
 obtain⟨es,hd,h3⟩:=ML h2
 obtain⟨x,hx,q⟩:=X8 h3
 obtain⟨hlt,t,rfl⟩:=ei
 obtain rfl:=ea
 cases CP I hd with|mk hk nd ll hs' el=>
 rcases el.get CQ (k:=k) hlt hs' with⟨v,y,a,b,e⟩|⟨a,b⟩
 ·rw[Sl,hx]at b
  cases b
  exact tail_any hk.typeIs slot_dict_getitem.lookup (wpAny_getItem_of JO hk.mapOf a (YS I ⟨_,q,e⟩)) (YI hs _ _)
 ·rw[Sl,hx]at b;exact XD b
noncomputable abbrev xg(a b d:Value):Obj:={cls:=.type "slice",data:=.fields #[a,b,d]}
theorem MG:clipAt n k=match k with|.ofNat m=>min m n|.negSucc m=>n-(m+1):=by
 unfold clipAt
 induction k using jI with
 |ofNat m=>
  show(max 0 (min (m:Int) (n:Int))).toNat=min m n
  rcases Zo3 m n with h|h
  ·rw[Int.min_eq_left (Zw9.mpr h),Zk3 (aQ m),Zs8 h];rfl
  ·rw[Int.min_eq_right (Zw9.mpr h),Zk3 (aQ n),Zk2 h];rfl
 |negSucc m=>
  rw[if_pos (aK m)]
  show(max 0 (min (Zs1 m+n) (n:Int))).toNat=n-(m+1)
  rcases Nat.lt_or_ge m n with h|h
  ·rw[ez h,Int.min_eq_left (Zw9.mpr (Zv0 _ _)),Zk3 (aQ _)];rfl
  ·rw[Int.max_eq_left (Zt4 (Int.min_le_left _ _) (Int.le_of_lt (by rw[show Zs1 m+(n:Int)=.negSucc (m-n)from(Int.subNatNat_of_lt (aT h)).trans (congrArg Zs1 (by rw[Nat.succ_sub h];rfl))];exact aK _)))]
   exact(Nat.sub_eq_zero_of_le (bZ h)).symm
noncomputable def TF{α:Type}(k:Int)(xs:List α):List α:=match k with|.ofNat n=>xs.drop n|.negSucc n=>xs.drop (xs.length-(n+1))
noncomputable def V4{α:Type}(k:Int)(xs:List α):List α:=match k with|.ofNat n=>xs.take n|.negSucc n=>xs.take (xs.length-(n+1))
theorem pick_from:Zi7 vs.toArray (some k) none none=(TF k vs).toArray:=by
 rw[slicePick_plain]
 show((vs.drop (clipAt vs.length k)).take (vs.length-clipAt vs.length k)).toArray=_
 rw[Zs3 (by rw[Zq4];exact cO _),MG]
 induction k using jI with
 |ofNat n=>
  show(vs.drop (min n vs.length)).toArray=(vs.drop n).toArray
  rcases Zo3 n vs.length with h|h
  ·rw[Zs8 h]
  ·rw[Zk2 h,Zk1,List.drop_of_length_le h]
 |negSucc n=>rfl
theorem MF:Zi7 vs.toArray none (some k) none=(V4 k vs).toArray:=by
 rw[slicePick_plain]
 show((vs.drop 0).take (clipAt vs.length k-0)).toArray=_
 rw[List.drop_zero,Nat.sub_zero,MG]
 induction k using jI with
 |ofNat n=>
  show(vs.take (min n vs.length)).toArray=(vs.take n).toArray
  rcases Zo3 n vs.length with h|h
  ·rw[Zs8 h]
  ·rw[Zk2 h,List.take_length,Zs3 h]
 |negSucc n=>rfl
theorem Jx(vs:List Value):Zi7 vs.toArray none none (some (-1))=vs.reverse.toArray:=by
 have e:sliceRange ((vs.length:Int)-1) (-1) (-1)=(Zw3 vs.length).map λk=>vs.length-1-k:=by
  unfold sliceRange
  rcases Zv8 vs.length with h|h
  ·rw[h];rfl
  ·have:((vs.length:Int)-1>-1):=Int.sub_lt_sub_right (Zy5.mpr h) 1
   simp only[show¬((-1:Int)>0)from by decide,if_false,this,if_true]
   rw[show(((vs.length:Int)-1- -1- -1-1)/ - -1).toNat=vs.length from by simp]
   refine Zt5 λk hk=>?_
   have hk:=List.mem_range.mp hk
   rw[show((vs.length:Int)-1)=((vs.length-1:Nat):Int)from(Int.ofNat_sub h).symm,Int.neg_mul,Int.one_mul,<-Int.sub_eq_add_neg,<-Int.ofNat_sub (Nat.le_sub_of_add_le hk)];rfl
 have sb:sliceBounds none none (some (-1)) vs.toArray.size=((vs.length:Int)-1,-1,-1):=by simp[sliceBounds]
 have fm:∀l:List Nat,(∀k∈l,k<vs.length)->(l.map λk=>vs.length-1-k).filterMap (vs.toArray[·]?)=l.map λk=>vs[vs.length-1-k]?.getD .none:=λl=>by
  induction l with
  |nil=>exactλY=>rfl
  |cons k l ih=>
   intro h
   have hk:=h k (.head _)
   rw[Zp9,Zf8,aY,cy (Qg hk),ih λx hx=>h x (.tail _ hx),Zp9,cy (Qg hk)];rfl
 unfold Zi7
 rw[sb]
 dsimp only
 rw[e,fm _ λk hk=>List.mem_range.mp hk]
 refine congrArg Zi8 (Zm4 λi=>?_)
 by_cases hi:i<vs.length
 ·rw[Zv3,List.getElem?_range hi,Zi9 hi,Option.map_some,cy (Qg hi)];rfl
 ·rw[Zz8 (by rw[cM,aI];exact(Zw5 hi)),Zz8 (by rw[aN];exact(Zw5 hi))]
theorem ZW.TF(k:Int)(l:ZW c.gv V xs vs):ZW c.gv V (TF k xs) (Mine.Internal.TF k vs):=by
 induction k using jI with
 |ofNat n=>exact l.drop n
 |negSucc n=>show ZW _ _ (xs.drop (xs.length-(n+1))) (vs.drop (vs.length-(n+1)));rw[l.len];exact l.drop _
theorem ZW.V4(k:Int)(l:ZW c.gv V xs vs):ZW c.gv V (V4 k xs) (Mine.Internal.V4 k vs):=by
 induction k using jI with
 |ofNat n=>exact l.take n
 |negSucc n=>show ZW _ _ (xs.take (xs.length-(n+1))) (vs.take (vs.length-(n+1)));rw[l.len];exact l.take _
theorem Lo(k:Int):(TF k xs).length<=xs.length:=by induction k using jI<;>(show(xs.drop _).length<=_;rw[Zq4];exact Zv0 ..)
theorem Q9(k:Int):(V4 k xs).length<=xs.length:=by induction k using jI<;>exact Zh4 ..
theorem Q8(I:Inv c s U){xs zs:List AV}{vs ws:List Value}{p:aV}{m:Nat}{b d e:Value}{lo hi st:Option Int}{lower upper step:Option Expr}{pp:Pos}{value:Expr}{P:Value->Zz0->US->Prop}(ho:s.heap.get? p=some (Xe "list" vs m))(hl:xs.length<=LN)(l:V5 c s.heap U xs vs)
 (pb:IsPart b lo) (pd:IsPart d hi) (pe:IsPart e st) (hst:st≠some 0) (hp:Zi7 vs.toArray lo hi st=ws.toArray) {ol:List Value} (hsub:subscripted (.Slice lower upper step pp) false (.ref p) (.ref s.heap.objs.size)=operate ol (getItem (.ref p) (.ref s.heap.objs.size)))
 (q:∀{s'},(∀b o,s.heap.get? b=some o->s'.heap.get? b=some o)->XF s s'->s.heap.get? (s.heap.objs.size+1)=none->s'.heap.get? (s.heap.objs.size+1)=some (Xe "list" ws 0)->Ok c s U P (.ref (s.heap.objs.size+1)) s'):
 bT c.M c.A (subscriptTail value (.Slice lower upper step pp) (.ref p) (.ref s.heap.objs.size)) (Ok c s U P) E {s with heap:=s.heap.push (xg b d e)}:=by
 have il:=(is_list ho).push (xg b d e)
 refine tail_any (s:={s with heap:=s.heap.push (xg b d e)}) (T:="list") il.typeIs slot_list_getitem.lookup ?_ hsub
 refine wpAny_getItem_list_slice (s:={s with heap:=s.heap.push (xg b d e)}) il (Heap.IsSliceOf.new ..) pb pd pe hst ?_ (Zm (by rw[b_,l.len];exact hl))
 rw[hp]
 have:=q (s':={s with heap:=(s.heap.push (xg b d e)).push (Xe "list" ws 0)}) (λb o e=>cA _ (cA _ e)) ZF (Y3 (bH _)) (by heap_get)
 rw[<-Zw1]at this
 exact this
end
theorem Jw(h:n<=LN):(n:Int)<2^63:=Zo0 (Zw9.mpr h) (by decide+kernel)
theorem Ll(i:Int):(if i<0 then-i else i)=(i.natAbs:Int):=by
 induction i using jI with
 |ofNat n=>exact if_neg (Ze5.mpr (aQ n))
 |negSucc n=>exact if_pos (aK n)
section
variable{c:Cx}{s:cK}{U:US}{E:Value->cK->Prop}
abbrev W7(c:Cx)(E:Value->cK->Prop)(s:cK)(U:US)(o:UO)(f:Value):Prop:=∀{v:AV} {va:Value} {Q:fP},uA o v Q U->En c s.heap U v va->bT c.M c.A (call f [va]) (Ok c s U (pV c Q)) E s
theorem Jv(I:Inv c s U):W7 c E s U .GK (.builtin "len"):=λ{_ _ Q} h e=>by
 refine hG ?_;intro PP
 obtain⟨xs,p,q,rfl,⟨ho,hl,l⟩⟩:=TG (K:=λxs=>Q (.int (.ofNat xs.length)) U) I h e
 have sz:(Zi8 _).size=xs.length:=l.len
 refine call_len_list (is_list ho) (by rw[sz];exact Jw hl) ?_
 rw[sz];exact YS I ⟨_,q,_,rfl⟩
theorem Ju(W:Wd c)(I:Inv c s U):W7 c E s U .KC (.builtin "len"):=λh e=>by
 refine hG ?_;intro PP
 obtain⟨d,rfl,h⟩:=Y6 h
 obtain⟨es,hd,q⟩:=WD h
 obtain rfl:=e
 cases Sh I hd with|mk hk nd ll el=>
 refine call_len_dict (UB W I hd) hk (by rw[el.len];exact Jw ll) ?_
 rw[el.len];exact YS I ⟨_,q,_,rfl⟩
theorem E3(I:Inv c s U):W7 c E s U .abs (.builtin "abs"):=λh e=>by
 obtain⟨i,rfl,q⟩:=Yx h
 obtain⟨t,rfl⟩:=e
 refine call_abs_int λu tk=>?_
 rw[Ll];exact YS I ⟨_,q,_,rfl⟩
theorem E1(I:Inv c s U):W7 c E s U .ord (.builtin "ord"):=λh e=>by
 refine hG ?_;intro PP
 obtain⟨k,rfl,h⟩:=VN h
 obtain⟨x,hx,q⟩:=X8 h
 obtain⟨hk,t,rfl⟩:=e
 have w:k=74/\x=115:=by
  have hx:(bif cZ k 74 then some 115 else none)=some x:=hx
  induction b:cZ k 74 using jB with
  |true=>rw[b]at hx;exact⟨cW b,(cU hx).symm⟩
  |false=>rw[b]at hx;exact ZE hx
 refine hG ?_;intro PP
 obtain⟨rfl,rfl⟩:=w
 have:ZU 74=⟨#[115]⟩:=by rfl
 rw[this]
 exact P.ord_of_char (YS I ⟨_,q,_,rfl⟩)
theorem Jt(I:Inv c s U):W7 c E s U .list (.type "list"):=λ{_ _ Q} h e=>by
 refine hG ?_;intro PP
 obtain⟨xs,p,q,rfl,⟨ho,hl,l⟩⟩:=TG (K:=λxs=>Q (.lst xs) U) I h e
 refine call_list_seq p (.inl rfl) ho rfl rfl (λh' c' k1 k2=>?_) (Zm (by rw[b_,l.len];exact hl))
 exact T8 I hl q l k1 ZF Zz k2
theorem Lk(I:Inv c s U):W7 c E s U .tuple (.type "tuple"):=λ{_ _ Q} h e=>by
 refine hG ?_;intro PP
 obtain⟨xs,p,q,rfl,⟨ho,hl,l⟩⟩:=TG (K:=λxs=>Q (.tup xs) U) I h e
 refine call_tuple_list (is_list ho) (λh' k1=>?_) (Zm (by rw[b_,l.len];exact hl))
 have z:s.heap.get? h'.objs.size=none:=fE λq=>eE (bW.mp q) λ_ e=>absurd (ao (k1 _ _ e)) (Nat.lt_irrefl _)
 exact JN (n:=0) I hl q l (λb o e=>cA _ (k1 b o e)) ZF z (by heap_get)
theorem E0(I:Inv c s U):W7 c E s U .int (.type "int"):=λh e=>by
 obtain⟨b,rfl,q⟩:=UC h
 obtain rfl:=e
 refine call_int_bool (YS I ⟨_,q,s.toks,?_⟩)
 induction b using jB<;>rfl
theorem Lj(W:Wd c)(I:Inv c s U):W7 c E s U .M7 (.type "dict"):=λh e=>by
 refine hG ?_;intro PP
 obtain⟨d,rfl,h⟩:=Y6 h
 obtain⟨es,hd,q⟩:=WD h
 obtain rfl:=e
 cases Sh I hd with|mk hk nd ll el=>
 refine kt_call_dict (UB W I hd) hk (Zm (by rw[el.len];exact ll)) λh' hd' hs=>?_
 refine hG ?_;intro PP
 obtain⟨o,ho,hd'⟩:=Zz5.mp hd'
 refine Sf (x:=.di es) I q (λb o e=>?_) ZF Zz ho ⟨_,hd',ll,el⟩
 rw[hs.2 b (aD (ao e))]
 exact cA _ e
end
theorem Uy:entryFor table "dict.update.loop"=some Builtin.«dict.update.loop»:=entryFor_of_fast (by kernel_rfl)
theorem Xz:plainId "dict.update.loop"=true:=by decide+kernel
theorem Li:typeLookup (.type "list") "keys"=pure none:=am_miss_of_fast (by decide+kernel)
section
variable{prog:Zw8}{w:Zt2}{A:aC}{E:Value->cK->Prop}{s:cK}
theorem Lh(hx:s.heap.get? a=some (Xe "list" vs n))(hA:A.handled=none)(h:∀h' tk,(∀b o,s.heap.get? b=some o->h'.get? b=some o)->Q none {s with heap:=h',toks:=tk}):
 bT (model prog w) A (getAttr? (.ref a) "keys") Q E s:=by
  refine hG ?_;intro PP
  obtain⟨hp,g,d,tk,os⟩:=s
  dsimp only[PP]
  have hT:∀tk',(⟨hp,g,d,tk',os⟩:cK).TypeIs (.ref a) "list":=λY=>⟨_,hx,rfl⟩
  have f1:=sub_AttributeError
  have f3:=Zt3.lookup
  have f4:=Zt3.bind (.ref a)
  have f5:=am_list_getattr_none
  unfold getAttr? getAttrBy? getAttrBy
  repeat(any_goals (first|assumption|exact hT _|((with_reducible show bT _ _ (call (Value.builtin "list.__getattribute__") _ _) _ _ _);refine Zs0 Zt3 (hT _) am_entry_list_getattribute (F.args_list_getattribute_2 _ _) (meets_getattribute_miss_list a vs.toArray n _ "keys" _ Li (by decide+kernel)) ⟨hx,hA,λh' tk' e hx'=>?_⟩)|wp_step))
  refine hG ?_;intro PP
  obtain⟨t',u',he⟩:=hx'.there
  show bT _ _ (getattributeRaised _ _ _ _ _ _ _) _ _ _
  unfold getattributeRaised
  repeat(any_goals (first|assumption|wp_step))
  exact h _ _ hx'.keeps
noncomputable def xe(h:Zz0):List Value->List (Int×Value)->Prop
 |[],kvs=>kvs=[]
 |v::r,kvs=>∃k x q t a n,kvs=(k,x)::q/\v=.ref a/\h.get? a=some (Xe "tuple" [.int k t,x] n)/\xe h r q
theorem Q7(hA:A.handled=none)(hp:g.get? p=some (Xe "list" vs m))(hl:vs.length<=LN)(hd:g.get? d=none)(hI:g.get? I=none)(ne:d≠I):
 ∀(rest pre:List Value) (kvs acc:List (Int×Value)) (s:cK),pre++rest=vs->xe g rest kvs->acc.length<=pre.length->(∀b o,g.get? b=some o->s.heap.get? b=some o)->s.heap.IsListIter I p pre.length->s.heap.DictOf (Zp0 prog w) d acc->
 (∀h' tk,(∀b o,g.get? b=some o->h'.get? b=some o)->h'.DictOf (Zp0 prog w) d (kvs.foldl (λc e=>Zm2 c e.1 e.2) acc)->R (.ok (.ret .none)) {s with heap:=h',toks:=tk})->
 Zi6 (model prog w) A (.builtin "dict.update.loop" ⟨[.ref d,.ref I,Zq8 pre.length,.none],[]⟩) R s
  |[],pre,kvs,acc,s,e,hk,ha,kb,hit,hdo,q=>by
   obtain rfl:=hk
   rw[cB]at e;subst e
   refine codeAny_builtin Uy ?_
   rw[Zg9 Xz _]
   show bT _ A.in1 (pyNext (.ref I)>>=_) _ _ s
   refine cY (wpAny_pyNext_list_end (items:=pre.toArray) hA hit (is_list (kb _ _ hp)) (by rw[aY];exact Zz8 (cO _)) λh' x=>?_)
   show bT _ _ (ret Zr9) _ _ _
   exact b7 (q h' _ (λb o e=>x b o (λz=>by rw[z,hI]at e;exact ZE e) (kb b o e)) (eE hdo λo Z=>eE Z λes Z=>eE Z λep Z=>aE Z λho r=>⟨o,es,ep,x d o ne ho,r⟩))
  |v::rest,pre,kvs,acc,s,e,hk,ha,kb,hit,hdo,q=>by
   refine hG ?_;intro PP
   obtain⟨k,x,r,t,a,n,rfl,rfl,hv,hk⟩:=hk
   have lt:pre.length<vs.length:=by rw[<-e,cS,bG];simp+arith only
   refine codeAny_builtin Uy ?_
   rw[Zg9 Xz _]
   show bT _ A.in1 (pyNext (.ref I)>>=_) _ _ s
   refine cY (wpAny_pyNext_list_item (items:=vs.toArray) hit (is_list (kb _ _ hp)) (x:=.ref a) (by rw[aY,<-e,Zy0 (cO _),Zn9];rfl) λh1 i1 x1=>?_)
   have kb1:∀b o,g.get? b=some o->h1.get? b=some o:=λb o e=>(x1.2 b λz=>by rw[z,hI]at e;exact ZE e).trans (kb b o e)
   have hd1:h1.DictOf (Zp0 prog w) d acc:=eE hdo λo Z=>eE Z λes Z=>eE Z λep Z=>aE Z λho r=>⟨o,es,ep,(x1.2 d ne).trans ho,r⟩
   refine cY (bJ (cY (wpAny_tryCatch ?_)))
   refine cY (wpAny_typeOf (s:={s with heap:=h1}) (T:="tuple") ⟨_,kb1 _ _ hv,rfl⟩ ?_)
   rw[if_pos (by decide)]
   refine cY (wpAny_seqItems (kb1 _ _ hv) rfl (b7 ?_))
   show bT _ _ (Zv4 [.int k t,x] (dictSet d (.int k t) x)) _ _ _
   refine bJ (wpAny_dictSet_pairs (knd:=Zp0 prog w) (intKind_is _ _ k t) hd1 (λh2 d2 x2=>?_) (c7 ha (Zm (c7 (Zz7 lt) hl))))
   have e1:Zq8 (↑pre.length+1)=Zq8 ((pre++[Zq6 a]).length:Nat):=by rw[cS];rfl
   refine b7 ⟨plainId_quiet Xz _,?_⟩
   rw[e1]
   refine Q7 hA hp hl hd hI ne rest (pre++[.ref a]) r (Zm2 acc k x) {s with heap:=h2,toks:=s.toks+1} (by rw[cz];exact e) hk ?_ (λb o e=>(x2.2 b λz=>by rw[z,hd]at e;exact ZE e).trans (kb1 b o e)) ?_ d2 λh' tk k1 k2=>q h' tk k1 k2
   ·rw[cS]
    have:(Zm2 acc k x).length<=acc.length+1:=by unfold Zm2;split<;>simp
    exact c7 this (cu ha)
   ·obtain⟨o,ho,hc,hdt⟩:=i1
    refine⟨o,(x2.2 I (Zp2 ne)).trans ho,hc,?_⟩
    rw[hdt,cS];rfl
theorem Tq(hA:A.handled=none)(hp:s.heap.get? p=some (Xe "list" vs m))(hl:vs.length<=LN)(hk:xe s.heap vs kvs)
 (q:∀h' tk,(∀b o,s.heap.get? b=some o->h'.get? b=some o)->h'.DictOf (Zp0 prog w) s.heap.objs.size (kvs.foldl (λc e=>Zm2 c e.1 e.2) [])->Q (.ref s.heap.objs.size) {s with heap:=h',toks:=tk}):
 bT (model prog w) A (call (.type "dict") [.ref p]) Q E s:=by
  refine callType_codes (Q₁:=λobj s₁=>obj=.ref s.heap.objs.size/\s₁={s with heap:=s.heap.push {cls:=.type "dict",data:=.dict #[]}}) F.kt_called_dict (F.kt_typeCall_dict_1 _) F.entry_dict_init (kt_code_dict_new _ ⟨rfl,rfl⟩) ?_
  rintro obj s₁ ⟨rfl,rfl⟩
  have hnew:(s.heap.push {cls:=.type "dict",data:=.dict #[]}).DictOf (Zp0 prog w) s.heap.objs.size []:=Heap.DictOf.new s.heap
  have kb:∀b o,s.heap.get? b=some o->(s.heap.push {cls:=.type "dict",data:=.dict #[]}).get? b=some o:=λb o e=>cA _ e
  refine⟨hnew.typeIs,F.args_dict_init_2 _ _,?_⟩
  unfold Builtin.«dict.__init__»
  refine cY ?_
  unfold Builtin.Dict.selfAndRest
  refine cY (wpAny_notOrdered_dict hnew.typeIs ?_)
  show bT _ _ (pure (s.heap.objs.size,[Zq6 p])) _ _ _
  refine b7 ?_
  show bT _ _ (Zk9 "dict.__init__" s.heap.objs.size (.ref p) [] .none) _ _ _
  unfold Zk9
  refine cY (wpAny_typeOf (T:="list") ⟨_,kb _ _ hp,rfl⟩ ?_)
  rw[if_pos (by decide)]
  refine cY (Lh (kb _ _ hp) hA λh1 t1 k1=>?_)
  show bT _ _ (rule _>>=_) _ _ _
  refine cY (Ze4 (cY (wpAny_pyIter_list (s:={s with heap:=h1,toks:=t1}) (is_list (k1 _ _ (kb _ _ hp))) ?_)))
  have hlt:s.heap.objs.size<h1.objs.size:=by
   refine hG ?_;intro PP
   obtain⟨o,_,_,ho,_⟩:=hnew
   exact ao (k1 _ _ ho)
  have kb2:∀b o,s.heap.get? b=some o->(h1.push {cls:=.type "list_iterator",data:=.fields #[.ref p,.int 0 0]}).get? b=some o:=λb o e=>cA _ (k1 _ _ (kb b o e))
  refine b7 ⟨plainId_quiet Xz _,Q7 (prog:=prog) (w:=w) (A:=A.in1) (vs:=vs) hA hp hl Zz (Y3 (Zz7 hlt)) (aD hlt) vs [] kvs [] {s with heap:=h1.push {cls:=.type "list_iterator",data:=.fields #[.ref p,.int 0 0]},toks:=t1} rfl hk (cO _) kb2 ⟨_,bR _ rfl,rfl,rfl⟩
   (eE hnew λo Z=>eE Z λes Z=>eE Z λep Z=>aE Z λho r=>⟨o,es,ep,cA _ (k1 _ _ ho),r⟩) λh' tk k2 k3=>⟨rfl,q h' tk k2 k3⟩⟩
end
section
variable{c:Cx}{s:cK}{U:US}{E:Value->cK->Prop}
@[elab_as_elim]theorem CL{α:Type}{P:α->Prop}{a b:α}(m:P a)(h:some a=some b):P b:=cU h▸m
theorem pairs_at(l:V5 c s.heap U xs vs)(h:pairsOf xs=some es):∃kvs,xe s.heap vs kvs/\EncD c.gv (Vw c s.heap U) id es kvs:=by
 induction xs generalizing vs es with
 |nil=>obtain rfl:vs=[]:=l;exact CL (a:=[]) (P:=λes=>∃kvs,xe s.heap [] kvs/\EncD c.gv (Vw c s.heap U) id es kvs) ⟨[],rfl,rfl⟩ (show some []=some es from h)
 |cons x r ih=>
  refine l.el λv ws e ev l=>?_
  rw[e]
  refine Ph (P:=λx es=>En c s.heap U x v->∃kvs,xe s.heap (v::ws) kvs/\EncD c.gv (Vw c s.heap U) id es kvs) h (λk w es' h' ev=>?_) ev
  refine(ih l h').elim λkvs a=>?_
  refine hG ?_;intro PP
  obtain⟨us,⟨h1⟩,_,u1,us',rfl,⟨t,rfl⟩,u2,iB,rfl,e2,rfl⟩:=ev
  exact⟨_,⟨_,u2,kvs,t,_,_,rfl,rfl,h1.h,a.1⟩,_,kvs,rfl,e2,a.2⟩
theorem Qe{kvs:List (Int×Value)}{k:Int}{v:Value}(nd:(kvs.map (·.1)).Nodup):((Zm2 kvs k v).map (·.1)).Nodup:=by
 unfold Zm2
 split
 ·rw[Zo2,show((·.1)∘λkv:Int×Value=>if kv.1=k then(kv.1,v)else kv)=(·.1)from funext λkv=>by show(if kv.1=k then(kv.1,v)else kv).1=kv.1;split<;>rfl];exact nd
 ·rename_i h
  rw[bw]
  refine Zy4.mpr ⟨nd,bU.mpr ⟨Zx9,Zr2⟩,λa ha b hb e=>h ?_⟩
  obtain rfl:=cP.mp hb
  refine hG ?_;intro PP
  obtain⟨kv,m,rfl⟩:=bu.mp ha
  exact Zq3.mpr ⟨kv,m,decide_eq_true e⟩
theorem Js{V:fD}{gv:Nat->Value}{es:List (Int×AV)}:∀{kvs:List (Int×Value)} {acc:List (Int×AV)} {Lg:List (Int×Value)},EncD gv V id es kvs->(Lg.map (·.1)).Nodup->EncD gv V id acc Lg->
 EncD gv V id (es.foldl (λd e=>fJ d e.1 e.2) acc) (kvs.foldl (λc e=>Zm2 c e.1 e.2) Lg):=by
 induction es with
 |nil=>intro kvs acc Lg h Y l;obtain rfl:=h;exact l
 |cons e es i=>
  refineλ{kvs acc Lg} h nd l=>h.el λv r h ev l'=>?_
  subst h
  have:=l.put O3 (k:=e.1) trivial ev nd λY Y=>trivial
  rw[So]at this
  exact i (kvs:=r) l' (Qe nd) this
theorem OV:∀{es acc:List (Int×AV)},(es.foldl (λd e=>fJ d e.1 e.2) acc).length<=acc.length+es.length
 |[],_=>cO _
 |e::es,acc=>by
  have:=OV (es:=es) (acc:=fJ acc e.1 e.2)
  have h:=T9 (k:=e.1) (v:=e.2) (es:=acc)
  rw[List.foldl_cons,bG];exact Z7 this (Z7 h)
theorem Le(I:Inv c s U)(hA:c.A.handled=none):W7 c E s U .Va (.type "dict"):=λh e=>by
 refine hG ?_;intro PP
 obtain⟨xs,rfl,h⟩:=XA h
 obtain⟨es,hes,q⟩:=X8 h
 obtain⟨vs,⟨hp⟩,hl,l⟩:=e
 obtain⟨kvs,a,b⟩:=pairs_at l hes
 refine Tq hA hp.h (by rw[l.len];exact hl) a λh' tk k1 k2=>?_
 refine hG ?_;intro PP
 obtain⟨o,ho,hd⟩:=Zz5.mp k2
 refine Sf (x:=.di (es.foldl (λd e=>fJ d e.1 e.2) [])) I q k1 ZF Zz ho ⟨_,hd,?_,Js (acc:=[]) (Lg:=[]) b Zr2 rfl⟩
 have:=OV (es:=es) (acc:=[])
 exact c7 this (c7 (cV (a_ _)) (c7 (pairs_len hes) hl))
where
 pairs_len {xs:List AV} {es:List (Int×AV)} (h:pairsOf xs=some es):es.length<=xs.length:=by
  induction xs generalizing es with
  |nil=>exact CL (a:=[]) (P:=λes=>es.length<=0) (cO _) (show some []=some es from h)
  |cons x r ih=>exact Ph (P:=λY es=>es.length<=r.length+1) h λk v es' h'=>cu (ih h')
end
section
variable{c:Cx}{s:cK}{U:US}{E:Value->cK->Prop}
inductive AU(c:Cx)(s:cK)(K:List Nat->Prop)(a:Value):Prop
 |mk {ts t H}:K ts->KitX c.K a t H->H s.heap->a≠.builtin "__main__.__loader__#opaque"->(∀k,Yl k=true->Ze3 c.K t (c.gv k)=some (Zh k ts))->AU c s K a
theorem NM(W:Wd c){k:Nat}{v:Value}{x:AV}{es:List Zx6}{K:List Nat->Prop}(O:Ss c s U k v x es)(hk:fM k=true)(h:K (Xp k)):AU c s K v:=by
 cases O with|@mk ad C d _ n _ hc h1 h2 e=>
 have O:=W.O6 hk hc
 have hg:plainGet c.K C "__class__"=true:=by unfold plainGet;rw[O.xh,O.ga];decide
 exact⟨h,kitx_own (ox:=ak C d) (od:=Zj3 es n) hg O.hd O.cn W.cg W.ct O.obj,WC h1 h2,(by intro z;cases z),O.KA⟩
theorem CI(W:Wd c)(I:Inv c s U){v:AV}{a:Value}{K:List Nat->Prop}(h:Kl U v K)(e:En c s.heap U v a):AU c s K a:=by
 unfold Kl at h
 have h:=h.h
 induction v using jV with
 |bool b=>obtain rfl:=e;exact⟨h,kitx_bool,trivial,(by intro z;cases z),W.A6⟩
 |int i=>obtain⟨t,rfl⟩:=e;exact⟨h,kitx_int,trivial,(by intro z;cases z),W.A5⟩
 |lst xs=>obtain⟨vs,⟨h1⟩,_⟩:=e;exact⟨h,kitx_list,⟨_,h1.h,rfl⟩,(by intro z;cases z),W.FG⟩
 |inst k xs=>obtain⟨es,O,_⟩:=Sq e;exact NM W O h.1 h.2
 |g k=>
  obtain⟨k',hk,h⟩:=X8 (show oA (U_ k) _ from h)
  obtain⟨b,C,d,es,n,h1,h2,h3,h4⟩:=W.sp k (by rw[hk];rfl)
  have:k'=23:=by
   unfold U_ at hk
   revert hk
   induction Wv k [24,25,26]using jB with
   |true=>exactλh=>(cU h).symm
   |false=>exact(ZE ·)
  subst this
  obtain rfl:=e
  rw[h1]
  exact NM W (U:=U) (x:=.g k) ⟨h2,(I.Yr.base _ _ h3).h,(I.Yr.base _ _ h4).h,h1.symm⟩ (by rfl) h
 |ref r=>
  have h:BN U r K:=h
  unfold BN at h
  obtain⟨h⟩:=h
  obtain rfl:=e
  induction hr:U r using jO with
  |none=>rw[hr]at h;exact h.elim
  |some o=>
  rw[hr]at h
  induction o using jA with
  |inst k d=>
   obtain⟨hk,h⟩:=h
   obtain⟨fs,hd,h⟩:=Sz h
   obtain⟨es,O,_⟩:=Ql I hr hd
   exact NM W O hk h
  |list xs=>
   cases Vs I hr with|mk ho _ _=>
   exact⟨h,kitx_list,⟨_,ho,rfl⟩,(by intro z;cases z),W.FG⟩
  |_=>exact h.elim
 |_=>exact h.elim
theorem Jr(W:Wd c)(I:Inv c s U)(hk:Yl k=true)(h:Kl U v λts=>Q (.bool ([k].any λk=>Zh k ts)) U)(e:En c s.heap U v a):bT c.M c.A (call (.builtin "isinstance") [a,c.gv k]) (Ok c s U (pV c Q)) E s:=by
 cases CI W I h e with|mk q c_ z1 z2 z3=>
 refine kia_one c_ (W.CS I.Yr) z1 (z3 k hk) z2 λtk=>YS I ⟨_,q,?_⟩
 exact congrArg Value.bool (Zf0 _).symm
theorem Jq(W:Wd c)(I:Inv c s U)(hj:Yl j=true)(hk:Yl k=true)(h:Kl U v λts=>Q (.bool ([j,k].any λk=>Zh k ts)) U)(e:En c s.heap U v a)(ht:s.heap.get? tp=some (Xe "tuple" [c.gv j,c.gv k] n)):
 bT c.M c.A (call (.builtin "isinstance") [a,.ref tp]) (Ok c s U (pV c Q)) E s:=by
  cases CI W I h e with|@mk ts t _ q c_ z1 z2 z3=>
  refine kia_tup (its:=[c.gv j,c.gv k]) (b:=[j,k].any λk=>Zh k ts) c_ (W.CS I.Yr) z1 ht ?_ z2 λtk=>YS I ⟨_,q,rfl⟩
  unfold kitAny
  rw[z3 j hj]
  show(match some (Zh j ts)with|some true=>some true|some false=>kitAny c.K t [c.gv k]|none=>none)=some (Zh j ts||(Zh k ts||false))
  induction Zh j ts using jB with
  |true=>rfl
  |false=>
   dsimp only
   unfold kitAny
   rw[z3 k hk]
   induction Zh k ts using jB<;>rfl
theorem Jp(vs:List Value)(n:Nat)(v:Value):Zw2 (λxs=>xs.eraseIdxIfInBounds ((vs++[v]).toArray.size-1)) (Xe "list" (vs++[v]) n)=Xe "list" vs (n+1)/\(vs++[v]).toArray[(vs++[v]).toArray.size-1]?=some v:=by
 have e0:(vs++[v]).toArray.size-1=vs.length:=by simp
 rw[e0]
 refine⟨?_,by simp⟩
 have e:(vs++[v]).toArray.eraseIdxIfInBounds vs.length=vs.toArray:=by
  have hl:vs.length<(vs++[v]).length:=by rw[cS];exact Zz1 _
  rw[Zm1]
  simp only[b_,hl,dif_pos,List.eraseIdx_toArray]
  rw[List.eraseIdx_append_of_length_le (cO _),Zn9,List.eraseIdx_cons_zero,cB]
 simp only[Zw2,e]
 simp
theorem Ld(v:Value)(vs:List Value)(n:Nat):Zw2 (λxs=>xs.eraseIdxIfInBounds 0) (Xe "list" (v::vs) n)=Xe "list" vs (n+1):=by
 have e:(v::vs).toArray.eraseIdxIfInBounds 0=vs.toArray:=by
  rw[Zm1]
  simp
 simp only[Zw2,b_,e]
 simp
theorem Jo(vs ws:List Value)(n:Nat):∃n',Zw2 (λxs=>xs++ws.toArray) (Xe "list" vs n)=Xe "list" (vs++ws) n':=⟨_,by simp only[Zw2,Zf9];rfl⟩
theorem ZW.split:∀{ys:List AV} {vs:List Value},ZW gv V (xs++ys) vs->∃v1 v2,vs=v1++v2/\ZW gv V xs v1/\ZW gv V ys v2:=by
 induction xs with
 |nil=>exactλ{Y vs} h=>⟨[],vs,rfl,rfl,h⟩
 |cons x xs i=>exactλh=>ZW.el h λv ws e h l=>eE (i l) λv1 Z=>eE Z λv2 Z=>aE Z λe' Z=>aE Z λl1 l2=>⟨v::v1,v2,by rw[e,e'];rfl,⟨v,v1,rfl,h,l1⟩,l2⟩
theorem Qd(I:Inv c s U)(hu:U a=some (.list xs))(ho:s.heap.get? a=some (Xe "list" vs n))(hf:f (Xe "list" vs n)=Xe "list" ws m)(hl:ys.length<=LN)(l:V5 c s.heap U ys ws)
 (q:Q x (upd U a (some (.list ys)))) (ev:En c s.heap U x v):Ok c s U (pV c Q) v {s with heap:=s.heap.update a f,toks:=t}:=by
  have z:=I.set (s':={s with heap:=s.heap.update a f,toks:=t}) (x:=.list ys) hu (Zw7 ..) ZF (Zz6 _ ho (by rw[hf];rfl)) ⟨ws,m,hf,hl,l⟩
  exact .at' z ⟨x,q,ev.mono (I.vw z.2)⟩
theorem NK(I:Inv c s U)(h:bA .append (.ref a) w Q U)(e:En c s.heap U w vw):bT c.M c.A (call (.builtin "list.append") [.ref a,vw]) (Ok c s U (pV c Q)) E s:=by
 refine hG ?_;intro PP
 obtain⟨xs,hu,hn,q⟩:=WE (show oL (U a) _ from h)
 cases Vs I hu with|@mk vs k ho ll l1=>
 refine Zs0 F.slot_list_append ⟨_,ho,rfl⟩ F.entry_list_append (F.args_list_append_2 _ _) (list_append a vs.toArray k _ (Zm (by rw[b_,l1.len];exact ll))) ⟨ho,?_⟩
 have hf:=mapSeq_push vs.toArray k vw none #[]
 rw[List.push_toArray]at hf
 exact Qd I hu ho hf (by rw[cS];exact hn) (l1.app (ZW.one e)) q rfl
theorem NJ(I:Inv c s U)(h:bA .extend (.ref a) w Q U)(e:En c s.heap U w vw):bT c.M c.A (call (.builtin "list.extend") [.ref a,vw]) (Ok c s U (pV c Q)) E s:=by
 refine hG ?_;intro PP
 obtain⟨xs,hu,h⟩:=WE (show oL (U a) _ from h)
 obtain⟨ys,rfl,hn,q⟩:=XA h
 obtain⟨ws,⟨iA⟩,l2,el⟩:=e
 cases Vs I hu with|@mk vs k ho ll l1=>
 refine hG ?_;intro PP
 obtain⟨k3,hf⟩:=Jo vs ws k
 have hz:vs.length+ws.length<=LN:=by rw[l1.len,el.len];exact hn
 refine Zs0 F.slot_list_extend ⟨_,ho,rfl⟩ F.entry_list_extend (F.args_list_extend_2 _ _) (AutoSeq1.list_extend_list_list_0 a vs.toArray k _ ws.toArray _ (λz=>?_) (Zm (by rw[b_];exact c7 (cR _ _) hz)) (bZ (Zm (by rw[b_,b_];exact hz)))) ⟨ho,iA.h,?_⟩
 ·have:=Zm hz
  simp only[Zk0,b_,Builtin.List.listTooLong,decide_eq_true_eq]at z
  lia
 ·exact Qd I hu ho hf (by rw[cS];exact hn) (l1.app el) q rfl
set_option tactic.hygienic true in
theorem EZ(I:Inv c s U)(h:uA .pop (.ref a) Q U):bT c.M c.A (call (.builtin "list.pop") [.ref a]) (Ok c s U (pV c Q)) E s:=by
 refine hG ?_;intro PP
 obtain⟨xs,hu,h⟩:=WE (show oL (U a) _ from h)
 unfold Gx at h
 obtain⟨h⟩:=h
 split at h
 ·rename_i x r hx
  have hx:xs=r.reverse++[x]:=by rw[<-Zh5 xs,hx,Zv2]
  cases Vs I hu with|@mk vs k ho ll l1=>
  subst hx
  refine hG ?_;intro PP
  obtain⟨v1,v2,rfl,e1,e2⟩:=ZW.split l1
  obtain⟨y,w,rfl,ey,rfl⟩:=e2
  obtain⟨hf,hl⟩:=Jp v1 k y
  refine Zs0 F.slot_list_pop ⟨_,ho,rfl⟩ F.entry_list_pop (F.args_list_pop_1 _) (MeetsSeq.list_pop_last a (v1++[y]).toArray k y hl (Zm (by rw[b_,l1.len];exact ll))) ⟨ho,?_⟩
  exact Qd I hu ho hf (c7 (by rw[cS];exact cR ..) ll) e1 h ey
 ·exact h.elim
theorem Jm(I:Inv c s U)(h:uA .N9 (.ref a) Q U):bT c.M c.A (call (.builtin "list.pop") [.ref a,.int 0 t]) (Ok c s U (pV c Q)) E s:=by
 refine hG ?_;intro PP
 obtain⟨xs,hu,h⟩:=WE (show oL (U a) _ from h)
 induction xs using jL with
 |nil=>exact h.elim
 |cons x r=>
 cases Vs I hu with|@mk vs k ho ll l1=>
 refine hG ?_;intro PP
 obtain⟨y,ws,rfl,ey,l2⟩:=id l1
 have hf:=Ld y ws k
 refine Zs0 F.slot_list_pop ⟨_,ho,rfl⟩ F.entry_list_pop (F.args_list_pop_2 _ _) (MeetsSeq.list_pop_at a (y::ws).toArray k 0 t 0 y (by decide) (by unfold seqIndex?;simp) (by simp) (Zm (by rw[b_,l1.len];exact ll))) ⟨ho,?_⟩
 exact Qd I hu ho hf (c7 (bH _) ll) l2 h ey
theorem EY(W:Wd c)(I:Inv c s U)(h:bA .get (.ref a) (.tup [k,d]) Q U)(ek:En c s.heap U k vk)(ed:En c s.heap U d vd):bT c.M c.A (call (.builtin "dict.get") [.ref a,vk,vd]) (Ok c s U (pV c Q)) E s:=by
 refine hG ?_;intro PP
 obtain⟨es,hu,h⟩:=WD (show LH (U a) _ from h)
 obtain⟨i,rfl,q⟩:=Yx (show Vz k λk=>Q ((Zr es k).getD d) U from h)
 obtain⟨t,rfl⟩:=ek
 cases Sh I hu with|@mk kvs hd nd ll el=>
 refine call_meetsIn F.slot_dict_get hd.typeIs F.entry_dict_get (F.args_dict_get_3 _ _ _) (meets_dict_get_default (Zp0 c.prog c.w) a Sj (UB W I hu) _) ⟨_,hd.mapOf,?_⟩
 refine YS I ⟨_,q,?_⟩
 rcases el.get O3 (k:=i) trivial λY Y=>trivial with⟨v,y,a,b,e⟩|⟨a,b⟩
 ·rw[Xj]at b;rw[b,show Zl3 kvs i=some v from a];exact e
 ·rw[Xj]at b;rw[b,show Zl3 kvs i=none from a];exact ed
end
def AS(k:Option Zy9):Prop:=k=some .cell\/k=some .free
structure At(gv:Nat->Value)(V:fD)(h:Zz0)(env:Env)(m:Str->Option Value)(n:Str)(v:AV):Prop where
 l:env.kindOf n=some .local->∃x,m n=some x/\Enc gv V v x
 c:AS (env.kindOf n)->∃c x,env.cells.lookup n=some c/\h.IsCell c (some x)/\Enc gv V v x
structure Wh(gv:Nat->Value)(V:fD)(h:Zz0)(env:Env)(nm:List Str)(L:Loc):Prop where
 ns:∃m,h.Ns env.locals m/\∀(i:Nat) (n:Str) (v:AV),nm[i]?=some n->L[i]?=some (some v)->At gv V h env m n v
 cell:∀n,env.kindOf n=some .cell->∃c o,env.cells.lookup n=some c/\h.IsCell c o
 len:L.length=nm.length
structure ZO(env:Env)(nm:List Str)(X:aV->Prop):Prop where
 kind:env.scope.kind=.function
 glob:env.globals=Zw6
 blt:env.builtins=Zp6
 nodup:nm.Nodup
 cells:env.cells.Pairwise λx y=>x.2≠y.2
 xl:X env.locals
 xc:∀n c,env.cells.lookup n=some c->X c
 lc:∀n c,env.cells.lookup n=some c->c≠env.locals
def OU(h h':Zz0)(a:aV):Prop:=∀o,h.get? a=some o->∃sl,h'.get? a=some {o with slots:=sl}
theorem VK(k:OU h h' c):h.IsCell c v->h'.IsCell c v:=λZ=>eE Z λo Z=>aE Z λho hd=>eE (k o ho) λ_ e=>⟨_,e,hd⟩
theorem EX(k:OU h h' a):h.Ns a m->h'.Ns a m:=λZ=>eE Z λo Z=>eE Z λes Z=>eE Z λep Z=>aE Z λho r=>eE (k o ho) λ_ e=>⟨_,es,ep,e,r⟩
section
variable{gv:Nat->Value}{V V':fD}{h h':Zz0}{env:Env}{m:Str->Option Value}{n:Str}{v:AV}{nm:List Str}{L:Loc}
theorem At.mono(kV:∀a o,V a o->V' a o)(k:∀c,env.cells.lookup n=some c->∀x,h.IsCell c x->h'.IsCell c x)(x:At gv V h env m n v):At gv V' h' env m n v:=
 ⟨λz=>eE (x.l z) λy Z=>aE Z λa b=>⟨y,a,b.mono kV⟩,λz=>eE (x.c z) λc Z=>eE Z λy Z=>aE Z λa Z=>aE Z λb d=>⟨c,y,a,k c a _ b,d.mono kV⟩⟩
theorem Wh.mono(F:Wh gv V h env nm L)(kV:∀a o,V a o->V' a o)(kl:OU h h' env.locals)(kc:∀n c,env.cells.lookup n=some c->OU h h' c):Wh gv V' h' env nm L:=
 let⟨m,h1,h2⟩:=F.ns
 ⟨⟨m,EX kl h1,λi n v a b=>(h2 i n v a b).mono kV λc e Y=>VK (kc n c e)⟩,λn e=>eE (F.cell n e) λc Z=>eE Z λo Z=>aE Z λa b=>⟨c,o,a,VK (kc n c a) b⟩,F.len⟩
end
theorem OT:∀{L:Loc} {i:Nat} {K:AV->Prop},Gy L i K->∃v,L[i]?=some (some v)/\K v
 |[],i,_,h=>by induction i using jN<;>exact h.elim
 |o::_,0,K,h=>eE (X8 (o:=o) (K:=K) h) λv Z=>aE Z λe k=>⟨v,by rw[e];rfl,k⟩
 |_::r,i+1,K,h=>eE (OT (L:=r) (i:=i) (K:=K) h) λv Z=>aE Z λe k=>⟨v,e,k⟩
section
variable{c:Cx}{s:cK}{U:US}{E:Value->cK->Prop}{env:Env}{nm:List Str}{L:Loc}
abbrev Fr(c:Cx)(s:cK)(U:US)(env:Env)(nm:List Str)(L:Loc):Prop:=Wh c.gv (Vw c s.heap U) s.heap env nm L
theorem Wh.keep(F:Fr c s U env nm L)(I:Inv c s U)(O:ZO env nm c.X)(k:Nx c s U s' U'):Fr c s' U' env nm L:=
 F.mono (I.vw k) (λo e=>k.k.fr _ o e (I.Wt O.xl)) λn c e o e'=>k.k.fr _ o e' (I.Wt (O.xc n c e))
theorem AR{i:Nat}{n:Str}{v:AV}{pos:Pos}(F:Fr c s U env nm L)(O:ZO env nm c.X)(hn:nm[i]?=some n)(hv:L[i]?=some (some v))(hk:env.kindOf n=some .local\/AS (env.kindOf n))
 (hd:(n==("__debug__":Str))=false) (hc:(n==("__classdict__":Str))=false) {Q:Value->cK->Prop} (q:∀x,En c s.heap U v x->Q x s):bT c.M c.A (Zq2 (.Name n pos) env) Q E s:=by
 refine hG ?_;intro PP
 obtain⟨m,h1,h2⟩:=F.ns
 have A:=h2 i n v hn hv
 refine wpAny_Name ?_ hd
 rcases hk with hk|hk
 ·obtain⟨x,a,b⟩:=A.l hk
  exact wpAny_loadName_local O.kind hk h1 a (q x b)
 ·obtain⟨c,x,a,b,d⟩:=A.c hk
  rcases hk with hk|hk
  ·exact wpAny_loadName_cell O.kind hk a b (q x d)
  ·exact wpAny_loadName_free O.kind hk a b (q x d) hc
inductive Qc(c:Cx)(n:Str)(v:AV):Prop
 |mk {mg mb x}:c.g.Ns Zw6 mg->c.g.Ns Zp6 mb->(mg n=some x\/(mg n=none/\mb n=some x))->Enc c.gv (λa o=>c.g.get? a=some o) v x->Qc c n v
theorem ME(G:Qc c n v)(I:Inv c s U)(O:ZO env nm c.X)(hk:env.kindOf n=some .globalImplicit)(hd:(n==("__debug__":Str))=false)
 (q:∀x,En c s.heap U v x->Q x s):bT c.M c.A (Zq2 (.Name n pos) env) Q E s:=by
  cases G with|mk h1 h2 h3 h4=>
  have k:∀a o,c.g.get? a=some o->s.heap.get? a=some o:=λa o e=>(I.Yr.base a o e).h
  have q:=q _ (h4.mono λa o e=>I.Yr.base a o e)
  rcases h3 with h3|⟨h3,h5⟩
  ·exact Name_function_global O.kind hk (loadGlobal_global (by rw[O.glob];exact h1.keeps k) h3 q) hd
  ·exact Name_function_global O.kind hk (loadGlobal_builtin (by rw[O.glob];exact h1.keeps k) h3 (by rw[O.blt];exact h2.keeps k) h5 q) hd
theorem Qa{α:Type}{xs:List α}{i:Nat}{x:α}(h:xs[i]?=some x):i<xs.length:=(bE.mp h).1
theorem eB{α:Type}{xs:List α}{i j:Nat}{x y:α}(h:(xs.set i x)[j]?=some y):(j=i/\y=x)\/(j≠i/\xs[j]?=some y):=by
 by_cases e:j=i
 ·subst e
  have:=Qa h
  rw[Zj6 (by rwa [aB]at this)]at h
  exact .inl ⟨rfl,(cU h).symm⟩
 ·rw[aq (Zp2 e)]at h
  exact .inr ⟨e,h⟩
theorem OS{nm:List Str}(nd:nm.Nodup){i j:Nat}{n:Str}(h1:nm[i]?=some n)(h2:nm[j]?=some n):i=j:=by
 have a:=Qa h1
 have b:=Qa h2
 rw[cy a]at h1
 rw[cy b]at h2
 exact(Zk5 nd).mp (cU (h1.trans h2.symm))
structure YL(X:aV->Prop)(h h':Zz0):Prop where
 keep:∀a o,h.get? a=some o->¬X a->h'.get? a=some o
 own:∀a o,h.get? a=some o->X a->∃o',h'.get? a=some o'/\((∀vs,o.data≠.fields vs)->∀vs,o'.data≠.fields vs)
theorem YL.of{X:aV->Prop}{h h':Zz0}{a:aV}(x:X a)(hs:Zy6 a h h'){o':Obj}(ho:h'.get? a=some o')(hd:∀vs,o'.data≠.fields vs):YL X h h':=
 ⟨λb o e n=>(hs.2 b λz=>n (z▸x)).trans e,λb o e Y=>by
  by_cases z:b=a
  ·rw[z];exact⟨o',ho,λY=>hd⟩
  ·exact⟨o,(hs.2 b z).trans e,λk=>k⟩⟩
theorem Wh.set{i:Nat}{n:Str}{v:AV}{gv:Nat->Value}{V:fD}{h h':Zz0}{m m':Str->Option Value}(nd:nm.Nodup)(hn:nm[i]?=some n)(F:∀(i:Nat) (n:Str) (v:AV),nm[i]?=some n->L[i]?=some (some v)->At gv V h env m n v)
 (hm:∀n',n'≠n->m' n'=m n') (kc:∀n' c,n'≠n->env.cells.lookup n'=some c->∀x,h.IsCell c x->h'.IsCell c x) (me:At gv V h' env m' n v):∀(j:Nat) (n':Str) (v':AV),nm[j]?=some n'->(L.set i (some v))[j]?=some (some v')->At gv V h' env m' n' v':=λj n' v' a b=>by
 rcases eB b with⟨rfl,e⟩|⟨ne,e⟩
 ·cases e
  rw[hn]at a;cases a
  exact me
 ·have nn:n'≠n:=λz=>ne (OS nd (z▸a) hn)
  have A:=F j n' v' a e
  exact⟨λz=>eE (A.l z) λy Z=>aE Z λa b=>⟨y,(hm n' nn).trans a,b⟩,λz=>eE (A.c z) λc Z=>eE Z λy Z=>aE Z λa Z=>aE Z λb d=>⟨c,y,a,kc n' c nn a _ b,d⟩⟩
def R_(env:Env)(W:aV->Prop)(n:Str):Prop:=(env.kindOf n=some .local/\W env.locals)\/(env.kindOf n=some .cell/\∀c,env.cells.lookup n=some c->W c)
theorem VJ(F:Fr c s U env nm L)(O:ZO env nm c.X)(hn:nm[i]?=some n)(hk:R_ env W n)
 (ex:En c s.heap U v x) (q:∀h' t,YL W s.heap h'->Wh c.gv (Vw c h' U) h' env nm (L.set i (some v))->Q () {s with heap:=h',toks:=t}):
 bT c.M c.A (storeName env n x) Q E s:=by
  refine hG ?_;intro PP
  obtain⟨m,h1,h2⟩:=F.ns
  rcases hk with⟨hk,hw⟩|⟨hk,hw⟩
  ·refine wpAny_storeName_local hk h1 (λh' hn' hs=>?_) (by rw[O.kind];rfl)
   have kV:∀a o,Vw c s.heap U a o->Vw c h' U a o:=λa o v=>⟨(hs.2 a λz=>v.x (z▸O.xl)).trans v.h,v.u,v.x⟩
   have kc:∀n' c x,env.cells.lookup n'=some c->s.heap.IsCell c x->h'.IsCell c x:=λn' c x e Z=>eE Z λo Z=>aE Z λa b=>⟨o,(hs.2 c (O.lc _ _ e)).trans a,b⟩
   refine hG ?_;intro PP
   obtain⟨o',es,ep,ho',hd,_⟩:=id hn'
   refine q h' _ (.of hw hs ho' λvs e=>by rw[hd]at e;cases e) ⟨⟨_,hn',Wh.set O.nodup hn (λi n v a b=>(h2 i n v a b).mono kV λc Y Y z=>z) (λn' nn=>if_neg nn) (λn' c Y e x=>kc n' c x e) ⟨λY=>⟨x,if_pos rfl,ex.mono kV⟩,λz=>?_⟩⟩,λn' e=>?_,by rw[aB];exact F.len⟩
   ·rcases z with z|z<;>(rw[hk]at z;cases z)
   ·obtain⟨c,o,e1,e2⟩:=F.cell n' e
    exact⟨c,o,e1,kc n' c o e1 e2⟩
  ·obtain⟨cc,o,hc,hcl⟩:=F.cell n hk
   refine wpAny_storeName_cell O.kind hk hc hcl λh' hv hs=>?_
   have kV:∀a o,Vw c s.heap U a o->Vw c h' U a o:=λa o v=>⟨(hs.2 a λz=>v.x (z▸O.xc _ _ hc)).trans v.h,v.u,v.x⟩
   have kc:∀n' c',n'≠n->env.cells.lookup n'=some c'->∀x,s.heap.IsCell c' x->h'.IsCell c' x:=λn' c' ne e x Z=>eE Z λo Z=>aE Z λa b=>⟨o,(hs.2 c' λz=>ne (name_of_addr O.cells (Zy8 (z▸e)) (Zy8 hc))).trans a,b⟩
   refine hG ?_;intro PP
   obtain⟨o',ho',hd⟩:=id hv
   refine q h' s.toks (.of (hw cc hc) hs ho' λvs e=>by rw[hd]at e;cases e) ⟨⟨m,h1.sameBut hs (Zp2 (O.lc _ _ hc)),Wh.set O.nodup hn (λi n v a b=>(h2 i n v a b).mono kV λc Y Y z=>z) (λY Y=>rfl) kc ⟨λz=>?_,λY=>⟨cc,x,hc,hv,ex.mono kV⟩⟩⟩,λn' e=>?_,by rw[aB];exact F.len⟩
   ·rw[hk]at z;cases z
   ·by_cases nn:n'=n
    ·rw[nn];exact⟨cc,_,hc,hv⟩
    ·obtain⟨c,o,e1,e2⟩:=F.cell n' e
     exact⟨c,o,e1,kc n' c nn e1 o e2⟩
end
noncomputable def Cx.YB(c:Cx)(A:aC)(env:Env)(X:aV->Prop):Cx:=c.ww A (env::c.l) X
section
variable{M:Model}{A:aC}{E:Value->cK->Prop}{s:cK}
theorem Xi{base:Zz0}{l:List Env}{e:aV}{cls a0 fl:Value}{f:Option aV}{Q:Unit->cK->Prop}
 (hkb:base.StaysIn s.heap) (hl:s.heap.FunFrames base l) (ht:s.heap.TracedAtW base e cls a0 fl)
 (h:∀h',base.StaysIn h'->h'.FunFrames base l->h'.TracedAtW base e cls a0 (f.elim .none λf=>Zq8 f)->s.heap.UpToSlots h'->Q () {s with heap:=h'}):
 bT M A (setFlight (.ref e) f) Q E s:=by
 refine hG ?_;intro PP
 obtain⟨oe,vs,T,oT,ts,he,hcls,hd,h1,w_,vg,hT,AQ,h3⟩:=ht
 dsimp only[PP]
 have vf:3<ts.size:=(Array.getElem?_eq_some_iff.mp h3).1
 have other:∀b,b≠T->(s.heap.update T (Obj.mapFields (·.setIfInBounds 3 (f.elim Zr9 λf=>Zq8 f)))).get? b=s.heap.get? b:=
  λb hb=>Zs2 _ _ (Zp2 hb)
 have OR:∀b o,s.heap.get? b=some o->(∀vs,o.data≠.fields vs)->b≠T:=λb o hb hnf q=>by
  rw[q,hT]at hb;injection hb with hb;subst hb;exact hnf ts AQ
 unfold setFlight
 refine cY (Zf7 he hd h1 ?_)
 rw[if_pos (show(Zq6 T !=Zr9)=true from by simp)]
 refine Zg5 hT AQ vf (h _ (λb o hbo=>(other b λq=>by rw[q,w_]at hbo;exact ZE hbo).trans (hkb b o hbo))
  (hl.of_keeps λb o hb hnf=>⟨o,(other b (OR b o hb hnf)).trans hb,rfl⟩) ?_ λb o hb hnf=>⟨o.slots,(other b (OR b o hb hnf)).trans hb⟩)
 exact⟨oe,vs,T,_,_,(other e (Zp2 vg)).trans he,hcls,hd,h1,w_,vg,Zz6 _ hT (Zi5 (Zs7 AQ _)),Zs7 AQ _,by simp[vf]⟩
theorem Ux{base:Zz0}{e:aV}{cls a0 fl:Value}{α:Type}{m:Value->Sem α}{Q:α->cK->Prop}(ht:s.heap.TracedAtW base e cls a0 fl)(h:∀T,bT M A (m (.ref T)) Q E s):bT M A (field (.ref e) 1>>=m) Q E s:=by
 refine hG ?_;intro PP
 obtain⟨oe,vs,T,oT,ts,he,hcls,hd,h1,_⟩:=ht
 exact cY (Zf7 he hd h1 (h T))
theorem OQ{base h:Zz0}{as:List aV}:∀{l:List Env},h.FunFrames base l->(∀env∈l,∀a,env.frame=some a->a∈as)->h.FunFrames (hideAll h as) l:=by
 intro l
 induction l with
 |nil=>exactλY Y=>trivial
 |cons env r i=>exactλz hin=>⟨z.1,z.2.1.elim λL q=>q.elim λo q=>⟨L,o,q.1,hideAll_none _ (hin _ (.head _) L q.1),q.2.2⟩,i z.2.2 λe he=>hin e (.tail _ he)⟩
end
section
variable{c:Cx}{s:cK}{U:US}{env:Env}
theorem JS.slots{h0 c8 h h':Zz0}{U0 U':US}{ea:aV}{a0 fl kN:Value}(f:JS c h0 U0 c8 ea a0 fl h U')(h1:c8.StaysIn h')(h2:h'.FunFrames c8 c.l)(h3:h'.TracedAtW c8 ea (.type "ValueError") a0 kN)(k:h.UpToSlots h'):
 JS c h0 U0 c8 ea a0 kN h' U':=by
 refine⟨h1,f.new,h2,h3,f.Yr,f.old,λa o e u n=>?_,f.dom⟩
 refine hG ?_;intro PP
 obtain⟨sl,e'⟩:=f.fr a o e u n
 obtain⟨env,he,hf⟩:=n
 obtain⟨_,o2,e3,nf⟩:=f.frames.mem (Zn8.mpr ⟨env,he,hf⟩)
 obtain⟨oD,e''⟩:=k a _ e' (by rw[e']at e3;cases e3;exact nf)
 exact⟨oD,e''⟩
theorem Uw{outer:List Env}{s0:cK}{U0:US}{L:aV}{E':US->Prop}{E:Value->cK->Prop}{e:Value}{Q:Unit->cK->Prop}(hfr:c.A.frames=some c.l)(hl:c.l=env::outer)(hf:env.frame=some L)(h:Er c s0 U0 E' e s)
 (q:∀s',Er c s0 U0 E' e s'->Q () s'):bT c.M c.A (Ze9 e env) Q E s:=by
 refine hG ?_;intro PP
 obtain⟨rfl,h2,f,h4,h5⟩:=h
 rcases h4 with rfl|⟨env',l',L',e1,e2,rfl⟩
 ·refine wpAny_looks_onW (hfr.trans (congrArg some hl)) hf ⟨f.stays,f.new,hl▸f.frames,f.Yq⟩ λh' hh k=>?_
  refine hG ?_;intro PP
  obtain⟨k1,k2,k3,k4⟩:=hh
  exact q _ ⟨rfl,h2,f.slots k1 (hl▸k3) k4 k,.inr ⟨env,outer,L,hl,hf,rfl⟩,⟨h5.g,h5.d,h5.o⟩⟩
 ·rw[hl]at e1;cases e1
  exact wpAny_noteFrame_againW e2 f.Yq (q _ ⟨rfl,h2,f,.inr ⟨env,outer,L',hl,e2,rfl⟩,h5⟩)
theorem EV{outer:List Env}{s0:cK}{U0:US}{L:aV}{E':US->Prop}{e:Value}{what:String}{α:Type}{env':Env}(hl:c.l=env::outer)(hf':env'.frame=env.frame)(hf:env.frame=some L)(h:Er c s0 U0 E' e s):
 bT c.M c.A (PySem.passOn what e env':Sem α) (λY Y=>False) (Er c s0 U0 E') s:=by
 obtain⟨rfl,h2,f,h4,h5⟩:=h
 unfold PySem.passOn
 refine Ux f.Yq λT=>?_
 rw[if_neg (show¬(Zq6 T==Zr9)=true from by simp),hf',hf]
 exact cY (Xi f.stays f.frames f.Yq λh' k1 k2 k3 k4=>wpAny_throw ⟨rfl,h2,f.slots k1 k2 k3 k4,.inr ⟨env,outer,L,hl,hf,rfl⟩,⟨h5.g,h5.d,h5.o⟩⟩)
theorem MD{outer:List Env}{s0:cK}{U0:US}{L:aV}{E':US->Prop}{e:Value}(hl:c.l=env::outer)(hf:env.frame=some L)(h:Er c s0 U0 E' e s):Zr8 c.M c.A env (Er c s0 U0 E') e s:=by
 obtain⟨rfl,h2,f,h4,h5⟩:=h
 unfold Zr8
 refine Ux f.Yq λT=>?_
 rw[if_neg (show¬(Zq6 T==Zr9)=true from by simp),hf]
 exact Xi f.stays f.frames f.Yq λh' k1 k2 k3 k4=>⟨rfl,h2,f.slots k1 k2 k3 k4,.inr ⟨env,outer,L,hl,hf,rfl⟩,⟨h5.g,h5.d,h5.o⟩⟩
theorem VO.less{X':aV->Prop}{A:aC}{l:List Env}{h:Zz0}(k:∀a,c.X a->X' a)(m:VO (c.ww A l X') h U):VO c h U:=
 ⟨λa o e=>aE (m.obj a o e) λx Z=>eE Z λob Z=>aE Z λp q=>⟨λz=>x (k a z),ob,p,Wi.mono (c:=c) (λY Y v=>⟨v.h,v.u,λz=>v.x (k _ z)⟩) q⟩,λa o e=>let v:=m.base a o e;⟨v.h,v.u,λz=>v.x (k _ z)⟩⟩
theorem EU{h0 h1:Zz0}{U0 U1:US}{A1:aC}{X':aV->Prop}{L:aV}{c8 h':Zz0}{U':US}{ea:aV}{a0:Value}(hf:env.frame=some L)(hX:∀a,c.X a->X' a)(k:YF c.l h0 U0 h1 U1)(hL:h0.get? L=none)
 (f:JS (c.YB A1 env X') h1 U1 c8 ea a0 .none h' U'):JS c h0 U0 c8 ea a0 .none h' U':=by
 refine⟨f.stays,f.new,aE f.frames λ_ Z=>aE Z λ_ z=>z,f.Yq,f.Yr.less hX,λa o e u n=>f.old a o (k.obj a o e u n) (k.nil e u) λZ=>eE Z λenv' Z=>aE Z λm z=>?_,λa o e u Z=>eE Z λenv' Z=>aE Z λm z=>eE (k.fr a o e u) λ_ e'=>eE (f.fr a _ e' (k.nil e u) ⟨env',.tail _ m,z⟩) λsl e''=>⟨sl,e''⟩,Ub k f.dom⟩
 cases m with
 |head=>rw[hf]at z;rw[<-cU z,hL]at e;exact ZE e
 |tail _ m=>exact n ⟨env',m,z⟩
theorem Jl{s0 s1:cK}{U0 U1:US}{A1:aC}{X':aV->Prop}{L:aV}{E':US->Prop}{e:Value}{E:Value->cK->Prop}(hfr:A1.frames=some (env::c.l))(hf:env.frame=some L)(hX:∀a,c.X a->X' a)(k:YF c.l s0.heap U0 s1.heap U1)
 (hL:s0.heap.get? L=none) (r:XF s0 s1) (h:Er (c.YB A1 env X') s1 U1 E' e s):
 bT c.M A1 (leaving env e) (λY s''=>Er c s0 U0 E' e s'') E s:=by
 unfold leaving
 refine cY (Uw (c:=c.YB A1 env X') hfr rfl hf h λs' h=>?_)
 obtain⟨rfl,h2,f,h4,h5⟩:=h
 refine Xi f.stays f.frames f.Yq λh' k1 k2 k3 k4=>?_
 exact⟨rfl,h2,EU hf hX k hL (f.slots k1 k2 k3 k4),.inl rfl,r.trans ⟨h5.g,h5.d,h5.o⟩⟩
inductive rD(c:Cx)(s:cK)(U:US)(E:US->Prop)(e:Value)(s':cK):Prop
 |mk {ea}:e=.ref ea->E U->Inv c s U->XF s s'->Heap.MadeExcOf s.heap s'.heap ea (.type "ValueError") []->rD c s U E e s'
theorem OP{as:List aV}{h:Zz0}(hX:∀a∈as,c.X a)(m:VO c h U):VO c (hideAll h as) U:=by
 have V:∀a o,Vw c h U a o->Vw c (hideAll h as) U a o:=λa o v=>⟨Zf6 _ v.h λz=>v.x (hX a z),v.u,v.x⟩
 exact⟨λa o e=>aE (m.obj a o e) λx Z=>eE Z λob Z=>aE Z λp q=>⟨x,ob,Zf6 _ p λz=>x (hX a z),q.mono V⟩,λa o e=>V a o (m.base a o e)⟩
theorem Ru{s0 s1:cK}{U0 U1:US}{A1:aC}{X':aV->Prop}{L:aV}{E':US->Prop}{e:Value}{E:Value->cK->Prop}(hf:env.frame=some L)(hX:∀a,c.X a->X' a)(k:YF c.l s0.heap U0 s1.heap U1)
 (hL:s0.heap.get? L=none) (r:XF s0 s1) (h:rD (c.YB A1 env X') s1 U1 E' e s):bT c.M A1 (leaving env e) (λY s''=>Er c s0 U0 E' e s'') E s:=by
 refine hG ?_;intro PP
 obtain⟨rfl,q,I,r2,hm⟩:=h
 have AP:∀a,a∈(env::c.l).filterMap (·.frame)↔SD (env::c.l) a:=λa=>Zn8
 have hin:∀env'∈(env::c.l),∀b,env'.frame=some b->b∈(env::c.l).filterMap (·.frame):=λenv he b hb=>(AP b).mpr ⟨env,he,hb⟩
 have kM:=OQ I.Tr hin
 refine wpAny_leaves_madeW I.frames hf (λb o q=>of_hideAll _ q) kM hm λh' t x1 x2 x3 x4=>?_
 refine hG ?_;intro PP
 obtain⟨y1,y2,y3,y4⟩:=x1
 have m':VO c _ _:=(OP (c:=c.YB A1 env X') (λa h=>I.fx a ((AP a).mp h)) I.Yr).less hX
 have up:=(Heap.UpToSlots.of_keeps hm.keeps).trans x4
 refine⟨rfl,q,⟨y1,y2,y3,y4.at,m',λa o e u n=>?_,λa o e u Z=>eE Z λenv' Z=>aE Z λm' z=>?_,k.dom⟩,.inl rfl,r.trans ⟨r2.g,r2.d,r2.o⟩⟩
 ·have n':¬SD (env::c.l) a:=λZ=>eE Z λenv' Z=>aE Z λm z=>by
   cases m with
   |head=>rw[hf]at z;rw[<-cU z,hL]at e;exact ZE e
   |tail _ m=>exact n ⟨env',m,z⟩
  exact Zf6 _ (k.obj a o e u n) λz=>n' ((AP a).mp z)
 ·obtain⟨sl,e'⟩:=k.fr a o e u
  refine hG ?_;intro PP
  obtain⟨_,o2,e3,iz⟩:=kM.mem (Zn8.mpr ⟨env',.tail _ m',z⟩)
  obtain⟨oD,e''⟩:=up a _ e' (by rw[e']at e3;cases e3;exact iz)
  exact⟨oD,e''⟩
theorem Er.land{s0:cK}{U0:US}{E':US->Prop}{e:Value}(I:Inv c s0 U0)(h:Er c s0 U0 E' e s):∃U',E' U'/\Inv c s U'/\Nx c s0 U0 s U':=by
 refine hG ?_;intro PP
 obtain⟨rfl,q,f,_,r⟩:=h
 have k:YF c.l s0.heap U0 s.heap _:=⟨λa o e u n=>f.stays _ _ (f.old a o e u n),λa o e u=>by
  by_cases n:SD c.l a
  ·exact f.fr a o e u n
  ·exact⟨o.slots,f.stays _ _ (f.old a o e u n)⟩,f.dom⟩
 exact⟨_,q,I.next (f.Yr.keeps f.stays) k,k,r⟩
end
theorem NI{α:Type}{ns:List Str}:∀{vs:List α} {m:Str},ns.length=vs.length->m∈ns->((ns.zip vs).lookup m).isSome=true:=by
 induction ns with
 |nil=>exactλY h=>xm h
 |cons n ns i=>
  intro vs m h hm
  induction vs using jL with|nil=>exact absurd h (Zq1 _)|cons v vs=>
  simp only[Zs6,Zx8]
  by_cases q:m=n
  ·subst q;simp
  ·rw[show(m==n)=false from beq_eq_false_iff_ne.mpr q]
   exact i (Zq9 h) ((cJ.mp hm).resolve_left q)
theorem Jk{α:Type}{ns:List Str}:∀{vs:List α} (pre:List (Str×α)),ns.length=vs.length->ns.Nodup->(∀n∈ns,pre.lookup n=none)->ns.filterMap (λn=>((pre++ns.zip vs).lookup n).map (n,·))=ns.zip vs:=by
 induction ns with
 |nil=>exactλY Y Y Y=>rfl
 |cons n ns i=>
  intro vs pre h nd hp
  induction vs using jL with|nil=>exact absurd h (Zq1 _)|cons v vs=>
  have hn:=hp n (.head _)
  rw[bU]at nd
  have ih:=i (vs:=vs) (pre++[(n,v)]) (Zq9 h) nd.2 λm hm=>by
   rw[List.lookup_append,hp m (.tail _ hm)]
   have:(m==n)=false:=beq_eq_false_iff_ne.mpr λe=>nd.1 (e▸hm)
   rw[Option.none_or,Zx8,this];rfl
  rw[cz]at ih
  rw[Zs6,Zf8,List.lookup_append,hn,Option.none_or,Zx8,beq_self_eq_true]
  exact congrArg _ ih
theorem MC{c:Prop}[Decidable c]{α:Type}{A c8 x:α}(h:¬c)(k:c8=x):(if c then A else c8)=x:=by rw[if_neg h];exact k
theorem NH(fd:FuncData)(as:List Arg)(hp:fd.params=⟨[],as,none,[],[],none,[]⟩)(hd:fd.defaults=.none)(vs:List Value)(hl:as.length=vs.length)(nd:(as.map (·.arg)).Nodup):bindArgs fd ⟨vs,[]⟩=pure ((as.map (·.arg)).zip vs):=by
 have e:List.filter (λn=>(Zf5 n ((as.map (·.arg)).zip vs)).isNone) (as.map (·.arg))=[]:=by
  rw[List.filter_eq_nil_iff]
  intro n hn
  have:=NI (vs:=vs) (by rw[cM];exact hl) hn
  rw[Option.isNone_eq_false_iff.mpr this];decide
 have z:=Jk (vs:=vs) [] (by rw[cM];exact hl) nd (λY Y=>rfl)
 rw[Zv6]at z
 unfold bindArgs
 rw[hp,hd]
 refine MC (c:=(decide (vs.length>(as.map (·.arg)).length)&&true)=true) ?_ ?_
 ·rw[cM,hl];simp
 rw[show∀k,List.drop k (((none:Option (Array Value)).getD #[]).toList)=[]fromλk=>List.drop_nil]
 refine MC (c:=(!(List.filter (λn=>(Zf5 n ((as.map (·.arg)).zip vs)).isNone) ((as.map (·.arg)).take ((as.map (·.arg)).length-0))).isEmpty)=true) ?_ ?_
 ·rw[Nat.sub_zero,List.take_length,e];decide
 rw[List.zip_nil_right]
 show(pure (List.filterMap (λn=>Option.map (λx=>(n,x)) (Zf5 n ((as.map (·.arg)).zip vs))) (as.map (·.arg)++[])):Sem (List (Str×Value)))=_
 rw[cB]
 exact congrArg pure z
section
variable{kd:Str->Option Zy9}
theorem bL{kd:Str->Option Zy9}{n:Str}{v:Value}{r:List (Str×Value)}{m:Str->Option Value}:bindL kd ((n,v)::r) m=bindL kd r (if kd n=some .local thenλy=>if y=n then some v else m y else m):=rfl
theorem bC{kd:Str->Option Zy9}{n:Str}{v:Value}{r:List (Str×Value)}{m:Str->Option Value}:bindC kd ((n,v)::r) m=bindC kd r (if kd n=some .local then m elseλy=>if y=n then some v else m y):=rfl
theorem TB:∀{bs:List (Str×Value)} {m:Str->Option Value} {n:Str},(∀v,(n,v)∉bs)->bindL kd bs m n=m n
 |[],_,_,_=>rfl
 |(k,v)::r,m,n,h=>by
  rw[bL,TB λv hv=>h v (.tail _ hv)]
  split
  ·exact if_neg λ(e:n=k)=>h v (e▸.head _)
  ·rfl
theorem TA:∀{bs:List (Str×Value)} {m:Str->Option Value} {n:Str},(∀v,(n,v)∉bs)->bindC kd bs m n=m n
 |[],_,_,_=>rfl
 |(k,v)::r,m,n,h=>by
  rw[bC,TA λv hv=>h v (.tail _ hv)]
  split
  ·rfl
  ·exact if_neg λ(e:n=k)=>h v (e▸.head _)
theorem Jj{n:Str}{v:Value}(hk:kd n=some .local):∀{ns:List Str} {vs:List Value} {m:Str->Option Value} {i:Nat},ns.Nodup->ns[i]?=some n->vs[i]?=some v->bindL kd (ns.zip vs) m n=some v:=by
 intro ns
 induction ns with
 |nil=>intro vs m i Y h1;exact ZE h1
 |cons k ns ih=>
  intro vs m i nd h1 h2
  induction vs using jL with
  |nil=>exact ZE h2
  |cons u vs=>
   rw[Zs6,bL]
   induction i using jN with
   |zero=>
    cases h1;cases h2
    rw[TB λv hv=>(bU.mp nd).1 (Zi4 hv).1,if_pos hk];exact if_pos rfl
   |succ i=>exact ih (i:=i) (bU.mp nd).2 h1 h2
theorem Ji{n:Str}{v:Value}(hk:kd n=some .cell):∀{ns:List Str} {vs:List Value} {m:Str->Option Value} {i:Nat},ns.Nodup->ns[i]?=some n->vs[i]?=some v->bindC kd (ns.zip vs) m n=some v:=by
 intro ns
 induction ns with
 |nil=>intro vs m i Y h1;exact ZE h1
 |cons k ns ih=>
  intro vs m i nd h1 h2
  induction vs using jL with
  |nil=>exact ZE h2
  |cons u vs=>
   rw[Zs6,bC]
   induction i using jN with
   |zero=>
    cases h1;cases h2
    rw[TA λv hv=>(bU.mp nd).1 (Zi4 hv).1,if_neg (by rw[hk];decide)];exact if_pos rfl
   |succ i=>exact ih (i:=i) (bU.mp nd).2 h1 h2
end
structure NG(b:Bool)(n:Nat)(A:aC):Prop where
 handled:A.handled=none
 depth:A.depth+n<=998+(bif b then 1 else 0)
 units:A.units+8*n+700<9900
structure Jh(n:Nat)(A:aC):Prop where
 handled:A.handled=none
 depth:A.depth+1+n<=998
 units:A.units+4+8*n+700<9900
structure Ws(n:Nat)(A:aC):Prop where
 handled:A.handled=none
 depth:A.depth+n<=998
 units:A.units+1+8*n+700<9900
theorem Ws.room{b:Bool}{n:Nat}{A:aC}(h:Ws n A):NG b n A:=⟨h.handled,Zv9 h.depth,Z7 h.units⟩
theorem Ws.under{n:Nat}{A A':aC}(h:Ws n A)(h1:A'.handled=A.handled)(h2:A'.depth=A.depth+1)(h3:A'.units=A.units+1):NG true n A':=
 ⟨h1.trans h.handled,by show _<=999;have:=h.depth;exact Z7 (cV h2) (Z7 this),Z7 (cV h3) (Z7 h.units)⟩
def eH(env:Env)(a:aV):Prop:=a=env.locals\/∃n,env.cells.lookup n=some a
structure R9(W:aV->Prop)(l:List Env)(h:Zz0)(U:US)(h':Zz0)(U':US):Prop where
 obj:∀a o,h.get? a=some o->U a=none->¬W a->¬SD l a->h'.get? a=some o
 fr:∀a o,h.get? a=some o->U a=none->¬W a->∃sl,h'.get? a=some {o with slots:=sl}
 own:∀a o,h.get? a=some o->U a=none->∃o',h'.get? a=some o'
 dom:∀a,U' a≠none->U a≠none\/h.get? a=none
section
variable{W:aV->Prop}{l:List Env}{h h' h'':Zz0}{U U' TJ:US}
theorem YF.stay(k:YF l h U h' U'):R9 W l h U h' U':=⟨λa o e u Y=>k.obj a o e u,λa o e u Y=>k.fr a o e u,λa o e u=>eE (k.fr a o e u) λ_ e=>⟨_,e⟩,k.dom⟩
theorem R9.trans(a:R9 W l h U h' U')(b:R9 W l h' U' h'' TJ):R9 W l h U h'' TJ:=
 have nil:∀{x o},h.get? x=some o->U x=none->U' x=none:=VP a.dom
 ⟨λx o e u n f=>b.obj x o (a.obj x o e u n f) (nil e u) n f,λx o e u n=>eE (a.fr x o e u n) λ_ e'=>eE (b.fr x _ e' (nil e u) n) λsl e''=>⟨sl,e''⟩,λx o e u=>eE (a.own x o e u) λo' e'=>b.own x o' e' (nil e u),λx q=>by
  by_cases u:U x=none
  ·induction e:h.get? x using jO with
   |none=>exact .inr rfl
   |some o=>
    obtain⟨o',e'⟩:=a.own x o e u
    exact absurd (VP b.dom e' (nil e u)) q
  ·exact .inl u⟩
end
structure Sx(c:Cx)(env:Env)(s:cK)(U:US)(s':cK)(U':US):Prop where
 k:R9 (eH env) c.l s.heap U s'.heap U'
 r:XF s s'
section
variable{c:Cx}{env:Env}{s s₁ s':cK}{U Z6 U':US}{nm:List Str}
theorem Nx.sx(n:Nx c s U s' U'):Sx c env s U s' U':=⟨n.k.stay,n.r⟩
theorem Sx.refl:Sx c env s U s U:=Nx.refl.sx
theorem Sx.trans(a:Sx c env s U s₁ Z6)(b:Sx c env s₁ Z6 s' U'):Sx c env s U s' U':=⟨a.k.trans b.k,a.r.trans b.r⟩
def Jg(gv:Nat->Value)(V:fD)(fl:Flow)(o:Option AV):Prop:=match o with
 |none=>fl=.next
 |some v=>∃x,fl=.ret x/\Enc gv V v x
inductive Tz(c:Cx)(env:Env)(nm:List Str)(s:cK)(U:US)(Q:ZD)(fl:Flow)(s':cK):Prop
 |mk {o L' U'}:Q o L' U'->Jg c.gv (Vw c s'.heap U') fl o->Inv c s' U'->Fr c s' U' env nm L'->Sx c env s U s' U'->Tz c env nm s U Q fl s'
inductive Uv(c:Cx)(env:Env)(nm:List Str)(s:cK)(U:US)(E:Loc->US->Prop)(e:Value)(s':cK):Prop
 |mk {sa Ua L'}:Sx c env s U sa Ua->Inv c sa Ua->Fr c sa Ua env nm L'->Er c sa Ua (E L') e s'->Uv c env nm s U E e s'
inductive ET(c:Cx)(env:Env)(s:cK)(U:US)(E:US->Prop)(e:Value)(s':cK):Prop
 |mk {sa Ua}:Sx c env s U sa Ua->rD c sa Ua E e s'->ET c env s U E e s'
theorem Tz.trans{Q:ZD}{fl:Flow}(n:Sx c env s U s₁ Z6):Tz c env nm s₁ Z6 Q fl s'->Tz c env nm s U Q fl s'
 |⟨a,b,d,e,f⟩=>⟨a,b,d,e,n.trans f⟩
theorem Uv.trans{E:Loc->US->Prop}{e:Value}(n:Sx c env s U s₁ Z6):Uv c env nm s₁ Z6 E e s'->Uv c env nm s U E e s'
 |⟨a,b,d,f⟩=>⟨n.trans a,b,d,f⟩
theorem R9.out{l:List Env}{h0 h h':Zz0}{L:aV}(hf:env.frame=some L)(k0:∀a o,h0.get? a=some o->h.get? a=some o)(hL:h0.get? L=none)(ow:∀{a},eH env a->h0.get? a=none)(k:R9 (eH env) (env::l) h U h' U'):YF l h0 U h' U':=
 have nw:∀{a o},h0.get? a=some o->¬eH env a:=λe z=>by rw[ow z]at e;exact ZE e
 ⟨λa o e u n=>k.obj a o (k0 a o e) u (nw e) λZ=>eE Z λenv' Z=>aE Z λm z=>by
  cases m with
  |head=>rw[hf]at z;rw[<-cU z,hL]at e;exact ZE e
  |tail _ m=>exact n ⟨env',m,z⟩,λa o e u=>k.fr a o (k0 a o e) u (nw e),λa q=>(k.dom a q).imp id λz=>fE λq=>by
   obtain⟨o,q⟩:=bW.mp q
   rw[k0 a o q]at z;exact XD z⟩
end
structure oB(c:Cx)(k:Nat)(fi:Fi)(nm:List Str)(scope:aa)(body:List Zz3)(f:aV)(o:Obj)(fd:FuncData)(as:List Arg):Prop where
 gv:c.gv k=.ref f
 at':c.g.get? f=some o
 fn:o.data=.func fd
 bd:fd.body=.stmts body
 sc:fd.scope=scope
 gl:fd.globals=Zw6
 cl:fd.closure=[]
 df:fd.defaults=.none
 bt:fd.builtins=Zp6
 cr:c.g.CodeRec fd.code fd.qualname
 ps:fd.params=⟨[],as,none,[],[],none,[]⟩
 nm:as.map (·.arg)=nm.take fi.np
structure u_(c:Cx)(k:Nat)(fi:Fi)(nm:List Str)(scope:aa)(body:List Zz3):Prop where
 ob:∃f o fd as,oB c k fi nm scope body f o fd as
 kind:scope.kind=.function
 co:scope.isCoroutine=false
 gen:scope.isGenerator=false
 nd:nm.Nodup
 len:nm.length=fi.nm.length
 le:fi.np<=nm.length
 par:∀n∈nm.take fi.np,scope.names.lookup n=some .local\/scope.names.lookup n=some .cell
def NF(c0:Cx)(C:ZV)(n:Nat)(fi:Fi)(nm:List Str)(scope:aa)(body:List Zz3):Prop:=
 ∀{A:aC} {env:Env} {X:aV->Prop} {L:aV} {s:cK} {U:US} {Lc:Loc} {Q:ZD} {E:Loc->US->Prop},Ws n A->env.scope=scope->env.frame=some L->ZO env nm X->Inv (c0.YB A env X) s U->Fr (c0.YB A env X) s U env nm Lc->wpS C fi.body Q E Lc U->
  match fi.raises with
  |false=>bT c0.M A (execs body env) (Tz (c0.YB A env X) env nm s U Q) (Uv (c0.YB A env X) env nm s U E) s
  |true=>(∀o L U,Q o L U->o=none)->bT c0.M A (execs body env) (λY Y=>False) (λe s'=>ET (c0.YB A env X) env s U (λU'=>∃L',Q none L' U') e s'\/Uv (c0.YB A env X) env nm s U E e s') s
section
variable{c:Cx}{s:cK}{U:US}{nm:List Str}
abbrev MB(c:Cx)(s:cK)(U:US)(Q:fP)(E:US->Prop):Result->cK->Prop:=
 λr s'=>match r with|.ok (.ret v)=>Ok c s U (pV c Q) v s'|.ok _=>False|.error e=>Er c s U E e s'
theorem ER{α:Type}{args:List α}{n i:Nat}{v:α}(hv:(args.map some++Zg6 n none)[i]?=some (some v)):args[i]?=some v:=by
 by_cases z:i<args.length
 ·rw[Zu3 (by rw[cM];exact z),Zv3]at hv
  refine hG ?_;intro PP
  obtain⟨v',hv',e⟩:=bK.mp hv
  cases e;exact hv'
 ·rw[Zy0 (by rw[cM];exact Zw5 z),List.getElem?_replicate]at hv
  split at hv<;>cases hv
def Jf(X:aV->Prop)(env:Env):aV->Prop:=λa=>X a\/eH env a
structure CH(s:cK)(scope:aa)(env:Env)(s1:cK)(bl bc:Str->Option Value):Prop where
 sc:env.scope=scope
 GU:env.frame=some env.locals
 gl:env.globals=Zw6
 bt:env.builtins=Zp6
 ic:InCallC s env.locals bl env.cells bc s1
 nw:∀{a},eH env a->s.heap.get? a=none
theorem CH.of{s s1:cK}{scope:aa}{env:Env}{bl bc:Str->Option Value}{g:aV}{cl:List (Str×aV)}{q:Str}{f:Option aV}{code:Value}(he:env=newEnv scope s.heap.objs.size Zw6 cl q f code none Zp6)(hs:InCallC s env.locals bl env.cells bc s1):CH s scope env s1 bl bc:=by
 have hl:env.locals=s.heap.objs.size:=by rw[he];rfl
 exact⟨by rw[he];rfl,by rw[he];rfl,by rw[he];rfl,by rw[he];rfl,hs,λh=>h.elim (λh=>Y3 (by rw[h,hl];exact cO _)) λh=>h.elim λn hc=>Y3 (Zz7 (hl▸hs.above n _ (Zy8 hc)))⟩
section
variable{scope:aa}{env:Env}{s1:cK}{bl bc:Str->Option Value}{A:aC}(R:CH s scope env s1 bl bc)
include R
theorem CH.view{a:aV}{o:Obj}(v:Vw c s.heap U a o):Vw (c.YB A env (Jf c.X env)) s1.heap U a o:=⟨R.ic.toInCall.keep _ _ v.h,v.u,λz=>z.elim v.x λz=>by have:=R.nw z;rw[v.h]at this;exact XD this⟩
theorem CH.ok(hk:scope.kind=.function)(nd:nm.Nodup):ZO env nm (Jf c.X env):=⟨by rw[R.sc];exact hk,R.gl,R.bt,nd,R.ic.apart,.inr (.inl rfl),λn c h=>.inr (.inr ⟨n,h⟩),λn c h e=>by have:=R.ic.above n c (Zy8 h);rw[e]at this;exact Nat.lt_irrefl _ this⟩
theorem CH.inv(hk:scope.kind=.function)(I:Inv c s U):Inv (c.YB (c.A.deeper env) env (Jf c.X env)) s1 U:=by
 have kp:=R.ic.toInCall.keep
 refine⟨⟨λa o e=>(I.Yr.obj a o e).elim λx h=>h.elim λob h=>⟨(λz=>z.elim x (λz=>by have:=R.nw z;rw[h.1]at this;exact XD this)),ob,kp _ _ h.1,Wi.mono (c:=c) (λY Y=>R.view) h.2⟩,λa o e=>R.view (I.Yr.base a o e)⟩,.cons (by rw[R.sc,hk];decide) R.GU R.ic.toInCall.ns ?_ (I.Tr.of_keeps λb o e Y=>⟨o,kp _ _ e,rfl⟩),λa z=>?_,Around.frames_deeper I.frames,λa z=>?_⟩
 ·exact fE λq=>(bW.mp q).elim λ_ q=>by have:=(I.Yr.base _ _ q).h;rw[R.nw (.inl rfl)]at this;exact ZE this
 ·refine z.elim (λz=>(I.xlt a z).imp λo e=>kp _ _ e) λz=>z.elim (λz=>?_) λz=>z.elim λn z=>(R.ic.cell n a z).imp λob h=>h.1
  rw[z];exact R.ic.toInCall.ns.imp λob h=>h.elim λes h=>h.elim λep h=>h.1
 ·refine z.elim λe' z=>?_
  rcases cJ.mp z.1 with m|m
  ·rw[m,R.GU]at z;exact .inr (.inl (cU z.2).symm)
  ·exact .inl (I.fx a ⟨e',m,z.2⟩)
end
theorem AN{scope:aa}{env:Env}{s1:cK}{np m:Nat}{args:List AV}{vs:List Value}(R:CH s scope env s1 (bindL env.kindOf ((nm.take np).zip vs) λY=>none) (bindC env.kindOf ((nm.take np).zip vs) λY=>none))(par:∀n∈nm.take np,scope.names.lookup n=some .local\/scope.names.lookup n=some .cell)(nd:nm.Nodup)(hcl:∀n,scope.names.lookup n=some .cell->∃c',env.cells.lookup n=some c')
 (hl:args.length=np) (le:np<=nm.length) (len:nm.length=m) (ea:V5 c s.heap U args vs):Fr (c.YB (c.A.deeper env) env (Jf c.X env)) s1 U env nm (args.map some++Zg6 (m-np) none):=by
 have kL:(nm.take np).Nodup:=nd.sublist (List.take_sublist ..)
 have kd:∀{n},env.kindOf n=scope.names.lookup n:=λ{n}=>by unfold Env.kindOf;rw[R.sc]
 refine⟨⟨_,R.ic.toInCall.ns,λi n v hn hv=>?_⟩,λn hk=>(hcl n (kd▸hk)).imp λc' hc=>⟨_,hc,R.ic.cell n c' hc⟩,by rw[cS,cM,List.length_replicate,hl,len];exact Nat.add_sub_cancel' (len▸le)⟩
 have hv:=ER hv
 refine((ea.mono λa o=>R.view (A:=c.A.deeper env)).get hv).elim λx h=>?_
 have hn':(nm.take np)[i]?=some n:=by rw[List.getElem?_take,if_pos (by rw[<-hl];exact Qa hv)];exact hn
 refine⟨λhk=>⟨x,Jj (kd▸hk) kL hn' h.1,h.2⟩,λhk=>?_⟩
 have hk:scope.names.lookup n=some .cell:=(par n (au hn')).elim (λz=>by rw[kd,z]at hk;rcases hk with z|z<;>cases z) id
 refine(hcl n hk).elim λc' hc=>?_
 have:=R.ic.cell n c' hc
 rw[Ji (kd.trans hk) kL hn' h.1]at this
 exact⟨c',x,hc,this,h.2⟩
theorem Je{C:ZV}{n:Nat}{fi:Fi}{scope:aa}{body:List Zz3}{env:Env}{A:aC}{X:aV->Prop}{L:aV}{Lc:Loc}{Q:fP}{E':US->Prop}{R:Flow->cK->Prop}{P:Value->cK->Prop}(hb:NF c C n fi nm scope body)(hR:Ws n A)(hs:env.scope=scope)(hf:env.frame=some L)(O:ZO env nm X)(I:Inv (c.YB A env X) s U)(F:Fr (c.YB A env X) s U env nm Lc)
 (h:match fi.raises with|true=>wpS C fi.body (λo Y U'=>o=none/\E' U') (Y8 E') Lc U|false=>wpS C fi.body (YC Q) (Y8 E') Lc U)
 (r1:∀{fl s'},Tz (c.YB A env X) env nm s U (YC Q) fl s'->R fl s') (r2:∀{e s'},Uv (c.YB A env X) env nm s U (Y8 E') e s'->P e s') (r3:∀{e s'},ET (c.YB A env X) env s U (λU'=>∃L':Loc,(none:Option AV)=none/\E' U') e s'->P e s'):bT c.M A (execs body env) R P s:=by
 have go:=λQ E=>hb (Q:=Q) (E:=E) hR hs hf O I F
 revert h go
 induction fi.raises using jB with
 |false=>exactλh go=>bO (go _ _ h) (λY Y=>r1) λY Y=>r2
 |true=>exactλh go=>bO (go _ _ h λY Y Y q=>q.1) (λY Y z=>z.elim) λY Y z=>z.elim r3 r2
theorem Jd{C:ZV}{n k:Nat}{fi:Fi}{scope:aa}{body:List Zz3}(hb:NF c C n fi nm scope body)(F:u_ c k fi nm scope body)(hnl:c.g.NoLimit)(hR:Jh n c.A)(I:Inv c s U)
 {args:List AV} {vs:List Value} {Q:fP} {E':US->Prop} {f:aV} (hf:c.gv k=.ref f) (ea:V5 c s.heap U args vs) (h:Gu C fi args Q E' U):
 Zi6 c.M c.A (.call (.ref f) ⟨vs,[]⟩) (MB c s U Q E') s:=by
 refine hG ?_;intro PP
 obtain⟨f',o,fd,as,b⟩:=F.ob
 have e0:=Zv1 (hf.symm.trans b.gv)
 subst e0
 have h:fF (cZ args.length fi.np) _ False:=h
 induction hl:cZ args.length fi.np using jB with
 |false=>rw[hl]at h;exact h.elim
 |true=>
 rw[hl]at h
 have hl:=cW hl
 have base:∀a o,c.g.get? a=some o->s.heap.get? a=some o:=λa o e=>(I.Yr.base a o e).h
 have lv:as.length=vs.length:=by have:=congrArg Zp1 b.nm;rw[cM,Zk6,Zs8 F.le]at this;exact this.trans (hl.symm.trans ea.len.symm)
 refine codeAny_call_function (fd:=fd) (body:=body) (cD (c7 (cR _ _) (c7 (cR _ _) hR.depth)) (by decide)) (base _ _ b.at') b.fn (by rw[b.sc];exact F.co) (by rw[b.sc];exact F.gen) b.bd (b.cr.keeps base) ?_
 refine BindsTo.of_eq (NH fd as b.ps b.df vs lv (by rw[b.nm];exact F.nd.sublist (List.take_sublist ..))) _ _ _ _ ?_
 rw[b.sc,b.gl,b.cl,b.bt,b.nm]
 refine wpAny_newFunctionEnv_cells F.kind (λx hx=>(F.par x.1 (Zi4 hx).1).imp id λz=>⟨z,cellsFrom_some _ _ _ (.inl z)⟩) λenv' he s1 hs1=>?_
 have R:=CH.of (g:=0) he hs1
 have kp:=hs1.toInCall.keep
 have hcl:∀n,scope.names.lookup n=some .cell->∃c',env'.cells.lookup n=some c':=λn hk=>by rw[he];exact Zz2.mp (cellsFrom_some scope.names (s.heap.objs.size+1) [] (.inl hk))
 have FR:=AN (c:=c) (m:=fi.nm.length) R F.par F.nd hcl hl F.le F.len ea
 refine⟨(hnl.keeps base).keeps kp,codeAny_func ?_⟩
 have oz:XF s s1:=hs1.done.elim λh1 z=>z.elim λtk z=>z.1▸ZF
 have out:∀{s'' TJ},Sx (c.YB (c.A.deeper env') env' (Jf c.X env')) env' s1 U s'' TJ->YF c.l s.heap U s''.heap TJ:=λz=>z.k.out R.GU kp (R.nw (.inl rfl)) R.nw
 refine Je hb ⟨hR.handled,hR.depth,hR.units⟩ R.sc R.GU (R.ok F.kind F.nd) (R.inv F.kind I) FR h (λ{fl s''} z=>?_) (λ{e s''} z=>?_) λ{e s''} z=>?_
 ·cases z with|@mk o _ TJ q rC J _ kK=>
  refine⟨⟨_,q,?_⟩,⟨J.Yr.less λa z=>.inl z,J.Tr.elim λ_ z=>z.2,λa z=>J.xlt a (.inl z),I.frames,I.fx⟩,⟨out kK,oz.trans kK.r⟩⟩
  induction o using jO with
  |none=>cases rC;rfl
  |some v=>exact rC.elim λx z=>by rw[z.1];exact z.2.mono λY Y v=>⟨v.h,v.u,λz=>v.x (.inl z)⟩
 ·obtain⟨a,b,d,z⟩:=z
  exact bO (Jl (c:=c) (L:=env'.locals) b.frames R.GU (λa z=>.inl z) (out a) (R.nw (.inl rfl)) (oz.trans a.r) z) (λY Y z=>z) λY Y z=>z
 ·obtain⟨a,z⟩:=z
  exact bO (Ru (c:=c) (L:=env'.locals) R.GU (λa z=>.inl z) (out a) (R.nw (.inl rfl)) (oz.trans a.r) z) (λY Y z=>z.mono λU' q=>q.elim λY q=>q.2) λY Y z=>z
end
abbrev MA(c:Cx)(h:Zz0)(f:Value):Prop:=∃k,(k=Keeper.frame\/k=Keeper.machine\/k=Keeper.boundFrame)/\Looks c.M h (keeperOf f) k
theorem AM(h:Ug k=some i):WV i=true:=by
 have go:∀{l:List (Nat×Nat)},(l.all λx=>WV x.2)=true->X7 k l=some i->WV i=true:=λ{l}=>by
  induction l with
  |nil=>exactλY z=>by exact ZE z
  |cons x l ih=>
   intro a z
   obtain⟨a,b⟩:=cN.mp a
   have z:(bif cZ x.1 k then some x.2 else X7 k l)=some i:=z
   induction q:cZ x.1 k using jB with
   |true=>rw[q]at z;cases z;exact a
   |false=>rw[q]at z;exact ih b z
 exact go (l:=Th) (by kernel_rfl) h
def Xh(c0:Cx)(C:ZV)(n:Nat):Prop:=
 ∀{c:Cx} {A:aC} {l:List Env} {X:aV->Prop} {k:Nat} {args:List AV} {Q:fP} {E:US->Prop} {U:US} {vs:List Value} {s:cK},c=(c0.ww A l X)->C k args Q E U->NG (WV k) n c.A->Inv c s U->V5 c s.heap U args vs->
  ∃f,c.gv k=.ref f/\fnIn c.K f=true/\Zi6 c.M c.A (.call (.ref f) ⟨vs,[]⟩) (MB c s U Q E) s
theorem Xh.now(hC:Xh c C n)(h:C k args Q E U)(hR:NG (WV k) n c.A)(I:Inv c s U)(ea:V5 c s.heap U args vs):
 ∃f,c.gv k=.ref f/\fnIn c.K f=true/\Zi6 c.M c.A (.call (.ref f) ⟨vs,[]⟩) (MB c s U Q E) s:=hC (c:=c) (A:=c.A) (l:=c.l) (X:=c.X) rfl h hR I ea
section
variable{c:Cx}{s s':cK}{U:US}{A':aC}
noncomputable def Cx.wA(c:Cx)(A:aC):Cx:=c.ww A c.l c.X
theorem Inv.toA(h:A'.frames=c.A.frames)(I:Inv c s U):Inv (c.wA A') s U:=⟨I.Yr.less λY z=>z,I.Tr,I.xlt,h.trans I.frames,I.fx⟩
theorem Inv.CG(h:A'.frames=c.A.frames)(I:Inv (c.wA A') s U):Inv c s U:=⟨I.Yr.less λY z=>z,I.Tr,I.xlt,h.symm.trans I.frames,I.fx⟩
theorem Er.CG:Er (c.wA A') s U E e s'->Er c s U E e s'
 |⟨h1,h2,f,h4,h5⟩=>⟨h1,h2,⟨f.stays,f.new,f.frames,f.Yq,f.Yr.less λY z=>z,f.old,f.fr,f.dom⟩,h4,h5⟩
theorem Mz{K:Frag}{f:aV}(h:fnIn K f=true):∃a b d i,K.lookup f=some ⟨a,b,.func d,i⟩:=by
 unfold fnIn at h
 induction hk:K.lookup f using jO with
 |none=>rw[hk]at h;exact Zv h
 |some o=>
  rw[hk]at h
  cases o with|mk a b d i=>
  cases d with
  |func x=>exact⟨a,b,x,i,rfl⟩
  |_=>exact Zv h
theorem Q6{h:Zz0}{f:aV}(x:c.K.In h)(e:fnIn c.K f=true):MA c h (.ref f):=by
 obtain⟨a,b,d,i,q⟩:=Mz e
 exact⟨.frame,.inl rfl,(Zd8 (part:=none) (x _ _ q)).andThen .now⟩
theorem Jc(I:Inv c s U)(hC:c.gv k=.ref C):
 U (s.heap.objs.size+1)=none/\U s.heap.objs.size=none/\(s.heap.objs.size+1≠s.heap.objs.size)/\
 Inv c {s with heap:=(s.heap.push Zo9).push (ak C s.heap.objs.size)} (upd (upd U (s.heap.objs.size+1) (some (.inst k s.heap.objs.size))) s.heap.objs.size (some (.fields [])))/\
 Nx c s U {s with heap:=(s.heap.push Zo9).push (ak C s.heap.objs.size)} (upd (upd U (s.heap.objs.size+1) (some (.inst k s.heap.objs.size))) s.heap.objs.size (some (.fields []))):=by
  obtain⟨u1,I1,n1⟩:=I.made (s':={s with heap:=s.heap.push Zo9}) (x:=.fields []) Y0 ZF Zz (bR _ rfl) ⟨[],0,rfl,rfl,rfl⟩
  have f2:(s.heap.push Zo9).get? (s.heap.objs.size+1)=none:=Y3 (cV (Zw1 ..))
  obtain⟨u2,I2,n2⟩:=I1.made (s':={s with heap:=(s.heap.push Zo9).push (ak C s.heap.objs.size)}) (x:=.inst k s.heap.objs.size) (λY Y e=>cA _ e) ZF f2 (ob:=ak C s.heap.objs.size) (by heap_get) ⟨C,hC,rfl⟩
  have ne:s.heap.objs.size+1≠s.heap.objs.size:=Nat.succ_ne_self _
  rw[UU ne]
  exact⟨(Z9 ne).symm.trans u2,u1,ne,I2,n1.trans n2⟩
theorem Q5{C:ZV}{n:Nat}(hC:Xh c C n)(W:Wd c)(hR:Ws n c.A)(I:Inv c s U){fv:AV}{f:Value}{args:List AV}{vs:List Value}{Q:fP}{E:US->Prop}(h:Rk C fv args Q E U)(ef:En c s.heap U fv f)(ea:V5 c s.heap U args vs):
 MA c s.heap f/\bT c.M c.A (call f vs) (Ok c s U (pV c Q)) (Er c s U E) s:=by
 have kx:=W.CS I.Yr
 induction fv using jV with
 |bm k self=>
  refine hG ?_;intro PP
  obtain⟨v,⟨h1⟩,e1⟩:=ef
  obtain⟨f',hf,hfn,hc⟩:=hC.now h hR.room I (.cons e1 ea)
  rw[hf]at h1
  refine⟨?_,Zm3 (method_call h1.h hc)⟩
  obtain⟨a,b,d,i,e⟩:=Mz hfn
  exact⟨.boundFrame,.inr (.inr rfl),(Zd8 (part:=none) h1.h).andThen ((Zd8 (part:=none) (kx _ _ e)).andThen .now)⟩
 |g k=>
  obtain rfl:=ef
  have h:match fM k with|true=>_|false=>_:=h
  induction hk:fM k using jB with
  |false=>
   rw[hk]at h
   refine hG ?_;intro PP
   obtain⟨f',hf,hfn,hc⟩:=hC.now h.2 hR.room I ea
   dsimp only[PP]
   rw[hf]
   exact⟨Q6 kx hfn,Zm3 hc⟩
  |true=>
   rw[hk]at h
   refine hG ?_;intro PP
   obtain⟨Cc,kJ,O⟩:=W.cls k hk
   dsimp only[PP]
   rw[kJ]
   refine⟨keeps_K O.keep _ kx,Zm3 ?_⟩
   refine hG ?_;intro PP
   obtain⟨u1,u2,ne,I2,n2⟩:=Jc I kJ
   have h:match Ug k with|some i=>_|none=>_:=h _ _ ne u1 u2
   have dc:=makes_of (M:=c.M) kx O.makes
   have init:=O.init
   induction hi:Ug k using jO with
   |some i=>
    rw[hi]at init h
    refine hG ?_;intro PP
    obtain⟨fi,i1,i2,i3⟩:=init
    refine make_core dc (looks_findIn kx i2) (λself=>bind_fn kx self (beq_iff_eq.mp i3)) (.inl rfl) ?_
    refine hG ?_;intro PP
    obtain⟨f',g1,g2,hc⟩:=hC (A:=c.A.under (.builtin "type.__call__" ⟨.ref Cc::vs,[]⟩)) rfl h (AM hi▸hR.under rfl rfl rfl) (I2.toA rfl) (.cons rfl (ea.mono (I.vw n2)))
    have e0:=Zv1 (i1.symm.trans g1)
    subst e0
    refine codeAny_mono hc λr s' z=>?_
    cases r with
    |error e=>exact(Er.CG z).trans n2
    |ok f=>
    cases f with
    |ret v=>
     obtain⟨⟨_,⟨rfl,q⟩,ev⟩,J,N⟩:=z
     exact⟨ev,⟨_,q,rfl⟩,@Inv.CG c _ _ (c.A.under (.builtin "type.__call__" ⟨.ref Cc::vs,[]⟩)) rfl J,n2.trans ⟨N.k,N.r⟩⟩
    |_=>exact Zr7 z
   |none=>
    rw[hi]at init h
    refine hG ?_;intro PP
    obtain⟨rfl,q⟩:=h
    obtain rfl:=ea
    refine make_core dc (looks_findIn kx init) (λself=>Ze8 (oi_bind self)) (.inr ⟨rfl,rfl⟩) ?_
    have hx:((s.heap.push Zo9).push (ak Cc s.heap.objs.size)).get? (s.heap.objs.size+1)=some (ak Cc s.heap.objs.size):=by heap_get
    have t1:Looks c.M ((s.heap.push Zo9).push (ak Cc s.heap.objs.size)) (typeOf (.ref (s.heap.objs.size+1))) (.ref Cc):=(Zd8 hx).andThen .now
    have t2:Looks c.M ((s.heap.push Zo9).push (ak Cc s.heap.objs.size)) (isInstance (.ref (s.heap.objs.size+1)) (.type "object")) true:=t1.andThen (dc.top.keeps λb o e=>cA _ (cA _ e))
    refine codeAny_call_builtin oi_plain entry_oi (@check_slot c.M _ _ _ "object.__init__" "object" "__init__" (.ref (s.heap.objs.size+1)) [] [] _ oi_kind oi_split t2 (oi_args (.ref (s.heap.objs.size+1))) ?_)
    rw[oi_run]
    exact b7 (And.intro rfl ⟨⟨_,q,rfl⟩,I2,n2⟩)
 |_=>exact h.elim
theorem My(h:QJ v Q U)(I:Inv c s U)(e:En c s.heap U v a):Ok c s U (pV c Q) a s:=by
 unfold QJ at h
 refine hG ?_;intro PP
 obtain⟨r,rfl,h1⟩:=Y6 h.h
 obtain rfl:=e
 have h:=h1
 have dr:∀{U':US},Inv c s U'->∀a,Inv c s (upd U' a none)/\Nx c s U' s (upd U' a none):=λI a=>⟨I.next I.Yr.drop .drop,.drop,.refl _⟩
 induction hr:U r using jO with
 |none=>rw[hr]at h;exact h.elim
 |some o=>
  rw[hr]at h
  induction o using jA with
  |list xs=>
   cases Vs I hr with|mk ho ll l=>
   exact .at' (dr I r) ⟨_,h,_,⟨ho,Z_,(I.Yr.obj _ _ hr).1⟩,ll,l.mono λY Y=>Vw.drop⟩
  |inst k d=>
   refine hG ?_;intro PP
   obtain⟨fs,hd,hf,q⟩:=Sz (show oF (U d) _ from h)
   obtain⟨x1,_,p1,C,hc,rfl⟩:=I.Yr.obj _ _ hr
   obtain⟨x2,_,p2,es,n,rfl,l⟩:=I.Yr.obj _ _ hd
   have ne:r≠d:=λz=>by rw[z,hd]at hr;exact xO hr rfl
   have a:=dr I r
   have b:=dr a.1 d
   exact⟨⟨_,q,es,⟨hc,⟨p1,(Z9 ne).trans Z_,x1⟩,⟨p2,Z_,x2⟩⟩,hf▸l.mono λY Y v=>(v.drop).drop⟩,b.1,a.2.trans b.2⟩
  |_=>exact h.elim
theorem AL(hC:Xh c C n)(W:Wd c)(hR:Ws n c.A)(I:Inv c s U)(h:RA C k args Q E U)(ea:V5 c s.heap U args vs):
 MA c s.heap (c.gv k)/\bT c.M c.A (call (c.gv k) vs) (Ok c s U (pV c Q)) (Er c s U E) s:=by
  unfold RA at h
  obtain⟨a,b⟩:=Q5 hC W hR I h.h (show En c s.heap U (.g k) (c.gv k)from rfl) ea
  exact⟨a,bO b (λv s' ⟨⟨_,q,e⟩,J,N⟩=>(My q J e).trans N) λY Y z=>z⟩
end
section
variable{α:Type}
noncomputable def oS(o:Option α)(K:α->Bool):Bool:=match o with|some x=>K x|none=>false
noncomputable def oN(o:Option α)(b:Bool):Bool:=match o with|some _=>false|none=>b
noncomputable def Wg(l:List α)(b:Bool):Bool:=match l with|[]=>b|_=>false
noncomputable def Ys(l:List α)(K:α->List α->Bool):Bool:=match l with|x::r=>K x r|_=>false
theorem Zl{K}(h:oS o K=true):∃x,o=some x/\K x=true:=by induction o using jO<;>first|exact⟨_,rfl,h⟩|exact Zv h
@[elab_as_elim]theorem Tw{P:Option α->Prop}{o:Option α}{K}(h:oS o K=true)(k:∀x,K x=true->P (some x)):P o:=by induction o using jO<;>first|exact k _ h|exact Zv h
@[elab_as_elim]theorem Vr{P:Option α->Prop}{o:Option α}{b}(h:oN o b=true)(k:b=true->P none):P o:=by induction o using jO<;>first|exact k h|exact Zv h
@[elab_as_elim]theorem Zb{P:List α->Prop}{l:List α}{b}(h:Wg l b=true)(k:b=true->P []):P l:=by induction l using jL<;>first|exact k h|exact Zv h
@[elab_as_elim]theorem Zq{P:List α->Prop}{l:List α}{K}(h:Ys l K=true)(k:∀x r,K x r=true->P (x::r)):P l:=by induction l using jL<;>first|exact k _ _ h|exact Zv h
noncomputable def v1(l:List α)(K:α->Bool):Bool:=Ys l λx r=>Wg r (K x)
@[elab_as_elim]theorem Ye{P:List α->Prop}{l:List α}{K}(h:v1 l K=true)(k:∀x,K x=true->P [x]):P l:=Zq h λx r h=>Zb h (k x)
noncomputable def v2(l:List α)(K:α->α->Bool):Bool:=Ys l λx r=>v1 r (K x)
@[elab_as_elim]theorem V3{P:List α->Prop}{l:List α}{K}(h:v2 l K=true)(k:∀x y,K x y=true->P [x,y]):P l:=Zq h λx r h=>Ye h (k x)
theorem Z0(h:(a&&b)=true):a=true/\b=true:=cN.mp h
section
variable{a b c d e f:Bool}{P:Prop}
theorem YX(h:(a&&b)=true)(k:a=true->b=true->P):P:=k (Z0 h).1 (Z0 h).2
theorem R8(h:(a&&(b&&c))=true)(k:a=true->b=true->c=true->P):P:=YX h λh h'=>YX h' (k h)
theorem CF(h:(a&&(b&&(c&&d)))=true)(k:a=true->b=true->c=true->d=true->P):P:=YX h λh h'=>R8 h' (k h)
theorem kI(h:(a&&(b&&(c&&(d&&e))))=true)(k:a=true->b=true->c=true->d=true->e=true->P):P:=YX h λh h'=>CF h' (k h)
theorem oq(h:(a&&(b&&(c&&(d&&(e&&f)))))=true)(k:a=true->b=true->c=true->d=true->e=true->f=true->P):P:=YX h λh h'=>kI h' (k h)
end
@[elab_as_elim]theorem YW{α:Type}[BEq α][LawfulBEq α]{a b:α}{P:α->Prop}(h:(a==b)=true)(k:P b):P a:=Vc k (eq_of_beq h)
end
section
variable{e:Expr}
noncomputable def CD(e:Expr):Option {x:Str×Pos//e=.Name x.1 x.2}:=eS (β:=Option {x:Str×Pos//e=.Name x.1 x.2}) none none e (kn:=λn p h=>some ⟨(n,p),h⟩)
noncomputable def YA(e:Expr)(K:Str->Bool):Bool:=oS (CD e) λx=>K x.1.1
@[elab_as_elim]theorem YZ{P:Expr->Prop}{K}(h:YA e K=true)(k:∀n p,K n=true->P (.Name n p)):P e:=(Zl h).elim λx y=>Vc (k x.1.1 x.1.2 y.2) x.2
noncomputable def AK(e:Expr):Option {x:Const×Nat×Pos//e=.Constant x.1 x.2.1 x.2.2}:=eS (β:=Option {x:Const×Nat×Pos//e=.Constant x.1 x.2.1 x.2.2}) none none e (kc:=λn k p h=>some ⟨(n,k,p),h⟩)
noncomputable def WZ(e:Expr)(K:Const->Bool):Bool:=oS (AK e) λx=>K x.1.1
@[elab_as_elim]theorem Xu{P:Expr->Prop}{K}(h:WZ e K=true)(k:∀n k p,K n=true->P (.Constant n k p)):P e:=(Zl h).elim λx y=>Vc (k x.1.1 x.1.2.1 x.1.2.2 y.2) x.2
noncomputable def iy(e:Expr):Option {x:UnaryOp×Expr×Pos//e=.UnaryOp x.1 x.2.1 x.2.2}:=eS (β:=Option {x:UnaryOp×Expr×Pos//e=.UnaryOp x.1 x.2.1 x.2.2}) none none e (ku:=λo x p h=>some ⟨(o,x,p),h⟩)
noncomputable def rB(e:Expr)(K:UnaryOp->Expr->Bool):Bool:=oS (iy e) λx=>K x.1.1 x.1.2.1
@[elab_as_elim]theorem ND{P:Expr->Prop}{K}(h:rB e K=true)(k:∀o x p,K o x=true->P (.UnaryOp o x p)):P e:=(Zl h).elim λx y=>Vc (k x.1.1 x.1.2.1 x.1.2.2 y.2) x.2
noncomputable def u9(e:Expr):Option {x:PySem.BoolOp×(List Expr)×Pos//e=.BoolOp x.1 x.2.1 x.2.2}:=eS (β:=Option {x:PySem.BoolOp×(List Expr)×Pos//e=.BoolOp x.1 x.2.1 x.2.2}) none none e (kb:=λo x p h=>some ⟨(o,x,p),h⟩)
noncomputable def vBool(e:Expr)(K:PySem.BoolOp->(List Expr)->Bool):Bool:=oS (u9 e) λx=>K x.1.1 x.1.2.1
@[elab_as_elim]theorem Jb{P:Expr->Prop}{K}(h:vBool e K=true)(k:∀o x p,K o x=true->P (.BoolOp o x p)):P e:=(Zl h).elim λx y=>Vc (k x.1.1 x.1.2.1 x.1.2.2 y.2) x.2
noncomputable def iw(e:Expr):Option {x:Expr×Expr×Expr×Pos//e=.IfExp x.1 x.2.1 x.2.2.1 x.2.2.2}:=eS (β:=Option {x:Expr×Expr×Expr×Pos//e=.IfExp x.1 x.2.1 x.2.2.1 x.2.2.2}) none none e (ki:=λx y z p h=>some ⟨(x,y,z,p),h⟩)
noncomputable def kH(e:Expr)(K:Expr->Expr->Expr->Bool):Bool:=oS (iw e) λx=>K x.1.1 x.1.2.1 x.1.2.2.1
@[elab_as_elim]theorem AJ{P:Expr->Prop}{K}(h:kH e K=true)(k:∀x y z p,K x y z=true->P (.IfExp x y z p)):P e:=(Zl h).elim λx y=>Vc (k x.1.1 x.1.2.1 x.1.2.2.1 x.1.2.2.2 y.2) x.2
noncomputable def oj(e:Expr):Option {x:Expr×Operator×Expr×Pos//e=.BinOp x.1 x.2.1 x.2.2.1 x.2.2.2}:=eS (β:=Option {x:Expr×Operator×Expr×Pos//e=.BinOp x.1 x.2.1 x.2.2.1 x.2.2.2}) none none e (ko:=λx o y p h=>some ⟨(x,o,y,p),h⟩)
noncomputable def EP(e:Expr)(K:Operator->Expr->Expr->Bool):Bool:=oS (oj e) λx=>K x.1.2.1 x.1.1 x.1.2.2.1
@[elab_as_elim]theorem Mx{P:Expr->Prop}{K}(h:EP e K=true)(k:∀o x y p,K o x y=true->P (.BinOp x o y p)):P e:=(Zl h).elim λx y=>Vc (k x.1.2.1 x.1.1 x.1.2.2.1 x.1.2.2.2 y.2) x.2
noncomputable def oh(e:Expr):Option {x:Expr×(List CmpOp)×(List Expr)×Pos//e=.Compare x.1 x.2.1 x.2.2.1 x.2.2.2}:=eS (β:=Option {x:Expr×(List CmpOp)×(List Expr)×Pos//e=.Compare x.1 x.2.1 x.2.2.1 x.2.2.2}) none none e (km:=λx o y p h=>some ⟨(x,o,y,p),h⟩)
noncomputable def EO(e:Expr)(K:(List CmpOp)->Expr->(List Expr)->Bool):Bool:=oS (oh e) λx=>K x.1.2.1 x.1.1 x.1.2.2.1
@[elab_as_elim]theorem Mw{P:Expr->Prop}{K}(h:EO e K=true)(k:∀o x y p,K o x y=true->P (.Compare x o y p)):P e:=(Zl h).elim λx y=>Vc (k x.1.2.1 x.1.1 x.1.2.2.1 x.1.2.2.2 y.2) x.2
noncomputable def u7(e:Expr):Option {x:Expr×Str×Pos//e=.Attribute x.1 x.2.1 x.2.2}:=eS (β:=Option {x:Expr×Str×Pos//e=.Attribute x.1 x.2.1 x.2.2}) none none e (ka:=λx a p h=>some ⟨(x,a,p),h⟩)
noncomputable def Mv(e:Expr)(K:Str->Expr->Pos->Bool):Bool:=oS (u7 e) λx=>K x.1.2.1 x.1.1 x.1.2.2
@[elab_as_elim]theorem R7{P:Expr->Prop}{K}(h:Mv e K=true)(k:∀a x p,K a x p=true->P (.Attribute x a p)):P e:=(Zl h).elim λx y=>Vc (k x.1.2.1 x.1.1 x.1.2.2 y.2) x.2
noncomputable def AI(e:Expr):Option {x:Expr×(List Expr)×(List Keyword)×Pos//e=.Call x.1 x.2.1 x.2.2.1 x.2.2.2}:=eS (β:=Option {x:Expr×(List Expr)×(List Keyword)×Pos//e=.Call x.1 x.2.1 x.2.2.1 x.2.2.2}) none none e (kf:=λf as kw p h=>some ⟨(f,as,kw,p),h⟩)
noncomputable def P_(e:Expr)(K:Expr->(List Expr)->(List Keyword)->Pos->Bool):Bool:=oS (AI e) λx=>K x.1.1 x.1.2.1 x.1.2.2.1 x.1.2.2.2
@[elab_as_elim]theorem T7{P:Expr->Prop}{K}(h:P_ e K=true)(k:∀f as kw p,K f as kw p=true->P (.Call f as kw p)):P e:=(Zl h).elim λx y=>Vc (k x.1.1 x.1.2.1 x.1.2.2.1 x.1.2.2.2 y.2) x.2
noncomputable def n_(e:Expr):Option {x:Expr×Expr×Pos//e=.Subscript x.1 x.2.1 x.2.2}:=eS (β:=Option {x:Expr×Expr×Pos//e=.Subscript x.1 x.2.1 x.2.2}) none none e (ks:=λx i p h=>some ⟨(x,i,p),h⟩)
noncomputable def P9(e:Expr)(K:Expr->Expr->Bool):Bool:=oS (n_ e) λx=>K x.1.1 x.1.2.1
@[elab_as_elim]theorem W6{P:Expr->Prop}{K}(h:P9 e K=true)(k:∀x i p,K x i=true->P (.Subscript x i p)):P e:=(Zl h).elim λx y=>Vc (k x.1.1 x.1.2.1 x.1.2.2 y.2) x.2
noncomputable def AH(e:Expr):Option {x:(Option Expr)×(Option Expr)×(Option Expr)×Pos//e=.Slice x.1 x.2.1 x.2.2.1 x.2.2.2}:=eS (β:=Option {x:(Option Expr)×(Option Expr)×(Option Expr)×Pos//e=.Slice x.1 x.2.1 x.2.2.1 x.2.2.2}) none none e (kl:=λa b d p h=>some ⟨(a,b,d,p),h⟩)
noncomputable def R6(e:Expr)(K:(Option Expr)->(Option Expr)->(Option Expr)->Bool):Bool:=oS (AH e) λx=>K x.1.1 x.1.2.1 x.1.2.2.1
@[elab_as_elim]theorem VI{P:Expr->Prop}{K}(h:R6 e K=true)(k:∀a b d p,K a b d=true->P (.Slice a b d p)):P e:=(Zl h).elim λx y=>Vc (k x.1.1 x.1.2.1 x.1.2.2.1 x.1.2.2.2 y.2) x.2
noncomputable def dR(e:Expr):Option {x:(List Expr)×Pos//e=.List x.1 x.2}:=eS (β:=Option {x:(List Expr)×Pos//e=.List x.1 x.2}) none none e (kt:=λes p h=>some ⟨(es,p),h⟩)
noncomputable def Ja(e:Expr)(K:(List Expr)->Bool):Bool:=oS (dR e) λx=>K x.1.1
@[elab_as_elim]theorem OO{P:Expr->Prop}{K}(h:Ja e K=true)(k:∀es p,K es=true->P (.List es p)):P e:=(Zl h).elim λx y=>Vc (k x.1.1 x.1.2 y.2) x.2
noncomputable def n9(e:Expr):Option {x:(List Expr)×Nat×Pos//e=.Tuple x.1 x.2.1 x.2.2}:=eS (β:=Option {x:(List Expr)×Nat×Pos//e=.Tuple x.1 x.2.1 x.2.2}) none none e (kp:=λes k p h=>some ⟨(es,k,p),h⟩)
noncomputable def Tp(e:Expr)(K:(List Expr)->Bool):Bool:=oS (n9 e) λx=>K x.1.1
@[elab_as_elim]theorem W5{P:Expr->Prop}{K}(h:Tp e K=true)(k:∀es k p,K es=true->P (.Tuple es k p)):P e:=(Zl h).elim λx y=>Vc (k x.1.1 x.1.2.1 x.1.2.2 y.2) x.2
noncomputable def u6(e:Expr):Option {x:(List (Option Expr))×(List Expr)×Pos//e=.Dict x.1 x.2.1 x.2.2}:=eS (β:=Option {x:(List (Option Expr))×(List Expr)×Pos//e=.Dict x.1 x.2.1 x.2.2}) none none e (kd:=λks vs p h=>some ⟨(ks,vs,p),h⟩)
noncomputable def CC(e:Expr)(K:(List (Option Expr))->(List Expr)->Bool):Bool:=oS (u6 e) λx=>K x.1.1 x.1.2.1
@[elab_as_elim]theorem I_{P:Expr->Prop}{K}(h:CC e K=true)(k:∀ks vs p,K ks vs=true->P (.Dict ks vs p)):P e:=(Zl h).elim λx y=>Vc (k x.1.1 x.1.2.1 x.1.2.2 y.2) x.2
noncomputable def u5(e:Expr):Option {x:Expr×(List Zl0)×aa×Pos//e=.ListComp x.1 x.2.1 x.2.2.1 x.2.2.2}:=eS (β:=Option {x:Expr×(List Zl0)×aa×Pos//e=.ListComp x.1 x.2.1 x.2.2.1 x.2.2.2}) none none e (kg:=λx gs sc p h=>some ⟨(x,gs,sc,p),h⟩)
noncomputable def I9(e:Expr)(K:Expr->(List Zl0)->aa->Bool):Bool:=oS (u5 e) λx=>K x.1.1 x.1.2.1 x.1.2.2.1
@[elab_as_elim]theorem ON{P:Expr->Prop}{K}(h:I9 e K=true)(k:∀x gs sc p,K x gs sc=true->P (.ListComp x gs sc p)):P e:=(Zl h).elim λx y=>Vc (k x.1.1 x.1.2.1 x.1.2.2.1 x.1.2.2.2 y.2) x.2
end
noncomputable def Uu(e:Expr)(K:Str->List Expr->Bool):Bool:=P_ e λf as kw Y=>YA f λn=>Wg kw (K n as)
noncomputable def OM(e:Expr)(K:Str->Expr->List Expr->Bool):Bool:=P_ e λf as kw p=>Mv f λa x ap=>Wg kw (cZ ap.endLine p.line&&K a x as)
@[elab_as_elim]theorem Xg{P:Expr->Prop}{e:Expr}{K}(h:Uu e K=true)(k:∀n np as p,K n as=true->P (.Call (.Name n np) as [] p)):P e:=T7 h λf as kw p h=>YZ h λn np h=>Zb h (k n np as p)
@[elab_as_elim]theorem Ut{P:Expr->Prop}{e:Expr}{K}(h:OM e K=true)(k:∀a x ap as p,ap.endLine=p.line->K a x as=true->P (.Call (.Attribute x a ap) as [] p)):P e:=T7 h λf as kw p h=>R7 h λa x ap h=>Zb h λh=>YX h λh h'=>k a x ap as p (cW h) h'
noncomputable abbrev YH(e:Expr):Bool:=eS true false e (kf:=λf as kw Y Y=>!(as.isEmpty&&(kw.isEmpty&&YA f λn=>n==("super":Str))))
noncomputable abbrev Yi(e:Expr):Bool:=eS true false e
noncomputable abbrev NC(e:Expr):Bool:=eS true false e (ku:=λY Y Y Y=>false) (kb:=λY Y Y Y=>false) (ki:=λY Y Y Y Y=>false) (km:=λY Y Y Y Y=>false)
noncomputable def I8(k:Option Zy9):Bool:=k==some .local||k==some .cell||k==some .free
noncomputable def To(k:Option Zy9):Bool:=k==some .local||k==some .cell
noncomputable def P8(k:Option Zy9):Bool:=k==some .globalImplicit
noncomputable def Xf(n:Str):Bool:=n !=("__debug__":Str)&&n !=("__classdict__":Str)
noncomputable def Yk(v:AV)(c:Const):Bool:=match v with
 |.none=>c==.none
 |.bool b=>c==.bool b
 |.int i=>c==.int i
 |.str k=>bk k SN&&c==.str (ZU k)
 |_=>false
noncomputable def uZ(i:Int)(e:Expr):Bool:=WZ e λc=>c==.int i
noncomputable def AG(i:Int)(v:AV):Bool:=match v with|.int j=>j==i|_=>false
noncomputable def uY(v:AV)(x:Expr):Bool:=WZ x λc=>match c with|.int k=>AG (-k) v|_=>false
noncomputable def dz(v:AV)(o:UnaryOp)(x:Expr):Bool:=o==.USub&&uY v x
noncomputable def dw(v:AV)(o:Operator)(x y:Expr):Bool:=o==.Pow&&(uZ 10 x&&(uZ 18 y&&AG 1000000000000000000 v))
noncomputable def uX(v:AV)(e:Expr):Bool:=WZ e (Yk v)||(rB e (dz v)||EP e (dw v))
inductive Py where
 |e (x:Expr)
 |l (es:List Expr)
 |bo (o:PySem.BoolOp) (es:List Expr)
 |it (t x:Expr)
noncomputable def Py.Us(p:Py)(K:Expr->Bool):Bool:=match p with|.e x=>K x|_=>false
noncomputable def Py.Rl(p:Py)(K:List Expr->Bool):Bool:=match p with|.l x=>K x|_=>false
noncomputable def Py.Vz(p:Py)(K:Expr->Expr->Bool):Bool:=match p with|.it t x=>K t x|_=>false
noncomputable def Py.Wk(p:Py)(o:PySem.BoolOp)(K:Expr->List Expr->Bool):Bool:=match p with
 |.e x=>vBool x λo' es=>o'==o&&Ys es K
 |.bo o' es=>o'==o&&Ys es K
 |_=>false
noncomputable def Q4(o:PySem.BoolOp)(es:List Expr)(R:Py->Bool):Bool:=v1 es (λy=>R (.e y))||(!es.isEmpty&&R (.bo o es))
noncomputable def EN(o:UO):Option Nat:=o.tab [none,some 200,some 200,some 202,some 203,some 205,some 206,some 207,some 204,some 204] none
noncomputable def rA(o:BO):Option Operator:=o.tab [some .Add,some .Sub,some .Mult,some .FloorDiv,some .Mod,some .Add] none
noncomputable def rz(o:BO):Option CmpOp:=o.tab [none,none,none,none,none,none,some .Eq,some .NotEq,some .Lt,some .LtE,some .Gt,some .GtE,some .Eq,some .NotEq,some .Eq,some .NotEq,some .Eq,some .NotEq,some .Is,some .IsNot,some .In,some .NotIn,some .In,some .NotIn] none
noncomputable def EM(o:BO):Bool:=o.tab [false,false,false,false,false,false,false,false,false,false,false,false,false,false,false,false,false,false,false,false,false,false,false,false,true,true,true,true] false
section
variable(G:Str->AV->Bool)(nm:List Str)
noncomputable def X5(sc:aa)(n:Str)(k:Nat):Bool:=P8 (sc.names.lookup n)&&(Xf n&&G n (.g k))
noncomputable def I7(e:Expr):Bool:=rB e λo x=>o==.USub&&uZ 1 x
noncomputable def AF(o:UO)(sc:aa)(p:Py)(R:Py->Bool):Bool:=match EN o with
 |some k=>p.Us λe=>Uu e λn as=>X5 G sc n k&&v1 as λx=>Yi x&&R (.e x)
 |none=>o.tab [p.Us λe=>rB e λo x=>o==.Not&&R (.e x),false,false,false,false,false,false,false,false,false,p.Us λe=>P9 e λx i=>R (.e x)&&R6 i λa b d=>oN a (oN b (oS d I7)),
  p.Us λe=>OM e λa x as=>a==("pop":Str)&&Wg as (YH x&&R (.e x)),p.Us λe=>OM e λa x as=>a==("pop":Str)&&(v1 as (uZ 0))&&(YH x&&R (.e x)),
  p.Us λe=>Ja e λes=>bk es.length 64&&(es.all Yi&&R (.l es)),p.Us λe=>Ja e λes=>bk es.length 64&&(es.all Yi&&R (.l es)),p.Us λe=>Tp e λes=>bk es.length 64&&(es.all Yi&&R (.l es)),
  p.Us λe=>NC e&&R (.e e),p.Vz λY e=>Yi e&&R (.e e),p.Vz λY e=>Yi e&&R (.e e),p.Vz λY e=>Uu e λn as=>X5 G sc n 210&&v1 as λx=>Yi x&&R (.e x),
  p.Vz λt e=>Tp t (λY=>true)&&Uu e λn as=>X5 G sc n 212&&v1 as λx=>Yi x&&R (.e x)] false
noncomputable def NB(o:BO)(sc:aa)(p:Py)(Ra Rc:Py->Bool):Bool:=match rA o with
 |some op=>p.Us λe=>EP e λo x y=>o==op&&(Ra (.e x)&&Rc (.e y))
 |none=>match rz o with
  |some op=>p.Us λe=>EO e λos x ys=>(v1 os λo=>o==op)&&v1 ys λy=>!Zp8 op y&&(Ra (.e x)&&Rc (.e y))
  |none=>match EM o with
   |true=>p.Us λe=>P9 e λx i=>WQ i&&(Ra (.e x)&&Rc (.e i))
   |false=>o.tab [false,false,false,false,false,false,false,false,false,false,false,false,false,false,false,false,false,false,false,false,false,false,false,false,false,false,false,false,p.Us λe=>P9 e λx i=>Ra (.e x)&&R6 i λa b d=>oS a λy=>oN b (oN d (Rc (.e y))),p.Us λe=>P9 e λx i=>Ra (.e x)&&R6 i λa b d=>oN a (oS b λy=>oN d (Rc (.e y))),
    p.Us λe=>P9 e λx i=>Ra (.e x)&&R6 i λa b d=>oN a (oS b λy=>oN d (Rc (.e y))),false,false,false,p.Vz λt e=>Tp t (λY=>true)&&Uu e λn as=>X5 G sc n 211&&v2 as λx y=>Yi x&&Yi y&&(Ra (.e x)&&Rc (.e y))] false
noncomputable def uW(o:BO)(at':Str)(as:List Expr)(R:Py->Bool):Bool:=o.tab [false,false,false,false,false,false,false,false,false,false,false,false,false,false,false,false,false,false,false,false,false,false,false,false,false,false,false,false,false,false,false,at'==("append":Str)&&v1 as λy=>Yi y&&R (.e y),at'==("extend":Str)&&v1 as λy=>Yi y&&R (.e y),at'==("get":Str)&&(cZ as.length 2&&(as.all Yi&&R (.l as)))] false
noncomputable def Mu(sc:aa):List Nat->List Expr->Bool
 |[],es=>Wg es true
 |i::is,es=>Ys es λx r=>(YA x λn=>nm[i]?==some n&&To (sc.names.lookup n))&&Mu sc is r
noncomputable def R5(sc:aa)(is:List Nat)(t:Expr):Bool:=match is with
 |[]=>false
 |[i]=>YA t λn=>nm[i]?==some n&&To (sc.names.lookup n)
 |is=>Tp t λes=>Mu nm sc is es
noncomputable def YK(sc' sc:aa):aa:={sc' with names:=sc'.names.map λ(n,k)=>if(k==Zy7&&sc.kind==.function&&sc.names.lookup n==some .cell)then(n,.cell)else(n,k)}
noncomputable def Nz:List Str->Bool
 |[]=>true
 |x::r=>!r.contains x&&Nz r
noncomputable def Ny(sc' sc:aa)(tgt:List Nat):Bool:=
 sc'.kind==.function&&(Nz (sc'.names.map (·.1))&&sc'.names.all λx=>x.2 !=.cell&&((x.2 !=.local||((tgt.any λi=>nm[i]?==some x.1)||!nm.contains x.1))&&(x.2 !=.free||sc.names.lookup x.1==some .cell)))
noncomputable def R4(x:X):List (Option Expr)->Bool:=match x with
 |.nil=>λks=>Wg ks true
 |.cons h t=>match h with
  |.cst v=>λks=>Ys ks λk r=>(oS k λe=>WZ e (Yk v))&&R4 t r
  |_=>λY=>false
 |_=>λY=>false
noncomputable def YV:X->aa->Py->Bool
 |.loc i,sc,p=>p.Us λe=>YA e λn=>nm[i]?==some n&&(I8 (sc.names.lookup n)&&Xf n)
 |.cst v,_,p=>p.Us λe=>uX v e
 |.glob _ v,sc,p=>p.Us λe=>YA e λn=>P8 (sc.names.lookup n)&&(Xf n&&G n v)
 |.u o a,sc,p=>AF G o sc p (YV a sc)
 |.b o a c,sc,p=>NB G o sc p (YV a sc) (YV c sc)
 |.lm o a c,sc,p=>p.Us λe=>OM e λat' x as=>YH x&&(YV a sc (.e x)&&uW o at' as (YV c sc))
 |.and a b,sc,p=>p.Wk .And λx r=>YV a sc (.e x)&&Q4 .And r (YV b sc)
 |.or a b,sc,p=>p.Wk .Or λx r=>YV a sc (.e x)&&Q4 .Or r (YV b sc)
 |.ite t a b,sc,p=>p.Us λe=>kH e λx y z=>YV t sc (.e x)&&(YV a sc (.e y)&&YV b sc (.e z))
 |.De a b c,sc,p=>p.Us λe=>EO e λos x ys=>(v2 os λo o'=>o==.Lt&&o'==.LtE)&&v2 ys λy z=>!Zp8 .LtE z&&(YV a sc (.e x)&&(YV b sc (.e y)&&YV c sc (.e z)))
 |.attr a n,sc,p=>p.Us λe=>Mv e λat' x Y=>at'==ZU n&&(YH x&&YV a sc (.e x))
 |.call f as,sc,p=>p.Us λe=>P_ e λg args kw Y=>YA g (λY=>true)&&Wg kw (YV f sc (.e g)&&(args.all Yi&&YV as sc (.l args)))
 |.mk _ c as,sc,p=>p.Us λe=>Uu e λn args=>X5 G sc n c&&(args.all Yi&&YV as sc (.l args))
 |.SY a n as,sc,p=>p.Us λe=>OM e λat' x args=>at'==ZU n&&(YH x&&(bk args.length 20&&(args.all Yi&&(YV a sc (.e x)&&YV as sc (.l args)))))
 |.KA a cs,sc,p=>p.Us λe=>Uu e λn as=>X5 G sc n 201&&v2 as λx t=>Yi x&&(Yi t&&(YV a sc (.e x)&&(v1 cs (λk=>Yl k&&YA t λm=>X5 G sc m k)||v2 cs λj k=>Yl j&&(Yl k&&Tp t λts=>v2 ts λy z=>YA y (λm=>X5 G sc m j)&&YA z λm=>X5 G sc m k))))
 |.dict _ ks vs,sc,p=>p.Us λe=>CC e λkeys values=>R4 ks keys&&(cZ keys.length values.length&&(bk keys.length 16&&(values.all Yi&&YV vs sc (.l values))))
 |.comp _ f elt tgt it cond,sc,p=>p.Us λe=>I9 e λx gs sc'=>v1 gs λ⟨t,i,ifs,a⟩=>a==0&&(Ny nm sc' sc tgt&&(R5 nm sc' tgt t&&(Yi i&&(YV it sc (.it t i)&&(YV elt (YK sc' sc) (.e x)&&
  (match f with|false=>Wg ifs true|true=>v1 ifs λy=>YV cond (YK sc' sc) (.e y)))))))
 |.nil,_,p=>p.Rl λes=>Wg es true
 |.cons h t,sc,p=>p.Rl λes=>Ys es λx r=>Yi x&&(YV h sc (.e x)&&YV t sc (.l r))
end
structure Top(c:Cx)(G:Str->AV->Bool):Prop where
 W:Wd c
 T:W2 c
 G:∀n v,G n v=true->Qc c n v
 len:c.gv 200=.builtin "len"
 KA:c.gv 201=.builtin "isinstance"
 abs:c.gv 202=.builtin "abs"
 ord:c.gv 203=.builtin "ord"
 dict:c.gv 204=.type "dict"
 list:c.gv 205=.type "list"
 tup:c.gv 206=.type "tuple"
 int:c.gv 207=.type "int"
 ve:c.gv 209=.type "ValueError"
 De:c.gv 210=.type "range"
 zip:c.gv 211=.type "zip"
 kG:c.gv 212=.type "enumerate"
structure Ex(c:Cx)(G:Str->AV->Bool)(C:ZV)(n:Nat)(nm:List Str)(env:Env)(sc:aa):Prop where
 t:Top c G
 hC:Xh c C n
 room:Ws n c.A
 O:ZO env nm c.X
 GU:∃e0 outer L,c.l=e0::outer/\e0.frame=some L/\env.frame=some L
 sc:env.scope=sc
structure SE(c:Cx)(C:ZV)(nm:List Str)(env:Env)(x:X)(e:Expr):Prop where
 v:∀{s:cK} {U:US} {L:Loc} {E:US->Prop} {Q:fP},Inv c s U->Fr c s U env nm L->ZK C E x L Q U->xj c (Zq2 e env) (pV c Q) E s U
 b:∀{s:cK} {U:US} {L:Loc} {E:US->Prop} {Q:Bool->US->Prop},Inv c s U->Fr c s U env nm L->ZK C E x L (λv U1=>Wk v λr=>Q r U1) U->bT c.M c.A (Zd9 e env (Zq2 e env)) (Ok c s U (pB Q)) (Er c s U E) s
abbrev pN(c:Cx)(n:Nat)(Q:fP):List Value->Zz0->US->Prop:=λvs h U=>∃xs,Q (.tup xs) U/\V5 c h U xs vs/\xs.length=n
def SL(c:Cx)(C:ZV)(nm:List Str)(env:Env)(x:X)(es:List Expr):Prop:=
 ∀{pos:Pos} {s:cK} {U:US} {L:Loc} {E:US->Prop} {Q:fP},Inv c s U->Fr c s U env nm L->ZK C E x L Q U->bT c.M c.A (spliced (backTo pos (Zn7 es env))) (Ok c s U (pN c es.length Q)) (Er c s U E) s
section
variable{c:Cx}{G:Str->AV->Bool}{C:ZV}{n:Nat}{nm:List Str}{env:Env}{sc:aa}{s s₁:cK}{U Z6:US}{L:Loc}{E:US->Prop}
theorem w9(h:(!a)=true):a=false:=Zr6 _▸h
theorem I6{r:Bool}{P:Bool->Zz0->US->Prop}{Ex:Value->cK->Prop}{M:Model}{A:aC}(h:Ok c s U P r s₁):bT M A (truthy (.bool r)) (Ok c s U P) Ex s₁:=Zy3 h
theorem ZR{x:X}{e:Expr}(he:∀env whole,Zd9 e env whole=(do let v<-whole;Zr5 e.pos;Zv4 [v] (truthy v)))
 (h:∀{s:cK} {U:US} {L:Loc} {E:US->Prop} {Q:fP},Inv c s U->Fr c s U env nm L->ZK C E x L Q U->xj c (Zq2 e env) (pV c Q) E s U):SE c C nm env x e:=
 ⟨h,λI F q=>isTrue_plain (step (h I F q) λv s₁ Z6 Z J N=>eE Z λy Z=>aE Z λq e=>by
  obtain⟨r,rfl,q⟩:=UC q
  obtain rfl:=e
  exact I6 ⟨q,J,N⟩) (he env _)⟩
theorem two{a b:X}{x y:Expr}{K:AV->AV->US->Prop}{R:Value->Value->cK->Prop}(O:ZO env nm c.X)(ha:SE c C nm env a x)(hb:SE c C nm env b y)(I:Inv c s U)(F:Fr c s U env nm L)(hq:ZK C E a L (λv U1=>ZK C E b L (λw U2=>K v w U2) U1) U)
 (k:∀{va vb v w s₂ Ze},K v w Ze->En c s₂.heap Ze v va->En c s₂.heap Ze w vb->Inv c s₂ Ze->Fr c s₂ Ze env nm L->Nx c s U s₂ Ze->R va vb s₂):bT c.M c.A (Zq2 x env) (λva s₁=>bT c.M c.A (Zq2 y env) (R va) (Er c s U E) s₁) (Er c s U E) s:=
 step (ha.v I F hq) λY Y Y Z J N=>eE Z λ_ Z=>aE Z λq ea=>have F':=F.keep I O N;d_ N (step (hb.v J F' q) λY Y Y Z Yg Yw=>eE Z λ_ Z=>aE Z λq eb=>k q (ea.mono (J.vw Yw)) eb Yg (F'.keep J O Yw) (N.trans Yw))
theorem I5(O:ZO env nm c.X)(hs:env.scope=sc)(hn:(nm[i]?==some m)=true)(hk:I8 (sc.names.lookup m)=true)(hd:Xf m=true):SE c C nm env (.loc i) (.Name m pos):=
 ZR (λY Y=>rfl) λI F hq=>by
  obtain⟨v,hv,q⟩:=OT (K:=λv=>_) hq
  refine AR F O (eq_of_beq hn) hv ?_ (w9 (Z0 hd).1) (w9 (Z0 hd).2) λx e=>X9 I ⟨v,q,e⟩
  unfold Env.kindOf
  rw[hs]
  exact(b9.mp hk).elim (λhk=>(b9.mp hk).imp eq_of_beq λz=>.inl (eq_of_beq z)) λhk=>.inr (.inr (eq_of_beq hk))
theorem XM(x:Ex c G C n nm env sc)(I:Inv c s U)(h:(P8 (sc.names.lookup m)&&(Xf m&&G m v))=true)(q:∀x,En c s.heap U v x->Q x s):bT c.M c.A (Zq2 (.Name m pos) env) Q R s:=by
 refine R8 h λh1 h2 h3=>?_
 exact ME (x.t.G _ _ h3) I x.O (by unfold Env.kindOf;rw[x.sc];exact eq_of_beq h1) (w9 (Z0 h2).1) q
theorem EL(x:Ex c G C n nm env sc)(h:(P8 (sc.names.lookup m)&&(Xf m&&G m v))=true):SE c C nm env (.glob k v) (.Name m pos):=
 ZR (λY Y=>rfl) λI F hq=>XM x I h λy e=>X9 I ⟨v,hq,e⟩
theorem Q3(I:Inv c s U)(h:Yk v k=true)(q:Q v U):bT c.M c.A (Zq2 (.Constant k i pos) env) (Ok c s U (pV c Q)) R s:=by
 induction v using jV with
 |none=>exact YW h λY Y Y=>X9 I ⟨_,q,rfl⟩
 |bool b=>exact YW h λY Y Y=>X9 I ⟨_,q,rfl⟩
 |int i=>exact YW h (Zv7 (YS I ⟨_,q,_,rfl⟩))
 |str k=>exact YX h λh1 h2=>YW h2 λY Y Y=>YS (t:=s.toks+1) I ⟨_,q,Zw4.mp h1,_,rfl⟩
 |_=>exact Zv h
theorem Nv(h:Yk v k=true):SE c C nm env (.cst v) (.Constant k i pos):=ZR (λY Y=>rfl) λI Y hq=>Q3 I h hq
@[elab_as_elim]theorem P7{P:Expr->Prop}{i:Int}{e:Expr}(h:uZ i e=true)(q:∀k p,P (.Constant (.int i) k p)):P e:=Xu h λm k p h=>YW h (q k p)
theorem Mt(h:AG i v=true):v=.int i:=by
 induction v using jV with
 |int j=>exact congrArg _ (eq_of_beq h)
 |_=>exact Zv h
theorem EK{P:AV->Expr->Prop}{v:AV}{x:Expr}(h:uY v x=true)(q:∀i k p,P (.int (-i)) (.Constant (.int i) k p)):P v x:=Xu h λc k p h=>by
 cases c with
 |int i=>exact Vc (q i k p) (Mt h)
 |_=>exact Zv h
theorem AE:SE c C nm env (.cst (.int (-i))) (.UnaryOp .USub (.Constant (.int i) k p) q):=
 ZR (λY Y=>rfl) λ{s _ _ _ _} I Y hq=>cY (Zv7 (cY (bB (bJ (PySem.P.neg_int (YS (t:=s.toks+1+1) I ⟨_,hq,_,rfl⟩))))))
theorem I4:((10:Int)^((18:Int).toNat))=1000000000000000000:=by decide+kernel
theorem AD:SE c C nm env (.cst (.int 1000000000000000000)) (.BinOp (.Constant (.int 10) k p) .Pow (.Constant (.int 18) m q) r):=
 ZR (λY Y=>rfl) λ{s _ _ _ _} I Y hq=>wpAny_BinOp (Zv7 (Zv7 (pow_int (by decide) (by decide) (by rw[I4];exact YS (t:=s.toks+1+1+1) I ⟨_,hq,_,rfl⟩))))
theorem AB{v:AV}{e:Expr}(h:uX v e=true):SE c C nm env (.cst v) e:=
 (b9.mp h).elim (λh=>Xu h λk i p h=>Nv h) λh=>(b9.mp h).elim
  (λh=>ND h λo x p h=>YX h λh1 h2=>YW h1 (EK (P:=λv x=>SE c C nm env (.cst v) (.UnaryOp .USub x p)) h2 λi k q=>AE))
  λh=>Mx h λo x y p h=>CF h λh1 h3 h5 h4=>YW h1 (P7 h3 λk q=>P7 h5 λm r=>Vc AD (Mt h4))
theorem AA(ha:SE c C nm env a x):SE c C nm env (.u .not a) (.UnaryOp .Not x pos):=
 ⟨λ{s U L E Q} I F hq=>cY (step (ha.v I F hq) λv s₁ Z6 Z J N=>eE Z λy Z=>aE Z λq e=>cY (bB (bJ (not_of (by
  obtain⟨r,rfl,q⟩:=UC (K:=λb=>Q (.bool (!b)) Z6) q
  obtain rfl:=e
  exact Zy3 ⟨⟨_,q,rfl⟩,J,N⟩))))),
  λ{s U L E Q} I F hq=>isTrue_not (step (ha.b (Q:=λb U1=>Q (!b) U1) I F hq) λv s₁ Z6 q J N=>⟨q,J,N⟩)⟩
theorem Az(O:ZO env nm c.X)(ht:SE c C nm env t x)(ha:SE c C nm env a y)(hb:SE c C nm env b z):SE c C nm env (.ite t a b) (.IfExp x y z pos):=
 ⟨λ{s U L E Q} I F hq=>cY (step (ht.b (Q:=λr U1=>fF r (ZK C E a L Q U1) (ZK C E b L Q U1)) I F hq) λv s₁ Z6 q J N=>by
  have F':=F.keep I O N
  induction v using jB with
  |true=>exact fC N (ha.v J F' q)
  |false=>exact fC N (hb.v J F' q)),
  λ{s U L E Q} I F hq=>isTrue_IfExp (step (ht.b (Q:=λr U1=>fF r (ZK C E a L (λv U1=>Wk v λr=>Q r U1) U1) (ZK C E b L (λv U1=>Wk v λr=>Q r U1) U1)) I F hq) λv s₁ Z6 q J N=>by
   have F':=F.keep I O N
   induction v using jB with
   |true=>exact fC N (ha.b J F' q)
   |false=>exact fC N (hb.b J F' q))⟩
@[elab_as_elim]theorem YO{α:Type}{P:α->Prop}{a b:α}(m:P a)(h:some a=some b):P b:=cU h▸m
theorem Ay{o:BO}{op:Operator}{E:Value->cK->Prop}(I:Inv c s U)(h:rA o=some op):NO c E s U o op:=by
 induction o using jQ with
 |add=>exact YO (FD I) h
 |sub=>exact YO (FA I) h
 |mul=>exact YO (Fz I) h
 |fdiv=>exact YO (JL I) h
 |mod=>exact YO (Fy I) h
 |cat=>exact YO (Fw I) h
 |_=>exact ZE h
theorem Ax{o:BO}{op:Operator}{a b:X}{x y:Expr}{pos:Pos}(O:ZO env nm c.X)(h:rA o=some op)(ha:SE c C nm env a x)(hb:SE c C nm env b y):SE c C nm env (.b o a b) (.BinOp x op y pos):=
 ZR (λY Y=>rfl) λ{s U L E Q} I F hq=>wpAny_BinOp (two (K:=λv w U=>bA o v w Q U) O ha hb I F hq λq ea eb J Y N=>fC N (Ay J h q ea eb))
theorem Ws.eq(hr:Ws n c.A):MI c.A (EQ+1):=by
 show c.A.units+(600+1)<9900
 exact Z7 hr.units
theorem I3{o:BO}{op:CmpOp}{E:Value->cK->Prop}(T:Top c G)(hr:Ws n c.A)(I:Inv c s U)(h:rz o=some op):YM c E s U o op:=by
 have hu1:MI c.A EQ:=Nat.lt_trans (Zz1 _) hr.eq
 have Rv:c.A.units<Zh2:=cD (cR _ _) hr.eq
 induction o using jQ with
 |ieq=>exact @YO _ (YM c E s U _) _ _ (@Fv c s U E) h
 |rT=>exact @YO _ (YM c E s U _) _ _ (@Fq c s U E) h
 |KB=>exact @YO _ (YM c E s U _) _ _ (@Fp c s U E) h
 |qW=>exact @YO _ (YM c E s U _) _ _ (@Fl c s U E) h
 |rS=>exact @YO _ (YM c E s U _) _ _ (@Fo c s U E) h
 |wN=>exact @YO _ (YM c E s U _) _ _ (@Fj c s U E) h
 |seq=>exact @YO _ (YM c E s U _) _ _ (@Fg c s U E) h
 |rR=>exact @YO _ (YM c E s U _) _ _ (@Ff c s U E) h
 |geq=>exact @YO _ (YM c E s U _) _ _ (@Fd c s U E T.W T.T I hu1) h
 |xR=>exact @YO _ (YM c E s U _) _ _ (@Fb c s U E T.W T.T I hu1) h
 |emp=>exact @YO _ (YM c E s U _) _ _ (@E_ c s U E I Rv) h
 |Pz=>exact @YO _ (YM c E s U _) _ _ (@JG c s U E I Rv) h
 |is=>exact @YO _ (YM c E s U _) _ _ (@AY c s U E T.W I) h
 |GX=>exact @YO _ (YM c E s U _) _ _ (@E6 c s U E T.W I) h
 |inD=>exact @YO _ (YM c E s U _) _ _ (@E9 c s U E T.W I) h
 |LS=>exact @YO _ (YM c E s U _) _ _ (@JE c s U E T.W I) h
 |GJ=>exact @YO _ (YM c E s U _) _ _ (@E8 c s U E T.W T.T I hr.eq) h
 |GI=>exact @YO _ (YM c E s U _) _ _ (@JC c s U E T.W T.T I hr.eq) h
 |_=>exact @ZE _ _ _ h
theorem Aw{o:BO}{op:CmpOp}{a b:X}{x y:Expr}{pos:Pos}(X:Ex c G C n nm env sc)(h:rz o=some op)(hm:Zp8 op y=false)(ha:SE c C nm env a x)(hb:SE c C nm env b y):SE c C nm env (.b o a b) (.Compare x [op] [y] pos):=
 ⟨λ{s U L E Q} I F hq=>wpAny_Compare1 (two (K:=λv w U=>bA o v w Q U) X.O ha hb I F hq λq ea eb J Y N=>I3 X.t X.room J h q ea eb λr t q=>(YS J ⟨_,q,rfl⟩).trans N) hm,
  λ{s U L E Q} I F hq=>wpAny_isTrue_Compare1 (two (K:=λv w U=>bA o v w (λv U1=>Wk v λr=>Q r U1) U) X.O ha hb I F hq λq ea eb J Y N=>I3 X.t X.room J h q ea eb λr t q=>Zy3 ((YS J q).trans N)) hm⟩
theorem RZ(hc:YH x=true)(env:Env):attributeBase x at' env (Zq2 x env)=Zq2 x env:=by
 induction x using jE with
 |Call f as kw p=>
  induction f using jE with
  |Name id np=>
   induction as using jL with
   |cons a as=>rfl
   |nil=>
    induction kw using jL with
    |cons a as=>rfl
    |nil=>
     have h:(!(true&&(true&&(id==("super":Str)))))=true:=hc
     have h:(id==("super":Str))=false:=by revert h;induction id==("super":Str)using jB<;>decide
     exact if_pos (by show(!(id==("super":Str))||_||_||_)=true;rw[h];rfl)
  |_=>rfl
 |_=>rfl
theorem EJ(W:Wd c)(hc:YH x=true)(ha:SE c C nm env a x):SE c C nm env (.attr a m) (.Attribute x (ZU m) pos):=
 ZR (λY Y=>rfl) λ{s U L E Q} I F hq=>Attribute_any_ (step (ha.v I F hq) λva s₁ Z6 Z J N=>eE Z λv Z=>aE Z λq ea=>fC N (JQ W J q ea)) (by
  show(do
   let o<-attributeBase x (ZU m) env (Zq2 x env)
   Zr5 pos.atName
   let r<-Zv4 [o] (getAttr o (ZU m) true)
   letTemporaryGo x o r
   pure r)=_
  rw[RZ hc])
theorem WB:SL c C nm env .nil []:=λI Y hq=>spliced_nil (X9 I ⟨[],hq,rfl,rfl⟩)
theorem Ur(h:Yi e=true)(r:List Expr):Zn7 (e::r) env=(false,Zq2 e env)::Zn7 r env:=by induction e using jE<;>first|rfl|exact Zv h
theorem XO(O:ZO env nm c.X)(hs:Yi e=true)(hh:SE c C nm env h e)(ht:SL c C nm env t r):SL c C nm env (.cons h t) (e::r):=λ{pos s U L E Q} I F hq=>by
 rw[Ur hs]
 show bT _ _ (spliced ((false,Zq2 e env)::backTo pos (Zn7 r env))) _ _ _
 refine Zn6 (step (hh.v I F hq) λva s₁ Z6 Z J N=>eE Z λv Z=>aE Z λq ea=>d_ N (step (ht J (F.keep I O N) q) λvs s₂ Ze Z Yg Yw=>eE Z λxs Z=>aE Z λq Z=>aE Z λl e=>⟨⟨_,q,.cons (ea.mono (J.vw Yw)) l,congrArg (·+1) e⟩,Yg,N.trans Yw⟩))
end
section
variable{c:Cx}{G:Str->AV->Bool}{C:ZV}{n:Nat}{nm:List Str}{env:Env}{sc:aa}{s s₁:cK}{U Z6:US}{L:Loc}{E:US->Prop}
theorem Q1(h:bk n 64=true)(e:k=n):k<=LN:=e▸c7 (Zz7 (Zw4.mp h)) (cL rfl)
theorem uV(h:SL c C nm env es l')(hl:bk l'.length 64=true):SE c C nm env (.u .dL es) (.List l' pos):=
 ZR (λY Y=>rfl) λI F hq=>cY (bB (cY (step (h (pos:=pos) I F hq) λvs s₁ Z6 Z J N=>
  eE Z λxs Z=>aE Z λq Z=>aE Z λl e=>wpAny_newList ((T8 (n:=0) J (Q1 hl e) q l Y0 ZF Zz (bR _ rfl)).trans N) (Zm (Q1 hl (l.len.trans e))))))
theorem uU(h:SL c C nm env es l')(hl:bk l'.length 64=true):SE c C nm env (.u .dM es) (.List l' pos):=
 ZR (λY Y=>rfl) λI F hq=>cY (bB (cY (step (h (pos:=pos) I F hq) λvs s₁ Z6 Z J N=>
  eE Z λxs Z=>aE Z λq Z=>aE Z λl e=>wpAny_newList ((JM (n:=0) J (Q1 hl e) q l Y0 ZF Zz (bR _ rfl)).trans N) (Zm (Q1 hl (l.len.trans e))))))
theorem CB(h:SL c C nm env es l')(hl:bk l'.length 64=true):SE c C nm env (.u .dT es) (.Tuple l' k pos):=
 ZR (λY Y=>rfl) λI F hq=>cY (bB (cY (step (h (pos:=pos) I F hq) λvs s₁ Z6 Z J N=>
  eE Z λxs Z=>aE Z λq Z=>aE Z λl e=>wpAny_newTuple ((JN (n:=0) J (Q1 hl e) q l Y0 ZF Zz (bR _ rfl)).trans N) (Zm (Q1 hl (l.len.trans e))))))
theorem Nu(h:NC e=true)(env:Env)(whole:Sem Value):Zd9 e env whole=(do let v<-whole;Zr5 e.pos;Zv4 [v] (truthy v)):=by induction e using jE<;>first|rfl|exact Zv h
theorem Av(he:NC e=true)(h:SE c C nm env a e):SE c C nm env (.u .M6 a) e:=
 ZR (Nu he) λI F hq=>step (h.v I F hq) λv s₁ Z6 Z J N=>eE Z λx Z=>aE Z λq e=>(My q J e).trans N
structure SB(c:Cx)(C:ZV)(nm:List Str)(env:Env)(x:X)(o:PySem.BoolOp)(es:List Expr):Prop where
 ne:es≠[]
 v:∀{pos:Pos} {s:cK} {U:US} {L:Loc} {E:US->Prop} {Q:fP},Inv c s U->Fr c s U env nm L->ZK C E x L Q U->xj c (boolOp pos o (Zh6 es env)) (pV c Q) E s U
 b:∀{s:cK} {U:US} {L:Loc} {E:US->Prop} {Q:Bool->US->Prop},Inv c s U->Fr c s U env nm L->ZK C E x L (λv U1=>Wk v λr=>Q r U1) U->xj c (allTrue o es env) (pB Q) E s U
theorem Au(hb:SE c C nm env b y):SB c C nm env b o [y]:=by
 refine⟨Zu1 _ _,λI F hq=>hb.v I F hq,λ{s U L E Q} I F hq=>?_⟩
 show bT _ _ (do match o,<-Zd9 y env (Zq2 y env)with
  |.And,false=>pure false
  |.Or,true=>pure true
  |_,_=>allTrue o [] env) _ _ _
 refine cY (step (hb.b (Q:=Q) I F hq) λv s₁ Z6 q J N=>?_)
 cases o<;>induction v using jB<;>exact b7 ⟨q,J,N⟩
theorem EI(h:Q4 o r (YV G nm' b sc)=true)(h1:∀e,YV G nm' b sc (.e e)=true->SE c C nm env b e)(h2:∀es,YV G nm' b sc (.bo o es)=true->SB c C nm env b o es):SB c C nm env b o r:=by
 exact(b9.mp h).elim (λh=>Ye h λy h0=>Au (h1 y h0)) λh=>h2 r (Z0 h).2
theorem RY(pos:Pos)(op:PySem.BoolOp)(x y:Sem Value)(r:List (Sem Value)):boolOp pos op (x::y::r)=(do
 let v<-x
 Zr5 pos
 let t<-Zv4 [v] (truthy v)
 match op,t with
 |.And,false|.Or,true=>pure v
 |_,_=>boolOp pos op (y::r)):=rfl
theorem Ar(O:ZO env nm c.X)(ha:SE c C nm env a x)(hb:SB c C nm env b .And r):SB c C nm env (.and a b) .And (x::r):=by
 obtain⟨y,r,rfl⟩:=Zo4 hb.ne
 refine⟨Zu1 _ _,λ{pos s U L E Q} I F hq=>?_,λ{s U L E Q} I F hq=>?_⟩
 ·show bT _ _ (boolOp pos .And (Zq2 x env::Zq2 y env::Zh6 r env)) _ _ _
  rw[RY]
  refine cY (step (ha.v I F hq) λv s₁ Z6 Z J N=>eE Z λw Z=>aE Z λq e=>cY (bB (cY (bJ ?_))))
  obtain⟨t,rfl,q⟩:=UC (K:=λr=>fF r (ZK C E b L Q Z6) (Q (.bool false) Z6)) q
  obtain rfl:=e
  refine Zy3 ?_
  induction t using jB with
  |true=>exact fC N (hb.v J (F.keep I O N) q)
  |false=>exact b7 ⟨⟨_,q,rfl⟩,J,N⟩
 ·show bT _ _ (do match PySem.BoolOp.And,<-Zd9 x env (Zq2 x env)with
   |.And,false=>pure false
   |.Or,true=>pure true
   |_,_=>allTrue .And (y::r) env) _ _ _
  refine cY (step (ha.b (Q:=λr U1=>fF r (ZK C E b L (λv U1=>Wk v λr=>Q r U1) U1) (Q false U1)) I F hq) λt s₁ Z6 q J N=>?_)
  induction t using jB with
  |true=>exact fC N (hb.b J (F.keep I O N) q)
  |false=>exact b7 ⟨q,J,N⟩
theorem uT(O:ZO env nm c.X)(ha:SE c C nm env a x)(hb:SB c C nm env b .Or r):SB c C nm env (.or a b) .Or (x::r):=by
 obtain⟨y,r,rfl⟩:=Zo4 hb.ne
 refine⟨Zu1 _ _,λ{pos s U L E Q} I F hq=>?_,λ{s U L E Q} I F hq=>?_⟩
 ·show bT _ _ (boolOp pos .Or (Zq2 x env::Zq2 y env::Zh6 r env)) _ _ _
  rw[RY]
  refine cY (step (ha.v I F hq) λv s₁ Z6 Z J N=>eE Z λw Z=>aE Z λq e=>cY (bB (cY (bJ ?_))))
  obtain⟨t,rfl,q⟩:=UC (K:=λr=>fF r (Q (.bool true) Z6) (ZK C E b L Q Z6)) q
  obtain rfl:=e
  refine Zy3 ?_
  induction t using jB with
  |false=>exact fC N (hb.v J (F.keep I O N) q)
  |true=>exact b7 ⟨⟨_,q,rfl⟩,J,N⟩
 ·show bT _ _ (do match PySem.BoolOp.Or,<-Zd9 x env (Zq2 x env)with
   |.And,false=>pure false
   |.Or,true=>pure true
   |_,_=>allTrue .Or (y::r) env) _ _ _
  refine cY (step (ha.b (Q:=λr U1=>fF r (Q true U1) (ZK C E b L (λv U1=>Wk v λr=>Q r U1) U1)) I F hq) λt s₁ Z6 q J N=>?_)
  induction t using jB with
  |false=>exact fC N (hb.b J (F.keep I O N) q)
  |true=>exact b7 ⟨q,J,N⟩
theorem uS(h:SB c C nm env a o es):SE c C nm env a (.BoolOp o es pos):=⟨λI F q=>h.v I F q,λI F q=>h.b I F q⟩
theorem Aq(X:Ex c G C n nm env sc)(hm:Zp8 .LtE z=false)(ha:SE c C nm env a x)(hb:SE c C nm env b y)(hd:SE c C nm env d z):SE c C nm env (.De a b d) (.Compare x [.Lt,.LtE] [y,z] pos):=by
 have mk:markedEach [.Lt,.LtE] [y,z] (Zh6 [y,z] env)=[Zq2 y env,Zq2 z env]:=by
  show[Zq2 y env,markedBehindIn .LtE z (Zq2 z env)]=_
  rw[markedBehindIn_of_false hm]
 have first:∀{α:Type} {s:cK} {U:US} {L:Loc} {E:US->Prop} {K:Int->fP} {Q:US->Prop} {R:α->Zz0->US->Prop} {m:Value->Value->Bool->Sem α},Inv c s U->Fr c s U env nm L->
  ZK C E a L (λv U1=>ZK C E b L (λw U2=>ii v w λx y=>fF (fh x y) (ZK C E d L (K y) U2) (Q U2)) U1) U->
  (∀{i t r s₁ Z6},Inv c s₁ Z6->Fr c s₁ Z6 env nm L->fF r (ZK C E d L (K i) Z6) (Q Z6)->bT c.M c.A (m (.int i t) (.bool r) r) (Ok c s₁ Z6 R) (Er c s₁ Z6 E) s₁)->
  bT c.M c.A (do
   let va<-Zq2 x env
   let rv<-Zv4 [va] (Zq2 y env)
   Zr5 pos
   let c<-Zv4 [va,rv] (Zj0 .Lt va rv)
   release [va,rv] [c]
   m rv c (<-Zv4 [c,rv] (truthy c))) (Ok c s U R) (Er c s U E) s:=λ{α s U L E K Q R m} I F hq k=>
  cY (bO (two (K:=λv w U2=>ii v w λx y=>fF (fh x y) (ZK C E d L (K y) U2) (Q U2)) (R:=λva rv s'=>bT c.M c.A (do
   Zr5 pos
   let c<-Zv4 [va,rv] (Zj0 .Lt va rv)
   release [va,rv] [c]
   m rv c (<-Zv4 [c,rv] (truthy c))) (Ok c s U R) (Er c s U E) s') X.O ha hb I F hq λ{va vb v w s₂ Ze} q ea eb J Vy N=>by
   refine hG ?_;intro PP
   obtain⟨i,j,t,u,rfl,rfl,q⟩:=XE q ea eb
   rw[S6]at q
   exact cY (bB (cY (bJ (PySem.P.lt_int (cY (wpAny_release (cY (bJ (Zy3 (fC N (k J Vy q)))))))))))) (λva s₁ z=>cY (bJ z)) λY Y z=>z)
 have last:∀{s:cK} {U:US} {L:Loc} {E:US->Prop} {α:Type} {R:α->Zz0->US->Prop} {m:Value->Sem α} {i:Int} {t:Tok} {K:Bool->US->Prop},Inv c s U->Fr c s U env nm L->ZK C E d L (λu U3=>Vz u λk=>K (!fh k i) U3) U->
  (∀{r s' U'},Inv c s' U'->K r U'->bT c.M c.A (m (.bool r)) (Ok c s' U' R) (Er c s' U' E) s')->bT c.M c.A (do
   let rv<-Zv4 [.int i t] (Zq2 z env)
   Zr5 pos
   let x<-operate [.int i t,rv] (Zj0 .LtE (.int i t) rv)
   m x) (Ok c s U R) (Er c s U E) s:=λ{s U L E α R m i t K} I F hq k=>by
  refine cY (bJ (step (hd.v I F hq) λvz s₁ Z6 Z J N=>eE Z λu Z=>aE Z λq e=>cY (bB (cY (wpAny_operating ?_)))))
  refine hG ?_;intro PP
  obtain⟨j,rfl,q'⟩:=Yx (K:=λk=>K (!fh k i) Z6) q
  obtain⟨t',rfl⟩:=e
  rw[AZ]at q'
  exact PySem.P.le_int (fC N (k J q'))
 refine⟨λ{s U L E Q} I F hq=>?_,λ{s U L E Q} I F hq=>?_⟩
 ·show bT _ _ (do compareChain pos (<-Zq2 x env) [.Lt,.LtE] (markedEach [.Lt,.LtE] [y,z] (Zh6 [y,z] env))) _ _ _
  rw[mk]
  refine first (K:=λy u U3=>Vz u λz=>Q (.bool (!fh z y)) U3) (Q:=λU2=>Q (.bool false) U2) (m:=λrv c r=>if r then compareChain pos rv [.LtE] [Zq2 z env]else pure c) I F hq λ{i t r s₁ Z6} J F₁ q=>?_
  induction r using jB with
  |false=>exact b7 (X9 J ⟨_,q,rfl⟩)
  |true=>
   have:=last (m:=pure) (t:=t) (R:=pV c Q) (K:=λr U3=>Q (.bool r) U3) J F₁ q λJ q=>b7 (X9 J ⟨_,q,rfl⟩)
   simp only[bind_pure]at this
   exact this
 ·show bT _ _ (do testChain pos (<-Zq2 x env) [.Lt,.LtE] (markedEach [.Lt,.LtE] [y,z] (Zh6 [y,z] env))) _ _ _
  rw[mk]
  refine first (K:=λy u U3=>Vz u λz=>Wk (.bool (!fh z y)) λr=>Q r U3) (Q:=λU2=>Q false U2) (m:=λrv Y r=>if r then testChain pos rv [.LtE] [Zq2 z env]else pure false) I F hq λ{i t r s₁ Z6} J F₁ q=>?_
  induction r using jB with
  |false=>exact b7 (X9 J q)
  |true=>exact last (m:=λc=>Zv4 [c] (truthy c)) (R:=pB Q) (K:=Q) J F₁ q λJ q=>bJ (Zy3 (X9 J q))
end
section
variable{M:Model}{A:aC}{E:Value->cK->Prop}{s:cK}
theorem WA{f:Value}{args:List (Bool×Sem Value)}{Q:Args->cK->Prop}(hp:args.any (·.1)=false)(h:bT M A (spliced args) (λvs s'=>Q ⟨vs,[]⟩ s') E s):
 bT M A (evalArgs f true args []) Q E s:=by
 induction args using jL with
 |nil=>
  unfold evalArgs
  show bT M A (spliced []>>=_) Q E s
  exact cY (bO h (λvs s' h'=>cY (b7 (bJ (cY (b7 (cY (b7 (b7 h')))))))) λY Y x=>x)
 |cons a r=>
  obtain⟨b,x⟩:=a
  induction b using jB with
  |true=>exact Wf hp
  |false=>exact evalArgs_plain h
end
section
variable{c:Cx}{G:Str->AV->Bool}{C:ZV}{n:Nat}{nm:List Str}{env:Env}{sc:aa}{s s₁:cK}{U Z6:US}{L:Loc}{E:US->Prop}
theorem XK{pos:Pos}:∀{args:List Expr},args.all Yi=true->(backTo pos (Zn7 args env)).any (·.1)=false/\(backTo pos (Zn7 args env)).all (!·.1)=true
 |[],_=>⟨rfl,rfl⟩
 |e::r,h=>by
  have h:=Z0 (a:=Yi e) (b:=r.all Yi) h
  have z:=XK (pos:=pos) h.2
  rw[Ur h.1]
  exact⟨(Bool.false_or _).trans z.1,(Bool.true_and _).trans z.2⟩
theorem T6{f:Value}{first:List Value}{args:List Expr}{as:X}{pos:Pos}{Q:fP}{P:Value->Zz0->US->Prop}(hs:args.all Yi=true)(ha:SL c C nm env as args)(I:Inv c s U)(F:Fr c s U env nm L)(hq:ZK C E as L Q U)
 (k:∀{vs xs s₁ Z6},Q (.tup xs) Z6->V5 c s₁.heap Z6 xs vs->xs.length=args.length->Inv c s₁ Z6->Nx c s U s₁ Z6->MA c s₁.heap f/\bT c.M c.A (call f (first++vs)) (Ok c s₁ Z6 P) (Er c s₁ Z6 E) s₁):
 bT c.M c.A (callWith pos f first (backTo pos (Zn7 args env)) []) (Ok c s U P) (Er c s U E) s:=
 callWith_of (P:=λh=>MA c h f) (by rw[(XK hs).1];rfl) (λY z=>z) (WA (XK hs).1 (step (ha I F hq) λvs s₁ Z6 Z J N=>eE Z λxs Z=>aE Z λq Z=>aE Z λl e=>aE (k q l e J N) λz1 z2=>⟨z1,fC N z2⟩))
theorem Q0{id:String}{h:Zz0}:MA c h (.builtin id):=⟨.machine,.inr (.inl rfl),Ze8 rfl⟩
theorem CA{id:String}{h:Zz0}:MA c h (.type id):=⟨.machine,.inr (.inl rfl),Ze8 rfl⟩
theorem OL{k:Nat}{m:Str}{np pos:Pos}{args:List Expr}{as:X}{Q:fP}{P:Value->Zz0->US->Prop}(x:Ex c G C n nm env sc)(h:X5 G sc m k=true)(hs:args.all Yi=true)(ha:SL c C nm env as args)(I:Inv c s U)(F:Fr c s U env nm L)(hq:ZK C E as L Q U)
 (k:∀{vs xs s₁ Z6},Q (.tup xs) Z6->V5 c s₁.heap Z6 xs vs->xs.length=args.length->Inv c s₁ Z6->MA c s₁.heap (c.gv k)/\bT c.M c.A (call (c.gv k) vs) (Ok c s₁ Z6 P) (Er c s₁ Z6 E) s₁):
 bT c.M c.A (Zq2 (.Call (.Name m np) args [] pos) env) (Ok c s U P) (Er c s U E) s:=
 cY (XM x I h λy e=>by obtain rfl:=e;exact T6 (first:=[]) hs ha I F hq λq l e J Y=>k q l e J)
theorem EH{o:UO}{id:String}{v:Value}{E:Value->cK->Prop}(e:v=.builtin id)(h:W7 c E s U o (.builtin id)):MA c s.heap v/\W7 c E s U o v:=Vc ⟨Q0,h⟩ e
theorem I0{o:UO}{id:String}{v:Value}{E:Value->cK->Prop}(e:v=.type id)(h:W7 c E s U o (.type id)):MA c s.heap v/\W7 c E s U o v:=Vc ⟨CA,h⟩ e
theorem IZ{o:UO}{k:Nat}{E:Value->cK->Prop}(T:Top c G)(hA:c.A.handled=none)(I:Inv c s U)(h:EN o=some k):MA c s.heap (c.gv k)/\W7 c E s U o (c.gv k):=by
 induction o using jU with
 |GK=>exact YO (EH T.len (@Jv c s U E I)) h
 |KC=>exact YO (EH T.len (@Ju c s U E T.W I)) h
 |abs=>exact YO (EH T.abs (@E3 c s U E I)) h
 |ord=>exact YO (EH T.ord (@E1 c s U E I)) h
 |M7=>exact YO (I0 T.dict (@Lj c s U E T.W I)) h
 |Va=>exact YO (I0 T.dict (@Le c s U E I hA)) h
 |list=>exact YO (I0 T.list (@Jt c s U E I)) h
 |tuple=>exact YO (I0 T.tup (@Lk c s U E I)) h
 |int=>exact YO (I0 T.int (@E0 c s U E I)) h
 |_=>exact ZE h
theorem VH{x:Expr}(h:Yi x=true):[x].all Yi=true:=by rw[Zl1,h];rfl
theorem QZ{α:Type}{xs:List α}(h:xs.length=1):∃x,xs=[x]:=by
 induction xs using jL with
 |nil=>cases h
 |cons x r=>induction r using jL with
  |nil=>exact⟨x,rfl⟩
  |cons y r=>cases h
theorem IY{α:Type}{xs:List α}(h:xs.length=2):∃x y,xs=[x,y]:=by
 induction xs using jL with
 |nil=>cases h
 |cons x r=>obtain⟨y,rfl⟩:=QZ (Zq9 h);exact⟨x,y,rfl⟩
theorem IX{o:UO}{k:Nat}{a:X}{m:Str}{np pos:Pos}{x:Expr}(X:Ex c G C n nm env sc)(ho:EN o=some k)(h:X5 G sc m k=true)(hx:Yi x=true)(ha:SE c C nm env a x):SE c C nm env (.u o a) (.Call (.Name m np) [x] [] pos):=
 ZR (λY Y=>rfl) λ{s U L E Q} I F hq=>OL X h (VH hx) (XO X.O hx ha WB) (Q:=λv U1=>Wj v λvs=>eN vs 0 λv=>uA o v Q U1) I F hq λ{vs xs s₁ Z6} q l e J=>by
  refine hG ?_;intro PP
  obtain⟨x,rfl⟩:=QZ e
  obtain⟨v,_,rfl,ev,rfl⟩:=l
  obtain⟨z1,z2⟩:=IZ X.t X.room.handled J ho
  exact⟨z1,z2 q ev⟩
theorem EG{f as:X}{m:Str}{np pos:Pos}{args:List Expr}(X:Ex c G C n nm env sc)(hs:args.all Yi=true)(hf:SE c C nm env f (.Name m np))(ha:SL c C nm env as args):SE c C nm env (.call f as) (.Call (.Name m np) args [] pos):=
 ZR (λY Y=>rfl) λ{s U L E Q} I F hq=>cY (step (hf.v I F hq) λfv s₁ Z6 Z J N=>eE Z λf' Z=>aE Z λq ef=>fC N (T6 (first:=[]) (Q:=λvs U2=>Wj vs λvs=>Rk C f' vs Q E U2) hs ha J (F.keep I X.O N) q λq l Y Yg Yw=>Q5 X.hC X.t.W X.room Yg q (ef.mono (J.vw Yw)) l))
theorem uR{i k:Nat}{as:X}{m:Str}{np pos:Pos}{args:List Expr}(X:Ex c G C n nm env sc)(h:X5 G sc m k=true)(hs:args.all Yi=true)(ha:SL c C nm env as args):SE c C nm env (.mk i k as) (.Call (.Name m np) args [] pos):=
 ZR (λY Y=>rfl) λ{s U L E Q} I F hq=>OL X h hs ha (Q:=λvs U2=>Wj vs λvs=>RA C k vs Q E U2) I F hq λq l Y J=>AL X.hC X.t.W X.room J q l
inductive uQ(c:Cx)(cs:List Nat)(tv:Value)(h:Zz0):Prop
 |one {k}:cs=[k]->Yl k=true->tv=c.gv k->uQ c cs tv h
 |two {j k tp n}:cs=[j,k]->Yl j=true->Yl k=true->tv=.ref tp->h.get? tp=some (Xe "tuple" [c.gv j,c.gv k] n)->uQ c cs tv h
theorem EF{cs:List Nat}{t:Expr}{R:Value->cK->Prop}{E:Value->cK->Prop}(X:Ex c G C n nm env sc)
 (h:(v1 cs (λk=>Yl k&&YA t λm=>X5 G sc m k)||v2 cs λj k=>Yl j&&(Yl k&&Tp t λts=>v2 ts λy z=>YA y (λm=>X5 G sc m j)&&YA z λm=>X5 G sc m k))=true)
 (I:Inv c s U) (k:∀{tv s'},uQ c cs tv s'.heap->Inv c s' U->Nx c s U s' U->R tv s'):bT c.M c.A (Zq2 t env) R E s:=by
 refine(b9.mp h).elim (λh=>Ye (P:=λcs=>(∀{tv s'},uQ c cs tv s'.heap->Inv c s' U->Nx c s U s' U->R tv s')->bT c.M c.A (Zq2 t env) R E s) h (λj h k=>YX h λh1 h2=>YZ h2 λm p h3=>XM X I h3 λy e=>k (.one rfl h1 e) I .refl) k)
  λh=>V3 (P:=λcs=>(∀{tv s'},uQ c cs tv s'.heap->Inv c s' U->Nx c s U s' U->R tv s')->bT c.M c.A (Zq2 t env) R E s) h (λi j h k=>R8 h λh1 h2 h3=>W5 h3 λts q p h=>V3 h λy z h=>YX h λh5 h6=>YZ h5 λm p1 h7=>YZ h6 λm' p2 h8=>cY (bB (cY
   (Zn6 (XM X I h7 λa ea=>Zn6 (XM X I h8 λb eb=>spliced_nil ?_)))))) k
 refine wpAny_newTuple ?_ (Zm (n:=2) (by decide))
 have g:=I.grow (s':={s with heap:=s.heap.push (Xe "tuple" [a,b] 0)}) Y0 ZF
 exact k (.two rfl h1 h2 rfl (by rw[<-show a=c.gv i from ea,<-show b=c.gv j from eb];exact bR _ rfl)) g.1 g.2
theorem Ao{a:X}{m:Str}{np pos:Pos}{x t:Expr}{cs:List Nat}(X:Ex c G C n nm env sc)(h:X5 G sc m 201=true)(hx:Yi x=true)(ht:Yi t=true)(ha:SE c C nm env a x)
 (hc:(v1 cs (λk=>Yl k&&YA t λm=>X5 G sc m k)||v2 cs λj k=>Yl j&&(Yl k&&Tp t λts=>v2 ts λy z=>YA y (λm=>X5 G sc m j)&&YA z λm=>X5 G sc m k))=true):SE c C nm env (.KA a cs) (.Call (.Name m np) [x,t] [] pos):=by
 refine ZR (λY Y=>rfl) λ{s U L E Q} I F hq=>cY (XM X I h λy e=>?_)
 obtain rfl:=e
 rw[X.t.KA]
 have hs:[x,t].all Yi=true:=by rw[Zl1,hx];exact VH ht
 refine callWith_of (P:=λh=>MA c h (.builtin "isinstance")) (by rw[(XK hs).1];rfl) (λY z=>z) (WA (XK hs).1 ?_)
 rw[Ur hx,Ur ht]
 refine Zn6 (step (ha.v I F hq) λva s₁ Z6 Z J N=>eE Z λv Z=>aE Z λq ea=>?_)
 refine Zn6 (EF X hc J λ{tv s'} T J' N'=>spliced_nil ⟨Q0,fC (N.trans N') ?_⟩)
 have ea:=ea.mono (J.vw N')
 cases T with
 |one e1 e2 e3=>subst e1;subst e3;exact Jr X.t.W J' e2 q ea
 |two e1 e2 e3 e4 e5=>subst e1;subst e4;exact Jq X.t.W J' e2 e3 q ea e5
theorem V2{a as:X}{at':Str}{x:Expr}{args:List Expr}{apos pos:Pos}{K:AV->US->Prop}{P:Value->Zz0->US->Prop}(O:ZO env nm c.X)(hc:YH x=true)(hp:apos.endLine=pos.line)(hlen:bk args.length 20=true)(hs:args.all Yi=true)
 (ha:SE c C nm env a x) (has:SL c C nm env as args) (I:Inv c s U) (F:Fr c s U env nm L) (hq:ZK C E a L K U)
 (k:∀{v va s₁ Z6},K v Z6->En c s₁.heap Z6 v va->Inv c s₁ Z6->∃f Q',(∀{pl:Sem Bool} {R:Value×List Value->cK->Prop} {E:Value->cK->Prop},R (f,[va]) s₁->bT c.M c.A (getMethod va at' pl) R E s₁)/\ZK C E as L Q' Z6/\
  ∀{vs xs s₂ Ze},Q' (.tup xs) Ze->En c s₂.heap Ze v va->V5 c s₂.heap Ze xs vs->xs.length=args.length->Inv c s₂ Ze->MA c s₂.heap f/\bT c.M c.A (call f (va::vs)) (Ok c s₂ Ze P) (Er c s₂ Ze E) s₂):
 bT c.M c.A (Zq2 (.Call (.Attribute x at' apos) args [] pos) env) (Ok c s U P) (Er c s U E) s:=by
 rw[arm_eval_Call,RZ hc]
 refine cY (step (ha.v I F hq) λva s₁ Z6 Z J N=>eE Z λv Z=>aE Z λq ea=>cY (bB ?_))
 have few:methodCallForm (args.length+Zp1 (α:=Keyword) []) (backTo pos (Zn7 args env)) (backToKw pos (keywordEach [] env))=true:=by
  unfold methodCallForm
  rw[(XK hs).2]
  show(true&&true&&decide (args.length+0+0<30))=true
  rw[decide_eq_true (by have:=Zw4.mp hlen;exact aM this)];rfl
 have mp:methodCallPos true x env apos pos=pure pos:=by unfold methodCallPos;rw[hp,beq_self_eq_true];rfl
 unfold methodCall
 rw[few,mp]
 refine hG ?_;intro PP
 obtain⟨f,Q',g,q',k⟩:=k q ea J
 show bT _ _ (do
  let(f,first)<-Zv4 [va] (getMethod va at' _)
  callWith pos f first (backTo pos (Zn7 args env)) []) _ _ _
 exact cY (bJ (g (fC N (T6 (first:=[va]) hs has J (F.keep I O N) q' λq l e Yg Yw=>k q (ea.mono (J.vw Yw)) l e Yg))))
theorem ED{a as:X}{m:Nat}{x:Expr}{args:List Expr}{apos pos:Pos}(X:Ex c G C n nm env sc)(hc:YH x=true)(hp:apos.endLine=pos.line)(hlen:bk args.length 20=true)(hs:args.all Yi=true)
 (ha:SE c C nm env a x) (has:SL c C nm env as args):SE c C nm env (.SY a m as) (.Call (.Attribute x (ZU m) apos) args [] pos):=
 ZR (λY Y=>rfl) λ{s U L E Q} I F hq=>V2 X.O hc hp hlen hs ha has I F hq λ{v va s₁ Z6} q ea J=>by
  refine hG ?_;intro PP
  obtain⟨k,fa,q,hk,g⟩:=FF X.t.W J q ea
  refine⟨_,λvs U2=>Wj vs λvs=>C k (v::vs) Q E U2,g,q,λq ea l Y Yg=>?_⟩
  refine hG ?_;intro PP
  obtain⟨f',e1,e2,e3⟩:=Xh.now X.hC q X.room.room Yg (.cons ea l)
  rw[hk]at e1;cases e1
  exact⟨Q6 (X.t.W.CS Yg.Yr) e2,Zm3 e3⟩
theorem eX{a:Ad}{xs:List AV}(I:Inv c s U)(h:U a=some (.list xs)):∀b,Zq6 a=.ref b->∃o,s.heap.get? b=some o/\o.dict=none:=λb e=>by cases e;cases Vs I h with|mk ho _ _=>exact⟨_,ho,rfl⟩
theorem P6{a:Ad}{xs:List AV}(I:Inv c s U)(h:U a=some (.list xs)):s.TypeIs (.ref a) "list":=by cases Vs I h with|mk ho _ _=>exact⟨_,ho,rfl⟩
theorem IW{o:BO}{a d:X}{at':Str}{id:String}{x y:Expr}{apos pos:Pos}(O:ZO env nm c.X)(hc:YH x=true)(hp:apos.endLine=pos.line)(sl:Slot "list" at' id)(ty:typeOf (.builtin id)=pure (.type "method_descriptor"))(hy:Yi y=true)
 (pre:∀{v:AV} {U:US} {x:Prop},vZ o v U x->∃a,v=.ref a/\∃xs,U a=some (.list xs)/\x)
 (sm:∀{s:cK} {U:US} {a:Ad} {w:AV} {vw:Value} {Q:fP} {E:Value->cK->Prop},Inv c s U->bA o (.ref a) w Q U->En c s.heap U w vw->bT c.M c.A (call (.builtin id) [.ref a,vw]) (Ok c s U (pV c Q)) E s)
 (ha:SE c C nm env a x) (hd:SE c C nm env d y):SE c C nm env (.lm o a d) (.Call (.Attribute x at' apos) [y] [] pos):=
 ZR (λY Y=>rfl) λ{s U L E Q} I F hq=>V2 O hc hp (by rfl) (VH hy) ha (XO O hy hd WB) I F hq λ{v va s₁ Z6} q ea J=>by
  refine hG ?_;intro PP
  obtain⟨r,rfl,xs,hr,q⟩:=pre q
  obtain rfl:=ea
  refine⟨.builtin id,λvs U2=>Wj vs λvs=>eN vs 0 λw=>bA o (.ref r) w Q U2,λq=>Zr4 (P6 J hr) PySem.F.plainAttrs_list sl ty (eX J hr) q,q,λ{vs xs s₂ Ze} q Y l e Yg=>?_⟩
  refine hG ?_;intro PP
  obtain⟨w,rfl⟩:=QZ e
  obtain⟨vw,_,rfl,ew,rfl⟩:=l
  exact⟨Q0,sm Yg q ew⟩
theorem uP{v:AV}{U:US}{x:Prop}(h:SQ v λa=>oL (U a) λY=>x):∃a,v=.ref a/\∃xs,U a=some (.list xs)/\x:=eE (Y6 h) λa Z=>aE Z λe h=>eE (WE h) λxs Z=>aE Z λe' h=>⟨a,e,xs,e',h⟩
theorem An{a d:X}{x:Expr}{args:List Expr}{apos pos:Pos}(W:Wd c)(O:ZO env nm c.X)(hc:YH x=true)(hp:apos.endLine=pos.line)(h2:args.length=2)(hs:args.all Yi=true)(ha:SE c C nm env a x)(hd:SL c C nm env d args):
 SE c C nm env (.lm .get a d) (.Call (.Attribute x ("get":Str) apos) args [] pos):=
 ZR (λY Y=>rfl) λ{s U L E Q} I F hq=>V2 O hc hp (by rw[h2];rfl) hs ha hd I F hq λ{v va s₁ Z6} q ea J=>by
  refine hG ?_;intro PP
  obtain⟨r,rfl,q⟩:=Y6 (K:=λa=>LH (Z6 a) λY=>ZK C E d L (λw U2=>bA .get v w Q U2) Z6) q
  obtain⟨es,hr,q⟩:=WD q
  obtain rfl:=ea
  cases Sh J hr with|mk hk _ _ _=>
  refine⟨.builtin "dict.get",_,λq=>Zr4 hk.typeIs PySem.F.plainAttrs_dict PySem.F.slot_dict_get PySem.F.type_dict_get hk.mapOf.noDict q,q,λ{vs xs s₂ Ze} q Y l e Yg=>?_⟩
  refine hG ?_;intro PP
  obtain⟨k,w,rfl⟩:=IY (e.trans h2)
  obtain⟨vk,_,rfl,ek,vd,_,rfl,ed,rfl⟩:=l
  exact⟨Q0,EY W Yg q ek ed⟩
theorem uO{o:BO}{a d:X}{at':Str}{x:Expr}{args:List Expr}{apos pos:Pos}(X:Ex c G C n nm env sc)(hc:YH x=true)(hp:apos.endLine=pos.line)(h:uW o at' args (YV G nm d sc)=true)
 (ha:SE c C nm env a x) (h1:∀e,YV G nm d sc (.e e)=true->SE c C nm env d e) (h2:∀es,es.all Yi=true->YV G nm d sc (.l es)=true->SL c C nm env d es):SE c C nm env (.lm o a d) (.Call (.Attribute x at' apos) args [] pos):=by
 induction o using jQ with
 |append=>exact YX h λe1 e2=>YW e1 (Ye e2 λy e=>YX e λe3 e4=>IW X.O hc hp PySem.F.slot_list_append PySem.F.type_list_append e3 uP (λI h e=>NK I h e) ha (h1 y e4))
 |extend=>exact YX h λe1 e2=>YW e1 (Ye e2 λy e=>YX e λe3 e4=>IW X.O hc hp PySem.F.slot_list_extend PySem.F.type_list_extend e3 uP (λI h e=>NJ I h e) ha (h1 y e4))
 |get=>exact CF h λe1 e2 e3 e4=>YW e1 (An X.t.W X.O hc hp (cW e2) e3 ha (h2 _ e3 e4))
 |_=>exact Zv h
theorem Am{a:X}{x:Expr}{apos pos:Pos}(O:ZO env nm c.X)(hc:YH x=true)(hp:apos.endLine=pos.line)(ha:SE c C nm env a x):SE c C nm env (.u .pop a) (.Call (.Attribute x ("pop":Str) apos) [] [] pos):=
 ZR (λY Y=>rfl) λ{s U L E Q} I F hq=>V2 (as:=.nil) O hc hp (by rfl) (by rfl) ha WB I F hq λ{v va s₁ Z6} q ea J=>by
  refine hG ?_;intro PP
  obtain⟨r,rfl,xs,hr,_⟩:=Y6 (K:=λa=>∃xs,Z6 a=some (.list xs)/\True) (Al q)
  obtain rfl:=ea
  refine⟨.builtin "list.pop",λY U2=>uA .pop (.ref r) Q U2,λq=>Zr4 (P6 J hr) PySem.F.plainAttrs_list PySem.F.slot_list_pop PySem.F.type_list_pop (eX J hr) q,q,λ{vs xs s₂ Ze} q Y l e Yg=>?_⟩
  obtain rfl:xs=[]:=bQ.mp e
  obtain rfl:=l
  exact⟨Q0,EZ Yg q⟩
where
 Al {v:AV} {Q:fP} {U:US} (h:uA .pop v Q U):SQ v λa=>∃xs,U a=some (.list xs)/\True:=by
  refine hG ?_;intro PP
  obtain⟨a,rfl,h⟩:=Y6 (show SQ v λa=>oL (U a) λxs=>_ from h)
  obtain⟨xs,e,_⟩:=WE h
  exact⟨xs,e,trivial⟩
theorem EC{a:X}{x:Expr}{apos pos p:Pos}{k:Nat}(O:ZO env nm c.X)(hc:YH x=true)(hp:apos.endLine=pos.line)(ha:SE c C nm env a x):SE c C nm env (.u .N9 a) (.Call (.Attribute x ("pop":Str) apos) [.Constant (.int 0) k p] [] pos):=
 ZR (λY Y=>rfl) λ{s U L E Q} I F hq=>V2 (as:=.cons (.cst (.int 0)) .nil) O hc hp (by rfl) (by rfl) ha (XO O rfl (Nv (by rfl)) WB) I F hq λ{v va s₁ Z6} q ea J=>by
  refine hG ?_;intro PP
  obtain⟨r,rfl,xs,hr,_⟩:=Y6 (K:=λa=>∃xs,Z6 a=some (.list xs)/\True) (Al q)
  obtain rfl:=ea
  refine⟨.builtin "list.pop",λvs U2=>Wj vs λvs=>eN vs 0 λw=>∃i,w=.int i/\i=0/\uA .N9 (.ref r) Q U2,λq=>Zr4 (P6 J hr) PySem.F.plainAttrs_list PySem.F.slot_list_pop PySem.F.type_list_pop (eX J hr) q,⟨0,rfl,rfl,q⟩,λ{vs xs s₂ Ze} q Y l e Yg=>?_⟩
  refine hG ?_;intro PP
  obtain⟨w,rfl⟩:=QZ e
  obtain⟨vw,_,rfl,ew,rfl⟩:=l
  obtain⟨i,rfl,rfl,q⟩:=q
  obtain⟨t,rfl⟩:=ew
  exact⟨Q0,Jm Yg q⟩
where
 Al {v:AV} {Q:fP} {U:US} (h:uA .N9 v Q U):SQ v λa=>∃xs,U a=some (.list xs)/\True:=by
  refine hG ?_;intro PP
  obtain⟨a,rfl,h⟩:=Y6 (show SQ v λa=>oL (U a) λxs=>_ from h)
  obtain⟨xs,e,_⟩:=WE h
  exact⟨xs,e,trivial⟩
end
section
variable{c:Cx}{G:Str->AV->Bool}{C:ZV}{n:Nat}{nm:List Str}{env:Env}{sc:aa}{s s₁:cK}{U Z6:US}{L:Loc}{E:US->Prop}
theorem EB{o:BO}{E:Value->cK->Prop}(I:Inv c s U)(h:EM o=true):Y9 c E s U o:=by
 induction o using jQ with
 |sL=>exact @AX c s U E I
 |sT=>exact @AW c s U E I
 |xQ=>exact @E5 c s U E I
 |xP=>exact @E4 c s U E I
 |_=>exact @Zv _ h
theorem IV(O:ZO env nm c.X)(ho:EM o=true)(hs:WQ y=true)(ha:SE c C nm env a x)(hi:SE c C nm env i y):SE c C nm env (.b o a i) (.Subscript x y pos):=
 ZR (λY Y=>rfl) λ{s U L E Q} I F hq=>Subscript_ (two (K:=λv w U=>bA o v w Q U) O ha hi I F hq λq ea ei J Y N=>fC N (EB J ho hs q ea ei))
theorem T5{a i:X}{x y:Expr}{lower upper:Option Expr}{p pos:Pos}{K:List AV->Int->US->Prop}{P:Value->Zz0->US->Prop}{pk:Int->List Value->List Value}{lo hi:Int->Option Int}(O:ZO env nm c.X)(ha:SE c C nm env a x)(hi':SE c C nm env i y)
 (hl:(lower=some y/\upper=none/\lo=some/\hi=λY=>none)\/(lower=none/\upper=some y/\(lo=λY=>none)/\hi=some)) (hp:∀{vs:List Value} {k:Int},Zi7 vs.toArray (lo k) (hi k) none=(pk k vs).toArray)
 (I:Inv c s U) (F:Fr c s U env nm L) (hq:ZK C E a L (λv U1=>ZK C E i L (λw U2=>aL U2 v λxs=>Vz w λk=>K xs k U2) U1) U)
 (k:∀{xs vs k s₁ Z6 s'},K xs k Z6->xs.length<=LN->V5 c s₁.heap Z6 xs vs->Inv c s₁ Z6->(∀b o,s₁.heap.get? b=some o->s'.heap.get? b=some o)->XF s₁ s'->s₁.heap.get? (s₁.heap.objs.size+1)=none->s'.heap.get? (s₁.heap.objs.size+1)=some (Xe "list" (pk k vs) 0)->Ok c s₁ Z6 P (.ref (s₁.heap.objs.size+1)) s'):
 bT c.M c.A (Zq2 (.Subscript x (.Slice lower upper none p) pos) env) (Ok c s U P) (Er c s U E) s:=by
 have fin:∀{va vi v w s₂ Ze},(aL Ze v λxs=>Vz w λk=>K xs k Ze)->En c s₂.heap Ze v va->En c s₂.heap Ze w vi->Inv c s₂ Ze->Nx c s U s₂ Ze->∀{b d:Value},(∀{k t},vi=.int k t->IsPart b (lo k)/\IsPart d (hi k))->
  bT c.M c.A (subscriptTail x (.Slice lower upper none p) va (.ref s₂.heap.objs.size)) (Ok c s U P) (Er c s U E) {s₂ with heap:=s₂.heap.push (xg b d .none)}:=λ{va vi v w s₂ Ze} q ea ei J N {b d} pt=>by
  refine hG ?_;intro PP
  obtain⟨xs,r,q,rfl,⟨ho,hl,l⟩⟩:=TG (K:=λxs=>Vz w λk=>K xs k Ze) J q ea
  obtain⟨j,rfl,q⟩:=Yx (K:=λk=>K xs k Ze) q
  obtain⟨t,rfl⟩:=ei
  obtain⟨p1,p2⟩:=pt rfl
  exact bO (Q8 (s:=s₂) (xs:=xs) (zs:=xs) (vs:=_) (ws:=pk j _) (E:=Er c s U E) (P:=P) J ho hl l p1 p2 .none (ZE ·) hp (by rfl) λkp r z1 z2=>k q hl l J kp r z1 z2) (λY Y z=>z.trans N) λY Y z=>z
 refine Subscript_ (step (ha.v I F hq) λva s₁ Z6 Z J N=>eE Z λv Z=>aE Z λq ea=>wpAny_Slice ?_)
 have F':=F.keep I O N
 refine hG ?_;intro PP
 rcases hl with⟨rfl,rfl,rfl,rfl⟩|⟨rfl,rfl,rfl,rfl⟩
 ·exact Zo8 (d_ N (step (hi'.v J F' q) λvi s₂ Ze Z Yg Yw=>eE Z λw Z=>aE Z λq ei=>Zy2 (Zy2 (fin q (ea.mono (J.vw Yw)) ei Yg (N.trans Yw) λe=>by rw[e];exact⟨.int _ _,.none⟩))))
 ·exact Zy2 (Zo8 (d_ N (step (hi'.v J F' q) λvi s₂ Ze Z Yg Yw=>eE Z λw Z=>aE Z λq ei=>Zy2 (fin q (ea.mono (J.vw Yw)) ei Yg (N.trans Yw) λe=>by rw[e];exact⟨.none,.int _ _⟩))))
theorem IU{a i:X}{x y:Expr}{p pos:Pos}(O:ZO env nm c.X)(ha:SE c C nm env a x)(hi:SE c C nm env i y):SE c C nm env (.b .M5 a i) (.Subscript x (.Slice (some y) none none p) pos):=
 ZR (λY Y=>rfl) λ{s U L E Q} I F hq=>T5 (pk:=TF) (K:=λxs k U=>∀zs,zs=TF k xs->Q (.lst zs) U) O ha hi (.inl ⟨rfl,rfl,rfl,rfl⟩) pick_from I F hq λq hl l J kp r z1 z2=>T8 J (c7 (Lo _) hl) (q _ rfl) (l.TF _) kp r z1 z2
theorem Ak{a i:X}{x y:Expr}{p pos:Pos}(O:ZO env nm c.X)(ha:SE c C nm env a x)(hi:SE c C nm env i y):SE c C nm env (.b .xM a i) (.Subscript x (.Slice none (some y) none p) pos):=
 ZR (λY Y=>rfl) λ{s U L E Q} I F hq=>T5 (pk:=V4) (K:=λxs k U=>∀zs,zs=V4 k xs->Q (.lst zs) U) O ha hi (.inr ⟨rfl,rfl,rfl,rfl⟩) MF I F hq λq hl l J kp r z1 z2=>T8 J (c7 (Q9 _) hl) (q _ rfl) (l.V4 _) kp r z1 z2
theorem Ez{a i:X}{x y:Expr}{p pos:Pos}(O:ZO env nm c.X)(ha:SE c C nm env a x)(hi:SE c C nm env i y):SE c C nm env (.b .GH a i) (.Subscript x (.Slice none (some y) none p) pos):=
 ZR (λY Y=>rfl) λ{s U L E Q} I F hq=>T5 (pk:=V4) (K:=λxs k U=>∀zs,zs=V4 k xs->∀a,U a=none->Q (.ref a) (upd U a (some (.list zs)))) O ha hi (.inr ⟨rfl,rfl,rfl,rfl⟩) MF I F hq λq hl l J kp r z1 z2=>JM J (c7 (Q9 _) hl) (q _ rfl) (l.V4 _) kp r z1 z2
theorem Aj(ha:SE c C nm env a x)(hm:I7 m=true):SE c C nm env (.u .rev a) (.Subscript x (.Slice none none (some m) p) pos):=
 ZR (λY Y=>rfl) λ{s U L E Q} I F hq=>Subscript_ (step (ha.v I F hq) λva s₁ Z6 Z J N=>eE Z λv Z=>aE Z λq ea=>wpAny_Slice (Zy2 (Zy2 (Zo8 (by
  refine ND hm λo y p' h=>YX h λh1 h2=>P7 h2 λk q'=>YW h1 ?_
  refine cY (Zv7 (cY (bB (bJ (PySem.P.neg_int ?_)))))
  refine hG ?_;intro PP
  obtain⟨xs,r,q,rfl,⟨ho,hl,l⟩⟩:=TG (K:=λxs=>Q (.lst xs.reverse) Z6) J q ea
  exact bO (Q8 (s:={s₁ with toks:=s₁.toks+1+1}) (U:=Z6) (xs:=xs) (zs:=xs) (ws:=List.reverse _) (E:=Er c s U E) (P:=pV c Q) J.tok ho hl l .none .none (.int (-1) _) (by decide) (Jx _) (by rfl) λkp r z1 z2=>T8 J.tok (by rw[aN];exact hl) q l.rev kp r z1 z2) (λY Y z=>z.trans (N.trans .tok)) λY Y z=>z)))))
end
section
variable{c:Cx}{A:aC}{l:List Env}{X':aV->Prop}
theorem Sw.to(M:Sw c C n f fa):Sw (c.ww A l X') C n f fa:=⟨M.lt,M.gv,M.find,M.fn,M.ind,M.get,M.takes,M.cp⟩
theorem O7.to(M:O7 c C n i t):O7 (c.ww A l X') C n i t:=⟨M.lt,M.find,M.get,M.cp⟩
theorem Q_.to(O:Q_ c k C):Q_ (c.ww A l X') k C:=
 ⟨O.xh,O.ga,O.sa,O.hd,O.plain,O.fld,λn i h=>(O.kQ n i h).elim λt z=>⟨t,z.to⟩,λn f h=>(O.SY n f h).elim λt z=>⟨t,z.to⟩,O.makes,O.init,O.keep,O.cn,O.obj,O.KA⟩
theorem Wd.to(W:Wd c):Wd (c.ww A l X'):=⟨W.kx,W.hand,λk h=>(W.cls k h).elim λC z=>⟨C,z.1,z.2.to⟩,W.sp,W.FH,W.YO,W.low,W.cg,W.ct,W.A6,W.A5,W.FG,W.Pu⟩
theorem Top.to{G:Str->AV->Bool}(T:Top c G):Top (c.ww A l X') G:=
 ⟨T.W.to,⟨T.T.refs,T.T.A3,T.T.A2⟩,λn v h=>let⟨a,b,d,e⟩:=T.G n v h;⟨a,b,d,e⟩,T.len,T.KA,T.abs,T.ord,T.dict,T.list,T.tup,T.int,T.ve,T.De,T.zip,T.kG⟩
end
noncomputable def Cx.wX(c:Cx)(X:aV->Prop):Cx:=c.ww c.A c.l X
structure eY(X X':aV->Prop)(h h':Zz0):Prop where
 keep:∀a o,h.get? a=some o->h'.get? a=some o
 sub:∀a,X a->X' a
 new:∀a,X' a->X a\/(h.get? a=none/\∃o,h'.get? a=some o)
theorem ZO.more{env:Env}{nm:List Str}{X X':aV->Prop}(O:ZO env nm X)(k:∀a,X a->X' a):ZO env nm X':=⟨O.kind,O.glob,O.blt,O.nodup,O.cells,k _ O.xl,λn c e=>k _ (O.xc n c e),O.lc⟩
section
variable{c:Cx}{G:Str->AV->Bool}{C:ZV}{n:Nat}{nm:List Str}{env:Env}{sc:aa}{s s' s₁:cK}{U Z6:US}{L:Loc}{E:US->Prop}{X':aV->Prop}{h h':Zz0}
theorem eY.view(M:eY c.X X' h h')(v:Vw c h U a o):Vw (c.wX X') h' U a o:=
 ⟨M.keep _ _ v.h,v.u,λz=>(M.new a z).elim v.x λz=>by rw[v.h]at z;exact XD z.1⟩
theorem eY.Yr(M:eY c.X X' h h')(m:VO c h U):VO (c.wX X') h' U:=
 ⟨λa o e=>aE (m.obj a o e) λx Z=>eE Z λob Z=>aE Z λp q=>⟨(λz=>(M.new a z).elim x λz=>by rw[p]at z;exact XD z.1),ob,M.keep _ _ p,Wi.mono (c:=c) (λY Y=>M.view) q⟩,λa o e=>M.view (m.base a o e)⟩
theorem eY.inv(M:eY c.X X' s.heap s'.heap)(I:Inv c s U):Inv (c.wX X') s' U:=
 ⟨M.Yr I.Yr,I.Tr.of_keeps λb o e Y=>⟨o,M.keep _ _ e,rfl⟩,λa x=>(M.new a x).elim (λx=>eE (I.xlt a x) λo e=>⟨o,M.keep _ _ e⟩) (·.2),I.frames,λa f=>M.sub a (I.fx a f)⟩
theorem eY.fr(M:eY c.X X' s.heap s'.heap)(F:Fr c s U env nm L):Fr (c.wX X') s' U env nm L:=
 F.mono (λY Y=>M.view) (λo e=>⟨o.slots,M.keep _ _ e⟩) λY Y Y o e=>⟨o.slots,M.keep _ _ e⟩
theorem Ex.more(x:Ex c G C n nm env sc)(k:∀a,c.X a->X' a):Ex (c.wX X') G C n nm env sc:=⟨x.t.to,λe=>x.hC e,x.room,x.O.more k,x.GU,x.sc⟩
theorem Er.less(k:∀a,c.X a->X' a):Er (c.wX X') s U E e s'->Er c s U E e s'
 |⟨h1,h2,f,h4,h5⟩=>⟨h1,h2,⟨f.stays,f.new,f.frames,f.Yq,f.Yr.less k,f.old,f.fr,f.dom⟩,h4,h5⟩
theorem eY.push{X:aV->Prop}{h:Zz0}{o:Obj}(hf:o.isFreed=false):eY X (λa=>X a\/a=h.objs.size) h (h.push o):=
 ⟨λb o e=>cA _ e,λY=>.inl,λa z=>z.elim .inl λz=>.inr ⟨z▸Zz,_,z▸bR _ hf⟩⟩
theorem VO.bare(m:VO (c.wX X') h U)(sub:∀a,c.X a->X' a)(hd:X' d)(hnd:¬c.X d)(k:∀a o,¬X' a->h.get? a=some o->h'.get? a=some o)(ho:h'.get? d=some ob)
 (e:Wi c (Vx X' h U) x ob):U d=none/\VO c h' (upd U d (some x)):=by
  have V:∀b o',Vx X' h U b o'->Vw c h' (upd U d (some x)) b o':=λb o' v=>⟨k _ _ v.x v.h,(Z9 λ(q:b=d)=>v.x (q▸hd)).trans v.u,λz=>v.x (sub _ z)⟩
  refine⟨fE λq=>eE (bW.mp q) λ_ q=>(m.obj d _ q).1 hd,λb o' q=>?_,λb o' q=>V b o' (m.base b o' q)⟩
  refine hG ?_;intro PP
  rcases SA q with⟨rfl,e2⟩|⟨n,q⟩
  ·cases e2;exact⟨hnd,_,ho,e.mono V⟩
  ·obtain⟨x,vo,p,r⟩:=m.obj b o' q
   exact⟨λz=>x (sub _ z),vo,k _ _ x p,Wi.mono (c:=c) V r⟩
end
noncomputable def Each(P:X->Expr->Prop)(x:X):List Expr->Prop:=match x with
 |.nil=>λes=>es=[]
 |.cons h t=>λes=>∃e r,es=e::r/\P h e/\Each P t r
 |_=>λY=>False
section
variable{c:Cx}{G:Str->AV->Bool}{C:ZV}{n:Nat}{nm:List Str}{env:Env}{sc:aa}{s s' s₁:cK}{U Z6:US}{L:Loc}{E:US->Prop}
theorem Wz(O:ZO env nm c.X):∀{x:X} {es:List Expr},Each (SE c C nm env) x es->es.all Yi=true->SL c C nm env x es:=by
 intro x
 induction x with
 |nil=>exactλh Y=>by obtain rfl:=h;exact WB
 |cons h t _ ih=>
  exactλh k=>by
   obtain⟨e,r,rfl,h1,h2⟩:=h
   exact YX (a:=Yi e) (b:=r.all Yi) k λk1 k2=>XO O k1 h1 (ih h2 k2)
 |_=>exactλh=>h.elim
noncomputable def constsOf(x:X):List AV:=match x with
 |.cons h t=>match h with
  |.cst v=>v::constsOf t
  |_=>[]
 |_=>[]
noncomputable def dQ(pos:Pos)(env:Env):List (Option Expr)->List Expr->List (Sem Value×Sem Value)
 |k::ks,vs=>match k with
  |some k=>match vs with
   |v::vs=>(Zq2 k env,do let x<-Zq2 v env;Zr5 pos;pure x)::dQ pos env ks vs
   |[]=>[]
  |none=>[]
 |[],_=>[]
inductive CK:X->List (Option Expr)->Prop
 |nil:CK .nil []
 |cons {v t k i p r}:Yk v k=true->CK t r->CK (.cons (.cst v) t) (some (.Constant k i p)::r)
theorem uN:∀{x:X} {keys:List (Option Expr)},R4 x keys=true->CK x keys:=by
 intro x
 induction x with
 |nil=>exactλh=>Zb h λY=>.nil
 |cons h t _ ih=>
  intro keys q
  induction h using jX with
  |cst v=>
   exact Zq (show Ys keys (λk r=>(oS k λe=>WZ e (Yk v))&&R4 t r)=true from q) λk r q=>YX q λq1 q2=>Tw q1 λe q=>Xu q λk i p q=>.cons q (ih q2)
  |_=>exact Zv q
 |_=>exactλh=>Zv h
theorem La(h:CK x keys)(hl:keys.length=values.length):
 (evalEachOpt keys env).zip ((Zh6 values env).map λv=>do let x<-v;Zr5 pos;pure x)=(dQ pos env keys values).map (λp=>(some p.1,p.2))/\(dQ pos env keys values).length=keys.length:=by
  induction h generalizing values with
  |nil=>obtain rfl:=bQ.mp hl.symm;exact⟨rfl,rfl⟩
  |@cons v t k i p r h1 h2 ih=>
   induction values using jL with
   |nil=>cases hl
   |cons e es=>
    obtain⟨a,b⟩:=ih (Zq9 hl)
    exact⟨congrArg (List.cons _) a,congrArg (·+1) b⟩
theorem Ai(h:CK x keys)(hq:ZK C E x L Q U):Q (.tup (constsOf x)) U:=by
 induction h generalizing Q with
 |nil=>exact hq
 |cons _ _ ih=>exact ih (Q:=λvs U2=>Wj vs λvs=>Q (.tup (_::vs)) U2) hq
abbrev pP(c:Cx)(ks:List AV)(Q:fP):List (Value×Value)->Zz0->US->Prop:=λps h U=>∃xs,Q (.tup xs) U/\V5 c h U ks (ps.map (·.1))/\V5 c h U xs (ps.map (·.2))
theorem K_(O:ZO env nm c.X)(h:CK x keys)(hl:keys.length=values.length)(he:Each (SE c C nm env) vx values)
 (I:Inv c s U) (F:Fr c s U env nm L) (hq:ZK C E vx L Q U):xj c (evalPairs (dQ pos env keys values)) (pP c (constsOf x) Q) E s U:=by
  induction h generalizing vx values s U Q with
  |nil=>
   obtain rfl:=bQ.mp hl.symm
   induction vx using jX with
   |nil=>exact evalPairs_nil (X9 I ⟨[],hq,rfl,rfl⟩)
   |cons _ _=>obtain⟨_,_,e,_⟩:=he;exact xT e
   |_=>exact he.elim
  |@cons v t k i p r hc hr ih=>
   induction vx using jX with
   |nil=>obtain rfl:values=[]:=he;cases hl
   |cons hx tx=>
    obtain⟨e,r',rfl,h1,h2⟩:=he
    refine evalPairs_cons (step (P:=pV c λw U'=>w=v/\U'=U) (Q3 I hc ⟨rfl,rfl⟩) λkv s₁ Z6 Z J N=>eE Z λ_ Z=>aE Z λAh ek=>let⟨e1,e2⟩:=Ah;?_)
    subst e1;subst e2
    have F₁:=F.keep I O N
    refine d_ N (cY (step (h1.v J F₁ hq) λvv s₂ Ze Z Yg Yw=>eE Z λw Z=>aE Z λq ev=>cY (bB (b7 ?_))))
    refine d_ (N.trans Yw) (step (ih (Zq9 hl) h2 Yg (F₁.keep J O Yw) q) λps s₃ Af Z Ae P5=>eE Z λxs Z=>aE Z λq Z=>aE Z λl1 l2=>?_)
    exact⟨⟨_,q,.cons ((ek.mono (J.vw Yw)).mono (Yg.vw P5)) l1,.cons (ev.mono (Yg.vw P5)) l2⟩,Ae,(N.trans Yw).trans P5⟩
   |_=>exact he.elim
end
section
variable{c:Cx}{G:Str->AV->Bool}{C:ZV}{n:Nat}{nm:List Str}{env:Env}{sc:aa}{s s' s₁:cK}{U Z6:US}{L:Loc}{E:US->Prop}
theorem OK:∀{ps:List (Value×Value)},ZW gv V (es.map λe=>.int e.1) (ps.map (·.1))->ZW gv V (es.map (·.2)) (ps.map (·.2))->∃kvs:List (Int×Value),Carries (Zp0 prog w) ps kvs/\kvs.map (·.1)=es.map (·.1)/\EncD gv V id es kvs:=by
 induction es with
 |nil=>intro ps h Y;rw[Zf4.mp h];exact⟨[],trivial,rfl,rfl⟩
 |cons e es ih=>
  refineλ{ps} h h'=>h.el λv ws e0 h l=>h'.el λv' ws' n8 ev l'=>?_
  induction ps using jL with
  |nil=>exact xT e0
  |cons p ps=>
   cases e0;cases n8
   refine h.elim λt h1=>(ih l l').elim λkvs z=>?_
   exact⟨(e.1,p.2)::kvs,⟨by rw[show p.1=_ from h1];exact intKind_is prog w _ _,rfl,z.1⟩,congrArg (e.1::·) z.2.1,p.2,kvs,rfl,ev,z.2.2⟩
theorem OJ:∀{ps:List (Value×Value)},ZW gv V (es.map λe=>.str e.1) (ps.map (·.1))->ZW gv V (es.map (·.2)) (ps.map (·.2))->∃kvs:List (Str×Value),Carries (strKind prog w) ps kvs/\kvs.map (·.1)=(es.map (·.1)).map ZU/\EncD gv V ZU es kvs/\∀e∈es,e.1<SN:=by
 induction es with
 |nil=>intro ps h Y;rw[Zf4.mp h];exact⟨[],trivial,rfl,rfl,λY h=>xm h⟩
 |cons e es ih=>
  refineλ{ps} h h'=>h.el λv ws e0 h l=>h'.el λv' ws' n8 ev l'=>?_
  induction ps using jL with
  |nil=>exact xT e0
  |cons p ps=>
   cases e0;cases n8
   refine h.2.elim λt h1=>(ih l l').elim λkvs z=>?_
   exact⟨(ZU e.1,p.2)::kvs,⟨by rw[show p.1=_ from h1];exact strKind_is prog w _ _,rfl,z.1⟩,congrArg (ZU e.1::·) z.2.1,⟨p.2,kvs,rfl,ev,z.2.2.1⟩,λx m=>(cJ.mp m).elim (λq=>q▸h.1) (z.2.2.2 x)⟩
theorem Vh{κ:Type}[DecidableEq κ]{prog:Zw8}{w:Zt2}(knd:KeyKind prog w κ):Zj2 knd {cls:=.type "dict",data:=.dict #[]} []:=⟨#[],0,⟨rfl,rfl,rfl⟩,rfl,λe h=>absurd h (by simp),.nil,Zr2⟩
theorem Ac(h:CK x keys):(constsOf x).length=keys.length:=by
 induction h with
 |nil=>rfl
 |cons _ _ ih=>exact congrArg (·+1) ih
noncomputable abbrev dO:Obj:={cls:=.type "dict",data:=.dict #[]}
theorem OI(I:Inv c s U)(hX:X'=λa=>c.X a\/a=s.heap.objs.size)(Rt:Inv (c.wX X') s₁ Z6)(N:Nx (c.wX X') {s with heap:=s.heap.push dO} U s₁ Z6)(hs:Zy6 s.heap.objs.size s₁.heap h')(ho:h'.get? s.heap.objs.size=some ob)
 (e:Wi c (Vx X' s₁.heap Z6) x ob) (q:∀a,Z6 a=none->Q (.ref a) (upd Z6 a (some x))):Ok c s U (pV c Q) (.ref s.heap.objs.size) {s₁ with heap:=h',toks:=t}:=by
  subst hX
  have nX:¬c.X s.heap.objs.size:=I.nx Zz
  obtain⟨u1,m1⟩:=Rt.Yr.bare (c:=c) (λa=>.inl) (.inr rfl) nX (λa o na e=>(hs.2 a λz=>na (.inr z)).trans e) ho e
  have na:∀{a o},s.heap.get? a=some o->a≠s.heap.objs.size:=λe=>aD (ao e)
  have k:YF c.l s.heap U h' (upd Z6 s.heap.objs.size (some x)):=by
   refine⟨λa o e u n=>(hs.2 a (na e)).trans (N.k.obj a o (Y0 a o e) u n),λa o e u=>eE (N.k.fr a o (Y0 a o e) u) λsl e'=>⟨sl,(hs.2 a (na e)).trans e'⟩,λa q=>?_⟩
   by_cases z:a=s.heap.objs.size
   ·exact .inr (z▸Zz)
   ·rw[Z9 z]at q
    exact(N.k.dom a q).imp id λz=>fE λq=>by obtain⟨o,q⟩:=bW.mp q;rw[Y0 a o q]at z;exact XD z
  exact⟨⟨_,q _ u1,rfl⟩,I.next (s':={s₁ with heap:=h',toks:=t}) m1 k,k,⟨N.r.g,N.r.d,N.r.o⟩⟩
theorem Ey(x:Ex c G C n nm env sc)(hk:R4 ks keys=true)(hl:keys.length=values.length)(hn:bk keys.length 16=true)
 (hv:∀{X'},Ex (c.wX X') G C n nm env sc->Each (SE (c.wX X') C nm env) vs values):SE c C nm env (.dict i ks vs) (.Dict keys values pos):=by
  refine ZR (λY Y=>rfl) λ{s U L E Q} I F hq=>?_
  have hk:=uN hk
  have hq:=Ai hk (Q:=λkv U1=>ZK C E vs L (λxv U2=>_) U1) hq
  have hn:=Zw4.mp hn
  by_cases h0:keys=[]
  ·subst h0
   obtain rfl:=bQ.mp hl.symm
   cases hk
   have e2:=hv x
   induction vs using jX with
   |nil=>
    refine wpAny_Dict_empty ?_
    induction i using jB with
    |true=>
     refine hG ?_;intro PP
     obtain⟨-,es,h1,-,-,q⟩:=hq
     induction es using jL with
     |nil=>exact Sf (x:=.di []) I q Y0 ZF Zz (bR _ rfl) ⟨[],Vh _,bV _,rfl⟩
     |cons _ _=>exact xT h1
    |false=>
     refine hG ?_;intro PP
     obtain⟨-,es,h1,-,-,q⟩:=hq
     induction es using jL with
     |nil=>exact Sf (x:=.ds []) I q Y0 ZF Zz (bR _ rfl) ⟨[],Vh _,bV _,(λY h=>xm h),rfl⟩
     |cons _ _=>exact xT h1
   |cons _ _=>obtain⟨_,_,e,_⟩:=e2;exact xT e
   |_=>exact e2.elim
  ·obtain⟨p1,p2⟩:=La (env:=env) (pos:=pos) hk hl
   generalize hX:(λa=>c.X a\/a=s.heap.objs.size)=X'
   have M:eY c.X X' s.heap ({s with heap:=s.heap.push dO}:cK).heap:=hX▸eY.push rfl
   have sub:∀a,c.X a->X' a:=M.sub
   have x':=x.more sub
   have I':Inv (c.wX X') {s with heap:=s.heap.push dO} U:=M.inv I
   have xd:X' s.heap.objs.size:=hX▸.inr rfl
   have low:∀{κ:Type} [DecidableEq κ] {knd:KeyKind c.prog c.w κ} {s₁:cK} {Z6:US},Nx (c.wX X') {s with heap:=s.heap.push dO} U s₁ Z6->s₁.heap.DictOf knd s.heap.objs.size []:=λN=>
    Zz5.mpr ⟨_,N.k.obj _ _ (bR _ rfl) (I'.Wt xd) (λz=>I.nx Zz (I.fx _ z)),Vh _⟩
   have hne:dQ pos env keys values≠[]:=λz=>h0 (bQ.mp (by rw[<-p2,z];rfl))
   have run:=λ(Q:fP) (h:ZK C E vs L Q U)=>K_ (c:=c.wX X') (pos:=pos) (E:=E) x'.O hk hl (hv x') I' (M.fr F) h
   have er:∀e s',Er (c.wX X') {s with heap:=s.heap.push dO} U E e s'->Er c s U E e s':=λe s' z=>(z.less sub).trans ⟨.keeps M.keep,ZF⟩
   have ln:∀{κ:Type} {f:κ×AV->AV} {es:List (κ×AV)},constsOf ks=es.map f->es.length<=LN:=λe=>by have:=Ac hk;rw[e,cM]at this;exact c7 (cV this) (c7 (Zz7 hn) (cL rfl))
   induction i using jB with
   |true=>
    refine wpAny_Dict_pairs (knd:=Zp0 c.prog c.w) p1 hne (Z7 (cV p2) (Z7 hn)) (bO (run _ hq) (λps s₁ Z=>?_) er)
    refine hG ?_;intro PP
    obtain⟨⟨xs,q,l1,l2⟩,J,N⟩:=Z
    obtain⟨-,es,e1,rfl,e3,q⟩:=q
    rw[e1]at l1
    obtain⟨kvs,c1,c2,c3⟩:=OK (prog:=c.prog) (w:=c.w) l1 l2
    refine⟨kvs,c1,low N,λh' hd hs=>?_⟩
    rw[merged_nil_of_nodup kvs (by rw[c2];exact e3)]at hd
    refine hG ?_;intro PP
    obtain⟨ob,ho,hd⟩:=Zz5.mp hd
    exact OI (x:=.di es) I hX.symm J N hs ho ⟨kvs,hd,ln e1,c3⟩ q
   |false=>
    refine wpAny_Dict_pairs (knd:=strKind c.prog c.w) p1 hne (Z7 (cV p2) (Z7 hn)) (bO (run _ hq) (λps s₁ Z=>?_) er)
    refine hG ?_;intro PP
    obtain⟨⟨xs,q,l1,l2⟩,J,N⟩:=Z
    obtain⟨-,es,e1,rfl,e3,q⟩:=q
    rw[e1]at l1
    obtain⟨kvs,c1,c2,c3,c4⟩:=OJ (prog:=c.prog) (w:=c.w) l1 l2
    have nd:(kvs.map (·.1)).Nodup:=by
     rw[c2]
     exact List.Pairwise.map _ (λa b ne=>ne) (List.Pairwise.imp_of_mem (λ{a b} ha hb ne e=>by
      refine hG ?_;intro PP
      obtain⟨x,hx,rfl⟩:=bu.mp ha
      obtain⟨y,hy,rfl⟩:=bu.mp hb
      exact ne (WR (c4 x hx) (c4 y hy) e)) e3)
    refine⟨kvs,c1,low N,λh' hd hs=>?_⟩
    rw[merged_nil_of_nodup kvs nd]at hd
    refine hG ?_;intro PP
    obtain⟨ob,ho,hd⟩:=Zz5.mp hd
    exact OI (x:=.ds es) I hX.symm J N hs ho ⟨kvs,hd,ln e1,c4,c3⟩ q
end
def Drawn(gv:Nat->Value)(V:fD)(h:Zz0)(tg:Expr)(v:Value)(x:AV):Prop:=eS (Enc gv V x v) (Enc gv V x v) tg (kp:=λY Y Y Y=>∀xs,x=.tup xs->∃T fz n,v=.ref T/\(∃o,h.get? T=some o/\o.cls=.type "tuple"/\o.data=.seq (Zi8 fz) n)/\ZW gv V xs fz)
structure It where
 I:aV
 hid:List aV
 fp:List aV
 ys:List AV
 vs:List Value
 P:Nat->Value->Zz0->Prop
 St:Nat->Zz0->Prop
abbrev Nt(hid:List aV)(h h':Zz0):Prop:=∀b o,b∉hid->h.get? b=some o->h'.get? b=some o
structure PA(c:Cx)(tg:Expr)(xs:List AV)(t:It):Prop where
 frame:∀{i h h'},t.St i h->(∀b∈t.fp,∀o,h.get? b=some o->h'.get? b=some o)->t.St i h'
 has:∀{i h},t.St i h->∀b∈t.hid,∃o,h.get? b=some o
 item:∀{i} {s:cK} {Q:Option Value->cK->Prop} {E:Value->cK->Prop},i<xs.length->t.St i s.heap->
  (∀{v h₁ t₁},(∀{Q2:Unit->cK->Prop} {E2:Value->cK->Prop},(∀{h₂},Nt t.hid s.heap h₂->t.P i v h₂->t.St (i+1) h₂->Q2 () {s with heap:=h₂,toks:=t₁})->bT c.M c.A (Zi3 tg (.ref t.I) v) Q2 E2 {s with heap:=h₁,toks:=t₁})->Q (some v) {s with heap:=h₁,toks:=t₁})->
  bT c.M c.A (pyNext (.ref t.I)) Q E s
 done:∀{s:cK} {Q:Option Value->cK->Prop} {E:Value->cK->Prop},t.St xs.length s.heap->(∀{h₁ t₁},Nt t.hid s.heap h₁->Q none {s with heap:=h₁,toks:=t₁})->bT c.M c.A (pyNext (.ref t.I)) Q E s
 self:∀{i} {s:cK} {Q:Value->cK->Prop} {E:Value->cK->Prop},t.St i s.heap->Q (.ref t.I) s->bT c.M c.A (pyIter (.ref t.I)) Q E s
 draw:∀{V:fD} {i v h x},ZW c.gv V t.ys t.vs->t.P i v h->xs[i]?=some x->(∀a o,V a o->h.get? a=some o)->Drawn c.gv V h tg v x
theorem Enc.drawn(k:∀a o,V a o->h.get? a=some o)(e:Enc gv V x v):Drawn gv V h tg v x:=by
 induction tg using jE with
 |Tuple=>
  rintro xs rfl
  obtain⟨vs,⟨h1⟩,_,l1⟩:=e
  exact⟨_,vs,_,rfl,⟨_,k _ _ h1,rfl,rfl⟩,l1⟩
 |_=>exact e
noncomputable def eT:List String:=["enumerate","zip","dict_itemiterator","dict_reverseitemiterator","odict_iterator","itertools.zip_longest","itertools.pairwise"]
theorem IT(ho:s.heap.get? I=some o)(hc:o.cls=.type n)(hd:o.data=.fields vs)(hn:eT.contains n=false)(h:Q () s):
 bT M A (Zi3 tg (.ref I) v) Q E s:=by
  have main:∀(a:aV),bT M A (do
   let o<-load I
   match o.cls,o.data with
   |.type n,.fields vs=>
    if["enumerate","zip","dict_itemiterator","dict_reverseitemiterator","odict_iterator","itertools.zip_longest","itertools.pairwise"].contains n&&vs[0]?==some (Zq8 a)then
     rule "for.unpacks-the-owned-tuple"
     updateField I 0 .none
   |_,_=>pure ():Sem Unit) Q E s:=λa=>by
   refine cY (wpAny_load ho ?_)
   rw[hc,hd]
   show bT M A (if(eT.contains n&&vs[0]?==some (Zq8 a))=true then _ else _) Q E s
   rw[hn,Bool.false_and,if_neg (by decide)]
   exact b7 h
  induction tg using jE with
  |Tuple=>induction v using jZ<;>first|exact b7 h|exact main _
  |List=>induction v using jZ<;>first|exact b7 h|exact main _
  |_=>exact b7 h
section
variable{c:Cx}
theorem PA.Ms{tg:Expr}{I:aV}{fp:List aV}{n:Nat}{P:Nat->Value->Prop}{St:Nat->Zz0->Prop}{xs ys:List AV}{vs:List Value}{ty:String}(W:Walks c.prog c.w c.A I fp [I] n P St)(hn:n=xs.length)
 (hgo:∀i h,St i h->∃o fs,h.get? I=some o/\o.cls=.type ty/\o.data=.fields fs) (hty:eT.contains ty=false)
 (hP:∀i v V x,ZW c.gv V ys vs->P i v->xs[i]?=some x->Enc c.gv V x v):PA c tg xs ⟨I,[I],fp,ys,vs,λi v Y=>P i v,St⟩where
 frame:=λa b=>W.frame _ _ _ a b
 has:=λa b hb=>eE (hgo _ _ a) λo Z=>eE Z λ_ Z=>aE Z λe _=>⟨o,cP.mp hb▸e⟩
 item:=λ{i s Q E} hi a k=>W.item i s Q E (hn▸hi) a λv h' tk hp hs hk=>eE (hgo _ _ hs) λo Z=>eE Z λfs Z=>aE Z λe1 Z=>aE Z λe2 e3=>k λk2=>IT (s:={s with heap:=h',toks:=tk}) e1 e2 e3 hty (k2 hk hp hs)
 done:=λ{s Q E} a k=>W.done s Q E (hn▸a) λY Y hk=>k hk
 self:=λ{i s Q E} a k=>W.self i s Q E a k
 draw:=λl hp hx kk=>(hP _ _ _ _ l hp hx).drawn kk
theorem PA.IS{elts:List Expr}{ek:Nat}{ep:Pos}{I:aV}{fp wr hid:List aV}{n:Nat}{P:Nat->Array Value->Prop}{St:Nat->Zz0->Prop}{Mid:Nat->aV->Zz0->Prop}{xs ys:List AV}{vs:List Value}(W:WalksT c.prog c.w c.A I fp wr n P St Mid)(hn:n=xs.length)
 (hwr:∀b∈wr,b∈hid) (has:∀i h,St i h->∀b∈hid,∃o,h.get? b=some o)
 (hP:∀i fz V x,ZW c.gv V ys vs->P i fz->xs[i]?=some x->∃zs,x=.tup zs/\ZW c.gv V zs fz.toList):PA c (.Tuple elts ek ep) xs ⟨I,hid,fp,ys,vs,λi v h=>∃T fz,v=.ref T/\h.IsTuple T fz/\P i fz,St⟩where
 frame:=λa b=>W.frame _ _ _ a b
 has:=λa b hb=>has _ _ a b hb
 item:=λ{i s Q E} hi a k=>W.item i s Q E (hn▸hi) a λT fz h' tk hp hT hit hm hk=>k λk2=>W.go elts ek ep i T _ _ _ hm λh'' hs hk'=>
  k2 (λb o n e=>hk' b o (λz=>n (hwr b z)) (hk b o (λz=>n (hwr b z)) e)) ⟨T,fz,rfl,eE hit λo Z=>aE Z λe1 r=>⟨o,hk' _ _ (W.apart _ _ _ hm) e1,r⟩,hp⟩ hs
 done:=λ{s Q E} a k=>W.done s Q E (hn▸a) λY Y hk=>k λb o n e=>hk b o (λz=>n (hwr b z)) e
 self:=λ{i s Q E} a k=>W.self i s Q E a k
 draw:=λl Z hx Y=>eE Z λT Z=>eE Z λfz Z=>aE Z λe Z=>aE Z λhit hp=>by
  subst e
  refine hG ?_;intro PP
  obtain⟨zs,rfl,l1⟩:=hP _ _ _ _ l hp hx
  intro xs e
  cases e
  refine hG ?_;intro PP
  obtain⟨o,e1,e2,m,e3⟩:=hit
  exact⟨T,fz.toList,m,rfl,⟨o,e1,e2,e3⟩,l1⟩
end
structure dS(c:Cx)(t:It)(i:Nat)(h:Zz0)(U:US):Prop where
 st:t.St i h
 fp:∀b∈t.fp,b∈t.hid\/∃o,Vw c h U b o
 l:ZW c.gv (Vw c h U) t.ys t.vs
theorem dS.keep(I:PA c tg xs t)(a:dS c t i h U)(kV:∀a o,Vw c h U a o->Vw c h' U' a o)(kh:∀b∈t.hid,∀o,h.get? b=some o->h'.get? b=some o):dS c t i h' U':=
 ⟨I.frame a.st λb hb o e=>(a.fp b hb).elim (λz=>kh b z o e) λZ=>eE Z λo' v=>by have:=v.h;rw[e]at this;cases this;exact(kV _ _ v).h,λb hb=>(a.fp b hb).imp id λ⟨o,v⟩=>⟨o,kV _ _ v⟩,a.l.mono kV⟩
structure SI(c:Cx)(C:ZV)(nm:List Str)(env:Env)(it:X)(e tg:Expr):Prop where
 r:∀{s:cK} {U:US} {L:Loc} {E:US->Prop} {Q:fP} {R:Value->cK->Prop},Inv c s U->Fr c s U env nm L->ZK C E it L Q U->
  (∀{xs s₁ Z6 s₂ t},Q (.lst xs) Z6->xs.length<=LN->Inv c s₁ Z6->Nx c s U s₁ Z6->PA c tg xs t->(∀b o,s₁.heap.get? b=some o->s₂.heap.get? b=some o)->XF s₁ s₂->(∀b∈t.hid,s₁.heap.get? b=none)->
   ZW c.gv (Vw c s₁.heap Z6) t.ys t.vs->(∀b∈t.fp,b∈t.hid\/∃o,Vw c s₁.heap Z6 b o)->t.St 0 s₂.heap->R (.ref t.I) s₂)->
  bT c.M c.A (Zq2 e env) (λx s'=>bT c.M c.A (pyIter x) R (Er c s U E) s') (Er c s U E) s
section
variable{c:Cx}{G:Str->AV->Bool}{C:ZV}{n:Nat}{nm:List Str}{env:Env}{sc:aa}{s s₁:cK}{U Z6:US}{L:Loc}{E:US->Prop}
theorem Ab{a:X}{e tg:Expr}(hh:c.A.handled=none)(ha:SE c C nm env a e):SI c C nm env (.u .Df a) e tg:=.mk λ{s U L E Q R} I F hq k=>by
 refine step (ha.v I F hq) λva s₁ Z6 Z J N=>eE Z λv Z=>aE Z λq ea=>?_
 have ne:∀{a:aV} {o:Obj},s₁.heap.get? a=some o->a≠s₁.heap.objs.size:=λe=>aD (ao e)
 have fr:∀b∈[s₁.heap.objs.size],s₁.heap.get? b=none:=λb hb=>cP.mp hb▸Zz
 induction v using jV with
 |lst xs=>
  obtain⟨vs,@⟨p,_,m,v⟩,hl,l⟩:=ea
  have il:=is_list v.h
  refine wpAny_pyIter_list il ?_
  have W:=Walks.list (prog:=c.prog) (w:=c.w) hh s₁.heap.objs.size p (ne v.h) vs.toArray
  exact k q hl J N (PA.Ms (vs:=vs) (ys:=xs) (ty:="list_iterator") W (by rw[b_,l.len]) (λi h Z=>aE Z λIQ _=>let⟨o,e1,e2,e3⟩:=IQ;⟨o,_,e1,e2,e3⟩) (by decide) λi v V x hv hp hx=>by
   obtain⟨y,hy,ey⟩:=hv.get hx
   rw[aY]at hp
   rw[hp]at hy;cases hy;exact ey) (λY Y e=>cA _ e) ZF fr l (λb hb=>(cJ.mp hb).imp (λz=>cP.mpr z) λz=>⟨_,cP.mp z▸v⟩) ⟨⟨_,bR _ rfl,rfl,rfl⟩,il.push _⟩
 |tup xs=>
  obtain⟨vs,@⟨p,_,m,v⟩,hl,l⟩:=ea
  have il:=is_tup v.h
  refine wpAny_pyIter_tuple il ?_
  have W:=Walks.tuple (prog:=c.prog) (w:=c.w) hh s₁.heap.objs.size p (ne v.h) vs.toArray
  exact k q hl J N (PA.Ms (vs:=vs) (ys:=xs) (ty:="tuple_iterator") W (by rw[b_,l.len]) (λi h Z=>aE Z λIQ _=>let⟨o,e1,e2,e3⟩:=IQ;⟨o,_,e1,e2,e3⟩) (by decide) λi v V x hv hp hx=>by
   obtain⟨y,hy,ey⟩:=hv.get hx
   rw[aY]at hp
   rw[hp]at hy;cases hy;exact ey) (λY Y e=>cA _ e) ZF fr l (λb hb=>(cJ.mp hb).imp (λz=>cP.mpr z) λz=>⟨_,cP.mp z▸v⟩) ⟨⟨_,bR _ rfl,rfl,rfl⟩,il.push _⟩
 |_=>exact q.elim
end
section
variable{c:Cx}{G:Str->AV->Bool}{C:ZV}{n:Nat}{nm:List Str}{env:Env}{sc:aa}{s s₁:cK}{U Z6:US}{L:Loc}{E:US->Prop}
theorem Aa(h:(Ky k).isSome=true):k=74:=by
 have h:(bif cZ k 74 then some 115 else none:Option Nat).isSome=true:=h
 induction b:cZ k 74 using jB with
 |true=>exact cW b
 |false=>rw[b]at h;exact Zv h
theorem z_(hh:c.A.handled=none)(ha:SE c C nm env a e):SI c C nm env (.u .rU a) e tg:=.mk λ{s U L E Q R} I F hq k=>by
 refine step (ha.v I F hq) λva s₁ Z6 Z J N=>eE Z λv Z=>aE Z λq ea=>?_
 refine hG ?_;intro PP
 obtain⟨i,rfl,hi,q⟩:=VN q
 obtain rfl:=Aa hi
 refine hG ?_;intro PP
 obtain⟨_,t,rfl⟩:=ea
 refine wpAny_pyIter_strU ?_
 have W:=Walks.strAscii (prog:=c.prog) (w:=c.w) hh s₁.heap.objs.size (ZU 74) t
 have ht:strIterType (ZU 74)="str_ascii_iterator":=by decide+kernel
 rw[ht]
 exact k q (by decide) J N (PA.Ms (vs:=[]) (ys:=[]) (ty:="str_ascii_iterator") W (by decide+kernel) (λi h Z=>eE Z λo Z=>aE Z λe1 Z=>aE Z λe2 e3=>⟨o,_,e1,e2,e3⟩) (by decide) λi v V x Y hp hx=>by
  refine hG ?_;intro PP
  obtain⟨c',u,h1,rfl⟩:=hp
  induction i using jN with
  |succ i=>exact ZE hx
  |zero=>
   cases hx
   have:c'=115:=by
    have e:(ZU 74).cps=#[115]:=by decide+kernel
    rw[e]at h1;exact(cU h1).symm
   subst this
   exact⟨by decide,u,by rw[show ZU 74=⟨#[115]⟩from rfl]⟩) (λY Y e=>cA _ e) ZF (λb hb=>cP.mp hb▸Zz) rfl (λb hb=>.inl hb) ⟨_,bR _ rfl,rfl,rfl⟩
theorem T4{k:Nat}{id:String}{m:Str}{p pos:Pos}{args:List Expr}{as:X}{Q:fP}{R:Value->cK->Prop}(x:Ex c G C n nm env sc)(h:X5 G sc m k=true)(hk:c.gv k=.type id)(hs:args.all Yi=true)(ha:SL c C nm env as args)(I:Inv c s U)(F:Fr c s U env nm L)(hq:ZK C E as L Q U)
 (r:∀{vs xs s₁ Z6},Q (.tup xs) Z6->V5 c s₁.heap Z6 xs vs->xs.length=args.length->Inv c s₁ Z6->Nx c s U s₁ Z6->bT c.M c.A (call (.type id) vs) R (Er c s U E) s₁):bT c.M c.A (Zq2 (.Call (.Name m p) args [] pos) env) R (Er c s U E) s:=
 cY (XM x I h λy e=>by
  obtain rfl:=e
  rw[hk]
  exact callWith_of (P:=λh=>MA c h (.type id)) (by rw[(XK hs).1];rfl) (λY z=>z) (WA (XK hs).1 (step (ha I F hq) λvs s₁ Z6 Z J N=>eE Z λxs Z=>aE Z λq Z=>aE Z λl e=>⟨CA,r q l e J N⟩)))
theorem IP(x:Ex c G C n nm env sc)(h:X5 G sc m 210=true)(hy:Yi y=true)(ha:SE c C nm env a y):SI c C nm env (.u .Xa a) (.Call (.Name m p) [y] [] pos) tg:=.mk λ{s U L E Q R} I F hq k=>by
 refine T4 x h x.t.De (VH hy) (XO x.O hy ha WB) (Q:=λv U1=>Wj v λvs=>eN vs 0 λv=>uA .Xa v Q U1) I F hq λ{vs xs s₁ Z6} q l e J N=>?_
 obtain⟨v,rfl⟩:=QZ e
 obtain⟨w,_,rfl,ev,rfl⟩:=l
 obtain⟨i,rfl,q⟩:=Yx (show Vz v _ from q)
 obtain⟨t,rfl⟩:=ev
 induction i using jI with
 |negSucc=>exact q.elim
 |ofNat j=>
 obtain⟨hj,q⟩:=q
 show bT _ _ (call (.type "range") [.int (j:Int) t]) _ _ _
 refine call_range_1 ?_
 have hr:=IsRange.new s₁.heap 0 (j:Int) 1 s₁.toks t (s₁.toks+1)
 have hLN:=Uj
 have hsz:Builtin.Range.rangeSize 0 (j:Int) 1=j:=by
  rw[rangeSize_one]
  induction j using jN with
  |zero=>rfl
  |succ j=>exact(if_pos (Int.natCast_pos.mpr (Ze2 j))).trans (Int.sub_zero _)
 have hsm:Zf3 0 (j:Int) 1=true:=by
  unfold Zf3 Builtin.Range.rangeFitsLong
  rw[hsz]
  simp only[Zk0,decide_eq_true_eq,Bool.or_eq_true,beq_iff_eq]
  rw[if_pos (by decide)]
  simp only[Zk0,decide_eq_true_eq]
  have a:-2^63<=(j:Int):=Zt4 (by decide) (aQ j)
  have b:(j:Int)<2^63:=Zo0 (Zw9.mpr hj) (by decide+kernel)
  exact⟨⟨⟨⟨by decide,a,b⟩,by decide⟩,a,b⟩,.inr ⟨(Int.add_zero (j:Int)).symm▸a,(Int.add_zero (j:Int)).symm▸b⟩⟩
 refine wpAny_pyIter_range (s:={s₁ with heap:=s₁.heap.push {cls:=.type "range",data:=.fields #[.int 0 s₁.toks,.int (j:Int) t,.int 1 (s₁.toks+1)]},toks:=s₁.toks+1+1}) hr hsm ?_
 dsimp only
 rw[Zw1,hsz]
 have hit:((s₁.heap.push {cls:=.type "range",data:=.fields #[.int 0 s₁.toks,.int (j:Int) t,.int 1 (s₁.toks+1)]}).push {cls:=.type "range_iterator",data:=.fields #[Zq8 0,Zq8 j,Zq8 1]}).get? (s₁.heap.objs.size+1)=some {cls:=.type "range_iterator",data:=.fields #[Zq8 0,Zq8 j,Zq8 1]}:=by
  rw[<-Zw1 s₁.heap {cls:=.type "range",data:=.fields #[.int 0 s₁.toks,.int (j:Int) t,.int 1 (s₁.toks+1)]}];exact bR _ rfl
 have W:=Walks.range (prog:=c.prog) (w:=c.w) x.room.handled (s₁.heap.objs.size+1) 0 1 j
 exact k q (by rw[cM,aI];exact hj) J N (PA.Ms (vs:=[]) (ys:=[]) (ty:="range_iterator") W (by rw[cM,aI]) (λi h e=>⟨_,_,e,rfl,rfl⟩) (by decide) λi v V x Y hp hx=>by
  obtain⟨t,rfl⟩:=hp
  rw[Zv3]at hx
  obtain⟨i',hi,rfl⟩:=bK.mp hx
  obtain⟨h1,h2⟩:=bE.mp hi
  rw[List.getElem_range]at h2
  subst h2
  exact⟨t,by rw[Int.zero_add,Int.mul_one];rfl⟩) (λY Y e=>cA _ (cA _ e)) ZF (λb hb=>cP.mp hb▸Y3 (bH _)) rfl (λb hb=>.inl hb) (by
   have e1:(0:Int)+((0:Nat):Int)*1=0:=by simp
   have e2:((j:Nat):Int)-((0:Nat):Int)=j:=Int.sub_zero _
   show IsRangeIter _ _ ((0:Int)+((0:Nat):Int)*1) (((j:Nat):Int)-((0:Nat):Int)) 1
   rw[e1,e2]
   exact hit)
theorem zip_get:∀{xs ys:List AV} {i:Nat} {x:AV},(Pk xs ys)[i]?=some x->∃a b,xs[i]?=some a/\ys[i]?=some b/\x=.tup [a,b]
 |[],_,i,_,h=>by induction i using jN<;>exact ZE h
 |_::_,[],i,_,h=>by induction i using jN<;>exact ZE h
 |a::_,b::_,0,_,h=>⟨a,b,rfl,rfl,(cU h).symm⟩
 |_::xs,_::ys,i+1,_,h=>zip_get (xs:=xs) (ys:=ys) (i:=i) h
theorem P4:∀{xs ys:List AV},(Pk xs ys).length=min xs.length ys.length
 |[],_=>(Nat.zero_min _).symm
 |_::_,[]=>(Nat.min_zero _).symm
 |_::xs,_::ys=>by show(Pk xs ys).length+1=min (xs.length+1) (ys.length+1);rw[P4,Nat.succ_min_succ]
theorem z9{a b:X}{y z:Expr}{m:Str}{p pos ep:Pos}{elts:List Expr}{ek:Nat}(x:Ex c G C n nm env sc)(h:X5 G sc m 211=true)(hy:Yi y=true)(hz:Yi z=true)(ha:SE c C nm env a y)(hb:SE c C nm env b z):
 SI c C nm env (.b .TP a b) (.Call (.Name m p) [y,z] [] pos) (.Tuple elts ek ep):=.mk λ{s U L E Q R} I F hq k=>by
 refine T4 x h x.t.zip (by rw[Zl1,hy];exact VH hz) (XO x.O hy ha (XO x.O hz hb WB)) (Q:=λv U1=>Wj v λvs=>eN vs 0 λv=>eN vs 1 λw=>bA .TP v w Q U1) I F hq λ{vs xs s₁ Z6} q l e J N=>?_
 refine hG ?_;intro PP
 obtain⟨v,w,rfl⟩:=IY e
 obtain⟨v',_,rfl,ev,w',_,rfl,ew,rfl⟩:=l
 obtain⟨xs,rfl,q⟩:=XA (show Rl v _ from q)
 obtain⟨ys,rfl,q⟩:=XA q
 obtain⟨vs₁,@⟨p1,_,m₁,v1⟩,hl1,n7⟩:=ev
 obtain⟨vs₂,@⟨p2,_,m₂,v2⟩,_,kF⟩:=ew
 refine call_zip_2 (is_list v1.h) (is_list v2.h) λh' a1 a2 a3 a4 a5 hz hkeep=>?_
 refine wpAny_pyIter_zip (s:={s₁ with heap:=h'}) a1 ?_
 have uM:p1<s₁.heap.objs.size:=ao v1.h
 have kE:p2<s₁.heap.objs.size:=ao v2.h
 have D:ZipApart (s₁.heap.objs.size+4) (s₁.heap.objs.size+2) (s₁.heap.objs.size+3) s₁.heap.objs.size (s₁.heap.objs.size+1) p1 p2:=by
  have uM:@LT.lt Nat _ p1 s₁.heap.objs.size:=uM
  have kE:@LT.lt Nat _ p2 s₁.heap.objs.size:=kE
  constructor<;>(intro(z:@Eq Nat _ _);lia)
 have W:=WalksT.zip2 (prog:=c.prog) (w:=c.w) x.room.handled _ _ _ _ _ _ _ D vs₁.toArray vs₂.toArray
 have mem:∀{P:aV->Prop} {a b d e f:aV},P a->P b->P d->P e->P f->∀x∈[a,b,d,e,f],P x:=λ{P a b d e f} ha hb hd he hf x hx=>by
  rcases cJ.mp hx with rfl|hx
  ·exact ha
  rcases cJ.mp hx with rfl|hx
  ·exact hb
  rcases cJ.mp hx with rfl|hx
  ·exact hd
  rcases cJ.mp hx with rfl|hx
  ·exact he
  ·exact cP.mp hx▸hf
 refine k q (by rw[P4];exact c7 (Nat.min_le_left ..) hl1) J N (PA.IS (vs:=vs₁++vs₂) (ys:=xs++ys) (hid:=[s₁.heap.objs.size+4,s₁.heap.objs.size+2,s₁.heap.objs.size+3,s₁.heap.objs.size,s₁.heap.objs.size+1]) W ?_ (λb hb=>?_) (λi h Z=>aE Z λb1 Z=>aE Z λb2 Z=>aE Z λnZ Z=>aE Z λnY Z=>aE Z λnU _=>let⟨_,_,b3⟩:=nZ;let⟨_,b4,_⟩:=nY;let⟨_,b5,_⟩:=nU;mem ⟨_,b1⟩ ⟨_,b2⟩ ⟨_,b3⟩ ⟨_,b4⟩ ⟨_,b5⟩) λi fz V x hv hp hx=>?_)
  hkeep ZF (mem (Y3 (cR _ _)) (Y3 (cR _ _)) (Y3 (cR _ _)) Zz (Y3 (cR _ _))) (n7.app kF) ?_ ⟨a1,a2,⟨_,_,a3⟩,a4,a5,⟨_,hkeep _ _ v1.h,rfl,_,rfl⟩,⟨_,hkeep _ _ v2.h,rfl,_,rfl⟩⟩
 ·rw[P4,b_,b_,n7.len,kF.len]
 ·revert b;simp
 ·obtain⟨w1,w2,e,l1,l2⟩:=ZW.split hv
  refine hG ?_;intro PP
  obtain⟨e1,e2⟩:=List.append_inj e (n7.len.trans l1.len.symm)
  subst e1;subst e2
  refine hG ?_;intro PP
  obtain⟨y1,y2,h1,h2,rfl⟩:=hp
  obtain⟨x1,x2,g1,g2,rfl⟩:=zip_get hx
  obtain⟨u1,hu1,ig⟩:=l1.get g1
  obtain⟨u2,kD,h_⟩:=l2.get g2
  rw[aY]at h1 h2
  rw[h1]at hu1;cases hu1
  rw[h2]at kD;cases kD
  exact⟨_,rfl,.cons ig (.cons h_ .nil)⟩
 ·intro b hb
  simp only[cJ,Zx9,or_false]at hb⊢
  rcases hb with rfl|rfl|rfl|rfl|rfl|rfl|rfl
  ·exact .inl (.inl rfl)
  ·exact .inl (.inr (.inl rfl))
  ·exact .inl (.inr (.inr (.inl rfl)))
  ·exact .inl (.inr (.inr (.inr (.inl rfl))))
  ·exact .inl (.inr (.inr (.inr (.inr rfl))))
  ·exact .inr ⟨_,v1⟩
  ·exact .inr ⟨_,v2⟩
end
section
variable{prog:Zw8}{w:Zt2}{A:aC}{E:Value->cK->Prop}{s:cK}
theorem RX(hh:A.handled=none)(hit:s.heap.IsTupleIter it t i)(ht:s.heap.IsTuple t items)
 (hQ:∀x h',items[i]?=some x->h'.IsTupleIter it t (i+1)->Zy6 it s.heap h'->Q x {s with heap:=h'})
 (hE:∀h' e,items[i]?=none->Heap.ExtBut it s.heap h'->(∃o,h'.get? e=some o/\o.cls=.type "StopIteration")->E (.ref e) {s with heap:=h'}):
 bT (model prog w) A (Zn0 (.ref it)) Q E s:=by
  refine hG ?_;intro PP
  obtain⟨o,ho,hc,hd⟩:=id hit
  obtain⟨ol,g_,_,nl,hdl⟩:=ht
  dsimp only[PP]
  unfold Zn0
  refine cY (wpAny_callSpecial?_slot (name:=bN "__next__") hit.typeIs PySem.F.slot_tuple_iterator_next (wpAny_call_entry PySem.F.slot_tuple_iterator_next hit.typeIs PySem.F.entry_tuple_iterator_next ?_ (PySem.F.args_tuple_iterator_next_1 _)))
  show bT _ _ (field (.ref it) 0>>=_) _ _ s
  refine cY (Zf7 ho hd (x:=.ref t) rfl ?_)
  show bT _ _ (if(Zq6 t==Zr9)=true then _ else _) _ _ s
  rw[if_neg (show¬((Zq6 t==Zr9)=true)from Zx5)]
  show bT _ _ (field (.ref it) 1>>=_) _ _ s
  refine cY (Zf7 ho hd (x:=.int i 0) rfl ?_)
  show bT _ _ (seqItems? (.ref t)>>=_) _ _ s
  refine cY (wpAny_seqItems g_ hdl ?_)
  induction hx:items[i]?using jO with
  |some x=>
   simp only[Int.toNat_natCast,hx]
   refine cY (Zg5 ho hd (by simp) (b7 ⟨x,rfl,b7 (hQ _ _ hx ?_ (Zw7 ..))⟩))
   exact⟨_,Zz6 _ ho (Zi5 (Zs7 hd _)),(Obj.cls_mapFields ..).trans hc,by rw[Zs7 hd];simp[Zq8]⟩
  |none=>
   simp only[Int.toNat_natCast,hx]
   refine cY (Ze4 (cY (Zg5 ho hd (by simp) ?_)))
   show bT _ _ (newExc (.type "StopIteration") []>>=_) _ _ _
   refine cY ?_
   simp only[newExc,newTuple]
   refine cY (Zm0 ?_ (by size_fits))
   refine cY (m:=firstArgMember _ _) (wpAny_of_eq (a:=Zr9) (by first|rfl|(simp only[firstArgMember];rfl)) ?_)
   refine Zm0 ?_ (by size_fits)
   refine cY (m:=handled) (wpAny_handled ?_)
   rw[show A.in1.handled=none from hh]
   refine wpAny_throw ?_
   exact hE _ _ hx (((Zw7 ..).extBut.push _).push _) ⟨_,bR _ rfl,rfl⟩
theorem IM(h:∀b,Q b s):bT M A (pure b) Q E s:=b7 (h b)
theorem K9(hh:A.handled=none)(it l:aV)(hne:l≠it)(items:Array Value):Draws prog w A it [it,l] items.size (λi v=>items[i]?=some v) (λi h=>h.IsTupleIter it l i/\h.IsTuple l items)where
 live:=λY Y st=>eE st.1 λo Z=>aE Z λho _=>⟨o,ho⟩
 frame:=λY Y Y st hk=>⟨st.1.at λo e=>hk it (.head _) o e,st.2.at λo e=>hk l (.tail _ (.head _)) o e⟩
 item:=λi s Q E hi st hQ=>RX hh st.1 st.2 (λx h' hx nT hs'=>hQ _ h' s.toks hx ⟨nT,st.2.extBut hs'.extBut hne⟩ hs') λh' e hx=>by rw[Zn1 hi]at hx;exact XD hx
 done:=λs Q E st hE=>RX hh st.1 st.2 (λx h' hx=>by rw[Array.getElem?_eq_none (cO _)]at hx;exact ZE hx) λh' e Y=>hE h' e
set_option tactic.hygienic true in
theorem RW(l:aV)(items:Array Value)(n:Nat):
 Meets (Builtin.«enumerate.__new__» ⟨[.type "enumerate",.ref l],[]⟩) (λY R s=>s.heap.get? l=some (Xe "tuple" items.toList n)/\
  R (.ok (.ret (.ref (s.heap.push {cls:=.type "tuple_iterator",data:=.fields #[.ref l,.int 0 0]}).objs.size)))
   {s with heap:=(s.heap.push {cls:=.type "tuple_iterator",data:=.fields #[.ref l,.int 0 0]}).push {cls:=.type "enumerate",data:=.fields #[.none,.bool false,.ref s.heap.objs.size,Zq8 0,.none,.none]}}):=
 .of_wp λprog w A R s h=>by
  obtain⟨hp,g,d,tk,os⟩:=s;obtain⟨hl,h⟩:=h
  have hsub:=sub_enumerate
  have hL:Heap.IsTuple (Shared.heap ⟨hp,g,d,tk,os⟩) l items:=⟨_,hl,rfl,n,by simp⟩
  wp_walk using Zl9 hl
  refine wpAny_stack_any λst=>IM λb=>?_
  induction b using jB<;>
  ·wp_walk using Zl9 hl,wpAny_pyIter_tuple hL
   exact⟨_,rfl,h⟩
theorem Rr(hl:s.heap.get? l=some (Xe "tuple" vs n))
 (h:∀h',IsEnum h' (s.heap.objs.size+1) s.heap.objs.size 0 .none->h'.IsTupleIter s.heap.objs.size l 0->(∀b o,s.heap.get? b=some o->h'.get? b=some o)->Q (.ref (s.heap.objs.size+1)) {s with heap:=h'}):
 bT (model prog w) A (call (.type "enumerate") [.ref l]) Q E s:=by
  refine callType_new PySem.F.called_enumerate (by decide) (PySem.F.typeCall_enumerate_1 _) (PySem.F.newCall_enumerate_1 _) (λobj=>PySem.F.args_object_init_2 obj _) PySem.F.entry_enumerate_new (RW l vs.toArray n) ⟨by simpa using hl,?_⟩
  have hz:(s.heap.push {cls:=.type "tuple_iterator",data:=.fields #[.ref l,.int 0 0]}).objs.size=s.heap.objs.size+1:=Zw1 ..
  show _/\_
  rw[hz]
  have he:IsEnum ((s.heap.push {cls:=.type "tuple_iterator",data:=.fields #[.ref l,.int 0 0]}).push
   {cls:=.type "enumerate",data:=.fields #[.none,.bool false,.ref s.heap.objs.size,Zq8 0,.none,.none]}) (s.heap.objs.size+1) s.heap.objs.size 0 .none:=by
   have:=bR (s.heap.push {cls:=.type "tuple_iterator",data:=.fields #[.ref l,.int 0 0]})
    (o:={cls:=.type "enumerate",data:=.fields #[.none,.bool false,.ref s.heap.objs.size,Zq8 0,.none,.none]}) rfl
   rw[hz]at this;exact this
  exact⟨⟨_,he,rfl⟩,h _ he ⟨_,cA _ (bR _ rfl),rfl,rfl⟩ λb o x=>cA _ (cA _ x)⟩
end
theorem OH:∀{xs:List AV} {k i:Nat} {x:AV},(TN k xs)[i]?=some x->∃a,xs[i]?=some a/\x=.tup [.int (.ofNat (k+i)),a]
 |[],_,i,_,h=>by induction i using jN<;>exact ZE h
 |a::_,k,0,_,h=>⟨a,rfl,(cU h).symm⟩
 |_::xs,k,i+1,_,h=>eE (OH (xs:=xs) (k:=k+1) (i:=i) h) λa Z=>aE Z λh1 h2=>⟨a,h1,by rw[h2,Zx7];rfl⟩
theorem RV:∀{xs:List AV} {k:Nat},(TN k xs).length=xs.length
 |[],_=>rfl
 |_::xs,k=>congrArg (·+1) (RV (xs:=xs) (k:=k+1))
section
variable{c:Cx}{G:Str->AV->Bool}{C:ZV}{n:Nat}{nm:List Str}{env:Env}{sc:aa}{s s₁:cK}{U Z6:US}{L:Loc}{E:US->Prop}
theorem Ew(x:Ex c G C n nm env sc)(h:X5 G sc m 212=true)(hy:Yi y=true)(ha:SE c C nm env a y):
 SI c C nm env (.u .SZ a) (.Call (.Name m p) [y] [] pos) (.Tuple elts ek ep):=.mk λ{s U L E Q R} I F hq k=>by
  refine T4 x h x.t.kG (VH hy) (XO x.O hy ha WB) (Q:=λv U1=>Wj v λvs=>eN vs 0 λv=>uA .SZ v Q U1) I F hq λ{vs xs s₁ Z6} q l e J N=>?_
  refine hG ?_;intro PP
  obtain⟨v,rfl⟩:=QZ e
  obtain⟨w,_,rfl,ev,rfl⟩:=l
  obtain⟨xs,rfl,q⟩:=XB (show Wj v _ from q)
  obtain⟨vs,@⟨p1,_,m₁,v1⟩,hl,el⟩:=ev
  refine Rr v1.h λh' a1 a2 hkeep=>?_
  refine wpAny_pyIter_enum (s:={s₁ with heap:=h'}) a1 ?_
  have uM:p1<s₁.heap.objs.size:=ao v1.h
  have n1:p1≠s₁.heap.objs.size:=aD uM
  have n2:s₁.heap.objs.size+1≠p1:=Zz9 (Nat.lt_succ_of_lt uM)
  have n3:s₁.heap.objs.size+1≠s₁.heap.objs.size:=Nat.succ_ne_self _
  have W:=WalksT.enumerateD (K9 (prog:=c.prog) (w:=c.w) (A:=c.A.in1) x.room.handled s₁.heap.objs.size p1 n1 vs.toArray) (s₁.heap.objs.size+1) n3 (λz=>by
   rcases cJ.mp z with z|z
   ·exact n3 z
   ·exact n2 (cP.mp z)) (.head _)
  have mem:∀{P:aV->Prop} {a b:aV},P a->P b->∀x∈[a,b],P x:=λ{P a b} ha hb x hx=>by
   rcases cJ.mp hx with rfl|hx
   ·exact ha
   ·exact cP.mp hx▸hb
  refine k q (by rw[RV];exact hl) J N (PA.IS (vs:=vs) (ys:=xs) (hid:=[s₁.heap.objs.size+1,s₁.heap.objs.size]) W (by rw[RV,b_,el.len]) (λb hb=>hb) (λi h Z=>aE Z λIQ Z=>aE Z λAh _=>let⟨_,b1⟩:=IQ;let⟨_,b2,_⟩:=Ah;mem ⟨_,b1⟩ ⟨_,b2⟩) λi fz V x hv hp hx=>?_)
   hkeep ZF (mem (Y3 (bH _)) Zz) el (λb hb=>?_) ⟨⟨_,a1⟩,a2,⟨_,hkeep _ _ v1.h,rfl,_,rfl⟩⟩
  ·obtain⟨t,z,h1,rfl⟩:=hp
   refine hG ?_;intro PP
   obtain⟨u,g1,rfl⟩:=OH hx
   obtain⟨u',hu,eu⟩:=hv.get g1
   rw[aY]at h1
   rw[h1]at hu;cases hu
   exact⟨_,rfl,.cons ⟨t,by rw[a_];rfl⟩ (.cons eu .nil)⟩
  ·rcases cJ.mp hb with rfl|hb
   ·exact .inl (.head _)
   rcases cJ.mp hb with rfl|hb
   ·exact .inl (.tail _ (.head _))
   ·exact .inr ⟨_,cP.mp hb▸v1⟩
end
structure Wr(W:aV->Prop)(h h':Zz0):Prop where
 keep:∀a o,h.get? a=some o->¬W a->h'.get? a=some o
 has:∀a o,h.get? a=some o->∃o',h'.get? a=some o'
def nS(o:Obj):Prop:=∀vs,o.data≠.fields vs
def nR(l:List Env)(W:aV->Prop)(h h':Zz0):Prop:=∀a o,W a->SD l a->h.get? a=some o->nS o->∃o',h'.get? a=some o'/\nS o'
section
variable{c:Cx}{nm:List Str}{env:Env}{s s₁:cK}{U Z6 U':US}{L:Loc}{W:aV->Prop}{h0 h h':Zz0}{l:List Env}
theorem Wr.same(S:Nt hid h h')(has:∀b∈hid,∃o,h'.get? b=some o):Wr (·∈hid) h h':=⟨λa o e n=>S a o n e,λa o e=>by
 by_cases x:a∈hid
 ·exact has a x
 ·exact⟨o,S a o x e⟩⟩
theorem YL.wr(S:YL W h h'):Wr W h h':=⟨S.keep,λa o e=>by
 by_cases x:W a
 ·exact(S.own a o e x).imp λY z=>z.1
 ·exact⟨o,S.keep a o e x⟩⟩
theorem YL.ry(S:YL W h h'):nR l W h h':=λa o w Y e n=>(S.own a o e w).imp λY z=>⟨z.1,z.2 n⟩
theorem Wr.view(M:Wr W h h')(hW:∀a,W a->c.X a)(v:Vw c h U a o):Vw c h' U a o:=⟨M.keep a o v.h λz=>v.x (hW a z),v.u,v.x⟩
theorem Wr.inv(M:Wr W s.heap h')(hW:∀a,W a->c.X a)(fk:nR c.l W s.heap h')(I:Inv c s U):Inv c {s with heap:=h',toks:=t} U:=by
 refine⟨⟨λa o e=>aE (I.Yr.obj a o e) λx Z=>eE Z λob Z=>aE Z λp q=>⟨x,ob,M.keep _ _ p λz=>x (hW a z),q.mono λY Y=>M.view hW⟩,λa o e=>M.view hW (I.Yr.base a o e)⟩,?_,λa x=>eE (I.xlt a x) λo e=>M.has a o e,I.frames,I.fx⟩
 have:∀{l':List Env},(∀e∈l',e∈c.l)->s.heap.FunFrames c.g l'->h'.FunFrames c.g l':=by
  intro l'
  induction l' with
  |nil=>intro Y Y;trivial
  |cons env r ih=>
   rintro hl ⟨a,⟨L,o,b,cc,d,e⟩,f⟩
   have:∃o',h'.get? L=some o'/\nS o':=by
    by_cases w:W L
    ·exact fk L o w ⟨env,hl env (.head _),b⟩ d e
    ·exact⟨o,M.keep _ _ d w,e⟩
   obtain⟨o',e',nf⟩:=this
   exact⟨a,⟨L,o',b,cc,e',nf⟩,ih (λe he=>hl e (.tail _ he)) f⟩
 exact this (λY h=>h) I.Tr
theorem Wr.stay(M:Wr W h h')(k:R9 W' l h0 U h U')(nw:∀a o,W a->h0.get? a=some o->U a=none->W' a):R9 W' l h0 U h' U':=
 ⟨λa o e u n f=>M.keep _ _ (k.obj a o e u n f) λz=>n (nw a o z e u),λa o e u n=>eE (k.fr a o e u n) λsl e'=>⟨sl,M.keep _ _ e' λz=>n (nw a o z e u)⟩,λa o e u=>eE (k.own a o e u) λ_ e'=>M.has _ _ e',k.dom⟩
theorem Wr.kept(M:Wr W h h')(k:YF l h0 U0 h U)(nw:∀a o,W a->h0.get? a=some o->U0 a=none->False):YF l h0 U0 h' U:=
 ⟨λa o e u n=>M.keep _ _ (k.obj a o e u n) λz=>nw a o z e u,λa o e u=>eE (k.fr a o e u) λsl e'=>⟨sl,M.keep _ _ e' λz=>nw a o z e u⟩,k.dom⟩
theorem Wr.fr(M:Wr W s.heap h')(hW:∀a,W a->c.X a)(F:Fr c s U env nm L)(hl:¬W env.locals)(hc:∀n c,env.cells.lookup n=some c->¬W c):Fr c {s with heap:=h',toks:=t} U env nm L:=
 F.mono (λY Y=>M.view hW) (λo e=>⟨o.slots,M.keep _ _ e hl⟩) λn c e o e2=>⟨o.slots,M.keep _ _ e2 (hc n c e)⟩
theorem YL.refl:YL W h h:=⟨λY Y e Y=>e,λa o e Y=>⟨o,e,λk=>k⟩⟩
theorem YL.trans(a:YL W h h')(b:YL W h' h''):YL W h h'':=
 ⟨λx o e n=>b.keep x o (a.keep x o e n) n,λx o e wx=>eE (a.own x o e wx) λo' Z=>aE Z λe' k=>eE (b.own x o' e' wx) λg8 Z=>aE Z λe'' k'=>⟨g8,e'',λz=>k' (k z)⟩⟩
inductive Cz(env:Env)(nm:List Str)(W:aV->Prop):List Nat->List Expr->Prop
 |nil:Cz env nm W [] []
 |cons {i is n p es}:nm[i]?=some n->R_ env W n->Cz env nm W is es->Cz env nm W (i::is) (.Name n p::es)
theorem Cz.each(T:Cz env nm W is es):(Zl8 es env).length=es.length/\(Zl8 es env).findIdx? (·.1)=none/\is.length=es.length:=by
 induction T with
 |nil=>exact⟨rfl,rfl,rfl⟩
 |@cons i is n p es _ _ t ih=>
  refine⟨congrArg (·+1) ih.1,?_,congrArg (·+1) ih.2.2⟩
  show((false,Zg4 (.Name n p) env)::Zl8 es env).findIdx? (·.1)=none
  rw[List.findIdx?_cons,ih.2.1];rfl
theorem Mr{is:List Nat}{xs:List AV}{L:Loc}{K:Loc->Prop}(h:Zs is xs L K):xs.length=is.length:=by
 induction is generalizing xs L with
 |nil=>induction xs using jL with
  |nil=>rfl
  |cons v xs=>exact h.elim
 |cons i is ih=>induction xs using jL with
  |nil=>exact h.elim
  |cons v xs=>exact congrArg (·+1) (ih (xs:=xs) (L:=L.set i (some v)) h)
theorem K8{E:Value->cK->Prop}{Q:Unit->cK->Prop}(O:ZO env nm c.X)(hW:∀a,W a->c.X a){is:List Nat}{es:List Expr}{fz:List Value}{xs:List AV}{s:cK}{L:Loc}{K:Loc->Prop}(T:Cz env nm W is es)(F:Fr c s U env nm L)(l:V5 c s.heap U xs fz)(hq:Zs is xs L K)
 (q:∀{h' t L'},YL W s.heap h'->Wh c.gv (Vw c h' U) h' env nm L'->K L'->Q () {s with heap:=h',toks:=t}):
 bT c.M c.A (assignInOrder ((Zl8 es env).map (·.2)) fz) Q E s:=by
 induction T generalizing fz xs s L with
 |nil=>
  induction xs using jL with
  |nil=>obtain rfl:=l;exact assignInOrder_nil (q (t:=s.toks) .refl F hq)
  |cons _ _=>exact hq.elim
 |@cons i is n p es h1 h2 t ih=>
  induction xs using jL with
  |nil=>exact hq.elim
  |cons x xs=>
   exact l.el λv vs e ex l=>by
    rw[e]
    show bT _ _ (assignInOrder (Zg4 (.Name n p) env::(Zl8 es env).map (·.2)) (v::vs)) _ _ _
    exact Zn5 (Zr3 (VJ F O h1 h2 ex λh' tk S F'=>ih (s:={s with heap:=h',toks:=tk}) (L:=L.set i (some x)) F' (l.mono λa o v=>S.wr.view hW v) hq λS' vJ k=>q (S.trans S') vJ k))
def K7(env:Env)(nm:List Str)(W:aV->Prop)(is:List Nat)(tg:Expr):Prop:=eS False False tg (kn:=λn Y Y=>∃i,is=[i]/\nm[i]?=some n/\R_ env W n) (kp:=λes Y Y Y=>(∀i,is≠[i])/\Cz env nm W is es)
theorem TZ{is:List Nat}{x:AV}{K:Loc->Prop}(h:∀i,is≠[i])(hb:ZB is x L K):∃xs,x=.tup xs/\Zs is xs L K:=by
 induction is using jL with
 |nil=>exact XB hb
 |cons i r=>induction r using jL with
  |nil=>exact absurd rfl (h i)
  |cons j r=>exact XB hb
theorem Vg{E:Value->cK->Prop}{Q:Unit->cK->Prop}{is:List Nat}{tg:Expr}{v:Value}{x:AV}{K:Loc->Prop}(hh:c.A.handled=none)(O:ZO env nm c.X)(hW:∀a,W a->c.X a)(T:K7 env nm W is tg)(F:Fr c s U env nm L)
 (d:Drawn c.gv (Vw c s.heap U) s.heap tg v x) (hb:ZB is x L K) (q:∀{h' t L'},YL W s.heap h'->Wh c.gv (Vw c h' U) h' env nm L'->K L'->Q () {s with heap:=h',toks:=t}):bT c.M c.A (Zg4 tg env v) Q E s:=by
 induction tg using jE with
 |Name m p=>
  refine hG ?_;intro PP
  obtain⟨i,rfl,h1,h2⟩:=T
  exact Zr3 (VJ F O h1 h2 d λh' t S F'=>q S F' hb)
 |Tuple es k p=>
  refine hG ?_;intro PP
  obtain⟨h1,T⟩:=T
  obtain⟨xs,rfl,hb'⟩:=TZ h1 hb
  obtain⟨a,fz,m,rfl,⟨o,e1,e2,e3⟩,l1⟩:=d xs rfl
  refine wpAny_assign_Tuple hh (⟨o,e1,e2,m,e3⟩:s.heap.IsTuple a fz.toArray) (by rw[T.each.1,<-T.each.2.2,<-Mr hb',b_,l1.len]) T.each.2.1 λh' he=>?_
  have k:∀b o,s.heap.get? b=some o->h'.get? b=some o:=λb o e=>he b o (aD (ao e)) e
  have kV:∀b o,Vw c s.heap U b o->Vw c h' U b o:=λb o v=>⟨k _ _ v.h,v.u,v.x⟩
  exact K8 (s:={s with heap:=h'}) O hW T (F.mono kV (λo e=>⟨o.slots,k _ _ e⟩) λY Y Y o e=>⟨o.slots,k _ _ e⟩) (l1.mono kV) hb' λS vJ z=>q ⟨λa o e n=>S.keep a o (k _ _ e) n,λa o e x=>S.own a o (k _ _ e) x⟩ vJ z
 |_=>exact T.elim
theorem K6(k:∀n,To (sc.names.lookup n)=true->R_ env W n)(h:Mu nm sc is es=true):Cz env nm W is es:=by
 induction is generalizing es with
 |nil=>exact Zb h λY=>.nil
 |cons i is ih=>exact Zq h λx r h=>YX h λh1 h2=>YZ h1 λn p h=>YX h λh3 h4=>.cons (eq_of_beq h3) (k _ h4) (ih h2)
theorem RU(h:R5 nm sc is t=true)(k:∀n,To (sc.names.lookup n)=true->R_ env W n):K7 env nm W is t:=by
 induction is using jL with
 |nil=>exact Zv h
 |cons i r=>induction r using jL with
  |nil=>exact YZ (show YA t (λn=>nm[i]?==some n&&To (sc.names.lookup n))=true from h) λn p h=>YX h λh1 h2=>⟨i,rfl,eq_of_beq h1,k _ h2⟩
  |cons j r=>exact W5 (show Tp t (λes=>Mu nm sc (i::j::r) es)=true from h) λes q p h=>⟨λi e=>(nomatch e),K6 k h⟩
theorem Uq(h:To (env.kindOf n)=true):R_ env (eH env) n:=by
 rcases b9.mp h with h|h
 ·exact .inl ⟨beq_iff_eq.mp h,.inl rfl⟩
 ·exact .inr ⟨beq_iff_eq.mp h,λc e=>.inr ⟨n,e⟩⟩
theorem Wq(O:ZO env nm c.X):eH env a->c.X a:=λz=>z.elim (λe=>e▸O.xl) λZ=>eE Z λn e=>O.xc n a e
theorem Inv.shrink(I:Inv (c.wX X') s U)(sm:Nt hid s.heap h')(hX:∀a,c.X a->X' a)(hh:∀b∈hid,X' b)(hx:∀b∈hid,¬c.X b)(fx:∀a,SD c.l a->c.X a):Inv c {s with heap:=h',toks:=t} U:=by
 have V:∀a o,Vx X' s.heap U a o->Vw c h' U a o:=λa o v=>⟨sm _ _ (λz=>v.x (hh a z)) v.h,v.u,λz=>v.x (hX a z)⟩
 refine⟨⟨λa o e=>?_,λa o e=>V a o (I.Yr.base a o e)⟩,TH (λa o f e=>⟨o.slots,sm a o (λz=>hx a z (fx a f)) e⟩) I.Tr,λa x=>eE (I.xlt a (hX a x)) λo e=>⟨o,sm a o (λz=>hx a z x) e⟩,I.frames,fx⟩
 refine hG ?_;intro PP
 obtain⟨x,ob,p,q⟩:=I.Yr.obj a o e
 exact⟨λz=>x (hX a z),ob,sm _ _ (λz=>x (hh a z)) p,Wi.mono (c:=c) V q⟩
end
theorem Tl(h:e1.frame=e2.frame)(x:Value):Ze9 x e1=Ze9 x e2:=by
 unfold Ze9 PySem.frameOf
 rw[h]
noncomputable def Xy(names:List (Str×Zy9))(env:Env):List (Str×aV):=((names.filter (·.2==.free)).map λx=>(x.1,(env.cells.lookup x.1).getD 0)).reverse
abbrev z8(names:List (Str×Zy9))(env:Env):Prop:=∀x∈names,x.2=.free->∃c,env.cells.lookup x.1=some c
theorem RT(env:Env):∀(names:List (Str×Zy9)) (acc:List (Str×aV)),z8 names env->
 (forIn names acc λ(x:Str×Zy9) (cs:List (Str×aV))=>(if x.2==.free then do let a<-cellOf env x.1;pure (.yield ((x.1,a)::cs))else pure (.yield cs):Sem (ForInStep (List (Str×aV)))))=pure (Xy names env++acc)
 |[],acc,_=>rfl
 |(n,k)::r,acc,h=>by
  have ih:=λacc=>RT env r acc λx hx=>h x (.tail _ hx)
  rw[List.forIn_cons]
  by_cases hk:k=.free
  ·subst hk
   obtain⟨c,hc⟩:=h (n,.free) (.head _) rfl
   have hc':cellOf env n=pure c:=by unfold cellOf;rw[hc]
   rw[if_pos (show((n,Zy7).2==.free)=true from rfl),hc',pure_bind,pure_bind]
   refine(ih _).trans (congrArg pure ?_)
   have e:Xy ((n,.free)::r) env=Xy r env++[(n,(env.cells.lookup n).getD 0)]:=Zv2
   rw[e,hc,cz];rfl
  ·have q:(k==Zy7)=false:=beq_eq_false_iff_ne.mpr hk
   rw[if_neg (by show¬(k==Zy7)=true;rw[q];exact Zx5),pure_bind]
   refine(ih _).trans (congrArg pure ?_)
   have e:Xy ((n,k)::r) env=Xy r env:=by unfold Xy;rw[Zk8 (by show¬(k==Zy7)=true;rw[q];exact Zx5)]
   rw[e]
theorem eF(h:z8 scope.names env):closureFor scope env=pure (Xy scope.names env):=by
 have:=RT env scope.names [] h
 rw[cB]at this
 have e:closureFor scope env=(forIn scope.names [] λ(x:Str×Zy9) (cs:List (Str×aV))=>(if x.2==.free then do let a<-cellOf env x.1;pure (.yield ((x.1,a)::cs))else pure (.yield cs):Sem (ForInStep (List (Str×aV)))))>>=λr=>pure r:=rfl
 rw[e,this];rfl
theorem RS{f:Str->Zy9->Zy9}:∀{names:List (Str×Zy9)} {x:Str},(names.map λp=>(p.1,f p.1 p.2)).lookup x=(names.lookup x).map (f x)
 |[],_=>rfl
 |(n,k)::r,x=>by
  rw[Zp9,Zx8,Zx8,RS (names:=r)]
  induction q:x==n using jB with
  |true=>rw[eq_of_beq q];rfl
  |false=>rfl
section
variable{c:Cx}{nm:List Str}{env:Env}{sc sc':aa}{X':aV->Prop}{names:List (Str×Zy9)}
structure V1(sc' sc:aa)(nm:List Str)(tgt:List Nat):Prop where
 kind:sc'.kind=.function
 nd:(sc'.names.map (·.1)).Nodup
 cell:∀x∈sc'.names,x.2≠.cell
 loc:∀x∈sc'.names,x.2=.local->(∃i∈tgt,nm[i]?=some x.1)\/x.1∉nm
 free:∀x∈sc'.names,x.2=.free->sc.names.lookup x.1=some .cell
theorem QY:∀{l:List Str},Nz l=true->l.Nodup
 |[],_=>Zr2
 |x::r,h=>by
  obtain⟨h1,h2⟩:=Z0 h
  exact bU.mpr ⟨λm=>(by rw[Zi2.mpr m]at h1;exact Zv h1),QY h2⟩
theorem V1.of(h:Ny nm sc' sc tgt=true):V1 sc' sc nm tgt:=by
 obtain⟨h1,h2⟩:=Z0 h
 obtain⟨h2,h3⟩:=Z0 h2
 have h3:=λx hx=>Z0 (aJ.mp h3 x hx)
 refine⟨beq_iff_eq.mp h1,QY h2,λx hx=>bne_iff_ne.mp (h3 x hx).1,λx hx hl=>?_,λx hx hf=>?_⟩
 ·have h4:=(Z0 (h3 x hx).2).1
  rw[hl]at h4
  rcases b9.mp (show((tgt.any λi=>nm[i]?==some x.1)||!nm.contains x.1)=true from h4)with z|z
  ·obtain⟨i,hi,z⟩:=Zq3.mp z
   exact .inl ⟨i,hi,beq_iff_eq.mp z⟩
  ·exact .inr λm=>by rw[Zi2.mpr m]at z;exact Zv z
 ·have h4:=(Z0 (h3 x hx).2).2
  rw[hf]at h4
  exact beq_iff_eq.mp h4
theorem VG(h:z8 names env){n:Str}{c:aV}(e:(Xy names env).lookup n=some c):env.cells.lookup n=some c:=by
 obtain⟨x,hx,e'⟩:=bu.mp (Zj9.mp (Zy8 e))
 obtain⟨h1,h2⟩:=Zs5.mp hx
 obtain⟨c',hc⟩:=h x h1 (beq_iff_eq.mp h2)
 cases e'
 rw[hc];rfl
theorem IL(h:z8 names env)(hn:(n,Zy7)∈names):∃c,(Xy names env).lookup n=some c/\env.cells.lookup n=some c:=by
 have hm:n∈(Xy names env).map (·.1):=by
  unfold Xy
  rw[List.map_reverse,Zj9,Zo2]
  exact bu.mpr ⟨(n,.free),Zs5.mpr ⟨hn,rfl⟩,rfl⟩
 have:((Xy names env).lookup n).isSome=true:=by
  generalize Xy names env=l at hm
  induction l with
  |nil=>cases hm
  |cons a r ih=>
   obtain⟨m,d⟩:=a
   rw[Zx8]
   induction q:n==m using jB with
   |true=>rfl
   |false=>exact ih ((cJ.mp hm).resolve_left (beq_eq_false_iff_ne.mp q))
 obtain⟨d,hd⟩:=Zz2.mp this
 exact⟨d,hd,VG h hd⟩
theorem IK(h:z8 names env)(nd:(names.map (·.1)).Nodup)(hc:env.cells.Pairwise λx y=>x.2≠y.2):(Xy names env).Pairwise λx y=>x.2≠y.2:=by
 unfold Xy
 rw[List.pairwise_reverse,List.pairwise_map]
 have vO:(names.filter (·.2==.free)).Pairwise λx y=>x.1≠y.1:=(List.pairwise_map.mp nd).sublist List.filter_sublist
 refine(List.Pairwise.and_mem.mp vO).imp λ{a b} Z=>?_
 refine hG ?_;intro PP
 obtain⟨ha,hb,hne⟩:=Z
 obtain⟨a1,a2⟩:=Zs5.mp ha
 obtain⟨b1,b2⟩:=Zs5.mp hb
 obtain⟨c1,h1⟩:=h a a1 (beq_iff_eq.mp a2)
 obtain⟨c2,h2⟩:=h b b1 (beq_iff_eq.mp b2)
 dsimp only[PP]
 rw[h1,h2]
 intro z
 have z:c2=c1:=z
 subst z
 exact hne (name_of_addr hc (Zy8 h1) (Zy8 h2))
noncomputable def fy(is:List Nat)(L:Loc):Loc:=is.foldl (λL i=>L.set i none) L
theorem VF:∀{is:List Nat} {L:Loc},(fy is L).length=L.length
 |[],_=>rfl
 |i::is,L=>by show(fy is (L.set i none)).length=_;rw[VF,aB]
theorem VE:∀{is:List Nat} {L:Loc} {j:Nat} {v:AV},(fy is L)[j]?=some (some v)->L[j]?=some (some v)/\j∉is
 |[],_,_,_,h=>⟨h,Zx9⟩
 |i::is,L,j,v,h=>by
  obtain⟨a,b⟩:=VE (is:=is) (L:=L.set i none) h
  rcases eB a with⟨_,e⟩|⟨n,e⟩
  ·exact XD e
  ·exact⟨e,λz=>(cJ.mp z).elim n b⟩
theorem Mq:∀{is:List Nat} {vs:List AV} {L:Loc} {K:Loc->Prop},Zs is vs L K->∃L',K L'/\Zs is vs L (·=L')/\L'.length=L.length/\∀j,j∉is->L'[j]?=L[j]?
 |[],[],L,_,h=>⟨L,h,rfl,rfl,λY Y=>rfl⟩
 |[],_::_,_,_,h=>h.elim
 |_::_,[],_,_,h=>h.elim
 |i::is,v::vs,L,K,h=>by
  obtain⟨L',a,b,d,e⟩:=Mq (is:=is) (vs:=vs) (L:=L.set i (some v)) (K:=K) h
  exact⟨L',a,b,d.trans aB,λj hj=>(e j λz=>hj (.tail _ z)).trans (aq λ(z:i=j)=>hj (z▸.head _))⟩
theorem OG{is:List Nat}{x:AV}{L:Loc}{K:Loc->Prop}(h:ZB is x L K):∃L',K L'/\ZB is x L (·=L')/\L'.length=L.length/\∀j,j∉is->L'[j]?=L[j]?:=by
 by_cases hi:∃i,is=[i]
 ·obtain⟨i,rfl⟩:=hi
  exact⟨_,h,rfl,aB,λj hj=>aq λ(z:i=j)=>hj (z▸.head _)⟩
 ·have hi:∀i,is≠[i]:=λi e=>hi ⟨i,e⟩
  obtain⟨xs,rfl,h0⟩:=TZ hi h
  obtain⟨L',a,b,d⟩:=Mq h0
  refine⟨L',a,?_,d⟩
  induction is using jL with
  |nil=>exact b
  |cons i r=>induction r using jL with
   |nil=>exact absurd rfl (hi i)
   |cons j r=>exact b
theorem OF:∀{is:List Nat} {vs:List AV} {L L0:Loc} {K:Loc->Prop},L.length=L0.length->(∀j,j∉is->L0[j]?=L[j]?)->Zs is vs L K->Zs is vs L0 K
 |[],[],L,L0,K,_,h,q=>by rw[show L0=L from Zm4 λj=>h j Zx9];exact q
 |[],_::_,_,_,_,_,_,q=>q.elim
 |_::_,[],_,_,_,_,_,q=>q.elim
 |i::is,v::vs,L,L0,K,hn,h,q=>by
  refine OF (is:=is) (vs:=vs) (L:=L.set i (some v)) (L0:=L0.set i (some v)) (K:=K) (by rw[aB,aB,hn]) (λj hj=>?_) q
  by_cases e:j=i
  ·subst e;rw[List.getElem?_set,List.getElem?_set,hn,if_pos rfl,if_pos rfl]
  ·rw[aq (Zp2 e),aq (Zp2 e)]
   exact h j λz=>(cJ.mp z).elim e hj
theorem OE:∀{is:List Nat} {L:Loc} {j:Nat},j∉is->(fy is L)[j]?=L[j]?
 |[],_,_,_=>rfl
 |i::is,L,j,h=>(OE (is:=is) (L:=L.set i none) λz=>h (.tail _ z)).trans (aq λ(e:i=j)=>h (e▸.head _))
theorem Nr{is:List Nat}{x:AV}{L:Loc}{K:Loc->Prop}(h:ZB is x L K):ZB is x (fy is L) K:=by
 by_cases hi:∃i,is=[i]
 ·obtain⟨i,rfl⟩:=hi
  have h:K (L.set i (some x)):=h
  rw[<-List.set_set (a:=none)]at h
  exact h
 ·have hi:∀i,is≠[i]:=λi e=>hi ⟨i,e⟩
  obtain⟨xs,rfl,h0⟩:=TZ hi h
  have h1:=OF (L0:=fy is L) VF.symm (λj hj=>OE hj) h0
  induction is using jL with
  |nil=>exact h1
  |cons i r=>induction r using jL with
   |nil=>exact absurd rfl (hi i)
   |cons j r=>exact h1
theorem Wh.sub(F:Wh gv V h env nm L)(hl:L'.length=L.length)(k:∀(j:Nat) (v:AV),L'[j]?=some (some v)->L[j]?=some (some v)):Wh gv V h env nm L':=
 eE F.ns λm Z=>aE Z λh1 h2=>⟨⟨m,h1,λi n v a b=>h2 i n v a (k i v b)⟩,F.cell,hl.trans F.len⟩
theorem IJ{tgt:List Nat}{Cn:aV}{L:Loc}{gv:Nat->Value}{V:fD}{h:Zz0}(H:V1 sc' sc nm tgt)(O:ZO env nm c.X)(hs:env.scope=sc)(F:Wh gv V h env nm L)(k:∀a,c.X a->X' a)(hC:X' Cn)(g7:¬c.X Cn)(hf:z8 sc'.names env):
 ZO (Zn4 sc' (Xy sc'.names env) Cn env) nm X'/\(Zn4 sc' (Xy sc'.names env) Cn env).scope=YK sc' sc/\(∀n,sc'.names.lookup n=some .local->(Zn4 sc' (Xy sc'.names env) Cn env).kindOf n=some .local)/\
 ∀{V':fD} {h':Zz0} {m:Str->Option Value},h'.Ns Cn m->(∀a o,V a o->V' a o)->(∀n c,env.cells.lookup n=some c->OU h h' c)->Wh gv V' h' (Zn4 sc' (Xy sc'.names env) Cn env) nm (fy tgt L):=by
 have hsc:(Zn4 sc' (Xy sc'.names env) Cn env).scope=YK sc' sc:=by
  show Zf2 sc' env=YK sc' sc
  unfold Zf2 YK Env.kindOf
  rw[hs]
 have hok:sc.kind=.function:=by rw[<-hs];exact O.kind
 have hlk:∀n,(Zn4 sc' (Xy sc'.names env) Cn env).kindOf n=(sc'.names.lookup n).map λk=>if(k==Zy7&&sc.kind==.function&&sc.names.lookup n==some .cell)then .cell else k:=λn=>by
  unfold Env.kindOf
  rw[hsc,<-RS (f:=λn k=>if(k==Zy7&&sc.kind==.function&&sc.names.lookup n==some .cell)then .cell else k)]
  show((sc'.names.map λ(x:Str×Zy9)=>if(x.2==Zy7&&sc.kind==.function&&sc.names.lookup x.1==some .cell)then(x.1,NameKind.cell)else(x.1,x.2)).lookup n)=_
  refine congrArg (Zf5 n) (Zt5 λx Y=>?_)
  split<;>rfl
 have gZ:∀{n},(Zn4 sc' (Xy sc'.names env) Cn env).kindOf n=some .local->sc'.names.lookup n=some .local:=λ{n} e=>by
  rw[hlk]at e
  refine hG ?_;intro PP
  obtain⟨kk,q,e⟩:=bK.mp e
  dsimp only[PP]
  split at e
  ·cases e
  ·rw[q,e]
 have kC:∀{n},AS ((Zn4 sc' (Xy sc'.names env) Cn env).kindOf n)->(n,Zy7)∈sc'.names/\sc.names.lookup n=some .cell:=λ{n} e=>by
  rw[hlk]at e
  have:∃kk,sc'.names.lookup n=some kk/\(kk=.free\/kk=.cell):=by
   rcases e with e|e
   ·obtain⟨kk,q,e⟩:=bK.mp e
    split at e
    ·rename_i z;exact⟨kk,q,.inl (beq_iff_eq.mp (Z0 (Z0 z).1).1)⟩
    ·exact⟨kk,q,.inr e⟩
   ·obtain⟨kk,q,e⟩:=bK.mp e
    split at e
    ·cases e
    ·exact⟨kk,q,.inl e⟩
  refine hG ?_;intro PP
  obtain⟨kk,q,z⟩:=this
  have hm:=Zy8 q
  rcases z with rfl|rfl
  ·exact⟨hm,H.free _ hm rfl⟩
  ·exact absurd rfl (H.cell _ hm)
 refine⟨⟨by rw[hsc];exact H.kind,O.glob,O.blt,O.nodup,IK hf H.nd O.cells,hC,λn c e=>k _ (O.xc n c (VG hf e)),λn c e z=>g7 ((show c=Cn from z)▸O.xc n c (VG hf e))⟩,hsc,λn e=>by rw[hlk,e];rfl,λ{V' h' m} hn kV kc=>⟨⟨m,hn,λj n v a b=>?_⟩,λn e=>?_,VF.trans F.len⟩⟩
 ·obtain⟨b1,b2⟩:=VE b
  refine⟨λe=>?_,λe=>?_⟩
  ·rcases H.loc _ (Zy8 (gZ e)) rfl with⟨i,hi,e⟩|e
   ·exact absurd ((OS O.nodup a e)▸hi) b2
   ·exact absurd (au a) e
  ·obtain⟨hm,hcl⟩:=kC e
   refine hG ?_;intro PP
   obtain⟨m',h1,h2⟩:=F.ns
   obtain⟨d,x,e1,e2,e3⟩:=(h2 j n v a b1).c (.inl (by unfold Env.kindOf;rw[hs];exact hcl))
   obtain⟨d',f1,f2⟩:=IL hf hm
   rw[e1]at f2;cases f2
   exact⟨d,x,f1,VK (kc n d e1) e2,e3.mono kV⟩
 ·obtain⟨hm,hcl⟩:=kC (.inl e)
  refine hG ?_;intro PP
  obtain⟨d,o,e1,e2⟩:=F.cell n (by unfold Env.kindOf;rw[hs];exact hcl)
  obtain⟨d',f1,f2⟩:=IL hf hm
  rw[e1]at f2;cases f2
  exact⟨d,o,f1,VK (kc n d e1) e2⟩
end
def TY(M:Model)(A:aC)(E:Value->cK->Prop)(use:Option (Value->Sem Unit))(Q:Value->cK->Prop)(acc:Value)(C:aV)(s':cK):Prop:=
 match use with
 |none=>∃m,s'.heap.Ns C m/\∀h',Zy6 C s'.heap h'->Q acc {s' with heap:=h'}
 |some u=>bT M A (u acc) (λY s''=>∃m,s''.heap.Ns C m/\∀h',Zy6 C s''.heap h'->Q .none {s'' with heap:=h'}) E s'
def Up(M:Model)(A:aC)(E:Value->cK->Prop)(use:Option (Value->Sem Unit))(Q:Value->cK->Prop)(acc:Value)(cenv:Env)(r:Result)(s':cK):Prop:=
 match r with
 |.ok _=>TY M A E use Q acc cenv.locals s'
 |.error x=>∃m,s'.heap.Ns cenv.locals m/\∀h',Zy6 cenv.locals s'.heap h'->bT M A (PySem.passOn "comprehension.variables-let-go" x cenv:Sem Value) (λY Y=>False) E {s' with heap:=h'}
theorem K5{names:List (Str×Zy9)}(nd:(names.map (·.1)).Nodup){x:Str×Zy9}(h:x∈names):names.lookup x.1=some x.2:=by
 induction names with
 |nil=>cases h
 |cons a r ih=>
  obtain⟨n1,n2⟩:=bU.mp nd
  obtain⟨m,k⟩:=a
  rw[Zx8]
  rcases cJ.mp h with rfl|h
  ·rw[beq_self_eq_true]
  ·rw[beq_eq_false_iff_ne.mpr λ(e:x.1=m)=>n1 (bu.mpr ⟨x,h,e⟩)]
   exact ih n2 h
theorem II
 (hcl:clausesOf e=gc::gs) (hs:∀x,foldedSetIterable gc.iter env x=pure x) (hclos:closureFor scope env=pure cl) (hkind:scope.kind=.function) (hnames:∀x∈scope.names,x.2=.local->scope.names.lookup x.1=some .local)
 (h:bT M A first (λx s₁=>bT M A (pyIter x) (λit s₂=>bT M A newAcc (λacc s₃=>bT M A (newFunctionEnv scope env.globals cl [] env.qual none .none (some env)) (λcenv s₄=>
 Zi6 M A (.compStart e 0 it acc {cenv with scope:=Zf2 scope env}) (Up M A E use Q acc {cenv with scope:=Zf2 scope env}) s₄) E s₃) E s₂) E s₁) E s):
 bT M A (Zk7 e scope env pos newAcc false first use) Q E s:=by
  have hv:∀(cenv:Env) (L:List (Str×Zy9)),(∀x∈L,x∈scope.names)->∀x∈L,x.2=.local->Env.kindOf {cenv with scope:=Zf2 scope env} x.1=some .local:=λcenv L hL x hx hl=>
   lookup_relabel_local (hnames x (hL x hx) hl)
  have hr:∀x∈(scope.names.filter λx=>(x.2==.local||x.2==.cell)&&x.1 !=(".0":Str)).reverse,x∈scope.names:=λx hx=>(Zs5.mp (Zj9.mp hx)).1
  unfold Zk7
  rw[hclos,hcl]
  refine cY (bO h (λx s₁ h₁=>cY (bB (cY (wpAny_of_eq (hs x) (cY (bJ (bO h₁ (λit s₂ h₂=>?_) λY Y z=>z))))))) λY Y z=>z)
  refine wpAny_standIf (cY (bO h₂ (λacc s₃ h₃=>cY (b7 (cY (bO h₃ (λcenv s₄ h₄=>?_) λY Y z=>z)))) λY Y z=>z))
  dsimp only
  refine bJ (cY (wpAny_attempt (bJ (wpAny_run (codeAny_mono h₄ λr s' z=>?_)))))
  cases r with
  |error x=>
   refine hG ?_;intro PP
   obtain⟨m,hn,k⟩:=z
   exact cY (bJ (Zj8 (cenv:={cenv with scope:=Zf2 scope env}) hkind _ s' m (hv cenv _ hr) hn λh' m' Y hs'=>bO (k h' hs') (λY Y f=>f.elim) λY Y y=>y))
  |ok f=>
   induction use using jO with
   |none=>
    refine hG ?_;intro PP
    obtain⟨m,hn,k⟩:=z
    exact cY (bJ (Zj8 (cenv:={cenv with scope:=Zf2 scope env}) hkind _ s' m (hv cenv _ hr) hn λh' m' Y hs'=>b7 (k h' hs')))
   |some u=>
    refine cY (Ze4 (cY (bJ (bO z (λY s'' z'=>?_) λY Y y=>y))))
    refine hG ?_;intro PP
    obtain⟨m,hn,k⟩:=z'
    refine cY (Zj8 (cenv:={cenv with scope:=Zf2 scope env}) hkind _ s'' m (hv cenv _ λx hx=>?_) hn λh' m' Y hs'=>b7 (k h' hs'))
    rcases bX.mp hx with hx|hx
    ·exact hr x (Zg8 hx)
    ·exact hr x (List.mem_of_mem_take hx)
theorem Cy(h:Yi e=true)(env:Env)(x:Value):foldedSetIterable e env x=pure x:=by induction e using jE<;>first|rfl|exact Zv h
theorem K4{h h' c8 B':Zz0}(kb:∀a,c8.get? a=none->B'.get? a=none):∀{l:List Env},(∀a,SD l a->h'.get? a=h.get? a)->h.FunFrames c8 l->h'.FunFrames B' l:=by
 intro l
 induction l with
 |nil=>exactλY Y=>trivial
 |cons env r i=>exactλk z=>⟨z.1,eE z.2.1 λL q=>eE q λo q=>⟨L,o,q.1,kb _ q.2.1,(k L ⟨env,.head _,q.1⟩).trans q.2.2.1,q.2.2.2⟩,i (λx Z=>eE Z λe' Z=>aE Z λm z=>k x ⟨e',.tail _ m,z⟩) z.2.2⟩
theorem IG{is:List Nat}{x:AV}{L:Loc}{K K':Loc->Prop}(h:ZB is x L K)(h':ZB is x L K'):ZB is x L λL'=>K L'/\K' L':=by
 have go:∀{is:List Nat} {vs:List AV} {L:Loc},Zs is vs L K->Zs is vs L K'->Zs is vs L λL'=>K L'/\K' L':=by
  intro is
  induction is with
  |nil=>intro vs L a b;induction vs using jL with
   |nil=>exact⟨a,b⟩
   |cons _ _=>exact a.elim
  |cons i is ih=>intro vs L a b;induction vs using jL with
   |nil=>exact a.elim
   |cons v vs=>exact ih (vs:=vs) (L:=L.set i (some v)) a b
 induction is using jL with
 |nil=>obtain⟨xs,rfl,h⟩:=XB (show Wj x λvs=>Zs [] vs L K from h);exact go h h'
 |cons i r=>induction r using jL with
  |nil=>exact⟨h,h'⟩
  |cons j r=>obtain⟨xs,rfl,h⟩:=XB (show Wj x λvs=>Zs (i::j::r) vs L K from h);exact go h h'
theorem d5{is:List Nat}{x:AV}{L:Loc}{K K':Loc->Prop}(h:ZB is x L K)(k:∀L,K L->K' L):ZB is x L K':=by
 have go:∀{is:List Nat} {vs:List AV} {L:Loc},Zs is vs L K->Zs is vs L K':=by
  intro is
  induction is with
  |nil=>intro vs L a;induction vs using jL with
   |nil=>exact k _ a
   |cons _ _=>exact a.elim
  |cons i is ih=>intro vs L a;induction vs using jL with
   |nil=>exact a.elim
   |cons v vs=>exact ih (vs:=vs) (L:=L.set i (some v)) a
 induction is using jL with
 |nil=>obtain⟨xs,rfl,h⟩:=XB (show Wj x λvs=>Zs [] vs L K from h);exact go h
 |cons i r=>induction r using jL with
  |nil=>exact k _ h
  |cons j r=>obtain⟨xs,rfl,h⟩:=XB (show Wj x λvs=>Zs (i::j::r) vs L K from h);exact go h
section
variable{c:Cx}{G:Str->AV->Bool}{C:ZV}{n:Nat}{nm:List Str}{env:Env}{sc sc':aa}{s s' s₁:cK}{U Z6:US}{L:Loc}{E:US->Prop}{X':aV->Prop}
theorem Eu{e:Value}{Cn:aV}{m:Str->Option Value}(hX:∀a,c.X a->X' a)(hC:X' Cn)(hf:¬SD c.l Cn)(N:Nx c s U s₁ Z6)(hn:s₁.heap.Ns Cn m)(hu:Z6 Cn=none)(new:∀o,s.heap.get? Cn=some o->U Cn=none->False)
 (h:Er (c.wX X') s₁ Z6 E e s'):(∃m,s'.heap.Ns Cn m)/\∀{h'},Zy6 Cn s'.heap h'->Er c s U E e {s' with heap:=h'}:=by
 cases h with|@mk ea a0 c8 fl U' e0 q f hh r'=>
 subst e0
 refine hG ?_;intro PP
 obtain⟨oc,es,ep,gY,hd,hrest⟩:=hn
 have hB:c8.get? Cn=some oc:=f.old Cn oc gY hu hf
 refine⟨⟨m,oc,es,ep,f.stays _ _ hB,hd,hrest⟩,λ{h'} hs=>?_⟩
 have f':JS (c.wX X') s.heap U c8 ea a0 fl s'.heap U':=JS.trans N.k f
 have ne:∀{a:aV},c8.get? a=none->a≠Cn:=λe z=>by rw[z,hB]at e;exact XD e
 refine hG ?_;intro PP
 obtain⟨oe,vs,T,oT,ts,he,hcls,hdd,h1,w_,vg,hT,AQ,h3⟩:=id f.Yq
 have hi:∀{a:aV} {o:Obj},(hideAll c8 [Cn]).get? a=some o->c8.get? a=some o:=λe=>of_hideAll _ e
 have hno:∀{a:aV},c8.get? a=none->(hideAll c8 [Cn]).get? a=none:=λe=>fE λq=>eE (bW.mp q) λ_ q=>by rw[hi q]at e;exact XD e
 refine⟨rfl,q,⟨λa o e=>?_,hno f.new,K4 (λa=>hno) (λa fa=>hs.2 a λz=>hf (z▸fa)) f.frames,⟨oe,vs,T,oT,ts,(hs.2 ea (ne f.new)).trans he,hcls,hdd,h1,hno w_,vg,(hs.2 T (ne w_)).trans hT,AQ,h3⟩,?_,λa o e u nf=>?_,λa o e u fa=>?_,f'.dom⟩,hh,N.r.trans ⟨r'.g,r'.d,r'.o⟩⟩
 ·have:a≠Cn:=λz=>by rw[z,hideAll_none _ (cP.mpr rfl)]at e;exact ZE e
  exact(hs.2 a this).trans (f.stays _ _ (hi e))
 ·exact VO.less (c:=c) hX (OP (c:=c.wX X') (λa ha=>by rw[cP.mp ha];exact hC) f.Yr)
 ·exact Zf6 _ (f'.old a o e u nf) λz=>new o (cP.mp z▸e) (cP.mp z▸u)
 ·obtain⟨sl,e'⟩:=f'.fr a o e u fa
  exact⟨sl,(hs.2 a λz=>hf (z▸fa)).trans e'⟩
end
section
variable{c:Cx}{G:Str->AV->Bool}{C:ZV}{n:Nat}{nm:List Str}{env:Env}{sc sc':aa}{s s' s'':cK}{U U' TJ:US}{L:Loc}{E:US->Prop}{ZM:aV->Prop}{t:It}{D Cn:aV}{i:Nat}{acc:List AV}{vs:List Value}{m:Nat}
theorem Et{α:Type}{xs:List α}{j:Nat}{y:α}(h:xs[j]?=some y):xs.drop j=y::xs.drop (j+1):=(bE.mp h).elim λh e=>e▸Zm9 h
abbrev Mp(X:aV->Prop)(d:aV):aV->Prop:=λa=>X a\/a=d
structure Ch(c:Cx)(ZM:aV->Prop)(s:cK)(U:US)(t:It)(D Cn:aV):Prop where
 sub:∀a,c.X a->ZM a
 hid:∀b∈t.hid,ZM b/\¬SD c.l b/\b≠Cn/\b≠D/\¬c.X b
 d:ZM D/\¬SD c.l D/\D≠Cn/\¬c.X D
 cn:ZM Cn/\¬SD c.l Cn/\¬c.X Cn
 new:∀a,(a∈t.hid\/a=D\/a=Cn)->∀o,s.heap.get? a=some o->U a=none->False
structure Cs(c:Cx)(ZM:aV->Prop)(s:cK)(U:US)(t:It)(D:aV)(i:Nat)(acc:List AV)(vs:List Value)(m:Nat)(s':cK)(U':US):Prop where
 inv:Inv (c.wX ZM) s' U'
 nx:Nx c s U s' U'
 src:dS (c.wX ZM) t i s'.heap U'
 d:s'.heap.get? D=some (Xe "list" vs m)
 l:ZW c.gv (Vx ZM s'.heap U') acc vs
theorem Cs.next(H:Ch c ZM s U t D Cn)(c_:PA (c.wX ZM) tg xs t)(T:Cs c ZM s U t D i acc vs m s' U')(J:Inv (c.wX ZM) s'' TJ)(N:Nx (c.wX ZM) s' U' s'' TJ):Cs c ZM s U t D i acc vs m s'' TJ:=
 ⟨J,T.nx.trans ⟨N.k,N.r⟩,T.src.keep c_ (T.inv.vw N) λb hb o e=>N.k.obj b o e (T.inv.Wt (H.hid b hb).1) (H.hid b hb).2.1,N.k.obj D _ T.d (T.inv.Wt H.d.1) H.d.2.1,T.l.mono (T.inv.vw N)⟩
theorem Cs.wr(M:Wr W s'.heap h')(hW:∀a,W a->ZM a/\(a∈t.hid\/a=D\/a=Cn))(fk:nR c.l W s'.heap h')(T:Cs c ZM s U t D i acc vs m s' U')(H:Ch c ZM s U t D Cn)
 (sr:(∀a o,Vx ZM s'.heap U' a o->Vx ZM h' U' a o)->dS (c.wX ZM) t k h' U') (hd:h'.get? D=some (Xe "list" vs' m')) (l:ZW c.gv (Vx ZM s'.heap U') acc' vs'):Cs c ZM s U t D k acc' vs' m' {s' with heap:=h',toks:=tk} U':=
  have kV:∀a o,Vx ZM s'.heap U' a o->Vx ZM h' U' a o:=λY Y=>M.view (c:=c.wX ZM) λa z=>(hW a z).1
  ⟨M.inv (c:=c.wX ZM) (λa z=>(hW a z).1) fk T.inv,⟨M.kept T.nx.k λa o w e u=>H.new a (hW a w).2 o e u,T.nx.r.trans ZF⟩,sr kV,hd,l.mono kV⟩
abbrev cT(C:ZV)(E:US->Prop)(f:Bool)(tgt:List Nat)(cond:X)(L:Loc):AV->(Bool->US->Prop)->US->Prop:=match f with
 |true=>λx K U2=>ZB tgt x L λL'=>ZK C E cond L' (λb U3=>Wk b λb=>K b U3) U2
 |false=>λY K U2=>K true U2
abbrev cE(C:ZV)(E:US->Prop)(tgt:List Nat)(elt:X)(L:Loc):AV->fP->US->Prop:=λx K U2=>ZB tgt x L λL'=>ZK C E elt L' K U2
def cQ(C:ZV)(E:US->Prop)(f:Bool)(cond:X)(L':Loc)(K:Bool->US->Prop)(U:US):Prop:=match f with
 |true=>ZK C E cond L' (λb U3=>Wk b λb=>K b U3) U
 |false=>K true U
def cI(f:Bool)(ifs:List Expr)(P:Expr->Prop):Prop:=match f with
 |false=>ifs=[]
 |true=>∃z,ifs=[z]/\P z
theorem cI.map(h:cI f ifs P)(k:∀{z},P z->P' z):cI f ifs P':=by
 induction f using jB with
 |true=>exact h.imp λY z=>⟨z.1,k z.2⟩
 |false=>exact h
theorem nQ{f:Bool}{tgt:List Nat}{cond:X}{y:AV}{K:Bool->US->Prop}{K':Loc->Prop}(h:cT C E f tgt cond L y K U)(hk:K true U->ZB tgt y L K'):ZB tgt y L λL'=>cQ C E f cond L' K U:=by
 induction f using jB with
 |true=>exact h
 |false=>exact d5 (hk h) λY Y=>h
inductive CJ(c:Cx)(ZM:aV->Prop)(s:cK)(U:US)(xs:List AV)(t:It)(D:aV)(cenv:Env)(nm:List Str)(Lb:Loc)(go:List AV->List AV->US->Prop)(k:Nat)(s':cK):Prop
 |mk {j acc vs m U'}:k+j=xs.length+1->j<=xs.length->acc.length<=j->go (xs.drop j) acc U'->Cs c ZM s U t D j acc vs m s' U'->Fr (c.wX ZM) s' U' cenv nm Lb->CJ c ZM s U xs t D cenv nm Lb go k s'
theorem K3{elt cond:X}{f:Bool}{x:Expr}{ifs:List Expr}{tgt:List Nat}{xs:List AV}{y:AV}{cenv:Env}{go:List AV->List AV->US->Prop}{L':Loc}{k j:Nat}{tg:Expr}{R:Fin->cK->Prop}{P:Value->cK->Prop}{Ag:Sem Fin}
 (H:Ch c ZM s U t D Cn) (c_:PA (c.wX ZM) tg xs t) (O':ZO cenv nm ZM) (hloc:cenv.locals=Cn) (cX:∀n a,cenv.cells.lookup n=some a->c.X a) (he:SE (c.wX ZM) C nm cenv elt x) (hc:cI f ifs (SE (c.wX ZM) C nm cenv cond))
 (er:∀{s₂ Ze LL e s₃},Inv (c.wX ZM) s₂ Ze->Nx c s U s₂ Ze->Fr (c.wX ZM) s₂ Ze cenv nm LL->Er (c.wX ZM) s₂ Ze E e s₃->P e s₃)
 (ag:∀{k' s₃},k'<k->CJ c ZM s U xs t D cenv nm (fy tgt L) go k' s₃->bT c.M c.A Ag R P s₃)
 (hj:k+j=xs.length+1) (hlt:j<xs.length) (hn:xs.length<=LN) (ha:acc.length<=j) (T:Cs c ZM s U t D (j+1) acc vs m s' U') (F:Fr (c.wX ZM) s' U' cenv nm L') (hb:ZB tgt y L (·=L')) (uL:(fy tgt L).length=L'.length) (subB:∀(p:Nat) (v:AV),(fy tgt L)[p]?=some (some v)->L'[p]?=some (some v))
 (hq:cQ C E f cond L' (λb U3=>fF b (cE C E tgt elt L y (λv U2=>go (xs.drop (j+1)) (acc++[v]) U2) U3) (go (xs.drop (j+1)) acc U3)) U'):
 bT c.M c.A (do
  if<-(forIn ifs true λc r=>if r=true then do let ok<-Zd9 c cenv (Zq2 c cenv);pure (Zo7 ok)else pure (Zo7 r))then(do let v<-Zq2 x cenv;let _<-call (.builtin "list.append") [.ref D,v];pure ())
  Ag) R P s':=by
 have test:bT c.M c.A (forIn ifs true λc r=>if r=true then do let ok<-Zd9 c cenv (Zq2 c cenv);pure (Zo7 ok)else pure (Zo7 r))
  (Ok (c.wX ZM) s' U' (pB λb U3=>fF b (cE C E tgt elt L y (λv U2=>go (xs.drop (j+1)) (acc++[v]) U2) U3) (go (xs.drop (j+1)) acc U3))) (Er (c.wX ZM) s' U' E) s':=by
  induction f using jB with
  |false=>obtain rfl:=hc;exact wpAny_tests_nil (X9 T.inv hq)
  |true=>obtain⟨z,rfl,hc⟩:=hc;exact wpAny_tests_one (hc.b T.inv F hq)
 refine cY (bO test (λok s₄ z=>?_) λe s₃ z=>er T.inv T.nx F z)
 cases z with|@mk z7 q J N=>
 have zy:=T.next H c_ J N
 have Rq:=F.keep T.inv O' N
 induction ok using jB with
 |false=>exact ag (k':=k-1) ((LU (Z7 hlt (Z7 (cV hj.symm))):k-1+1<=k)) ⟨bF (Z7 (LU (Z7 hlt (Z7 (cV hj.symm))):k-1+1<=k) (Z7 (cV hj))) (Z7 (cV hj.symm) (Z7 (KJ k 1))),hlt,bZ ha,q,zy,Rq.sub uL subB⟩
 |true=>
  refine hG ?_;intro PP
  obtain⟨BA,⟨q,e⟩,_⟩:=OG (IG (K:=λBA=>ZK C E elt BA (λv U2=>go (xs.drop (j+1)) (acc++[v]) U2) z7) q hb)
  subst e
  refine cY (cY (bO (he.v J Rq q) (λyv s₅ z=>?_) λe s₃ z=>er J zy.nx Rq z))
  refine hG ?_;intro PP
  obtain⟨⟨w,q,ew⟩,nP,uK⟩:=z
  have Nq:=zy.next H c_ nP uK
  have nN:=Rq.keep J O' uK
  have zx:acc.length<=LN:=c7 ha (c7 (Zz7 hlt) hn)
  refine cY (Zs0 PySem.F.slot_list_append ⟨_,Nq.d,rfl⟩ PySem.F.entry_list_append (PySem.F.args_list_append_2 _ _) (list_append D vs.toArray m _ (Zm (by rw[b_,Nq.l.len];exact zx))) ⟨Nq.d,b7 ?_⟩)
  have nM:=mapSeq_push vs.toArray m yv none #[]
  rw[List.push_toArray]at nM
  have uJ:(s₅.heap.update D (Zw2 (·.push yv))).get? D=some (Xe "list" (vs++[yv]) (m+1)):=by
   rw[Zz6 _ Nq.d (by rw[nM];rfl),nM]
  have zw:Wr (·=D) s₅.heap (s₅.heap.update D (Zw2 (·.push yv))):=⟨λa o e n=>(Zs2 _ _ (Zp2 n)).trans e,λa o e=>by
   by_cases z:a=D
   ·rw[z];exact⟨_,uJ⟩
   ·exact⟨o,(Zs2 _ _ (Zp2 z)).trans e⟩⟩
  have xD:∀a,a=D->ZM a:=λa z=>by rw[z];exact H.d.1
  have nL:=Cs.wr (tk:=s₅.toks) zw (λa z=>⟨xD a z,.inr (.inl z)⟩) (λa o z f=>absurd (by rw[<-show a=D from z];exact f) H.d.2.1) Nq H (λkV=>Nq.src.keep c_ kV λb hb o e=>zw.keep _ _ e (H.hid b hb).2.2.2.1) uJ (Nq.l.app (.one ew))
  refine ag (k':=k-1) ((LU (Z7 hlt (Z7 (cV hj.symm))):k-1+1<=k)) ⟨bF (Z7 (LU (Z7 hlt (Z7 (cV hj.symm))):k-1+1<=k) (Z7 (cV hj))) (Z7 (cV hj.symm) (Z7 (KJ k 1))),hlt,?_,q,nL,(zw.fr (c:=c.wX ZM) xD nN (by rw[hloc];exact Zp2 H.d.2.2.1) λn a e z=>H.d.2.2.2 (by rw[<-show a=D from z];exact cX n a e)).sub uL subB⟩
  rw[cS];exact cu ha
end
section
variable{c:Cx}{G:Str->AV->Bool}{C:ZV}{n:Nat}{nm:List Str}{env:Env}{sc sc':aa}
theorem Np(Rt:Inv c s₁ Z6)(N₁:Nx c s U s₁ Z6)(c_:PA c tg xs t)(hst:t.St 0 sx)(kx:∀b o,s₁.heap.get? b=some o->sx.get? b=some o)(fr:∀b,b∈t.hid->s₁.heap.get? b=none)
 (hDC:D≠Cn) (lt:∀{a o},sx.get? a=some o->a≠D/\a≠Cn) (k1:∀b o,sx.get? b=some o->h₁.get? b=some o) (hD:∃o,h₁.get? D=some o) (hC:∃o,h₁.get? Cn=some o):∃ZM,eY c.X ZM s₁.heap h₁/\Ch c ZM s U t D Cn:=by
  have gX:∀{a:aV},(∀o,sx.get? a=some o->False)->s₁.heap.get? a=none:=λe=>fE λq=>(bW.mp q).elim λo q=>e o (kx _ _ q)
  have nK:∀a,(a∈t.hid\/a=D\/a=Cn)->s₁.heap.get? a=none:=λa z=>z.elim (fr a) λz=>gX λo e=>z.elim (lt e).1 (lt e).2
  have nX:∀{a},(a∈t.hid\/a=D\/a=Cn)->¬c.X a:=λz=>Rt.nx (nK _ z)
  have nF:∀{a},(a∈t.hid\/a=D\/a=Cn)->¬SD c.l a:=λz w=>nX z (Rt.fx _ w)
  have hid:∀b∈t.hid,b≠D/\b≠Cn:=λb hb=>(c_.has hst b hb).elim λo e=>lt e
  exact⟨λa=>c.X a\/(a∈t.hid\/a=D\/a=Cn),⟨λb o e=>k1 b o (kx b o e),λa z=>.inl z,λa z=>z.imp id λz=>⟨nK a z,z.elim (λz=>(c_.has hst a z).imp λo e=>k1 _ _ e) λz=>z.elim (λz=>z▸hD) λz=>z▸hC⟩⟩,
   ⟨λa z=>.inl z,λb hb=>⟨.inr (.inl hb),nF (.inl hb),(hid b hb).2,(hid b hb).1,nX (.inl hb)⟩,⟨.inr (.inr (.inl rfl)),nF (.inr (.inl rfl)),hDC,nX (.inr (.inl rfl))⟩,⟨.inr (.inr (.inr rfl)),nF (.inr (.inr rfl)),nX (.inr (.inr rfl))⟩,λa z o e u=>(N₁.k.fr _ o e u).elim λsl w=>by rw[nK a z]at w;exact ZE w⟩⟩
theorem Es{h h₁:Zz0}{ob:Obj}{D:aV}(eD:h.objs.size=D)(eo:ob=Xe "list" [] 0)(sb:Zy6 (h.push ob).objs.size ((h.push ob).push uI) h₁):D≠(h.push ob).objs.size/\(∀{a o},h.get? a=some o->a≠D/\a≠(h.push ob).objs.size)/\(∀b o,h.get? b=some o->h₁.get? b=some o)/\h₁.get? D=some (Xe "list" [] 0):=by
 subst eD
 subst eo
 have lt:∀{a o},h.get? a=some o->a≠h.objs.size/\a≠(h.push (Xe "list" [] 0)).objs.size:=λ{a o} e=>⟨aD (ao e),by rw[Zw1];exact aD (Nat.lt_succ_of_lt (ao e))⟩
 have ne:h.objs.size≠(h.push (Xe "list" [] 0)).objs.size:=by rw[Zw1];exact aD (Zz1 _)
 exact⟨ne,lt,λb o e=>(sb.2 b (lt e).2).trans (cA _ (cA _ e)),(sb.2 _ ne).trans (cA _ (bR _ rfl))⟩
theorem K2{cond:X}{tg:Expr}{tgt:List Nat}{f:Bool}{ipos:Pos}{s s':cK}{U U':US}{L:Loc}{E:US->Prop}{t:It}{xs acc:List AV}{vs:List Value}{m j:Nat}{D Cn:aV}{ZM:aV->Prop}{cenv:Env}{K:Sem Fin}{R:Fin->cK->Prop}{P:Value->cK->Prop}{Kq:AV->Bool->US->Prop}{K':AV->Loc->Prop}
 (hh:c.A.handled=none) (c_:PA (c.wX ZM) tg xs t) (HC:Ch c ZM s U t D Cn) (O:ZO cenv nm ZM) (TT:K7 cenv nm (·=cenv.locals) tgt tg) (T:Cs c ZM s U t D j acc vs m s' U') (F:Fr (c.wX ZM) s' U' cenv nm (fy tgt L)) (hloc:cenv.locals=Cn) (cX:∀n a,cenv.cells.lookup n=some a->c.X a) (hj:j<=xs.length)
 (hq:∀{y},xs[j]?=some y->cT C E f tgt cond L y (Kq y) U') (hk:∀{y},Kq y true U'->ZB tgt y L (K' y)) (dn:j=xs.length->∀{h₂ t₂},Nt t.hid s'.heap h₂->R (.done .next) {s' with heap:=h₂,toks:=t₂})
 (kk:∀{y s₃ L'},xs[j]?=some y->j<xs.length->Cs c ZM s U t D (j+1) acc vs m s₃ U'->Fr (c.wX ZM) s₃ U' cenv nm L'->ZB tgt y L (·=L')->(fy tgt L).length=L'.length->(∀(p:Nat) (v:AV),(fy tgt L)[p]?=some (some v)->L'[p]?=some (some v))->cQ C E f cond L' (Kq y) U'->bT c.M c.A K R P s₃):
 bT c.M c.A (do
  Zr5 ipos
  match<-pyNext (.ref t.I)with
  |none=>pure (.done .next)
  |some v=>
   Zi3 tg (.ref t.I) v
   Zg4 tg cenv v
   K) R P s':=by
 refine cY (bB (cY ?_))
 by_cases hlt:j<xs.length
 ·have hx:xs[j]?=some xs[j]:=cy hlt
  refine c_.item hlt T.src.st λ{v h₂' t₂} go=>cY (go λ{h₂} Mn hp Tv=>?_)
  have P0:=Wr.same Mn (c_.has Tv)
  have IF:=Cs.wr (tk:=t₂) P0 (λa z=>⟨(HC.hid a z).1,.inl z⟩) (λa o z f=>absurd f (HC.hid a z).2.1) T HC (λkV=>⟨Tv,λb hb=>(T.src.fp b hb).imp id λh=>h.imp λo v=>kV _ _ v,T.src.l.mono kV⟩) (Mn D _ (λz=>(HC.hid D z).2.2.2.1 rfl) T.d) T.l
  have Vy:=P0.fr (c:=c.wX ZM) (t:=t₂) (λa z=>(HC.hid a z).1) F (λz=>(HC.hid _ z).2.2.1 hloc) λn a e z=>(HC.hid a z).2.2.2.2 (cX n a e)
  have xC:∀a,a=cenv.locals->ZM a:=λa z=>by rw[z,hloc];exact HC.cn.1
  refine(OG (nQ (hq hx) hk)).elim λL' w=>cY (Vg (c:=c.wX ZM) (s:={s' with heap:=h₂,toks:=t₂}) hh O xC TT Vy (c_.draw IF.src.l hp hx λa o v=>v.h) (Nr w.2.1) λ{h₃ t₃ BA} Rp RQ e=>?_)
  refine kk hx hlt (Cs.wr (tk:=t₃) Rp.wr (λa z=>⟨xC a z,.inr (.inr (z.trans hloc))⟩) Rp.ry IF HC (λkV=>IF.src.keep c_ kV λb hb o e=>Rp.keep _ _ e λz=>(HC.hid b hb).2.2.1 (z.trans hloc)) (Rp.keep D _ IF.d λz=>HC.d.2.2.1 (z.trans hloc)) IF.l) (by rw[<-e];exact RQ) w.2.1 (VF.trans w.2.2.1.symm) (λp v e=>(w.2.2.2 p (VE e).2).trans (VE e).1) w.1
 ·have e:=bF hj (Zx3.mp hlt)
  exact c_.done (e▸T.src.st) λsm=>b7 (dn e sm)
theorem IE(fx:∀a,SD c.l a->c.X a)(HC:Ch c ZM s U t D Cn)(T:Cs c ZM s U t D n acc vs m s' U')(gW:s'.heap.Ns Cn mm)(sm:Nt t.hid s'.heap h₂)(hgo:C_ mu acc Q U')(kB:acc.length<=LN)
 (fin:∀{s' U' D Cn v mm},Q v U'->Inv (c.wX (Mp c.X Cn)) s' U'->Nx c s U s' U'->¬c.X Cn->(∀o,s.heap.get? Cn=some o->U Cn=none->False)->s'.heap.Ns Cn mm->Enc c.gv (Vx (Mp c.X Cn) s'.heap U') v (.ref D)->TY c.M c.A (Er c s U E) use Qf (.ref D) Cn s'):
 TY c.M c.A (Er c s U E) use Qf (.ref D) Cn {s' with heap:=h₂,toks:=tk}:=by
  have zu:∀a,(c.X a\/a=Cn)->ZM a:=λa z=>z.elim (HC.sub a) λz=>by rw[z];exact HC.cn.1
  have nJ:∀b∈t.hid,¬(c.X b\/b=Cn):=λb hb z=>z.elim (HC.hid b hb).2.2.2.2 (HC.hid b hb).2.2.1
  have nf:∀{a:aV} {o:Obj},s.heap.get? a=some o->U a=none->a∉t.hid:=λe u z=>HC.new _ (.inl z) _ e u
  have Cw:=sm D _ (λz=>(HC.hid D z).2.2.2.1 rfl) T.d
  have kA:¬(c.X D\/D=Cn):=λz=>z.elim HC.d.2.2.2 HC.d.2.2.1
  have ID:h₂.Ns Cn mm:=gW.at' λo e=>sm _ _ (λz=>(HC.hid Cn z).2.2.1 rfl) e
  have uD:U' D=none:=T.inv.Wt HC.d.1
  have Tj:Inv (c.wX (Mp c.X Cn)) {s' with heap:=h₂,toks:=tk} U':=Inv.shrink (c:=c.wX (Mp c.X Cn)) T.inv sm zu (λb hb=>(HC.hid b hb).1) nJ λa z=>.inl (fx a z)
  have Yw:Nx c s U {s' with heap:=h₂,toks:=tk} U':=⟨⟨λa o e u n=>sm _ _ (nf e u) (T.nx.k.obj a o e u n),λa o e u=>(T.nx.k.fr a o e u).imp λsl e'=>sm _ _ (nf e u) e',T.nx.k.dom⟩,T.nx.r.trans ZF⟩
  induction mu using jB with
  |false=>exact fin hgo Tj Yw HC.cn.2.2 (HC.new Cn (.inr (.inr rfl))) ID ⟨vs,⟨Cw,uD,kA⟩,kB,T.l.mono λa o v=>⟨sm _ _ (λz=>v.x (HC.hid a z).1) v.h,v.u,λz=>v.x (zu a z)⟩⟩
  |true=>
   have m₃:=(VO.bare (c:=c.wX (Mp c.X Cn)) (h':=h₂) (x:=.list acc) T.inv.Yr zu HC.d.1 kA (λa o na e=>sm a o (λz=>na (HC.hid a z).1) e) Cw ⟨vs,m,rfl,kB,T.l⟩).2
   refine fin (s':={s' with heap:=h₂,toks:=tk}) (U':=upd U' D (some (.list acc))) (hgo D uD) ⟨m₃,Tj.Tr,Tj.xlt,Tj.frames,Tj.fx⟩ ⟨⟨Yw.k.obj,Yw.k.fr,λa q=>?_⟩,Yw.r⟩ HC.cn.2.2 (HC.new Cn (.inr (.inr rfl))) ID rfl
   by_cases z:a=D
   ·by_cases u:U a=none
    ·exact .inr (fE λq=>(bW.mp q).elim λo e=>HC.new a (.inr (.inl z)) o e u)
    ·exact .inl u
   ·rw[Z9 z]at q;exact Yw.k.dom a q
theorem K1{elt cond:X}{x tg i:Expr}{ifs:List Expr}{tgt:List Nat}{f mu:Bool}{pos:Pos}{use:Option (Value->Sem Unit)}{Qf:Value->cK->Prop}{s sy:cK}{U Z6:US}{L:Loc}{E:US->Prop}{Q:fP}{t:It}{xs:List AV}{D Cn:aV}{ZM:aV->Prop}{cenv:Env}(x₀:Ex c G C n nm env sc)
 (he:∀{X' env'},Ex (c.wX X') G C n nm env' (YK sc' sc)->SE (c.wX X') C nm env' elt x) (hc:cI f ifs λz=>∀{X' env'},Ex (c.wX X') G C n nm env' (YK sc' sc)->SE (c.wX X') C nm env' cond z) (I:Inv c s U)
 (fin:∀{s' U' D Cn v mm},Q v U'->Inv (c.wX (Mp c.X Cn)) s' U'->Nx c s U s' U'->¬c.X Cn->(∀o,s.heap.get? Cn=some o->U Cn=none->False)->s'.heap.Ns Cn mm->Enc c.gv (Vx (Mp c.X Cn) s'.heap U') v (.ref D)->TY c.M c.A (Er c s U E) use Qf (.ref D) Cn s')
 (hgo:Zo (cT C E f tgt cond L) (cE C E tgt elt L) xs [] (λvs U3=>C_ mu vs Q U3) Z6) (zx:xs.length<=LN) (Z':PA (c.wX ZM) tg xs t) (HC:Ch c ZM s U t D Cn) (O':ZO cenv nm ZM) (hsc:cenv.scope=YK sc' sc) (TT:K7 cenv nm (·=cenv.locals) tgt tg)
 (T0:Cs c ZM s U t D 0 [] [] 0 sy Z6) (F0:Fr (c.wX ZM) sy Z6 cenv nm (fy tgt L)) (hloc:cenv.locals=Cn) (zo:cenv.frame=env.frame) (cX:∀n a,cenv.cells.lookup n=some a->c.X a):
 Zi6 c.M c.A (.compStart (.ListComp x [⟨tg,i,ifs,0⟩] sc' pos) 0 (.ref t.I) (.ref D) cenv) (Up c.M c.A (Er c s U E) use Qf (.ref D) cenv) sy:=by
 have x':Ex (c.wX ZM) G C n nm cenv (YK sc' sc):=⟨x₀.t.to,λe=>x₀.hC e,x₀.room,O',eE x₀.GU λe0 Z=>eE Z λouter Z=>eE Z λL0 Z=>aE Z λa Z=>aE Z λb d=>⟨e0,outer,L0,a,b,zo.trans d⟩,hsc⟩
 have er:∀{s₂ Ze LL e s₃},Inv (c.wX ZM) s₂ Ze->Nx c s U s₂ Ze->Fr (c.wX ZM) s₂ Ze cenv nm LL->Er (c.wX ZM) s₂ Ze E e s₃->notedBy c.M c.A cenv (λe s'=>Up c.M c.A (Er c s U E) use Qf (.ref D) cenv (.error e) s') e s₃:=λ{s₂ Ze LL e s₃} Ix gV Fx h=>by
  refine hG ?_;intro PP
  obtain⟨e0,outer,L0,a,b,d⟩:=x₀.GU
  dsimp only[PP]
  unfold notedBy
  rw[Tl (e2:=e0) (zo.trans (d.trans b.symm))]
  refine Uw (c:=c.wX ZM) Ix.frames a b h λs'' h=>?_
  refine hG ?_;intro PP
  obtain⟨m,hm,_⟩:=Fx.ns
  rw[hloc]at hm
  refine hG ?_;intro PP
  obtain⟨⟨m',hm'⟩,z⟩:=Eu HC.sub HC.cn.1 HC.cn.2.1 gV hm (Ix.Wt HC.cn.1) (HC.new Cn (.inr (.inr rfl))) h
  refine⟨m',by rw[hloc];exact hm',λh' hs=>?_⟩
  rw[hloc]at hs
  exact EV a (zo.trans (d.trans b.symm)) b (z hs)
 have J0:CJ c ZM s U xs t D cenv nm (fy tgt L) (λys acc U'=>Zo (cT C E f tgt cond L) (cE C E tgt elt L) ys acc (λvs U3=>C_ mu vs Q U3) U') (xs.length+1) sy:=CJ.mk (j:=0) (acc:=[]) (vs:=[]) (m:=0) rfl (bV _) (cO _) hgo T0 F0
 have loop:Zi6 c.M c.A (.compLoop (.ListComp x [⟨tg,i,ifs,0⟩] sc' pos) 0 (.ref t.I) (.ref D) cenv) (Up c.M c.A (Er c s U E) use Qf (.ref D) cenv) sy:=by
  refine codeAny_loop rfl _ (λk s' hJ=>?_) _ J0
  show bT _ c.A ((compTurn (.ListComp x [⟨tg,i,ifs,0⟩] sc' pos) 0 (.ref t.I) (.ref D) cenv).onRaise (λx=>do Ze9 x cenv;theTreesLotGoes x)) _ _ s'
  refine wpAny_noted ?_
  rw[compTurn_list]
  cases hJ with|@mk j acc vs m U' hk hj ha hgo T F'=>
  refine K2 (cond:=cond) (L:=L) (Kq:=λy b U1=>fF b (cE C E tgt elt L y (λv U2=>Zo (cT C E f tgt cond L) (cE C E tgt elt L) (xs.drop (j+1)) (acc++[v]) (λvs U3=>C_ mu vs Q U3) U2) U1) (Zo (cT C E f tgt cond L) (cE C E tgt elt L) (xs.drop (j+1)) acc (λvs U3=>C_ mu vs Q U3) U1)) (K':=λy L'=>ZK C E elt L' (λv U2=>Zo (cT C E f tgt cond L) (cE C E tgt elt L) (xs.drop (j+1)) (acc++[v]) (λvs U3=>C_ mu vs Q U3) U2) U')
   x₀.room.handled Z' HC O' TT T F' hloc cX hj (λ{y} hx=>by rw[Et hx]at hgo;exact hgo) (λh=>h) (λe h₂ t₂ sm=>?_) λ{y s₃ L'} hx hlt nI RQ b1 b2 b3 q=>K3 HC Z' O' hloc cX (he x') (hc.map λk=>k x') er (λ{k' s₃} lt J=>b7 ⟨rfl,k',lt,J⟩) hk hlt zx ha nI RQ b1 b2 b3 q
  show TY _ _ _ _ _ _ cenv.locals _
  rw[hloc]
  rw[e,Zk1]at hgo
  refine F'.ns.elim λmm h=>IE I.fx HC T (mm:=mm) (by rw[<-hloc];exact h.1) sm hgo (c7 ha (e▸zx)) fin
 exact codeAny_compStart_list loop (Z'.self T0.src.st loop)
theorem QX{elt cond GS:X}{x tg i:Expr}{ifs:List Expr}{tgt:List Nat}{f mu:Bool}{pos ipos:Pos}{use:Option (Value->Sem Unit)}{Qf:Value->cK->Prop}(x₀:Ex c G C n nm env sc)(H:V1 sc' sc nm tgt)(hT:R5 nm sc' tgt tg=true)(Nn:Yi i=true)(hi:SI c C nm env GS i tg)
 (he:∀{X' env'},Ex (c.wX X') G C n nm env' (YK sc' sc)->SE (c.wX X') C nm env' elt x) (hc:cI f ifs λz=>∀{X' env'},Ex (c.wX X') G C n nm env' (YK sc' sc)->SE (c.wX X') C nm env' cond z)
 {s:cK} {U:US} {L:Loc} {E:US->Prop} {Q:fP} (I:Inv c s U) (F:Fr c s U env nm L) (hq:ZK C E (.comp mu f elt tgt GS cond) L Q U)
 (fin:∀{s' U' D Cn v mm},Q v U'->Inv (c.wX (Mp c.X Cn)) s' U'->Nx c s U s' U'->¬c.X Cn->(∀o,s.heap.get? Cn=some o->U Cn=none->False)->s'.heap.Ns Cn mm->Enc c.gv (Vx (Mp c.X Cn) s'.heap U') v (.ref D)->TY c.M c.A (Er c s U E) use Qf (.ref D) Cn s'):
 bT c.M c.A (Zk7 (.ListComp x [⟨tg,i,ifs,0⟩] sc' pos) sc' env ipos (newList []) false (Zq2 i env) use) Qf (Er c s U E) s:=by
 have hf:z8 sc'.names env:=λx hx hfr=>by
  obtain⟨d,o,e,_⟩:=F.cell x.1 (by unfold Env.kindOf;rw[x₀.sc];exact H.free x hx hfr)
  exact⟨d,e⟩
 refine II (gc:=⟨tg,i,ifs,0⟩) (gs:=[]) rfl (Cy Nn env) (eF hf) H.kind (λx hx hl=>(K5 H.nd hx).trans (congrArg some hl)) ?_
 refine hi.r I F hq λ{xs s₁ Z6 sx t} hgo zx Rt N₁ c_ kx rx fr hl hfp hst=>?_
 refine Zm0 (wpAny_newFunctionEnv H.cell (λy hy=>by cases hy) (λh₁ Nm IC=>?_) H.kind)
 dsimp only at Nm IC⊢
 have hgo:Zo (cT C E f tgt cond L) (cE C E tgt elt L) xs [] (λvs U3=>C_ mu vs Q U3) Z6:=by induction f using jB<;>exact hgo
 have w:=Es rfl rfl IC
 refine(Np Rt N₁ c_ hst kx fr w.1 w.2.1 w.2.2.1 ⟨_,w.2.2.2⟩ (Nm.imp λo h=>h.elim λ_ h=>h.elim λ_ h=>h.1)).elim λZM M=>?_
 have Nl:=M.1
 have HC:=M.2
 have F₁:=F.keep I x₀.O N₁
 have O':=IJ (X':=ZM) H x₀.O x₀.sc F₁ Nl.sub HC.cn.1 HC.cn.2.2 hf
 exact K1 (ZM:=ZM) (cenv:=Zn4 sc' (Xy sc'.names env) _ env) (sy:={sx with heap:=h₁}) x₀ he hc I fin hgo zx ⟨c_.frame,c_.has,c_.item,c_.done,c_.self,c_.draw⟩ HC O'.1 O'.2.1 (RU hT λn h=>(b9.mp h).elim (λh=>.inl ⟨O'.2.2.1 n (eq_of_beq h),rfl⟩) λh=>absurd rfl (H.cell _ (Zy8 (eq_of_beq h))))
  ⟨Nl.inv Rt,N₁.trans ⟨.keeps Nl.keep,rx.g,rx.d,rx.o⟩,⟨c_.frame hst λb Y o e=>w.2.2.1 b o e,λb hb=>(hfp b hb).imp id λh=>h.imp λo v=>Nl.view v,hl.mono λY Y=>Nl.view⟩,w.2.2.2,rfl⟩ (O'.2.2.2 Nm (λY Y=>Nl.view) λn d e o e2=>⟨o.slots,Nl.keep _ _ e2⟩) rfl rfl λn a e=>x₀.O.xc n a (VG hf e)
end
section
variable{c:Cx}{G:Str->AV->Bool}{C:ZV}{n:Nat}{nm:List Str}{env:Env}{sc sc':aa}
theorem Ep{elt cond GS:X}{x tg i:Expr}{ifs:List Expr}{tgt:List Nat}{f mu:Bool}{pos:Pos}(x₀:Ex c G C n nm env sc)(H:V1 sc' sc nm tgt)(hT:R5 nm sc' tgt tg=true)(Nn:Yi i=true)(hi:SI c C nm env GS i tg)
 (he:∀{X' env'},Ex (c.wX X') G C n nm env' (YK sc' sc)->SE (c.wX X') C nm env' elt x) (hc:cI f ifs λz=>∀{X' env'},Ex (c.wX X') G C n nm env' (YK sc' sc)->SE (c.wX X') C nm env' cond z):
 SE c C nm env (.comp mu f elt tgt GS cond) (.ListComp x [⟨tg,i,ifs,0⟩] sc' pos):=
 ZR (λY Y=>rfl) λ{s U L E Q} I F hq=>QX (use:=none) x₀ H hT Nn hi he hc I F hq λ{s' U' D Cn v mm} q I' N nX new hm ev=>⟨mm,hm,λh' hs=>by
  have hh:∀b∈[Cn],b=Cn:=λb hb=>cP.mp hb
  have sm:Nt [Cn] s'.heap h':=λb o n e=>(hs.2 b λz=>n (cP.mpr z)).trans e
  have k:YF c.l s.heap U h' U':=⟨λa o e u n=>(hs.2 a λ(z:a=Cn)=>new o (z▸e) (z▸u)).trans (N.k.obj a o e u n),λa o e u=>eE (N.k.fr a o e u) λsl e'=>⟨sl,(hs.2 a λ(z:a=Cn)=>new o (z▸e) (z▸u)).trans e'⟩,N.k.dom⟩
  exact⟨⟨v,q,ev.mono λa o w=>⟨(hs.2 a λz=>w.x (.inr z)).trans w.h,w.u,λz=>w.x (.inl z)⟩⟩,Inv.shrink (t:=s'.toks) I' sm (λY=>.inl) (λb hb=>.inr (hh b hb)) (λb hb z=>nX (hh b hb▸z)) I.fx,k,N.r.trans ZF⟩⟩
structure KH(c:Cx)(G:Str->AV->Bool)(C:ZV)(nm:List Str)(env:Env)(sc:aa)(x:X):Prop where
 e:∀{e},YV G nm x sc (.e e)=true->SE c C nm env x e
 l:∀{es},YV G nm x sc (.l es)=true->Each (SE c C nm env) x es
 bo:∀{o es},YV G nm x sc (.bo o es)=true->SB c C nm env x o es
 it:∀{t i},YV G nm x sc (.it t i)=true->SI c C nm env x i t
theorem Y_(K:Expr->Bool)(h:∀p,YV G nm x sc p=p.Us K)(k:∀{e},K e=true->SE c C nm env x e):KH c G C nm env sc x:=
 ⟨λq=>k ((h _).symm.trans q),λq=>Zv ((h _).symm.trans q),λq=>Zv ((h _).symm.trans q),λq=>Zv ((h _).symm.trans q)⟩
theorem OD(K:Expr->Expr->Bool)(h:∀p,YV G nm x sc p=p.Vz K)(k:∀{t e},K t e=true->SI c C nm env x e t):KH c G C nm env sc x:=
 ⟨λq=>Zv ((h _).symm.trans q),λq=>Zv ((h _).symm.trans q),λq=>Zv ((h _).symm.trans q),λq=>k ((h _).symm.trans q)⟩
theorem RP(h:∀p,YV G nm x sc p=false):KH c G C nm env sc x:=⟨λq=>Zv ((h _).symm.trans q),λq=>Zv ((h _).symm.trans q),λq=>Zv ((h _).symm.trans q),λq=>Zv ((h _).symm.trans q)⟩
theorem uH(x:Ex c G C n nm env sc)(ia:KH c G C nm env sc a):KH c G C nm env sc (.u o a):=by
 induction hk:EN o using jO with
 |some k=>
  exact Y_ (λe=>Uu e λn as=>X5 G sc n k&&v1 as λx=>Yi x&&YV G nm a sc (.e x)) (λp=>by show AF G o sc p _=_;unfold AF;rw[hk]) λh=>
   Xg h λm np as p h=>YX h λh2 h=>Ye h λy h=>YX h λh5 h6=>IX x hk h2 h5 (ia.e h6)
 |none=>
  induction o using jU with
  |not=>exact Y_ _ (λY=>rfl) λh=>ND h λo y p h=>YX h λh2 h3=>YW h2 (AA (ia.e h3))
  |rev=>exact Y_ _ (λY=>rfl) λh=>W6 h λy i p h=>YX h λh2 h=>VI h λa1 b1 d1 p' h=>Vr h λh=>Vr h λh=>Tw h λm h7=>Aj (ia.e h2) h7
  |pop=>exact Y_ _ (λY=>rfl) λh=>Ut h λat' y ap as p hp h=>YX h λh2 h=>Zb h λh=>YX h λh5 h6=>YW h2 (Am x.O h5 hp (ia.e h6))
  |N9=>exact Y_ _ (λY=>rfl) λh=>Ut h λat' y ap as p hp h=>YX h λh h'=>YX h λh2 h4=>Ye h4 λz h=>P7 h λk p'=>YX h' λh5 h6=>YW h2 (EC x.O h5 hp (ia.e h6))
  |dL=>exact Y_ _ (λY=>rfl) λh=>OO h λes p h=>R8 h λh2 h4 h5=>uV (Wz x.O (ia.l h5) h4) h2
  |dM=>exact Y_ _ (λY=>rfl) λh=>OO h λes p h=>R8 h λh2 h4 h5=>uU (Wz x.O (ia.l h5) h4) h2
  |dT=>exact Y_ _ (λY=>rfl) λh=>W5 h λes k p h=>R8 h λh2 h4 h5=>CB (Wz x.O (ia.l h5) h4) h2
  |M6=>exact Y_ _ (λY=>rfl) λh=>YX h λh1 h2=>Av h1 (ia.e h2)
  |Df=>exact OD _ (λY=>rfl) λh=>YX h λY h=>Ab x.room.handled (ia.e h)
  |rU=>exact OD _ (λY=>rfl) λh=>YX h λY h=>z_ x.room.handled (ia.e h)
  |Xa=>exact OD _ (λY=>rfl) λh=>Xg h λm np as p h=>YX h λh2 h=>Ye h λy h=>YX h λh5 h6=>IP x h2 h5 (ia.e h6)
  |SZ=>exact OD _ (λY=>rfl) λh=>YX h λg1 h=>W5 g1 λes k q Y=>Xg h λm np as p h=>YX h λh2 h=>Ye h λy h=>YX h λh5 h6=>Ew x h2 h5 (ia.e h6)
  |zz=>exact RP λp=>by cases p<;>rfl
  |_=>exact XD hk
end
section
variable{c:Cx}{G:Str->AV->Bool}{C:ZV}{n:Nat}{nm:List Str}{env:Env}{sc sc':aa}
theorem uG(x:Ex c G C n nm env sc)(ia:KH c G C nm env sc a)(id:KH c G C nm env sc d):KH c G C nm env sc (.b o a d):=by
 induction hk:rA o using jO with
 |some op=>
  exact Y_ (λe=>EP e λo x y=>o==op&&(YV G nm a sc (.e x)&&YV G nm d sc (.e y))) (λp=>by show NB G o sc p _ _=_;unfold NB;rw[hk]) λh=>
   Mx h λo' y z p h=>R8 h λh2 h4 h5=>YW h2 (Ax x.O hk (ia.e h4) (id.e h5))
 |none=>
 induction hm:rz o using jO with
 |some op=>
  exact Y_ (λe=>EO e λos x ys=>(v1 os λo=>o==op)&&v1 ys λy=>!Zp8 op y&&(YV G nm a sc (.e x)&&YV G nm d sc (.e y))) (λp=>by show NB G o sc p _ _=_;unfold NB;rw[hk,hm]) λh=>
   Mw h λos y ys p h=>YX h λh2 h3=>Ye h2 λo' h4=>Ye h3 λz h=>R8 h λh6 h8 h9=>YW h4 (Aw x hm (w9 h6) (ia.e h8) (id.e h9))
 |none=>
 induction hs:EM o using jB with
 |true=>
  exact Y_ (λe=>P9 e λx i=>WQ i&&(YV G nm a sc (.e x)&&YV G nm d sc (.e i))) (λp=>by show NB G o sc p _ _=_;unfold NB;rw[hk,hm,hs]) λh=>
   W6 h λy z p h=>R8 h λh2 h4 h5=>IV x.O hs h2 (ia.e h4) (id.e h5)
 |false=>
  induction o using jQ with
  |M5=>exact Y_ _ (λY=>rfl) λh=>W6 h λy i p h=>YX h λh2 h=>VI h λa1 b1 d1 q h=>Tw h λz h=>Vr h λh=>Vr h λh=>IU x.O (ia.e h2) (id.e h)
  |xM=>exact Y_ _ (λY=>rfl) λh=>W6 h λy i p h=>YX h λh2 h=>VI h λa1 b1 d1 q h=>Vr h λh=>Tw h λz h=>Vr h λh=>Ak x.O (ia.e h2) (id.e h)
  |GH=>exact Y_ _ (λY=>rfl) λh=>W6 h λy i p h=>YX h λh2 h=>VI h λa1 b1 d1 q h=>Vr h λh=>Tw h λz h=>Vr h λh=>Ez x.O (ia.e h2) (id.e h)
  |TP=>exact OD _ (λY=>rfl) λh=>YX h λg1 h=>W5 g1 λes k q Y=>Xg h λm np as p h=>YX h λh2 h=>V3 h λy z h=>YX h λh5 h6=>YX h5 λh7 h8=>YX h6 λh9 h10=>z9 x h2 h7 h8 (ia.e h9) (id.e h10)
  |append=>exact RP λY=>rfl
  |extend=>exact RP λY=>rfl
  |get=>exact RP λY=>rfl
  |zz=>exact RP λp=>by cases p<;>rfl
  |_=>first|exact XD hk|exact XD hm|exact Wf hs
theorem IB(x:Ex c G C n nm env sc)(ia:KH c G C nm env sc a)(ib:KH c G C nm env sc b)(hw:∀p,YV G nm w sc p=p.Wk o λx r=>YV G nm a sc (.e x)&&Q4 o r (YV G nm b sc))
 (k:∀{y r},SE c C nm env a y->SB c C nm env b o r->SB c C nm env w o (y::r)):KH c G C nm env sc w:=
  have go:∀{o' es},(o'==o&&Ys es λx r=>YV G nm a sc (.e x)&&Q4 o r (YV G nm b sc))=true->SB c C nm env w o' es:=λh=>YX h λh1 h=>Zq h λy r h=>YX h λh4 h5=>YW h1 (k (ia.e h4) (EI h5 (λY=>ib.e) λY=>ib.bo))
  ⟨λ{e} h=>Jb (show vBool e (λo' es=>o'==o&&Ys es λx r=>YV G nm a sc (.e x)&&Q4 o r (YV G nm b sc))=true from(hw _).symm.trans h) λo' es p h=>uS (go h),λh=>Zv ((hw _).symm.trans h),λh=>go ((hw _).symm.trans h),λh=>Zv ((hw _).symm.trans h)⟩
theorem eP(w:X)(x:Ex c G C n nm env sc):KH c G C nm env sc w:=by
 induction w generalizing c env sc with
 |loc i=>exact Y_ _ (λY=>rfl) λh=>YZ h λm p h=>R8 h λh2 h4 h5=>I5 x.O x.sc h2 h4 h5
 |cst v=>exact Y_ _ (λY=>rfl) λh=>AB h
 |glob k v=>exact Y_ _ (λY=>rfl) λh=>YZ h λm p h=>EL x h
 |u o a ia=>exact uH x (ia x)
 |b o a d ia id=>exact uG x (ia x) (id x)
 |lm o a d ia id=>exact Y_ _ (λY=>rfl) λh=>Ut h λat' y ap as p hp h=>R8 h λh2 h4 h5=>uO x h2 hp h5 ((ia x).e h4) (λY=>(id x).e) λY k h=>Wz x.O ((id x).l h) k
 |and a b ia ib=>exact IB x (ia x) (ib x) (λY=>rfl) λha hb=>Ar x.O ha hb
 |or a b ia ib=>exact IB x (ia x) (ib x) (λY=>rfl) λha hb=>uT x.O ha hb
 |ite t a b it ia ib=>exact Y_ _ (λY=>rfl) λh=>AJ h λy z w p h=>R8 h λh2 h4 h5=>Az x.O ((it x).e h2) ((ia x).e h4) ((ib x).e h5)
 |De a b d ia ib id=>exact Y_ _ (λY=>rfl) λh=>Mw h λos y ys p h=>YX h λh2 h3=>V3 h2 λo1 o2 h=>YX h λh5 h6=>V3 h3 λz w h=>CF h λh8 h10 h12 Eo=>YW h5 (YW h6 (Aq x (w9 h8) ((ia x).e h10) ((ib x).e h12) ((id x).e Eo)))
 |attr a m ia=>exact Y_ _ (λY=>rfl) λh=>R7 h λat' y p h=>R8 h λh2 h4 h5=>YW h2 (EJ x.t.W h4 ((ia x).e h5))
 |call f as i ia=>exact Y_ _ (λY=>rfl) λh=>T7 h λg args kw p h=>YX h λh2 h=>Zb h λh=>R8 h λh5 h7 h8=>YZ (P:=λg=>SE c C nm env f g->SE c C nm env (.call f as) (.Call g args [] p)) h2 (λm np Y hf=>EG x h7 hf (Wz x.O ((ia x).l h8) h7)) ((i x).e h5)
 |mk k j as ia=>exact Y_ _ (λY=>rfl) λh=>Xg h λm np args p h=>R8 h λh2 h4 h5=>uR x h2 h4 (Wz x.O ((ia x).l h5) h4)
 |SY a m as ia i=>exact Y_ _ (λY=>rfl) λh=>Ut h λat' y ap args p hp h=>oq h λh2 h4 h6 h8 h10 h11=>YW h2 (ED x h4 hp h6 h8 ((ia x).e h10) (Wz x.O ((i x).l h11) h8))
 |KA a cs ia=>exact Y_ _ (λY=>rfl) λh=>Xg h λm np args p h=>YX h λh2 h=>V3 h λy t h=>CF h λh5 h7 h9 h10=>Ao x h2 h5 h7 ((ia x).e h9) h10
 |dict i ks vs _ iv=>exact Y_ _ (λY=>rfl) λh=>I_ h λkeys values p h=>kI h λh2 h4 h6 h8 h9=>Ey x h2 (cW h4) h6 λx'=>(iv x').l h9
 |comp mu f elt tgt it cond ie ii ic=>
  refine Y_ _ (λY=>rfl) λh=>ON h λy gs sc' p h=>Ye h λg h=>?_
  cases g with|mk t i ifs a=>
  refine YX h λh3 h=>oq h λh5 h7 h9 h11 Eo zm=>YW h3 (Ep x (V1.of h5) h7 h9 ((ii x).it h11) (λx'=>(ie x').e Eo) ?_)
  induction f using jB with
  |false=>exact Zb zm λY=>rfl
  |true=>exact Ye zm λz h=>⟨z,rfl,λx'=>(ic x').e h⟩
 |nil=>exact⟨λh=>Zv h,λh=>Zb h λY=>rfl,λh=>Zv h,λh=>Zv h⟩
 |cons a t ia it=>exact⟨λh=>Zv h,λh=>Zq h λy r h=>R8 h λh2 h4 h5=>⟨y,r,rfl,(ia x).e h4,(it x).l h5⟩,λh=>Zv h,λh=>Zv h⟩
end
structure SS(c:Cx)(C:ZV)(nm:List Str)(env:Env)(k:S)(body:List Zz3):Prop where
 r:∀{s:cK} {U:US} {L:Loc} {Q:ZD} {E:Loc->US->Prop},Inv c s U->Fr c s U env nm L->wpS C k Q E L U->bT c.M c.A (execs body env) (Tz c env nm s U Q) (Uv c env nm s U E) s
structure ST(c:Cx)(nm:List Str)(env:Env)(st:Zz3)(W:ZD->(Loc->US->Prop)->Loc->US->Prop):Prop where
 r:∀{s:cK} {U:US} {L:Loc} {Q:ZD} {E:Loc->US->Prop},Inv c s U->Fr c s U env nm L->W Q E L U->bT c.M c.A (exec st env) (Tz c env nm s U Q) (Uv c env nm s U E) s
theorem KZ{Q:ZD}:Y4 Q (λL U=>Q none L U)=Q:=funext λo=>by induction o using jO<;>rfl
theorem Em{k:S}{x y:Prop}(h:k.vY x y):(k=.nil/\x)\/y:=by
 induction k using jS with
 |nil=>exact .inl ⟨rfl,h⟩
 |_=>exact .inr h
section
variable{c:Cx}{C:ZV}{nm:List Str}{env:Env}{s s₁ s':cK}{U Z6 U':US}{L:Loc}{Q:ZD}{E:Loc->US->Prop}
theorem QW{st:Zz3}{rest:List Zz3}{k:S}{W:ZD->(Loc->US->Prop)->Loc->US->Prop}{K:Loc->US->Prop}(h1:ST c nm env st W)(h2:SS c C nm env k rest)(hk:∀L U,K L U->wpS C k Q E L U)(I:Inv c s U)(F:Fr c s U env nm L)(hq:W (Y4 Q K) E L U):
 bT c.M c.A (execs (st::rest) env) (Tz c env nm s U Q) (Uv c env nm s U E) s:=by
 rw[execs_cons]
 refine cY (bO (h1.r I F hq) (λfl s' z=>?_) λY Y z=>z)
 cases z with|@mk o L' U' q fi J F' kp=>
 induction o using jO with
 |none=>
  cases fi
  exact bO (h2.r J F' (hk _ _ q)) (λY Y z=>z.trans kp) λY Y z=>z.trans kp
 |some v=>
  obtain⟨x,rfl,ex⟩:=fi
  exact b7 ⟨q,⟨x,rfl,ex⟩,J,F',kp⟩
theorem execs_nil{Q:Flow->cK->Prop}{R:Value->cK->Prop}{M:Model}{A:aC}(h:Q .next s):bT M A (execs [] env) Q R s:=b7 h
theorem IA:SS c C nm env .nil []:=.mk λI F q=>execs_nil ⟨q,rfl,I,F,.refl⟩
theorem Nk{body:List Zz3}:SS c C nm env .bad body:=.mk λY Y q=>q.elim
theorem Wn{α:Type}{m:Sem α}{P:α->Zz0->US->Prop}{R:α->cK->Prop}(O:ZO env nm c.X)(I:Inv c s U)(F:Fr c s U env nm L)(h:bT c.M c.A m (Ok c s U P) (Er c s U (E L)) s)(hf:∀{a s₁ Z6},P a s₁.heap Z6->Inv c s₁ Z6->Fr c s₁ Z6 env nm L->Nx c s U s₁ Z6->R a s₁):bT c.M c.A m R (Uv c env nm s U E) s:=
 bO h (λa s₁ ⟨p,i,n⟩=>hf p i (F.keep I O n) n) λY Y z=>⟨.refl,I,F,z⟩
theorem Mm{α:Type}{m:Sem α}{R:α->cK->Prop}(n:Sx c env s U s₁ Z6)(h:bT c.M c.A m R (Uv c env nm s₁ Z6 E) s₁):bT c.M c.A m R (Uv c env nm s U E) s₁:=bO h (λY Y z=>z) λY Y z=>z.trans n
theorem Nj{m:Sem Flow}{sx:cK}(n:Sx c env s U s₁ Z6)(h:bT c.M c.A m (Tz c env nm s₁ Z6 Q) (Uv c env nm s₁ Z6 E) sx):bT c.M c.A m (Tz c env nm s U Q) (Uv c env nm s U E) sx:=bO h (λY Y z=>z.trans n) λY Y z=>z.trans n
theorem Tz.next(q:Q none L U')(I:Inv c s' U')(F:Fr c s' U' env nm L)(k:Sx c env s U s' U'):Tz c env nm s U Q .next s':=⟨q,rfl,I,F,k⟩
noncomputable abbrev Yv(e:Expr):Bool:=eS true false e (kg:=λY Y Y Y Y=>false)
noncomputable abbrev Ni(e:Expr):Bool:=eS true false e (kp:=λY Y Y Y=>false) (kt:=λY Y Y=>false)
theorem WO{x:Expr}(h:Yv x=true)(t:Option Expr)(line:Nat)(env:Env):Zl7 x t line env=pure false:=by induction x using jE<;>first|rfl|exact Zv h
theorem El{e:X}{x:Expr}{pos:Pos}(O:ZO env nm c.X)(he:SE c C nm env e x)(hx:Yv x=true):ST c nm env (.Expr x pos) λQ E L U=>ZK C (E L) e L (λY U1=>Q none L U1) U:=.mk λ{s U L Q E} I F hq=>by
 have e1:exec (.Expr x pos) env=(do Zr5 pos;dropValue x pos (<-Zq2 x env)):=by
  rw[arm_exec_Expr]
  have:interactive env=false:=by unfold interactive;rw[O.kind];rfl
  rw[this,WO hx];rfl
 rw[e1]
 refine cY (bB (cY (Wn O I F (he.v I F hq) λ{v s₁ Z6} Z J F₁ N=>eE Z λw Z=>aE Z λq _=>wpAny_dropValue (.next q J F₁ N.sx))))
theorem Iz{e:X}{x:Expr}{pos:Pos}(O:ZO env nm c.X)(he:SE c C nm env e x):ST c nm env (.Return (some x) pos) λQ E L U=>ZK C (E L) e L (λv U1=>Q (some v) L U1) U:=.mk λ{s U L Q E} I F hq=>
 wpAny_Return_some (Wn O I F (he.v I F hq) λ{v s₁ Z6} Z J F₁ N=>eE Z λw Z=>aE Z λq ev=>⟨q,⟨v,rfl,ev⟩,J,F₁,N.sx⟩)
theorem uF{t:X}{a d:S}{x:Expr}{body orelse:List Zz3}{pos:Pos}(O:ZO env nm c.X)(ht:SE c C nm env t x)(ha:SS c C nm env a body)(hd:SS c C nm env d orelse):
 ST c nm env (.If x body orelse pos) λQ E L U=>ZK C (E L) t L (λv U1=>Wk v λr=>fF r (wpS C a Q E L U1) (wpS C d Q E L U1)) U:=.mk λ{s U L Q E} I F hq=>by
 refine wpAny_If (Wn O I F (ht.b (Q:=λr U1=>fF r (wpS C a Q E L U1) (wpS C d Q E L U1)) I F hq) λ{v s₁ Z6} q J F₁ N=>?_)
 induction v using jB with
 |true=>exact Nj N.sx (ha.r J F₁ q)
 |false=>exact Nj N.sx (hd.r J F₁ q)
theorem YL.nH{h':Zz0}{t:Nat}(O:ZO env nm c.X)(S:YL (eH env) s.heap h')(I:Inv c s U)(F:Wh c.gv (Vw c h' U) h' env nm L)(q:Q none L U):Tz c env nm s U Q .next {s with heap:=h',toks:=t}:=
 .next q (S.wr.inv (λa z=>Wq O z) S.ry I) F ⟨S.wr.stay (YF.refl ..).stay λa o w Y Y=>w,ZF⟩
theorem OC{t x:Expr}{pos:Pos}(h1:Zl7 x (some t) pos.line env=pure false)(h2:Zp7 [t] x env=pure none)(h3:Yi t=true):exec (.Assign [t] x pos) env=(do
 Zr5 pos
 let v<-Zq2 x env
 Zg4 t env v
 pure .next):=by
 rw[arm_exec_Assign]
 have e1:swapsWithSole [t] x pos.line env=pure false:=h1
 have e2:(Zl8 [t] env).map (·.2)=[Zg4 t env]:=by induction t using jE<;>first|rfl|exact Zv h3
 rw[e1,h2,e2]
 rfl
end
section
variable{c:Cx}{G:Str->AV->Bool}{C:ZV}{n:Nat}{nm:List Str}{env:Env}{sc sc':aa}{s s₁ s':cK}{U Z6 U':US}{L:Loc}{Q:ZD}{E:Loc->US->Prop}
theorem OB(O:ZO env nm c.X)(hn:nm[i]?=some m)(hk:To (env.kindOf m)=true)(I:Inv c s U)(F:Fr c s U env nm L)(ev:En c s.heap U v x)(q:Q none (L.set i (some v)) U):
 bT c.M c.A (Zg4 (.Name m pp) env x) (λY s'=>Tz c env nm s U Q .next s') R s:=Zr3 (VJ F O hn (Uq hk) ev λh' t S F'=>S.nH O I F' q)
theorem RO{e:X}{t x:Expr}{pos:Pos}{W:AV->ZD->(Loc->US->Prop)->Loc->US->Prop}(O:ZO env nm c.X)(he:SE c C nm env e x)(h1:Zl7 x (some t) pos.line env=pure false)(h2:Zp7 [t] x env=pure none)(h3:Yi t=true)
 (ht:∀{s:cK} {U:US} {L:Loc} {Q:ZD} {E:Loc->US->Prop} {v:AV} {y:Value},Inv c s U->Fr c s U env nm L->En c s.heap U v y->W v Q E L U->bT c.M c.A (Zg4 t env y) (λY s'=>Tz c env nm s U Q .next s') (Uv c env nm s U E) s):
 ST c nm env (.Assign [t] x pos) λQ E L U=>ZK C (E L) e L (λv U1=>W v Q E L U1) U:=.mk λ{s U L Q E} I F hq=>by
 rw[OC h1 h2 h3]
 refine cY (bB (cY (Wn O I F (he.v I F hq) λ{y s₁ Z6} Z J F₁ N=>eE Z λv Z=>aE Z λq ev=>cY ?_)))
 exact bO (ht J F₁ ev q) (λY s' z=>b7 (z.trans N.sx)) λY Y z=>z.trans N.sx
theorem Ek(W:Wd c)(O:ZO env nm c.X)(he:SE c C nm env e x)(ha:SE c C nm env a y)(hx:Yv x=true):ST c nm env (.Assign [.Attribute y (ZU m) pp] x pos) λQ E L U=>ZK C (E L) e L (λv U1=>ZK C (E L) a L (λo U2=>WW o m v (λU3=>Q none L U3) U2) U1) U:=
 RO (W:=λv Q E L U1=>ZK C (E L) a L (λo U2=>WW o m v (λU3=>Q none L U3) U2) U1) O he (WO hx ..) (by induction x using jE<;>rfl) rfl λ{s U L Q E v z} I F ev hq=>by
  show bT _ _ (do
   let ov<-Zv4 [z] (Zq2 y env)
   Zr5 pp.atName
   Zv4 [z,ov] (setAttr ov (ZU m) z)
   release [z,ov] []) _ _ _
  refine cY (bJ (Wn O I F (ha.v I F hq) λ{ov s₁ Z6} Z J F₁ N=>eE Z λo Z=>aE Z λq eo=>cY (bB (cY (bJ (Mm N.sx ?_))))))
  exact Wn (P:=pU λU3=>Q none L U3) O J F₁ (O5 W J q eo (ev.mono (I.vw N))) λ{_ s₂ Ze} q Yg Vy Yw=>wpAny_release (.next q Yg Vy (N.trans Yw).sx)
theorem Ml(W:Wd c)(O:ZO env nm c.X)(he:SE c C nm env e x)(ha:SE c C nm env a y)(hi:SE c C nm env i z)(hx:Yv x=true):ST c nm env (.Assign [.Subscript y z pp] x pos) λQ E L U=>ZK C (E L) e L (λv U1=>ZK C (E L) a L (λb U2=>ZK C (E L) i L (λj U3=>QI o b j v (λU4=>Q none L U4) U3) U2) U1) U:=
 RO (W:=λv Q E L U1=>ZK C (E L) a L (λb U2=>ZK C (E L) i L (λj U3=>QI o b j v (λU4=>Q none L U4) U3) U2) U1) O he (WO hx ..) (by induction x using jE<;>rfl) rfl λ{s U L Q E v w} I F ev hq=>by
  show bT _ _ (do
   let ov<-Zv4 [w] (Zq2 y env)
   let iv<-Zv4 [w,ov] (Zq2 z env)
   Zr5 pp
   Zv4 [w,ov,iv] (setItem ov iv w)
   release (match(generalizing:=false) z with|.Slice _ _ none _=>[iv,w,ov]|_=>[w,ov,iv]) []) _ _ _
  refine cY (bJ (Wn O I F (ha.v I F hq) λ{ov s₁ Z6} Z J F₁ N=>eE Z λb Z=>aE Z λq eo=>cY (bJ (Mm N.sx ?_))))
  refine Wn O J F₁ (hi.v J F₁ q) λ{iv s₂ Ze} Z Yg Vy Yw=>eE Z λj Z=>aE Z λq ei=>cY (bB (cY (bJ (Mm (N.trans Yw).sx ?_))))
  exact Wn (P:=pU λU4=>Q none L U4) O Yg Vy (O0 W Yg q (eo.mono (J.vw Yw)) ei ((ev.mono (I.vw N)).mono (J.vw Yw))) λ{_ s₃ Af} q Ae RQ P5=>wpAny_release (.next q Ae RQ ((N.trans Yw).trans P5).sx)
theorem OA{is:List Nat}{v:AV}{K:Loc->Prop}(h2:∀i,is≠[i])(h:Wj v λvs=>Zs is vs L K):ZB is v L K:=by
 induction is using jL with
 |nil=>exact h
 |cons i r=>induction r using jL with
  |nil=>exact absurd rfl (h2 i)
  |cons j r=>exact h
theorem Ej(hh:c.A.handled=none)(O:ZO env nm c.X)(hs:env.scope=sc)(he:SE c C nm env e x)(h2:∀i,is≠[i])(hT:R5 nm sc is t=true)(hx:Yv x=true)(hn:Ni x=true):
 ST c nm env (.Assign [t] x pos) λQ E L U=>ZK C (E L) e L (λv U1=>Wj v λvs=>Zs is vs L λL2=>Q none L2 U1) U:=by
  have TT:K7 env nm (eH env) is t:=RU hT λm h=>Uq (by unfold Env.kindOf;rw[hs];exact h)
  have hk:Yi t=true:=by
   induction t using jE with
   |Name=>rfl
   |Tuple=>rfl
   |_=>exact TT.elim
  have hw:Zp7 [t] x env=pure none:=by
   induction t using jE with
   |Name=>induction x using jE<;>rfl
   |Tuple=>induction x using jE<;>first|rfl|exact Zv hn
   |_=>exact TT.elim
  exact @RO c C nm env e t x pos (λv Q E L U1=>Wj v λvs=>Zs is vs L λL2=>Q none L2 U1) O he (WO hx ..) hw hk λ{s U L Q E v y} I F ev hq=>Vg hh O (λa z=>Wq O z) TT F (ev.drawn λa o v=>v.h) (OA h2 hq) λ{h' t' L'} S F' q=>S.nH O I F' q
noncomputable abbrev eV(e:Expr):Bool:=swappedStores.match_5 (λY=>Bool) e (λY Y=>true) λY=>false
theorem Mk(h:Yi e=true):eV e=false:=by induction e using jE<;>first|rfl|exact Zv h
noncomputable def Iw(sc:aa)(n1 n2:Str)(p1 p2:Pos)(v1 v2:Expr):Bool:=
 (sc.names.lookup n1==some .local&&sc.names.lookup n2==some .local)&&(cZ p2.line p1.line&&(sc.kind==.function&&(n1 !=n2&&(Yi v1&&(Yi v2&&(!([v1,v2].all (foldedForSure 8))&&!([v1,v2].all (constantsAlone 8))))))))
theorem Nh(ts vs:List Expr)(k k':Nat)(p p':Pos)(env:Env):Zp7 [.Tuple ts k p] (.Tuple vs k' p') env=
 (if(!(ts.length==2||ts.length==3)||vs.length !=ts.length||env.blockKind !=.function)=true then pure none else
  if(vs.any eV)=true then pure none else
  let names:=ts.filterMap λx=>Zi1 (λY=>Option Str) x (λid pos=>if env.kindOf id==some .local&&pos.line==((ts.head?.map (·.pos.line)).getD 0)then some id else none) λY=>none
  if(names.length !=ts.length||names.eraseDups.length !=names.length)=true then pure none else
  if vs.all (foldedForSure 8)=true then pure none else
  if vs.all (constantsAlone 8)=true then(do unsupported "assign.tuple-of-constant-expressions:order-of-the-stores";pure (some names))else pure (some names)):=rfl
theorem Iu{n1 n2:Str}{p1 p2 p p':Pos}{k k':Nat}{v1 v2:Expr}(hs:env.scope=sc)(h:Iw sc n1 n2 p1 p2 v1 v2=true):n1≠n2/\Zp7 [.Tuple [.Name n1 p1,.Name n2 p2] k p] (.Tuple [v1,v2] k' p') env=pure (some [n1,n2]):=by
 refine hG ?_;intro PP
 obtain⟨h1,h⟩:=Z0 h
 obtain⟨h1,h2⟩:=Z0 h1
 obtain⟨h3,h⟩:=Z0 h
 obtain⟨h4,h⟩:=Z0 h
 obtain⟨h5,h⟩:=Z0 h
 obtain⟨h6,h⟩:=Z0 h
 obtain⟨h7,h⟩:=Z0 h
 obtain⟨h8,h9⟩:=Z0 h
 have hb:env.blockKind=.function:=by unfold Env.blockKind;rw[hs,beq_iff_eq.mp h4];rfl
 have k1:env.kindOf n1=some .local:=by unfold Env.kindOf;rw[hs];exact beq_iff_eq.mp h1
 have k2:env.kindOf n2=some .local:=by unfold Env.kindOf;rw[hs];exact beq_iff_eq.mp h2
 have ne:=bne_iff_ne.mp h5
 have st:[v1,v2].any eV=false:=by show(eV v1||(eV v2||false))=false;rw[Mk h6,Mk h7];rfl
 have hf:([.Name n1 p1,.Name n2 p2]:List Expr).filterMap (λx=>Zi1 (λY=>Option Str) x (λid pos=>if env.kindOf id==some .local&&pos.line==p1.line then some id else none) λY=>none)=[n1,n2]:=by
  rw[Zl6 (b:=n1) (by show(if env.kindOf n1==some .local&&p1.line==p1.line then some n1 else none)=_;rw[k1,beq_self_eq_true,beq_self_eq_true];rfl),
   Zl6 (b:=n2) (by show(if env.kindOf n2==some .local&&p2.line==p1.line then some n2 else none)=_;rw[k2,cW h3,beq_self_eq_true,beq_self_eq_true];rfl)];rfl
 refine⟨ne,?_⟩
 rw[Nh,hb,st]
 dsimp only
 rw[show((([.Name n1 p1,.Name n2 p2]:List Expr).head?.map (·.pos.line)).getD 0)=p1.line from rfl,hf]
 have ed:[n1,n2].eraseDups=[n1,n2]:=by simp[List.eraseDups_cons,beq_eq_false_iff_ne.mpr ne.symm]
 rw[Zr6]at h8 h9
 rw[ed,h8,h9]
 rfl
end
section
variable{c:Cx}{G:Str->AV->Bool}{C:ZV}{n:Nat}{nm:List Str}{env:Env}{sc sc':aa}{s s₁ s':cK}{U Z6 U':US}{L:Loc}{Q:ZD}{E:Loc->US->Prop}
theorem Ei{i j:Nat}{e:X}{n1 n2:Str}{p1 p2 p p' pos:Pos}{k k':Nat}{v1 v2:Expr}(hh:c.A.handled=none)(O:ZO env nm c.X)(hs:env.scope=sc)(he:SE c C nm env e (.Tuple [v1,v2] k' p'))(hi:nm[i]?=some n1)(hj:nm[j]?=some n2)(hw:Iw sc n1 n2 p1 p2 v1 v2=true):
 ST c nm env (.Assign [.Tuple [.Name n1 p1,.Name n2 p2] k p] (.Tuple [v1,v2] k' p') pos) λQ E L U=>ZK C (E L) e L (λv U1=>Wj v λvs=>Zs [i,j] vs L λL2=>Q none L2 U1) U:=.mk λ{s U L Q E} I F hq=>by
 obtain⟨ne,sw⟩:=Iu (k:=k) (k':=k') (p:=p) (p':=p') hs hw
 have kd:∀{m:Str},(sc.names.lookup m==some .local)=true->R_ env (eH env) m:=λ{m} h=>.inl ⟨by unfold Env.kindOf;rw[hs];exact beq_iff_eq.mp h,.inl rfl⟩
 refine hG ?_;intro PP
 obtain⟨k1,k2⟩:=Z0 (Z0 hw).1
 dsimp only[PP]
 rw[arm_exec_Assign,show swapsWithSole [.Tuple [.Name n1 p1,.Name n2 p2] k p] (.Tuple [v1,v2] k' p') pos.line env=pure false from rfl,sw]
 refine cY (bB (cY (b7 ?_)))
 rw[if_neg Zx5]
 refine cY (Wn O I F (he.v I F hq) λ{y s₁ Z6} Z J F₁ N=>eE Z λv Z=>aE Z λq ev=>?_)
 refine hG ?_;intro PP
 obtain⟨xs,rfl,q⟩:=XB q
 obtain⟨x1,x2,rfl⟩:=IY (Mr q)
 have q:Q none ((L.set i (some x1)).set j (some x2)) Z6:=q
 refine hG ?_;intro PP
 obtain⟨vs,@⟨a,_,m,vv⟩,_,w1,_,rfl,e1,w2,_,rfl,e2,rfl⟩:=ev
 refine cY (b7 ?_)
 show bT _ c.A (do
  rule "assign.swapped-stores"
  let items<-unpackItems (.ref a) 2 none
  assignInOrder ([n1,n2].reverse.map λn=>bindName env n) items.reverse
  pure Flow.next:Sem Flow) _ _ _
 refine cY (Ze4 (cY ?_))
 refine wpAny_unpackItems_tuple (items:=#[w1,w2]) hh (is_tup vv.h) λh' he'=>?_
 have kp:∀b o,s₁.heap.get? b=some o->h'.get? b=some o:=λb o e=>he' b o (aD (ao e)) e
 have kV:∀b o,Vw c s₁.heap Z6 b o->Vw c h' Z6 b o:=λb o v=>⟨kp _ _ v.h,v.u,v.x⟩
 have Vy:Fr c {s₁ with heap:=h'} Z6 env nm L:=F₁.mono kV (λo e=>⟨o.slots,kp _ _ e⟩) λY Y Y o e=>⟨o.slots,kp _ _ e⟩
 have ij:i≠j:=λz=>by rw[z,hj]at hi;exact ne (cU hi).symm
 refine cY (Zn5 (wpAny_bindName (VJ Vy O hj (kd k2) (e2.mono kV) λh₃ t₃ Rp RQ=>Zn5 (wpAny_bindName (VJ (s:={s₁ with heap:=h₃,toks:=t₃}) RQ O hi (kd k1) ((e1.mono kV).mono λa o v=>Rp.wr.view (λa z=>Wq O z) v) λh₄ t₄ nG Rq=>assignInOrder_nil (b7 ?_))))))
 rw[List.set_comm _ _ ij.symm]at Rq
 have S:=Rp.trans nG
 exact(YL.nH (s:=s₁) O ⟨λa o e n=>S.keep a o (kp _ _ e) n,λa o e x=>S.own a o (kp _ _ e) x⟩ J Rq q).trans N.sx
theorem Eh{elt cond GS:X}{x t i:Expr}{ifs:List Expr}{tgt:List Nat}{f mu:Bool}{pos spos pp:Pos}{j:Nat}{m:Str}(x₀:Ex c G C n nm env sc)(H:V1 sc' sc nm tgt)(hT:R5 nm sc' tgt t=true)(Nn:Yi i=true)(hi:SI c C nm env GS i t)
 (he:∀{X' env'},Ex (c.wX X') G C n nm env' (YK sc' sc)->SE (c.wX X') C nm env' elt x) (hc:cI f ifs λz=>∀{X' env'},Ex (c.wX X') G C n nm env' (YK sc' sc)->SE (c.wX X') C nm env' cond z)
 (hn:nm[j]?=some m) (hk:To (sc.names.lookup m)=true) (hsw:Zl7 (.ListComp x [⟨t,i,ifs,0⟩] sc' pos) (some (.Name m pp)) spos.line env=pure true):
 ST c nm env (.Assign [.Name m pp] (.ListComp x [⟨t,i,ifs,0⟩] sc' pos) spos) λQ E L U=>ZK C (E L) (.comp mu f elt tgt GS cond) L (λv U1=>Q none (L.set j (some v)) U1) U:=.mk λ{s U L Q E} I F hq=>by
 have O:=x₀.O
 rw[exec_Assign_Name_used _ _ _ _ hsw]
 refine cY (bB (cY ?_))
 show bT _ c.A (do let _<-Zk7 (.ListComp x [⟨t,i,ifs,0⟩] sc' pos) sc' env _ (newList []) false (Zq2 i env) (some (Zg4 (.Name m pp) env))) _ _ s
 refine cY (bO (QX (use:=some (Zg4 (.Name m pp) env)) (Qf:=λY s'=>Tz c env nm s U Q .next s') x₀ H hT Nn hi he hc I F hq λ{s' U' D Cn v mm} q I' N nX new hm ev=>?_) (λY s' z=>b7 (b7 z)) λY Y z=>⟨.refl,I,F,z⟩)
 have O':ZO env nm (c.wX (Mp c.X Cn)).X:=O.more λY=>.inl
 have F':Fr (c.wX (Mp c.X Cn)) s' U' env nm L:=F.mono (λa o v=>let v':=N.k.view I.fx v;⟨v'.h,v'.u,λz=>z.elim v'.x λz=>new o (z▸v.h) (z▸v.u)⟩) (λo e=>N.k.fr _ o e (I.Wt O.xl)) λn c e o e2=>N.k.fr _ o e2 (I.Wt (O.xc n c e))
 have nO:¬eH env Cn:=λz=>nX (Wq O z)
 show bT _ c.A (Zg4 (.Name m pp) env (.ref D)) _ _ _
 refine Zr3 (VJ (c:=c.wX (Mp c.X Cn)) F' O' hn (Uq (by unfold Env.kindOf;rw[x₀.sc];exact hk)) ev λh₂ t₂ S Vy=>?_)
 refine⟨mm,hm.at' λo e=>S.keep _ _ e nO,λh' hs=>?_⟩
 have Tj:Inv (c.wX (Mp c.X Cn)) {s' with heap:=h₂,toks:=t₂} U':=S.wr.inv (λa z=>Wq O' z) S.ry I'
 have PZ:Inv c {s' with heap:=h',toks:=t₂} U':=Inv.shrink (c:=c) (s:={s' with heap:=h₂,toks:=t₂}) (X':=Mp c.X Cn) (hid:=[Cn]) Tj (λb o n e=>(hs.2 b λz=>n (cP.mpr z)).trans e) (λY=>.inl) (λb hb=>.inr (cP.mp hb)) (λb hb z=>nX (cP.mp hb▸z)) I.fx
 have RQ:Fr c {s' with heap:=h',toks:=t₂} U' env nm (L.set j (some v)):=Vy.mono (λa o w=>⟨(hs.2 a λz=>w.x (.inr z)).trans w.h,w.u,λz=>w.x (.inl z)⟩) (λo e=>⟨o.slots,(hs.2 _ λz=>nO (.inl z.symm)).trans e⟩) λn c e o e2=>⟨o.slots,(hs.2 _ λz=>nO (.inr ⟨n,z▸e⟩)).trans e2⟩
 have st:R9 (eH env) c.l s.heap U h₂ U':=S.wr.stay N.k.stay λa o w Y Y=>w
 have ne:∀{a:aV} {o:Obj},s.heap.get? a=some o->U a=none->a≠Cn:=λe u z=>new _ (z▸e) (z▸u)
 exact .next q PZ RQ ⟨⟨λa o e u n f=>(hs.2 a (ne e u)).trans (st.obj a o e u n f),λa o e u n=>eE (st.fr a o e u n) λsl z=>⟨sl,(hs.2 a (ne e u)).trans z⟩,λa o e u=>eE (st.own a o e u) λo' z=>⟨o',(hs.2 a (ne e u)).trans z⟩,st.dom⟩,N.r.trans ZF⟩
end
section
variable{c:Cx}{G:Str->AV->Bool}{C:ZV}{n:Nat}{nm:List Str}{env:Env}{sc sc':aa}{s s₁ s':cK}{U Z6 U':US}{L:Loc}{Q:ZD}{E:Loc->US->Prop}{X':aV->Prop}
def Fm(c:Cx)(env:Env):Prop:=∃outer L,c.l=env::outer/\env.frame=some L
theorem Vq{M:Model}{A:aC}{E E':Value->cK->Prop}{e:Value}(k:∀e s,E e s->E' e s)(h:Zr8 M A env E e s):Zr8 M A env E' e s:=
 bO h (λY Y z=>k _ _ z) λY Y z=>k _ _ z
theorem Oz(hf:Fm c env)(h:Uv c env nm s U E e s')(k:∀e s₁,Uv c env nm s U E e s₁->R e s₁):notedBy c.M c.A env (λe s'=>Zr8 c.M c.A env R e s') e s':=by
 refine hG ?_;intro PP
 obtain⟨outer,Lf,hl,hf⟩:=hf
 obtain⟨a,b,d,z⟩:=h
 exact Uw b.frames hl hf z λs'' z=>Vq (λe s z=>k _ _ ⟨a,b,d,z⟩) (MD hl hf z)
theorem Inv.less(I:Inv (c.wX X') s U)(k:∀a,c.X a->X' a)(fx:∀a,SD c.l a->c.X a):Inv c s U:=⟨I.Yr.less k,I.Tr,λa x=>I.xlt a (k a x),I.frames,fx⟩
theorem Wh.less(F:Fr (c.wX X') s U env nm L)(k:∀a,c.X a->X' a):Fr c s U env nm L:=F.mono (λY Y v=>⟨v.h,v.u,λz=>v.x (k _ z)⟩) (λo e=>⟨o.slots,e⟩) λY Y Y o e=>⟨o.slots,e⟩
theorem Uv.less(k:∀a,c.X a->X' a)(fx:∀a,SD c.l a->c.X a):Uv (c.wX X') env nm s U E e s'->Uv c env nm s U E e s'
 |⟨⟨a,a'⟩,b,d,⟨h1,h2,f,h4,h5⟩⟩=>⟨⟨a,a'⟩,b.less k fx,d.less k,⟨h1,h2,⟨f.stays,f.new,f.frames,f.Yq,f.Yr.less k,f.old,f.fr,f.dom⟩,h4,h5⟩⟩
theorem Tz.less(k:∀a,c.X a->X' a)(fx:∀a,SD c.l a->c.X a):Tz (c.wX X') env nm s U Q fl s'->Tz c env nm s U Q fl s'
 |⟨q,fi,I,F,⟨a,b⟩⟩=>⟨q,by
  revert fi
  unfold Jg
  split
  ·exactλh=>h
  ·exactλZ=>eE Z λx Z=>aE Z λe ex=>⟨x,e,ex.mono λY Y v=>⟨v.h,v.u,λz=>v.x (k _ z)⟩⟩,I.less k fx,F.less k,⟨a,b⟩⟩
inductive WJ(c:Cx)(env:Env)(nm:List Str)(s:cK)(U:US)(K:Loc->US->Prop)(s':cK):Prop
 |mk {L' U'}:K L' U'->Inv c s' U'->Fr c s' U' env nm L'->Sx c env s U s' U'->WJ c env nm s U K s'
theorem Ir(O:ZO env nm c.X)(hf:Fm c env)(ht:SE c C nm env t x)(ha:SS c C nm env a body):
 ST c nm env (.While x body [] pos) λQ E L U=>∃n,WK (λL K U1=>ZK C (E L) t L (λv U2=>Wk v λr=>K r U2) U1) (λQ' L U1=>wpS C a Q' E L U1) Q n L U:=.mk λ{s U L Q E} I F Z=>eE Z λfuel hq=>by
  refine wpAny_While ?_
  refine codeAny_whileLoop (λk s'=>WJ c env nm s U (λL' U'=>WK (λL K U1=>ZK C (E L) t L (λv U2=>Wk v λr=>K r U2) U1) (λQ' L U1=>wpS C a Q' E L U1) Q k L' U') s') (λk s' hJ=>?_) fuel ⟨hq,I,F,.refl⟩
  cases hJ with|@mk L' U' hg I' F' sx=>
  have er:∀{e s'},Uv c env nm s U E e s'->notedBy c.M c.A env (λe s'=>Zr8 c.M c.A env (Uv c env nm s U E) e s') e s':=λz=>Oz hf z λY Y z=>z
  induction k using jN with
  |zero=>exact hg.elim
  |succ k=>
   refine bO (Mm sx (Wn O I' F' (ht.b (Q:=λr U1=>fF r (wpS C a (Y4 Q λL2 U2=>WK (λL K U1=>ZK C (E L) t L (λv U2=>Wk v λr=>K r U2) U1) (λQ' L U1=>wpS C a Q' E L U1) Q k L2 U2) E L' U1) (Q none L' U1)) I' F' hg) (R:=λr s₁=>if r=true then bT c.M c.A (execs body env) _ _ s₁ else bT c.M c.A (execs [] env) _ _ s₁) λ{v s₁ Z6} q J F₁ N=>?_)) (λY Y z=>z) λY Y=>er
   induction v using jB with
   |false=>
    rw[if_neg Zx5]
    exact execs_nil (.next q J F₁ (sx.trans N.sx))
   |true=>
    rw[if_pos rfl]
    have Iq:=sx.trans N.sx
    refine bO (ha.r J F₁ q) (λfl s₂ z=>?_) λY Y z=>er (z.trans Iq)
    cases z with|@mk o L₂ Ze q₂ fi Tj Vy Tv=>
    induction o using jO with
    |none=>
     cases fi
     exact⟨k,Zz1 k,q₂,Tj,Vy,Iq.trans Tv⟩
    |some v=>
     obtain⟨x,rfl,ex⟩:=fi
     exact⟨q₂,⟨x,rfl,ex⟩,Tj,Vy,Iq.trans Tv⟩
inductive FJ(c:Cx)(X4:aV->Prop)(t:It)(env:Env)(nm:List Str)(s:cK)(U:US)(N:Nat)(K:Nat->Loc->US->Prop)(k:Nat)(s':cK):Prop
 |mk {j L' U'}:k+j=N+1->j<=N->K j L' U'->Inv (c.wX X4) s' U'->Fr (c.wX X4) s' U' env nm L'->Sx c env s U s' U'->dS (c.wX X4) t j s'.heap U'->FJ c X4 t env nm s U N K k s'
theorem zl(x₀:Ex c G C n nm env sc)(hf:Fm c env)(hT:R5 nm sc tgt t=true)(Nn:Yi i=true)(hi:SI c C nm env GS i t)(ha:∀{X'},Ex (c.wX X') G C n nm env sc->SS (c.wX X') C nm env a body):
 ST c nm env (.For t i body [] pos) λQ E L U=>ZK C (E L) GS L (λxv U1=>Rl xv λxs=>Zc tgt (λQ' L U1=>wpS C a Q' E L U1) Q xs L U1) U:=.mk λ{s U L Q E} I F hq=>by
  have O:=x₀.O
  refine wpAny_For ?_ (Cy Nn env)
  have kq:∀{e s'},Er c s U (E L) e s'->Uv c env nm s U E e s':=λz=>⟨.refl,I,F,z⟩
  refine bO (hi.r (R:=λit s₂=>Zi6 c.M c.A (.forLoop t it body [] env) (λr s'=>match r with|.ok f=>Tz c env nm s U Q f s'|.error e=>Zr8 c.M c.A env (Uv c env nm s U E) e s') s₂) I F hq λ{xs s₁ Z6 sx It} hgo zx Rt N₁ c_ kx rx fr hl hfp hst=>?_) (λY Y z=>bO z (λY Y z=>z) λY Y=>kq) λY Y=>kq
  generalize Cv:(λa=>c.X a\/a∈It.hid)=X4
  have xo:∀{a},X4 a->c.X a\/a∈It.hid:=λ{a} z=>Eq.mpr (congrFun Cv a) z
  have ox:∀{a},c.X a\/a∈It.hid->X4 a:=λ{a} z=>Eq.mp (congrFun Cv a) z
  have PY:eY c.X X4 s₁.heap sx.heap:=⟨kx,λa z=>ox (.inl z),λa z=>(xo z).imp id λz=>⟨fr a z,c_.has hst a z⟩⟩
  have Eg:∀b∈It.hid,¬c.X b:=λb hb=>Rt.nx (fr b hb)
  have KY:∀b∈It.hid,¬eH env b:=λb hb z=>Eg b hb (Wq O z)
  have Ox:∀b∈It.hid,X4 b:=λb hb=>ox (.inr hb)
  have new:∀{a:aV} {o:Obj},s.heap.get? a=some o->U a=none->a∉It.hid:=λe u z=>by
   obtain⟨sl,w⟩:=N₁.k.fr _ _ e u
   rw[fr _ z]at w;exact ZE w
  have x₁:Ex (c.wX X4) G C n nm env sc:=x₀.more PY.sub
  have Ng:=x₁.O
  have Z':PA (c.wX X4) t xs It:=⟨c_.frame,c_.has,c_.item,c_.done,c_.self,c_.draw⟩
  have TT:K7 env nm (eH env) tgt t:=RU hT λm h=>Uq (by unfold Env.kindOf;rw[x₀.sc];exact h)
  have er:∀{e s'},Uv (c.wX X4) env nm s U E e s'->notedBy c.M c.A env (λe s'=>Zr8 c.M c.A env (Uv c env nm s U E) e s') e s':=λz=>Oz (c:=c.wX X4) hf z λY Y z=>z.less PY.sub I.fx
  refine codeAny_forLoop_any (FJ c X4 It env nm s U xs.length λj L' U'=>Zc tgt (λQ' L U1=>wpS C a Q' E L U1) Q (xs.drop j) L' U') (λk s' hJ=>?_) (xs.length+1)
   ⟨rfl,bV _,hgo,PY.inv Rt,PY.fr (F.keep I O N₁),⟨(N₁.k.trans (.keeps kx)).stay,N₁.r.trans rx⟩,⟨hst,λb hb=>(hfp b hb).imp id λ⟨o,v⟩=>⟨o,PY.view v⟩,hl.mono λY Y=>PY.view⟩⟩
  cases hJ with|@mk j L' U' hk hj hg I' F' sy sr=>
  by_cases hlt:j<xs.length
  ·have hx:xs[j]?=some xs[j]:=cy hlt
   rw[Zm9 hlt]at hg
   refine Z'.item hlt sr.st λ{v h₂' t₂} go=>go λ{h₂} Mn hp Tv=>?_
   have P0:=Wr.same Mn (Z'.has Tv)
   have Tj:Inv (c.wX X4) {s' with heap:=h₂,toks:=t₂} U':=P0.inv (c:=c.wX X4) Ox (λa o z f=>absurd (I.fx a f) (Eg a z)) I'
   have Vy:Fr (c.wX X4) {s' with heap:=h₂,toks:=t₂} U' env nm L':=P0.fr (c:=c.wX X4) Ox F' (λz=>KY _ z (.inl rfl)) λn a e z=>KY a z (.inr ⟨n,e⟩)
   refine Vg (c:=c.wX X4) (s:={s' with heap:=h₂,toks:=t₂}) x₀.room.handled Ng (λa z=>Wq Ng z) TT Vy (Z'.draw (sr.l.mono λa o v=>P0.view (c:=c.wX X4) Ox v) hp hx λa o v=>v.h) hg λ{h₃ t₃ BA} Rp RQ hw=>?_
   have Ip:=Rp.wr
   have PZ:Inv (c.wX X4) {s' with heap:=h₃,toks:=t₃} U':=Wr.inv (c:=c.wX X4) (s:={s' with heap:=h₂,toks:=t₂}) Ip (λa z=>Wq Ng z) Rp.ry Tj
   have Io:Sx c env s U {s' with heap:=h₃,toks:=t₃} U':=⟨Ip.stay (P0.stay sy.k λa o z e u=>absurd z (new e u)) λa o w Y Y=>w,sy.r.trans ZF⟩
   have uE:dS (c.wX X4) It (j+1) h₃ U':=⟨Z'.frame Tv λb hb o e=>Ip.keep _ _ e λz=>(sr.fp b hb).elim (λw=>KY b w z) λZ=>eE Z λ_ v=>v.x (Wq Ng z),λb hb=>(sr.fp b hb).imp id λ⟨o,v⟩=>⟨o,Ip.view (c:=c.wX X4) (λa z=>Wq Ng z) (P0.view (c:=c.wX X4) Ox v)⟩,sr.l.mono λa o v=>Ip.view (c:=c.wX X4) (λa z=>Wq Ng z) (P0.view (c:=c.wX X4) Ox v)⟩
   refine bO ((ha x₁).r PZ RQ hw) (λfl s₄ z=>?_) λY Y z=>er (z.trans (c:=c.wX X4) ⟨Io.k,Io.r⟩)
   cases z with|@mk o gU z7 uC fi uB Rq Ow=>
   have nC:Sx c env s U s₄ z7:=Io.trans ⟨Ow.k,Ow.r⟩
   induction o using jO with
   |none=>
    cases fi
    refine⟨k-1,(LU (Z7 hlt (Z7 (cV hk.symm))):k-1+1<=k),FJ.mk (j:=j+1) (bF (Z7 (LU (Z7 hlt (Z7 (cV hk.symm))):k-1+1<=k) (Z7 (cV hk))) (Z7 (cV hk.symm) (Z7 (KJ k 1)))) hlt uC uB Rq nC ?_⟩
    refine uE.keep Z' (λa o v=>⟨Ow.k.obj a o v.h v.u (λz=>v.x (Wq Ng z)) (λz=>v.x (PZ.fx a z)),VP Ow.k.dom v.h v.u,v.x⟩) λb hb o e=>Ow.k.obj b o e (PZ.Wt (Ox b hb)) (KY b hb) λz=>Eg b hb (I.fx b z)
   |some v=>
    obtain⟨x,rfl,ex⟩:=fi
    exact Tz.less PY.sub I.fx ⟨uC,⟨x,rfl,ex⟩,uB,Rq,⟨nC.k,nC.r⟩⟩
  ·obtain rfl:j=xs.length:=bF hj (Zx3.mp hlt)
   rw[Zk1]at hg
   refine Z'.done sr.st λ{h₂ t₂} sm=>execs_nil (.next hg (Inv.shrink I' sm PY.sub Ox Eg I.fx) (F'.mono (λa o v=>⟨sm _ _ (λz=>v.x (Ox a z)) v.h,v.u,λz=>v.x (PY.sub a z)⟩) (λo e=>⟨o.slots,sm _ _ (λz=>KY _ z (.inl rfl)) e⟩) λn a e o e2=>⟨o.slots,sm _ _ (λz=>KY _ z (.inr ⟨n,e⟩)) e2⟩) ⟨⟨λa o e u n f=>sm _ _ (new e u) (sy.k.obj a o e u n f),λa o e u n=>eE (sy.k.fr a o e u n) λsl z=>⟨sl,sm _ _ (new e u) z⟩,λa o e u=>eE (sy.k.own a o e u) λo' z=>⟨o',sm _ _ (new e u) z⟩,sy.k.dom⟩,sy.r.trans ZF⟩)
end
section
variable{c:Cx}{G:Str->AV->Bool}{C:ZV}{n:Nat}{nm:List Str}{env:Env}{sc sc':aa}{s s₁ s':cK}{U Z6 U':US}{L:Loc}{Q:ZD}{E:Loc->US->Prop}{X':aV->Prop}
theorem Im{np cp pos:Pos}{Q:Flow->cK->Prop}{E:US->Prop}(x:Ex c G C n nm env sc)(h:X5 G sc ("ValueError":Str) 209=true)(I:Inv c s U)(q:E U):
 bT c.M c.A (exec (.Raise (some (.Call (.Name "ValueError" np) [] [] cp)) none pos) env) Q (rD c s U E) s:=by
 refine wpAny_Raise_call PySem.F.excCall_ValueError PySem.F.excRaise_ValueError x.room.handled rfl ?_
 refine XM x I h λy e=>⟨e.trans x.t.ve,?_⟩
 exact PySem.evalArgs_none ⟨rfl,bV _,λh' e hm=>⟨rfl,q,I,⟨rfl,rfl,rfl⟩,hm.of⟩⟩
noncomputable def Ov{β:Type}(d:β)(st:Zz3)(ka:(t:List Expr)->(x:Expr)->(p:Pos)->st=.Assign t x p->β:=λY Y Y Y=>d)(ke:(x:Expr)->(p:Pos)->st=.Expr x p->β:=λY Y Y=>d)(kr:(x:Option Expr)->(p:Pos)->st=.Return x p->β:=λY Y Y=>d)(ki:(x:Expr)->(b o:List Zz3)->(p:Pos)->st=.If x b o p->β:=λY Y Y Y Y=>d)
 (kw:(x:Expr)->(b o:List Zz3)->(p:Pos)->st=.While x b o p->β:=λY Y Y Y Y=>d) (kf:(t i:Expr)->(b o:List Zz3)->(p:Pos)->st=.For t i b o p->β:=λY Y Y Y Y Y=>d) (kt:(b:List Zz3)->(h:List ExceptHandler)->(o f:List Zz3)->(p:Pos)->st=.Try b h o f p->β:=λY Y Y Y Y Y=>d) (kx:(x y:Option Expr)->(p:Pos)->st=.Raise x y p->β:=λY Y Y Y=>d):β:=match(generalizing:=false) h:st with
 |.Assign t x p=>ka t x p h
 |.Expr x p=>ke x p h
 |.Return x p=>kr x p h
 |.If x b o p=>ki x b o p h
 |.While x b o p=>kw x b o p h
 |.For t i b o p=>kf t i b o p h
 |.Try b h' o f p=>kt b h' o f p h
 |.Raise x y p=>kx x y p h
 |_=>d
noncomputable def nB(st:Zz3):Option {x:List Expr×Expr×Pos//st=.Assign x.1 x.2.1 x.2.2}:=Ov none st (ka:=λt x p h=>some ⟨(t,x,p),h⟩)
noncomputable def KX(st:Zz3)(K:Expr->Expr->Bool):Bool:=oS (nB st) λx=>v1 x.1.1 λt=>K t x.1.2.1
@[elab_as_elim]theorem VC{P:Zz3->Prop}{st:Zz3}{K}(h:KX st K=true)(q:∀t x p,K t x=true->P (.Assign [t] x p)):P st:=(Zl h).elim λy h=>Vc (Ye (P:=λts=>P (.Assign ts y.1.2.1 y.1.2.2)) h.2 λt h=>q t y.1.2.1 y.1.2.2 h) y.2
noncomputable def kj(nm:List Str)(sc:aa)(j:Nat)(va vd:AV)(x1 x2:Expr):Bool:=WZ x1 (Yk va)&&P9 x2 λy z=>(YA y λm=>nm[j]?==some m&&(I8 (sc.names.lookup m)&&Xf m))&&WZ z (Yk vd)
noncomputable def gT(nm:List Str)(sc:aa)(i j:Nat)(va vd:AV)(t x:Expr):Bool:=(YA t λm=>nm[i]?==some m&&To (sc.names.lookup m))&&Tp x λes=>v2 es (kj nm sc j va vd)
noncomputable def nA(nm:List Str)(sc:aa)(hb:List Zz3)(i j:Nat)(va vd:AV):Bool:=v1 hb λst=>KX st (gT nm sc i j va vd)
theorem Cu(h:WZ x (Yk v)=true):SE c C nm env (.cst v) x:=Xu h λk i p h=>Nv h
theorem QV(h:WZ x (Yk v)=true):Yi x=true/\WQ x=true:=Xu h λk i p h=>⟨rfl,rfl⟩
theorem Il(O:ZO env nm c.X)(hs:env.scope=sc)(h:kj nm sc j va vd x1 x2=true):SE c C nm env (Gv va j vd) (.Tuple [x1,x2] kk pt):=
 YX h λh4 h=>W6 h λy z ps h=>YX h λh5 h6=>YZ h5 λm' pm' h=>R8 h λh7 h8 h9=>CB (XO O (QV h4).1 (Cu h4) (XO O rfl (IV O rfl (QV h6).2 (I5 O hs h7 h8 h9) (Cu h6)) WB)) rfl
theorem Ef{i j:Nat}{va vd:AV}{hb:List Zz3}(O:ZO env nm c.X)(hs:env.scope=sc)(h:nA nm sc hb i j va vd=true):SS c C nm env (.asg i (Gv va j vd) .nil) hb:=by
 refine Ye h λst h=>VC h λt x p h=>YX h λa h=>YZ a λm pm b=>W5 h λes kk pt h=>V3 h λx1 x2 h=>YX b λb1 b2=>?_
 exact .mk λ{s U L Q E} I F q=>QW (C:=C) (K:=λL U=>Q none L U) (RO (W:=λv Q E L U1=>Q none (L.set i (some v)) U1) O (Il O hs h) (WO rfl ..) rfl rfl λI F ev q=>OB O (eq_of_beq b1) (by unfold Env.kindOf;rw[hs];exact b2) I F ev q) IA (λY Y q=>q) I F q
theorem Tz.CG(h:A'.frames=c.A.frames):Tz (c.wA A') env nm s U Q fl s'->Tz c env nm s U Q fl s'
 |⟨q,fi,I,F,⟨a,b⟩⟩=>⟨q,fi,I.CG h,F,⟨a,b⟩⟩
theorem Ed{K}(h:v1 l K=true):∃b r,l=b::r:=Ye h λx h=>⟨x,[],rfl⟩
theorem zj(x:Ex c G C n nm env sc)(hf:Fm c env)(hk:X5 G sc ("ValueError":Str) 209=true)(hbody:SS c C nm env bS body)(hh:nA nm sc hb i j va vd=true):
 ST c nm env (.Try body [.ExceptHandler (some (.Name "ValueError" np)) none hb hp] [] [] pos) λQ E L U=>wpS C bS Q (λL2 U2=>ZK C (E L2) (Gv va j vd) L2 (λv U3=>Q none (L2.set i (some v)) U3) U2) L U:=.mk λ{s U L Q E} I F hq=>by
  refine hG ?_;intro PP
  obtain⟨outer,Lf,hl,hfr⟩:=hf
  have⟨b₀,r₀,hb0⟩:∃b₀ r₀,hb=b₀::r₀:=Ed hh
  subst hb0
  refine wpAny_Try_except (bO (hbody.r I F hq) (λfl s₁ z=>?_) λe s₁ z=>?_)
  ·cases z with|@mk o L' U' q fi J F' kp=>
   induction o using jO with
   |none=>cases fi;exact execs_nil (.next q J F' kp)
   |some v=>obtain⟨x,rfl,ex⟩:=fi;exact⟨q,⟨x,rfl,ex⟩,J,F',kp⟩
  ·obtain⟨sx,b,d,er⟩:=z
   refine Uw b.frames hl hfr er λs₂ er=>?_
   cases er with|@mk ea a0 c8 fl U' e0 q f h4 h5=>
   subst e0
   refine Xi (f:=none) f.stays f.frames f.Yq λh' k1 k2 k3 k4=>?_
   have f':=f.slots k1 k2 k3 k4
   have er:Er c _ _ _ _ {s₂ with heap:=h'}:=⟨rfl,q,f',.inl rfl,⟨h5.g,h5.d,h5.o⟩⟩
   refine hG ?_;intro PP
   obtain⟨oe,vs,T,oT,ts,he,hcls,hd,h1,w_,vg,hT,AQ,h3⟩:=id f'.Yq
   obtain⟨Af,_,PZ,P5⟩:=er.land b
   refine wpAny_handleBy_builtin (X:="ValueError") (T:="ValueError") (b:=true) PySem.F.excRaise_ValueError.isExc ?_ ?_ ?_
   ·rw[Zg3];kernel_rfl
   ·rw[Zg3];kernel_rfl
   refine R8 hk λg1 g2 g3=>?_
   refine ME (c:=c.wA (c.A.mark (some (.ref ea)))) (x.t.to.G _ _ g3) (PZ.toA rfl) x.O (by unfold Env.kindOf;rw[x.sc];exact eq_of_beq g1) (w9 (Z0 g2).1) λy e=>⟨e.trans x.t.ve,⟨oe,he,hcls.1⟩,?_⟩
   rw[if_pos rfl]
   refine Xi (f:=none) f'.stays f'.frames f'.Yq λh'' k1 k2 k3 k4=>?_
   have er:Er c _ _ _ _ {s₂ with heap:=h''}:=⟨rfl,q,f'.slots k1 k2 k3 k4,.inl rfl,⟨h5.g,h5.d,h5.o⟩⟩
   refine hG ?_;intro PP
   obtain⟨Af,q₃,PZ,P5⟩:=er.land b
   have Ct:=sx.trans P5.sx
   refine bO (Ef (c:=c.wA (c.A.mark (some (.ref ea)))) x.O x.sc hh|>.r (PZ.toA rfl) (d.keep b x.O P5) q₃) (λfl s₅ z=>(Tz.CG (A':=c.A.mark (some (.ref ea))) rfl z).trans Ct) λe s₅ z=>?_
   refine hG ?_;intro PP
   obtain⟨a,b',d',z⟩:=z
   exact Uw (c:=c.wA (c.A.mark (some (.ref ea)))) b'.frames hl hfr z λs'' z=>Vq (λe s z=>Uv.trans Ct ⟨⟨a.k,a.r⟩,Inv.CG (A':=c.A.mark (some (.ref ea))) rfl b',d',z⟩) (MD (c:=c) hl hfr z.CG)
end
noncomputable def uz(st:Zz3):Option {x:Expr×Pos//st=.Expr x.1 x.2}:=Ov none st (ke:=λx p h=>some ⟨(x,p),h⟩)
noncomputable def wExpr(st:Zz3)(K:Expr->Bool):Bool:=oS (uz st) λx=>K x.1.1
@[elab_as_elim]theorem Ik{P:Zz3->Prop}{st:Zz3}{K}(h:wExpr st K=true)(k:∀x p,K x=true->P (.Expr x p)):P st:=(Zl h).elim λx y=>Vc (k x.1.1 x.1.2 y.2) x.2
noncomputable def nu(st:Zz3):Option {x:Option Expr×Pos//st=.Return x.1 x.2}:=Ov none st (kr:=λx p h=>some ⟨(x,p),h⟩)
noncomputable def zh(st:Zz3)(K:Expr->Bool):Bool:=oS (nu st) λx=>oS x.1.1 K
@[elab_as_elim]theorem Mj{P:Zz3->Prop}{st:Zz3}{K}(h:zh st K=true)(q:∀x p,K x=true->P (.Return (some x) p)):P st:=(Zl h).elim λy h=>Vc (Tw (P:=λx=>P (.Return x y.1.2)) h.2 λx=>q x y.1.2) y.2
noncomputable def nq(st:Zz3):Option {x:Expr×List Zz3×List Zz3×Pos//st=.If x.1 x.2.1 x.2.2.1 x.2.2.2}:=Ov none st (ki:=λx b o p h=>some ⟨(x,b,o,p),h⟩)
noncomputable def nk(st:Zz3)(K:Expr->List Zz3->List Zz3->Bool):Bool:=oS (nq st) λx=>K x.1.1 x.1.2.1 x.1.2.2.1
@[elab_as_elim]theorem Ij{P:Zz3->Prop}{st:Zz3}{K}(h:nk st K=true)(k:∀x b o p,K x b o=true->P (.If x b o p)):P st:=(Zl h).elim λx y=>Vc (k x.1.1 x.1.2.1 x.1.2.2.1 x.1.2.2.2 y.2) x.2
noncomputable def zg(st:Zz3):Option {x:Expr×List Zz3×List Zz3×Pos//st=.While x.1 x.2.1 x.2.2.1 x.2.2.2}:=Ov none st (kw:=λx b o p h=>some ⟨(x,b,o,p),h⟩)
noncomputable def Ii(st:Zz3)(K:Expr->List Zz3->List Zz3->Bool):Bool:=oS (zg st) λx=>K x.1.1 x.1.2.1 x.1.2.2.1
@[elab_as_elim]theorem KW{P:Zz3->Prop}{st:Zz3}{K}(h:Ii st K=true)(k:∀x b o p,K x b o=true->P (.While x b o p)):P st:=(Zl h).elim λx y=>Vc (k x.1.1 x.1.2.1 x.1.2.2.1 x.1.2.2.2 y.2) x.2
noncomputable def nj(st:Zz3):Option {x:Expr×Expr×List Zz3×List Zz3×Pos//st=.For x.1 x.2.1 x.2.2.1 x.2.2.2.1 x.2.2.2.2}:=Ov none st (kf:=λt i b o p h=>some ⟨(t,i,b,o,p),h⟩)
noncomputable def uy(st:Zz3)(K:Expr->Expr->List Zz3->List Zz3->Bool):Bool:=oS (nj st) λx=>K x.1.1 x.1.2.1 x.1.2.2.1 x.1.2.2.2.1
@[elab_as_elim]theorem Ec{P:Zz3->Prop}{st:Zz3}{K}(h:uy st K=true)(k:∀t i b o p,K t i b o=true->P (.For t i b o p)):P st:=(Zl h).elim λx y=>Vc (k x.1.1 x.1.2.1 x.1.2.2.1 x.1.2.2.2.1 x.1.2.2.2.2 y.2) x.2
noncomputable def ni(st:Zz3):Option {x:List Zz3×List ExceptHandler×List Zz3×List Zz3×Pos//st=.Try x.1 x.2.1 x.2.2.1 x.2.2.2.1 x.2.2.2.2}:=Ov none st (kt:=λt i b o p h=>some ⟨(t,i,b,o,p),h⟩)
noncomputable def ux(st:Zz3)(K:List Zz3->List ExceptHandler->List Zz3->List Zz3->Bool):Bool:=oS (ni st) λx=>K x.1.1 x.1.2.1 x.1.2.2.1 x.1.2.2.2.1
@[elab_as_elim]theorem Eb{P:Zz3->Prop}{st:Zz3}{K}(h:ux st K=true)(k:∀t i b o p,K t i b o=true->P (.Try t i b o p)):P st:=(Zl h).elim λx y=>Vc (k x.1.1 x.1.2.1 x.1.2.2.1 x.1.2.2.2.1 x.1.2.2.2.2 y.2) x.2
noncomputable def zf(st:Zz3):Option {x:Option Expr×Option Expr×Pos//st=.Raise x.1 x.2.1 x.2.2}:=Ov none st (kx:=λx y p h=>some ⟨(x,y,p),h⟩)
noncomputable def Ih(st:Zz3)(K:Option Expr->Option Expr->Bool):Bool:=oS (zf st) λx=>K x.1.1 x.1.2.1
@[elab_as_elim]theorem KV{P:Zz3->Prop}{st:Zz3}{K}(h:Ih st K=true)(k:∀x y p,K x y=true->P (.Raise x y p)):P st:=(Zl h).elim λx y=>Vc (k x.1.1 x.1.2.1 x.1.2.2 y.2) x.2
noncomputable def wH(h:ExceptHandler)(K:Expr->List Zz3->Bool):Bool:=match h with|.ExceptHandler t n hb _=>oN n (oS t λt=>K t hb)
theorem uw{P:ExceptHandler->Prop}{h:ExceptHandler}{K}(q:wH h K=true)(g:∀t hb p,K t hb=true->P (.ExceptHandler (some t) none hb p)):P h:=by
 cases h with|ExceptHandler t n hb p=>
 exact Vr (show oN n (oS t λt=>K t hb)=true from q) λq=>Tw q λt q=>g t hb p q
noncomputable def ze(e:Expr)(K:Str->Pos->Bool):Bool:=oS (CD e) λx=>K x.1.1 x.1.2
@[elab_as_elim]theorem Mi{P:Expr->Prop}{e:Expr}{K}(h:ze e K=true)(k:∀n p,K n p=true->P (.Name n p)):P e:=(Zl h).elim λx y=>Vc (k x.1.1 x.1.2 y.2) x.2
noncomputable def Ig(x:X):Bool:=match x with|.comp ..=>true|_=>false
noncomputable def nh(is:List Nat)(K:Nat->Nat->Bool):Bool:=v2 is K
noncomputable def Ie(is:List Nat):Bool:=match is with|[_]=>false|_=>true
section
variable(G:Str->AV->Bool)(nm:List Str)(sc:aa)
noncomputable def Cr(is:List Nat)(t x:Expr):Bool:=nh is λi j=>Tp t λts=>v2 ts λt1 t2=>ze t1 λn1 p1=>ze t2 λn2 p2=>Tp x λvs=>v2 vs λv1 v2=>(nm[i]?==some n1&&nm[j]?==some n2)&&Iw sc n1 n2 p1 p2 v1 v2
variable(R Ra Rb:List Zz3->Bool)
noncomputable def uv(i:Nat)(e:X)(st:Zz3)(r:List Zz3):Bool:=(KX st λt x=>((YA t λm=>nm[i]?==some m&&To (sc.names.lookup m))&&(YV G nm e sc (.e x)&&(Ig e||Yv x))))&&R r
noncomputable def Cq(a:X)(n:Nat)(e:X)(st:Zz3)(r:List Zz3):Bool:=(KX st λt x=>Yv x&&Mv t λat' y Y=>at'==ZU n&&(YV G nm a sc (.e y)&&YV G nm e sc (.e x)))&&R r
noncomputable def Mh(a i e:X)(st:Zz3)(r:List Zz3):Bool:=(KX st λt x=>Yv x&&P9 t λy z=>YV G nm a sc (.e y)&&(YV G nm i sc (.e z)&&YV G nm e sc (.e x)))&&R r
noncomputable def Cp(is:List Nat)(e:X)(st:Zz3)(r:List Zz3):Bool:=(KX st λt x=>YV G nm e sc (.e x)&&((Ie is&&(R5 nm sc is t&&(Yv x&&Ni x)))||Cr nm sc is t x))&&R r
noncomputable def Co(e:X)(st:Zz3)(r:List Zz3):Bool:=(wExpr st λx=>Yv x&&YV G nm e sc (.e x))&&R r
noncomputable def uu(e:X)(st:Zz3)(_:List Zz3):Bool:=zh st λx=>YV G nm e sc (.e x)
noncomputable def ur(t:X)(st:Zz3)(r:List Zz3):Bool:=(nk st λx ba bo=>YV G nm t sc (.e x)&&(Ra ba&&Rb bo))&&R r
noncomputable def Ic(t e:X)(st:Zz3)(r:List Zz3):Bool:=(nk st λx ba bo=>YV G nm t sc (.e x)&&((v1 ba λst=>zh st λy=>YV G nm e sc (.e y))&&Wg bo true))&&R r
noncomputable def Ib(t:X)(st:Zz3)(r:List Zz3):Bool:=(Ii st λx ba bo=>Wg bo (YV G nm t sc (.e x)&&Ra ba))&&R r
noncomputable def kFor(t:List Nat)(it:X)(st:Zz3)(r:List Zz3):Bool:=(uy st λtg i ba bo=>Wg bo (R5 nm sc t tg&&(Yi i&&(YV G nm it sc (.it tg i)&&Ra ba))))&&R r
noncomputable def uq(i:Nat)(va:AV)(j:Nat)(vd:AV)(st:Zz3)(r:List Zz3):Bool:=(ux st λba hs bo bf=>Wg bo (Wg bf (v1 hs λh'=>wH h' λx hb=>(YA x λm=>m==("ValueError":Str))&&(X5 G sc ("ValueError":Str) 209&&(Ra ba&&nA nm sc hb i j va vd)))))&&R r
noncomputable def Yj:S->List Zz3->Bool
 |.nil,body=>Wg body true
 |.bad,_=>true
 |.asg i e k,body=>Ys body (uv G nm sc (Yj k) i e)
 |.N8 a n e k,body=>Ys body (Cq G nm sc (Yj k) a n e)
 |.Pw _ a i e k,body=>Ys body (Mh G nm sc (Yj k) a i e)
 |.N7 is e k,body=>Ys body (Cp G nm sc (Yj k) is e)
 |.expr e k,body=>Ys body (Co G nm sc (Yj k) e)
 |.ret e,body=>Ys body (uu G nm sc e)
 |.ite t a b k,body=>Ys body (ur G nm sc (Yj k) (Yj a) (Yj b) t)
 |.guard t e k,body=>Ys body (Ic G nm sc (Yj k) t e)
 |.while t b k,body=>Ys body (Ib G nm sc (Yj k) (Yj b) t)
 |.for t it b k,body=>Ys body (kFor G nm sc (Yj k) (Yj b) t it)
 |.try b i va j vd k,body=>Ys body (uq G nm sc (Yj k) (Yj b) i va j vd)
noncomputable def uo(st:Zz3):Bool:=Ih st λx y=>oN y (oS x λe=>Uu e λn as=>Wg as (n==("ValueError":Str)&&X5 G sc ("ValueError":Str) 209))
noncomputable def S.zd(k:S):Bool:=match k with|.nil=>true|_=>false
noncomputable def Ia(s:S)(K:X->X->X->S->Bool):Bool:=match s with|.Pw _ a i e k=>K a i e k|_=>false
noncomputable def Ea(fi:Fi)(body:List Zz3):Bool:=match fi.raises with
 |false=>Yj G nm sc fi.body body
 |true=>v2 body λst r=>uo G sc r&&Ia fi.body λa i e k=>k.zd&&Mh G nm sc (λY=>true) a i e st []
end
theorem H_{P:S->Prop}{s:S}{K}(h:Ia s K=true)(q:∀o a i e k,K a i e k=true->P (.Pw o a i e k)):P s:=by induction s using jS<;>first|exact q _ _ _ _ _ h|exact Zv h
theorem S.D_{P:S->Prop}{k:S}(h:k.zd=true)(q:P .nil):P k:=by induction k using jS<;>first|exact q|exact Zv h
section
variable{c:Cx}{G:Str->AV->Bool}{C:ZV}{n:Nat}{nm:List Str}{env:Env}{sc sc':aa}{s s₁ s':cK}{U Z6 U':US}{L:Loc}{Q:ZD}{E:Loc->US->Prop}
theorem PX{st:Zz3}{rest:List Zz3}{k k':S}{W:ZD->(Loc->US->Prop)->Loc->US->Prop}(h1:ST c nm env st W)(h2:SS c C nm env k rest)(hk:∀{Q E L U},wpS C k' Q E L U->k.vY (W Q E L U) (W (Y4 Q λL2 U2=>Bx (wpS C k Q E L2 U2)) E L U)):SS c C nm env k' (st::rest):=.mk λ{s U L Q E} I F q=>
 (Em (hk q)).elim (λh=>QW (K:=λL U=>Q none L U) h1 h2 (λY Y q=>by rw[h.1];exact q) I F (by rw[KZ];exact h.2)) λh=>QW h1 h2 (λY Y q=>q.h) I F h
theorem Vf{st:Zz3}{rest:List Zz3}{k k':S}{W:ZD->(Loc->US->Prop)->Loc->US->Prop}(h1:ST c nm env st W)(h2:SS c C nm env k rest)(hk:∀{Q E L U},wpS C k' Q E L U->W (Y4 Q λL2 U2=>wpS C k Q E L2 U2) E L U):SS c C nm env k' (st::rest):=.mk λI F q=>QW h1 h2 (λY Y q=>q) I F (hk q)
theorem H9(x₀:Ex c G C n nm env sc)(h:(nm[i]?==some m&&To (sc.names.lookup m))=true)(h2:YV G nm e sc (.e x)=true)(sf:Zl7 x (some (.Name m p)) pos.line env=pure false):ST c nm env (.Assign [.Name m p] x pos) λQ E L U=>ZK C (E L) e L (λv U1=>Q none (L.set i (some v)) U1) U:=
 RO (W:=λv Q E L U1=>Q none (L.set i (some v)) U1) x₀.O ((eP e x₀).e h2) sf (by induction x using jE<;>rfl) rfl λI F ev q=>OB x₀.O (eq_of_beq (Z0 h).1) (by unfold Env.kindOf;rw[x₀.sc];exact(Z0 h).2) I F ev q
theorem um{m:Str}{p pos p':Pos}{y t i:Expr}{ifs:List Expr}{sc':aa}{P:Bool->Prop}(h:∀b,Zl7 (.ListComp y [⟨t,i,ifs,0⟩] sc' p') (some (.Name m p)) pos.line env=pure b->P b):∃b,P b:=⟨_,h _ rfl⟩
theorem D9{i:Nat}{e:X}{t x:Expr}{pos:Pos}(x₀:Ex c G C n nm env sc)(h1:(YA t λm=>nm[i]?==some m&&To (sc.names.lookup m))=true)(h2:YV G nm e sc (.e x)=true)(h3:(Ig e||Yv x)=true):
 ST c nm env (.Assign [t] x pos) λQ E L U=>ZK C (E L) e L (λv U1=>Q none (L.set i (some v)) U1) U:=by
 refine YZ h1 λm p h=>?_
 induction hc:Yv x using jB with
 |true=>exact H9 x₀ h h2 (WO hc ..)
 |false=>
 rw[hc,Zf0]at h3
 induction e using jX with
 |comp mu f elt tgt it cond=>
  refine ON (P:=λx=>YV G nm (.comp mu f elt tgt it cond) sc (.e x)=true->ST c nm env (.Assign [.Name m p] x pos) _) (show I9 x (λx gs sc'=>v1 gs λ⟨t,i,ifs,a⟩=>a==0&&(Ny nm sc' sc tgt&&(R5 nm sc' tgt t&&(Yi i&&(YV G nm it sc (.it t i)&&(YV G nm elt (YK sc' sc) (.e x)&&(match(generalizing:=false) f with|false=>Wg ifs true|true=>v1 ifs λy=>YV G nm cond (YK sc' sc) (.e y))))))))=true from h2) (λy gs sc' p' h0=>Ye (P:=λgs=>YV G nm (.comp mu f elt tgt it cond) sc (.e (.ListComp y gs sc' p'))=true->ST c nm env (.Assign [.Name m p] (.ListComp y gs sc' p') pos) _) h0 λg h0=>?_) h2
  cases g with|mk t i' ifs a=>
  refine YX h0 λh3 h0=>oq h0 λh5 h7 h9 h11 Eo zm=>YW (P:=λa=>YV G nm (.comp mu f elt tgt it cond) sc (.e (.ListComp y [⟨t,i',ifs,a⟩] sc' p'))=true->ST c nm env (.Assign [.Name m p] (.ListComp y [⟨t,i',ifs,a⟩] sc' p') pos) _) h3 λh2=>?_
  refine(um (P:=λb=>Zl7 (.ListComp y [⟨t,i',ifs,0⟩] sc' p') (some (.Name m p)) pos.line env=pure b) λb e=>e).elim λb e0=>?_
  induction b using jB with
  |false=>exact H9 x₀ h h2 e0
  |true=>
   refine Eh x₀ (V1.of h5) h7 h9 ((eP it x₀).it h11) (λx'=>(eP elt x').e Eo) ?_ (eq_of_beq (Z0 h).1) (Z0 h).2 e0
   induction f using jB with
   |false=>exact Zb zm λY=>rfl
   |true=>exact Ye zm λz h=>⟨z,rfl,λx'=>(eP cond x').e h⟩
 |_=>exact Zv h3
theorem H8(x₀:Ex c G C n nm env sc)(h1:YV G nm e sc (.e x)=true)(h2:((Ie is&&(R5 nm sc is t&&(Yv x&&Ni x)))||Cr nm sc is t x)=true):
 ST c nm env (.Assign [t] x pos) λQ E L U=>ZK C (E L) e L (λv U1=>Wj v λvs=>Zs is vs L λL2=>Q none L2 U1) U:=
  (b9.mp h2).elim (λh=>CF h λh3 h5 h7 h8=>Ej x₀.room.handled x₀.O x₀.sc ((eP e x₀).e h1) (λi z=>by rw[z]at h3;exact Zv h3) h5 h7 h8)
   λh=>V3 (P:=λis=>ST c nm env (.Assign [t] x pos) λQ E L U=>ZK C (E L) e L (λv U1=>Wj v λvs=>Zs is vs L λL2=>Q none L2 U1) U) h λi j h=>W5 h λts k p h=>V3 h λt1 t2 h=>Mi h λn1 p1 h=>Mi h λn2 p2 h=>
    W5 (P:=λx=>YV G nm e sc (.e x)=true->ST c nm env (.Assign [.Tuple [.Name n1 p1,.Name n2 p2] k p] x pos) λQ E L U=>ZK C (E L) e L (λv U1=>Wj v λvs=>Zs [i,j] vs L λL2=>Q none L2 U1) U) h (λvs k' p' h h1=>
    V3 (P:=λvs=>YV G nm e sc (.e (.Tuple vs k' p'))=true->ST c nm env (.Assign [.Tuple [.Name n1 p1,.Name n2 p2] k p] (.Tuple vs k' p') pos) λQ E L U=>ZK C (E L) e L (λv U1=>Wj v λvs=>Zs [i,j] vs L λL2=>Q none L2 U1) U) h (λv1 v2 h h1=>YX h λh h11=>YX h λh12 Eo=>Ei x₀.room.handled x₀.O x₀.sc ((eP e x₀).e h1) (eq_of_beq h12) (eq_of_beq Eo) h11) h1) h1
theorem H7(O:ZO env nm c.X)(ht:SE c C nm env t x)(he:SE c C nm env e y):
 ST c nm env (.If x [.Return (some y) p] [] pos) λQ E L U=>ZK C (E L) t L (λv U1=>Wk v λr=>fF r (ZK C (E L) e L (λv U2=>Q (some v) L U2) U1) (Q none L U1)) U:=.mk λ{s U L Q E} I F hq=>by
  refine wpAny_If (Wn O I F (ht.b (Q:=λr U1=>fF r (ZK C (E L) e L (λv U2=>Q (some v) L U2) U1) (Q none L U1)) I F hq) λ{v s₁ Z6} q J F₁ N=>?_)
  induction v using jB with
  |true=>exact Nj N.sx (QW (C:=C) (k:=.bad) (K:=λY Y=>False) (Iz O he) Nk (λY Y q=>q.elim) J F₁ q)
  |false=>exact execs_nil (.next q J F₁ N.sx)
end
section
variable{c:Cx}{G:Str->AV->Bool}{C:ZV}{n:Nat}{nm:List Str}{env:Env}{sc sc':aa}
theorem m_(k:S)(x:Ex c G C n nm env sc)(f:Fm c env)(h:Yj G nm sc k body=true):SS c C nm env k body:=by
 induction k generalizing c body with
 |nil=>exact Zb h λY=>IA
 |bad=>exact Nk
 |asg i e k ik=>exact Zq (K:=uv G nm sc (Yj G nm sc k) i e) h λst r h=>YX h λh2 h3=>VC h2 λt y p h=>R8 h λh5 h7 h8=>Vf (D9 x h5 h7 h8) (ik x f h3) λq=>q
 |N8 a m e k ik=>exact Zq (K:=Cq G nm sc (Yj G nm sc k) a m e) h λst r h=>YX h λh2 h3=>VC h2 λt y p h=>YX h λh5 h=>R7 h λat' z p' h=>R8 h λh8 h10 h11=>YW h8 (Vf (Ek x.t.W x.O ((eP e x).e h11) ((eP a x).e h10) h5) (ik x f h3) λq=>q)
 |Pw o a i e k ik=>exact Zq (K:=Mh G nm sc (Yj G nm sc k) a i e) h λst r h=>YX h λh2 h3=>VC h2 λt y p h=>YX h λh5 h=>W6 h λz z' p' h=>R8 h λh8 h10 h11=>Vf (Ml x.t.W x.O ((eP e x).e h11) ((eP a x).e h8) ((eP i x).e h10) h5) (ik x f h3) λq=>q
 |N7 is e k ik=>exact Zq (K:=Cp G nm sc (Yj G nm sc k) is e) h λst r h=>YX h λh2 h3=>VC h2 λt y p h=>YX h λh5 h6=>Vf (H8 x h5 h6) (ik x f h3) λq=>q
 |expr e k ik=>exact Zq (K:=Co G nm sc (Yj G nm sc k) e) h λst r h=>YX h λh2 h3=>Ik h2 λy p h=>YX h λh5 h6=>Vf (El x.O ((eP e x).e h6) h5) (ik x f h3) λq=>q
 |ret e=>exact Zq (K:=uu G nm sc e) h λst r h=>Mj h λy p h=>Vf (k:=.bad) (Iz x.O ((eP e x).e h)) Nk λq=>q
 |ite t a b k ia ib ik=>exact Zq (K:=ur G nm sc (Yj G nm sc k) (Yj G nm sc a) (Yj G nm sc b) t) h λst r h=>YX h λh2 h3=>Ij h2 λy ba bo p h=>R8 h λh5 h7 h8=>PX (uF x.O ((eP t x).e h5) (ia x f h7) (ib x f h8)) (ik x f h3) λq=>q
 |guard t e k ik=>exact Zq (K:=Ic G nm sc (Yj G nm sc k) t e) h λst r h=>YX h λh2 h3=>Ij h2 λy ba bo p h=>YX h λh5 h=>YX h λh7 h8=>Zb h8 λY=>Ye h7 λst h=>Mj h λz p' h=>Vf (H7 x.O ((eP t x).e h5) ((eP e x).e h)) (ik x f h3) λq=>q
 |«while» t b k ib ik=>exact Zq (K:=Ib G nm sc (Yj G nm sc k) (Yj G nm sc b) t) h λst r h=>YX h λh2 h3=>KW h2 λy ba bo p h=>Zb h λh=>YX h λh6 h7=>PX (Ir x.O f ((eP t x).e h6) (ib x f h7)) (ik x f h3) λq=>q
 |«for» t it b k ib ik=>exact Zq (K:=kFor G nm sc (Yj G nm sc k) (Yj G nm sc b) t it) h λst r h=>YX h λh2 h3=>Ec h2 λtg i ba bo p h=>Zb h λh=>CF h λh6 h8 h10 h11=>PX (zl x f h6 h8 ((eP it x).it h10) λx'=>ib x' f h11) (ik x f h3) λq=>q
 |«try» b i va j vd k ib ik=>exact Zq (K:=uq G nm sc (Yj G nm sc k) (Yj G nm sc b) i va j vd) h λst r h=>YX h λh2 h3=>Eb h2 λba hs bo bf p h=>Zb h λh=>Zb h λh=>Ye h λh' h=>uw (P:=λh'=>SS c C nm env (.try b i va j vd k) (.Try ba [h'] [] [] p::r)) h λy hb p' h=>CF h λh9 h11 Eo zm=>YZ h9 λm np h=>YW h (.mk λI F q=>QW (K:=λL2 U2=>Bx (wpS C k _ _ L2 U2)) (zj x f h11 (ib x f Eo) zm) (ik x f h3) (λY Y q=>q.h) I F q)
end
theorem Nf(x:Ex c G C n nm env sc)(h:v2 body (λst r=>uo G sc r&&Ia c8 λa i e k=>k.zd&&Mh G nm sc (λY=>true) a i e st [])=true)
 (hn:∀o L U,Q o L U->o=none) (I:Inv c s U) (F:Fr c s U env nm L) (q:wpS C c8 Q E L U) (e1:∀{e s'},ET c env s U (λU'=>∃L',Q none L' U') e s'->R e s') (e2:∀{e s'},Uv c env nm s U E e s'->R e s'):bT c.M c.A (execs body env) (λY Y=>False) R s:=by
  refine V3 h λst r h=>YX h λh2 h3=>KV h2 λy z p h=>Vr h λh=>Tw h λe h=>Xg h λm np as p' h=>Zb h λh=>YX h λh9 h10=>YW h9 ?_
  refine H_ (P:=λc8=>wpS C c8 Q E L U->bT c.M c.A (execs [st,.Raise (some (.Call (.Name "ValueError" np) [] [] p')) none p] env) (λY Y=>False) R s) h3 (λo a i e k h q=>?_) q
  refine YX h λg2 g3=>S.D_ (P:=λk=>wpS C (.Pw o a i e k) Q E L U->bT c.M c.A (execs [st,.Raise (some (.Call (.Name "ValueError" np) [] [] p')) none p] env) (λY Y=>False) R s) g2 (λq=>YX g3 λg4 Y=>VC g4 λt y p'' g=>YX g λg6 g=>W6 g λw w' p3 g=>R8 g λg9 gS gR=>?_) q
  rw[execs_cons]
  refine cY (bO ((Ml (o:=o) x.t.W x.O ((eP e x).e gR) ((eP a x).e g9) ((eP i x).e gS) g6).r I F q) (λfl s' z=>?_) λY Y z=>e2 z)
  cases z with|@mk o' L' U' q rC J F' kp=>
  have o0:=hn _ _ _ q
  subst o0
  cases rC
  rw[execs_cons]
  exact cY (bO (Im (Q:=λY Y=>False) (E:=λU'=>∃L',Q none L' U') x h10 J ⟨L',q⟩) (λY Y z=>z.elim) λY Y z=>e1 ⟨kp,z⟩)
theorem D8(T:∀{A l X},Top (c₀.ww A l X) G)(hC:Xh c₀ C n)(h:Ea G nm sc fi body=true):NF (c₀.ww A' l X') C n fi nm sc body:=by
 intro A env X L s U Lc Q E hR hs hf O I F q
 have x:Ex ((c₀.ww A' l X').YB A env X) G C n nm env sc:=⟨T,λe=>hC (e.trans rfl),hR,O,⟨env,l,L,rfl,hf,hf⟩,hs⟩
 have f:Fm ((c₀.ww A' l X').YB A env X) env:=⟨l,L,rfl,hf⟩
 unfold Ea at h
 revert h
 induction fi.raises using jB with
 |false=>exactλh=>(m_ fi.body x f h).r I F q
 |true=>exactλh hn=>Nf x h hn I F q .inl .inr
def Mg(c:Cx)(G:Str->AV->Bool):Prop:=∀k fi,fnOf k=some fi->∃nm sc body f,u_ c k fi nm sc body/\Ea G nm sc fi body=true/\c.gv k=.ref f/\fnIn c.K f=true
theorem call_one{c:Cx}{G:Str->AV->Bool}(T:∀{A l X},Top (c.ww A l X) G)(hnl:c.g.NoLimit)(F:Mg c G){C:ZV}{n k:Nat}{args:List AV}{Q:fP}{E:US->Prop}{c':Cx}{A:aC}{l:List Env}{X:aV->Prop}{U:US}{vs:List Value}{s:cK}(hc:c'=(c.ww A l X))(hC:Xh c C n)(hR:Jh n c'.A)(h:oA (fnOf k) λfi=>Gu C fi args Q E U)(I:Inv c' s U)(ea:V5 c' s.heap U args vs):
 ∃f,c'.gv k=.ref f/\fnIn c'.K f=true/\Zi6 c'.M c'.A (.call (.ref f) ⟨vs,[]⟩) (MB c' s U Q E) s:=by
 refine hG ?_;intro PP
 obtain⟨fi,gQ,h⟩:=X8 h
 obtain⟨nm,sc,body,f,F1,h1,hf,hk⟩:=F _ fi gQ
 subst hc
 exact⟨f,hf,hk,Jd (c:=(c.ww A l X)) (D8 T hC h1) ⟨F1.ob.imp λY h=>h.imp λY h=>h.imp λY h=>h.imp λY b=>⟨b.gv,b.at',b.fn,b.bd,b.sc,b.gl,b.cl,b.df,b.bt,b.cr,b.ps,b.nm⟩,F1.kind,F1.co,F1.gen,F1.nd,F1.len,F1.le,F1.par⟩ hnl hR I hf ea h⟩
theorem NG.call(h:NG b m A)(hm:n+1<=m)(hb:bif b then n+2<=m else True):Jh n A:=
 ⟨h.handled,by have:=h.depth;induction b using jB with|true=>have hb:n+2<=m:=hb;have:A.depth+m<=999:=this;exact Z7 this (Z7 hb)|false=>have:A.depth+m<=998:=this;exact Z7 this (Z7 hm),Z7 hm (Z7 hm (Z7 hm (Z7 hm (Z7 hm (Z7 hm (Z7 hm (Z7 hm (Z7 h.units))))))))⟩
theorem H6(T:∀{A l X},Top (c.ww A l X) G)(hnl:c.g.NoLimit)(F:Mg c G):Xh c (TM 1) 2:=
 λhc h hR I ea=>call_one T hnl F (C:=TM 0) (n:=0) hc (λY h=>h.elim) (hR.call (by decide) (by induction WV _ using jB<;>first|exact trivial|exact cO 2)) h.h I ea
theorem Ot(T:∀{A l X},Top (c.ww A l X) G)(hnl:c.g.NoLimit)(F:Mg c G):∀n,Xh c (Z8 n) (n+3)
 |0=>λY h=>by unfold Z8 at h;exact h.elim
 |n+1=>λhc h hR I ea=>by
  rw[SP]at h
  have h:=h.h
  induction hi:WV _ using jB with
  |true=>rw[hi]at h hR;exact call_one T hnl F hc (H6 T hnl F) (hR.call (cj _ _) (show 2+2<=n+1+3 by exact cj _ _)) h I ea
  |false=>rw[hi]at h hR;exact call_one T hnl F hc (Ot T hnl F n) (hR.call (cO _) trivial) h I ea
end
section
open Pl (c8 Env Hd Iv Kept Lm Op W_ Sc St T fL bs fQ)
structure EW where
 so:Ad
 tr:Ad
 gl:Ad
 wd:Ad
 F0:US
structure Gw where
 cm:List Ad
 ids:List Nat
 F:US
def Px{α:Type}(l l':List α):Prop:=∀(i:Nat) (a:α),l[i]?=some a->l'[i]?=some a
structure Ui(G G':Gw):Prop where
 c:Px G.cm G'.cm
 i:Px G.ids G'.ids
 f:∀a o,G.F a=some o->G'.F a=some o
theorem Ui.refl{G:Gw}:Ui G G:=⟨λY Y h=>h,λY Y h=>h,λY Y h=>h⟩
theorem Ui.trans{G G' j_:Gw}(h:Ui G G')(k:Ui G' j_):Ui G j_:=⟨λY Y z=>k.c _ _ (h.c _ _ z),λY Y z=>k.i _ _ (h.i _ _ z),λY Y z=>k.f _ _ (h.f _ _ z)⟩
noncomputable def VA(td:Ad->Option Ad)(ids:List Nat):Nat->fL->AV->Prop
 |_,.int i,x=>x=.int i
 |_,.bool b,x=>x=.bool b
 |_,.empty,x=>x=.g 24
 |_,.XY,x=>x=.g 25
 |_,.text a,x=>x=.ref a/\tx td a
 |k,.pair i a b,x=>i<k/\∃m y z,x=.lst [.str 16,y,z,fO m]/\ids[i]?=some m/\VA td ids i a y/\VA td ids i b z
 |_,.N4,_=>False
 |_,.U7 _ _,_=>False
noncomputable def VL(td:Ad->Option Ad)(ids:List Nat)(k:Nat):List fL->List AV->Prop
 |[],xs=>xs=[]
 |v::vs,xs=>∃y ys,xs=y::ys/\VA td ids k v y/\VL td ids k vs ys
def VM(td:Ad->Option Ad)(ids:List Nat)(k:Nat)(v:fL)(x:AV):Prop:=VA td ids k v x\/∃vs xs,v=fL.ofList vs/\x=.lst (.str 40::xs)/\VL td ids k vs xs/\vs.length<1000
section
variable{td:Ad->Option Ad}{ids ids':List Nat}{k k':Nat}
theorem VA.el{P:fL->AV->Prop}{v:fL}{x:AV}(h:VA td ids k v x)(h1:∀i,P (.int i) (.int i))(h2:∀b,P (.bool b) (.bool b))(h3:P .empty (.g 24))(h4:P .XY (.g 25))(h5:∀a,tx td a->P (.text a) (.ref a))
 (h6:∀i m a b y z,i<k->ids[i]?=some m->VA td ids i a y->VA td ids i b z->P (.pair i a b) (.lst [.str 16,y,z,fO m])):P v x:=by
 induction v using jW with
 |int i=>exact Zn3 (motive:=λx=>P _ x) (h1 i) (Eq.symm h)
 |bool i=>exact Zn3 (motive:=λx=>P _ x) (h2 i) (Eq.symm h)
 |empty=>exact Zn3 (motive:=λx=>P _ x) h3 (Eq.symm h)
 |XY=>exact Zn3 (motive:=λx=>P _ x) h4 (Eq.symm h)
 |text a=>exact Zn3 (motive:=λx=>P _ x) (h5 a h.2) h.1.symm
 |pair i a b=>
  obtain⟨c,m,y,z,e,r⟩:=h
  exact Zn3 (motive:=λx=>P _ x) (h6 i m a b y z c r.1 r.2.1 r.2.2) e.symm
 |N4=>exact Zr7 h
 |U7=>exact Zr7 h
theorem VA.mono(hi:Px ids ids'){v:fL}:∀{k k':Nat} {x:AV},VA td ids k v x->k<=k'->VA td ids' k' v x:=by
 induction v with
 |pair i a b ih1 ih2=>
  intro k k' x h hk
  refine hG ?_;intro PP
  obtain⟨c,m,y,z,e,r⟩:=h
  exact⟨aA c hk,m,y,z,e,hi _ _ r.1,ih1 r.2.1 (cO _),ih2 r.2.2 (cO _)⟩
 |_=>exactλh Y=>h
theorem VL.cons{v:fL}{x:AV}{vs:List fL}{xs:List AV}(h:VA td ids k v x)(l:VL td ids k vs xs):VL td ids k (v::vs) (x::xs):=⟨x,xs,rfl,h,l⟩
theorem VL.el{P:List fL->List AV->Prop}{vs:List fL}{xs:List AV}(h:VL td ids k vs xs)(h1:P [] [])(h2:∀v x vs xs,VA td ids k v x->VL td ids k vs xs->P (v::vs) (x::xs)):P vs xs:=by
 induction vs using jL with
 |nil=>exact Zn3 (motive:=λx=>P _ x) h1 (Eq.symm h)
 |cons v vs=>
  obtain⟨y,ys,e,r⟩:=h
  exact Zn3 (motive:=λx=>P _ x) (h2 v y vs ys r.1 r.2) e.symm
theorem VL.mono(hi:Px ids ids')(hk:k<=k'){v:List fL}:∀{x:List AV},VL td ids k v x->VL td ids' k' v x:=by
 induction v with
 |nil=>exactλh=>h
 |cons v vs ih=>exactλh=>h.elim λy h=>h.elim λys h=>⟨y,ys,h.1,h.2.1.mono hi hk,ih h.2.2⟩
theorem VL.len{v:List fL}:∀{x:List AV},VL td ids k v x->x.length=v.length:=by
 induction v with
 |nil=>exactλh=>congrArg Zp1 h
 |cons v vs ih=>exactλh=>h.elim λy h=>h.elim λys h=>(congrArg Zp1 h.1).trans (congrArg (·+1) (ih h.2.2))
end
noncomputable def s1:fL->AV
 |.int i=>.tup [.str 42,.int i]
 |.bool b=>.tup [.str 41,.bool b]
 |.empty=>.tup [.str 43]
 |.XY=>.tup [.str 44]
 |.text a=>.ref a
 |.pair _ a b=>.tup [.str 16,s1 a,s1 b]
 |_=>.none
noncomputable def toL:fL->List fL
 |.U7 h t=>h::toL t
 |_=>[]
noncomputable def sn(v:fL):AV:=match v.Ue with
 |true=>.tup (.str 40::(toL v).map s1)
 |false=>s1 v
noncomputable def uh:Pl.Er->AV
 |.prim op v=>.tup [.str (match op with|.GF=>52|_=>73),s1 v]
 |.arity n=>.tup [.str 56,fO n]
 |.values n=>.tup [.str 40,fO n]
 |.VY s=>.tup [.str 68,fO s]
 |.stuck=>.none
noncomputable def zc(w:EW)(lf made:Nat)(ev:AV):List (Nat×AV):=[(58,fO lf),(46,fO made),(67,.ref w.tr),(69,.ref w.gl),(45,ev),(61,.ref w.wd)]
noncomputable def za(l:List (Nat×fL)):List AV:=l.map λp=>.tup [fO p.1,s1 p.2]
noncomputable def Wy:List (Int×AV):=[(.ofNat 9,.str 47),(.ofNat 11,.str 52),(.ofNat 12,.str 73),(.ofNat 8,.str 49),(.ofNat 15,.str 51),(.ofNat 4,.str 50),(.ofNat 46,.str 48)]
noncomputable def HZ(x y:AV):List (Int×AV):=[(.ofNat 1,x),(.ofNat 2,y),(.ofNat 4,.lst [.str 53])]
structure Cl(td:Ad->Option Ad)(G:Gw)(st:St)(U:US):Prop where
 cl:∀(l:Nat) (a:Ad),G.cm[l]?=some a->∃x v,U a=some (.list [x])/\st.cells[l]?=some v/\VA td G.ids st.np v x
 cn:G.cm.length=st.cells.length
 nd:G.cm.Nodup
 n3:∀a,a∈G.cm->G.F a=none
def Good(td:Ad->Option Ad)(k:Nat)(v:fL):Prop:=∃ids x,VA td ids k v x
theorem Good.mono{td:Ad->Option Ad}{k k':Nat}{v:fL}(h:Good td k v)(l:k<=k'):Good td k' v:=h.elim λids h=>h.elim λx h=>⟨ids,x,h.mono (λY Y z=>z) l⟩
def GE(td:Ad->Option Ad)(k:Nat):Pl.Er->Prop
 |.prim _ v=>Good td k v
 |.stuck=>False
 |_=>True
structure Wm(w:EW)(td:Ad->Option Ad)(G:Gw)(st:St)(U:US):Prop where
 tr:U w.tr=some (.list (za st.trace))
 gl:∃x y,U w.gl=some (.di (HZ x y))/\VA td G.ids st.np st.g1 x/\VA td G.ids st.np st.g2 y
 c:Cl td G st U
 tn:w.tr∉G.cm
 wd:G.F w.wd=some (.di Wy)
 f:∀a o,G.F a=some o->U a=some o
 n0:G.F w.so=none
 n1:G.F w.tr=none
 n2:G.F w.gl=none
 idl:G.ids.length=st.np
 ids:G.ids.Pairwise (·<·)
 tx:WG td G.F
 f0:∀a o,w.F0 a=some o->G.F a=some o
 tg:∀p,p∈st.trace->Good td st.np p.2
inductive YY(w:EW)(td:Ad->Option Ad)(G:Gw)(k:Nat)(st:St)(U:US):Prop
 |mk {lf made ev}:k<=lf->(∀m,m∈G.ids->m<=made)->U w.so=some (.ds (zc w lf made ev))->Wm w td G st U->YY w td G k st U
inductive w7(w:EW)(td:Ad->Option Ad)(e:Pl.Er)(st:St)(U:US):Prop
 |mk {G lf made}:U w.so=some (.ds (zc w lf made (uh e)))->Wm w td G st U->GE td st.np e->w7 w td e st U
section
variable{w:EW}{td:Ad->Option Ad}{G G':Gw}{k n:Nat}{st st':St}{U U':US}{Q:fP}{E:US->Prop}
theorem Wm.GR(h:Wm w td G st U):WG td U:=λa d e=>aE (h.tx a d e) λa1 Z=>eE Z λfs a2=>⟨h.f _ _ a1,fs,h.f _ _ a2⟩
theorem Wm.gP(h:Wm w td G st U):U w.wd=some (.di Wy):=h.f _ _ h.wd
theorem off{F:US}{a b:Ad}{o:AO}(h:F a=none)(k:F b=some o):b≠a:=λe=>by rw[e,h]at k;exact ZE k
theorem Cl.upd{a:Ad}{o:Option AO}(h:Cl td G st U)(n:a∉G.cm):Cl td G st (upd U a o):=
 ⟨λl b e=>eE (h.cl l b e) λx Z=>eE Z λv z=>⟨x,v,(Z9 λ(q:b=a)=>n (q▸au e)).trans z.1,z.2⟩,h.cn,h.nd,h.n3⟩
theorem Cl.kind{a:Ad}{o:AO}(h:Cl td G st U)(e:U a=some o)(n:∀x,o≠.list [x]):a∉G.cm:=λm=>by
 obtain⟨l,e'⟩:=Zi0.mp m
 obtain⟨x,v,z,_⟩:=h.cl l a e'
 rw[e]at z;exact n x (cU z)
theorem Cl.free{a:Ad}(h:Cl td G st U)(e:U a=none):a∉G.cm:=λm=>by
 obtain⟨l,e'⟩:=Zi0.mp m
 obtain⟨x,v,z,_⟩:=h.cl l a e'
 rw[e]at z;exact ZE z
theorem Wm.upd{a:Ad}{o:Option AO}(h:Wm w td G st U)(nF:G.F a=none)(nt:a≠w.tr)(ng:a≠w.gl)(nc:a∉G.cm):Wm w td G st (upd U a o):=
 ⟨(Z9 nt.symm).trans h.tr,eE h.gl λx Z=>eE Z λy Z=>aE Z λz r=>⟨x,y,(Z9 ng.symm).trans z,r⟩,h.c.upd nc,h.tn,h.wd,λb ob z=>(Z9 (off nF z)).trans (h.f b ob z),h.n0,h.n1,h.n2,h.idl,h.ids,h.tx,h.f0,h.tg⟩
theorem Wm.so{ds:List (Nat×AV)}{o:Option AO}(h:Wm w td G st U)(e:U w.so=some (.ds ds)):Wm w td G st (Mine.Internal.upd U w.so o):=
 eE h.gl λ_ Z=>eE Z λ_ Z=>aE Z λg _=>h.upd h.n0 (ZI e h.tr (xO · rfl)) (ZI e g (xO · rfl)) (h.c.kind e λY h=>xA h rfl)
noncomputable def Gw.add(G:Gw)(a:Ad)(o:AO):Gw:={G with F:=Mine.Internal.upd G.F a (some o)}
theorem Wm.Ve(h:Wm w td G st U){a:Ad}(e:U a=none):G.F a=none:=HY λo z=>by rw[h.f a o z]at e;exact XD e
where HY {o:Option AO} (h:∀x,o=some x->False):o=none:=by induction o using jO<;>first|rfl|exact(h _ rfl).elim
theorem Gw.WY{a:Ad}{o:AO}(e:G.F a=none):Ui G (G.add a o):=⟨λY Y h=>h,λY Y h=>h,λb ob z=>(Z9 (off e z)).trans z⟩
theorem Wm.M6{a:Ad}{o:AO}(h:Wm w td G st U)(e:U a=some o)(nF:G.F a=none)(ns:a≠w.so)(nt:a≠w.tr)(ng:a≠w.gl)(nc:a∉G.cm):Wm w td (G.add a o) st U:=
 have k:∀{b},b≠a->(G.add a o).F b=G.F b:=λn=>Z9 n
 ⟨h.tr,h.gl,⟨h.c.cl,h.c.cn,h.c.nd,λb m=>(k λz=>nc (z▸m)).trans (h.c.n3 b m)⟩,h.tn,(Gw.WY nF).f _ _ h.wd,λb ob z=>by
  by_cases q:b=a
  ·subst q;rw[show(G.add b o).F b=some o from Z_]at z;exact z▸e
  ·rw[k q]at z;exact h.f b ob z,(k ns.symm).trans h.n0,(k nt.symm).trans h.n1,(k ng.symm).trans h.n2,h.idl,h.ids,λx d z=>aE (h.tx x d z) λa1 Z=>eE Z λfs a2=>⟨(Gw.WY nF).f _ _ a1,fs,(Gw.WY nF).f _ _ a2⟩,λa o z=>(Gw.WY nF).f _ _ (h.f0 a o z),h.tg⟩
noncomputable def Gw.cell(G:Gw)(a:Ad):Gw:={G with cm:=G.cm++[a]}
theorem TX{α:Type}{l r:List α}:Px l (l++r):=λi a h=>by rw[Zu3 (bE.mp h).1];exact h
theorem D7{α:Type}{l:List α}{x y:α}{i:Nat}(h:(l++[x])[i]?=some y):l[i]?=some y\/(i=l.length/\y=x):=by
 rcases Nat.lt_or_ge i l.length with q|q
 ·rw[Zu3 q]at h;exact .inl h
 ·rw[Zy0 q]at h
  obtain⟨z,e⟩:=bE.mp h
  have z:i-l.length<1:=z
  obtain rfl:i=l.length:=bF (Z7 (KJ i l.length) (Z7 z)) (q)
  rw[Zn9]at h
  exact .inr ⟨rfl,(cU h).symm⟩
theorem S5{α:Type}{l:List α}{x:α}:(l++[x])[l.length]?=some x:=by rw[Zy0 (cO _),Zn9];rfl
theorem Gw.S4{a:Ad}:Ui G (G.cell a):=⟨TX,λY Y h=>h,λY Y h=>h⟩
theorem Wm.cell{a:Ad}{x:AV}{v:fL}(h:Wm w td G st U)(e:U a=none)(hv:VA td G.ids st.np v x):Wm w td (G.cell a) {st with cells:=st.cells++[v]} (Mine.Internal.upd U a (some (.list [x]))):=by
 have nc:=h.c.free e
 have k:=h.upd (o:=some (.list [x])) (h.Ve e) (λz=>by rw[z,h.tr]at e;exact XD e) (λz=>by obtain⟨_,_,g,_⟩:=h.gl;rw[z,g]at e;exact XD e) nc
 refine⟨k.tr,k.gl,⟨λl b q=>?_,?_,?_,λb m=>?_⟩,λm=>?_,k.wd,k.f,k.n0,k.n1,k.n2,k.idl,k.ids,k.tx,k.f0,h.tg⟩
 ·rcases D7 q with q|⟨rfl,rfl⟩
  ·obtain⟨y,u,z1,z2,z3⟩:=k.c.cl l b q
   exact⟨y,u,z1,TX _ _ z2,z3⟩
  ·exact⟨x,v,Z_,by rw[h.c.cn];exact S5,hv⟩
 ·show(G.cm++[a]).length=(st.cells++[v]).length
  rw[cS,cS,h.c.cn];rfl
 ·exact Zy4.mpr ⟨h.c.nd,bU.mpr ⟨Zx9,.nil⟩,λb m b' m' z=>nc (cP.mp m'▸z▸m)⟩
 ·rcases bX.mp m with m|m
  ·exact h.c.n3 b m
  ·rw[cP.mp m];exact h.Ve e
 ·rcases bX.mp m with m|m
  ·exact h.tn m
  ·rw[<-cP.mp m,h.tr]at e;exact XD e
theorem Wm.y_{l:Nat}{a:Ad}{x:AV}{v:fL}(h:Wm w td G st U)(hl:G.cm[l]?=some a)(hv:VA td G.ids st.np v x):Wm w td G {st with cells:=st.cells.set l v} (Mine.Internal.upd U a (some (.list [x]))):=by
 have m:=au hl
 obtain⟨x0,v0,e0,c0,_⟩:=h.c.cl l a hl
 have k:∀{b:Ad} {o:AO},U b=some o->b≠a->Mine.Internal.upd U a (some (.list [x])) b=some o:=λe n=>(Z9 n).trans e
 refine⟨k h.tr λz=>h.tn (z▸m),eE h.gl λy Z=>eE Z λy' Z=>aE Z λz r=>⟨y,y',k z (ZI z e0 (xO · rfl)),r⟩,⟨λi b q=>?_,by show _=(st.cells.set l v).length;rw[aB];exact h.c.cn,h.c.nd,h.c.n3⟩,h.tn,h.wd,λb ob z=>k (h.f b ob z) (off (h.c.n3 a m) z),h.n0,h.n1,h.n2,h.idl,h.ids,h.tx,h.f0,h.tg⟩
 by_cases z:i=l
 ·subst z
  rw[hl]at q;cases q
  exact⟨x,v,Z_,Zj6 (bE.mp c0).1,hv⟩
 ·obtain⟨y,u,z1,z2,z3⟩:=h.c.cl i b q
  refine⟨y,u,k z1 λw=>z ?_,(aq (Zp2 z)).trans z2,z3⟩
  rw[w,<-hl]at q
  exact(List.getElem?_inj (bE.mp (q.trans hl)).1 h.c.nd).mp q
noncomputable def Gw.id(G:Gw)(m:Nat):Gw:={G with ids:=G.ids++[m]}
theorem Gw.ug{m:Nat}:Ui G (G.id m):=⟨λY Y h=>h,TX,λY Y h=>h⟩
theorem Wm.pair{m:Nat}(h:Wm w td G st U)(hm:∀j,j∈G.ids->j<m):Wm w td (G.id m) {st with np:=st.np+1} U:=
 have up:∀{v x},VA td G.ids st.np v x->VA td (G.id m).ids (st.np+1) v x:=λk=>k.mono TX (bH _)
 ⟨h.tr,eE h.gl λx Z=>eE Z λy Z=>aE Z λz Z=>aE Z λa b=>⟨x,y,z,up a,up b⟩,⟨λl a e=>eE (h.c.cl l a e) λx Z=>eE Z λv Z=>aE Z λz Z=>aE Z λz' r=>⟨x,v,z,z',up r⟩,h.c.cn,h.c.nd,h.c.n3⟩,h.tn,h.wd,h.f,h.n0,h.n1,h.n2,by
  show(G.ids++[m]).length=st.np+1;rw[cS,h.idl];rfl,List.pairwise_append.mpr ⟨h.ids,List.pairwise_singleton ..,λa z b y=>cP.mp y▸hm a z⟩,h.tx,h.f0,λp z=>(h.tg p z).mono (bH _)⟩
theorem Wm.trace{s:Nat}{v:fL}(h:Wm w td G st U)(hv:Good td st.np v):Wm w td G {st with trace:=st.trace++[(s,v)]} (Mine.Internal.upd U w.tr (some (.list (za st.trace++[.tup [fO s,s1 v]])))):=by
 refine hG ?_;intro PP
 obtain⟨x,y,g,gr⟩:=h.gl
 exact⟨by rw[Z_];unfold za;rw[bw];rfl,⟨x,y,(Z9 (ZI g h.tr (xO · rfl))).trans g,gr⟩,⟨(h.c.upd h.tn).cl,h.c.cn,h.c.nd,h.c.n3⟩,h.tn,h.wd,λb ob z=>(Z9 (off h.n1 z)).trans (h.f b ob z),h.n0,h.n1,h.n2,h.idl,h.ids,h.tx,h.f0,λp m=>(bX.mp m).elim (h.tg p) λm=>by rw[cP.mp m];exact hv⟩
theorem Wm.glob{x y:AV}{a b:fL}(h:Wm w td G st U)(ha:VA td G.ids st.np a x)(hb:VA td G.ids st.np b y):Wm w td G {st with g1:=a,g2:=b} (Mine.Internal.upd U w.gl (some (.di (HZ x y)))):=by
 refine hG ?_;intro PP
 obtain⟨x0,y0,g,_⟩:=h.gl
 exact⟨(Z9 (ZI h.tr g (xO · rfl))).trans h.tr,⟨x,y,Z_,ha,hb⟩,⟨(h.c.upd (h.c.kind g λY h=>xA h rfl)).cl,h.c.cn,h.c.nd,h.c.n3⟩,h.tn,h.wd,λb ob z=>(Z9 (off h.n2 z)).trans (h.f b ob z),h.n0,h.n1,h.n2,h.idl,h.ids,h.tx,h.f0,h.tg⟩
end
noncomputable def V0:fL->Bool
 |.pair _ _ _=>true
 |_=>false
noncomputable def y9:fL->Bool
 |.bool _=>true
 |_=>false
noncomputable def ru:fL->List Nat
 |.int _=>[207]|.bool _=>[208,207]|.text _=>[31]|.pair _ _ _=>[205]|_=>[23]
section
variable{w:EW}{td:Ad->Option Ad}{G G':Gw}{k k' n:Nat}{st st':St}{U U':US}{Q:fP}{E:US->Prop}{ids:List Nat}{v:fL}{x:AV}
theorem HX(ht:WG td U)(h:tx td a)(q:K [31]):Kl U (.ref a) K:=by
 obtain⟨d,e⟩:=h
 obtain⟨e1,fs,e2⟩:=ht a d e
 refine Z4 (?_:BN U a K)
 unfold BN;constructor;rw[e1];exact⟨rfl,ZY e2 q⟩
theorem VA.ty(h:VA td ids k v x)(ht:WG td U)(q:K (ru v)):Kl U x K:=
 h.el (P:=λv x=>K (ru v)->Kl U x K) (λY q=>Z4 q) (λY q=>Z4 q) (λq=>Z4 q) (λq=>Z4 q) (λY h=>HX ht h) (λY Y Y Y Y Y Y Y Y Y q=>Z4 q) q
theorem Oq(v:fL):([205].any λc=>Zh c (ru v))=V0 v:=by induction v using jW<;>rfl
theorem Cm(v:fL):([208].any λc=>Zh c (ru v))=y9 v:=by induction v using jW<;>rfl
theorem VA.low(h:VA td ids k v x)(p:V0 v=false):VA td ids 0 v x:=by induction v using jW<;>first|exact h|exact Wf p
theorem Ck(hi:(U_ i).isSome=true)(hj:(U_ j).isSome=true)(q:K (cZ i j)):LG (.g i) (.g j) K U:=by unfold LG;exact⟨hj,hi,q⟩
theorem PW(ht:WG td U):∀{k n:Nat} {x:AV} {Q:fP} {E:US->Prop},VA td ids k v x->k<=n->Q (s1 v) U->Z8 (n+1) 59 [x] Q E U:=by
 induction v with
 |int i=>intro k n x Q E h Y q;rw[show x=.int i from h];exact go (Z4 ⟨Z4 (Z4 (Z4 q))⟩)
 |bool b=>intro k n x Q E h Y q;rw[show x=.bool b from h];exact go (Z4 ⟨Z4 (Z4 q)⟩)
 |empty=>intro k n x Q E h Y q;rw[show x=.g 24 from h];exact go (Z4 ⟨Z4 (Z4 (Z4 (Ck rfl rfl q)))⟩)
 |XY=>intro k n x Q E h Y q;rw[show x=.g 25 from h];exact go (Z4 ⟨Z4 (Z4 (Z4 (Ck rfl rfl q)))⟩)
 |text a=>intro k n x Q E h Y q;rw[h.1];exact go (HX ht h.2 ⟨HX ht h.2 q⟩)
 |pair i a b ih1 ih2=>
  rintro k (_|n) x Q E h hn q
  ·exact absurd (aA h.1 hn) (Zj4 i)
  ·obtain⟨hi,m,y,z,e,r⟩:=h
   rw[e]
   exact go (Z4 ⟨rfl,ih1 r.2.1 (Zx2 (aA hi hn)) ⟨rfl,ih2 r.2.2 (Zx2 (aA hi hn)) q⟩⟩)
 |N4=>exactλh=>Zr7 h
 |U7=>exactλh=>Zr7 h
theorem toL_of(vs:List fL):toL (fL.ofList vs)=vs/\(fL.ofList vs).Ue=true/\(fL.ofList vs).Ku=vs.length:=by
 induction vs with
 |nil=>exact⟨rfl,rfl,rfl⟩
 |cons v vs ih=>exact⟨congrArg (v::·) ih.1,rfl,congrArg (·+1) ih.2.2⟩
theorem VA.one(h:VA td ids k v x):v.Ue=false:=by induction v using jW<;>first|rfl|exact Zr7 h
noncomputable def gO:X:=.call (.glob 33 (.g 59)) (.cons (.loc 1) .nil)
theorem D6(ht:WG td U)(hn:k<=n):∀{xs:List AV} {acc:List AV},VL td ids k vs xs->QQ (acc++vs.map s1) U->Zo (λY K U2=>K true U2) (λx K U2=>ZB [1] x [z0,z1] λL'=>ZK (Z8 (n+1)) E gO L' K U2) xs acc QQ U:=by
 induction vs with
 |nil=>intro xs acc h q;rw[show xs=[]from h];rw[Zx0,cB]at q;exact q
 |cons v vs ih=>
  intro xs acc h q
  refine hG ?_;intro PP
  obtain⟨y,ys,e,a,l⟩:=h
  dsimp only[PP]
  rw[e]
  exact⟨rfl,PW ht a hn (ih l (by rw[cz];exact q))⟩
theorem m9(h:VM td ids k v x)(ht:WG td U)(hn:k<=n)(q:Q (sn v) U):Z8 (n+2) 59 [x] Q E U:=by
 unfold sn at q
 rcases h with h|⟨vs,xs,e0,e,h,hl⟩
 ·exact PW ht h (bZ hn) (by rw[h.one]at q;exact q)
 ·obtain⟨e1,e2,_⟩:=toL_of vs
  rw[e0,e1,e2]at q
  rw[e]
  refine go (Z4 λzs hz=>?_)
  rw[show zs=xs from hz]
  refine D6 (acc:=[]) ht hn h ⟨?_,q⟩
  show 1+([]++vs.map s1).length<=LN
  rw[Zv6,cM,Uj];exact Z7 hl
theorem RN(h:YY w td G k st U)(he:uh e=.tup [.str word,thing])(ge:GE td st.np e)(q:∀U',w7 w td e st U'->E U'):Z8 (n+1) 60 [.ref w.so,.str word,thing] Q E U:=by
 obtain @⟨lf,made,ev,_,_,hs,hb⟩:=h
 exact go (YU hs ⟨cL rfl,rfl,q _ (.mk (lf:=lf) (made:=made) (by rw[Z_,he];rfl) (hb.so hs) ge)⟩)
theorem HW(hl:things.length<1000)(h:YY w td G k st U)(q:∀m U',(∀j,j∈G.ids->j<m)->YY w td G k st U'->YY w td (G.id m) k {st with np:=st.np+1} U'->Q (.lst (.str word::(things++[fO m]))) U'):Z8 (n+1) 62 [.ref w.so,.str word,.lst things] Q E U:=by
 obtain @⟨lf,made,ev,hk,hm,hs,hb⟩:=h
 refine go (YU hs λz hz=>YU hs ⟨cL rfl,?_⟩)
 rw[show z=.ofNat (made+1)from hz]
 have hb':=hb.so (o:=some (.ds (zc w lf (made+1) ev))) hs
 have lt:∀j,j∈G.ids->j<made+1:=λj m=>aT (hm j m)
 refine⟨?_,YU Z_ ⟨?_,q (made+1) _ lt ⟨hk,λj m=>Zz7 (lt j m),Z_,hb'⟩ ⟨hk,λj m=>(bX.mp m).elim (λm=>Zz7 (lt j m)) λm=>cV (cP.mp m),Z_,hb'.pair lt⟩⟩⟩
 ·show 1+things.length<=LN;rw[Uj];exact Z7 hl
 ·show([AV.str word]++things).length+1<=LN;rw[cS,Uj];show 1+things.length+1<=_;exact Z7 hl
theorem HV(h:YY w td G k st U)(ha:VA td G.ids st.np a x)(hb:VA td G.ids st.np b y)
 (q:∀G' U' z,Ui G G'->YY w td G' k {st with np:=st.np+1} U'->VA td G'.ids (st.np+1) (.pair st.np a b) z->Q z U'):Z8 (n+1) 62 [.ref w.so,.str 16,.lst [x,y]] Q E U:=
  have e:G.ids.length=st.np:=h.rec λY Y Y hb=>hb.idl
  HW (cL rfl) h λm U' Y Y h2=>q (G.id m) U' _ Gw.ug h2 ⟨Zz1 _,m,x,y,rfl,e▸S5,ha.mono TX (cO _),hb.mono TX (cO _)⟩
theorem D5(i j:Int):XI i j=decide (i=j):=by rw[Zv5,decide_eq_true_iff,Yy]
noncomputable def sT(U:US):fL->Bool
 |.text a=>Vl U a
 |.pair _ _ _=>false
 |.N4=>false
 |.U7 _ _=>false
 |_=>true
theorem VA.sT(ht:WG td U)(h:VA td ids k v x)(p:V0 v=false):sT U v=true/\VU U (s1 v)=true:=by
 induction v using jW with
 |pair=>exact Wf p
 |N4|U7=>exact Zr7 h
 |text a=>obtain⟨d,e⟩:=h.2;exact⟨by show Vl U a=true;unfold Vl;rw[(ht a d e).1];rfl,by show(U a).isSome=true;rw[(ht a d e).1];rfl⟩
 |_=>exact⟨rfl,rfl⟩
theorem uf{t:Nat}{v v':AV}{r:Bool}(h:UX U 599 v v'=some r):UX U EQ (.tup [.str t,v]) (.tup [.str t,v'])=some r:=by
 show(match some (cZ t t),(match UX U 599 v v',some true with|some a,some b=>some (a&&b)|_,_=>none)with|some a,some b=>some (a&&b)|_,_=>none).map (·&&true)=_
 rw[h,bY];induction r using jB<;>rfl
theorem D4(ha:sT U a=true)(hb:sT U b=true):UX U EQ (s1 a) (s1 b)=some (Pl.same a b):=by
 have tx:∀{c},Vl U c=true->(bif Vl U c then some false else none)=some false:=λh=>by rw[h];rfl
 induction a using jW with
 |text c=>induction b using jW with
  |text d=>show(bif Vl U c&&Vl U d then some (cZ c d)else none)=_;rw[show Vl U c=true from ha,show Vl U d=true from hb];rfl
  |_=>first|exact tx ha|exact Zv hb
 |int i=>induction b using jW with
  |int j=>rw[show Pl.same (.int i) (.int j)=_ from(D5 i j).symm];exact uf rfl
  |text d=>exact tx hb
  |_=>first|rfl|exact Zv hb
 |bool i=>induction b using jW with
  |bool j=>exact uf rfl
  |text d=>exact tx hb
  |_=>first|rfl|exact Zv hb
 |empty=>induction b using jW with
  |text d=>exact tx hb
  |_=>first|rfl|exact Zv hb
 |XY=>induction b using jW with
  |text d=>exact tx hb
  |_=>first|rfl|exact Zv hb
 |_=>exact Zv ha
end
noncomputable abbrev mu(st:St):Nat:=st.np+st.trace.length
def fK(w:EW)(td:Ad->Option Ad)(G:Gw)(k M:Nat)(o:Pl.e_ fL)(Q:fP)(E:US->Prop):Prop:=match o with
 |.ok v st=>∀G' U' x,Ui G G'->YY w td G' k st U'->VM td G'.ids st.np v x->mu st<=M->Q x U'
 |.er e st=>∀U',w7 w td e st U'->mu st<=M->E U'
noncomputable def TV:Op->Nat
 |.cons=>47|.GF=>52|.Dc=>73|.not=>49|.Rm=>51|.BU=>50|.list=>48
section
variable{w:EW}{td:Ad->Option Ad}{G G':Gw}{k k' n M:Nat}{st st':St}{U U':US}{Q:fP}{E:US->Prop}{ids:List Nat}{a b:fL}{x y so:AV}
theorem PV(a:VU U v=true)(b:VU U x=true)(h:UX U EQ v x=some r)(q:K r):xx v x K U:=by unfold xx;exact⟨a,b,XZ h q⟩
theorem D3(h:ids.Pairwise (·<·))(a:ids[i]?=some m)(b:ids[j]?=some m'):cZ m m'=cZ i j:=by
 induction q:cZ i j using jB with
 |true=>rw[cW q,b]at a;rw[cU a];exact bY m
 |false=>
  refine beq_false λe=>?_
  rw[e,<-b]at a
  rw[(List.getElem?_inj (bE.mp (a.trans b)).1 (h.imp aD)).mp a,bY]at q;exact Wf q
theorem Mf(pa:V0 a=true)(pb:V0 b=false):Pl.same a b=false/\Pl.same b a=false:=by
 induction a using jW<;>first|cases pa;done|(induction b using jW<;>first|cases pb;done|exact⟨rfl,rfl⟩)
theorem Oo{P:fL->AV->Prop}(h:VA td ids k a x)(p:V0 a=true)(q:∀i m c d y z,i<k->ids[i]?=some m->VA td ids i c y->VA td ids i d z->P (.pair i c d) (.lst [.str 16,y,z,fO m])):P a x:=by
 induction a using jW with
 |pair i c d=>
  refine hG ?_;intro PP
  obtain⟨e,m,y,z,e',r⟩:=h
  exact Zn3 (motive:=λx=>P _ x) (q i m c d y z e r.1 r.2.1 r.2.2) e'.symm
 |_=>exact Zv p
theorem HU(ht:WG td U)(hi:ids.Pairwise (·<·))(ha:VA td ids k a x)(hb:VA td ids k' b y)(q:Q (.bool (Pl.same a b)) U):Z8 (n+2) 61 [x,y] Q E U:=by
 have ta:=Oq a
 have tb:=Oq b
 induction pa:V0 a using jB with
 |false=>
  rw[pa]at ta
  induction pb:V0 b using jB with
  |false=>
   rw[pb]at tb
   have a0:=ha.low pa
   have b0:=hb.low pb
   exact go (ha.ty ht (Z2 ta (hb.ty ht (Z2 tb ⟨rfl,PW ht a0 (bV _) ⟨rfl,PW ht b0 (bV _) (PV (a0.sT ht pa).2 (b0.sT ht pb).2 (D4 (a0.sT ht pa).1 (b0.sT ht pb).1) q)⟩⟩))))
  |true=>
   rw[pb]at tb
   rw[(Mf pb pa).2]at q
   exact go (ha.ty ht (Z2 ta (hb.ty ht (Zu tb (ha.ty ht (Z2 ta q))))))
 |true=>
  rw[pa]at ta
  induction pb:V0 b using jB with
  |false=>
   rw[pb]at tb
   rw[(Mf pa pb).1]at q
   exact go (ha.ty ht (Zu ta (ha.ty ht (Zu ta (hb.ty ht (Z2 tb q))))))
  |true=>
   exact Oo (P:=λa x=>Q (.bool (Pl.same a b)) U->Z8 (n+2) 61 [x,y] Q E U) ha pa (λi m c d Y Y Y e1 Y Y q=>
    Oo (P:=λb y=>Q (.bool (Pl.same (.pair i c d) b)) U->Z8 (n+2) 61 [.lst [.str 16,_,_,fO m],y] Q E U) hb pb (λj m' Y Y Y Y Y e2 Y Y q=>go (Z4 (Z4 (Z4 (PV rfl rfl rfl (by
     have q:Q (.bool (cZ i j)) U:=q
     rw[<-D3 hi e1 e2]at q;exact q)))))) q) q
noncomputable def m8:S:=(lU.Z5.body).Z5.body
theorem D0(vs:List fL):∀{xs:List AV} {G:Gw} {st:St} {U:US} {rest:List AV} {x5:Option AV},VL td G.ids st.np vs xs->YY w td G k st U->
 (∀G' U' x5 z,Ui G G'->YY w td G' k {st with np:=st.np+vs.length} U'->VA td G'.ids (st.np+vs.length) (Pl.Wc vs st.np) z->Zc [5] (λQ' L U1=>wpS (Z8 (n+1)) m8 Q' Ee L U1) QQ rest [x0,x1,some (.ref w.so),x3,some z,x5] U')->
 Zc [5] (λQ' L U1=>wpS (Z8 (n+1)) m8 Q' Ee L U1) QQ (xs.reverse++rest) [x0,x1,some (.ref w.so),x3,some (.g 24),x5] U:=by
  induction vs with
  |nil=>intro xs G st U rest x5 hv h q;rw[show xs=[]from hv];exact q G U x5 _ .refl h rfl
  |cons v vs ih=>
   intro xs G st U rest x5 hv h q
   refine hG ?_;intro PP
   obtain⟨y,ys,e,a,l⟩:=hv
   dsimp only[PP]
   rw[e,Zv2,cz]
   exact ih l h λG1 U1 x5 z g1 h1 hz=>⟨rfl,HV h1 (a.mono g1.i (cR _ _)) hz λG2 U2 z2 g2 h2 gN=>q G2 U2 _ z2 (g1.trans g2) h2 gN⟩
theorem HT(hv:VL td G.ids st.np vs xs)(h:YY w td G k st U)
 (q:∀G' U' x5 z,Ui G G'->YY w td G' k {st with np:=st.np+vs.length} U'->VA td G'.ids (st.np+vs.length) (Pl.Wc vs st.np) z->QQ none [x0,x1,some (.ref w.so),x3,some z,x5] U'):
 Zc [5] (λQ' L U1=>wpS (Z8 (n+1)) m8 Q' Ee L U1) QQ xs.reverse [x0,x1,some (.ref w.so),x3,some (.g 24),x5] U:=by
  have:=D0 (Ee:=Ee) (n:=n) (rest:=[]) (x5:=x5) vs hv h q
  rwa [cB]at this
theorem HS(hv:VL td G.ids st.np vs xs)(h:YY w td G k st U)(q:∀G' U' z,Ui G G'->YY w td G' k {st with np:=st.np+vs.length} U'->VA td G'.ids (st.np+vs.length) (Pl.Wc vs st.np) z->Q z U'):Z8 (n+2) 63 [.str 48,.lst xs,.ref w.so] Q E U:=
 go (HT hv h λG' U' x5 z g h' hz=>show Bx _ from⟨q G' U' z g h' hz⟩)
noncomputable def ue:fL->Bool
 |.bool b=>!b
 |_=>false
theorem ud(h:VA td ids k a x)(ht:WG td U)(q:Q (.bool (ue a)) U):Z8 (n+1) 63 [.str 49,.lst [x],so] Q E U:=by
 have tb:=Cm a
 induction pb:y9 a using jB with
 |false=>rw[pb]at tb;exact go ⟨h.ty ht (Z2 tb (by induction a using jW<;>first|exact q|exact Wf pb))⟩
 |true=>
  rw[pb]at tb
  induction a using jW with
  |bool b=>rw[show x=.bool b from h];exact go ⟨Z4 q⟩
  |_=>exact Zv pb
theorem m7(h:VA td ids k a x)(ht:WG td U)(q:Q (.bool (V0 a)) U):Z8 (n+1) 63 [.str 51,.lst [x],so] Q E U:=by
 have ta:=Oq a
 induction pa:V0 a using jB with
 |false=>rw[pa]at q ta;exact go ⟨h.ty ht (Z2 ta q)⟩
 |true=>rw[pa]at q;exact Oo (P:=λY x=>Z8 (n+1) 63 [.str 51,.lst [x],so] Q E U) h pa λY Y Y Y Y Y Y Y Y Y=>go ⟨Z4 q⟩
theorem yZ{s:Nat}(hs:s=52\/s=73)(h:VA td ids k a x)(ht:WG td U)(h0:V0 a=false->∀Q,Z8 (n+1) 60 [so,.str s,s1 a] Q E U)(h1:∀i c d y z,a=.pair i c d->i<k->VA td ids i c y->VA td ids i d z->Q (match cZ s 52 with|true=>y|false=>z) U):Z8 (n+2) 63 [.str s,.lst [x],so] Q E U:=by
 have ta:=Oq a
 induction pa:V0 a using jB with
 |false=>
  rw[pa]at ta
  have a0:=h.low pa
  rcases hs with rfl|rfl
  ·exact go ⟨h.ty ht (Z2 ta ⟨rfl,PW ht a0 (bV _) ⟨rfl,h0 pa _⟩⟩)⟩
  ·exact go ⟨h.ty ht (Z2 ta ⟨rfl,PW ht a0 (bV _) ⟨rfl,h0 pa _⟩⟩)⟩
 |true=>
  refine Oo (P:=λa x=>(∀i c d y z,a=.pair i c d->i<k->VA td ids i c y->VA td ids i d z->Q (match cZ s 52 with|true=>y|false=>z) U)->Z8 (n+2) 63 [.str s,.lst [x],so] Q E U) h pa (λi m c d y z e Y r1 r2 h1=>?_) h1
  have q:=h1 i c d y z rfl e r1 r2
  rcases hs with rfl|rfl
  ·exact go ⟨Z4 ⟨q⟩⟩
  ·exact go ⟨Z4 ⟨q⟩⟩
theorem yY(h:YY w td G k st U)(hv:VL td G.ids st.np vs xs)(ar:(Pl.Hd.prim op).ar vs.length=true)(hM:mu st+vs.length<=M)(q:fK w td G k M (Pl.Yh op vs st) Q E):Z8 (n+3) 63 [.str (TV op),.lst xs,.ref w.so] Q E U:=by
 by_cases e:op=.list
 ·subst e;exact HS hv h λG' U' z g h' hz=>q G' U' z g h' (.inl hz) (by show st.np+vs.length+st.trace.length<=M;rw[Zx7];exact hM)
 have hb:Wm w td G st U:=h.rec λY Y Y hb=>hb
 have ht:=hb.GR
 have one:∀{op},cZ vs.length 1=true->(∀a x,VA td G.ids st.np a x->(fK w td G k M (Pl.Yh op [a] st) Q E)->Z8 (n+3) 63 [.str (TV op),.lst [x],.ref w.so] Q E U)->fK w td G k M (Pl.Yh op vs st) Q E->Z8 (n+3) 63 [.str (TV op),.lst xs,.ref w.so] Q E U:=λ{op} l k'=>by
  refine hv.el (P:=λvs xs=>cZ vs.length 1=true->fK w td G k M (Pl.Yh op vs st) Q E->Z8 (n+3) 63 [.str (TV op),.lst xs,.ref w.so] Q E U) (λz=>Zv z) (λv x vs xs a l=>?_) l
  refine l.el (P:=λvs xs=>cZ (v::vs).length 1=true->fK w td G k M (Pl.Yh op (v::vs) st) Q E->Z8 (n+3) 63 [.str (TV op),.lst (x::xs),.ref w.so] Q E U) (λY=>k' v x a) λY Y Y Y Y Y z=>Zv z
 have two:∀{op},cZ vs.length 2=true->(∀a x b y,mu st+2<=M->VA td G.ids st.np a x->VA td G.ids st.np b y->(fK w td G k M (Pl.Yh op [a,b] st) Q E)->Z8 (n+3) 63 [.str (TV op),.lst [x,y],.ref w.so] Q E U)->fK w td G k M (Pl.Yh op vs st) Q E->Z8 (n+3) 63 [.str (TV op),.lst xs,.ref w.so] Q E U:=λ{op} l k'=>by
  have hM:mu st+2<=M:=by rw[cW l]at hM;exact hM
  refine hv.el (P:=λvs xs=>cZ vs.length 2=true->fK w td G k M (Pl.Yh op vs st) Q E->Z8 (n+3) 63 [.str (TV op),.lst xs,.ref w.so] Q E U) (λz=>Zv z) (λv x vs xs a l=>?_) l
  refine l.el (P:=λvs xs=>cZ (v::vs).length 2=true->fK w td G k M (Pl.Yh op (v::vs) st) Q E->Z8 (n+3) 63 [.str (TV op),.lst (x::xs),.ref w.so] Q E U) (λz=>Zv z) λv' x' vs xs a' l=>?_
  refine l.el (P:=λvs xs=>cZ (v::v'::vs).length 2=true->fK w td G k M (Pl.Yh op (v::v'::vs) st) Q E->Z8 (n+3) 63 [.str (TV op),.lst (x::x'::xs),.ref w.so] Q E U) (λY=>k' v x v' x' hM a a') λY Y Y Y Y Y z=>Zv z
 have uc:mu st<=M:=c7 (cR _ _) hM
 have part:∀{op:Op} {s:Nat},(s=52\/s=73)->TV op=s->(∀a,V0 a=false->Pl.Yh op [a] st=.er (.prim op a) st)->(∀i c d,Pl.Yh op [.pair i c d] st=.ok (match cZ s 52 with|true=>c|false=>d) st)->(∀a,uh (.prim op a)=.tup [.str s,s1 a])->∀a x,VA td G.ids st.np a x->fK w td G k M (Pl.Yh op [a] st) Q E->Z8 (n+3) 63 [.str (TV op),.lst [x],.ref w.so] Q E U:=λ{op s} hs ho e0 e1 e2 a x ha q=>by
  rw[ho]
  refine yZ hs ha ht (λpa Q=>RN h (e2 a) ⟨_,_,ha⟩ λU' z=>?_) λi c d y z ea hi r1 r2=>?_
  ·rw[e0 a pa]at q;exact q U' z uc
  ·rw[ea,e1 i c d]at q
   refine q G U _ .refl h (.inl ?_) uc
   induction cZ s 52 using jB
   ·exact r2.mono (λY Y z=>z) (Zz7 hi)
   ·exact r1.mono (λY Y z=>z) (Zz7 hi)
 induction op using jJ with
 |list=>exact absurd rfl e
 |cons=>exact two ar (λa x b y hM ha hb' q=>go ⟨rfl,HV h ha hb' λG' U' z g h' hz=>q G' U' z g h' (.inl hz) (by show st.np+1+st.trace.length<=M;have hM:st.np+st.trace.length+2<=M:=hM;exact Z7 hM)⟩) q
 |BU=>exact two ar (λa x b y Y ha hb' q=>go ⟨rfl,HU ht hb.ids ha hb' (q G U _ .refl h (.inl rfl) uc)⟩) q
 |not=>exact one ar (λa x ha q=>ud ha ht (q G U (.bool (ue a)) .refl h (.inl rfl) uc)) q
 |Rm=>exact one ar (λa x ha q=>m7 ha ht (q G U (.bool (V0 a)) .refl h (.inl rfl) uc)) q
 |GF=>exact one ar (part (.inl rfl) rfl (λa p=>by induction a using jW<;>first|rfl|exact Wf p) (λY Y Y=>rfl) λY=>rfl) q
 |Dc=>exact one ar (part (.inr rfl) rfl (λa p=>by induction a using jW<;>first|rfl|exact Wf p) (λY Y Y=>rfl) λY=>rfl) q
end
structure m6 where
 m:Lm
 B:Env
 e:Ad
 es:List (Int×AV)
 a:Ad
 id:Nat
 d:Nat
def Cj(B:Env)(V:Sc):Prop:=∀x,V x->∃l,B x=some (.cell l)
def Ci(B:Env)(P:Sc):Prop:=∀x,P x->∃p c,B x=some (.proc p c)
structure Ready(td:Ad->Option Ad)(d:Nat)(B:Env)(t:T):Prop where
 iv:∃n V P,Iv n V P t/\Cj B V/\Ci B P
 cs:(toN t).cs (tx td)
 d:d+4*(fQ t B).n<=1000000
structure Vp(td:Ad->Option Ad)(d:Nat)(B:Env)(m:Lm):Prop where
 iv:∃n V P,Iv n (λx=>x∈bs m.ps m.r\/V x) P m.b/\Cj B V/\Ci B P/\∀x,P x->x∉bs m.ps m.r
 e:m.b.Zw=true
 l:(bs m.ps m.r).length<=3
 cs:(toN m.b).cs (tx td)
 d:d+4*((fQ m.b (Pl.envOf B m.ps m.r 0)).n+1)<=1000000
noncomputable abbrev Uo(m:Lm)(e:Ad)(id:Nat):AV:=.lst [.str 55,Vk m.l m.ps m.r (toN m.b).av,.ref e,fO id]
structure PB(td:Ad->Option Ad)(F:US)(es:List (Int×AV))(x:Nat)(p:List fL->Pl.D)(c:Nat)(W:m6):Prop where
 g:Zr es (.ofNat x)=some (.ref W.a)
 f:F W.a=some (.list [Uo W.m W.e W.id])
 e:F W.e=some (.di W.es)
 Yd:c8.proc p c=W.m.Yd W.B
 ok:Vp td W.d W.B W.m
inductive ES(td:Ad->Option Ad)(F:US)(cm:List Ad):Nat->Env->List (Int×AV)->Prop
 |mk {d:Nat} {B:Env} {es:List (Int×AV)} (W:Nat->m6):es.length<=d->(∀x l,B x=some (.cell l)->∃a,Zr es (.ofNat x)=some (.ref a)/\cm[l]?=some a)->
  (∀x p c,B x=some (.proc p c)->PB td F es x p c (W x))->(∀x p c,B x=some (.proc p c)->ES td F cm (W x).d (W x).B (W x).es)->ES td F cm d B es
def EA(td:Ad->Option Ad)(G:Gw)(d:Nat)(B:Env)(e:Ad):Prop:=∃es,G.F e=some (.di es)/\ES td G.F G.cm d B es
section
variable{w:EW}{td:Ad->Option Ad}{G G':Gw}{k n d M:Nat}{st st':St}{U U':US}{Q:fP}{E:US->Prop}{B:Env}{es:List (Int×AV)}
theorem ES.mono(g:Ui G G')(h:ES td G.F G.cm d B es):ES td G'.F G'.cm d B es:=by
 induction h with
 |mk W a b c _ ih=>exact .mk W a (λx l e=>(b x l e).imp λY z=>⟨z.1,g.c _ _ z.2⟩) (λx p q e=>let z:=c x p q e;⟨z.g,g.f _ _ z.f,g.f _ _ z.e,z.Yd,z.ok⟩) ih
theorem EA.mono(g:Ui G G')(h:EA td G d B e):EA td G' d B e:=h.imp λY z=>⟨g.f _ _ z.1,z.2.mono g⟩
theorem HR:Zr (fJ es (.ofNat x) v) (.ofNat x)=some v:=by rw[Ym];exact if_pos rfl
theorem PU(h:y≠x):Zr (fJ es (.ofNat x) v) (.ofNat y)=Zr es (.ofNat y):=by rw[Ym];exact if_neg λe=>h (Ze7 e)
theorem ES.len(h:ES td F cm d B es):es.length<=d:=by cases h with|mk _ a=>exact a
theorem ES.cell(h:ES td F cm d B es)(e:cm[l]?=some a):ES td F cm (d+1) (B.put x (.cell l)) (fJ es (.ofNat x) (.ref a)):=by
 cases h with|mk W h1 h2 h3 h4=>
 have old:∀{y:Nat} {b:(List fL->Pl.D)×Nat},(B.put x (.cell l)) y=some (.proc b.1 b.2)->y≠x/\B y=some (.proc b.1 b.2):=λ{y b} q=>by
  by_cases z:y=x
  ·rw[z,Pl.Yn]at q;exact Pl.xB q
  ·rw[Pl.Zx z]at q;exact⟨z,q⟩
 refine .mk W (c7 YQ (cu h1)) (λy l' q=>?_) (λy p c q=>?_) λy p c q=>h4 y p c (old (b:=(p,c)) q).2
 ·by_cases z:y=x
  ·rw[z,Pl.Yn]at q;cases q;rw[z];exact⟨a,HR,e⟩
  ·rw[Pl.Zx z]at q;rw[PU z];exact h2 y l' q
 ·obtain⟨z,q⟩:=old (b:=(p,c)) q
  exact⟨(PU z).trans (h3 y p c q).g,(h3 y p c q).f,(h3 y p c q).e,(h3 y p c q).Yd,(h3 y p c q).ok⟩
theorem ES.proc{F:US}{cm:List Ad}{f:Nat}{W0:m6}(h:ES td F cm d B es)(ho:ES td F cm W0.d W0.B W0.es)(hf:F W0.a=some (.list [Uo W0.m W0.e W0.id]))(he:F W0.e=some (.di W0.es))(ok:Vp td W0.d W0.B W0.m):ES td F cm (d+1) (B.put f (W0.m.Yd W0.B)) (fJ es (.ofNat f) (.ref W0.a)):=by
 cases h with|mk W h1 h2 h3 h4=>
 refine .mk (λy=>if y=f then W0 else W y) (c7 YQ (cu h1)) (λy l q=>?_) (λy p c q=>?_) λy p c q=>?_
 ·by_cases z:y=f
  ·rw[z,Pl.Yn]at q;exact Pl.xB q.symm
  ·rw[Pl.Zx z]at q;rw[PU z];exact h2 y l q
 ·by_cases z:y=f
  ·rw[z,Pl.Yn]at q;rw[if_pos z,z];exact⟨HR,hf,he,(cU q).symm,ok⟩
  ·rw[Pl.Zx z]at q;rw[if_neg z];exact⟨(PU z).trans (h3 y p c q).g,(h3 y p c q).f,(h3 y p c q).e,(h3 y p c q).Yd,(h3 y p c q).ok⟩
 ·by_cases z:y=f
  ·rw[if_pos z];exact ho
  ·rw[Pl.Zx z]at q;rw[if_neg z];exact h4 y p c q
structure GQ(w:EW)(G:Gw)(i:Ad)(es:List (Int×AV))(U:US):Prop where
 u:U i=some (.di es)
 f:G.F i=none
 g:i≠w.gl
theorem YY.b(h:YY w td G k st U):Wm w td G st U:=h.rec λY Y Y hb=>hb
theorem YY.upd(h:YY w td G k st U)(a:GQ w G i es U):YY w td G k st (Mine.Internal.upd U i o):=by
 obtain⟨h1,h2,h3,h4⟩:=h
 exact⟨h1,h2,(Z9 (ZI h3 a.u (xO · rfl))).trans h3,h4.upd a.f (ZI a.u h4.tr (xO · rfl)) a.g (h4.c.kind a.u λY h=>xA h rfl)⟩
theorem YY.new(h:YY w td G k st U)(e:U i=none):YY w td G k st (Mine.Internal.upd U i (some o))/\G.F i=none/\i≠w.gl:=by
 refine hG ?_;intro PP
 obtain⟨h1,h2,h3,h4⟩:=h
 have ng:i≠w.gl:=λz=>by obtain⟨_,_,g,_⟩:=h4.gl;rw[z,g]at e;exact XD e
 exact⟨⟨h1,h2,(Z9 λz=>by rw[<-z,h3]at e;exact XD e).trans h3,h4.upd (h4.Ve e) (λz=>by rw[z,h4.tr]at e;exact XD e) ng (h4.c.free e)⟩,h4.Ve e,ng⟩
theorem YY.cell(h:YY w td G k st U)(e:U a=none)(hv:VA td G.ids st.np v x):YY w td (G.cell a) k {st with cells:=st.cells++[v]} (Mine.Internal.upd U a (some (.list [x]))):=by
 refine hG ?_;intro PP
 obtain⟨h1,h2,h3,h4⟩:=h
 exact⟨h1,h2,(Z9 λz=>by rw[<-z,h3]at e;exact XD e).trans h3,h4.cell e hv⟩
theorem YY.M6(h:YY w td G k st U)(a:GQ w G i es U):YY w td (G.add i (.di es)) k st U:=by
 obtain⟨h1,h2,h3,h4⟩:=h
 exact⟨h1,h2,h3,h4.M6 a.u a.f (ZI a.u h3 (xO · rfl)) (ZI a.u h4.tr (xO · rfl)) a.g (h4.c.kind a.u λY h=>xA h rfl)⟩
noncomputable def m5:S:=lT.Z5.Z5.Z5.Z5
noncomputable def gM:S:=m5.body
theorem yX(ps:List Nat):∀{vs:List fL} {xs:List AV} {G:Gw} {d:Nat} {B:Env} {es:List (Int×AV)} {st:St} {U:US} {x5 x6:Option AV},VL td G.ids st.np vs xs->ps.length<=vs.length->YY w td G k st U->GQ w G i es U->ES td G.F G.cm d B es->d+ps.length<=1000000->
 (∀G' U' es' x5 x6,Ui G G'->YY w td G' k {st with cells:=st.cells++vs.take ps.length} U'->GQ w G' i es' U'->ES td G'.F G'.cm (d+ps.length) (Pl.putAll B ps st.cells.length) es'->QQ none [x0,x1,x2,x3,some (.ref i),x5,x6] U')->
 Zc [5,6] (λQ' L U1=>wpS C gM Q' Ee L U1) QQ (Pk (fN ps) xs) [x0,x1,x2,x3,some (.ref i),x5,x6] U:=by
  induction ps with
  |nil=>intro vs xs G d B es st U x5 x6 Y Y h a s Y q;exact q G U es x5 x6 .refl (by rw[show vs.take ([]:List Nat).length=[]from List.take_zero,cB];exact h) a s
  |cons p ps ih=>
   intro vs xs G d B es st U x5 x6 hv hl h a s hd q
   induction vs using jL with
   |nil=>exact absurd hl (Zu8 _)
   |cons v vs=>
    refine hG ?_;intro PP
    obtain⟨y,ys,e,ha,l⟩:=hv
    dsimp only[PP]
    rw[e]
    rw[bG,<-aZ]at hd
    refineλc hc=>?_
    have h1:=h.cell hc ha
    have nc:i≠c:=λz=>by rw[<-z,a.u]at hc;exact XD hc
    have a1:GQ w (G.cell c) i es (Mine.Internal.upd U c (some (.list [y]))):=⟨(Z9 nc).trans a.u,a.f,a.g⟩
    have s1:=(s.mono Gw.S4).cell (x:=p) (a:=c) (l:=st.cells.length) (by show(G.cm++[c])[st.cells.length]?=some c;rw[<-h.b.c.cn];exact S5)
    refine Z3 a1.u ⟨?_,?_⟩
    ·have:=s.len;rw[Uj];exact Z7 this (Z7 hd)
    refine ih (G:=G.cell c) (st:={st with cells:=st.cells++[v]}) l (Zy1 hl) (h1.upd (o:=some (.di (fJ es (.ofNat p) (.ref c)))) a1) ⟨Z_,a.f,a.g⟩ s1 (Z7 hd) λG' U' es' x5 x6 g h' a' s'=>q G' U' es' x5 x6 (Gw.S4.trans g) ?_ a' ?_
    ·rw[show(v::vs).take (p::ps).length=v::vs.take ps.length from rfl,<-List.singleton_append,<-cz];exact h'
    ·rw[show d+(p::ps).length=d+1+ps.length by rw[bG];simp+arith only]
     rw[show(st.cells++[v]).length=st.cells.length+1 from cS]at s';exact s'
end
abbrev CE(B ρ':Env):Prop:=∀x,Pl.YD (B x)=Pl.YD (ρ' x)
theorem Nd(h:CE B ρ')(e:Pl.YD (some b)=Pl.YD (some b')):CE (B.put y b) (ρ'.put y b'):=λx=>by
 unfold Env.put;split
 ·exact e
 ·exact h x
theorem HQ(ps:List Nat):∀{B ρ':Env} {c c':Nat},CE B ρ'->CE (Pl.putAll B ps c) (Pl.putAll ρ' ps c'):=by
 induction ps with
 |nil=>exactλh=>h
 |cons p ps ih=>exactλh=>ih (Nd h rfl)
theorem Nc(h:CE B ρ'):CE (Pl.envOf B ps r c) (Pl.envOf ρ' ps r c'):=by
 induction r using jO with
 |none=>exact HQ ps h
 |some y=>exact Nd (HQ ps h) rfl
theorem PT{a b a' b':Nat}(h:a=a')(k:b=b'):a+b=a'+b':=by rw[h,k]
theorem t_(t:T):∀{B ρ':Env},CE B ρ'->(fQ t B).n=(fQ t ρ').n:=by
 induction t with
 |node h ts ih=>exactλe=>PT (ih e) rfl
 |app l ps r b as ihb iha=>exactλe=>PT (iha e) (PT (ihb (Nc e)) rfl)
 |ZT l f l' ps r b t ihb wg=>exactλe=>have k:=PT (ihb (Nc e)) rfl;PT (PT (wg (Nd e k)) k) rfl
 |ZZ f as ih=>exactλe=>PT (ih e) (e f)
 |nil=>exactλY=>rfl
 |cons a b iha ihb=>exactλe=>PT (PT (iha e) (ihb e)) rfl
theorem Cg(c:Nat)(b:T):(fQ b (Pl.envOf B ps r c)).n=(fQ b (Pl.envOf B ps r 0)).n:=t_ b (Nc λY=>rfl)
section
variable{w:EW}{td:Ad->Option Ad}{G G':Gw}{k n d M:Nat}{st st':St}{U U':US}{Q:fP}{E:US->Prop}{B:Env}{es:List (Int×AV)}
theorem fK.le(g:Ui G G')(h:fK w td G k M o Q E):fK w td G' k M o Q E:=by
 induction o using jK with
 |ok v st=>exactλG2 U2 x g2=>h G2 U2 x (g.trans g2)
 |er e st=>exact h
theorem QU(ps:List Nat):∀{B:Env} {c:Nat},x∈ps->∃l,Pl.putAll B ps c x=some (.cell l):=by
 induction ps with
 |nil=>exactλm=>xm m
 |cons p ps ih=>
  intro B c m
  by_cases q:x∈ps
  ·exact ih q
  ·rw[show Pl.putAll B (p::ps) c x=_ from Pl.Vn ps q,(cJ.mp m).resolve_right q];exact⟨c,Pl.Yn⟩
theorem HP(m:x∈bs ps r):∃l,Pl.envOf B ps r c x=some (.cell l):=by
 induction r using jO with
 |none=>exact QU ps ((bX.mp m).resolve_right (xm ·))
 |some y=>
  by_cases q:x=y
  ·rw[q];exact⟨_,Pl.Yn⟩
  ·show∃l,(Env.put _ y _) x=_
   rw[Pl.Zx q]
   exact QU ps ((bX.mp m).resolve_right λm=>q (cP.mp m))
theorem Vp.ready(h:Vp td d B m)(c:Nat):Ready td (d+3) (Pl.envOf B m.ps m.r c) m.b:=by
 refine hG ?_;intro PP
 obtain⟨n,V,P,i,hV,hP,hn⟩:=h.iv
 refine⟨⟨n,_,P,i,λx z=>?_,λx z=>?_⟩,h.cs,?_⟩
 ·by_cases q:x∈bs m.ps m.r
  ·exact HP q
  ·rw[Pl.VW q];exact hV x (z.resolve_left q)
 ·rw[Pl.VW (hn x z)];exact hP x z
 ·have:=h.d;rw[Cg];exact Z7 this
def Runs(td:Ad->Option Ad)(n:Nat):Prop:=∀{w:EW} {G:Gw} {k M:Nat} {st:St} {U:US} {t:T} {B:Env} {d:Nat} {e:Ad} {Q:fP} {E:US->Prop},t.Zw=true->Ready td d B t->EA td G d B e->YY w td G (k+3*(fQ t B).n+2) st U->
 2*(fQ t B).n+mu st+40<=n->mu st+(fQ t B).n<=M->fK w td G k M (Pl.one (fQ t B).ds st) Q E->Z8 n 66 [(toN t).av,.ref e,.ref w.so] Q E U
theorem VL.drop(j:Nat):∀{xs:List AV} {k:Nat},VL td ids k vs xs->VL td ids k (vs.drop j) (xs.drop j):=by
 induction j generalizing vs with
 |zero=>exactλh=>h
 |succ j ih=>induction vs using jL with
  |nil=>intro xs k h;rw[show xs=[]from h];rfl
  |cons v vs=>intro xs k h;obtain⟨y,ys,e,_,l⟩:=h;rw[e];exact ih l
theorem ES.up{F:US}{cm:List Ad}{d':Nat}(h:ES td F cm d B es)(l:d<=d'):ES td F cm d' B es:=by
 cases h with|mk W a b c e=>exact .mk W (c7 a l) b c e
theorem HO(h:U b=none):Mine.Internal.upd U a none b=none:=by
 by_cases e:b=a
 ·rw[e];exact Z_
 ·exact(Z9 e).trans h
noncomputable def Gw.PS(G:Gw)(i:Ad):Gw:={G with F:=Mine.Internal.upd G.F i none}
theorem YY.PS(b:Wm w td G1 st1 U1)(f:G1.F i=none)(g:Ui G1 G)(h:YY w td G k st U):Ui G1 (G.PS i)/\YY w td (G.PS i) k st U:=by
 have g':Ui G1 (G.PS i):=⟨g.c,g.i,λa o e=>(Z9 (off f e)).trans (g.f a o e)⟩
 have no:∀{a},G.F a=none->(G.PS i).F a=none:=HO
 obtain⟨h1,h2,h3,h4⟩:=h
 refine⟨g',h1,h2,h3,h4.tr,h4.gl,⟨h4.c.cl,h4.c.cn,h4.c.nd,λa m=>no (h4.c.n3 a m)⟩,h4.tn,g'.f _ _ b.wd,λa o e=>?_,no h4.n0,no h4.n1,no h4.n2,h4.idl,h4.ids,λa d e=>aE (b.tx a d e) λz1 Z=>eE Z λfs z2=>⟨g'.f _ _ z1,fs,g'.f _ _ z2⟩,λa o z=>g'.f _ _ (b.f0 a o z),h4.tg⟩
 by_cases q:a=i
 ·rw[q,show(G.PS i).F i=none from Z_]at e;exact ZE e
 ·exact h4.f a o ((Z9 q).symm.trans e)
theorem Me(hC:C=Z8 n)(hR:Runs td n)(ok:Vp td d B m)(h:YY w td G (k+3*(fQ m.b (Pl.envOf B m.ps m.r cc)).n+2) st U)(a:GQ w G i es U)(s:ES td G.F G.cm (d+3) (Pl.envOf B m.ps m.r cc) es)
 (hn:2*(fQ m.b (Pl.envOf B m.ps m.r cc)).n+mu st+40<=n) (hM:mu st+(fQ m.b (Pl.envOf B m.ps m.r cc)).n<=M) (q:fK w td G k M (Pl.one (fQ m.b (Pl.envOf B m.ps m.r cc)).ds st) Q E):
 Bx (wpS C m5.Z5.Z5 (YC Q) (Y8 E) [x0,x1,some (.ref w.so),some (Vk m.l m.ps m.r (toN m.b).av),some (.ref i),x5,x6] U):=by
  subst hC
  exact⟨⟨rfl,hR ok.e (ok.ready cc) ⟨es,Z_,s.mono (Gw.WY a.f)⟩ (h.M6 a) hn hM (q.le (Gw.WY a.f))⟩⟩
theorem HN(hR:Runs td n)(ok:Vp td d B m)(hv:VL td G.ids st.np vs xs)(h:YY w td G (k+3*(fQ m.b (Pl.envOf B m.ps m.r 0)).n+2) st U)(a:GQ w G i es U)(s:ES td G.F G.cm d B es)
 (ar:Pl.RB vs.length m.ps.length m.r.isSome=true) (hn:2*(fQ m.b (Pl.envOf B m.ps m.r 0)).n+mu st+vs.length+40<=n) (hM:mu st+vs.length+(fQ m.b (Pl.envOf B m.ps m.r 0)).n<=M)
 (q:fK w td G k M (Pl.fB B m.ps m.r (λB=>Pl.one (fQ m.b B).ds) vs st) Q E):
 Bx (wpS (Z8 n) m5 (YC Q) (Y8 E) [some f,some (.lst xs),some (.ref w.so),some (Vk m.l m.ps m.r (toN m.b).av),some (.ref i),none,none] U):=by
  unfold Pl.fB at q
  rw[ar]at q
  dsimp only at q
  rw[<-Cg st.cells.length]at hn hM h
  have hd:=ok.d
  have hl:m.ps.length<=vs.length:=by
   unfold Pl.RB at ar
   rcases b9.mp ar with z|z
   ·exact cV (cW z).symm
   ·exact cL (cN.mp z).2
  have l3:=ok.l
  rw[cS]at l3
  refine⟨yX m.ps hv hl h a s (Z7 hd (Z7 l3)) λG1 U1 es1 x5 x6 g1 h1 a1 s1=>?_⟩
  obtain⟨n,rfl⟩:∃n',n=n'+2:=⟨n-2,bF ((KJ n 2)) ((LU (Z7 hn):n-2+2<=n))⟩
  obtain⟨l,ps,r,b⟩:=m
  induction r using jO with
  |none=>exact⟨Me (st:={st with cells:=st.cells++vs.take ps.length}) (cc:=st.cells.length) rfl hR ok h1 a1 (s1.up (by dsimp only at l3;exact Z7 l3)) (Z7 hn) (Z7 hM) (q.le g1)⟩
  |some x=>
   refine⟨λzs gK=>⟨rfl,?_⟩⟩
   rw[show zs=xs.drop (fN ps).length from gK]
   refine HS (G:=G1.add i (.di es1)) (st:={st with cells:=st.cells++vs.take ps.length}) ((hv.mono g1.i (cO _)).drop (fN ps).length) (h1.M6 a1) λG2 U2 z g2 h2 hz c hc=>?_
   have gi:G2.F i=some (.di es1):=g2.f _ _ Z_
   obtain⟨g3,h3⟩:=h2.PS (i:=i) h1.b a1.f ((Gw.WY a1.f).trans g2)
   have u2:=h2.b.f _ _ gi
   have nc:i≠c:=λz=>by rw[<-z,u2]at hc;exact XD hc
   have h4:=h3.cell hc hz
   have a4:GQ w ((G2.PS i).cell c) i es1 (Mine.Internal.upd U2 c (some (.list [z]))):=⟨(Z9 nc).trans u2,Z_,a1.g⟩
   have s4:=(s1.mono (g3.trans Gw.S4)).cell (x:=x) (a:=c) (l:=st.cells.length+ps.length) (by
    have e:=h3.b.c.cn
    have e:(G2.PS i).cm.length=(st.cells++vs.take ps.length).length:=e
    rw[cS,Zk6,Zs8 hl]at e
    rw[<-e];exact S5)
   have e1:(vs.drop (fN ps).length).length=vs.length-ps.length:=by rw[Zq4,YR]
   refine Z3 a4.u ⟨by have:=s1.len;rw[Uj];dsimp only at l3;exact Z7 this (Z7 hd (Z7 l3)),?_⟩
   have h5:=h4.upd (o:=some (.di (fJ es1 (.ofNat x) (.ref c)))) a4
   rw[e1,YR]at h5
   dsimp only at l3 hl
   exact Me (m:=⟨l,ps,some x,b⟩) (cc:=st.cells.length) rfl hR ok h5 ⟨Z_,a4.f,a4.g⟩ (s4.up (by have l3:ps.length+1<=3:=l3;show d+ps.length+1<=d+3;exact Z7 l3)) (by show 2*_+(st.np+(vs.length-ps.length)+st.trace.length)+40<=_;have hn:2*(fQ b (Pl.envOf B ps (some x) st.cells.length)).n+(st.np+st.trace.length)+vs.length+40<=n+2:=hn;exact Z7 hn (Z7 (Zv0 vs.length ps.length))) (by show st.np+(vs.length-ps.length)+st.trace.length+_<=_;have hM:st.np+st.trace.length+vs.length+(fQ b (Pl.envOf B ps (some x) st.cells.length)).n<=M:=hM;exact Z7 hM (Z7 (Zv0 vs.length ps.length))) (q.le (g1.trans (g3.trans Gw.S4)))
end
section
variable{w:EW}{td:Ad->Option Ad}{G G':Gw}{k n d M:Nat}{st st':St}{U U':US}{Q:fP}{E:US->Prop}{B:Env}{es:List (Int×AV)}
theorem DZ(a b:Nat):fh (.ofNat a) (.ofNat b)=bk a b:=rfl
theorem tZ{a b:Nat}{r:Option Nat}(h:Pl.RB a b r.isSome=true):bk a b=false/\(bk b a=false\/fh (TL r) (.ofNat 0)=false):=by
 induction r using jO with
 |none=>
  have e:a=b:=cW ((Zf0 _).symm.trans h)
  rw[e];exact⟨WU (cO _),.inl (WU (cO _))⟩
 |some x=>
  refine⟨WU ?_,.inr rfl⟩
  rcases b9.mp h with z|z
  ·exact cV (cW z).symm
  ·exact cL z
theorem tY{a b:Nat}{r:Option Nat}(h:Pl.RB a b r.isSome=false)(q:bk a b=false):bk b a=true/\fh (TL r) (.ofNat 0)=true:=by
 have le:b<=a:=Zx3.mp λz=>by rw[show bk a b=true from br z]at q;exact Wf q
 induction r using jO with
 |none=>
  refine⟨br (Nat.lt_of_le_of_ne le λz=>?_),rfl⟩
  have h:(cZ a b||false)=false:=h
  rw[z,bY]at h;exact Wf h
 |some x=>
  have h:(cZ a b||(true&&Zw0 b a))=false:=h
  rw[br le,Bool.and_true,Bool.or_true]at h;exact Wf h
theorem Md{m:Lm}{e:Ad}{id:Nat}{vs:List fL}{xs:List AV}(hR:Runs td n)(ok:Vp td d B m)(hE:EA td G d B e)(hv:VL td G.ids st.np vs xs)(h:YY w td G (k+3*(fQ m.b (Pl.envOf B m.ps m.r 0)).n+2) st U)
 (hn:2*(fQ m.b (Pl.envOf B m.ps m.r 0)).n+mu st+vs.length+40<=n) (hM:mu st+vs.length+(fQ m.b (Pl.envOf B m.ps m.r 0)).n<=M) (q:fK w td G k M (Pl.fB B m.ps m.r (λB=>Pl.one (fQ m.b B).ds) vs st) Q E):
 Z8 (n+1) 64 [Uo m e id,.lst xs,.ref w.so] Q E U:=by
 obtain⟨es,fe,se⟩:=hE
 refine go (Z4 (Z4 ⟨Z3 (h.b.f _ _ fe) λi hi=>?_⟩))
 obtain⟨h1,f1,g1⟩:=h.new (o:=.di es) hi
 have l1:xs.length=vs.length:=hv.len
 have l2:(fN m.ps).length=m.ps.length:=YR _
 induction ar:Pl.RB vs.length m.ps.length m.r.isSome using jB with
 |false=>
  unfold Pl.fB at q
  rw[ar,<-l1]at q
  have fl:∀{Q},Z8 n 60 [.ref w.so,.str 56,fO xs.length] Q E (Mine.Internal.upd U i (some (.di es))):=λ{Q}=>by
   obtain⟨n,rfl⟩:∃n',n=n'+1:=⟨n-1,bF ((KJ n 1)) ((LU (Z7 hn):n-1+1<=n))⟩
   exact RN h1 (e:=.arity xs.length) rfl trivial λU' z=>q U' z (c7 (cR _ _) (c7 (cR _ _) hM))
  rw[<-l1,<-l2]at ar
  exact ZC (fh (.ofNat xs.length) (.ofNat (fN m.ps).length)) (λY=>⟨rfl,fl⟩) λz=>have z':=tY ar z;Zu z'.1 (Zu z'.2 ⟨rfl,fl⟩)
 |true=>
  have tl:=HN (f:=Uo m e id) hR ok hv h1 ⟨Z_,f1,g1⟩ se ar hn hM q
  rw[<-l1,<-l2]at ar
  obtain⟨z1,z2⟩:=tZ ar
  exact Z2 (b:=fh (.ofNat xs.length) (.ofNat (fN m.ps).length)) z1 (ZC (fh (.ofNat (fN m.ps).length) (.ofNat xs.length)) (λz=>Z2 (z2.resolve_left λz'=>by rw[DZ]at z;rw[z']at z;exact Zv z) tl) λY=>tl)
theorem yW{ids:List Nat}{v:fL}{x:AV}(h:VA td ids k v x)(p:V0 v=true):∃r,x=.lst (.str 16::r):=Oo (P:=λY x=>∃r,x=.lst (.str 16::r)) h p λY Y Y Y Y Y Y Y Y Y=>⟨_,rfl⟩
theorem yV{α:Type}{l l':List α}(h:Px l l'):l.length<=l'.length:=by
 induction l using jL with
 |nil=>exact bV _
 |cons a r=>exact(bE.mp (h r.length _ (cy (Zz1 _)))).1
theorem tX{k':Nat}{st':St}{U':US}(g:Ui G G')(h:YY w td G k st U)(h':YY w td G' k' st' U'):st.np<=st'.np:=by rw[<-h.b.idl,<-h'.b.idl];exact yV g.i
def PR(w:EW)(td:Ad->Option Ad)(G:Gw)(k M:Nat)(o:Pl.e_ fL)(Q:fP)(E:US->Prop):Prop:=match o with
 |.ok v st=>∀G' U' x,Ui G G'->YY w td G' k st U'->VA td G'.ids st.np v x->mu st<=M->Q x U'
 |.er e st=>∀U',w7 w td e st U'->mu st<=M->E U'
noncomputable def RM(v:fL)(st:St):Pl.e_ fL:=match v.Ue with
 |true=>.er (.values v.Ku) st
 |false=>.ok v st
theorem HL{node:AV}{e:Ad}{o:Pl.e_ fL}(hr:∀Q,fK w td G k M o Q E->Z8 (n+1) 66 [node,.ref e,.ref w.so] Q E U)(q:PR w td G k M (o.bind RM) Q E):Z8 (n+2) 65 [node,.ref e,.ref w.so] Q E U:=by
 refine go ⟨rfl,hr _ ?_⟩
 induction o using jK with
 |er e st=>exact q
 |ok v st=>
  intro G' U' x g h hx hm
  rcases hx with hx|⟨vs,xs,e0,e1,l,_⟩
  ·have q:PR w td G k M (RM v st) Q E:=q
   unfold RM at q
   rw[hx.one]at q
   have q:=q G' U' x g h hx hm
   have tp:=Oq v
   induction pv:V0 v using jB with
   |false=>rw[pv]at tp;exact hx.ty h.b.GR (Z2 tp ⟨q⟩)
   |true=>obtain⟨r,rfl⟩:=yW hx pv;exact Z4 ⟨q⟩
  ·have q:PR w td G k M (RM v st) Q E:=q
   unfold RM at q
   refine hG ?_;intro PP
   obtain⟨_,e2,e3⟩:=toL_of vs
   dsimp only[PP]
   rw[e0,e2]at q
   rw[e1]
   refine Z4 λz hz=>⟨rfl,?_⟩
   rw[show z=.ofNat xs.length by rw[hz];show((xs.length+1:Nat):Int)-1=(xs.length:Int);exact Zs4 (xs.length:Int) 1]
   exact RN h (e:=.values (fL.ofList vs).Ku) (by rw[e3,<-l.len];rfl) trivial λU' z=>q U' z hm
noncomputable def mZ:X:=.call (.glob 41 (.g 65)) (.cons (.loc 5) (.cons (.loc 1) (.cons (.loc 2) .nil)))
def Om(w:EW)(td:Ad->Option Ad)(G:Gw)(k M:Nat)(o:Pl.e_ (List fL))(Q:List AV->US->Prop)(E:US->Prop):Prop:=match o with
 |.ok vs st=>∀G' U' xs,Ui G G'->YY w td G' k st U'->VL td G'.ids st.np vs xs->mu st+vs.length<=M->Q xs U'
 |.er e st=>∀U',w7 w td e st U'->mu st<=M->E U'
theorem Ready.hd{h t:T}(r:Ready td d B (.cons h t)):Ready td d B h:=by
 refine hG ?_;intro PP
 obtain⟨⟨n,V,P,i,a,b⟩,c,z⟩:=r
 exact⟨⟨n,V,P,MO i,a,b⟩,c.1,by have z:d+4*((fQ h B).n+(fQ t B).n+1)<=1000000:=z;exact Z7 z⟩
theorem Ready.tl{h t:T}(r:Ready td d B (.cons h t)):Ready td d B t:=by
 refine hG ?_;intro PP
 obtain⟨⟨n,V,P,i,a,b⟩,c,z⟩:=r
 exact⟨⟨n,V,P,JZ i,a,b⟩,c.2,by have z:d+4*((fQ h B).n+(fQ t B).n+1)<=1000000:=z;exact Z7 z⟩
theorem Ready.wf{t:T}(r:Ready td d B t):t.wf:=eE r.iv λ_ Z=>eE Z λ_ Z=>eE Z λ_ Z=>aE Z λi _=>i.w
theorem Mc{e:Ad}{x0 x3 x4 x5:Option AV}{Ee:US->Prop}(hR:Runs td (n+1))(as:T):∀{G:Gw} {st:St} {U:US} {M:Nat} {acc:List AV} {QQ:List AV->US->Prop},as.Zw=false->Ready td d B as->EA td G d B e->YY w td G (k+3*(fQ as B).n) st U->
 2*(fQ as B).n+mu st+40<=n+3->mu st+(fQ as B).n<=M->Om w td G k M (Pl.ZQ (fQ as B).ds st) (λys U'=>QQ (acc++ys) U') Ee->
 Zo (λY K U2=>K true U2) (λx K U2=>ZB [5] x [x0,some (.ref e),some (.ref w.so),x3,x4,x5] λL'=>ZK (Z8 (n+2)) Ee mZ L' K U2) (toN as).ZS acc QQ U:=by
 induction as with
 |nil=>
  intro G st U M acc QQ Y Y hE h Y hM q
  have:QQ (acc++[]) U:=q G U [] .refl h rfl hM
  rw[cB]at this;exact this
 |cons a t _ ih=>
  intro G st U M acc QQ Y r hE h hn hM q
  have rw:=r.wf
  have ha:=rw.1.1
  obtain⟨ca,mY⟩:∃c,(fQ a B).n=c:=⟨_,rfl⟩
  obtain⟨ct,mX⟩:∃c,(fQ t B).n=c:=⟨_,rfl⟩
  have h:YY w td G (k+3*((fQ a B).n+(fQ t B).n+1)) st U:=h
  have hn:2*((fQ a B).n+(fQ t B).n+1)+mu st+40<=n+3:=hn
  have hM:mu st+((fQ a B).n+(fQ t B).n+1)<=M:=hM
  have q:Om w td G k M (Pl.ZQ ((fQ a B).ds++(fQ t B).ds) st) (λys U'=>QQ (acc++ys) U') Ee:=q
  rw[Pl.Yc ha]at q
  have q:Om w td G k M ((Pl.ff (Pl.one (fQ a B).ds) st).bind λv st=>(Pl.ZQ (fQ t B).ds st).bind λvs st=>.ok (v::vs) st) (λys U'=>QQ (acc++ys) U') Ee:=q
  show Zo _ _ ((toN a).ZS++(toN t).ZS) acc QQ U
  rw[(ZP (toN_E ha)).1]
  rw[show k+3*((fQ a B).n+(fQ t B).n+1)=k+3*(fQ t B).n+1+3*(fQ a B).n+2 by simp+arith only]at h
  rw[mY]at hn hM
  rw[mX]at hn hM
  refine⟨rfl,HL (o:=Pl.one (fQ a B).ds st) (k:=k+3*(fQ t B).n+1) (M:=mu st+ca) (λQ q=>hR ha r.hd hE h (by rw[mY];exact Z7 hn) (by rw[mY];exact cO _) q) ?_⟩
  have e:Pl.ff (Pl.one (fQ a B).ds) st=(Pl.one (fQ a B).ds st).bind RM:=rfl
  rw[e]at q
  induction o:(Pl.one (fQ a B).ds st).bind RM using jK with
  |er e st=>rw[o]at q;exactλU' z hm=>q U' z (c7 hm (Z7 hM))
  |ok v st1=>
   rw[o]at q
   intro G' U' x g h' hx hm
   have q:Om w td G k M ((Pl.ZQ (fQ t B).ds st1).bind λvs st=>.ok (v::vs) st) (λys U'=>QQ (acc++ys) U') Ee:=q
   have h':YY w td G' (k+3*(fQ t B).n) st1 U':=let⟨z1,z2,z3,z4⟩:=h';⟨Zx1 z1,z2,z3,z4⟩
   refine ih (M:=M-1) rw.2.1 r.tl (hE.mono g) h' (by rw[mX];exact Z7 hn (Z7 hm)) (by rw[mX];exact Z7 hm (Z7 hM (Z7 (KJ M 1)))) ?_
   induction o2:Pl.ZQ (fQ t B).ds st1 using jK with
   |er e st=>rw[o2]at q;exactλU' z hm=>q U' z (c7 hm (Zv0 _ _))
   |ok vs st2=>
    rw[o2]at q
    intro G2 U2 xs g2 h2 l hm2
    have:QQ (acc++(x::xs)) U2:=q G2 U2 (x::xs) (g.trans g2) h2 (.cons (hx.mono g2.i (tX g2 h' h2)) l) (by show mu st2+(vs.length+1)<=M;exact cD hm2 (LU (Z7 hM):M-1+1<=M))
    rw[cz];exact this
 |_=>exactλh=>Wf h
end
structure TU(w:EW)(td:Ad->Option Ad)(G:Gw)(k M:Nat)(st:St)(U:US)(n:Nat)(t:T)(B:Env)(d:Nat)(e:Ad)(Q:fP)(E:US->Prop):Prop where
 ie:t.Zw=true
 r:Ready td d B t
 hE:EA td G d B e
 h:YY w td G (k+3*(fQ t B).n+2) st U
 n:2*(fQ t B).n+mu st+40<=n
 m:mu st+(fQ t B).n<=M
 q:fK w td G k M (Pl.one (fQ t B).ds st) Q E
def fj(w:EW)(U:US)(n:Nat)(t:T)(e:Ad)(Q:fP)(E:US->Prop):Prop:=Z8 n 66 [(toN t).av,.ref e,.ref w.so] Q E U
theorem Runs.of(h:∀{w G k M st U t B d e Q E},TU w td G k M st U n t B d e Q E->fj w U n t e Q E):Runs td n:=λa b c d e f g=>h ⟨a,b,c,d,e,f,g⟩
noncomputable def mW:S:=lR.Z5.Z5
section
variable{w:EW}{td:Ad->Option Ad}{G G':Gw}{k n d M:Nat}{st st':St}{U U':US}{Q:fP}{E:US->Prop}{B:Env}{es:List (Int×AV)}{e:Ad}
theorem YY.lo(h:YY w td G k st U)(l:k'<=k):YY w td G k' st U:=let⟨a,b,c,d⟩:=h;⟨c7 l a,b,c,d⟩
theorem YN(h:YY w td G (k+1) st U)(q:∀U',YY w td G k st U'->Bx (wpS (Z8 n) mW (YC Q) (Y8 E) (xK.loc [node,.ref e,.ref w.so]) U')):Z8 (n+1) 66 [node,.ref e,.ref w.so] Q E U:=by
 obtain @⟨lf,made,ev,hk,hm,hs,hb⟩:=h
 induction lf using jN with
 |zero=>exact absurd hk (Zu8 _)
 |succ lf=>
  refine go (YU hs λz hz=>YU hs ⟨cL rfl,?_⟩)
  rw[show z=.ofNat lf by rw[hz];show((lf+1:Nat):Int)-1=(lf:Int);exact Zs4 (lf:Int) 1]
  exact YU Z_ (q _ ⟨Zy1 hk,hm,Z_,hb.so hs⟩)
theorem tW(h:VA td ids k v x)(ht:WG td U)(q:K false):LG x (.g 26) K U:=by
 unfold LG
 refine⟨rfl,h.el (P:=λY x=>match x with|.g x=>(U_ x).isSome=true/\K (cZ x 26)|.ref x=>(U x).isSome=true/\K false|.int _=>K false|.bool _=>K false|.lst _=>K false|_=>False) (λY=>q) (λY=>q) ⟨rfl,q⟩ ⟨rfl,q⟩ (λa Z=>eE Z λd e=>⟨by rw[(ht a d e).1];rfl,q⟩) λY Y Y Y Y Y Y Y Y Y=>q⟩
theorem Mb(h:YY w td G (k+1) st U)(he:G.F e=some (.di es))(hg:Zr es (.ofNat f)=some (.ref a))(q:∀U',YY w td G k st U'->∃x,U' a=some (.list [x])/\(∀{K:Bool->Prop},K false->LG x (.g 26) K U')/\Q x U'):Z8 (n+1) 66 [.inst 4 [fO f],.ref e,.ref w.so] Q E U:=
 YN h λU' h'=>by
  refine hG ?_;intro PP
  obtain⟨x,q1,q2,q3⟩:=q U' h'
  have eU:=h'.b.f _ _ he
  refine⟨Z4 ?_⟩
  refine⟨rfl,Z4 ?_⟩
  exact⟨rfl,Z3 eU (XZ hg (ZJ q1 (q2 ⟨Z3 eU (XZ hg (ZJ q1 q3))⟩)))⟩
theorem HK(h:YY w td G (k+1) st U)(q:∀id U',YY w td G k st U'->Q (.lst [.str 55,.inst 9 fs,.ref e,fO id]) U'):Z8 (n+3) 65 [.inst 9 fs,.ref e,.ref w.so] Q E U:=
 go ⟨rfl,YN h λU1 h1=>by
  refine⟨Z4 ?_⟩
  refine⟨rfl,Z4 ?_⟩
  refine⟨rfl,⟨Z4 ?_⟩⟩
  refine⟨rfl,⟨Z4 ?_⟩⟩
  refine⟨rfl,Z4 ?_⟩
  refine⟨rfl,⟨Z4 ?_⟩⟩
  refine⟨rfl,rfl,HW (cL rfl) h1 λm U2 Y h2 Y=>?_⟩
  exact Z4 ⟨q m U2 h2⟩⟩
end
section
variable{w:EW}{td:Ad->Option Ad}{G G':Gw}{k n d M:Nat}{st st':St}{U U':US}{Q:fP}{E:US->Prop}{B:Env}{es:List (Int×AV)}{e:Ad}{ts:T}
theorem Vd{t:T}(h:t.Zw=false)(l:cZ t.len 0=true):t=.nil:=by
 induction t using jT with
 |nil=>rfl
 |cons a b=>exact Zv l
 |_=>exact Wf h
theorem Xx{t:T}{m:Nat}(h:t.Zw=false)(l:cZ t.len (m+1)=true):∃a b,t=.cons a b/\cZ b.len m=true:=by
 induction t using jT with
 |nil=>exact Zv l
 |cons a b=>exact⟨a,b,rfl,l⟩
 |_=>exact Wf h
theorem HJ(h:CV (tx td) (vc v)):VA td ids k v (vc v):=by
 induction v using jW with
 |text a=>exact⟨rfl,h⟩
 |int|bool|empty=>rfl
 |_=>exact Zr7 h
theorem DY{v:fL}(H:TU w td G k M st U (n+1) (.node (.const v) ts) B d e Q E):fj w U (n+1) (.node (.const v) ts) e Q E:=by
 obtain⟨_,r,_,h,_,m,q⟩:=H
 have e0:=Vd r.wf.2.1 r.wf.1
 subst e0
 refine YN h λU' h'=>?_
 refine⟨Z4 ⟨rfl,?_⟩⟩
 exact q G U' _ .refl (h'.lo (bZ (cR _ _))) (.inl (HJ r.cs.1)) (c7 (cR _ _) m)
theorem tV{x:Nat}(H:TU w td G k M st U (n+1) (.node (.loc x) ts) B d e Q E):fj w U (n+1) (.node (.loc x) ts) e Q E:=by
 refine hG ?_;intro PP
 obtain⟨_,r,⟨es,fe,se⟩,h,_,m,q⟩:=H
 have e0:=Vd r.wf.2.1 r.wf.1
 subst e0
 refine hG ?_;intro PP
 obtain⟨n0,V,P,i,hV,_⟩:=r.iv
 obtain⟨l,hl⟩:=hV x (i.sc.1 x rfl)
 obtain⟨a,g1,g2⟩:∃a,Zr es (.ofNat x)=some (.ref a)/\G.cm[l]?=some a:=by cases se with|mk W _ b=>exact b x l hl
 have q:fK w td G k M (match(B x)with|some (.cell l)=>.ok (st.cells.getD l .empty) st|_=>.er .stuck st) Q E:=q
 rw[hl]at q
 refine Mb h fe g1 λU' h'=>?_
 refine hG ?_;intro PP
 obtain⟨y,v,u1,c1,hv⟩:=h'.b.c.cl l a g2
 have q:fK w td G k M (.ok (st.cells.getD l .empty) st) Q E:=q
 rw[aj,c1]at q
 exact⟨y,u1,tW hv h'.b.GR,q G U' y .refl (h'.lo (bZ (cR _ _))) (.inl hv) (c7 (cR _ _) m)⟩
theorem Om.of(le:M1<=M)(q:fK w td G k M (o.bind f) Q E)(t:∀vs st' G' U' ys,o=.ok vs st'->Ui G G'->YY w td G' k1 st' U'->VL td G'.ids st'.np vs ys->mu st'+vs.length<=M1->fK w td G' k M (f vs st') Q E->R ys U'):Om w td G k1 M1 o R E:=by
 induction o using jK with
 |er e st=>exactλU' z hm=>q U' z (c7 hm le)
 |ok vs st=>exactλG' U' ys g h l hm=>t vs st G' U' ys rfl g h l hm (fK.le g q)
theorem PR.of(le:M1<=M)(q:fK w td G k M (o.bind f) Q E)(t:∀v st' G' U' y,Ui G G'->YY w td G' k1 st' U'->VA td G'.ids st'.np v y->mu st'<=M1->fK w td G' k M (f v st') Q E->R y U'):PR w td G k1 M1 o R E:=by
 induction o using jK with
 |er e st=>exactλU' z hm=>q U' z (c7 hm le)
 |ok vs st=>exactλG' U' ys g h l hm=>t vs st G' U' ys g h l hm (fK.le g q)
theorem KU(op:Op):Zr Wy (.ofNat (C4 op))=some (.str (TV op)):=by induction op using jJ<;>rfl
theorem yU(R1:Runs td (n+2))(H:TU w td G k M st U (n+4) (.node (.prim op) ts) B d e Q E):fj w U (n+4) (.node (.prim op) ts) e Q E:=by
 obtain⟨_,r,hE,h,hn,m,q⟩:=H
 have wf:=r.wf
 have rt:Ready td d B ts:=eE r.iv λn0 Z=>eE Z λV Z=>eE Z λP Z=>aE Z λi Z=>aE Z λa b=>⟨⟨n0,V,P,i.part i.sc.2 wf.2.2 λY=>cO _,a,b⟩,r.cs.2,r.d⟩
 have hn:2*(fQ ts B).n+mu st+40<=n+4:=hn
 refine YN h λU' h'=>?_
 refine⟨Z4 ?_⟩
 refine⟨rfl,Z4 ?_⟩
 refine⟨rfl,⟨Z4 ?_⟩⟩
 refine⟨rfl,⟨Z4 ?_⟩⟩
 refine⟨rfl,?_⟩
 obtain @⟨lf,made,ev,_,_,hs,hb⟩:=id h'
 refine YU hs (Z3 hb.gP (XZ (KU op) (Mc (M:=M) R1 ts wf.2.1 rt hE (h'.lo (bH _)) (hn) m (Om.of (cO _) q λvs st' G2 U2 ys eo g2 h2 l2 hm2 q2=>⟨rfl,yY (M:=M) h2 l2 ?_ hm2 q2⟩))))
 rw[Pl.WL _ _ eo,Pl.M3 wf.2.1 wf.2.2];exact wf.1
end
noncomputable def mV:S:=mW.Z5.Z5.Z5
noncomputable def gJ:S:=mV.Z5.Z5.Z5.Z5
section
variable{w:EW}{td:Ad->Option Ad}{G G':Gw}{k n d M:Nat}{st st':St}{U U':US}{Q:fP}{E:US->Prop}{B:Env}{es:List (Int×AV)}{e:Ad}{ts:T}
section
variable{C:ZV}{QQ:ZD}{EE:Loc->US->Prop}{c:Nat}{fs:List AV}{args:List AV}
theorem w6(hc:fM c=true)(a:([3].any λk=>Zh k (Xp c))=false)(b:([4].any λk=>Zh k (Xp c))=false)(d:([10].any λk=>Zh k (Xp c))=false)(q:Bx (wpS C mV QQ EE (xK.loc (.inst c fs::args)) U)):Bx (wpS C mW QQ EE (xK.loc (.inst c fs::args)) U):=by
 refine⟨Z4 ?_⟩
 refine⟨hc,Z2 a (Z4 ?_)⟩
 refine⟨hc,Z2 b ⟨Z4 ?_⟩⟩
 exact⟨hc,Z2 d q⟩
theorem ro(hc:fM c=true)(a:([12].any λk=>Zh k (Xp c))=false)(b:([8].any λk=>Zh k (Xp c))=false)(d:([9].any λk=>Zh k (Xp c))=false)(d':([11].any λk=>Zh k (Xp c))=false)(q:Bx (wpS C gJ QQ EE (xK.loc (.inst c fs::args)) U)):Bx (wpS C mV QQ EE (xK.loc (.inst c fs::args)) U):=by
 refine⟨Z4 ?_⟩
 refine⟨hc,Z2 a (Z4 ?_)⟩
 refine⟨hc,Z2 b ⟨Z4 ?_⟩⟩
 refine⟨hc,Z2 d (Z4 ?_)⟩
 exact⟨hc,Z2 d' q⟩
end
theorem Ready.kids{h:Hd}(r:Ready td d B (.node h ts))(hh:UH h (toN ts)=toN ts):Ready td d B ts:=by
 refine hG ?_;intro PP
 obtain⟨n0,V,P,i,a,b⟩:=r.iv
 exact⟨⟨n0,V,P,i.part i.sc.2 i.w.2.2 λY=>cO _,a,b⟩,by have:=r.cs.2;rwa [hh]at this,c7 (aP (aX 4 (cR _ h.w)) d) r.d⟩
theorem VB{x y z:List Pl.D}{d:Pl.D}(h:x=[d])(k:y=z):x++y=d::z:=by rw[h,k];rfl
theorem TS{t:T}{k1:Nat}(R:Runs td (n+1))(ie:t.Zw=true)(r:Ready td d B t)(hE:EA td G d B e)(h:YY w td G (k1+3*(fQ t B).n+2) st U)(hn:2*(fQ t B).n+mu st+40<=n+1)(q:PR w td G k1 (mu st+(fQ t B).n) (Pl.ff (Pl.one (fQ t B).ds) st) Q E):Z8 (n+2) 65 [(toN t).av,.ref e,.ref w.so] Q E U:=
 HL (λY q=>R ie r hE h hn (cO _) q) q
theorem tU(R1:Runs td (n+2))(R2:Runs td (n+3))(H:TU w td G k M st U (n+4) (.node .ite ts) B d e Q E):fj w U (n+4) (.node .ite ts) e Q E:=by
 obtain⟨_,r,hE,h,hn,m,q⟩:=H
 have wf:=r.wf
 have rt:=r.kids rfl
 obtain⟨a,t1,rfl,l1⟩:=Xx wf.2.1 wf.1
 obtain⟨b,t2,rfl,l2⟩:=Xx wf.2.2.2.1 l1
 obtain⟨c,t3,rfl,l3⟩:=Xx wf.2.2.2.2.2.1 l2
 obtain rfl:=Vd wf.2.2.2.2.2.2.2.1 l3
 have ea:=wf.2.2.1.1
 have eb:=wf.2.2.2.2.1.1
 have ec:=wf.2.2.2.2.2.2.1.1
 have yT:(fQ (.cons a (.cons b (.cons c .nil))) B).ds=[Pl.one (fQ a B).ds,Pl.one (fQ b B).ds,Pl.one (fQ c B).ds]:=VB (Pl.Yc ea B) (VB (Pl.Yc eb B) (VB (Pl.Yc ec B) rfl))
 have q:fK w td G k M (Pl.sem .ite none (fQ (.cons a (.cons b (.cons c .nil))) B).ds st) Q E:=q
 rw[yT]at q
 have hn:2*((fQ a B).n+((fQ b B).n+((fQ c B).n+0+1)+1)+1)+mu st+40<=n+4:=hn
 have m:mu st+((fQ a B).n+((fQ b B).n+((fQ c B).n+0+1)+1)+1)<=M:=m
 have h:YY w td G (k+3*((fQ a B).n+((fQ b B).n+((fQ c B).n+0+1)+1)+1)+2) st U:=h
 have av:(toN (.node .ite (.cons a (.cons b (.cons c .nil))))).av=.inst 8 [(toN a).av,(toN b).av,(toN c).av]:=by
  show AV.inst 8 ((toN a).ZS++((toN b).ZS++((toN c).ZS++[])))=_
  rw[(ZP (toN_E ea)).1,(ZP (toN_E eb)).1,(ZP (toN_E ec)).1];rfl
 unfold fj
 rw[av]
 have ar:∀x y z μ Ti n k M:Nat,2*(x+(y+(z+0+1)+1)+1)+μ+40<=n+4->μ+(x+(y+(z+0+1)+1)+1)<=M->Ti<=μ+x->(2*x+μ+40<=n+2/\k+3*(y+z)+2+3*x+2<=k+3*(x+(y+(z+0+1)+1)+1)+1)/\(2*y+Ti+40<=n+3/\Ti+y<=M/\k+3*y+2<=k+3*(y+z)+2)/\(2*z+Ti+40<=n+3/\Ti+z<=M/\k+3*z+2<=k+3*(y+z)+2):=λY Y Y Y Y Y Y Y h1 h2 h3=>⟨⟨Z7 h1,by simp+arith only⟩,⟨⟨Z7 h1 (Z7 h3),⟨Z7 h3 (Z7 h2),by simp+arith only⟩⟩,⟨Z7 h1 (Z7 h3),⟨Z7 h3 (Z7 h2),by simp+arith only⟩⟩⟩⟩
 have Vb:=ar _ _ _ _ _ _ k _ hn m (cR _ _)
 refine YN h λU' h'=>w6 rfl rfl rfl rfl ?_
 refine⟨Z4 ?_⟩
 refine⟨rfl,Z4 ?_⟩
 refine⟨rfl,rfl,TS R1 ea rt.hd hE (h'.lo Vb.1.2) Vb.1.1 (PR.of (Z7 m) q λv st' G2 U2 y g2 h2 hv hm q2=>?_)⟩
 have Ol:=ar _ _ _ _ _ _ k _ hn m hm
 have yes:fK w td G2 k M (Pl.one (fQ b B).ds st') Q E->Z8 (n+3) 66 [(toN b).av,.ref e,.ref w.so] Q E U2:=R2 eb rt.tl.hd (hE.mono g2) (h2.lo Ol.2.1.2.2) Ol.2.1.1 Ol.2.1.2.1
 have no:fK w td G2 k M (Pl.one (fQ c B).ds st') Q E->Z8 (n+3) 66 [(toN c).av,.ref e,.ref w.so] Q E U2:=R2 ec rt.tl.tl.hd (hE.mono g2) (h2.lo Ol.2.2.2.2) Ol.2.2.1 Ol.2.2.2.1
 have tb:=Cm v
 induction pb:y9 v using jB with
 |false=>
  rw[pb]at tb
  exact hv.ty h2.b.GR (Z2 tb ⟨rfl,yes (by induction v using jW<;>first|exact q2|exact Wf pb)⟩)
 |true=>
  induction v using jW with
  |bool b=>
   rw[show y=.bool b from hv]
   induction b using jB with
   |true=>exact Z4 ⟨rfl,yes q2⟩
   |false=>exact Z4 ⟨rfl,no q2⟩
  |_=>exact Zv pb
end
section
variable{w:EW}{td:Ad->Option Ad}{G G':Gw}{k n d M:Nat}{st st':St}{U U':US}{Q:fP}{E:US->Prop}{B:Env}{es:List (Int×AV)}{e:Ad}{ts:T}
theorem tT(R1:Runs td (n+3))(H:TU w td G k M st U (n+4) (.node .seq ts) B d e Q E):fj w U (n+4) (.node .seq ts) e Q E:=by
 obtain⟨_,r,hE,h,hn,m,q⟩:=H
 have wf:=r.wf
 have rt:=r.kids rfl
 obtain⟨a,t1,rfl,l1⟩:=Xx wf.2.1 wf.1
 obtain⟨b,t2,rfl,l2⟩:=Xx wf.2.2.2.1 l1
 obtain rfl:=Vd wf.2.2.2.2.2.1 l2
 have ea:=wf.2.2.1.1
 have eb:=wf.2.2.2.2.1.1
 have yT:(fQ (.cons a (.cons b .nil)) B).ds=[Pl.one (fQ a B).ds,Pl.one (fQ b B).ds]:=VB (Pl.Yc ea B) (VB (Pl.Yc eb B) rfl)
 have q:fK w td G k M (Pl.sem .seq none (fQ (.cons a (.cons b .nil)) B).ds st) Q E:=q
 rw[yT]at q
 have q:fK w td G k M ((Pl.one (fQ a B).ds st).bind λY st=>Pl.one (fQ b B).ds st) Q E:=q
 have av:(toN (.node .seq (.cons a (.cons b .nil)))).av=.inst 11 [.lst [(toN a).av,(toN b).av]]:=by
  show AV.inst 11 [.lst ((toN a).ZS++((toN b).ZS++[]))]=_
  rw[(ZP (toN_E ea)).1,(ZP (toN_E eb)).1];rfl
 unfold fj
 rw[av]
 have ar:∀x y μ Ti n k M:Nat,2*(x+(y+0+1)+1)+μ+40<=n+4->μ+(x+(y+0+1)+1)<=M->Ti<=μ+x->(2*x+μ+40<=n+3/\k+3*y+2+3*x+2<=k+3*(x+(y+0+1)+1)+1/\μ+x<=M)/\(2*y+Ti+40<=n+3/\Ti+y<=M):=λY Y Y Y Y Y Y h1 h2 h3=>⟨⟨Z7 h1,⟨by simp+arith only,Z7 h2⟩⟩,⟨Z7 h1 (Z7 h3),Z7 h3 (Z7 h2)⟩⟩
 have Vb:=ar _ _ _ _ _ k _ hn m (cR _ _)
 refine YN h λU' h'=>w6 rfl rfl rfl rfl ?_
 refine⟨Z4 ?_⟩
 refine⟨rfl,Z4 ?_⟩
 refine⟨rfl,⟨Z4 ?_⟩⟩
 refine⟨rfl,Z4 ?_⟩
 refine⟨rfl,λzs hz=>?_⟩
 rw[show zs=[(toN a).av]from hz]
 refine⟨rfl,R1 (k:=k+3*(fQ b B).n+2) (M:=mu st+(fQ a B).n) ea rt.hd hE (h'.lo Vb.1.2.1) Vb.1.1 (cO _) ?_⟩
 induction o:Pl.one (fQ a B).ds st using jK with
 |er e st=>rw[o]at q;exactλU' z hm=>q U' z (c7 hm Vb.1.2.2)
 |ok v st1=>
  rw[o]at q
  intro G2 U2 x g2 h2 Y hm
  have Ol:=ar _ _ _ _ _ k _ hn m hm
  exact⟨rfl,R1 eb rt.tl.hd (hE.mono g2) h2 Ol.2.1 Ol.2.2 (fK.le g2 q)⟩
theorem YY.y_(h:YY w td G k st U)(hl:G.cm[l]?=some a)(hv:VA td G.ids st.np v x):YY w td G k {st with cells:=st.cells.set l v} (Mine.Internal.upd U a (some (.list [x]))):=by
 refine hG ?_;intro PP
 obtain⟨h1,h2,h3,h4⟩:=h
 obtain⟨y,_,u,_⟩:=h4.c.cl l a hl
 exact⟨h1,h2,(Z9 (ZI h3 u (xO · rfl))).trans h3,h4.y_ hl hv⟩
theorem YY.trace(h:YY w td G k st U)(hv:Good td st.np v):YY w td G k {st with trace:=st.trace++[(s,v)]} (Mine.Internal.upd U w.tr (some (.list (za st.trace++[.tup [fO s,s1 v]])))):=by
 refine hG ?_;intro PP
 obtain⟨h1,h2,h3,h4⟩:=h
 exact⟨h1,h2,(Z9 (ZI h3 h4.tr (xO · rfl))).trans h3,h4.trace hv⟩
theorem YY.glob{x y:AV}{a b:fL}(h:YY w td G k st U)(ha:VA td G.ids st.np a x)(hb:VA td G.ids st.np b y):YY w td G k {st with g1:=a,g2:=b} (Mine.Internal.upd U w.gl (some (.di (HZ x y)))):=by
 refine hG ?_;intro PP
 obtain⟨h1,h2,h3,h4⟩:=h
 obtain⟨_,_,g,_⟩:=h4.gl
 exact⟨h1,h2,(Z9 (ZI h3 g (xO · rfl))).trans h3,h4.glob ha hb⟩
theorem tR(hh:UH h (toN ts)=toN ts)(r:Ready td d B (.node h ts))(l:cZ ts.len 1=true):∃a,ts=.cons a .nil/\a.Zw=true/\Ready td d B a/\(fQ ts B).ds=[Pl.one (fQ a B).ds]/\(toN ts).ZS=[(toN a).av]:=by
 have wf:=r.wf
 have rt:=r.kids hh
 obtain⟨a,t1,rfl,l1⟩:=Xx wf.2.1 l
 obtain rfl:=Vd wf.2.2.2.1 l1
 have ea:=wf.2.2.1.1
 refine⟨a,rfl,ea,rt.hd,VB (Pl.Yc ea B) rfl,?_⟩
 show(toN a).ZS++[]=_
 rw[(ZP (toN_E ea)).1];rfl
theorem yS(R1:Runs td (n+1))(H:TU w td G k M st U (n+4) (.node (.YG x) ts) B d e Q E):fj w U (n+4) (.node (.YG x) ts) e Q E:=by
 refine hG ?_;intro PP
 obtain⟨_,r,hE,h,hn,m,q⟩:=H
 obtain⟨n0,V,P,i,hV,_⟩:=r.iv
 obtain⟨l,hl⟩:=hV x (i.sc.1 x rfl)
 obtain⟨a,rfl,ea,ra,yT,mU⟩:=tR rfl r r.wf.1
 dsimp only[PP]
 have q:fK w td G k M ((Pl.ff (Pl.one (fQ (.cons a .nil) B).ds) st).bind λv st=>match B x with|some (.cell l)=>.ok .XY {st with cells:=st.cells.set l v}|_=>.er .stuck st) Q E:=q
 rw[yT,hl]at q
 unfold fj
 rw[show(toN (.node (.YG x) (.cons a .nil))).av=.inst 6 (fO x::(toN (.cons a .nil)).ZS)from rfl,mU]
 have ar:∀x μ n k M:Nat,2*(x+0+1+1)+μ+40<=n+4->μ+(x+0+1+1)<=M->(2*x+μ+40<=n+1/\k+3*x+2<=k+3*(x+0+1+1)+1)/\μ+x<=M:=λY Y Y Y Y h1 h2=>⟨⟨Z7 h1,by simp+arith only⟩,Z7 h2⟩
 have Vb:=ar _ _ _ k _ hn m
 refine hG ?_;intro PP
 obtain⟨es,fe,se⟩:=hE
 obtain⟨c,c1,c2⟩:∃a,Zr es (.ofNat x)=some (.ref a)/\G.cm[l]?=some a:=by cases se with|mk W _ b=>exact b x l hl
 refine YN h λU' h'=>w6 rfl rfl rfl rfl (ro rfl rfl rfl rfl rfl ⟨⟨rfl,go (Z4 ?_)⟩⟩)
 refine⟨rfl,⟨Z4 ?_⟩⟩
 refine⟨rfl,rfl,TS R1 ea ra ⟨es,fe,se⟩ (h'.lo Vb.1.2) Vb.1.1 (PR.of (Vb.2) q λv st' G2 U2 y g2 h2 hv hm q2=>?_)⟩
 refine hG ?_;intro PP
 obtain⟨y0,_,u0,_⟩:=h2.b.c.cl l c (g2.c _ _ c2)
 exact Z3 (h2.b.f _ _ (g2.f _ _ fe)) (XZ c1 (ZJ u0 ⟨Nat.one_pos,q2 G2 _ _ .refl (h2.y_ (g2.c _ _ c2) hv) (.inl rfl) (c7 hm Vb.2)⟩))
theorem YY.ds(h:YY w td G k st U):∃lf made ev,U w.so=some (.ds (zc w lf made ev)):=h.rec λY Y a Y=>⟨_,_,_,a⟩
theorem yR(hL:n<=1000)(R1:Runs td (n+1))(H:TU w td G k M st U (n+4) (.node (.setG s) ts) B d e Q E):fj w U (n+4) (.node (.setG s) ts) e Q E:=by
 obtain⟨_,r,hE,h,hn,m,q⟩:=H
 obtain⟨gs,l1⟩:=cN.mp r.wf.1
 obtain⟨a,rfl,ea,ra,yT,mU⟩:=tR rfl r l1
 have q:fK w td G k M ((Pl.ff (Pl.one (fQ (.cons a .nil) B).ds) st).bind λv st=>Pl.wk s v st) Q E:=q
 rw[yT]at q
 unfold fj
 rw[show(toN (.node (.setG s) (.cons a .nil))).av=.inst 7 (fO s::(toN (.cons a .nil)).ZS)from rfl,mU]
 have ar:∀x μ Ti n k M:Nat,2*(x+0+1+1)+μ+40<=n+4->μ+(x+0+1+1)<=M->Ti<=μ+x->(2*x+μ+40<=n+1/\k+3*x+2<=k+3*(x+0+1+1)+1/\μ+x<=M)/\Ti+1<=M/\Ti<=n:=λY Y Y Y Y Y h1 h2 h3=>⟨⟨Z7 h1,⟨by simp+arith only,Z7 h2⟩⟩,⟨Z7 h3 (Z7 h2),Z7 h3 (Z7 h1)⟩⟩
 have Vb:=ar _ _ _ _ k _ hn m (cR _ _)
 refine YN h λU' h'=>w6 rfl rfl rfl rfl (ro rfl rfl rfl rfl rfl ⟨⟨rfl,go (Z4 ?_)⟩⟩)
 refine⟨rfl,⟨Z4 ?_⟩⟩
 refine⟨rfl,⟨Z4 ?_⟩⟩
 refine⟨rfl,rfl,TS R1 ea ra hE (h'.lo Vb.1.2.1) Vb.1.1 (PR.of Vb.1.2.2 q λv st' G2 U2 y g2 h2 hv hm q2=>?_)⟩
 have Ol:=(ar _ _ _ _ k _ hn m hm).2
 obtain⟨_,_,_,hs⟩:=h2.ds
 refine YU hs (ZJ h2.b.tr ⟨rfl,PW h2.b.GR hv (c7 (cR _ _) (bZ Ol.2)) (ZJ h2.b.tr ⟨?_,⟨?_⟩⟩)⟩)
 ·show(za st'.trace).length<LN
  unfold za
  rw[cM,Uj]
  have:st'.np+st'.trace.length<=n:=Ol.2
  exact Z7 this (Z7 hL)
 have h3:=h2.trace (s:=s) (v:=v) ⟨_,_,hv⟩
 obtain⟨_,_,_,mT⟩:=h3.ds
 obtain⟨x1,x2,g3,v1,v2⟩:=h3.b.gl
 have mM:mu {st' with trace:=st'.trace++[(s,v)]}<=M:=by
  show st'.np+(st'.trace++[(s,v)]).length<=M
  rw[cS];exact Ol.1
 refine YU mT (Z3 g3 ?_)
 rcases b9.mp gs with e1|e1
 ·obtain rfl:=cW e1
  refine⟨Z4 ?_⟩
  refine⟨rfl,YU mT (Z3 g3 ⟨cL rfl,?_⟩)⟩
  exact q2 G2 _ _ .refl (h3.glob hv v2) (.inl rfl) mM
 rcases b9.mp e1 with e1|e1
 ·obtain rfl:=cW e1
  refine⟨Z4 ?_⟩
  refine⟨rfl,YU mT (Z3 g3 ⟨cL rfl,?_⟩)⟩
  exact q2 G2 _ _ .refl (h3.glob v1 hv) (.inl rfl) mM
 ·obtain rfl:=cW e1
  exact⟨rfl,RN h3 (e:=.VY 3) rfl trivial λU' z=>q2 U' z mM⟩
end
section
variable{w:EW}{td:Ad->Option Ad}{G G':Gw}{k n d M:Nat}{st st':St}{U U':US}{Q:fP}{E:US->Prop}{B:Env}{es:List (Int×AV)}{e:Ad}{ts as b t:T}
theorem PO(h:YY w td G k st U)(hg:U w.gl=some (.di (HZ x y)))(hv:Zr (HZ x y) (.ofNat s)=some v)(q:Q v U):Z8 (n+1) 67 [.inst 5 [fO s],.ref e,.ref w.so] Q E U:=by
 refine hG ?_;intro PP
 obtain⟨_,_,_,hs⟩:=h.ds
 refine go (Z4 ?_)
 refine⟨rfl,⟨Z4 ?_⟩⟩
 refine⟨rfl,⟨Z4 ?_⟩⟩
 refine⟨rfl,⟨YU hs (Z3 hg (Z2 (b:=!(Zr (HZ x y) (.ofNat s)).isSome) (by rw[hv];rfl) ⟨Z4 ?_⟩))⟩⟩
 exact⟨rfl,YU hs (Z3 hg (XZ hv q))⟩
theorem DX(h:YY w td G k st U)(hg:U w.gl=some (.di (HZ x y)))(hv:Zr (HZ x y) (.ofNat s)=none)(q:∀U',w7 w td (.VY s) st U'->E U'):Z8 (n+2) 67 [.inst 5 [fO s],.ref e,.ref w.so] Q E U:=by
 refine hG ?_;intro PP
 obtain⟨_,_,_,hs⟩:=h.ds
 refine go (Z4 ?_)
 refine⟨rfl,⟨Z4 ?_⟩⟩
 refine⟨rfl,⟨Z4 ?_⟩⟩
 exact⟨rfl,⟨YU hs (Z3 hg (Zu (b:=!(Zr (HZ x y) (.ofNat s)).isSome) (by rw[hv];rfl) ⟨rfl,RN h (e:=.VY s) rfl trivial q⟩))⟩⟩
theorem yQ(H:TU w td G k M st U (n+4) (.node (.glob s) ts) B d e Q E):fj w U (n+4) (.node (.glob s) ts) e Q E:=by
 refine hG ?_;intro PP
 obtain⟨_,r,_,h,_,m,q⟩:=H
 obtain⟨gs,l1⟩:=cN.mp r.wf.1
 obtain rfl:=Vd r.wf.2.1 l1
 have q:fK w td G k M (Pl.wm s st) Q E:=q
 have m:=c7 (cR _ _) m
 refine YN h λU' h'=>w6 rfl rfl rfl rfl (ro rfl rfl rfl rfl rfl ⟨⟨rfl,?_⟩⟩)
 have h0:=h'.lo (bZ (cR k _))
 refine hG ?_;intro PP
 obtain⟨x1,x2,g3,v1,v2⟩:=h'.b.gl
 rcases b9.mp gs with e1|e1
 ·obtain rfl:=cW e1
  exact PO h' g3 rfl (q G U' _ .refl h0 (.inl v1) m)
 rcases b9.mp e1 with e1|e1
 ·obtain rfl:=cW e1
  exact PO h' g3 rfl (q G U' _ .refl h0 (.inl v2) m)
 ·obtain rfl:=cW e1
  exact DX h' g3 rfl λU' z=>q U' z m
theorem DW(l:VL td ids k vs xs)(hl:vs.length<1000)(q:∀x,VM td ids k (match vs with|[x]=>x|l=>fL.ofList l) x->Q x U):Z8 (n+1) 64 [.lst [.str 53],.lst xs,so] Q E U:=by
 have cat:∀{vs:List fL} {xs:List AV},cZ xs.length 1=false->1+xs.length<=LN->Q (.lst (.str 40::xs)) U->Z8 (n+1) 64 [.lst [.str 53],.lst xs,so] Q E U:=λ{vs xs} e l q=>go (Z4 (Z2 (b:=cZ xs.length 1) e ⟨l,q⟩))
 have ll:=l.len
 induction vs using jL with
 |nil=>rw[show xs=[]from l]at ll⊢;exact cat (vs:=[]) rfl (by rw[Uj];exact cL rfl) (q _ (.inr ⟨[],[],rfl,rfl,rfl,hl⟩))
 |cons v vs=>
  refine hG ?_;intro PP
  obtain⟨y,ys,e,a,l'⟩:=l
  dsimp only[PP]
  induction vs using jL with
  |nil=>rw[e,show ys=[]from l'];exact go (Z4 (q _ (.inl a)))
  |cons v' vs=>
   refine hG ?_;intro PP
   obtain⟨y',ys',e',a',l''⟩:=l'
   dsimp only[PP]
   rw[e,e']
   refine cat (vs:=[]) rfl (by rw[<-e',<-e,ll,Uj];exact Z7 hl) (q _ (.inr ⟨v::v'::vs,y::y'::ys',rfl,rfl,.cons a (.cons a' l''),hl⟩))
end
section
variable{w:EW}{td:Ad->Option Ad}{G G':Gw}{k n d M:Nat}{st st':St}{U U':US}{Q:fP}{E:US->Prop}{B:Env}{es:List (Int×AV)}{e:Ad}{ts as b t:T}
theorem RL{k1:Nat}{f:AV}{H:AV->Prop}{g:List fL->St->Pl.e_ fL}(R1:Runs td (n+2))(ie:as.Zw=false)(ra:Ready td d B as)(hE:EA td G d B e)(h:YY w td G (k1+3*(fQ as B).n+1+1) st U)(hn:2*(fQ as B).n+mu st+40<=n+4)
 (hw:∀{Q:fP} {U1:US},YY w td G (k1+3*(fQ as B).n+1) st U1->(∀hd U',YY w td G (k1+3*(fQ as B).n) st U'->H hd->Q hd U')->Z8 (n+3) 65 [f,.ref e,.ref w.so] Q E U1)
 (le:mu st+(fQ as B).n<=M) (q:fK w td G k M ((Pl.ZQ (fQ as B).ds st).bind g) Q E)
 (hc:∀{hd vs ys st' G' U'},H hd->Pl.ZQ (fQ as B).ds st=.ok vs st'->Ui G G'->YY w td G' k1 st' U'->VL td G'.ids st'.np vs ys->mu st'+vs.length<=mu st+(fQ as B).n->fK w td G' k M (g vs st') Q E->Z8 (n+3) 64 [hd,.lst ys,.ref w.so] Q E U'):
 Z8 (n+4) 66 [.inst 10 [f,.lst (toN as).ZS],.ref e,.ref w.so] Q E U:=by
 refine YN h λU' h'=>?_
 refine⟨Z4 ?_⟩
 refine⟨rfl,Z4 ?_⟩
 refine⟨rfl,⟨Z4 ?_⟩⟩
 refine⟨rfl,rfl,hw h' λhd U2 h2 hh=>?_⟩
 refine Mc (M:=mu st+(fQ as B).n) R1 as ie ra hE h2 hn (cO _) (Om.of le q λvs st' G2 U3 ys eo g2 h3 l hm q2=>?_)
 exact⟨rfl,hc hh eo g2 h3 l hm q2⟩
theorem DV(hL:n<=900)(R1:Runs td (n+2))(H:TU w td G k M st U (n+4) (.node .X3 ts) B d e Q E):fj w U (n+4) (.node .X3 ts) e Q E:=by
 refine hG ?_;intro PP
 obtain⟨_,r,hE,h,hn,m,q⟩:=H
 have wf:=r.wf
 have rt:Ready td d B ts:=eE r.iv λn0 Z=>eE Z λV Z=>eE Z λP Z=>aE Z λi Z=>aE Z λa b=>⟨⟨n0,V,P,i.part i.sc.2 wf.2.2 λY=>cO _,a,b⟩,r.cs.2.2,r.d⟩
 refine RL (f:=.inst 5 [fO 4]) (H:=(·=.lst [.str 53])) R1 wf.2.1 rt hE h hn (λ{Q U1} h1 q=>?_) m q λhh eo g2 h3 l hm q2=>?_
 ·refine go ⟨rfl,YN h1 λU' h'=>w6 rfl rfl rfl rfl (ro rfl rfl rfl rfl rfl ⟨⟨rfl,?_⟩⟩)⟩
  refine hG ?_;intro PP
  obtain⟨x1,x2,g3,v1,v2⟩:=h'.b.gl
  exact PO h' g3 rfl (Z4 ⟨q _ U' h' rfl⟩)
 ·rw[hh]
  have hn:2*(fQ ts B).n+mu st+40<=n+4:=hn
  exact DW l (Z7 hm (Z7 hn (Z7 hL))) λx hx=>q2 _ _ x .refl h3 hx (c7 (c7 (cR _ _) hm) m)
theorem PN(h:b.Zw=true):(toN (.app l ps r b as)).av=.inst 10 [Vk l ps r (toN b).av,.lst (toN as).ZS]:=by
 show H.call.av ((H.lam l ps r).av (N.cons (toN b) .nil).ZS::(toN as).ZS)=_
 rw[Vj (toN_E h)];rfl
theorem yP(R:Ready td d B (.app l ps r b as)):Vp td d B ⟨l,ps,r,b⟩:=by
 refine hG ?_;intro PP
 obtain⟨⟨n0,V,P,i,a,c⟩,cs,hd⟩:=R
 refine⟨⟨n0,V,P,S8 i,a,c,λx z m=>?_⟩,i.w.1.1,i.w.1.2.2,cs.2.1.2.1,?_⟩
 ·have:=(i.k x (.inr z)).1
  have m:=bD.mpr (aR l m)
  have this:(l::bs ps r).count x+b.tc x+as.tc x=0:=this
  exact absurd (Z7 m (Z7 (cV this)):1<=0) (by decide)
 ·have hd:d+4*((fQ as B).n+((fQ b (Pl.envOf B ps r 0)).n+Pl.rr r))<=1000000:=hd
  have:=W3 (r:=r)
  show d+4*((fQ b (Pl.envOf B ps r 0)).n+1)<=1000000
  exact Z7 hd (Z7 this (Z7 this (Z7 this (Z7 this))))
theorem tQ{l:Nat}{ps:List Nat}{r:Option Nat}(R1:Runs td (n+2))(H:TU w td G k M st U (n+4) (.app l ps r b as) B d e Q E):fj w U (n+4) (.app l ps r b as) e Q E:=by
 obtain⟨_,R,hE,h,hn,m,q⟩:=H
 have ok:=yP R
 have wf:=R.wf
 have ra:Ready td d B as:=by
  obtain⟨⟨n0,V,P,i,a,c⟩,cs,hd⟩:=R
  exact⟨⟨n0,V,P,Qu i,a,c⟩,cs.2.2,c7 (aP (aX 4 (cR _ _)) d) hd⟩
 unfold fj
 rw[PN wf.1.1]
 have ar:∀x y z μ Ti n k M:Nat,2*(x+(y+z))+μ+40<=n+4->μ+(x+(y+z))<=M->Ti<=μ+x->1<=z->(2*x+μ+40<=n+4/\k+3*y+2+3*x+1+1<=k+3*(x+(y+z))+2/\μ+x<=M)/\(2*y+Ti+40<=n+2/\Ti+y<=M):=λY Y Y Y Y Y Y Y h1 h2 h3 h4=>⟨⟨Z7 h1,⟨Z7 h4 (Z7 h4),Z7 h2⟩⟩,⟨Z7 h1 (Z7 h3 (Z7 h4 (Z7 h4))),Z7 h3 (Z7 h2)⟩⟩
 have Vb:=ar _ _ _ _ _ _ k _ hn m (cR _ _) W3
 refine RL (k1:=k+3*(fQ b (Pl.envOf B ps r 0)).n+2) (M:=M) (H:=λv=>∃id,v=Uo ⟨l,ps,r,b⟩ e id) (g:=Pl.fB B ps r λB=>Pl.one (fQ b B).ds) R1 wf.2.1 ra hE (h.lo Vb.1.2.1) Vb.1.1 (λ{Q U1} h1 q=>HK h1 λid U' h'=>q _ U' h' ⟨id,rfl⟩) Vb.1.2.2 q λhh eo g2 h3 l hm q2=>?_
 have Ol:=(ar _ _ _ _ _ _ k _ hn m (c7 (cR _ _) hm) W3).2
 obtain⟨id,rfl⟩:=hh
 have gI:∀x y z μ Ti v n M:Nat,2*(x+(y+z))+μ+40<=n+4->μ+(x+(y+z))<=M->Ti+v<=μ+x->1<=z->2*y+Ti+v+40<=n+2/\Ti+v+y<=M:=λY Y Y Y Y Y Y Y h1 h2 h3 h4=>⟨Z7 h1 (Z7 h3 (Z7 h4 (Z7 h4))),Z7 h3 (Z7 h2)⟩
 have j9:=gI _ _ _ _ _ _ _ _ hn m hm W3
 exact Md R1 ok (hE.mono g2) l h3 j9.1 j9.2 q2
end
section
variable{w:EW}{td:Ad->Option Ad}{G G':Gw}{k n d M:Nat}{st st':St}{U U':US}{Q:fP}{E:US->Prop}{B:Env}{es:List (Int×AV)}{e:Ad}{ts as b t:T}
theorem DU(q:K false):LG (.lst xs) (.g 26) K U:=by unfold LG;exact⟨rfl,q⟩
theorem DT(R1:Runs td (n+2))(H:TU w td G k M st U (n+4) (.ZZ f as) B d e Q E):fj w U (n+4) (.ZZ f as) e Q E:=by
 refine hG ?_;intro PP
 obtain⟨_,R,⟨es,fe,se⟩,h,hn,m,q⟩:=H
 have wf:=R.wf
 refine hG ?_;intro PP
 obtain⟨⟨n0,V,P,i,hV,hP⟩,cs,hd⟩:=R
 obtain⟨p,c,hf⟩:=hP f i.sc.1
 have ra:Ready td d B as:=⟨⟨n0,V,P,i.part i.sc.2 i.w.2 λY=>cO _,hV,hP⟩,cs.2.2,c7 (aP (aX 4 (cR _ _)) d) hd⟩
 have hE:EA td G d B e:=⟨es,fe,se⟩
 cases se with|mk W _ _ pb sub=>
 have pb:=pb f p c hf
 have sub:=sub f p c hf
 generalize W f=W at pb sub
 rw[pb.Yd]at hf
 have h:YY w td G (k+3*((fQ as B).n+Pl.YD (B f))+2) st U:=h
 have hn:2*((fQ as B).n+Pl.YD (B f))+mu st+40<=n+4:=hn
 have m:mu st+((fQ as B).n+Pl.YD (B f))<=M:=m
 have q:fK w td G k M ((Pl.ZQ (fQ as B).ds st).bind (Pl.Vu (B f))) Q E:=q
 rw[hf]at h hn m q
 have ar:∀x y z μ n k M:Nat,2*(x+(y+z))+μ+40<=n+4->μ+(x+(y+z))<=M->1<=z->(2*x+μ+40<=n+4/\k+3*y+2+3*x+1+1<=k+3*(x+(y+z))+2/\μ+x<=M)/\∀Ti v,Ti+v<=μ+x->2*y+Ti+v+40<=n+2/\Ti+v+y<=M:=λY Y Y Y Y Y Y h1 h2 h3=>⟨⟨Z7 h1,⟨Z7 h3 (Z7 h3),Z7 h2⟩⟩,λY Y h4=>⟨Z7 h1 (Z7 h4 (Z7 h3 (Z7 h3))),Z7 h4 (Z7 h2)⟩⟩
 have Vb:=ar _ _ _ _ _ k _ hn m W3
 refine RL (f:=.inst 4 [fO f]) (k1:=k+3*(fQ W.m.b (Pl.envOf W.B W.m.ps W.m.r 0)).n+2) (M:=M) (H:=λv=>v=Uo W.m W.e W.id) R1 wf.1 ra hE (h.lo Vb.1.2.1) Vb.1.1 (λ{Q U1} h1 q=>?_) Vb.1.2.2 q λhh eo g2 h3 l hm q2=>?_
 ·exact go ⟨rfl,Mb h1 fe pb.g λU' h'=>⟨_,h'.b.f _ _ pb.f,DU,Z4 ⟨q _ U' h' rfl⟩⟩⟩
 ·rw[hh]
  have Ol:=Vb.2 _ _ hm
  exact Md R1 pb.ok (EA.mono g2 ⟨W.es,pb.e,sub⟩) l h3 Ol.1 Ol.2 q2
theorem YY.newF(h:YY w td G k st U)(e:U a=none):YY w td (G.add a o) k st (Mine.Internal.upd U a (some o)):=by
 obtain⟨h1,h2,h3,h4⟩:=h
 have ns:a≠w.so:=λz=>by rw[z,h3]at e;exact XD e
 have nt:a≠w.tr:=λz=>by rw[z,h4.tr]at e;exact XD e
 have ng:a≠w.gl:=λz=>by obtain⟨_,_,g,_⟩:=h4.gl;rw[z,g]at e;exact XD e
 exact⟨h1,h2,(Z9 ns.symm).trans h3,(h4.upd (h4.Ve e) nt ng (h4.c.free e)).M6 Z_ (h4.Ve e) ns nt ng (h4.c.free e)⟩
theorem tP{l f id DS:Nat}{m:Lm}(R1:Runs td n)(ok:Vp td d B m)(rt:Ready td (d+1) (B.put f (m.Yd B)) t)(ie:t.Zw=true)(hE:EA td G d B e)(h:YY w td G (k+3*(fQ t (B.put f (m.Yd B))).n+2) st U)
 (hn:2*(fQ t (B.put f (m.Yd B))).n+mu st+40<=n) (hM:mu st+(fQ t (B.put f (m.Yd B))).n<=M) (q:fK w td G k M (Pl.one (fQ t (B.put f (m.Yd B))).ds st) Q E):
 Z8 (n+1) 64 [Uo ⟨l,[f],none,t⟩ e id,.lst [Uo m e DS],.ref w.so] Q E U:=by
 refine hG ?_;intro PP
 obtain⟨es,fe,se⟩:=hE
 refine go (Z4 (Z4 ⟨Z3 (h.b.f _ _ fe) λi hi=>⟨λc hc=>?_⟩⟩))
 refine hG ?_;intro PP
 obtain⟨h1,f1,g1⟩:=h.new (o:=.di es) hi
 have h2:=h1.newF (o:=.list [Uo m e DS]) hc
 have nc:i≠c:=λz=>by rw[<-z,Z_]at hc;exact XD hc
 have a2:GQ w (G.add c (.list [Uo m e DS])) i es (Mine.Internal.upd (Mine.Internal.upd U i (some (.di es))) c (some (.list [Uo m e DS]))):=⟨(Z9 nc).trans Z_,(Z9 nc).trans f1,g1⟩
 have gl:Ui G (G.add c (.list [Uo m e DS])):=Gw.WY (h1.b.Ve hc)
 have s2:=ES.proc (f:=f) (W0:=⟨m,B,e,es,c,DS,d⟩) (se.mono gl) (se.mono gl) Z_ (gl.f _ _ fe) ok
 have h3:=h2.upd (o:=some (.di (fJ es (.ofNat f) (.ref c)))) a2
 have a3:GQ w (G.add c (.list [Uo m e DS])) i (fJ es (.ofNat f) (.ref c)) (Mine.Internal.upd (Mine.Internal.upd (Mine.Internal.upd U i (some (.di es))) c (some (.list [Uo m e DS]))) i (some (.di (fJ es (.ofNat f) (.ref c))))):=⟨Z_,a2.f,a2.g⟩
 refine Z3 a2.u ⟨?_,⟨⟨rfl,R1 ie rt ⟨_,Z_,s2.mono (Gw.WY a2.f)⟩ (h3.M6 a3) hn hM (q.le (gl.trans (Gw.WY a2.f)))⟩⟩⟩
 have:=se.len
 have:=ok.d
 rw[Uj];lia
theorem yO(R1:Runs td (n+2))(H:TU w td G k M st U (n+4) (.ZT l f l' ps r b t) B d e Q E):fj w U (n+4) (.ZT l f l' ps r b t) e Q E:=by
 obtain⟨_,R,hE,h,hn,m,q⟩:=H
 have wf:=R.wf
 have eb:=wf.1.1
 have et:=wf.2.1
 obtain⟨⟨n0,V,P,i,hV,hP⟩,cs,hd⟩:=R
 have h:YY w td G (k+3*((fQ t (B.put f (Lm.Yd ⟨l',ps,r,b⟩ B))).n+((fQ b (Pl.envOf B ps r 0)).n+Pl.rr r)+1)+2) st U:=h
 have hn:2*((fQ t (B.put f (Lm.Yd ⟨l',ps,r,b⟩ B))).n+((fQ b (Pl.envOf B ps r 0)).n+Pl.rr r)+1)+mu st+40<=n+4:=hn
 have m:mu st+((fQ t (B.put f (Lm.Yd ⟨l',ps,r,b⟩ B))).n+((fQ b (Pl.envOf B ps r 0)).n+Pl.rr r)+1)<=M:=m
 have hd:d+4*((fQ t (B.put f (Lm.Yd ⟨l',ps,r,b⟩ B))).n+((fQ b (Pl.envOf B ps r 0)).n+Pl.rr r)+1)<=1000000:=hd
 have q:fK w td G k M (Pl.one (fQ t (B.put f (Lm.Yd ⟨l',ps,r,b⟩ B))).ds st) Q E:=q
 have nf:∀x,V x\/P x->x≠f/\x∉bs ps r:=λx z=>by
  have k0:(l::f::l'::bs ps r).count x+b.tc x+t.tc x=0:=(i.k x z).1
  have no:x∉(l::f::l'::bs ps r):=λm=>by have:=bD.mpr m;exact absurd (Z7 this (Z7 (cV k0)):1<=0) (by decide)
  exact⟨λz=>no (z▸.tail _ (.head _)),λm=>no (.tail _ (.tail _ (.tail _ m)))⟩
 have ar:∀x y z μ n k M d D:Nat,2*(x+(y+z)+1)+μ+40<=n+4->μ+(x+(y+z)+1)<=M->d+4*(x+(y+z)+1)<=D->1<=z->(2*x+μ+40<=n+2/\μ+x<=M/\k+3*x+2+1+1+1<=k+3*(x+(y+z)+1)+2)/\d+4*(y+1)<=D/\d+1+4*x<=D:=λY Y Y Y Y Y Y Y Y h1 h2 h3 h4=>⟨⟨Z7 h1,⟨Z7 h2,by simp+arith only⟩⟩,⟨Z7 h3,Z7 h3⟩⟩
 have Vb:=ar _ _ _ _ _ k _ _ _ hn m hd W3
 have ok:Vp td d B ⟨l',ps,r,b⟩:=⟨⟨n0,V,P,Qs i,hV,hP,λx z=>(nf x (.inr z)).2⟩,eb,wf.1.2.2,cs.2.2.1.2.1,Vb.2.1⟩
 have rt:Ready td (d+1) (B.put f (Lm.Yd ⟨l',ps,r,b⟩ B)) t:=⟨⟨n0,V,_,Qt i,λx z=>by rw[Pl.Zx (nf x (.inl z)).1];exact hV x z,λx z=>by
  by_cases y:x=f
  ·rw[y];exact⟨_,_,Pl.Yn⟩
  ·rw[Pl.Zx y];exact hP x (z.resolve_left y)⟩,cs.2.1.2.1,Vb.2.2⟩
 unfold fj
 rw[show(toN (.ZT l f l' ps r b t)).av=.inst 10 [Vk l [f] none (toN t).av,.lst [Vk l' ps r (toN b).av]] by
  show H.call.av ((H.lam l [f] none).av (N.cons (toN t) .nil).ZS::([(H.lam l' ps r).av (N.cons (toN b) .nil).ZS]++[]))=_
  rw[Vj (toN_E et),Vj (toN_E eb)];rfl]
 refine YN (k:=k+3*(fQ t (B.put f (Lm.Yd ⟨l',ps,r,b⟩ B))).n+2+1+1) (h.lo Vb.1.2.2) λU' h'=>?_
 refine⟨Z4 ?_⟩
 refine⟨rfl,Z4 ?_⟩
 refine⟨rfl,⟨Z4 ?_⟩⟩
 exact⟨rfl,rfl,HK h' λid U2 h2=>⟨rfl,HK h2 λDS U3 h3=>⟨rfl,tP R1 ok rt et hE h3 Vb.1.1 Vb.1.2.1 q⟩⟩⟩
theorem dD(td:Ad->Option Ad):∀n,n<=900->Runs td n:=λn=>by
 induction n using Nat.strongRecOn with
 |_ n ih=>
  intro hn
  by_cases h4:n<40
  ·exactλY Y Y Y h Y Y=>absurd h (Nat.not_le_of_lt (aM h4))
  obtain⟨n,rfl⟩:∃m,n=m+4:=⟨n-4,(bg (aA (by decide) (Zw5 h4))).symm⟩
  have R1:Runs td (n+1):=ih _ (by simp+arith only) (Z7 hn)
  have R2:Runs td (n+2):=ih _ (bH _) (Z7 hn)
  have R3:Runs td (n+3):=ih _ (cO _) (Zx1 hn)
  refine Runs.of λ{w G k M st U t B d e Q E} H=>?_
  induction t using jT with
  |node h ts=>induction h using jD with
   |const v=>exact DY H
   |loc x=>exact tV H
   |glob s=>exact yQ H
   |YG x=>exact yS R1 H
   |setG s=>exact yR (Z7 hn) R1 H
   |ite=>exact tU R2 R3 H
   |seq=>exact tT R3 H
   |prim op=>exact yU R2 H
   |X3=>exact DV (c7 (cR _ _) hn) R2 H
  |app=>exact tQ R2 H
  |ZT=>exact yO R2 H
  |ZZ=>exact DT R2 H
  |nil=>exact absurd H.ie (Zv ·)
  |cons=>exact absurd H.ie (Zv ·)
end
noncomputable def GO:St:=⟨[],0,[],.int 5,.bool false⟩
noncomputable def Ma(told:AV)(st:St):AV:=.lst [told,.lst (za st.trace),.lst [s1 st.g1,s1 st.g2]]
noncomputable def Oj:Pl.e_ fL->AV
 |.ok v st=>Ma (.tup [.str 70,sn v]) st
 |.er e st=>Ma (.tup [.str 71,uh e]) st
noncomputable def PM:Env:=λY=>none
noncomputable def S.mS:S->S
 |.try _ _ _ _ _ k=>k
 |s=>s
noncomputable def gH:S:=lQ.Z5.mS
def W4(td:Ad->Option Ad)(n:Nat)(D:AV):Prop:=∀U,WG td U->VU U D=true/\UX U n D D=some true
theorem Nb:∀{xs:List AV},(∀x,x∈xs->f x x=some true)->X0 f xs xs=some true
 |[],_=>rfl
 |x::xs,h=>by rw[show X0 f (x::xs) (x::xs)=(match f x x,X0 f xs xs with|some a,some b=>some (a&&b)|_,_=>none)from rfl,h x (.head _),Nb λy m=>h y (.tail _ m)];rfl
theorem PL:∀{xs:List AV},(∀x,x∈xs->VU U x=true)->VT U xs=true
 |[],_=>rfl
 |x::xs,h=>cN.mpr ⟨h x (.head _),PL λy m=>h y (.tail _ m)⟩
theorem W4.tup(h:∀x,x∈xs->W4 td n x):W4 td (n+1) (.tup xs):=λU ht=>⟨PL λx m=>(h x m U ht).1,by
 show(X0 (UX U n) xs xs).map (·&&cZ xs.length xs.length)=_
 rw[Nb λx m=>(h x m U ht).2,bY];rfl⟩
theorem W4.lst(h:∀x,x∈xs->W4 td n x):W4 td (n+1) (.lst xs):=λU ht=>⟨PL λx m=>(h x m U ht).1,by
 show rI (UX U n) xs xs=_
 unfold rI
 rw[bY];exact Nb λx m=>(h x m U ht).2⟩
theorem W4.str:W4 td (n+1) (.str k):=λU Y=>⟨rfl,by show some (cZ k k)=_;rw[bY]⟩
theorem W4.int:W4 td (n+1) (.int i):=λU Y=>⟨rfl,by show some (XI i i)=_;rw[Yy.mpr rfl]⟩
theorem W4.bool:W4 td (n+1) (.bool b):=λU Y=>⟨rfl,by induction b using jB<;>rfl⟩
theorem W4.two(ha:W4 td n a)(hb:W4 td n b):∀x,x∈[a,b]->W4 td n x:=λx m=>by
 rcases cJ.mp m with rfl|m
 ·exact ha
 ·rw[cP.mp m];exact hb
theorem QT(v:fL):∀{k n:Nat},Good td k v->k+2<=n->W4 td n (s1 v):=by
 induction v with
 |pair i a b iha ihb=>
  intro k n Z hn
  obtain⟨ids,x,h⟩:=Z
  obtain⟨l,m,y,z,_,_,ha,hb⟩:=h
  obtain⟨n,rfl⟩:∃j,n=j+2:=⟨n-2,(bg (c7 (cj _ _) hn)).symm⟩
  refine .tup λx m=>?_
  rcases cJ.mp m with rfl|m
  ·exact .str
  ·exact W4.two (iha ⟨_,_,ha⟩ (Z7 l (Z7 hn))) (ihb ⟨_,_,hb⟩ (Z7 l (Z7 hn))) x m
 |text a=>
  intro k n Z hn U ht
  obtain⟨ids,x,h⟩:=Z
  obtain⟨n,rfl⟩:∃j,n=j+1:=⟨n-1,bF ((KJ n 1)) ((LU (Z7 hn):n-1+1<=n))⟩
  obtain⟨d,e⟩:=h.2
  have e:=(ht a d e).1
  have i:Vl U a=true:=by unfold Vl;rw[e];rfl
  exact⟨by show(U a).isSome=true;rw[e];rfl,by show(bif Vl U a&&Vl U a then some (cZ a a)else none)=_;rw[i,bY];rfl⟩
 |int i=>intro k n Y hn;obtain⟨n,rfl⟩:∃j,n=j+2:=⟨n-2,(bg (c7 (cj _ _) hn)).symm⟩;exact .tup (W4.two .str .int)
 |bool b=>intro k n Y hn;obtain⟨n,rfl⟩:∃j,n=j+2:=⟨n-2,(bg (c7 (cj _ _) hn)).symm⟩;exact .tup (W4.two .str .bool)
 |empty|XY=>intro k n Y hn;obtain⟨n,rfl⟩:∃j,n=j+2:=⟨n-2,(bg (c7 (cj _ _) hn)).symm⟩;exact .tup λx m=>by rw[cP.mp m];exact .str
 |_=>exactλZ=>eE Z λ_ Z=>eE Z λ_ h=>h.elim
section
variable{w:EW}{td:Ad->Option Ad}{G G':Gw}{k n d M:Nat}{st st':St}{U U':US}{Q:fP}{E:US->Prop}{B:Env}{es:List (Int×AV)}{e:Ad}{t:T}
theorem L_(hC:C=Z8 (n+1))(hs:U w.so=some (.ds (zc w lf made ev)))(h:Wm w td G st U)(hn:st.np<=n)(q:∀U',Zf WI w.F0 U'->Q (Ma told st) U'):
 Bx (wpS C gH (YC Q) (Y8 E) [x0,x1,some (.ref w.so),some told,none] U):=by
  subst hC
  refine hG ?_;intro PP
  obtain⟨y1,y2,g,v1,v2⟩:=h.gl
  have F:∀{a o},G.F a=some o->Mine.Internal.upd U w.tr none a=some o:=λz=>(Z9 (off h.n1 z)).trans (h.f _ _ z)
  have j8:WG td (Mine.Internal.upd U w.tr none):=λa d z=>aE (h.tx a d z) λz1 Z=>eE Z λfs z2=>⟨F z1,fs,F z2⟩
  have so':Mine.Internal.upd U w.tr none w.so=_:=(Z9 (ZI hs h.tr (xO · rfl))).trans hs
  have gl':Mine.Internal.upd U w.tr none w.gl=_:=(Z9 (ZI g h.tr (xO · rfl))).trans g
  have fr:Zf WI w.F0 (Mine.Internal.upd U w.tr none):=by
   have k:∀{a},w.F0 a≠none->∃o,w.F0 a=some o/\Mine.Internal.upd U w.tr none a=some o:=λ{a} z=>eE (bW.mp z) λo e=>⟨o,e,F (h.f0 _ _ e)⟩
   exact⟨λa z=>eE (k z) λo Z=>aE Z λ_ e=>by rw[e];exact cG _,λa Y z=>eE (k z) λo Z=>aE Z λe' e=>e.trans e'.symm⟩
  exact⟨YU hs (Pn h.tr (YU so' (Z3 gl' ⟨rfl,PW j8 v1 hn (YU so' (Z3 gl' ⟨rfl,PW j8 v2 hn (q _ fr)⟩))⟩)))⟩
theorem HH(h:Wm w td G st U)(hk:st.np<=500)(ht:W4 td 599 told):W4 td EQ (Ma told st):=by
 obtain⟨x,y,_,v1,v2⟩:=h.gl
 refine W4.lst (n:=599) λz m=>?_
 rcases cJ.mp m with rfl|m
 ·exact ht
 rcases cJ.mp m with rfl|m
 ·refine W4.lst (n:=598) λz m=>?_
  obtain⟨p,mp,rfl⟩:=bu.mp m
  exact W4.tup (n:=597) (W4.two .int (QT _ (h.tg p mp) (Z7 hk)))
 ·rw[cP.mp m]
  exact W4.lst (n:=598) (W4.two (QT _ ⟨_,_,v1⟩ (Z7 hk)) (QT _ ⟨_,_,v2⟩ (Z7 hk)))
theorem DR:∀{xs:List AV},VL td ids k vs xs->∀v,v∈vs->Good td k v:=by
 induction vs with
 |nil=>exactλY Y m=>xm m
 |cons a vs ih=>
  intro xs Z v m
  refine hG ?_;intro PP
  obtain⟨y,ys,_,h,l⟩:=Z
  rcases cJ.mp m with rfl|m
  ·exact⟨_,_,h⟩
  ·exact ih l v m
theorem tO(h:VM td ids k v x)(hk:k<=500):W4 td 598 (sn v):=by
 rcases h with h|⟨vs,xs,rfl,_,l,_⟩
 ·have:v.Ue=false:=by induction v using jW<;>first|rfl|exact h.elim
  unfold sn
  rw[this];exact QT _ ⟨_,_,h⟩ (Z7 hk)
 ·obtain⟨e1,e2,_⟩:=toL_of vs
  unfold sn
  rw[e2,e1]
  refine W4.tup (n:=597) λz m=>?_
  rcases cJ.mp m with rfl|m
  ·exact .str
  obtain⟨v,mv,rfl⟩:=bu.mp m
  exact QT _ (DR l v mv) (Z7 hk)
theorem tM{e:Pl.Er}{k:Nat}(h:GE td k e)(hk:k<=500):W4 td 598 (uh e):=by
 cases e with
 |prim op v=>exact W4.tup (n:=597) (W4.two .str (QT _ h (Z7 hk)))
 |stuck=>exact h.elim
 |_=>exact W4.tup (n:=597) (W4.two .str .int)
theorem KS{m:Nat}{wd:Ad}(hn:2*(fQ t PM).n+40<=n)(hL:n<=900)(ie:t.Zw=true)(i:Iv m (λY=>False) (λY=>False) t)(hc:(toN t).cs (tx td))(ht:WG td U)(hw:U wd=some (.di Wy))(hd:4*(fQ t PM).n<=1000000)
 (q:∀U',Zf WI U U'->W4 td EQ (Oj (Pl.one (fQ t PM).ds GO))->Q (Oj (Pl.one (fQ t PM).ds GO)) U'):Z8 (n+1) 68 [(toN t).av,.ref wd] Q E U:=by
 refine hG ?_;intro PP
 obtain⟨n,rfl⟩:∃n',n=n'+2:=⟨n-2,bF ((KJ n 2)) ((LU (Z7 hn):n-2+2<=n))⟩
 refine go λtr htr=>⟨rfl,[((1:Int),.int 5),(2,.bool false),(4,.lst [.str 53])],rfl,rfl,by decide,λgl w5=>⟨rfl,[(58,.int 5000),(46,.int 0),(67,.ref tr),(69,.ref gl),(45,.none),(61,.ref wd)],rfl,rfl,UT (l:=[58,46,67,69,45,61]) rfl,λso hso=>⟨rfl,[],rfl,rfl,Zr2,λe he=>?_⟩⟩⟩
 have n1:gl≠tr:=λz=>by rw[z,Z_]at w5;exact XD w5
 have w5:U gl=none:=(Z9 n1).symm.trans w5
 have n2:so≠gl:=λz=>by rw[z,Z_]at hso;exact XD hso
 have hso:=(Z9 n2).symm.trans hso
 have n3:so≠tr:=λz=>by rw[z,Z_]at hso;exact XD hso
 have hso:U so=none:=(Z9 n3).symm.trans hso
 let w:EW:=⟨so,tr,gl,wd,U⟩
 let G:Gw:=⟨[],[],U⟩
 have b:Wm w td G GO (Mine.Internal.upd (Mine.Internal.upd (Mine.Internal.upd U tr (some (.list []))) gl (some (.di (HZ (.int 5) (.bool false))))) so (some (.ds (zc w 5000 0 .none)))):=⟨(Z9 n3.symm).trans ((Z9 n1.symm).trans Z_),⟨.int 5,.bool false,(Z9 n2.symm).trans Z_,rfl,rfl⟩,⟨λl a z=>(ZE z),rfl,.nil,λa z=>(xm z)⟩,Zx9,hw,λa o z=>(Z9 (off hso z)).trans ((Z9 (off w5 z)).trans ((Z9 (off htr z)).trans z)),hso,htr,w5,rfl,.nil,ht,λY Y z=>z,λY z=>xm z⟩
 have h:YY w td G (0+3*(fQ t PM).n+2) GO (Mine.Internal.upd (Mine.Internal.upd (Mine.Internal.upd U tr (some (.list []))) gl (some (.di (HZ (.int 5) (.bool false))))) so (some (.ds (zc w 5000 0 .none)))):=.mk (lf:=5000) (made:=0) (ev:=.none) (Z7 hn (Z7 hn (Z7 hL (Z7 hL)))) (λY z=>xm z) Z_ b
 have h1:=h.newF (o:=.di []) he
 have hE:EA td (G.add e (.di [])) 0 PM e:=⟨[],Z_,.mk (λY=>⟨⟨0,[],none,.nil⟩,PM,e,[],e,0,0⟩) (cO _) (λY Y z=>ZE z) (λY Y Y z=>ZE z) λY Y Y z=>ZE z⟩
 refine⟨rfl,dD td (n+2) hL (M:=(fQ t PM).n) ie ⟨⟨m,_,_,i,λY z=>z.elim,λY z=>z.elim⟩,hc,Z7 hd⟩ hE h1 (by show _+(0+0)+40<=_;exact hn) (by show 0+0+_<=_;simp+arith only) ?_⟩
 induction o:Pl.one (fQ t PM).ds GO using jK with
 |ok v st=>
  rw[o]at q
  intro G' U' x g h2 hx hm
  have hm:st.np+st.trace.length<=(fQ t PM).n:=hm
  refine hG ?_;intro PP
  obtain⟨_,_,_,hs⟩:=h2.ds
  exact⟨rfl,m9 hx h2.b.GR (Z7 hm (Z7 hn)) (L_ rfl hs h2.b (Z7 hm (Z7 hn)) λU' f=>q U' f (HH h2.b (by lia) (W4.tup (n:=598) (W4.two .str (tO hx (by lia))))))⟩
 |er er st=>
  rw[o]at q
  intro U' z hm
  have hm:st.np+st.trace.length<=(fQ t PM).n:=hm
  obtain @⟨G',lf,made,hs,h2,ge⟩:=z
  exact YU hs (L_ rfl hs h2 (Z7 hm (Z7 hn)) λU' f=>q U' f (HH h2 (by lia) (W4.tup (n:=598) (W4.two .str (tM ge (by lia))))))
end
noncomputable def rm:S:=qQ.body
noncomputable def Na(s:Nat)(i:Nat)(xs:List AV):Option Nat:=match xs with
 |x::r=>x.BL λxs=>MX xs λk _=>k.v9 λk=>bif cZ k s then some i else Na s (i+1) r
 |[]=>none
noncomputable def rowsOf:AV->List AV
 |.tup xs=>xs
 |_=>[]
section
variable{td:Ad->Option Ad}{n m:Nat}{U:US}{Q:fP}{E:US->Prop}{t:T}
theorem HG{tx:Ad->Prop}(he:t.Zw=true)(i:Iv n (λY=>False) (λY=>False) t)(hs:Sm t)(hc:(toN t).cs tx)(ht:SH tx U)
 (q:∀U',(toN t.beta).cs tx->Zf WI U U'->Q (toN t.beta).av U'):Z8 (m+5) 54 [(toN t).av] Q E U:=by
 have z:=FQ i.w hs
 have L:LN=10000000:=rfl
 refine Kd (P:=λY u=>u=toN t.beta) (toN_E he) (toN_wf i.w) hc (Z7 z (Z7 z (Z7 (cV L.symm)))) ht (Ka t i.w (Z7 z (Z7 z (Z7 (cV L.symm)))) rfl) λu U' e Y Y c f=>?_
 rw[e]at c⊢;exact q U' c f
theorem tL(q:∀L,QQ (some (fO j)) L U)(rows:List AV)(i:Nat)(h:Na s i rows=some j):Zc [1,2] (λQ' L U1=>wpS C rm Q' Ee L U1) QQ (TN i rows) [some (.str s),x1,x2] U:=by
 induction rows generalizing i x1 x2 with
 |nil=>exact ZE h
 |cons x r ih=>
  refine MV (P:=λx=>Zc [1,2] (λQ' L U1=>wpS C rm Q' Ee L U1) QQ (TN i (x::r)) [some (.str s),x1,x2] U) h λxs h=>SO (P:=λxs=>Zc [1,2] (λQ' L U1=>wpS C rm Q' Ee L U1) QQ (TN i (.tup xs::r)) [some (.str s),x1,x2] U) h λk xs h=>Gp (P:=λk=>Zc [1,2] (λQ' L U1=>wpS C rm Q' Ee L U1) QQ (TN i (.tup (k::xs)::r)) [some (.str s),x1,x2] U) h λk h=>?_
  show fF (cZ k s) _ _
  induction e:cZ k s using jB with
  |true=>rw[e]at h;cases h;exact q _
  |false=>rw[e]at h;exact ih (i+1) h
theorem yN(op:Op):Na (TV op) 0 (rowsOf Yp)=some (C4 op):=by
 induction op using jJ<;>decide+kernel
theorem tH(op:Op)(q:Q (fO (C4 op)) U):Z8 (n+1) 52 [.str (TV op)] Q E U:=
 go (tL (QQ:=Y4 (YC Q) λL2 U2=>Bx (wpS (Z8 n) qQ.Z5 (YC Q) (Y8 E) L2 U2)) (λY=>q) (rowsOf Yp) 0 (yN op))
theorem HF(q:∀a d,a≠d->U a=none->U d=none->Q (.ref a) (upd (upd U a (some (.inst 31 d))) d (some (.fields [(78,.lst [.int 115])])))):Z8 (n+2) 37 [.str 74] Q E U:=by
 refine go ⟨rfl,λa d hn ha hd=>QH (ZX ((Z9 hn).trans Z_) (ZY Z_ ⟨rfl,by decide,rfl,?_⟩))⟩
 rw[Zt]
 exact q a d hn ha hd
end
noncomputable abbrev We(l:List Int):List AV:=l.map .int
structure L9(dk b:Ad)(U:US):Prop where
 h:∃(is cs:List Int) (n:Nat),cs≠[]/\U dk=some (.list [.ref b,.lst (We cs),fO n])/\U b=some (.list (We is))
def yM(dk b:Ad)(x:Ad):Prop:=x=dk\/x=b
section
variable{dk b:Ad}{n m:Nat}{U:US}{Q:fP}{E:US->Prop}
theorem S3{x:Int}{m:Nat}(h:0<m):∃r,x.fmod (.ofNat m)=.ofNat r/\r<m:=by
 have a:=Int.fmod_nonneg_of_pos x (b:=(m:Int)) (Zy5.mpr h)
 have c:=Int.fmod_lt_of_pos x (b:=(m:Int)) (Zy5.mpr h)
 obtain⟨r,e⟩:=Zl2 a
 exact⟨r,e,Zy5.mp (e▸c)⟩
theorem L9.set(n1:b≠dk)(h:U dk=some (.list [.ref b,.lst (We cs),fO k]))(hc:cs≠[]):L9 dk b (upd U b (some (.list (We is)))):=⟨is,cs,k,hc,(Z9 n1.symm).trans h,Z_⟩
theorem PK(d:D a):Zf D U (upd U a (some o)):=⟨λx z=>by
 by_cases e:x=a
 ·rw[e,Z_];exact cG _
 ·rwa [Z9 e],λx z Y=>Z9 λe=>z (e▸d)⟩
theorem dZ{x z:Int}{m:Nat}(hz:z=x.fmod (.ofNat m))(h:0<m)(h2:m<=9223372036854775808):z.natAbs<9223372036854775808:=by
 obtain⟨r,e,l⟩:=S3 (x:=x) h
 rw[hz,e];exact aA l h2
theorem HE(hm:0<m)(h2:m<1000)(h:L9 dk b U)(q:∀r U',r<m->L9 dk b U'->Zf (yM dk b) U U'->Q (fO r) U'):Z8 (n+1) 57 [.ref dk,fO m] Q E U:=by
 refine hG ?_;intro PP
 obtain⟨is,cs,k,hc,e1,e2⟩:=h
 have n1:b≠dk:=ZI e2 e1 λz=>by induction is using jL<;>exact xN z 0 rfl
 have m0:(.ofNat m:Int)≠0/\(.ofNat m:Int).natAbs<1073741824:=⟨λz=>Zz9 hm (Ze7 z),Nat.lt_trans h2 (by decide)⟩
 refine go ?_
 induction is using jL with
 |cons x is=>
  refine ZJ e1 ⟨rfl,ZJ e2 ?_⟩
  refine ZJ e1 (ZJ e2 ⟨m0,λz0 Y=>ZJ e1 (ZJ e2 ⟨Ze2 _,?_⟩)⟩)
  have DQ:upd U b (some (.list (We (z0::is)))) dk=some (.list [.ref b,.lst (We cs),fO k]):=(Z9 n1.symm).trans e1
  refine ZJ DQ (ZJ (xs:=We (z0::is)) Z_ ?_)
  refine hG ?_;intro PP
  obtain⟨r,er,lr⟩:=S3 (x:=x) hm
  refine ZC (XI z0 (.ofNat 0)) (λY=>ZJ DQ (ZJ (xs:=We (z0::is)) Z_ ⟨⟨m0.1,λz hz=>?_⟩⟩)) λY=>⟨⟨m0.1,λz hz=>?_⟩⟩
  ·rw[hz,er]
   exact q r _ lr (by rw[Zt];exact L9.set n1 e1 hc) (by rw[Zt];exact PK (.inr rfl))
  ·rw[hz,er]
   exact q r _ lr (L9.set (is:=z0::is) n1 e1 hc) (PK (.inr rfl))
 |nil=>
  refine ZJ e1 ⟨rfl,ZJ e2 ⟨ZJ e1 λz hz=>ZJ e1 ⟨cO 3,?_⟩⟩⟩
  have hz:z=.ofNat (k+1):=hz
  subst hz
  have DQ:upd U dk (some (.list [.ref b,.lst (We cs),fO (k+1)])) dk=some (.list [.ref b,.lst (We cs),fO (k+1)]):=Z_
  obtain⟨r0,er,lr⟩:=S3 (x:=.ofNat (k+1)) (m:=(We cs).length) (by rw[cM];exact Zo6.mpr hc)
  obtain⟨x,hx⟩:∃x,(We cs)[r0]?=some (.int x):=by
   rw[cM]at lr
   exact⟨cs[r0],by rw[Zv3,cy lr];rfl⟩
  have n0:(.ofNat (We cs).length:Int)≠0:=λz=>by
   have:((We cs).length:Int)=0:=z
   rw[cM]at this
   exact hc (bQ.mp (Ze7 this))
  refine ZJ DQ (ZJ DQ (ZJ DQ ⟨n0,λz hz=>?_⟩))
  rw[hz,er]
  refine QG hx (ZJ DQ ⟨.inl (by decide),λY Y Y Y=>⟨by decide,λz3 gF=>?_⟩⟩)
  have l3:=dZ gF (by decide) (by decide)
  refine⟨.inl l3,λY Y=>ZJ DQ ⟨.inl (by decide),λY Y Y Y=>⟨by decide,λz4 gE=>?_⟩⟩⟩
  have l4:=dZ gE (by decide) (by decide)
  refine⟨.inl l4,λY Y=>⟨by decide,λY Y=>⟨⟨by decide,by decide⟩,λz5 Y=>⟨m0.1,λz6 gC=>?_⟩⟩⟩⟩
  refine hG ?_;intro PP
  obtain⟨r,er,lr⟩:=S3 (x:=z5) hm
  dsimp only[PP]
  rw[gC,er]
  exact q r _ lr ⟨[],cs,k+1,hc,DQ,(Z9 n1).trans e2⟩ (PK (.inl rfl))
theorem tG(h0:xs≠[])(h1:xs.length<1000)(h:L9 dk b U)(q:∀x U',x∈xs->L9 dk b U'->Zf (yM dk b) U U'->Q x U'):Z8 (n+2) 58 [.ref dk,.lst xs] Q E U:=
 go ⟨rfl,HE (m:=xs.length) (Zo6.mpr h0) h1 h λr U' lr h' f=>QG (cy lr) (q _ U' (List.getElem_mem lr) h' f)⟩
theorem HD:∀(is:List Int) (acc:List AV),QQ (acc++We (is.map λi=>.ofNat i.natAbs)) U->Zo (λY K U2=>K true U2) (λx K U2=>ZB [2] x [x0,x1,x2] λL'=>ZK C E (.u .abs (.loc 2)) L' K U2) (We is) acc QQ U
 |[],acc,q=>by rw[Zx0,We,Zx0,cB]at q;exact q
 |i::is,acc,q=>HD is (acc++[.int (.ofNat i.natAbs)]) (by rw[cz];exact q)
theorem yL:∀(is:List Int) (acc:List AV),QQ (acc++We (is.filter λi=>!fh i (.ofNat 1000000000000000000))) U->
 Zo (λx K U2=>ZB [2] x [x0,x1,x2] λL'=>ZK C E (.b .wN (.loc 2) (.cst (.int (.ofNat 1000000000000000000)))) L' (λb U3=>Wk b λb=>K b U3) U2) (λx K U2=>ZB [2] x [x0,x1,x2] λL'=>ZK C E (.loc 2) L' K U2) (We is) acc QQ U:=by
  refine hM ?_;intro MM is;induction is with
  |nil=>
   intro acc q
   rw[List.filter_nil,We,Zx0,cB]at q;exact q
  |cons i is ih=>
   intro acc q
   exact ZC (!fh i (.ofNat 1000000000000000000)) (λe=>ih (acc++[AV.int i]) (by rw[List.filter_cons_of_pos (p:=λi=>!fh i (.ofNat 1000000000000000000)) e]at q;rw[cz];exact q)) λe=>ih acc (by rw[Zk8 (p:=λi=>!fh i (.ofNat 1000000000000000000)) (by rw[e];exact Zx5)]at q;exact q)
theorem yK(hv:∀K:List AV->Prop,K (We xs)->aL U v K)(q:∀dk b U',L9 dk b U'->U dk=none->Zf (λY=>False) U U'->Q (.ref dk) U'):Z8 (n+1) 56 [v] Q E U:=by
 refine go (hv _ λzs hz=>?_)
 have hz:zs=We (xs.take 20):=by rw[hz];show(We xs).take 20=_;rw[We,We,List.map_take]
 subst hz
 refine HD _ [] ?_
 refine yL (x0:=some v) (x1:=some (.lst (We (xs.take 20|>.map λi=>.ofNat i.natAbs)))) (x2:=none) (xs.take 20|>.map λi=>.ofNat i.natAbs) [] ?_
 refineλb hb z Y=>⟨?_,λdk mR=>?_⟩
 ·show(We _).length+1<=LN
  rw[cM,cM,Uj]
  have:=List.length_take_le 20 xs
  exact cD this (by decide)
 ·have n1:b≠dk:=λz=>by rw[<-z,Z_]at mR;exact XD mR
  have hd:U dk=none:=(Z9 n1.symm).symm.trans mR
  refine q dk b _ ⟨_,(xs.take 20|>.map λi=>.ofNat i.natAbs)++[z],0,by simp,?_,(Z9 n1).trans Z_⟩ hd ?_
  ·rw[Z_,We,We,bw];rfl
  ·have k:∀x,U x≠none->x≠b/\x≠dk:=λx z=>⟨λe=>z (e▸hb),λe=>z (e▸hd)⟩
   exact⟨λx z=>by rwa [Z9 (k x z).2,Z9 (k x z).1],λx Y z=>(Z9 (k x z).2).trans (Z9 (k x z).1)⟩
end
noncomputable abbrev Yu(l:Nat):AV:=.tup [.str 11,fO l]
def eO(S:Nat->Prop)(ms:List AV):Prop:=∀y∈ms,∃x,S x/\(y=fO x\/y=Yu x)
noncomputable def H.tg:H->List Nat
 |.lam l ps r=>l::bs ps r
 |_=>[]
noncomputable def N.tg:N->List Nat
 |.node h ts=>h.tg++ts.tg
 |.nil=>[]
 |.cons a b=>a.tg++b.tg
noncomputable def H.key:H->Option Nat
 |.loc x=>some x
 |.YG x=>some x
 |_=>none
noncomputable def N.scp:N->List Nat->Prop
 |.node h ts,ks=>(∀x,h.key=some x->x∈ks)/\ts.scp (ks++h.bn)
 |.nil,_=>True
 |.cons a b,ks=>a.scp ks/\b.scp ks
noncomputable def N.dp:N->Nat
 |.node _ ts=>ts.dp+1
 |.nil=>0
 |.cons a b=>max a.dp b.dp
noncomputable def w4:S:=qP.Z5.Z5
noncomputable def gB:S:=w4.Z5.Z5.Z5.Z5
noncomputable def gA:S:=qP.Z5.body.Z5
noncomputable def gz:X:=.cst (.int (.ofNat 1))
noncomputable def gw:X:=.u .not (.call (.glob 45 (.g 69)) (.cons (.loc 5) (.cons (.b .cat (.loc 1) (.loc 3)) (.cons (.loc 2) .nil))))
section
variable{S:Nat->Prop}{ms:List AV}{U:US}{x n:Nat}{Q:fP}{E:US->Prop}{ks:List Nat}{mt:Ad}
theorem PJ:∀{ms:List AV},(∀y∈ms,UX U EQ y a=some false)->XG U a ms=some false
 |[],_=>rfl
 |y::ms,h=>by show(UX U EQ y a).bind (λr=>(XG U a ms).map (r||·))=_;rw[h y (.head _),PJ λz m=>h z (.tail _ m)];rfl
theorem DP(h:eO S ms)(k:¬S x):XG U (fO x) ms=some false:=PJ λy m=>by
 obtain⟨z,hz,rfl|rfl⟩:=h y m
 ·show some (cZ z x)=_
  rw[beq_false (a:=z) (b:=x) λe=>k (e▸hz)]
 ·rfl
theorem DO(h:eO S ms)(k:¬S x):XG U (Yu x) ms=some false:=PJ λy m=>by
 obtain⟨z,hz,rfl|rfl⟩:=h y m
 ·rfl
 ·show some ((true&&(cZ z x&&true))&&true)=_
  rw[beq_false (a:=z) (b:=x) λe=>k (e▸hz)];rfl
theorem HB(h:eO S ms):VT U ms=true:=by
 induction ms with
 |nil=>rfl
 |cons y r ih=>
  obtain⟨z,_,rfl|rfl⟩:=h y (.head _)<;>exact cN.mpr ⟨rfl,ih λy m=>h y (.tail _ m)⟩
theorem QS(h:x∈ks):XG U (fO x) (fN ks)=some true:=by
 have e:∀{ks:List Nat},XG U (fO x) (fN ks)=some (ks.any λa=>cZ a x):=λ{ks}=>by
  induction ks with
  |nil=>rfl
  |cons c r ih=>
   show(some (cZ c x)).bind (λb=>(XG U (fO x) (fN r)).map (b||·))=_
   rw[ih];rfl
 rw[e];exact congrArg some (Zq3.mpr ⟨x,h,bY x⟩)
theorem eO.app(h:eO S ms)(k:eO S' l):eO (λx=>S x\/S' x) (ms++l):=λy m=>by
 rcases bX.mp m with m|m
 ·obtain⟨x,a,b⟩:=h y m;exact⟨x,.inl a,b⟩
 ·obtain⟨x,a,b⟩:=k y m;exact⟨x,.inr a,b⟩
theorem eO.imp(h:eO S ms)(k:∀x,S x->S' x):eO S' ms:=λy m=>eE (h y m) λx Z=>aE Z λa b=>⟨x,k x a,b⟩
theorem HA(l:List Nat):eO (·∈l) (fN l):=λY m=>by obtain⟨x,a,rfl⟩:=bu.mp m;exact⟨x,a,.inl rfl⟩
theorem L8(a:VU U v=true)(b:VT U xs=true)(c:XG U v xs=some r)(q:K r):UW v (.lst xs) K U:=by unfold UW;exact⟨a,b,XZ c q⟩
theorem Oi(hm:U mt=some (.list ms))(a:VU U v=true)(b:VT U ms=true)(c:XG U v ms=some r)(q:K r):UW v (.ref mt) K U:=by unfold UW;exact⟨a,ZJ hm ⟨b,XZ c q⟩⟩
theorem Cf(hm:U mt=some (.list ms))(hS:eO S ms):∀l:List Nat,(∀x,S x->x∉l)->QQ [] U->
 Zo (λx K U2=>ZB [4] x [x0,x1,some (.ref mt),x3,x4,x5] λL'=>ZK C E (.b .GJ (.loc 4) (.loc 2)) L' (λb U3=>Wk b λb=>K b U3) U2) (λx K U2=>ZB [4] x [x0,x1,some (.ref mt),x3,x4,x5] λL'=>ZK C E (.loc 4) L' K U2) (fN l) [] QQ U
  |[],_,q=>q
  |x::l,h,q=>Oi hm rfl (HB hS) (DP hS λz=>h x z (.head _)) (Cf hm hS l (λy z m=>h y z (.tail _ m)) q)
structure Oh(n:Nat)(t:N)(ks:List Nat)(ms:List AV)(S:Nat->Prop)(P:List AV->Prop):Prop where
 w:t.wf
 d:t.dp+2<=n
 s:t.scp ks
 nd:t.tg.Nodup
 dj:∀x,S x->x∉t.tg
 hS:eO S ms
 l:ms.length+t.tg.length<=LN
 z:2*t.sz+ks.length<LN
 p:∀ms',eO (λx=>S x\/x∈t.tg) ms'->ms'.length=ms.length+t.tg.length->P ms'
noncomputable def KG(x0:Option AV)(ks:List Nat)(mt:Ad)(bs:List Nat)(x4 x5:Option AV):Loc:=[x0,some (.lst (fN ks)),some (.ref mt),some (.lst (fN bs)),x4,x5]
def wZ(n:Nat)(E:US->Prop)(L:Loc)(xs acc:List AV)(QQ:List AV->US->Prop)(U:US):Prop:=Zo (λx K U2=>ZB [5] x L λL'=>ZK (Z8 n) E gw L' (λb U3=>Wk b λb=>K b U3) U2) (λx K U2=>ZB [5] x L λL'=>ZK (Z8 n) E gz L' K U2) xs acc QQ U
theorem DN{h:H}{ts:N}{x4 x5:Option AV}{P:List AV->Prop}(hq:∀ms',P ms'->Q (.bool true) (upd U mt (some (.list ms'))))
 (hm:U mt=some (.list ms)) (C6:h.ar ts.len=true) (hl:ts.len<=LN) (hk:ks.length+h.bn.length<=LN) (hb:ms.length+h.bn.length<=LN) (key:∀x,h.key=some x->x∈ks) (hS:eO S ms) (hd:∀x,S x->x∉h.bn)
 (go':∀{x4 x5:Option AV} {L:Loc} {QQ:List AV->US->Prop},L=KG (some (h.av ts.ZS)) ks mt h.bn x4 x5->(∀ms',P ms'->QQ [] (upd U mt (some (.list ms'))))->
  wZ (n+1) E L ts.ZS [] QQ (upd U mt (some (.list (ms++fN h.bn))))):
 Bx (wpS (Z8 (n+1)) w4 (YC Q) (Y8 E) (KG (some (h.av ts.ZS)) ks mt h.bn x4 x5) U):=by
 have c1:fM h.cls=true:=by induction h using jH<;>rfl
 have c2:([13].any λk=>Zh k (Xp h.cls))=false:=by induction h using jH<;>rfl
 refine⟨Z4 ⟨c1,Z2 c2 ⟨?_⟩⟩⟩
 refine Cf hm hS h.bn hd ?_
 refine⟨rfl,ZJ hm (ZJ hm ⟨by rw[cM];exact hb,?_⟩)⟩
 refine Z4 ⟨c1,?_⟩
 have fin:wpS (Z8 (n+1)) gB (YC Q) (Y8 E) (KG (some (h.av ts.ZS)) ks mt h.bn x4 x5) (upd U mt (some (.list (ms++fN h.bn)))):=
  UQ h ts.ZS (UM (by rw[ZG];exact C6) (by rw[ZG];exact hl) (go' rfl λms' p=>⟨rfl,hq ms' p⟩))
 induction h using jH with
 |loc x=>exact L8 rfl (UL _) (QS (key x rfl)) fin
 |YG x=>exact L8 rfl (UL _) (QS (key x rfl)) fin
 |_=>exact fin
theorem L7:(fN ps++match r with|none=>[]|some x=>[fO x])=fN (bs ps r):=by
 induction r using jO<;>(show _=(ps++_).map fO;rw[bw];rfl)
theorem yJ(h:H):(∃l ps r,h=.lam l ps r)\/(fM h.cls=true/\([9].any λk=>Zh k (Xp h.cls))=false/\h.tg=[]/\h.bn=[]):=by
 induction h using jH with
 |lam l ps r=>exact .inl ⟨l,ps,r,rfl⟩
 |_=>exact .inr ⟨rfl,rfl,rfl,rfl⟩
theorem DM{h:H}{ts:N}{P:List AV->Prop}(W:Oh (n+2) (.node h ts) ks ms S P)(hm:U mt=some (.list ms))
 (ih:∀{ms1 U1 S1} {P1:List AV->Prop} {x0 x4 x5:Option AV} {QQ:List AV->US->Prop},U1 mt=some (.list ms1)->Oh (n+1) ts (ks++h.bn) ms1 S1 P1->(∀ms',P1 ms'->QQ [] (upd U1 mt (some (.list ms'))))->
  wZ (n+1) E (KG x0 ks mt h.bn x4 x5) ts.ZS [] QQ U1)
 (hq:∀ms',P ms'->Q (.bool true) (upd U mt (some (.list ms')))):∀{ms1:List AV} {U1:US} {x4 x5:Option AV},U1=upd U mt (some (.list ms1))->eO (λx=>S x\/(x∈h.tg/\x∉h.bn)) ms1->ms1.length+h.bn.length=ms.length+h.tg.length->
  Bx (wpS (Z8 (n+1)) w4 (YC Q) (Y8 E) (KG (some (h.av ts.ZS)) ks mt h.bn x4 x5) U1):=λ{ms1 U1 x4 x5} eU h1 l1=>by
 obtain⟨hw,hd,hs,nd,dj,hS,hl,hz,p⟩:=W
 have hz:2*(ts.sz+h.sz+1)+ks.length<LN:=hz
 have ls:=Xn ts
 have hd:ts.dp+1+2<=n+2:=hd
 have hl:ms.length+(h.tg++ts.tg).length<=LN:=hl
 have nd:(h.tg++ts.tg).Nodup:=nd
 have dj:∀x,S x->x∉h.tg++ts.tg:=dj
 have p:∀ms',eO (λx=>S x\/x∈h.tg++ts.tg) ms'->ms'.length=ms.length+(h.tg++ts.tg).length->P ms':=p
 rw[cS]at hl p
 obtain⟨q_,vM,mQ⟩:=Zy4.mp nd
 have bz:=CU h
 have bt:∀x,x∈h.bn->x∈h.tg:=λx m=>by induction h using jH<;>first|exact .tail _ m|exact m
 subst eU
 have gu:ks.length+h.bn.length<=LN:=Z7 hz (Z7 bz)
 have gq:ms1.length+h.bn.length<=LN:=Z7 (cV l1) (Z7 hl)
 refine DN (P:=P) (λms' p'=>by rw[Zt];exact hq ms' p') Z_ hw.1 (Z7 ls (Z7 hz)) gu gq hs.1 h1 (λx k m=>k.elim (λk=>dj x k (cH _ (bt x m))) λk=>k.2 m) λ{x4 x5 L QQ} eL hQ=>?_
 subst eL
 have M2:eO (λx=>S x\/x∈h.tg) (ms1++fN h.bn):=(h1.app (HA _)).imp λx k=>k.elim (λk=>k.imp id And.left) λk=>.inr (bt x k)
 refine ih (U1:=upd (upd U mt (some (.list ms1))) mt (some (.list (ms1++fN h.bn)))) (S1:=λx=>S x\/x∈h.tg) (P1:=P) Z_ ⟨hw.2,Zx2 hd,hs.2,vM,λx k m=>k.elim (λk=>dj x k (cC _ m)) λk=>mQ x k x m rfl,M2,?_,?_,λms' m' l'=>p ms' (m'.imp λx k=>?_) ?_⟩ (λms' p'=>by rw[Zt,Zt];have:=hQ ms' p';rwa [Zt]at this)
 ·rw[cS,cM];exact Z7 (cV l1) (Z7 hl)
 ·rw[cS];exact Z7 hz (Z7 bz)
 ·rcases k with(k|k)|k
  ·exact .inl k
  ·exact .inr (cH _ k)
  ·exact .inr (cC _ k)
 ·rw[l',cS,cM];exact bF (Z7 (cV l1)) (Z7 (cV l1.symm))
theorem L6(W:Oh (n+2) (.node h ts) ks ms S P)(hm:U mt=some (.list ms))
 (ih:∀{ms1 U1 S1} {P1:List AV->Prop} {x0 x4 x5:Option AV} {QQ:List AV->US->Prop},U1 mt=some (.list ms1)->Oh (n+1) ts (ks++h.bn) ms1 S1 P1->(∀ms',P1 ms'->QQ [] (upd U1 mt (some (.list ms'))))->
 wZ (n+1) E (KG x0 ks mt h.bn x4 x5) ts.ZS [] QQ U1)
 (hq:∀ms',P ms'->Q (.bool true) (upd U mt (some (.list ms')))):Z8 (n+2) 69 [h.av ts.ZS,.lst (fN ks),.ref mt] Q E U:=by
  have rest:=@DM S ms U n Q E ks mt h ts P W hm ih hq
  rcases yJ h with⟨l,ps,r,rfl⟩|⟨c1,c9,e1,e2⟩
  ·have hS:=W.hS
   have dj:∀x,S x->x∉l::bs ps r++ts.tg:=W.dj
   have hl:ms.length+(l::bs ps r++ts.tg).length<=LN:=W.l
   have nd:(l::bs ps r++ts.tg).Nodup:=W.nd
   have hz:2*(ts.sz+ps.length+1)+ks.length<LN:=W.z
   rw[cS]at hl
   obtain⟨q_,_⟩:=Zy4.mp nd
   have nl:¬S l:=λk=>dj l k (.head _)
   have lb:l∉bs ps r:=(bU.mp q_).1
   have sz:ps.length+1<=LN:=by have:2*(ts.sz+ps.length+1)+ks.length<LN:=hz;exact Z7 this
   have l1:ms.length<LN:=by have:ms.length+((bs ps r).length+1+ts.tg.length)<=LN:=hl;exact Z7 this
   have tl:∀{x4 x5:Option AV},Bx (wpS (Z8 (n+1)) w4 (YC Q) (Y8 E) (KG (some ((H.lam l ps r).av ts.ZS)) ks mt (bs ps r) x4 x5) (upd U mt (some (.list (ms++[Yu l]))))):=
    rest rfl (λy m=>by
     rcases bX.mp m with m|m
     ·obtain⟨x,a,b⟩:=hS y m;exact⟨x,.inl a,b⟩
     ·rw[cP]at m;exact⟨l,.inr ⟨.head _,lb⟩,.inr m⟩) (by show(ms++[Yu l]).length+(bs ps r).length=ms.length+((bs ps r).length+1);rw[cS];show _+1+_=_;simp+arith only)
   have nx:wpS (Z8 (n+1)) gA (Y4 (YC Q) λL2 U2=>Bx (wpS (Z8 (n+1)) w4 (YC Q) (Y8 E) L2 U2)) (Y8 E) (KG (some ((H.lam l ps r).av ts.ZS)) ks mt (bs ps r) none none) U:=
    Oi hm rfl (HB hS) (DO hS nl) (ZJ hm (ZJ hm ⟨l1,tl⟩))
   refine go (Z4 ⟨rfl,?_⟩)
   unfold KG at nx
   rw[<-L7]at nx
   induction r using jO with
   |none=>exact⟨by rw[cM];exact Zx1 sz,nx⟩
   |some x=>exact⟨by rw[cM];exact sz,nx⟩
  ·have plain:h.tg=[]->h.bn=[]->Bx (wpS (Z8 (n+1)) w4 (YC Q) (Y8 E) (KG (some (h.av ts.ZS)) ks mt [] none none) U):=λe1 e2=>by
    have:=rest (ms1:=ms) (U1:=U) (x4:=none) (x5:=none) (by rw[V_ hm]) (W.hS.imp λx=>.inl) (by rw[e1,e2])
    rw[e2]at this;exact this
   exact go (Z4 ⟨c1,Z2 c9 (plain e1 e2)⟩)
def gn(E:US->Prop)(mt:Ad)(t:N):Prop:=∀{n:Nat} {k1 k2:List Nat} {ms:List AV} {S:Nat->Prop} {U:US} {x0 x4 x5:Option AV} {acc rest:List AV} {QQ:List AV->US->Prop} {P:List AV->Prop},Oh n t (k1++k2) ms S P->U mt=some (.list ms)->
 (∀ms',P ms'->wZ n E (KG x0 k1 mt k2 x4 x5) rest acc QQ (upd U mt (some (.list ms'))))->
 wZ n E (KG x0 k1 mt k2 x4 x5) (t.ZS++rest) acc QQ U
theorem tF(t:N):gn E mt t:=by
 induction t with
 |nil=>
  intro n k1 k2 ms S U x0 x4 x5 acc rest QQ P W hm q
  have:=q ms (W.p ms (W.hS.imp λx=>.inl) rfl)
  rwa [V_ hm]at this
 |node h ts ih=>
  intro n k1 k2 ms S U x0 x4 x5 acc rest QQ P W hm q
  have d:ts.dp+1+2<=n:=W.d
  obtain⟨n,rfl⟩:∃m,n=m+2:=⟨n-2,(bg (c7 (cj _ _) d)).symm⟩
  have z:2*(ts.sz+h.sz+1)+(k1++k2).length<LN:=W.z
  rw[cS]at z
  refine⟨by rw[cM,cM];exact Z7 z,rfl,?_⟩
  rw[show fN k1++fN k2=fN (k1++k2)from bw.symm]
  refine L6 W hm (λ{ms1 U1 S1 P1 x0 x4 x5 QQ} hm1 W1 q1=>?_) q
  have:=ih (n:=n+1) (x0:=x0) (x4:=x4) (x5:=x5) (acc:=[]) (rest:=[]) (QQ:=QQ) W1 hm1 q1
  rwa [cB]at this
 |cons a b iha ihb=>
  intro n k1 k2 ms S U x0 x4 x5 acc rest QQ P W hm q
  obtain⟨hw,hd,hs,nd,dj,hS,hl,hz,p⟩:=W
  have hd:max a.dp b.dp+2<=n:=hd
  have hl:ms.length+(a.tg++b.tg).length<=LN:=hl
  have hz:2*(a.sz+b.sz)+(k1++k2).length<LN:=hz
  have nd:(a.tg++b.tg).Nodup:=nd
  have dj:∀x,S x->x∉a.tg++b.tg:=dj
  have p:∀ms',eO (λx=>S x\/x∈a.tg++b.tg) ms'->ms'.length=ms.length+(a.tg++b.tg).length->P ms':=p
  rw[cS]at hl p
  obtain⟨q_,vM,mQ⟩:=Zy4.mp nd
  show wZ _ _ _ ((a.ZS++b.ZS)++rest) acc QQ U
  rw[cz]
  refine iha (P:=λms'=>eO (λx=>S x\/x∈a.tg) ms'/\ms'.length=ms.length+a.tg.length) ⟨hw.1,c7 (bx (Nat.le_max_left _ _) 2) hd,hs.1,q_,λx k m=>dj x k (cH _ m),hS,Z7 hl,Z7 hz,λms' m' l'=>⟨m',l'⟩⟩ hm λms1 Z=>aE Z λm1 l1=>?_
  refine ihb (P:=P) ⟨hw.2,c7 (bx (Zj7 _ _) 2) hd,hs.2,vM,λx k m=>k.elim (λk=>dj x k (cC _ m)) λk=>mQ x k x m rfl,m1,Z7 (cV l1) (Z7 hl),Z7 hz,λms' m' l'=>p ms' (m'.imp λx k=>?_) (bF (Z7 (cV l') (Z7 (cV l1))) (Z7 (cV l1.symm) (Z7 (cV l'.symm))))⟩ Z_ λms' p'=>by rw[Zt];exact q ms' p'
  rcases k with(k|k)|k
  ·exact .inl k
  ·exact .inr (cH _ k)
  ·exact .inr (cC _ k)
theorem yI{t:N}(he:t.Zw=true)(hw:t.wf)(hd:t.dp+2<=n)(hs:t.scp [])(nd:t.tg.Nodup)(hl:t.tg.length<=LN)(hz:2*t.sz<LN)(hm:U mt=some (.list []))(q:∀ms',Q (.bool true) (upd U mt (some (.list ms')))):Z8 n 69 [t.av,.lst [],.ref mt] Q E U:=by
 induction t using jM with
 |node h ts=>
  have d:ts.dp+1+2<=n:=hd
  obtain⟨n,rfl⟩:∃m,n=m+2:=⟨n-2,(bg (c7 (cj _ _) d)).symm⟩
  have m0:eO (λY=>False) []:=λY m=>xm m
  have l0:([]:List AV).length+(N.node h ts).tg.length<=LN:=(a_ _).symm▸hl
  refine L6 (ks:=[]) (ms:=[]) (S:=λY=>False) (P:=λY=>True) ⟨hw,hd,hs,nd,λY k=>k.elim,m0,l0,hz,λY Y Y=>trivial⟩ hm (λ{ms1 U1 S1 P1 x0 x4 x5 QQ} hm1 W1 q1=>?_) λms' Y=>q ms'
  have:=tF (E:=E) ts (n:=n+1) (x0:=x0) (x4:=x4) (x5:=x5) (acc:=[]) (rest:=[]) (QQ:=QQ) W1 hm1 q1
  rwa [cB]at this
 |_=>exact Zv he
end
theorem Hz(x:Nat)(t:T):(toN t).tg.count x=t.tc x:=by
 induction t with
 |node h ts ih=>induction h using jD<;>exact ih
 |app l ps r b as ib ia=>
  show((l::bs ps r)++((toN b).tg++[])++(toN as).tg).count x=(l::bs ps r).count x+b.tc x+as.tc x
  rw[bM,bM,cB,ib,ia]
 |ZT l f l' ps r b t ib it=>
  show((l::[f])++((toN t).tg++[])++(((l'::bs ps r)++((toN b).tg++[]))++[])).count x=([l,f]++(l'::bs ps r)).count x+b.tc x+t.tc x
  simp only[bM,cB,ib,it]
  simp+arith only
 |ZZ f as ih=>exact ih
 |nil=>rfl
 |cons h t ih it=>
  show((toN h).tg++(toN t).tg).count x=h.tc x+t.tc x
  rw[bM,ih,it]
theorem tE(t:T)(s:t.sc V P)(k:∀x,V x\/P x->x∈ks):(toN t).scp ks:=by
 have up:∀{c8 K:List Nat} {x:Nat},x∈c8\/x∈K->x∈(K++[])++c8:=λz=>z.elim (λm=>cC _ m) λm=>cH _ (cH _ m)
 induction t generalizing V P ks with
 |node h ts ih=>
  have I:(toN ts).scp (ks++[]):=ih s.2 λx z=>cH _ (k x z)
  have v:∀x,h.var=some x->x∈ks:=λx e=>k x (.inl (s.1 x e))
  induction h using jD with
  |X3=>exact⟨(λY h=>ZE h),⟨(λY h=>ZE h),trivial⟩,I⟩
  |loc|YG=>exact⟨v,I⟩
  |_=>exact⟨(λY h=>ZE h),I⟩
 |app l ps r b as ib ia=>exact⟨(λY h=>ZE h),⟨(λY h=>ZE h),ib s.2 λx z=>up (z.elim (λz=>z.imp id λz=>k x (.inl z)) λz=>.inr (k x (.inr z))),trivial⟩,ia s.1 λx z=>cH _ (k x z)⟩
 |ZT l f l' ps r b t ib it=>exact⟨(λY h=>ZE h),⟨(λY h=>ZE h),it s.2 λx z=>up (c8:=[f]) (z.elim (λz=>.inr (k x (.inl z))) λz=>z.imp (λe=>cP.mpr e) λz=>k x (.inr z)),trivial⟩,⟨(λY h=>ZE h),ib s.1 λx z=>up (z.elim (λz=>z.imp id λz=>k x (.inl z)) λz=>.inr (k x (.inr z))),trivial⟩,trivial⟩
 |ZZ f as ih=>exact⟨(λY h=>ZE h),⟨λx e=>by cases e;exact cH _ (k _ (.inr s.1)),trivial⟩,ih s.2 λx z=>cH _ (k x z)⟩
 |nil=>trivial
 |cons a b ia ib=>exact⟨ia s.1 k,ib s.2 k⟩
theorem Wx{a b n:Nat}(h:a<=n)(k:b<=n):max a b<=n:=Nat.max_le.mpr ⟨h,k⟩
theorem mO(t:T)(B:Env)(w:t.wf):(toN t).dp<=2*(fQ t B).n+(match t.Zw with|true=>2|false=>0):=by
 induction t generalizing B with
 |node h ts ih=>
  have a:=ih B w.2.2
  rw[w.2.1]at a
  have e:(UH h (toN ts)).dp<=max 1 (toN ts).dp:=by induction h using jD<;>first|exact Zj7 _ _|exact cO _
  exact cu (c7 e (Wx (cj _ _) (show _<=2*((fQ ts B).n+h.w)+1 from Z7 (show _<=2*(fQ ts B).n from a))))
 |app l ps r b as ib ia=>
  have a:=ia B w.2.2
  have c:=ib (Pl.envOf B ps r 0) w.1.2.1
  rw[w.2.1]at a
  rw[w.1.1]at c
  show max (max (toN b).dp 0+1) (toN as).dp+1<=2*((fQ as B).n+((fQ b (Pl.envOf B ps r 0)).n+Pl.rr r))+2
  exact cu (Wx (cu (Wx (show _<=2*((fQ as B).n+((fQ b (Pl.envOf B ps r 0)).n+Pl.rr r))from Z7 (show _<=2*(fQ b (Pl.envOf B ps r 0)).n+2 from c) (Z7 (W3 (r:=r)) (Z7 (W3 (r:=r))))) (bV _))) (Z7 (show _<=2*(fQ as B).n from a)))
 |ZT l f l' ps r b t ib it=>
  have a:=it (B.put f (Lm.Yd ⟨l',ps,r,b⟩ B)) w.2.2
  have c:=ib (Pl.envOf B ps r 0) w.1.2.1
  rw[w.2.1]at a
  rw[w.1.1]at c
  refine gen (fQ t (B.put f (Lm.Yd ⟨l',ps,r,b⟩ B))).n (P:=λA=>(toN t).dp<=2*A+2->max (max (toN t).dp 0+1) (max (max (toN b).dp 0+1) 0)+1<=2*(A+((fQ b (Pl.envOf B ps r 0)).n+Pl.rr r)+1)+2) (λA a=>cu (Wx (cu (Wx (Z7 a) (bV _))) (Wx (cu (Wx (Z7 (show _<=2*(fQ b (Pl.envOf B ps r 0)).n+2 from c)) (bV _))) (bV _)))) a
 |ZZ f as ih=>
  have a:=ih B w.2
  rw[w.1]at a
  exact cu (Wx (cj _ _) (show _<=2*((fQ as B).n+Pl.YD (B f))+1 from Z7 (show _<=2*(fQ as B).n from a)))
 |nil=>exact cO _
 |cons h t ih it=>
  have a:=ih B w.1.2
  have c:=it B w.2.2
  rw[w.1.1]at a
  rw[w.2.1]at c
  show max (toN h).dp (toN t).dp<=2*((fQ h B).n+(fQ t B).n+1)
  exact Wx (show _<=2*((fQ h B).n+(fQ t B).n+1)from Z7 (show _<=2*(fQ h B).n+2 from a)) (Z7 (show _<=2*(fQ t B).n from c))
theorem tD(t:N):t.tg.length<=2*t.sz:=by
 induction t with
 |node h ts ih=>
  have e:h.tg.length<=2*h.sz+2:=by
   induction h using jH with
   |lam l ps r=>show(bs ps r).length+1<=2*ps.length+2;exact Z7 (QA ps r)
   |_=>exact bV _
  show(h.tg++ts.tg).length<=2*(ts.sz+h.sz+1)
  rw[cS];exact Z7 e (Z7 ih)
 |nil=>exact cO _
 |cons a b ia ib=>
  show(a.tg++b.tg).length<=2*(a.sz+b.sz)
  rw[cS];exact Z7 ia (Z7 ib)
theorem yH{t:T}{n m:Nat}{mt:Ad}{U:US}{Q:fP}{E:US->Prop}{B:Env}(he:t.Zw=true)(i:Iv m (λY=>False) (λY=>False) t)(hs:Sm t)(hn:2*(fQ t B).n+4<=n)(hm:U mt=some (.list []))(q:∀ms',Q (.bool true) (upd U mt (some (.list ms')))):
 Z8 n 69 [(toN t).av,.lst [],.ref mt] Q E U:=by
 have z:=FQ i.w hs
 have d:=mO t B i.w
 rw[he]at d
 have d:(toN t).dp<=2*(fQ t B).n+2:=d
 have l:=tD (toN t)
 refine yI (toN_E he) (toN_wf i.w) (Z7 d (Z7 hn)) (tE t i.sc λY h=>(h.elim id id).elim) (Zh3.mpr λx=>by rw[Hz];exact i.u x) (by rw[Uj];exact Z7 l (Z7 z (Z7 z))) (by rw[Uj];exact Z7 z (Z7 z)) hm q
noncomputable def tA(n:Nat):Nat:=[0,0,2,5,9,15,24,36,54,81,117,171].getD n 0
noncomputable def tK(n:Nat):Nat:=[0,1,2,3,4,6,9,12,18,27,36,54].getD n 0
abbrev T3(u u1 u':Nat):Prop:=u'<=u1->u1<u->(2+tA (u-u1)+tA (u1-u'+1)<=tA (u-u'+1)/\tK (u-u1)+tK (u1-u'+1)<=tK (u-u'+1))/\1<=tK (u-u1)/\
 (u'<u1->(tA (u-u1)+tA (u1-u')+4<=tA (u-u'+1)/\tK (u-u1)+tK (u1-u')<=tK (u-u'+1))/\(tK (u1-u')+1)*(tA (u-u1)+2)+tA (u1-u')+1<=tA (u-u'+1)/\(tK (u1-u')+1)*tK (u-u1)<=tK (u-u'+1))
theorem dh:∀u,u<11->∀u1,u1<11->∀u',u'<11->decide (T3 u u1 u')=true:=by decide+kernel
theorem tab(h:u<=10)(l:u'<=u1)(p:u1<u):(2+tA (u-u1)+tA (u1-u'+1)<=tA (u-u'+1)/\tK (u-u1)+tK (u1-u'+1)<=tK (u-u'+1))/\1<=tK (u-u1)/\
 (u'<u1->(tA (u-u1)+tA (u1-u')+4<=tA (u-u'+1)/\tK (u-u1)+tK (u1-u')<=tK (u-u'+1))/\(tK (u1-u')+1)*(tA (u-u1)+2)+tA (u1-u')+1<=tA (u-u'+1)/\(tK (u1-u')+1)*tK (u-u1)<=tK (u-u'+1)):=of_decide_eq_true (dh u (aT h) u1 (aA p (bZ h)) u' (cD l (aA p (bZ h)))) l p
theorem yG:∀a,a<11->tA a<=tA (a+1)/\tK a+1<=tK (a+1)/\(1<=a->tA a+2<=tA (a+1)):=by decide+kernel
def Bn(d P u u' c:Nat):Prop:=u'<=u/\(u=0->c=0)/\(u'<u/\c<=tA (u-u')+tK (u-u')*P\/u'=0/\c<=tA (u-u')+tK (u-u')*P+(4*d+2))
def Ln(k d P u u' c:Nat):Prop:=u'<=u/\(u=0->c<=k)/\(c+P<=tA (u-u'+1)+tK (u-u'+1)*P\/u'=0/\c+P<=tA (u-u'+1)+tK (u-u'+1)*P+(4*d+2)+k)
def In(d P u u' c:Nat):Prop:=u'<=u/\(c<=tA (u-u'+1)+tK (u-u'+1)*P\/u'=0/\c<=tA (u-u'+1)+tK (u-u'+1)*P+(4*d+2))
section
variable{k d P u u1 u' c c1 c2 r:Nat}
theorem Hy(h:a+b<=c)(P:Nat):a*P+b*P<=c*P:=by rw[<-Nat.add_mul];exact Zg7 P h
theorem yF(h:a+1<=c)(P:Nat):a*P+P<=c*P:=by have:=Hy h P;rwa [Nat.one_mul]at this
theorem In.val(h:In d P u u' c):Bn d P (u+1) u' c:=⟨bZ h.1,nofun,by rw[Nat.succ_sub h.1];exact h.2.imp (λb=>⟨aT h.1,b⟩) id⟩
theorem Ln.nil:Ln 0 d P u u 0:=⟨cO _,λY=>cO _,.inl (by rw[Zn9];show 0+P<=0+1*P;simp+arith only)⟩
theorem Un{c_:Prop}(h:Bn d P u u1 c1)(l2:u'<=u1)(h1:u1<u->c1<=tA (u-u1)+tK (u-u1)*P->c_)(h2:u1=0->u'=0->c1<=tA (u-u')+tK (u-u')*P+(4*d+2)->c_):c_:=
 h.2.2.elim (λh=>h1 h.1 h.2) λh=>have e:=ah.mp (c7 l2 (cV h.1));h2 h.1 e (by rw[e,<-h.1];exact h.2)
theorem Ln.cons(hu:u<=10)(h:Bn d P u u1 c1)(h':Ln k d P u1 u' c2):Ln (k+1) d P u u' (c1+c2+1):=by
 refine⟨c7 h'.1 h.1,λz=>?_,Un h h'.1 (λp b1=>?_) λp p' b1=>?_⟩
 ·rw[h.2.1 z,a_];exact cu (h'.2.1 (ah.mp (z▸h.1)))
 ·have t:=(tab hu h'.1 p).1
  have q:=Hy t.2 P
  exact h'.2.2.imp (λb2=>Z7 b1 (Z7 b2 (Z7 t.1 (Z7 q)))) λb2=>⟨b2.1,Z7 b1 (Z7 b2.2 (Z7 t.1 (Z7 q)))⟩
 ·have t:=yG (u-u') (cD (Zv0 _ _) (aT hu))
  exact .inr ⟨p',Z7 b1 (Z7 (h'.2.1 p) (Z7 t.1 (Z7 (yF t.2.1 P))))⟩
theorem Ln.in(hk:k<=4)(h:Ln k d P u u' c)(hr:c1<=c+P):In (d+1) P u u' c1:=⟨h.1,h.2.2.imp (λb=>c7 hr b) λb=>⟨b.1,Z7 hr (Z7 b.2 (Z7 hk))⟩⟩
theorem Bn.app(hu:u<=10)(hk:k<=4)(hr:r<=2)(h:Bn d P u u1 c1)(h':Ln k d P u1 u' c2):In (d+1) P u u' (c2+(c1+r)):=by
 refine⟨c7 h'.1 h.1,Un h h'.1 (λp b1=>?_) λp p' b1=>.inr ⟨p',?_⟩⟩
 ·have t:=(tab hu h'.1 p).1
  have q:=Hy t.2 P
  exact h'.2.2.imp (λb2=>Z7 b2 (Z7 b1 (Z7 hr (Z7 t.1 (Z7 q))))) λb2=>⟨b2.1,Z7 b2.2 (Z7 b1 (Z7 hr (Z7 t.1 (Z7 q (Z7 hk)))))⟩
 ·have z:=h'.2.1 p
  rcases Zv8 u with e|e
  ·rw[h.2.1 e];exact Z7 z (Z7 hk (Z7 hr))
  ·have t:=yG (u-u') (cD (Zv0 _ _) (aT hu))
   exact Z7 z (Z7 hk (Z7 hr (Z7 b1 (Z7 (t.2.2 (by rw[p'];exact e)) (Z7 (yF t.2.1 P))))))
theorem Um(hu:u<=10)(hc:c<=c1+4)(b1:c1<=tA (u-u')+tK (u-u')*P+(4*d+2)):c<=tA (u-u'+1)+tK (u-u'+1)*P+(4*(d+1)+2):=by
 have t:=yG (u-u') (cD (Zv0 _ _) (aT hu))
 exact Z7 hc (Z7 b1 (Z7 t.1 (Z7 (yF t.2.1 P))))
theorem Bn.tC(hu:u<=10)(h:Bn d P u u1 c1)(h':Bn d P u1 u' c2)(hc:c<=c1+c2+4):In (d+1) P u u' c:=by
 refine⟨c7 h'.1 h.1,Un h h'.1 (λp b1=>?_) λp p' b1=>.inr ⟨p',Um hu (by rw[h'.2.1 p]at hc;exact hc) b1⟩⟩
 rcases h'.2.2 with b2|b2
 ·have t:=((tab hu h'.1 p).2.2 b2.1).1
  exact .inl (Z7 hc (Z7 b1 (Z7 b2.2 (Z7 t.1 (Z7 (Hy t.2 P))))))
 ·rcases Zv8 u1 with e|e
  ·exact .inr ⟨b2.1,Um hu (by rw[h'.2.1 e]at hc;exact hc) (by rw[b2.1,<-e];exact Zv9 b1)⟩
  ·have t:=((tab hu h'.1 p).2.2 (by rw[b2.1];exact e)).1
   exact .inr ⟨b2.1,Z7 hc (Z7 b1 (Z7 b2.2 (Z7 t.1 (Z7 (Hy t.2 P)))))⟩
theorem Bn.ZT(hu:u<=10)(hr:r<=2)(h:Bn d P u u1 c1)(h':Bn (d+1) (max P (c1+r)) u1 u' c2):In (d+1) P u u' (c2+(c1+r)+1):=by
 have hc:c2=0->c2+(c1+r)+1<=c1+4:=λz=>by rw[z];exact Z7 hr
 refine⟨c7 h'.1 h.1,Un h h'.1 (λp b1=>?_) λp p' b1=>.inr ⟨p',Um hu (hc (h'.2.1 p)) b1⟩⟩
 have t:=tab hu h'.1 p
 refine jC (tA (u-u1)+tK (u-u1)*P+2) λX hX=>?_
 have hm:max P (c1+r)<=X:=Nat.max_le.mpr ⟨Z7 (Nat.le_mul_of_pos_left P t.2.1) (Z7 (cV hX)),Z7 hr (Z7 b1 (Z7 (cV hX)))⟩
 have big:∀{k},u'<u1->c2<=tA (u1-u')+tK (u1-u')*X+k->c2+(c1+r)+1<=tA (u-u'+1)+tK (u-u'+1)*P+k:=λ{k} p2 b2=>by
  have q:=(t.2.2 p2).2
  have e:tK (u1-u')*X+X=(tK (u1-u')+1)*(tA (u-u1)+2)+(tK (u1-u')+1)*tK (u-u1)*P:=by
   rw[<-hX,show tA (u-u1)+tK (u-u1)*P+2=(tA (u-u1)+2)+tK (u-u1)*P by simp+arith only,Nat.mul_assoc,<-Zg1,Nat.add_mul,Nat.one_mul]
  exact Z7 b2 (Z7 hr (Z7 b1 (Z7 (cV hX) (Z7 (cV e) (Z7 q.1 (Z7 (Zg7 P q.2)))))))
 have mx:=aX (tK (u1-u')) hm
 rcases h'.2.2 with b2|b2
 ·exact .inl (big (k:=0) b2.1 (Z7 b2.2 (Z7 mx)))
 ·rcases Zv8 u1 with e|e
  ·exact .inr ⟨b2.1,Um hu (hc (h'.2.1 e)) (by rw[b2.1,<-e];exact Zv9 b1)⟩
  ·exact .inr ⟨b2.1,big (by rw[b2.1];exact e) (Z7 b2.2 (Z7 mx))⟩
end
structure GP where
 dk:Ad
 b:Ad
 w:Wp
 lf:Ad
 t1:Ad
 t2:Ad
 td:Ad->Option Ad
 wd:Ad
structure Gs(g:GP)(c:Nat)(l:Int)(U:US):Prop where
 dk:L9 g.dk g.b U
 wo:Wo g.w c U
 lf:U g.lf=some (.list [.int l,.lst [.ref g.t1,.ref g.t2]])
 tS:WG g.td U
 n2:∀x,JY g.td x->¬KI g.w x
 i1:tx g.td g.t1
 i2:tx g.td g.t2
 wd:U g.wd=some (.di Wy)
noncomputable def un(l:Int):Nat:=(l-1).toNat
theorem tB(h:0<l-1):un l=un (l-1)+1:=by
 unfold un
 revert h
 refine gen (l-1) λx h=>?_
 induction x using jI with
 |ofNat k=>induction k using jN with
  |zero=>exact absurd h (Ze6 0)
  |succ k=>show k+1=((k:Int)+1-1).toNat+1;rw[Zs4];rfl
 |negSucc k=>exact absurd (Zo1 h (aK k)) (Ze6 0)
theorem tw(l:Int):un (l-1)<=un l:=Int.toNat_le_toNat (Int.sub_le_self _ (by decide))
theorem tu(e:un (l-1)≠0):un (l-1)<un l:=by
 by_cases h:0<l-1
 ·rw[tB h];exact Zz1 _
 ·exact absurd (Int.toNat_of_nonpos (Zt4 (Int.sub_le_self _ (by decide)) (Ze5.mp h))) e
abbrev TR:=List (Nat×Option (Nat×Bool))
noncomputable def L5:Option (Nat×Bool)->AV
 |none=>.str 72
 |some (m,r)=>.tup [fO m,.bool r]
noncomputable abbrev Xb(s:TR):List AV:=s.map λe=>.tup [fO e.1,L5 e.2]
def DL(s:TR):Sc:=λx=>(x,none)∈s
def wY(s:TR):Sc:=λx=>∃q,(x,some q)∈s
def Ww(s:TR):Prop:=∀x m r,(x,some (m,r))∈s->m<=2
structure Rg(c c':Nat)(f:Nat->Nat):Prop where
 le:c<=c'
 r:∀x,f x<=1/\(f x≠0->c<x/\x<=c')
structure Gt(td:Ad->Option Ad)(s:TR)(c c':Nat)(t:T):Prop where
 w:t.wf
 s:t.sc (DL s) (wY s)
 g:Rg c c' t.tc
 cs:(toN t).cs (tx td)
def s_(R:Nat->Nat->Prop)(t:T):Prop:=∀P B,(∀x,Pl.YD (B x)<=P)->R P (fQ t B).n
section
variable{g:GP}{c c' c1 n d:Nat}{l:Int}{U U':US}{s:TR}{Q:fP}{E:US->Prop}{f f':Nat->Nat}{td:Ad->Option Ad}
theorem Ce{a b lo mid hi x:Nat}(h1:lo<=mid)(h2:mid<=hi)(ha:a<=1/\(a≠0->lo<x/\x<=mid))(hb:b<=1/\(b≠0->mid<x/\x<=hi)):a+b<=1/\(a+b≠0->lo<x/\x<=hi):=by
 induction a using jN with
 |zero=>rw[a_];exact⟨hb.1,λh=>⟨cD h1 (hb.2 h).1,(hb.2 h).2⟩⟩
 |succ a=>
  have p:=ha.2 (Zq1 a)
  induction b using jN with
  |zero=>exact⟨ha.1,λY=>⟨p.1,c7 p.2 h2⟩⟩
  |succ b=>exact absurd p.2 (Zm5.mpr (hb.2 (Zq1 b)).1)
theorem Rg.add(h:Rg c c1 f)(k:Rg c1 c' f'):Rg c c' λx=>f x+f' x:=⟨c7 h.le k.le,λx=>Ce h.le k.le (h.r x) (k.r x)⟩
theorem Rg.eq(h:Rg c c' f)(k:∀x,f x=f' x):Rg c c' f':=funext k▸h
theorem Rg.one:Rg c (c+1) λx=>[c+1].count x:=⟨bH c,λx=>by
 by_cases e:x=c+1
 ·subst e;rw[List.count_singleton_self];exact⟨cO _,λY=>⟨Zz1 _,cO _⟩⟩
 ·rw[Zt1.mpr λm=>e (cP.mp m)];exact⟨bV _,λz=>absurd rfl z⟩⟩
theorem Rg.nil:Rg c c λY=>0:=⟨cO _,λY=>⟨bV _,λz=>absurd rfl z⟩⟩
theorem Gs.of(h:Gs g c l U)(k:L9 g.dk g.b U')(f:Zf (yM g.dk g.b) U U'):Gs g c l U':=by
 obtain⟨is,cs,m,hc,e1,e2⟩:=h.dk
 have off:∀{a o},U a=some o->(∀xs,o≠.list xs)->U' a=some o:=λ{a o} e n=>(f.eq a (λz=>by
  rcases z with rfl|rfl
  ·rw[e1]at e;exact n _ (cU e).symm
  ·rw[e2]at e;exact n _ (cU e).symm) (by rw[e];exact cG _)).trans e
 refine⟨k,⟨off h.wo.o (λY h=>xA h rfl),off h.wo.f (λY h=>xA h rfl),off h.wo.p (λY h=>xA h rfl)⟩,(f.eq _ (λz=>?_) (by rw[h.lf];exact cG _)).trans h.lf,λa d e=>?_,h.n2,h.i1,h.i2,off h.wd (λY h=>xA h rfl)⟩
 ·have e:=h.lf
  rcases z with z|z
  ·rw[z,e1]at e;exact xL e rfl
  ·rw[z,e2]at e
   induction is using jL with
   |nil=>exact xL e rfl
   |cons x is=>induction is using jL with
    |nil=>exact xL e rfl
    |cons y is=>exact xN e 1 rfl
 ·obtain⟨x,fs,y⟩:=h.tS a d e
  exact⟨off x (λY h=>xA h rfl),fs,off y (λY h=>xA h rfl)⟩
theorem Gs.draw(h:Gs g c l U)(hm:0<m)(h2:m<1000)(q:∀r U',r<m->Gs g c l U'->Q (fO r) U'):Z8 (n+1) 57 [.ref g.dk,fO m] Q E U:=
 HE hm h2 h.dk λr U' lr k f=>q r U' lr (h.of k f)
theorem Gs.one(h:Gs g c l U)(h0:xs≠[])(h1:xs.length<1000)(q:∀x U',x∈xs->Gs g c l U'->Q x U'):Z8 (n+2) 58 [.ref g.dk,.lst xs] Q E U:=
 tG h0 h1 h.dk λx U' m k f=>q x U' m (h.of k f)
theorem Gs.fresh(h:Gs g c l U)(q:∀U',Gs g (c+1) l U'->Q (fO (c+1)) U'):Z8 (n+1) 373 [.ref g.w.a] Q E U:=
 Qw h.wo λk=>q _ ⟨by
  refine hG ?_;intro PP
  obtain⟨is,cs,m,hc,e1,e2⟩:=h.dk
  exact⟨is,cs,m,hc,(Z9 (ZI e1 h.wo.f (xO · rfl))).trans e1,(Z9 (ZI e2 h.wo.f (xO · rfl))).trans e2⟩,k,(Z9 (ZI h.lf h.wo.f (xO · rfl))).trans h.lf,λa d e=>by
  refine hG ?_;intro PP
  obtain⟨x,fs,y⟩:=h.tS a d e
  have n1:∀z,JY g.td z->z≠g.w.d:=λz m e=>h.n2 z m (e▸.inr (.inl rfl))
  exact⟨(Z9 (n1 a ⟨a,d,e,.inl rfl⟩)).trans x,fs,(Z9 (n1 d ⟨a,d,e,.inr rfl⟩)).trans y⟩,h.n2,h.i1,h.i2,(Z9 (ZI h.wd h.wo.f (xO · rfl))).trans h.wd⟩
theorem Gs.left(h:Gs g c l U)(l':Int):Gs g c l' (upd U g.lf (some (.list [.int l',.lst [.ref g.t1,.ref g.t2]]))):=by
 refine hG ?_;intro PP
 obtain⟨is,cs,m,hc,e1,e2⟩:=h.dk
 have n1:g.dk≠g.lf:=ZI e1 h.lf (xL · rfl)
 have n2:g.b≠g.lf:=ZI e2 h.lf λz=>by
  induction is using jL with
  |nil=>exact xL z rfl
  |cons x is=>induction is using jL with
   |nil=>exact xL z rfl
   |cons y is=>exact xN z 1 rfl
 refine⟨⟨is,cs,m,hc,(Z9 n1).trans e1,(Z9 n2).trans e2⟩,⟨(Z9 (ZI h.wo.o h.lf (xO · rfl))).trans h.wo.o,(Z9 (ZI h.wo.f h.lf (xO · rfl))).trans h.wo.f,(Z9 (ZI h.wo.p h.lf (xO · rfl))).trans h.wo.p⟩,Z_,λa d e=>?_,h.n2,h.i1,h.i2,(Z9 (ZI h.wd h.lf (xO · rfl))).trans h.wd⟩
 refine hG ?_;intro PP
 obtain⟨x,fs,y⟩:=h.tS a d e
 exact⟨(Z9 (ZI x h.lf (xO · rfl))).trans x,fs,(Z9 (ZI y h.lf (xO · rfl))).trans y⟩
end
noncomputable def plain:TR->List Nat
 |[]=>[]
 |(x,none)::s=>x::plain s
 |(_,some _)::s=>plain s
theorem Ul{x:Nat}:∀{s:TR},x∈plain s->DL s x
 |(y,none)::s,h=>(cJ.mp h).elim (λe=>by rw[e];exact .head _) λh=>.tail _ (Ul h)
 |(_,some _)::s,h=>.tail _ (Ul h)
theorem plain_len:∀{s:TR},(plain s).length<=s.length
 |[]=>cO _
 |(y,none)::s=>cu plain_len
 |(_,some _)::s=>bZ (plain_len (s:=s))
theorem PI{α:Type}{xs:List α}{f:α->AV}{k:Nat}{zs:List AV}(h:xs≠[])(e:zs=(xs.map f).drop ((xs.map f).length-(k+1))):zs≠[]/\(zs.length<=xs.length/\zs.length<=k+1)/\∀z∈zs,∃x∈xs,z=f x:=by
 have l:zs.length=xs.length-(xs.length-(k+1)):=by rw[e,Zq4,cM]
 refine⟨λz=>?_,l▸⟨Zv0 _ _,Nat.sub_le_of_le_add (aH _ _▸KJ _ _)⟩,λz m=>(bu.mp (Zg8 (e▸m))).imp λx a=>⟨a.1,a.2.symm⟩⟩
 rw[z]at l
 exact Zz9 (Nat.sub_pos_of_lt (Nat.sub_lt (Zo6.mpr h) (Ze2 k))) l.symm
section
variable{g:GP}{c c' c1 n d:Nat}{l:Int}{U U':US}{s:TR}{Q:fP}{E:US->Prop}{td:Ad->Option Ad}
theorem Hx(q:Option (Nat×Bool)){K:Bool->Prop}(h:K (match q with|none=>true|some _=>false)):xx (L5 q) (.str 72) K U:=by
 induction q using jO with
 |none=>exact PV rfl rfl rfl h
 |some q=>exact PV rfl rfl rfl h
theorem Uk{C:ZV}{L:Loc}{i j:Nat}{QQ:List AV->US->Prop}(h1:∀x y:AV,((L.set i (some x)).set j (some y):List (Option AV))[i]?=some (some x))(h2:∀x y:AV,((L.set i (some x)).set j (some y):List (Option AV))[j]?=some (some y)):∀(s:TR) (acc:List AV),QQ (acc++fN (plain s)) U->
 Zo (λx K U2=>ZB [i,j] x L λL'=>ZK C E (.b .geq (.loc j) (.cst (.str 72))) L' (λb U3=>Wk b λb=>K b U3) U2) (λx K U2=>ZB [i,j] x L λL'=>ZK C E (.loc i) L' K U2) (Xb s) acc QQ U
 |[],acc,q=>by rw[show fN (plain [])=[]from rfl,cB]at q;exact q
 |(x,none)::s,acc,q=>XR (h2 _ _) (Hx none (XR (h1 _ _) (Uk h1 h2 s _ (by rw[cz];exact q))))
 |(x,some p)::s,acc,q=>XR (h2 _ _) (Hx (some p) (Uk h1 h2 s _ q))
theorem PG{h:Hd}(ar:h.ar 0=true)(v:∀x,h.var=some x->DL s x)(k:(toN (.node h .nil)).cs (tx td)):Gt td s c c (.node h .nil):=⟨⟨ar,rfl,trivial⟩,⟨v,trivial⟩,.nil,k⟩
theorem yE(hs:s.length<=100)(h:Gs g c l U)(q:∀t U',Gs g c l U'->t.Zw=true->Gt g.td s c c t->(∀B,(fQ t B).n=0)->Q (toN t).av U'):Z8 (n+3) 70 [.ref g.dk,.lst (Xb s),.ref g.lf] Q E U:=by
 have fin:∀{U'},Gs g c l U'->ZK (Z8 (n+2)) E (match lP.Z5 with|.guard _ _ (.ret e)=>e|_=>.nil) [some (.ref g.dk),some (.lst (Xb s)),some (.ref g.lf),some (.lst (fN (plain s))),none,none] Q U':=λ{U'} h=>by
  refine ZJ h.lf ⟨cL rfl,rfl,h.one (rW ·) (cL rfl) λx U2 m h2=>o_ ?_⟩
  have cn:∀v:fL,CV (tx g.td) (vc v)->Q (.inst 3 [vc v]) U2:=λv k=>q (.node (.const v) .nil) U2 h2 rfl (PG rfl (λY h=>ZE h) ⟨k,trivial⟩) λY=>rfl
  have m:x∈[AV.int 0,.int 1,.bool false,.bool true,.g 24,.ref g.t1,.ref g.t2]:=m
  rcases cJ.mp m with rfl|m
  ·exact cn (.int 0) trivial
  rcases cJ.mp m with rfl|m
  ·exact cn (.int 1) trivial
  rcases cJ.mp m with rfl|m
  ·exact cn (.bool false) trivial
  rcases cJ.mp m with rfl|m
  ·exact cn (.bool true) trivial
  rcases cJ.mp m with rfl|m
  ·exact cn .empty rfl
  rcases cJ.mp m with rfl|m
  ·exact cn (.text g.t1) h2.i1
  rw[cP]at m
  subst m
  exact cn (.text g.t2) h2.i2
 refine go (Uk (λY Y=>rfl) (λY Y=>rfl) s [] ?_)
 show wpS _ _ _ _ [some (.ref g.dk),some (.lst (Xb s)),some (.ref g.lf),some (.lst (fN (plain s))),none,none] U
 by_cases e:plain s=[]
 ·rw[e]at fin⊢
  exact⟨rfl,fin h⟩
 ·refine⟨rfl,Zu (b:=!(fN (plain s)).isEmpty) (by induction q:plain s using jL with|nil=>exact absurd q e|cons=>rfl) ⟨rfl,h.draw (by decide) (by decide) λr U1 Y h1=>?_⟩⟩
  refine ZC (fh (.ofNat 0) (.ofNat r)) (λY=>?_) λY=>fin h1
  refineλzs hz=>⟨rfl,?_⟩
  obtain⟨a,⟨b,_⟩,k⟩:=PI (xs:=_) (f:=fO) (k:=2) e hz
  refine h1.one a (by have:=plain_len (s:=s);exact Z7 b (Z7 this (Z7 hs))) λx U2 m h2=>?_
  obtain⟨x,mx,rfl⟩:=k x m
  exact BG (q (.node (.loc x) .nil) U2 h2 rfl (PG rfl (λy e=>by cases e;exact Ul mx) ⟨trivial,trivial⟩) λY=>rfl)
end
def VQ(g:GP)(d:Nat)(s:TR)(c:Nat)(l:Int)(Q:fP):Prop:=∀t c' l' U',Gs g c' l' U'->t.Zw=true->Gt g.td s c c' t->s_ (λP k=>Bn d P (un l) (un l') k) t->Q (toN t).av U'
def Vv(g:GP)(u0:Nat):Prop:=∀{n d c:Nat} {l:Int} {s:TR} {U:US} {Q:fP} {E:US->Prop},4*u0+6<=n->un l<=u0->s.length+4*un l<=100->Ww s->Gs g c l U->VQ g d s c l Q->Z8 n 76 [.ref g.dk,.ref g.w.a,.lst (Xb s),fO d,.ref g.lf] Q E U
def LQ(g:GP)(k d:Nat)(s:TR)(c:Nat)(l:Int)(R:List AV->US->Prop):Prop:=∀as c' l' U',Gs g c' l' U'->as.Zw=false->as.len=k->Gt g.td s c c' as->s_ (λP m=>Ln k d P (un l) (un l') m) as->R (toN as).ZS U'
noncomputable def yD:X:=.call (.glob 49 (.g 76)) (.cons (.loc 0) (.cons (.loc 1) (.cons (.loc 2) (.cons (.b .sub (.loc 3) (.cst (.int (.ofNat 1)))) (.cons (.loc 4) .nil)))))
structure KR(td:Ad->Option Ad)(s:TR)(c c' lb:Nat)(ps:List Nat)(r:Option Nat)(b:T):Prop where
 e:b.Zw=true
 w:b.wf
 s:b.sc (λx=>x∈bs ps r\/DL s x) (wY s)
 p:ps.length<=2
 g:Rg c c' λx=>(lb::bs ps r).count x+b.tc x
 cs:(toN b).cs (tx td)
def s9(g:GP)(d:Nat)(s:TR)(c:Nat)(l:Int)(Q:fP):Prop:=∀lb ps r b c' l' U',Gs g c' l' U'->KR g.td s c c' lb ps r b->s_ (λP k=>Bn d P (un l) (un l') k) b->Q (Vk lb ps r (toN b).av) U'
section
variable{g:GP}{c c' c1 n d u0:Nat}{l l':Int}{U U':US}{s:TR}{Q:fP}{E:US->Prop}{td:Ad->Option Ad}{t as:T}
theorem KQ(h:z=Zt0 (d+1)-Zt0 1):z=.ofNat d:=h.trans (Zs4 (d:Int) 1)
theorem Vv.gm(H:Vv g u0)(hn:4*u0+6<=n)(hu:un l<=u0)(hl:s.length+4*un l<=100)(ok:Ww s)(h:Gs g c l U)(q:VQ g d s c l Q):
 ZK (Z8 n) E yD (some (.ref g.dk)::some (.ref g.w.a)::some (.lst (Xb s))::some (fO (d+1))::some (.ref g.lf)::x5) Q U:=
  λz hz=>by rw[KQ hz];exact⟨rfl,H hn hu hl ok h q⟩
theorem Gt.cons(a:Gt td s c c1 t)(e:t.Zw=true)(b:Gt td s c1 c' as)(e':as.Zw=false):Gt td s c c' (.cons t as):=⟨⟨⟨e,a.w⟩,e',b.w⟩,⟨a.s,b.s⟩,a.g.add b.g,⟨a.cs,b.cs⟩⟩
theorem S2(H:Vv g u0)(hn:4*u0+6<=n)(h10:u0<=10)(ok:Ww s):∀(xs:List AV) {acc:List AV} {c:Nat} {l:Int} {U:US} {QQ:List AV->US->Prop},un l<=u0->s.length+4*un l<=100->Gs g c l U->LQ g xs.length d s c l (λys U'=>QQ (acc++ys) U')->
 Zo (λY K U2=>K true U2) (λx K U2=>ZB [j+5] x (some (.ref g.dk)::some (.ref g.w.a)::some (.lst (Xb s))::some (fO (d+1))::some (.ref g.lf)::x5) λL'=>ZK (Z8 n) E yD L' K U2) xs acc QQ U:=by
  refine hM ?_;intro MM xs;induction xs with
  |nil=>
   intro acc c l U QQ _ _ h q
   have:QQ (acc++[]) U:=q .nil c l U h rfl rfl ⟨trivial,trivial,.nil,trivial⟩ λY Y Y=>.nil
   rwa [cB]at this
  |cons x xs ih=>
   intro acc c l U QQ hu hl h q
   exact H.gm (x5:=x5.set j (some x)) hn hu hl ok h λt c1 l1 U1 h1 e1 g1 k1=>by
    have lu:un l1<=un l:=(k1 0 (λY=>none) λY=>cO _).1
    refine ih (c7 lu hu) (Z7 hl (Z7 lu (Z7 lu (Z7 lu (Z7 lu))))) h1 λas c' l' U' h' e' n' g' k'=>?_
    show QQ (acc++[(toN t).av]++(toN as).ZS) U'
    rw[cz,<-(ZP (toN_E e1)).1]
    exact q (.cons t as) c' l' U' h' rfl (congrArg (·+1) n') (g1.cons e1 g' e') λP B z=>.cons (c7 hu h10) (k1 P B z) (k' P B z)
theorem Gs.RK(hL:(L:List (Option AV))[1]?=some (some (.ref g.w.a)))(h:Gs g c l U)(q:∀U',Gs g (c+1) l U'->Q (fO (c+1)) U'):ZK (Z8 (n+1)) E (.SY (.loc 1) 9 .nil) L Q U:=
 XR hL (ZX h.wo.o (ZY h.wo.f (h.fresh q)))
theorem Hw(hL:∀x:AV,(L.set j (some x):List (Option AV))[1]?=some (some (.ref g.w.a))):∀(xs:List AV) {acc:List AV} {c:Nat} {U:US} {QQ:List AV->US->Prop},Gs g c l U->
 (∀ps c' U',Gs g c' l U'->ps.length=xs.length->Rg c c' (λx=>ps.count x)->QQ (acc++fN ps) U')->
 Zo (λY K U2=>K true U2) (λx K U2=>ZB [j] x L λL'=>ZK (Z8 (n+1)) E (.SY (.loc 1) 9 .nil) L' K U2) xs acc QQ U:=by
  refine hM ?_;intro MM xs;induction xs with
  |nil=>
   intro acc c U QQ h q
   have:QQ (acc++[]) U:=q [] c U h rfl .nil
   rwa [cB]at this
  |cons x xs ih=>
   intro acc c U QQ h q
   exact h.RK (hL x) λU1 h1=>ih h1 λps c' U' h' e' r'=>by
    rw[cz]
    exact q ((c+1)::ps) c' U' h' (congrArg (·+1) e') ((Rg.one.add r').eq λx=>by rw[<-bM];rfl)
theorem L4{x:Nat}{ns:List Nat}:DL (s++ns.map (·,none)) x->x∈ns\/DL s x:=λh=>(bX.mp h).elim .inr λm=>.inl (by obtain⟨y,a,b⟩:=bu.mp m;cases b;exact a)
theorem L1{x:Nat}{ns:List Nat}:wY (s++ns.map (·,none)) x->wY s x:=λZ=>eE Z λq h=>(bX.mp h).elim (λh=>⟨q,h⟩) λm=>by obtain⟨y,a,b⟩:=bu.mp m;cases b
theorem Og{ns:List Nat}(h:Ww s):Ww (s++ns.map (·,none)):=λx m r e=>(bX.mp e).elim (h x m r) λm=>by obtain⟨y,a,b⟩:=bu.mp m;cases b
theorem VZ{a x:Nat}{m:List Nat}:(a::m).count x=m.count x+[a].count x:=by rw[aH,<-bM];rfl
end
section
variable{g:GP}{c c' c1 n d u0:Nat}{l l':Int}{U U':US}{s:TR}{Q:fP}{E:US->Prop}{td:Ad->Option Ad}{t as:T}
noncomputable def j7:S:=lO.Z5.Z5
theorem PF:Xb (s++s')=Xb s++Xb s':=bw
theorem KP(hL:∀x:AV,(L.set j (some x):List (Option AV))[j]?=some (some x)):∀(ns:List Nat) {acc:List AV},QQ (acc++Xb (ns.map (·,none))) U->
 Zo (λY K U2=>K true U2) (λx K U2=>ZB [j] x L λL'=>ZK C E (.u .dT (.cons (.loc j) (.cons (.cst (.str 72)) .nil))) L' K U2) (fN ns) acc QQ U:=by
  refine hM ?_;intro MM ns;induction ns with
  |nil=>
   intro acc q
   rw[show Xb (([]:List Nat).map (·,none))=[]from rfl,cB]at q;exact q
  |cons x ns ih=>
   intro acc q
   exact XR (hL _) (ih (by rw[cz];exact q))
theorem LZ(H:Vv g u0)(hn:4*u0+6<=n+1)(hu:un l<=u0)(hl:s.length+4*un l+3<=100)(ok:Ww s)(h:Gs g c1 l U)(hp:ps.length<=2)(hb:Rg c0 c1 λx=>(bs ps r).count x)(q:s9 g d s c0 l Q):
 wpS (Z8 (n+1)) j7 (YC Q) (Y8 E) [some (.ref g.dk),some (.ref g.w.a),some (.lst (Xb s)),some (fO (d+1)),some (.ref g.lf),some (.lst (fN ps)),some (.int (TL r)),x8,none,x9,gk] U:=by
  have lb:(bs ps r).length<=3:=c7 (QA ps r) (cu hp)
  have mL:wpS (Z8 (n+1)) j7.Z5 (YC Q) (Y8 E) [some (.ref g.dk),some (.ref g.w.a),some (.lst (Xb s)),some (fO (d+1)),some (.ref g.lf),some (.lst (fN ps)),some (.int (TL r)),some (.lst (fN (bs ps r))),none,x9,gk] U:=by
   refine KP (λY=>rfl) (bs ps r) (acc:=[]) ⟨by rw[cM,Zv6,cM,cM,Uj];exact Z7 hl (Z7 lb),λz hz=>?_⟩
   rw[KQ hz,Zv6,<-PF]
   refine⟨rfl,H hn hu (by rw[cS,cM];exact Z7 hl (Z7 lb)) (Og ok) h λt c2 l2 U2 h2 e2 g2 k2=>?_⟩
   refine h2.RK rfl λU3 h3=>NZ ?_
   refine q (c2+1) ps r t (c2+1) l2 U3 h3 ⟨e2,g2.w,Pl.Y7 g2.s (λx=>L4) λx=>L1,hp,((hb.add g2.g).add .one).eq λx=>?_,g2.cs⟩ k2
   rw[VZ (m:=bs ps r)];simp+arith only
  rw[<-L7]at mL
  induction r using jO with
  |none=>exact⟨by rw[cM,Uj];show ps.length+0<=_;exact aM hp,mL⟩
  |some x=>exact⟨by rw[cM,Uj];show ps.length+1<=_;exact cD hp (by decide),mL⟩
theorem Of(H:Vv g u0)(hn:4*u0+6<=n+1)(hu:un l<=u0)(hl:s.length+4*un l+3<=100)(ok:Ww s)(h:Gs g c l U)(q:s9 g d s c l Q):Z8 (n+2) 72 [.ref g.dk,.ref g.w.a,.lst (Xb s),fO (d+1),.ref g.lf] Q E U:=by
 refine go ⟨rfl,h.draw (by decide) (by decide) λr U1 hr h1=>⟨by rw[Uj];exact Z7 hr,?_⟩⟩
 refine Hw (λY=>rfl) _ h1 λps c2 U2 h2 e2 r2=>?_
 rw[cM,aI]at e2
 refine⟨rfl,h2.draw (by decide) (by decide) λk U3 Y h3=>?_⟩
 have hp:ps.length<=2:=Z7 (cV e2) (Z7 hr)
 refine ZC (XI (.ofNat k) (.ofNat 0)) (λY=>?_) λY=>?_
 ·exact h3.RK rfl λU4 h4=>LZ H (r:=some (c2+1)) hn hu hl ok h4 hp ((r2.add .one).eq λx=>by rw[<-bM];rfl) q
 ·exact LZ H (r:=none) hn hu hl ok h3 hp (r2.eq λx=>by rw[show bs ps none=ps from cB _]) q
theorem Hv(H:Vv g u0)(hn:4*u0+6<=n+1)(h10:u0<=10)(hu:un l<=u0)(hl:s.length+4*un l<=100)(ok:Ww s)(hm:m<=2)(h:Gs g c l U)(q:∀k,k<=4->LQ g k d s c l (λys U'=>Q (.lst ys) U')):
 Z8 (n+2) 73 [.ref g.dk,.ref g.w.a,.lst (Xb s),fO (d+1),.ref g.lf,fO m,.bool hr] Q E U:=by
  have kids:∀{r U'},r<=2->Gs g c l U'->wpS (Z8 (n+1)) qO.Z5 (YC Q) (Y8 E) [some (.ref g.dk),some (.ref g.w.a),some (.lst (Xb s)),some (fO (d+1)),some (.ref g.lf),some (fO m),some (.bool hr),some (fO r),none] U':=λ{r U'} lr h1 z hz=>by
   rw[show z=.ofNat (m+r)from hz]
   refine⟨by rw[Uj];exact Z7 hm (Z7 lr),S2 H (j:=3) (x5:=[some (fO m),some (.bool hr),some (fO r),none]) hn h10 ok ((Zw3 (m+r)).map λi=>AV.int (.ofNat i)) (acc:=[]) hu hl h1 ?_⟩
   rw[cM,aI]
   exact q (m+r) (aU hm lr)
  refine go ?_
  induction hr using jB with
  |true=>exact⟨rfl,h.draw (by decide) (by decide) λr U1 lr h1=>kids (Zx2 lr) h1⟩
  |false=>
   refine⟨rfl,h.draw (by decide) (by decide) λr U1 lr h1=>?_⟩
   have kb:∀b:Bool,uA .int (.bool b) (λv U'=>wpS (Z8 (n+1)) qO.Z5 (YC Q) (Y8 E) [some (.ref g.dk),some (.ref g.w.a),some (.lst (Xb s)),some (fO (d+1)),some (.ref g.lf),some (fO m),some (.bool false),some v,none] U') U1:=λb=>by
    induction b using jB with
    |true=>exact kids (r:=1) (by decide) h1
    |false=>exact kids (r:=0) (by decide) h1
   exact kb (XI (.ofNat r) (.ofNat 0))
end
def Cd(g:GP)(d:Nat)(s:TR)(c:Nat)(l:Int)(Q:fP):Prop:=∀t c' l' U',Gs g c' l' U'->t.Zw=true->Gt g.td s c c' t->s_ (λP k=>In d P (un l) (un l') k) t->Q (toN t).av U'
theorem RJ(h:∀x,Pl.YD (B x)<=P)(x:Nat):Pl.YD (Pl.envOf B ps r k x)<=P:=by
 have put:∀{B:Env} {y j:Nat},(∀x,Pl.YD (B x)<=P)->∀x,Pl.YD (B.put y (.cell j) x)<=P:=λ{B y j} h x=>by
  by_cases e:x=y
  ·rw[e,Pl.Yn];exact bV _
  ·rw[Pl.Zx e];exact h x
 have all:∀(ps:List Nat) {B:Env} {k:Nat},(∀x,Pl.YD (B x)<=P)->∀x,Pl.YD (Pl.putAll B ps k x)<=P:=λps=>by
  induction ps with
  |nil=>exactλh=>h
  |cons p ps ih=>exactλh=>ih (put h)
 induction r using jO with
 |none=>exact all ps h x
 |some y=>exact put (all ps h) x
theorem Hu{B:Env}{P f k:Nat}{p:List fL->Pl.D}(h:∀x,Pl.YD (B x)<=P)(x:Nat):Pl.YD (B.put f (.proc p k) x)<=max P k:=by
 by_cases e:x=f
 ·rw[e,Pl.Yn];exact Zj7 _ _
 ·rw[Pl.Zx e];exact c7 (h x) (Nat.le_max_left _ _)
theorem Cb:Pl.rr r<=2:=by induction r using jO<;>first|exact cO 2|exact bH 1
section
variable{g:GP}{c c' c1 n d u0:Nat}{l l':Int}{U U':US}{s:TR}{Q:fP}{E:US->Prop}{td:Ad->Option Ad}{t as b:T}
theorem KR.app(L:KR td s c c1 lb ps r b)(a:Gt td s c1 c' as)(e:as.Zw=false):Gt td s c c' (.app lb ps r b as):=
 ⟨⟨⟨L.e,L.w,c7 (QA ps r) (cu L.p)⟩,e,a.w⟩,⟨a.s,L.s⟩,L.g.add a.g,⟨trivial,⟨trivial,L.cs,trivial⟩,a.cs⟩⟩
theorem Ht:wY (s++[(f,some q)]) x->x=f\/wY s x:=λZ=>eE Z λq' h=>(bX.mp h).elim (λh=>.inr ⟨q',h⟩) λm=>by rw[cP]at m;cases m;exact .inl rfl
theorem Hs:DL (s++[(f,some q)]) x->DL s x:=λh=>(bX.mp h).elim id λm=>by rw[cP]at m;cases m
theorem KO(h:Ww s)(hm:m<=2):Ww (s++[(f,some (m,r))]):=λx m' r' e=>(bX.mp e).elim (h x m' r') λz=>by rw[cP]at z;cases z;exact hm
theorem KR.ZT{a f lb c2:Nat}{ps:List Nat}{r:Option Nat}{q:Nat×Bool}(hf:Rg c c2 λx=>[f].count x+[a].count x)(L:KR td s c2 c1 lb ps r b)(a':Gt td (s++[(f,some q)]) c1 c' t)(e:t.Zw=true):Gt td s c c' (.ZT a f lb ps r b t):=
 ⟨⟨⟨L.e,L.w,c7 (QA ps r) (cu L.p)⟩,e,a'.w⟩,⟨L.s,Pl.Y7 a'.s (λx=>Hs) λx=>Ht⟩,((hf.add L.g).add a'.g).eq λx=>by
  show _=([a]++([f]++(lb::bs ps r))).count x+b.tc x+t.tc x
  rw[bM,bM];simp+arith only,⟨trivial,⟨trivial,a'.cs,trivial⟩,⟨trivial,L.cs,trivial⟩,trivial⟩⟩
theorem Hr(r:Option Nat){P:Bool->Prop}(q:P r.isSome):P (!fh (TL r) (.ofNat 0)):=by induction r using jO<;>exact q
theorem Ca(H:Vv g u0)(hn:4*u0+6<=n+1)(h10:u0<=10)(hu:un l<=u0)(hl:s.length+4*un l+4<=100)(ok:Ww s)(h:Gs g c l U)(q:Cd g (d+1) s c l Q):Z8 (n+3) 71 [.ref g.dk,.ref g.w.a,.lst (Xb s),fO (d+1),.ref g.lf] Q E U:=by
 refine go (h.RK rfl λU1 h1=>h1.RK rfl λU2 h2=>⟨rfl,h2.draw (by decide) (by decide) λk U3 Y h3=>?_⟩)
 have rf:Rg c (c+2) λx=>[c+1].count x+[c+2].count x:=Rg.one.add .one
 have hn1:4*u0+6<=n+2:=bZ hn
 refine ZC (XI (.ofNat k) (.ofNat 0)) (λY=>?_) λY=>⟨?_⟩
 ·
  refineλz hz=>?_
  rw[KQ hz]
  refine⟨rfl,H hn1 hu (c7 (cR _ _) hl) ok h3 λv c4 l4 U4 h4 e4 g4 k4=>⟨by rw[cM,Uj];show s.length+1<=_;exact Z7 hl,λz hz=>?_⟩⟩
  rw[KQ hz,show Xb s++[AV.tup [fO (c+1),.str 72]]=Xb (s++[c+1].map (·,none))from(PF (s:=s) (s':=[c+1].map (·,none))).symm]
  have lu:=(k4 0 (λY=>none) λY=>cO _).1
  refine⟨rfl,H hn1 (c7 lu hu) (by rw[cS];show s.length+1+_<=_;exact Z7 hl (Z7 lu (Z7 lu (Z7 lu (Z7 lu))))) (Og ok) h4 λb c5 l5 U5 h5 e5 g5 k5=>NZ (UN ?_)⟩
  have L:KR g.td s c c5 (c+2) [c+1] none b:=⟨e5,g5.w,Pl.Y7 g5.s (λx=>L4) λx=>L1,bH 1,⟨c7 (c7 (cR c 2) g4.g.le) g5.g.le,λx=>?_⟩,g5.cs⟩
  have G:Gt g.td s c c5 (.app (c+2) [c+1] none b (.cons v .nil)):=⟨⟨⟨e5,g5.w,cL rfl⟩,rfl,⟨e4,g4.w⟩,rfl,trivial⟩,⟨⟨g4.s,trivial⟩,L.s⟩,((rf.add g4.g).add g5.g).eq λx=>?_,⟨trivial,⟨trivial,g5.cs,trivial⟩,g4.cs,trivial⟩⟩
  ·have:=q _ c5 l5 U5 h5 rfl G λP B z=>?_
   ·rw[PN e5]at this
    rw[show(toN (T.cons v .nil)).ZS=[(toN v).av] by show(toN v).ZS++[]=_;rw[(ZP (toN_E e4)).1];rfl]at this
    exact this
   ·exact Bn.tC (c7 hu h10) (k4 P B z) (k5 P (Pl.envOf B [c+1] none 0) (RJ z)) (by show(fQ v B).n+0+1+((fQ b (Pl.envOf B [c+1] none 0)).n+1)<=_;simp+arith only)
  ·show _=((c+2)::bs [c+1] none).count x+b.tc x+(v.tc x+0)
   have e:((c+2)::bs [c+1] none).count x=[c+1].count x+[c+2].count x:=VZ
   exact bF (Z7 (cV e.symm)) (Z7 (cV e))
  ·have a:=rf.r x
   have b':=g4.g.r x
   have c':=g5.g.r x
   have l4:=g4.g.le
   have l5:=g5.g.le
   have e:((c+2)::bs [c+1] none).count x=[c+1].count x+[c+2].count x:=VZ
   rw[e]
   exact Ce (cR c 2) (c7 l4 l5) a ⟨c'.1,λh=>⟨cD l4 (c'.2 h).1,(c'.2 h).2⟩⟩
 ·
  refine⟨rfl,Of H hn hu (Zx1 hl) ok h3 λlb ps r b c4 l4 U4 h4 L k4=>?_⟩
  have sz:=L.p
  refine⟨by rw[cM,Uj];show s.length+1<=_;exact Z7 hl,rfl,?_⟩
  refine Hr r (P:=λrs=>Z8 (n+2) 76 [.ref g.dk,.ref g.w.a,.lst (Xb s++[.tup [fO (c+1),.tup [fO (fN ps).length,.bool rs]]]),fO (d+1),.ref g.lf] _ _ _) ?_
  rw[cM,show Xb s++[AV.tup [fO (c+1),.tup [fO ps.length,.bool r.isSome]]]=Xb (s++[(c+1,some (ps.length,r.isSome))])from(PF (s:=s) (s':=[(c+1,some (ps.length,r.isSome))])).symm]
  have lu:=(k4 0 (λY=>none) λY=>cO _).1
  refine H hn1 (c7 lu hu) (by rw[cS];show s.length+1+_<=_;exact Z7 hl (Z7 lu (Z7 lu (Z7 lu (Z7 lu))))) (KO ok sz) h4 λt c5 l5 U5 h5 e5 g5 k5=>NZ (UN ?_)
  have:=q _ c5 l5 U5 h5 rfl (L.ZT rf g5 e5) λP B z=>Bn.ZT (c7 hu h10) Cb (k4 P _ (RJ z)) (k5 _ _ (Hu z))
  rw[show(toN (.ZT (c+2) (c+1) lb ps r b t)).av=.inst 10 [Vk (c+2) [c+1] none (toN t).av,.lst [Vk lb ps r (toN b).av]] by
   show Mine.Internal.H.call.av ((Mine.Internal.H.lam (c+2) [c+1] none).av (N.cons (toN t) .nil).ZS::([(Mine.Internal.H.lam lb ps r).av (N.cons (toN b) .nil).ZS]++[]))=_
   rw[Vj (toN_E e5),Vj (toN_E L.e)];rfl]at this
  exact this
end
noncomputable def eZ:TR->List (Nat×(Nat×Bool))
 |[]=>[]
 |(_,none)::s=>eZ s
 |(x,some q)::s=>(x,q)::eZ s
theorem RI:∀{s:TR},(x,q)∈eZ s->(x,some q)∈s
 |(_,none)::_,h=>.tail _ (RI h)
 |(y,some p)::s,h=>(cJ.mp h).elim (λe=>by cases e;exact .head _) λh=>.tail _ (RI h)
noncomputable abbrev q9(ps:List (Nat×(Nat×Bool))):List AV:=ps.map λe=>.tup [fO e.1,L5 (some e.2)]
section
variable{g:GP}{c c' c1 n d u0:Nat}{l l':Int}{U U':US}{s:TR}{Q:fP}{E:US->Prop}{td:Ad->Option Ad}{t as b:T}
theorem Hq(q:Option (Nat×Bool))(h:K (match q with|none=>true|some _=>false)):BK (L5 q) (.str 72) K U:=by
 unfold BK
 induction q using jO with
 |none=>exact⟨h⟩
 |some q=>exact⟨h⟩
theorem RH:∀(s:TR) (acc:List AV),QQ (acc++q9 (eZ s)) U->
 Zo (λx K U2=>ZB [7,8] x [x0,x1,x2,x3,x4,x5,x6,x7,x8,x9] λL'=>ZK C E (.b .xR (.loc 8) (.cst (.str 72))) L' (λb U3=>Wk b λb=>K b U3) U2) (λx K U2=>ZB [7,8] x [x0,x1,x2,x3,x4,x5,x6,x7,x8,x9] λL'=>ZK C E (.u .dT (.cons (.loc 7) (.cons (.loc 8) .nil))) L' K U2) (Xb s) acc QQ U
  |[],acc,q=>by rw[show q9 (eZ [])=[]from rfl,cB]at q;exact q
  |(x,none)::s,acc,q=>Hq none (RH s _ q)
  |(x,some p)::s,acc,q=>Hq (some p) (RH s _ (by rw[cz];exact q))
theorem s8(H:Vv g u0)(hn:4*u0+6<=n+1)(h10:u0<=10)(hu:un l<=u0)(hl:s.length+4*un l+4<=100)(ok:Ww s)(h:Gs g c l U)(q:Cd g (d+1) s c l Q):Z8 (n+3) 74 [.ref g.dk,.ref g.w.a,.lst (Xb s),fO (d+1),.ref g.lf] Q E U:=by
 have hn1:4*u0+6<=n+2:=bZ hn
 have hl1:s.length+4*un l<=100:=c7 (cR _ _) hl
 have Hp:∀{x5:AV} {U'},Gs g c l U'->Bx (wpS (Z8 (n+2)) lN.Z5.Z5 (YC Q) (Y8 E) [some (.ref g.dk),some (.ref g.w.a),some (.lst (Xb s)),some (fO (d+1)),some (.ref g.lf),some x5,none,none,none,none] U'):=λ{x5 U'} h=>by
  refine⟨⟨rfl,h.draw (by decide) (by decide) λk U1 Y h1=>?_⟩⟩
  refine ZC (XI (.ofNat k) (.ofNat 0)) (λY=>?_) λY=>?_
  ·
   refine vX ⟨rfl,h1.draw (by decide) (by decide) λr U2 hr h2=>⟨by rw[Uj];exact Z7 hr,?_⟩⟩
   refine S2 H (j:=4) (x5:=[some x5,none,none,none,none]) hn1 h10 ok ((Zw3 r).map λi=>AV.int (.ofNat i)) (acc:=[]) hu hl1 h2 λas c' l' U3 h3 e3 n3 g3 k3=>UN ?_
   rw[cM,aI]at n3 k3
   exact q (.node .X3 as) c' l' U3 h3 rfl ⟨⟨rfl,e3,g3.w⟩,⟨(λY h=>ZE h),g3.s⟩,g3.g,trivial,⟨trivial,trivial⟩,g3.cs⟩ λP B z=>(k3 P B z).in (Z7 hr) (cR _ _)
  ·
   refine⟨rfl,Of H hn hu (Zx1 hl) ok h1 λlb ps r b c4 l4 U4 h4 L k4=>?_⟩
   have lu:=(k4 0 (λY=>none) λY=>cO _).1
   have sz:=L.p
   refine⟨rfl,?_⟩
   refine Hr r (P:=λrs=>Z8 (n+2) 73 [.ref g.dk,.ref g.w.a,.lst (Xb s),fO (d+1),.ref g.lf,fO (fN ps).length,.bool rs] _ _ _) ?_
   rw[cM]
   refine Hv H hn h10 (c7 lu hu) (Z7 hl1 (Z7 lu (Z7 lu (Z7 lu (Z7 lu))))) ok sz h4 λk hk as c5 l5 U5 h5 e5 n5 g5 k5=>UN ?_
   have:=q (.app lb ps r b as) c5 l5 U5 h5 rfl (L.app g5 e5) λP B z=>Bn.app (c7 hu h10) hk Cb (k4 P _ (RJ z)) (k5 P B z)
   rw[PN L.e]at this
   exact this
 refine go (RH s [] ?_)
 show wpS _ _ _ _ [some (.ref g.dk),some (.ref g.w.a),some (.lst (Xb s)),some (fO (d+1)),some (.ref g.lf),some (.lst (q9 (eZ s))),none,none,none,none] U
 by_cases e:eZ s=[]
 ·rw[e]
  exact⟨rfl,Hp h⟩
 ·refine⟨rfl,Zu (b:=!(q9 (eZ s)).isEmpty) (by induction q:eZ s using jL with|nil=>exact absurd q e|cons=>rfl) ⟨rfl,h.draw (by decide) (by decide) λr U1 Y h1=>?_⟩⟩
  refine ZC (fh (.ofNat 0) (.ofNat r)) (λY=>?_) λY=>Hp h1
  refineλzs hz=>⟨rfl,?_⟩
  refine hG ?_;intro PP
  obtain⟨a,⟨_,b⟩,k⟩:=PI (k:=1) e hz
  refine h1.one a (cD b (by decide)) λx U2 m h2=>?_
  refine hG ?_;intro PP
  obtain⟨⟨f,m',r⟩,mx,rfl⟩:=k x m
  have mx:=RI mx
  refine BG ⟨rfl,Hv H hn h10 hu hl1 ok (ok f m' r mx) h2 λk hk as c5 l5 U5 h5 e5 n5 g5 k5=>UN ?_⟩
  exact q (.ZZ f as) c5 l5 U5 h5 rfl ⟨⟨e5,g5.w⟩,⟨⟨_,mx⟩,g5.s⟩,g5.g,trivial,⟨trivial,trivial⟩,g5.cs⟩ λP B z=>(k5 P B z).in hk (aP (z f) _)
end
section
variable{g:GP}{c c' c1 n d u0:Nat}{l l':Int}{U U':US}{s:TR}{Q:fP}{E:US->Prop}{td:Ad->Option Ad}{t as b:T}
noncomputable def j6:S:=qN.Z5.Z5.Z5
structure s7(td:Ad->Option Ad)(s:TR)(c c1:Nat)(v f:T):Prop where
 e:f.Zw=true
 g:Gt td s c c1 f
 n:∀B,(fQ f B).n<=(fQ v B).n+2
theorem s7.of(e:v.Zw=true)(g:Gt td s c c1 v)(ar:h.ar 1=true)(hw:h.w<=1)(hv:∀x,h.var=some x->DL s x)(hc:(hN h).cs (tx td))(hp:UH h (toN (.cons v .nil))=toN (.cons v .nil)):s7 td s c c1 v (.node h (.cons v .nil)):=
 ⟨rfl,⟨⟨ar,rfl,⟨e,g.w⟩,rfl,trivial⟩,⟨hv,g.s,trivial⟩,g.g,⟨hc,by rw[hp];exact⟨g.cs,trivial⟩⟩⟩,λB=>by show(fQ v B).n+0+1+h.w<=_;exact Z7 hw⟩
theorem j5(e:v.Zw=true):(toN (.cons v .nil)).ZS=[(toN v).av]:=by show(toN v).ZS++[]=_;rw[(ZP (toN_E e)).1];rfl
theorem yC(H:Vv g u0)(hn:4*u0+6<=n+1)(h10:u0<=10)(hu:un l<=u0)(hl:s.length+4*un l+4<=100)(ok:Ww s)(h:Gs g c l U)(q:Cd g (d+1) s c l Q):Z8 (n+3) 75 [.ref g.dk,.ref g.w.a,.lst (Xb s),fO (d+1),.ref g.lf] Q E U:=by
 have hn1:4*u0+6<=n+2:=bZ hn
 have hl1:s.length+4*un l<=100:=c7 (cR _ _) hl
 refine go (Uk (i:=8) (j:=9) (λY Y=>rfl) (λY Y=>rfl) s [] ?_)
 show wpS _ _ _ _ [some (.ref g.dk),some (.ref g.w.a),some (.lst (Xb s)),some (fO (d+1)),some (.ref g.lf),some (.lst (fN (plain s))),none,none,none,none] U
 refineλz hz=>?_
 rw[KQ hz]
 refine⟨rfl,H hn1 hu hl1 ok h λv c2 l2 U2 h2 e2 g2 k2=>?_⟩
 have lu:=(k2 0 (λY=>none) λY=>cO _).1
 have fin:∀{f:T} {U3},Gs g c2 l2 U3->s7 g.td s c c2 v f->Bx (wpS (Z8 (n+2)) j6 (YC Q) (Y8 E) [some (.ref g.dk),some (.ref g.w.a),some (.lst (Xb s)),some (fO (d+1)),some (.ref g.lf),some (.lst (fN (plain s))),some (toN v).av,some (toN f).av,none,none] U3):=λ{f U3} h3 p=>by
  refine⟨λz hz=>?_⟩
  rw[KQ hz]
  refine⟨rfl,H hn1 (c7 lu hu) (Z7 hl1 (Z7 lu (Z7 lu (Z7 lu (Z7 lu))))) ok h3 λb c4 l4 U4 h4 e4 g4 k4=>C8 ?_⟩
  have:=q (.node .seq (.cons f (.cons b .nil))) c4 l4 U4 h4 rfl ⟨⟨rfl,rfl,⟨p.e,p.g.w⟩,rfl,⟨e4,g4.w⟩,rfl,trivial⟩,⟨(λY h=>ZE h),p.g.s,g4.s,trivial⟩,p.g.g.add g4.g,trivial,p.g.cs,g4.cs,trivial⟩ λP B z=>Bn.tC (c7 hu h10) (k2 P B z) (k4 P B z) (by
   have:=p.n B
   show(fQ f B).n+((fQ b B).n+0+1)+1+0<=_;exact Z7 this)
  rw[show(toN (.node .seq (.cons f (.cons b .nil)))).av=.inst 11 [.lst [(toN f).av,(toN b).av]] by
   show AV.inst 11 [.lst ((toN f).ZS++((toN b).ZS++[]))]=_
   rw[(ZP (toN_E p.e)).1,(ZP (toN_E e4)).1];rfl]at this
  exact this
 have sg:∀{k:Nat},Pl.rJ k=true->s7 g.td s c c2 v (.node (.setG k) (.cons v .nil)):=λ{k} hk=>.of e2 g2 (by show(Pl.rJ k&&true)=true;rw[hk];rfl) (cO _) (λY h=>ZE h) trivial rfl
 have mK:∀{k:Nat},(toN (.node (.setG k) (.cons v .nil))).av=.inst 7 [fO k,(toN v).av]:=λ{k}=>by show AV.inst 7 (fO k::(toN (.cons v .nil)).ZS)=_;rw[j5 e2]
 have other:∀{U3},Gs g c2 l2 U3->wpS (Z8 (n+2)) qN.Z5.Z5.LF (Y4 (YC Q) λL U=>Bx (wpS (Z8 (n+2)) j6 (YC Q) (Y8 E) L U)) (Y8 E) [some (.ref g.dk),some (.ref g.w.a),some (.lst (Xb s)),some (fO (d+1)),some (.ref g.lf),some (.lst (fN (plain s))),some (toN v).av,none,none,none] U3:=λ{U3} h3=>by
  refine Go (Go (Go ⟨rfl,h3.one (rW ·) (cL rfl) λx U4 m h4=>?_⟩))
  rcases cJ.mp m with rfl|m
  ·have:=fin h4 (sg (k:=1) rfl);rw[mK]at this;exact this
  rcases cJ.mp m with rfl|m
  ·have:=fin h4 (sg (k:=2) rfl);rw[mK]at this;exact this
  rcases cJ.mp m with rfl|m
  ·exact fin h4 ⟨e2,g2,λB=>cR _ _⟩
  rw[cP]at m
  subst m
  have:=fin h4 (sg (k:=3) rfl);rw[mK]at this;exact this
 by_cases e:plain s=[]
 ·rw[e]at other⊢
  exact⟨rfl,other h2⟩
 ·refine⟨rfl,Zu (b:=!(fN (plain s)).isEmpty) (by induction q:plain s using jL with|nil=>exact absurd q e|cons=>rfl) ⟨rfl,h2.draw (by decide) (by decide) λr U3 Y h3=>?_⟩⟩
  refine ZC (XI (.ofNat r) (.ofNat 0)) (λY=>?_) λY=>other h3
  refineλzs hz=>⟨rfl,?_⟩
  refine hG ?_;intro PP
  obtain⟨a,⟨_,b⟩,k⟩:=PI (k:=2) e hz
  refine h3.one a (cD b (by decide)) λx U4 m h4=>?_
  refine hG ?_;intro PP
  obtain⟨x,mx,rfl⟩:=k x m
  have:=fin h4 (s7.of (h:=.YG x) e2 g2 rfl (cO _) (λy e=>by cases e;exact Ul mx) trivial rfl)
  rw[show(toN (.node (.YG x) (.cons v .nil))).av=.inst 6 [fO x,(toN v).av] by show AV.inst 6 (fO x::(toN (.cons v .nil)).ZS)=_;rw[j5 e2]]at this
  exact BF this
end
section
variable{g:GP}{c c' c1 n d u0:Nat}{l l':Int}{U U':US}{s:TR}{Q:fP}{E:US->Prop}{td:Ad->Option Ad}{t as b:T}
noncomputable def wW:S:=lM.Z5.Z5
noncomputable def gj:X:=match wW.Z5.Z5.Z5 with|.guard _ e _=>e|_=>.nil
noncomputable def j4:S:=wW.Z5.Z5.Z5.Z5.body
noncomputable def q8:S:=wW.Z5.Z5.Z5.Z5.Z5.Z5.Z5
theorem DK:Bn d P (un l) (un (l-1)) 0:=by
 refine⟨tw l,λY=>rfl,?_⟩
 by_cases e:un (l-1)=0
 ·exact .inr ⟨e,bV _⟩
 ·exact .inl ⟨tu e,bV _⟩
theorem LY(hr:11<r)(hl:s.length<=100)(h:Gs g c (l-1) U)(q:VQ g d s c l Q):wpS (Z8 (n+3)) wW (YC Q) (Y8 E) [some (.ref g.dk),some (.ref g.w.a),some (.lst (Xb s)),some (fO d),some (.ref g.lf),some (fO r),x6,x7,x8,x9] U:=by
 have no:∀{k:Nat},k<=11->fh (.ofNat r) (.ofNat k)=false:=λhk=>WU (Zz7 (cD hk hr))
 have ne:∀{k:Nat},k<=11->XI (.ofNat r) (.ofNat k)=false:=λhk=>beq_false (Zz9 (cD hk hr))
 refine Z2 (no (by decide)) (Z2 (no (by decide)) (Z2 (no (by decide)) (Z2 (ne (by decide)) (Z2 (ne (by decide)) ⟨Zu (br hr) ⟨rfl,?_⟩⟩))))
 exact yE hl h λt U' h' e g' k'=>q t c _ U' h' e g' λP B Y=>by rw[k' B];exact DK
theorem s6(e:as.Zw=false)(w:as.wf)(n3:as.len=3):∃a b c,as=.cons a (.cons b (.cons c .nil))/\(toN as).ZS=[(toN a).av,(toN b).av,(toN c).av]:=by
 refine hG ?_;intro PP
 obtain⟨a,t1,rfl,l1⟩:=Xx e (by rw[n3];rfl:cZ as.len 3=true)
 obtain⟨b,t2,rfl,l2⟩:=Xx w.2.1 l1
 obtain⟨c,t3,rfl,l3⟩:=Xx w.2.2.2.1 l2
 obtain rfl:=Vd w.2.2.2.2.2.1 l3
 refine⟨a,b,c,rfl,?_⟩
 show(toN a).ZS++((toN b).ZS++((toN c).ZS++[]))=_
 rw[(ZP (toN_E w.1.1)).1,(ZP (toN_E w.2.2.1.1)).1,(ZP (toN_E w.2.2.2.2.1.1)).1];rfl
theorem Oe(a:VU U v=true)(b:VT U xs=true)(c:XG U v xs=some r)(q:K r):UW v (.tup xs) K U:=by unfold UW;exact⟨a,b,XZ c q⟩
theorem sZ:fh (.ofNat 0) x=true↔0<x:=by
 induction x using jI with
 |ofNat k=>exact⟨λh=>Zy5.mpr (cL h),λh=>br (Zy5.mp h)⟩
 |negSucc k=>exact⟨λh=>Zv h,λh=>absurd (Zo1 h (aK k)) (Ze6 0)⟩
theorem LX(m:Nat)(hm:m<=2)(H:Vv g u0)(hn:4*u0+6<=n+3)(h10:u0<=10)(hu:un l<=u0)(hl:s.length+4*un l<=100)(ok:Ww s)(h:Gs g c l U)(ar:(Hd.prim op).ar m=true)(q:Cd g (d+1) s c l Q)(hw:w=.str (TV op)):
 wpS (Z8 (n+3)) q8.Z5 (YC Q) (Y8 E) [some (.ref g.dk),some (.ref g.w.a),some (.lst (Xb s)),some (fO (d+1)),some (.ref g.lf),some (fO r),some w,some (fO m),x8,x9] U:=by
  subst hw
  refine⟨rfl,tH op ⟨by rw[Uj];exact aM hm,?_⟩⟩
  refine S2 H (j:=4) (x5:=[some (fO r),some (.str (TV op)),some (fO m),x8,x9]) hn h10 ok ((Zw3 m).map λi=>AV.int (.ofNat i)) (acc:=[]) hu hl h λas c' l' U3 h3 e3 n3 g3 k3=>Kg ?_
  rw[cM,aI]at n3 k3
  exact q (.node (.prim op) as) c' l' U3 h3 rfl ⟨⟨by rw[n3];exact ar,e3,g3.w⟩,⟨(λY h=>ZE h),g3.s⟩,g3.g,trivial,g3.cs⟩ λP B z=>(k3 P B z).in (aM hm) (cR _ _)
theorem DJ(h:Gs g c l U)(q:Cd g (d+1) s c l Q):ZK (Z8 (n+3)) E gj [some (.ref g.dk),some (.ref g.w.a),some (.lst (Xb s)),some (fO (d+1)),some (.ref g.lf),some (fO r),x6,x7,x8,x9] Q U:=by
 refine⟨rfl,h.draw (by decide) (by decide) λk U1 hk h1 z hz=>?_⟩
 rw[show z=.ofNat (1+k)from hz]
 refine vX (q (.node (.glob (1+k)) .nil) c l U1 h1 rfl (PG ?_ (λY h=>ZE h) ⟨trivial,trivial⟩) λP B Y=>(Ln.nil (d:=d)).in (by decide) (bV _))
 revert hk
 match k with
 |0|1|2=>exactλY=>rfl
 |k+3=>exactλh=>absurd h (Zx3.mpr (cj 3 k))
theorem Ho(H:Vv g u0)(hn:4*u0+6<=n)(h10:u0<=10)(hu:un l<=u0)(hl1:s.length+4*un l<=100)(ok:Ww s)(hk:k<=LN)(h:Gs g c l U)(q:LQ g k d s c l λys U'=>Q (.lst ys) U'):
 ZK (Z8 n) E (.comp false false yD [9] (.u .Xa (.cst (fO k))) cc) (some (.ref g.dk)::some (.ref g.w.a)::some (.lst (Xb s))::some (fO (d+1))::some (.ref g.lf)::x5) Q U:=
  ⟨hk,S2 H (j:=4) (x5:=x5) hn h10 ok ((Zw3 k).map λi=>AV.int (.ofNat i)) (acc:=[]) hu hl1 h λas c' l' U3 h3 e3 n3 g3 k3=>by
   rw[cM,aI]at n3 k3
   exact q as c' l' U3 h3 e3 n3 g3 k3⟩
theorem sY(H:Vv g u0)(yz:4*u0+6<=n+3)(h10:u0<=10)(hu:un l<=u0)(hl1:s.length+4*un l<=100)(ok:Ww s)(h:Gs g c l U)(q:Cd g (d+1) s c l λv U'=>∀L,QQ (some v) L U'):wpS (Z8 (n+3)) j4 QQ (Y8 E) [some (.ref g.dk),some (.ref g.w.a),some (.lst (Xb s)),some (fO (d+1)),some (.ref g.lf),some (fO r),none,none,none,none] U:=by
 refine Ho (k:=3) (x5:=[some (fO r),none,none,none,none]) H yz h10 hu hl1 ok (by rw[Uj];exact cj _ _) h λas c' l' U3 h3 e3 n3 g3 k3=>?_
 obtain⟨a,b,c,rfl,av⟩:=s6 e3 g3.w n3
 have:=q (.node .ite _) c' l' U3 h3 rfl ⟨⟨rfl,e3,g3.w⟩,⟨(λY h=>ZE h),g3.s⟩,g3.g,trivial,g3.cs⟩ λP B z=>(k3 P B z).in (by decide) (cR _ _)
 rw[show(toN (.node .ite (.cons a (.cons b (.cons c .nil))))).av=.inst 8 [(toN a).av,(toN b).av,(toN c).av] by show AV.inst 8 (toN (.cons a (.cons b (.cons c .nil)))).ZS=_;rw[av]]at this
 have fin:wpS (Z8 (n+3)) j4.Z5 QQ (Y8 E) [some (.ref g.dk),some (.ref g.w.a),some (.lst (Xb s)),some (fO (d+1)),some (.ref g.lf),some (fO r),none,none,some (.lst [(toN a).av,(toN b).av,(toN c).av]),none] U3:=vW (this _)
 rw[av]
 exact fin
theorem DI(m:w∈[AV.str 47,AV.str 52,AV.str 73,AV.str 49,AV.str 51,AV.str 50])(H:Vv g u0)(yz:4*u0+6<=n+3)(h10:u0<=10)(hu:un l<=u0)(hl1:s.length+4*un l<=100)(ok:Ww s)(h1:Gs g c l U)(q:Cd g (d+1) s c l Q):
 wpS (Z8 (n+3)) q8 (YC Q) (Y8 E) [some (.ref g.dk),some (.ref g.w.a),some (.lst (Xb s)),some (fO (d+1)),some (.ref g.lf),some (fO r),some w,none,none,none] U:=by
  have one:∀op:Op,(Hd.prim op).ar 1=true->XG U (.str (TV op)) [.str 47,.str 50]=some false->w=.str (TV op)->wpS (Z8 (n+3)) q8 (YC Q) (Y8 E) [some (.ref g.dk),some (.ref g.w.a),some (.lst (Xb s)),some (fO (d+1)),some (.ref g.lf),some (fO r),some w,none,none,none] U:=λop ar no e=>by
   subst e;exact Oe rfl rfl no (LX (op:=op) 1 (bH 1) H yz h10 hu hl1 ok h1 ar q rfl)
  have two:∀op:Op,(Hd.prim op).ar 2=true->XG U (.str (TV op)) [.str 47,.str 50]=some true->w=.str (TV op)->wpS (Z8 (n+3)) q8 (YC Q) (Y8 E) [some (.ref g.dk),some (.ref g.w.a),some (.lst (Xb s)),some (fO (d+1)),some (.ref g.lf),some (fO r),some w,none,none,none] U:=λop ar no e=>by
   subst e;exact Oe rfl rfl no (LX (op:=op) 2 (cO 2) H yz h10 hu hl1 ok h1 ar q rfl)
  rcases cJ.mp m with e|m
  ·exact two .cons rfl rfl e
  rcases cJ.mp m with e|m
  ·exact one .GF rfl rfl e
  rcases cJ.mp m with e|m
  ·exact one .Dc rfl rfl e
  rcases cJ.mp m with e|m
  ·exact one .not rfl rfl e
  rcases cJ.mp m with e|m
  ·exact one .Rm rfl rfl e
  exact two .BU rfl rfl (cP.mp m)
theorem DH(H:Vv g u0)(hn:4*u0+6<=n+1)(h10:u0<=10)(hu:un l<=u0)(hl:s.length+4*un l+4<=100)(ok:Ww s)(h:Gs g c l U)(hr:¬11<r)(q:Cd g (d+1) s c l Q):wpS (Z8 (n+3)) wW (YC Q) (Y8 E) [some (.ref g.dk),some (.ref g.w.a),some (.lst (Xb s)),some (fO (d+1)),some (.ref g.lf),some (fO r),none,none,none,none] U:=by
 have yz:4*u0+6<=n+3:=c7 hn (cR (n+1) 2)
 have hl1:s.length+4*un l<=100:=c7 (cR _ 4) hl
 refine ZC (fh (.ofNat r) (.ofNat 4)) (λY=>⟨rfl,Ca H hn h10 hu hl ok h q⟩) λY=>?_
 refine ZC (fh (.ofNat r) (.ofNat 6)) (λY=>⟨rfl,s8 H hn h10 hu hl ok h q⟩) λY=>?_
 refine ZC (fh (.ofNat r) (.ofNat 8)) (λY=>⟨rfl,yC H hn h10 hu hl ok h q⟩) λY=>?_
 refine ZC (XI (.ofNat r) (.ofNat 8)) (λY=>DJ h q) λY=>?_
 refine ZC (XI (.ofNat r) (.ofNat 9)) (λY=>sY H yz h10 hu hl1 ok h λt c' l' U' a b c' d' Y=>q t _ l' U' a b c' d') λY=>⟨?_⟩
 exact Z2 (Rj (aT (Zw5 hr))) ⟨rfl,h.one (rW ·) (cL rfl) λw U1 m h1=>DI m H yz h10 hu hl1 ok h1 q⟩
theorem DG(H:∀u0,un l=u0+1->Vv g u0)(h10:un l<=11)(hn:4*un l+6<=n)(hl:s.length+4*un l<=100)(ok:Ww s)(h:Gs g c l U)(q:VQ g d s c l Q):Z8 n 76 [.ref g.dk,.ref g.w.a,.lst (Xb s),fO d,.ref g.lf] Q E U:=by
 obtain⟨n,rfl⟩:∃m,n=m+4:=⟨n-4,bF ((KJ n 4)) ((LU (Z7 hn):n-4+4<=n))⟩
 refine go (ZJ h.lf λz hz=>ZJ h.lf ⟨bH 1,?_⟩)
 have hz:z=l-1:=hz
 subst hz
 have h1:=h.left (l-1)
 have ls:s.length<=100:=c7 (cR _ _) hl
 have leaf:wpS (Z8 (n+3)) wW (YC Q) (Y8 E) [some (.ref g.dk),some (.ref g.w.a),some (.lst (Xb s)),some (fO d),some (.ref g.lf),some (fO 13),none,none,none,none] (upd U g.lf (some (.list [.int (l-1),.lst [.ref g.t1,.ref g.t2]]))):=LY (r:=13) (by decide) ls h1 q
 refine ZC (fh (.ofNat 0) (.ofNat d)) (λpd=>ZJ h1.lf ?_) λY=>leaf
 obtain⟨d,rfl⟩:∃k,d=k+1:=by induction d using jN with|zero=>exact Zv pd|succ d=>exact⟨d,rfl⟩
 refine ZC (fh (.ofNat 0) (l-1)) (λp=>⟨rfl,h1.draw (by decide) (by decide) λr U2 Y h2=>?_⟩) λY=>leaf
 by_cases hr:11<r
 ·exact LY hr ls h2 q
 rw[sZ]at p
 have e:=tB p
 refine DH (H _ e) (Z7 (cV e.symm) (Z7 (cV e.symm) (Z7 (cV e.symm) (Z7 (cV e.symm) (Z7 hn))))) (Z7 (cV e.symm) (Z7 h10)) (cO _) (Z7 hl (Z7 (cV e.symm) (Z7 (cV e.symm) (Z7 (cV e.symm) (Z7 (cV e.symm)))))) ok h2 hr λt c' l' U' h' e' g' k'=>q t c' l' U' h' e' g' λP B z=>?_
 rw[e];exact(k' P B z).val
theorem fz(g:GP)(u0:Nat):u0<=11->Vv g u0:=by
 induction u0 using Nat.strongRecOn with
 |_ u0 ih=>exactλh10 n d c l s U Q E hn hu hl ok h q=>DG (λu1 e=>ih u1 (c7 (cV e.symm) hu) (Z7 (cV e.symm) (Z7 hu (Z7 h10)))) (c7 hu h10) (Z7 hu (Z7 hu (Z7 hu (Z7 hu (Z7 hn))))) hl ok h q
end
section
variable{n:Nat}{U V U':US}{Q:fP}{E:US->Prop}
theorem Zy(f:Zf WI U V)(hy:U y=none):Zf WI U (upd V y (some o)):=by
 have k:∀a,U a≠none->upd V y (some o) a=V a:=λa z=>Z9 λe=>z (e▸hy)
 exact⟨λa z=>by rw[k a z];exact f.on a z,λa d z=>(k a z).trans (f.eq a d z)⟩
theorem keep(h:U x=some o)(k:U y=none):upd U y o' x=some o:=(Z9 λe=>by rw[e,k]at h;exact ZE h).trans h
theorem eG(ha:U a=some (.inst c d))(hd:U d=some (.fields fs))(h1:(fH m (fieldsOf c)).isSome=true)(h2:fs.length<64)(q:K (upd U d (some (.fields (Xc fs m x))))):WW (.ref a) m x K U:=ZX ha (ZY hd ⟨h1,h2,q⟩)
theorem DF(q:∀w U',Wo w 0 U'->Zf WI U U'->Q (.ref w.a) U'):ZK (Z8 (n+2)) E (.call (.glob 63 (.g 55)) .nil) L Q U:=by
 refineλa d n1 ha hd=>QH ?_
 obtain⟨U1,e1⟩:∃V,upd (upd U a (some (.inst 55 d))) d (some (.fields []))=V:=⟨_,rfl⟩
 have a1:U1 a=some (.inst 55 d):=by rw[<-e1,Z9 n1,Z_]
 have d1:U1 d=some (.fields []):=by rw[<-e1,Z_]
 have f1:Zf WI U U1:=e1▸Zy (Zy .refl ha) hd
 rw[e1]
 refineλa' d' n2 ha' hd'=>iV λl hl=>?_
 obtain⟨U2,e2⟩:∃V,upd (upd U1 a' (some (.inst 28 d'))) d' (some (.fields []))=V:=⟨_,rfl⟩
 rw[e2]at hl⊢
 have a2:U2 a=some (.inst 55 d):=by rw[<-e2];exact keep (keep a1 ha') ((Z9 n2.symm).trans hd')
 have d2:U2 d=some (.fields []):=by rw[<-e2];exact keep (keep d1 ha') ((Z9 n2.symm).trans hd')
 have a2':U2 a'=some (.inst 28 d'):=by rw[<-e2,Z9 n2,Z_]
 have j3:U2 d'=some (.fields []):=by rw[<-e2,Z_]
 have f2:Zf WI U U2:=e2▸Zy (Zy f1 (f1.free ha')) (f1.free hd')
 have x1:a≠d':=λz=>by rw[z,j3]at a2;exact xO a2 rfl
 have x2:d≠d':=λz=>by rw[<-z]at hd';rw[hd']at d1;exact ZE d1
 obtain⟨U4,e4⟩:∃V,upd (upd U2 l (some (.list []))) d' (some (.fields [(76,.ref l)]))=V:=⟨_,rfl⟩
 have a4:U4 a=some (.inst 55 d):=by rw[<-e4,Z9 x1];exact keep a2 hl
 have d4:U4 d=some (.fields []):=by rw[<-e4,Z9 x2];exact keep d2 hl
 have gh:U4 a'=some (.inst 28 d'):=by rw[<-e4,Z9 n2];exact keep a2' hl
 have gg:U4 d'=some (.fields [(76,.ref l)]):=by rw[<-e4,Z_]
 have f4:Zf WI U U4:=e4▸Zy (Zy f2 (f2.free hl)) (f1.free hd')
 refine eG (keep a2' hl) (keep j3 hl) rfl (by decide) ?_
 rw[show upd (upd U2 l (some (.list []))) d' (some (.fields (Xc [] 76 (.ref l))))=U4 from e4]
 refine⟨rfl,[],rfl,rfl,.nil,λe he=>?_⟩
 refine eG (keep gh he) (keep gg he) rfl (cL rfl) ⟨rfl,?_⟩
 obtain⟨U6,e6⟩:∃V,upd (upd U4 e (some (.ds []))) d' (some (.fields [(76,.ref l),(77,.ref e)]))=V:=⟨_,rfl⟩
 have a6:U6 a=some (.inst 55 d):=by rw[<-e6,Z9 x1];exact keep a4 he
 have d6:U6 d=some (.fields []):=by rw[<-e6,Z9 x2];exact keep d4 he
 have f6:Zf WI U U6:=e6▸Zy (Zy f4 (f4.free he)) (f1.free hd')
 show WW (.ref a) 90 (.ref a') _ (upd (upd U4 e (some (.ds []))) d' (some (.fields [(76,.ref l),(77,.ref e)])))
 rw[e6]
 have at':∀{V o},V a=some (.inst 55 d)->upd V d o a=some (.inst 55 d):=λh=>(Z9 n1).trans h
 refine eG a6 d6 rfl (by decide) (eG (at' a6) Z_ rfl (cL rfl) ?_)
 rw[Zt]
 obtain⟨U8,e8⟩:∃V,upd U6 d (some (.fields [(90,.ref a'),(91,fO 0)]))=V:=⟨_,rfl⟩
 have a8:U8 a=some (.inst 55 d):=e8▸at' a6
 have d8:U8 d=some (.fields [(90,.ref a'),(91,fO 0)]):=by rw[<-e8,Z_]
 have f8:Zf WI U U8:=e8▸Zy f6 hd
 rw[show upd U6 d (some (.fields (Xc (Xc [] 90 (.ref a')) 91 (fO 0))))=U8 from e8]
 refine⟨rfl,[],rfl,rfl,.nil,λp hp=>eG (keep a8 hp) (keep d8 hp) rfl (cL rfl) ?_⟩
 obtain⟨U9,e9⟩:∃V,upd (upd U8 p (some (.di []))) d (some (.fields [(90,.ref a'),(91,fO 0),(12,.ref p)]))=V:=⟨_,rfl⟩
 have x3:p≠d:=λz=>by rw[z,d8]at hp;exact XD hp
 have a9:U9 a=some (.inst 55 d):=e9▸at' (keep a8 hp)
 have d9:U9 d=some (.fields [(90,.ref a'),(91,fO 0),(12,.ref p)]):=by rw[<-e9,Z_]
 have p9:U9 p=some (.di []):=by rw[<-e9,Z9 x3,Z_]
 have f9:Zf WI U U9:=e9▸Zy (Zy f8 (f8.free hp)) hd
 rw[show upd (upd U8 p (some (.di []))) d (some (.fields (Xc [(90,.ref a'),(91,fO 0)] 12 (.ref p))))=U9 from e9]
 refine⟨rfl,[],rfl,rfl,.nil,λp' wV=>eG (keep a9 wV) (keep d9 wV) rfl (cL rfl) (eG (at' (keep a9 wV)) Z_ rfl (cL rfl) ⟨rfl,?_⟩)⟩
 rw[Zt]
 refine q ⟨a,d,p,.ref a',.ref p',.none⟩ _ ⟨at' (keep a9 wV),Z_,(Z9 x3).trans (keep p9 wV)⟩ (Zy (Zy f9 (f9.free wV)) hd)
end
abbrev n0:Sc:=λY=>False
structure Tn(td:Ad->Option Ad)(ds:List Pl.D)(c:Nat)(t:T):Prop where
 e:t.Zw=true
 i:Iv c n0 n0 t
 k:(toN t).cs (tx td)
 d:(fQ t PM).ds=ds
 n:(fQ t PM).n<=193
section
variable{g:GP}{c c' n m:Nat}{l:Int}{U U':US}{Q:fP}{E:US->Prop}{ds:List Pl.D}{t t':T}{td:Ad->Option Ad}
theorem Gs.Rz(h:Gs g c l U)(f:Zf WI U U'):Gs g c l U':=by
 have k:∀{a o},U a=some o->U' a=some o:=λe=>(f.eq _ (λz=>z) (by rw[e];exact cG _)).trans e
 refine hG ?_;intro PP
 obtain⟨is,cs,m,hc,e1,e2⟩:=h.dk
 exact⟨⟨is,cs,m,hc,k e1,k e2⟩,⟨k h.wo.o,k h.wo.f,k h.wo.p⟩,k h.lf,λa d e=>aE (h.tS a d e) λx Z=>eE Z λfs y=>⟨k x,fs,k y⟩,h.n2,h.i1,h.i2,k h.wd⟩
theorem Gs.gf(h:Gs g c l U)(f:Zf (λx=>x=g.w.d\/JY g.td x) U U')(wo:Wo g.w c' U')(ts:WG g.td U'):Gs g c' l U':=by
 have k:∀{a o},U a=some o->(∀fs,o≠.fields fs)->(∀d,o≠.inst 31 d)->U' a=some o:=λ{a o} e n1 n2=>(f.eq _ (λz=>by
  rcases z with rfl|⟨x,d,y,rfl|rfl⟩
  ·rw[h.wo.f]at e;exact n1 _ (cU e).symm
  ·rw[(h.tS _ _ y).1]at e;exact n2 _ (cU e).symm
  ·obtain⟨_,fs,z⟩:=h.tS _ _ y;rw[z]at e;exact n1 _ (cU e).symm) (by rw[e];exact cG _)).trans e
 refine hG ?_;intro PP
 obtain⟨is,cs,m,hc,e1,e2⟩:=h.dk
 exact⟨⟨is,cs,m,hc,k e1 (λY h=>xA h rfl) (λY h=>xA h rfl),k e2 (λY h=>xA h rfl) (λY h=>xA h rfl)⟩,wo,k h.lf (λY h=>xA h rfl) (λY h=>xA h rfl),ts,h.n2,h.i1,h.i2,k h.wd (λY h=>xA h rfl) (λY h=>xA h rfl)⟩
theorem Tn.sm(h:Tn td ds c t):Sm t:=⟨PM,by have:=h.n;lia⟩
theorem Tn.kept{P P':Sc}(h:Tn td ds c t)(k:Kept c c' n0 n0 t t')(hc:(toN t').cs (tx td)):Tn td ds c' t':=
 ⟨k.wl.e.trans h.e,k.iv h.i,hc,(k.le PM).e.trans h.d,c7 (k.le PM).l h.n⟩
theorem sX(n:Nat):tA n<=171:=by
 by_cases h:n<12
 ·revert n;decide+kernel
 ·unfold tA;rw[aj,Zz8 (by show 12<=n;exact(Zw5 h))];exact bV _
theorem In.top(h:In 5 0 u u' k):k<=193:=by
 have t:=sX (u-u'+1)
 exact h.2.elim (λh=>Z7 h (Z7 t)) λh=>Z7 h.2 (Z7 t)
theorem Tn.of(e:t.Zw=true)(h:Gt td [] c c' t)(k:s_ (λP k=>In 5 P u u' k) t):Tn td (fQ t PM).ds c' t:=
 ⟨e,⟨Pl.Y7 h.s (λY z=>(xm z)) (λY z=>z.elim λY z=>(xm z)),h.w,λx=>(h.g.r x).1,λx z=>(Or.elim z id id:False).elim,λx z=>Nat.eq_zero_of_not_pos λp=>absurd ((h.g.r x).2 (Zz9 p)).2 (Zm5.mpr z)⟩,h.cs,rfl,(k 0 PM λY=>cO _).top⟩
theorem yy(h:Gs g c l U)(ht:Tn g.td ds c t)(q:∀t' c' U',Gs g c' l U'->Tn g.td ds c' t'->Q (toN t').av U'):
 ZK (Z8 (m+12)) E (.ite (.b .ieq (.loc 8) (.cst (.int (.ofNat 0)))) (.call (.glob 67 (.g 54)) (.cons (.loc 5) .nil)) (.ite (.b .ieq (.loc 8) (.cst (.int (.ofNat 1)))) (.call (.glob 68 (.g 46)) (.cons (.loc 5) .nil)) (.call (.glob 69 (.g 51)) (.cons (.loc 5) (.cons (.loc 4) .nil)))))
 [x0,some (.ref g.wd),x2,some (.ref g.dk),some (.ref g.w.a),some (toN t).av,x6,x7,some (fO r),x9] Q U:=by
  refine ZC (XI (.ofNat r) (.ofNat 0)) (λY=>⟨rfl,HG (m:=m+7) ht.e ht.i ht.sm ht.k h.tS.ok λU' hc f=>q _ c U' (h.Rz f) (ht.kept (P:=n0) (P':=n0) (Pl.LI ht.i) hc)⟩) λY=>?_
  refine ZC (XI (.ofNat r) (.ofNat 1)) (λY=>⟨rfl,Lr (m:=m+4) ht.e ht.i ht.sm ht.k h.tS.ok λt' U' p hc f=>q _ c U' (h.Rz f) (ht.kept (P:=n0) (P':=n0) (Pl.WX p ht.i) hc)⟩) λY=>?_
  exact⟨rfl,JV h.n2 ht.e ht.i ht.sm ht.k h.tS h.wo λt' n' U' p hc wo ts f=>q _ n' U' (h.gf f wo ts) (ht.kept (P:=n0) (P':=n0) (Pl.XN p ht.i) hc)⟩
theorem Gs.out(hm:428<=m)(hm2:m<=480)(h:Gs g c l U)(ht:Tn g.td ds c t)(q:∀U',Gs g c l U'->W4 g.td EQ (Oj (Pl.one ds GO))->Q (Oj (Pl.one ds GO)) U'):Z8 (m+12) 68 [(toN t).av,.ref g.wd] Q E U:=by
 have b:=ht.n
 refine KS (n:=m+11) (Z7 b (Z7 b (Z7 hm))) (Z7 hm2) ht.e ht.i ht.k h.tS h.wd (Z7 b (Z7 b (Z7 b (Z7 b)))) λU' f k=>?_
 rw[ht.d]at k⊢
 exact q U' (h.Rz f) k
theorem DE(o:Pl.e_ fL):∃xs,Oj o=.lst xs:=by induction o using jK<;>exact⟨_,rfl⟩
theorem Hl(h:∃xs,D=.lst xs)(k:W4 td EQ D)(ht:WG td U)(q:K true):BK D D K U:=by
 obtain⟨a,b⟩:=k U ht
 obtain⟨xs,rfl⟩:=h
 unfold BK
 exact⟨a,a,XZ b q⟩
end
noncomputable def mJ:S:=wL.Z5.Z5.body
noncomputable def j0:S:=mJ.Z5.Z5.body
structure Ou(dk b:Ad)(w:Wp)(wd:Ad)(U:US):Prop where
 h:∃c,L9 dk b U/\Wo w c U/\U wd=some (.di Wy)
section
variable{g:GP}{c c' n m:Nat}{l:Int}{U U':US}{Q:fP}{E:US->Prop}{ds:List Pl.D}{t t':T}{td:Ad->Option Ad}
theorem Gs.ou(h:Gs g c l U):Ou g.dk g.b g.w g.wd U:=⟨c,h.dk,h.wo,h.wd⟩
theorem Hj{C:ZV}{b:S}{tg:List Nat}{k:Nat}{QQ:ZD}{Ee:Loc->US->Prop}{L:Loc}(hk:k<=LN)(q:Zc tg (λQ' L U1=>wpS C b Q' Ee L U1) QQ ((Zw3 k).map λi=>AV.int (.ofNat i)) L U):wpS C (.for tg (.u .Xa (.cst (fO k))) b .nil) QQ Ee L U:=⟨hk,q⟩
theorem Hi{C:ZV}{b:S}{e:X}{tg:List Nat}{k:Nat}{QQ:ZD}{Ee:Loc->US->Prop}{L:Loc}(hk:k<=LN)(q:Zc tg (λQ' L U1=>wpS C b Q' Ee L U1) (Y4 QQ λL2 U2=>Bx (wpS C (.ret e) QQ Ee L2 U2)) ((Zw3 k).map λi=>AV.int (.ofNat i)) L U):wpS C (.for tg (.u .Xa (.cst (fO k))) b (.ret e)) QQ Ee L U:=⟨hk,q⟩
noncomputable def wU(dk a wd:Ad)(x0 x2 x5 x6 x7 x8 x9:Option AV):Loc:=[x0,some (.ref wd),x2,some (.ref dk),some (.ref a),x5,x6,x7,x8,x9]
noncomputable def sW(g:GP)(t:T)(ds:List Pl.D)(x0 x2 x7 x8 x9:Option AV):Loc:=wU g.dk g.w.a g.wd x0 x2 (some (toN t).av) (some (Oj (Pl.one ds GO))) x7 x8 x9
theorem DC(hm:428<=m)(hm2:m<=480)(hD:W4 g.td EQ (Oj (Pl.one ds GO)))(h:Gs g c l U)(ht:Tn g.td ds c t)
 (q:∀t' c' U' x8,Gs g c' l U'->Tn g.td ds c' t'->K (sW g t' ds x0 x2 x7 x8 x9) U'):
 wpS (Z8 (m+12)) j0 (Y4 QQ K) (Y8 E) (sW g t ds x0 x2 x7 x8 x9) U:=by
  refine⟨rfl,h.draw (by decide) (by decide) λr U1 Y h1=>yy (r:=r) h1 ht λt2 c2 U2 h2 KD=>?_⟩
  have b:=KD.n
  refineλmt hmt=>⟨rfl,yH (B:=PM) KD.e KD.i KD.sm (Z7 b (Z7 b (Z7 hm))) Z_ λms=>?_⟩
  have h3:Gs g c2 l (upd (upd U2 mt (some (.list []))) mt (some (.list ms))):=h2.Rz (Zy (Zy .refl hmt) hmt)
  exact⟨rfl,h3.out hm hm2 KD λU4 h4 Y=>Hl (DE _) hD h4.tS (q t2 c2 U4 _ h4 KD)⟩
theorem sV(hm:428<=m)(hm2:m<=480)(hD:W4 g.td EQ (Oj (Pl.one ds GO)))(h:Gs g c l U)(ht:Tn g.td ds c t)(xs:List AV)
 (q:∀t' c' U' x7 x8,Gs g c' l U'->Tn g.td ds c' t'->QQ none (sW g t' ds x0 x2 x7 x8 x9) U'):
 Zc [7] (λQ' L U1=>wpS (Z8 (m+12)) j0 Q' (Y8 E) L U1) QQ xs (sW g t ds x0 x2 x7 x8 x9) U:=
  QF (λY L U=>∃t c x7 x8,L=sW g t ds x0 x2 x7 x8 x9/\Gs g c l U/\Tn g.td ds c t) xs 0 ⟨t,c,x7,x8,rfl,h,ht⟩
   (λY x L U K Y J hK=>by
    refine hG ?_;intro PP
    obtain⟨t,c,x7,x8,rfl,h,ht⟩:=J
    exact DC hm hm2 hD h ht λt' c' U' x8 h' ht'=>hK _ _ ⟨t',c',_,x8,rfl,h',ht'⟩)
   λL U J=>by
    refine hG ?_;intro PP
    obtain⟨t,c,x7,x8,rfl,h,ht⟩:=J
    exact q t c U x7 x8 h ht
noncomputable def GR(U:US)(t d:Ad):US:=upd (upd U t (some (.inst 31 d))) d (some (.fields [(78,.lst [.int 115])]))
noncomputable def jY(t1 d1 t2 d2:Ad):Ad->Option Ad:=λx=>if x=t1 then some d1 else if x=t2 then some d2 else none
noncomputable def jR(dk b wd t1 d1 t2 d2 lf:Ad)(w:Wp):GP:=⟨dk,b,w,lf,t1,t2,jY t1 d1 t2 d2,wd⟩
theorem mH(h:Ou dk b w wd U)(e1:GR U t1 d1=U1)(e2:GR U1 t2 d2=U2)(n1:t1≠d1)(ht1:U t1=none)(hd1:U d1=none)(n2:t2≠d2)(KD:U1 t2=none)(hd2:U1 d2=none)(yx:U2 lf=none):
 ∃c,Gs (jR dk b wd t1 d1 t2 d2 lf w) c 11 (upd U2 lf (some (.list [.int 11,.lst [.ref t1,.ref t2]]))):=by
  obtain⟨c,h1,h2,h3⟩:=h
  unfold GR at e1 e2
  have a1:U1 t1=some (.inst 31 d1):=by rw[<-e1,Z9 n1,Z_]
  have b1:U1 d1=some (.fields [(78,.lst [.int 115])]):=by rw[<-e1,Z_]
  have f1:Zf WI U U1:=e1▸Zy (Zy .refl ht1) hd1
  have sU:upd U1 t2 (some (.inst 31 d2)) d2=none:=(Z9 n2.symm).trans hd2
  have a2:U2 t1=some (.inst 31 d1):=by rw[<-e2];exact keep (keep a1 KD) sU
  have b2:U2 d1=some (.fields [(78,.lst [.int 115])]):=by rw[<-e2];exact keep (keep b1 KD) sU
  have a2':U2 t2=some (.inst 31 d2):=by rw[<-e2,Z9 n2,Z_]
  have gb:U2 d2=some (.fields [(78,.lst [.int 115])]):=by rw[<-e2,Z_]
  have f2:Zf WI U U2:=e2▸Zy (Zy f1 (f1.free KD)) (f1.free hd2)
  have two:∀a d,jY t1 d1 t2 d2 a=some d->(t1=a/\d1=d)\/(t2=a/\d2=d):=λa d e=>by
   by_cases z1:a=t1
   ·exact .inl ⟨z1.symm,cU ((if_pos z1).symm.trans e)⟩
   have e:(if a=t2 then some d2 else none)=some d:=(if_neg z1).symm.trans e
   by_cases z2:a=t2
   ·exact .inr ⟨z2.symm,cU ((if_pos z2).symm.trans e)⟩
   ·rw[if_neg z2]at e;exact ZE e
  have k:∀{a o},U a=some o->upd U2 lf (some (.list [.int 11,.lst [.ref t1,.ref t2]])) a=some o:=λ{a o} e=>keep ((f2.eq a (λz=>z) (by rw[e];exact cG _)).trans e) yx
  obtain⟨is,cs,mm,hc,z1,z2⟩:=h1
  refine⟨c,(?_:Gs (jR dk b wd t1 d1 t2 d2 lf w) c 11 (upd U2 lf (some (.list [.int 11,.lst [.ref t1,.ref t2]]))))⟩
  exact⟨⟨is,cs,mm,hc,k z1,k z2⟩,⟨k h2.o,k h2.f,k h2.p⟩,Z_,λa d e=>by
   rcases two a d e with⟨rfl,rfl⟩|⟨rfl,rfl⟩
   ·exact⟨keep a2 yx,_,keep b2 yx⟩
   ·exact⟨keep a2' yx,_,keep gb yx⟩,λx Z z=>eE Z λa Z=>eE Z λd Z=>aE Z λe o=>by
   have:U x=none:=by rcases two a d e with⟨rfl,rfl⟩|⟨rfl,rfl⟩<;>rcases o with rfl|rfl<;>first|assumption|exact f1.free (by assumption)
   exact h2.foot z this,⟨d1,if_pos rfl⟩,by
   by_cases e:t2=t1
   ·exact⟨d1,if_pos e⟩
   ·exact⟨d2,(if_neg e).trans (if_pos rfl)⟩,k h3⟩
theorem DB{dk b wd:Ad}{w:Wp}{K:Loc->US->Prop}{QQ:ZD}{x0 x2 x5 x6 x7 x8 x9:Option AV}(hm:428<=m)(hm2:m<=480)(h:Ou dk b w wd U)
 (q:∀U' x5 x6 x7 x8,Ou dk b w wd U'->K (wU dk w.a wd x0 x2 x5 x6 x7 x8 x9) U'):
 wpS (Z8 (m+12)) mJ (Y4 QQ K) (Y8 E) (wU dk w.a wd x0 x2 x5 x6 x7 x8 x9) U:=by
 refine⟨rfl,HF λt1 d1 n1 ht1 hd1=>⟨rfl,HF λt2 d2 n2 KD hd2 lf yx=>?_⟩⟩
 obtain⟨c,G⟩:=mH h rfl rfl n1 ht1 hd1 n2 KD hd2 yx
 have jP:un 11=10:=by unfold un;decide
 refine⟨rfl,Ca (d:=4) (n:=m+9) (s:=[]) (fz _ 10 (by decide)) (Z7 hm) (cO _) (by rw[jP];exact cO _) (by rw[jP];decide) (λY Y Y z=>xm z) G λt c1 l1 U3 h3 e3 g3 k3=>?_⟩
 have T:=Tn.of e3 g3 k3
 refine⟨rfl,h3.out hm hm2 T λU4 h4 hD=>Hj (by rw[Uj];exact cj _ _) ?_⟩
 exact sV hm hm2 hD h4 T _ λt' c' U' x7 x8 h' Y=>q U' _ _ x7 x8 h'.ou
theorem sS(hm:428<=m)(hm2:m<=480)(h:Ou dk b w wd U)(xs:List AV)(q:∀L U',QQ none L U'):
 Zc [2] (λQ' L U1=>wpS (Z8 (m+12)) mJ Q' (Y8 E) L U1) QQ xs (wU dk w.a wd x0 x2 x5 x6 x7 x8 x9) U:=
  QF (λY L U=>∃x2 x5 x6 x7 x8,L=wU dk w.a wd x0 x2 x5 x6 x7 x8 x9/\Ou dk b w wd U) xs 0 ⟨x2,x5,x6,x7,x8,rfl,h⟩
   (λY x L U K Y J hK=>by
    refine hG ?_;intro PP
    obtain⟨x2,x5,x6,x7,x8,rfl,h⟩:=J
    exact DB hm hm2 h λU' x5 x6 x7 x8 h'=>hK _ _ ⟨_,x5,x6,x7,x8,rfl,h'⟩)
   λL U Y=>q L U
noncomputable def dK:List Op:=[.cons,.GF,.Dc,.not,.Rm,.BU,.list]
theorem sR(hC:C=Z8 (n+1)):∀(os:List Op) (acc:List AV),QQ (acc++os.map λo=>.tup [fO (C4 o),.str (TV o)]) U->
 Zo (λY K U2=>K true U2) (λx K U2=>ZB [9] x [x0,x1,x2,x3,x4,x5,x6,x7,x8,x9] λL'=>ZK C E (.u .dT (.cons (.call (.glob 61 (.g 52)) (.cons (.loc 9) .nil)) (.cons (.loc 9) .nil))) L' K U2) (os.map λo=>.str (TV o)) acc QQ U:=by
  refine hM ?_;intro MM os;induction os with
  |nil=>
   intro acc q
   rw[Zx0,cB]at q;exact q
  |cons o os ih=>
   intro acc q
   subst hC
   exact⟨rfl,tH o (ih _ (by rw[cz];exact q))⟩
noncomputable def qZ:X:=[47,52,73,49,51,50,48].foldr (λk r=>.cons (.cst (.str k)) r) .nil
noncomputable def mG:X:=.u .dT (.cons (.call (.glob 61 (.g 52)) (.cons (.loc 9) .nil)) (.cons (.loc 9) .nil))
noncomputable def jG:List (Int×AV):=dK.map λo=>(.ofNat (C4 o),.str (TV o))
theorem Hh:pairsOf (dK.map λo=>.tup [fO (C4 o),.str (TV o)])=some jG:=rfl
theorem DA:jG.foldl (λd e=>fJ d e.1 e.2) []=Wy:=rfl
theorem f_(q:ZK C E a L (λv U1=>uA o v Q U1) U):ZK C E (.u o a) L Q U:=q
theorem sQ(q:ZK C (Ee L) e L (λv U1=>wpS C k QQ Ee (L.set i (some v)) U1) U):wpS C (.asg i e k) QQ Ee L U:=q
theorem yw{C:ZV}{tg:List Nat}{e it cc:X}{L:Loc}{xs:List AV}(hit:∀(Q:fP) (U:US),Q (.tup xs) U->ZK C E it L Q U)(q:Zo (λY K U2=>K true U2) (λx K U2=>ZB tg x L λL'=>ZK C E e L' K U2) xs [] (λvs U3=>Q (.lst vs) U3) U):ZK C E (.comp false false e tg (.u .Df (.u .dL it)) cc) L Q U:=hit _ _ q
theorem sP(Q:fP)(U:US)(h:Q (.tup (dK.map λo=>.str (TV o))) U):ZK C E qZ L Q U:=h
theorem mF(h:pairsOf xs=some es)(q:∀b,U b=none->Q (.ref b) (upd U b (some (.di (es.foldl (λd e=>fJ d e.1 e.2) []))))):uA .Va (.lst xs) Q U:=XZ h q
theorem mE(q:∀a,U a=none->Q (.ref a) (upd U a (some (.di Wy)))):uA .Va (.lst (dK.map λo=>.tup [fO (C4 o),.str (TV o)])) Q U:=mF Hh (by rw[DA];exact q)
theorem Dz{x0 x1 x2 x3 x4 x5 x6 x7 x8 x9:Option AV}(q:∀a,U a=none->Q (.ref a) (upd U a (some (.di Wy)))):ZK (Z8 (n+1)) E (.u .Va (.comp false false mG [9] (.u .Df (.u .dL qZ)) .nil)) [x0,x1,x2,x3,x4,x5,x6,x7,x8,x9] Q U:=
 f_ (yw sP (sR rfl dK [] (mE q)))
theorem Hg{dk b wd:Ad}{w:Wp}{x0 x2 x5 x6 x7 x8 x9:Option AV}(hm:428<=m)(hm2:m<=480)(h:Ou dk b w wd U)(q:∀U',Q (.bool true) U'):
 wpS (Z8 (m+12)) wL.Z5.Z5 (YC Q) (Y8 E) (wU dk w.a wd x0 x2 x5 x6 x7 x8 x9) U:=
 Hi (by rw[Uj];exact cj _ _) (sS hm hm2 h _ λL U'=>⟨q U'⟩)
theorem KN{dk b:Ad}{w:Wp}{x0 x1 x2 x5 x6 x7 x8 x9:Option AV}(hm:428<=m)(hm2:m<=480)(h1:L9 dk b U)(h2:Wo w 0 U)(q:∀U',Q (.bool true) U'):
 wpS (Z8 (m+12)) (.asg 1 (.u .Va (.comp false false mG [9] (.u .Df (.u .dL qZ)) .nil)) wL.Z5.Z5) (YC Q) (Y8 E) [x0,x1,x2,some (.ref dk),some (.ref w.a),x5,x6,x7,x8,x9] U:=by
 refine sQ (Dz (n:=m+11) λwd sO=>Hg (b:=b) hm hm2 ?_ q)
 refine hG ?_;intro PP
 obtain⟨is,cs,k,hc,z1,z2⟩:=h1
 exact⟨0,⟨is,cs,k,hc,keep z1 sO,keep z2 sO⟩,⟨keep h2.o sO,keep h2.f sO,keep h2.p sO⟩,Z_⟩
theorem sN(h:fnOf k=some fi)(hr:fi.raises=false)(hn:cZ args.length fi.np=true)(hk:WV k=false)(q:wpS (Z8 n) fi.body (YC Q) (Y8 E) (fi.loc args) U):Z8 (n+1) k args Q E U:=by
 refine go (XZ h ?_) hk
 unfold Gu
 rw[hn,hr];exact q
theorem Dy(q:ZK C (Ee L) a L (λv U1=>ZK C (Ee L) b L (λw U2=>wpS C k QQ Ee ((L.set i (some v)).set j (some w)) U2) U1) U):wpS C (.N7 [i,j] (.u .dT (.cons a (.cons b .nil))) k) QQ Ee L U:=q
theorem yu(hL:(L:List (Option AV))[0]?=some (some v))(hv:∀K:List AV->Prop,K (We xs)->aL U v K)(q:∀dk b U',L9 dk b U'->U dk=none->Zf (λY=>False) U U'->Q (.ref dk) U'):ZK (Z8 (n+1)) E (.call (.glob 64 (.g 56)) (.cons (.loc 0) .nil)) L Q U:=XR hL ⟨rfl,yK hv q⟩
theorem KM(hm:428<=m)(hm2:m<=480)(hv:∀K:List AV->Prop,K (We xs)->aL U v K)(q:∀U',Q (.bool true) U'):
 wpS (Z8 (m+12)) (.N7 [3,4] (.u .dT (.cons (.call (.glob 64 (.g 56)) (.cons (.loc 0) .nil)) (.cons (.call (.glob 63 (.g 55)) .nil) .nil))) (.asg 1 (.u .Va (.comp false false mG [9] (.u .Df (.u .dL qZ)) .nil)) wL.Z5.Z5)) (YC Q) (Y8 E) [some v,none,none,none,none,none,none,none,none,none] U:=by
  refine Dy (yu (n:=m+11) rfl hv λdk b U1 h1 Y f1=>DF (n:=m+10) λw U2 h2 f2=>?_)
  refine hG ?_;intro PP
  obtain⟨is,cs,k,hc,z1,z2⟩:=h1
  have kp:∀{a o},U1 a=some o->U2 a=some o:=λe=>(f2.eq _ (λz=>z) (by rw[e];exact cG _)).trans e
  exact KN (b:=b) hm hm2 ⟨is,cs,k,hc,kp z1,kp z2⟩ h2 q
theorem sM(hm:428<=m)(hm2:m<=480)(hv:∀K:List AV->Prop,K (We xs)->aL U v K)(q:∀U',Q (.bool true) U'):Z8 (m+13) 77 [v] Q E U:=
 sN (fi:=lK) rfl rfl rfl rfl (KM hm hm2 hv q)
end
end
section
open PySem PySem.W PySem.Calls PyProof.Rows PySem.SeqAt PySem.F MeetsSeq
noncomputable def qY(fi:Fi):List Str:=fi.nm.map ZU
noncomputable def f7(r:FR)(fi:Fi):Bool:=Ea gG (qY fi) (eW r.i r.j).2.2 fi (eW r.i r.j).2.1
section
variable{nm q:Str}{C N x t dx:aV}{bs:List Value}{hdct:Bool}{sn:List Str}{sub:List Value}{ab:Bool}{col:Option Bool}{dd fS:Option aV}{k0 k1 k2 k3 k5:Option Value}{newId:String}
theorem Od:Meets (Builtin.«tuple.__eq__» ⟨[.ref t,.ref x],[]⟩) (λY R s=>s.heap.get? C=some (excClassObj nm q C N bs [.type "object"] hdct sn sub ab col dd k0 k1 k2 k3 k5 newId)/\s.heap.get? x=some (ak C dx)/\R (.ok (.ret .notImplemented)) s):=
 .of_wp λprog w A R s h=>by
  obtain⟨hp,g,d,tk,os⟩:=s
  obtain⟨hC,hx,h⟩:=h
  unfold Builtin.«tuple.__eq__»
  repeat(first|with_reducible refine Zu9 hx ?_|with_reducible refine wpAny_isSubtype_exc hC ?_|wp_step)
  exact⟨_,rfl,h⟩
variable{A:aC}{h:Zz0}{g:Array GenState}{d:PySem.Drawn}{k:Nat}{os:OsState}{prog:Zw8}{w:Zt2}{E:Value->cK->Prop}{Q:Value->cK->Prop}{its:Array Value}{ox:Obj}
theorem Oc(X:h.CmpInst x C [.type "object"])(hx:h.get? x=some (ak C dx))(ht:h.IsTuple t its)(hu:A.units<Zh2)(hq:Q (.bool false) ⟨h,g,d,k,os⟩):bT (model prog w) A (Zf1 .Eq (.ref x) (.ref t)) Q E ⟨h,g,d,k,os⟩:=by
 obtain⟨o,nm,q,N,bs,hdct,sn,sub,ab,col,dd,k0,k1,k2,k3,k5,newId,mN,hx',hc,hC,_⟩:=id X
 obtain⟨ot,h1,h2,h3⟩:=id ht
 have T:Shared.TypeIs ⟨h,g,d,k,os⟩ (.ref t) "tuple":=⟨_,h1,h2⟩
 have sJ:x≠t:=λe=>by rw[e,h1]at hx;cases hx;cases h2
 have sb:isSubtype (.type "tuple") (.ref C)=pure false:=by rw[Zg3];kernel_rfl
 have sl:Slot "tuple" "__eq__" "tuple.__eq__":=F.slot_tuple_eq_refl
 simp only[Zf1,cmpInfo_Eq,oneThing_ref]
 repeat(first|with_reducible refine wpAny_cRoomFor hu ?_|(with_reducible refine Zu9 hx ?_)|(with_reducible refine Zu9 h1 ?_;rw[h2])|with_reducible refine cY (wpAny_of_eq sb ?_)|with_reducible refine tryCompare_eq_other Zn2 X h1 sJ ?_|(with_reducible refine Zm8 T sl ?_;refine Zs0 sl T F.entry_tuple_eq (F.args_tuple_eq_2 _ _) Od ⟨hC,hx,rfl,?_⟩)|with_reducible refine wpAny_isSame_ref_other sJ hx h1 (X.noTuple hx) ?_|wp_step)
 exact hq
theorem Ob(X:h.CmpInst x C [.type "object"])(hx:h.get? x=some (ak C dx))(ht:h.IsTuple t its)(hu:A.units<Zh2)(hq:Q (.bool false) ⟨h,g,d,k,os⟩):bT (model prog w) A (Zf1 .Eq (.ref t) (.ref x)) Q E ⟨h,g,d,k,os⟩:=by
 obtain⟨o,nm,q,N,bs,hdct,sn,sub,ab,col,dd,k0,k1,k2,k3,k5,newId,mN,hx',hc,hC,_⟩:=id X
 obtain⟨ot,h1,h2,h3⟩:=id ht
 have T:Shared.TypeIs ⟨h,g,d,k,os⟩ (.ref t) "tuple":=⟨_,h1,h2⟩
 have sJ:t≠x:=λe=>by rw[<-e,h1]at hx;cases hx;cases h2
 have hn:(ak C dx).cls≠.type "tuple":=λe=>by cases e
 have sl:Slot "tuple" "__eq__" "tuple.__eq__":=F.slot_tuple_eq_refl
 simp only[Zf1,cmpInfo_Eq,oneThing_ref]
 repeat(first|with_reducible refine wpAny_cRoomFor hu ?_|(with_reducible refine Zu9 hx ?_)|(with_reducible refine Zu9 h1 ?_;rw[h2])|with_reducible refine wpAny_isSubtype_exc hC ?_|with_reducible refine tryCompare_eq_other Zn2 X h1 sJ.symm ?_|(with_reducible refine Zm8 T sl ?_;refine Zs0 sl T F.entry_tuple_eq (F.args_tuple_eq_2 _ _) Od ⟨hC,hx,rfl,?_⟩)|with_reducible refine wpAny_isSame_ref_other' sJ h1 hx hn ?_|wp_step)
 exact hq
end
end
section
open PySem PySem.W PySem.Calls PyProof.Rows PySem.SeqAt
theorem XJ{α:Type}{k:Nat}{v:α}:∀{l:List (Nat×α)},X7 k l=some v->(k,v)∈l
 |(m,u)::r,h=>by
  have h:(bif cZ m k then some u else X7 k r)=some v:=h
  induction q:cZ m k using jB with
  |true=>rw[q]at h;cases h;rw[cW q];exact .head _
  |false=>rw[q]at h;exact .tail _ (XJ h)
theorem Xs:∀{l:List Nat},Wv k l=true->k∈l
 |m::r,h=>(b9.mp h).elim (λq=>cW q▸.head _) λq=>.tail _ (Xs q)
theorem RG(h:fM k=true):k∈RE:=Xs h
noncomputable def sI:List Nat:=RE++[208,207,205]
theorem PE(h:Yl k=true):k∈sI:=by
 refine bX.mpr ((b9.mp h).imp RG λh=>?_)
 rcases b9.mp h with h|h
 ·exact cW h▸.head _
 rcases b9.mp h with h|h
 ·exact cW h▸.tail _ (.head _)
 ·exact cW h▸.tail _ (.tail _ (.head _))
noncomputable def Xr(k:Nat):Nat:=(X7 k pJ).getD 0
noncomputable def Dx:List Nat:=Kx.map (·.k)
noncomputable def mD:Option (Option Value)->Tok
 |some (some (.int _ t))=>t
 |_=>0
noncomputable def Dw:List Nat:=[24,25,26]
theorem M_(h:(U_ k).isSome=true):k∈Dw:=by
 unfold U_ at h
 induction q:Wv k [24,25,26]using jB with
 |true=>exact Xs q
 |false=>rw[q]at h;exact Zv h
theorem KL:∀{l:List (Nat×Value)} {k:Nat} {v:Value},l.all (λx=>Zh7 x.2)=true->X7 k l=some v->Zh7 v=true:=λh e=>aJ.mp h _ (XJ e)
theorem Dv(k:Nat):Zh7 (RC k)=true:=by
 unfold RC
 induction X7 k pJ using jO with
 |some a=>rfl
 |none=>
  show Zh7 ((X7 k rO).getD .none)=true
  induction q:X7 k rO using jO with
  |none=>rfl
  |some v=>exact KL (l:=rO) (by kernel_rfl) q
theorem B_:RE.map RC=RE.map λk=>.ref (Xr k):=by kernel_rfl
theorem B9:Dw.map RC=Dw.map λk=>.ref (Xr k):=by kernel_rfl
theorem B8:Dx.map RC=Dx.map λk=>.ref (Xr k):=by kernel_rfl
theorem Hf{l:List Nat}(h:(l.all λa=>l.all λb=>cZ a b||!cZ (Xr a) (Xr b))=true)(hg:l.map RC=l.map λk=>.ref (Xr k)){a b:Nat}(ha:a∈l)(hb:b∈l)(e:RC a=RC b):a=b:=by
 rw[Z1 hg a ha,Z1 hg b hb]at e
 rcases b9.mp (aJ.mp (aJ.mp h a ha) b hb)with q|q
 ·exact cW q
 ·rw[Zv1 e,bY]at q;exact Zv q
section
variable(P:Zq0)
theorem sH:RE.map (λk=>Zq7 (K0 P) (.ref (Xr k)) "__getattribute__")=RE.map λY=>some (some (.builtin "object.__getattribute__")):=by kernel_rfl
theorem mC:RE.map (λk=>Zq7 (K0 P) (.ref (Xr k)) "__getattr__")=RE.map λY=>some none:=by kernel_rfl
theorem mz:RE.map (λk=>Zq7 (K0 P) (.ref (Xr k)) "__setattr__")=RE.map λY=>some (some (.builtin "object.__setattr__")):=by kernel_rfl
theorem mw:RE.map (λk=>(hasDictIn (K0 P) (Xr k),plainOver (K0 P) (Xr k),makesIn (K0 P) (Xr k),keepIn (K0 P) (.ref (Xr k))))=RE.map λY=>(true,true,true,true):=by kernel_rfl
theorem mq:RE.map (λk=>Zq7 (K0 P) (.ref (Xr k)) "__class__")=RE.map λY=>some (some (.builtin "object.__class__")):=by kernel_rfl
theorem sG:RE.map (λk=>mroIn (K0 P) (Xr k) (.type "object"))=RE.map λY=>some true:=by kernel_rfl
theorem yt:RE.map (λk=>Zq7 (K0 P) (.ref (Xr k)) "__init__")=RE.map λk=>match Ug k with|some f=>some (some (.ref (Xr f)))|none=>some (some (.builtin "object.__init__")):=by kernel_rfl
theorem sF:RE.map (λk=>(fieldsOf k).map λn=>(bk n SN,Zq7 (K0 P) (.ref (Xr k)) (ZU n)))=RE.map λk=>(fieldsOf k).map λY=>(true,some none):=by kernel_rfl
theorem sE:QM.map (λx=>Zq7 (K0 P) (.ref (Xr x.1)) (ZU 1))=QM.map λx=>some (some (.int x.2 (mD (Zq7 (K0 P) (.ref (Xr x.1)) (ZU 1))))):=by kernel_rfl
theorem yr:Uh.map (λx=>x.2.map λy=>(bk y.1 SN,copiedNames.contains (ZU y.1),Zq7 (K0 P) (.ref (Xr x.1)) (ZU y.1)))=Uh.map λx=>x.2.map λy=>(true,false,some (some (.ref (Xr y.2)))):=by kernel_rfl
theorem sD:RE.map (λk=>sI.map λj=>Ze3 (K0 P) (.ref (Xr k)) (RC j))=RE.map λk=>sI.map λj=>some (Zh j (Xp k)):=by kernel_rfl
theorem yq:Dx.map (λf=>(isFn (K0 P) (.ref (Xr f)),fnIn (K0 P) (Xr f),specialIn (K0 P) (.ref (Xr f)) "__get__",takesIn (K0 P) (.ref (Xr f))))=Dx.map λY=>(true,true,some (some (.builtin "function.__get__")),some false):=by kernel_rfl
theorem G_:sI.map (λj=>(Ze3 (K0 P) (.type "bool") (RC j),Ze3 (K0 P) (.type "int") (RC j),Ze3 (K0 P) (.type "list") (RC j)))=sI.map λj=>(some (Zh j [QN,SX]),some (Zh j [SX]),some (Zh j [SW])):=by kernel_rfl
theorem sC:Dw.map (λk=>(K0 P).lookup (Xr k))=Dw.map λk=>some (ak (Xr 23) ((X7 (Xr k) rL).getD 0)):=by kernel_rfl
end
theorem Du:(Th.all λx=>Wv x.2 Dx)=true:=by kernel_rfl
theorem Dt:(Uh.all λx=>x.2.all λy=>Wv y.2 Dx)=true:=by kernel_rfl
noncomputable abbrev Ds(prog:Zw8)(w:Zt2)(h:Zz0)(A:aC)(l:List Env)(X:aV->Prop):Cx:=⟨prog,w,RC,h,K0 w.params,A,l,X⟩
theorem q4{α β γ δ:Type}{a a':α}{b b':β}{c c':γ}{d d':δ}(e:(a,b,c,d)=(a',b',c',d')):a=a'/\b=b'/\c=c'/\d=d':=by cases e;exact⟨rfl,rfl,rfl,rfl⟩
theorem q3{α β γ:Type}{a a':α}{b b':β}{c c':γ}(e:(a,b,c)=(a',b',c')):a=a'/\b=b'/\c=c':=by cases e;exact⟨rfl,rfl,rfl⟩
section
variable{prog:Zw8}{w:Zt2}{h:Zz0}{A:aC}{l:List Env}{X:aV->Prop}
theorem yp{k f:Nat}{l:List (Nat×Nat)}(hl:(l.all λx=>Wv x.2 Dx)=true)(e:X7 k l=some f):f∈Dx:=Xs (aJ.mp hl _ (XJ e))
theorem Dr{k n f:Nat}(e:Xq k n=some f):Sw (Ds prog w h A l X) (Xr k) n f (Xr f):=by
 unfold Xq Kz at e
 induction q:X7 k Uh using jO with
 |none=>rw[q]at e;exact ZE e
 |some ms=>
  rw[q]at e
  have m1:=XJ q
  have m2:=XJ (l:=ms) e
  have hf:f∈Dx:=Xs (aJ.mp (aJ.mp Dt _ m1) _ m2)
  obtain⟨a,b,d⟩:=q3 (Z1 (Z1 (yr w.params) _ m1) _ m2)
  obtain⟨a',b',d',e'⟩:=q4 (Z1 (yq w.params) f hf)
  exact⟨Zw4.mp a,Z1 B8 f hf,d,a',b',d',e',b⟩
theorem ym{k n:Nat}{i:Int}(e:LP k n=some i):∃t,O7 (Ds prog w h A l X) (Xr k) n i t:=by
 unfold LP at e
 induction q:cZ n 1 using jB with
 |false=>rw[q]at e;exact ZE e
 |true=>
  rw[q]at e
  obtain rfl:=cW q
  exact⟨_,by decide+kernel,Z1 (sE w.params) _ (XJ e),by kernel_rfl,by kernel_rfl⟩
set_option tactic.hygienic true in
theorem yl{k:Nat}(hk:fM k=true):Q_ (Ds prog w h A l X) k (Xr k):=by
 have m:=RG hk
 refine hG ?_;intro PP
 obtain⟨a,b,d,e⟩:=q4 (Z1 (mw w.params) k m)
 refine⟨Z1 (sH _) k m,Z1 (mC _) k m,Z1 (mz _) k m,a,b,λn hn=>?_,λn i e=>ym e,λn f e=>⟨_,Dr e⟩,d,?_,e,Z1 (mq _) k m,Z1 (sG _) k m,λj hj=>Z1 (Z1 (sD _) k m) j (PE hj)⟩
 ·obtain⟨a,b⟩:=Zt8 (Z1 (Z1 (sF w.params) k m) n hn)
  exact⟨Zw4.mp a,b⟩
 ·have e:=Z1 (yt w.params) k m
  split
  ·rename_i f q
   rw[q]at e
   have hf:=yp Du q
   exact⟨_,Z1 B8 f hf,e,(q4 (Z1 (yq w.params) f hf)).1⟩
  ·rename_i q
   rw[q]at e;exact e
noncomputable def Dq(k:Nat):Nat:=(X7 (Xr k) rL).getD 0
noncomputable def Dp(a:Nat):List (String×Nat×Value)×Nat:=((pH.find? λx=>cZ x.1 a).map (·.2)).getD ([],0)
noncomputable def sA(P:Zq0)(a:Nat):List Zx6:=(Dp a).1.map λx=>⟨Zu5 P (bN x.1),.str (bN x.1) x.2.1,x.2.2⟩
theorem yj(P:Zq0):Dw.map (λk=>(K0 P).lookup (Dq k))=Dw.map λk=>some (Zj3 (sA P (Dq k)) (Dp (Dq k)).2):=by kernel_rfl
theorem B7(dc:YP w h){k:Nat}(hk:k∈Dw):RC k=.ref (Xr k)/\RC 23=.ref (Xr 23)/\h.get? (Xr k)=some (ak (Xr 23) (Dq k))/\h.get? (Dq k)=some (Zj3 (sA w.params (Dq k)) (Dp (Dq k)).2):=
 ⟨Z1 B9 k hk,by kernel_rfl,dc.k _ _ (Z1 (sC w.params) k hk),dc.k _ _ (Z1 (yj w.params) k hk)⟩
noncomputable def mj:List (Nat×Nat):=[(24,27),(25,28),(26,60)]
noncomputable def mh:Option (Option Value)->Tok
 |some (some (.str _ t))=>t
 |_=>0
theorem su(P:Zq0):mj.map (λx=>(Wv x.1 Dw,bk x.2 SN,getL (ZU 18) (sA P (Dq x.1))))=mj.map λx=>(true,true,some (some (.str (ZU x.2) (mh (getL (ZU 18) (sA P (Dq x.1))))))):=by kernel_rfl
theorem wd(dc:YP w h):Wd (Ds prog w h A l X)where
 kx:=dc.k
 hand:=Dv
 cls:=λk hk=>⟨Xr k,Z1 B_ k (RG hk),yl hk⟩
 sp:=λk hk=>aE (B7 dc (M_ hk)) λa Z=>aE Z λb Z=>aE Z λd e=>⟨_,_,_,_,_,a,b,d,e⟩
 FH:=λk k' a b e=>Hf (by kernel_rfl) B_ (RG a) (RG b) e
 YO:=λk k' a b e=>Hf (by kernel_rfl) B9 (M_ a) (M_ b) e
 low:=⟨_,dc.k 1 (wF w.params (Dp 1).1 (Dp 1).2) (by kernel_rfl)⟩
 cg:=by kernel_rfl
 ct:=by kernel_rfl
 A6:=λk hk=>(q3 (Z1 (G_ w.params) k (PE hk))).1
 A5:=λk hk=>(q3 (Z1 (G_ w.params) k (PE hk))).2.1
 FG:=λk hk=>(q3 (Z1 (G_ w.params) k (PE hk))).2.2
 Pu:=λk n x e=>by
  unfold Pu at e
  induction q:cZ n 18 using jB with
  |false=>rw[q]at e;exact ZE e
  |true=>
   rw[q]at e
   obtain rfl:=cW q
   refine hG ?_;intro PP
   obtain⟨m1,m2,m3⟩:=q3 (Z1 (su w.params) _ (XJ (l:=mj) e))
   obtain⟨a,b,d,e⟩:=B7 dc (Xs m1)
   exact⟨_,_,_,_,_,_,a,b,d,e,by unfold fieldsOf;decide+kernel,Zw4.mp m2,m3⟩
theorem G9(P:Zq0):(K0 P).lookup (Xr 31)=some (excClassObj (bN "Text") (bN "Text") (Xr 31) xJ.1 [.type "object"] [.type "object"] true [] [] false none none none none (some (.str (bN "Text") xJ.2.1)) (some (.str (bN "Text") xJ.2.2)) (some (.bool true)) "object.__new__"):=by kernel_rfl
theorem G8{P:Zq0}{a n:Nat}{es:List (String×Nat×Value)}(e:h.get? a=some (wF P es n)):h.Ns a (nsFind (es.map λx=>(⟨Zu5 P (bN x.1),.str (bN x.1) x.2.1,x.2.2⟩:Zx6)).toArray):=
 ⟨_,_,n,e,rfl,λd hd=>by
  obtain⟨x,_,rfl⟩:=bu.mp (List.mem_toArray.mp hd)
  exact⟨_,_,rfl⟩,λY=>rfl⟩
theorem WN(dc:YP w h){h':Zz0}{x dx:aV}(k:∀a o,h.get? a=some o->h'.get? a=some o)(e:h'.get? x=some (ak (Xr 31) dx)):h'.CmpInst x (Xr 31) [.type "object"]:=
 ⟨_,_,_,_,_,_,_,_,_,_,_,_,_,_,_,_,_,_,e,rfl,k _ _ (dc.k _ _ (G9 w.params)),(G8 (dc.k xJ.1 (wF w.params (Dp xJ.1).1 (Dp xJ.1).2) (by kernel_rfl))).keeps k,by kernel_rfl,by kernel_rfl⟩
theorem dX(dc:YP w h):W2 (Ds prog w h A l X)where
 refs:=λ{A s C x y dx dy} hC k hx hy hu prog' w' E Q hq=>by
  obtain rfl:Xr 31=C:=Zv1 hC
  obtain⟨hp,g,d,t,os⟩:=s
  by_cases n:x=y
  ·subst n
   rw[beq_self_eq_true]at hq
   exact richCompare_eq_same Zn2 (WN dc k hx) hu hq
  ·rw[beq_eq_false_iff_ne.mpr n]at hq
   exact richCompare_eq_other Zn2 Zn2 (WN dc k hx) (WN dc k hy) n hu hq
 A3:=λ{A s C x t dx its} hC k hx ht hu prog' w' E Q hq=>by
  obtain rfl:Xr 31=C:=Zv1 hC
  obtain⟨hp,g,d,t,os⟩:=s
  exact Oc (WN dc k hx) hx ht hu hq
 A2:=λ{A s C x t dx its} hC k hx ht hu prog' w' E Q hq=>by
  obtain rfl:Xr 31=C:=Zv1 hC
  obtain⟨hp,g,d,t,os⟩:=s
  exact Ob (WN dc k hx) hx ht hu hq
noncomputable def sq(P:Zq0)(n:Str):Option Value:=nsFind (sA P 3).toArray n
theorem B6(dc:YP w h):h.Ns Zw6 (sq w.params):=G8 (dc.k 3 (wF w.params (Dp 3).1 (Dp 3).2) (by kernel_rfl))
noncomputable def l_:Option Value->Tok
 |some (.int _ t)=>t
 |_=>0
theorem r_(P:Zq0):wI.map (λx=>sq P (bN x.1))=wI.map λx=>some (match x.2 with|.g k=>RC k|.int i=>.int i (l_ (sq P (bN x.1)))|_=>.none):=by kernel_rfl
theorem l9:(wI.all λx=>match x.2 with|.g _|.int _=>true|_=>false)=true:=by kernel_rfl
theorem l8(P:Zq0):pI.map (λx=>sq P (bN x.1))=pI.map λx=>some (.ref x.2.2):=by kernel_rfl
theorem l7(P:Zq0):rM.map (λx=>(sq P (bN x.1),bootBuiltins (bN x.1)))=rM.map λx=>(none,some (RC x.2)):=by kernel_rfl
theorem lZ:(rM.all λx=>bN x.1 !=("__name__":Str))=true:=by kernel_rfl
end
noncomputable def G7(x:AV):Bool:=match x with
 |.str k=>bk k SN
 |.int _=>true
 |_=>false
noncomputable def LW(x:AV):Bool:=match x with
 |.tup xs=>xs.all G7&&Zw0 xs.length LN
 |_=>false
section
variable{gv:Nat->Value}{V:fD}
theorem yh(h:G7 x=true):Enc gv V x (wD x t).1:=by
 induction x using jV with
 |str k=>exact⟨Zw4.mp h,t,rfl⟩
 |int i=>induction i using jI<;>exact⟨_,rfl⟩
 |_=>exact Zv h
theorem LV:∀{xs:List AV} {t:Nat},xs.all G7=true->ZW gv V xs (Kw xs t).1
 |[],_,_=>rfl
 |x::xs,t,h=>aE (cN.mp h) λa b=>⟨_,_,rfl,yh a,LV b⟩
theorem G6(h:LW x=true)(e:V a (Xe "tuple" (Kw (Pq x) t).1 0)):Enc gv V x (.ref a):=by
 induction x using jV with
 |tup xs=>obtain⟨p,q⟩:=cN.mp h;exact⟨_,⟨e⟩,cL q,LV p⟩
 |_=>exact Zv h
theorem Dn:∀{rs:List AV} {a t:Nat},rs.all LW=true->(∀p∈BZ rs a t,V p.1 p.2)->ZW gv V rs (BY rs a):=by
 intro rs;induction rs with
 |nil=>
  intro _ _ _ _
  exact rfl
 |cons x rs ih=>
  intro a t h k
  exact aE (cN.mp h) λp q=>⟨_,_,rfl,G6 p (k _ (.head _)),ih q λp m=>k p (.tail _ m)⟩
end
theorem r9:LW rN=true:=by kernel_rfl
theorem r8:((Pq Yp).all LW&&Zw0 (Pq Yp).length LN)=true:=by kernel_rfl
section
variable{prog:Zw8}{w:Zt2}{h:Zz0}{A:aC}{l:List Env}{X:aV->Prop}
theorem yg(dc:YP w h):Enc RC (λa o=>h.get? a=some o) rN (.ref lG):=G6 r9 (dc.r _ (.tail _ (.head _)))
theorem yf(dc:YP w h):Enc RC (λa o=>h.get? a=some o) Yp (.ref lI):=
 have⟨a,b⟩:=cN.mp r8
 show Enc RC _ (.tup (Pq Yp)) _ from⟨_,⟨dc.r _ (.head _)⟩,cL b,Dn a λp m=>dc.r _ (.tail _ (.tail _ m))⟩
theorem G5(h:∀x y,f x y=true->x=y):∀{xs ys:List AV},pG f xs ys=true->xs=ys
 |[],[],_=>rfl
 |x::xs,y::ys,e=>by obtain⟨a,b⟩:=cN.mp e;rw[h x y a,G5 h b]
 |[],_::_,e=>by exact Zv e
 |_::_,[],e=>by exact Zv e
theorem yd:∀{n:Nat} {x y:AV},pF n x y=true->x=y:=by
 intro n;induction n with
 |zero=>
  intro _ _ h
  exact Zv h
 |succ n ih=>
  intro x y h
  induction x using jV with
  |g k=>induction y using jV<;>first|exact Zv h|exact congrArg _ (cW h)
  |int i=>induction y using jV<;>first|exact Zv h|exact congrArg _ (beq_iff_eq.mp h)
  |str i=>induction y using jV<;>first|exact Zv h|exact congrArg _ (cW h)
  |tup xs=>induction y using jV<;>first|exact Zv h|exact congrArg _ (G5 (λY Y=>ih) h)
  |_=>exact Zv h
theorem Dl(dc:YP w h)(c8:h.Ns Zp6 mb)(hb:∀x:Str,x≠"__name__"->mb x=bootBuiltins x)(e:gG n v=true):Qc (Ds prog w h A l X) n v:=by
 obtain⟨x,m,e⟩:=Zq3.mp e
 obtain⟨e1,e2⟩:=cN.mp e
 obtain rfl:=beq_iff_eq.mp e1
 obtain rfl:=yd e2
 have M:=B6 dc
 rcases bX.mp m with m|m
 ·obtain⟨y,z,rfl⟩:=bu.mp m
  have a:=Z1 (r_ w.params) y z
  refine .mk M c8 (.inl a) ?_
  have b:=aJ.mp l9 y z
  revert b
  induction y.2 using jV with
  |g k=>exactλY=>rfl
  |int i=>exactλY=>⟨_,rfl⟩
  |_=>exactλb=>by exact Zv b
 rcases bX.mp m with m|m
 ·obtain⟨y,z,rfl⟩:=bu.mp m
  refine .mk M c8 (.inl (Z1 (l8 w.params) y z)) ?_
  rcases cJ.mp z with rfl|z
  ·exact yg dc
  rcases cJ.mp z with rfl|z
  ·exact yf dc
  ·cases z
 ·obtain⟨y,z,rfl⟩:=bu.mp m
  obtain⟨a,b⟩:=Zt8 (Z1 (l7 w.params) y z)
  exact .mk M c8 (.inr ⟨a,(hb _ (bne_iff_ne.mp (aJ.mp lZ y z))).trans b⟩) rfl
theorem yc(dc:YP w h)(c8:h.Ns Zp6 mb)(hb:∀x:Str,x≠"__name__"->mb x=bootBuiltins x):Top (Ds prog w h A l X) gG:=
 ⟨wd dc,dX dc,λY Y e=>Dl dc c8 hb e,by kernel_rfl,by kernel_rfl,by kernel_rfl,by kernel_rfl,by kernel_rfl,by kernel_rfl,by kernel_rfl,by kernel_rfl,by kernel_rfl,by kernel_rfl,by kernel_rfl,by kernel_rfl⟩
noncomputable def r7(nm:List Str)(np:Nat)(sc:aa)(a:Arguments):Bool:=((a.posonlyargs.isEmpty&&a.vararg.isNone)&&((a.kwonlyargs.isEmpty&&a.kw_defaults.isEmpty)&&(a.kwarg.isNone&&a.defaults.isEmpty)))&&(a.args.map (·.arg)==nm.take np&&(nm.take np).all λn=>sc.names.lookup n==some .local||sc.names.lookup n==some .cell)
noncomputable def lY(r:FR)(fi:Fi):Bool:=(f7 r fi&&r7 (qY fi) fi.np (eW r.i r.j).2.2 (eW r.i r.j).1)&&(((eW r.i r.j).2.2.kind==.function&&!(eW r.i r.j).2.2.isCoroutine)&&(!(eW r.i r.j).2.2.isGenerator&&(MW fi.nm&&(fi.nm.all (bk · SN)&&Zw0 fi.np fi.nm.length))))
noncomputable def dG(k:Nat):Option FR:=Kx.find? λr=>cZ r.k k
theorem ya:pM.map (λx=>(dG x.1).map λr=>lY r x.2)=pM.map λY=>some true:=by kernel_rfl
theorem x_(P:Zq0):Kx.map (λr=>(K0 P).lookup r.a)=Kx.map λr=>some (lA r):=by kernel_rfl
theorem rZ:Kx.map (λr=>(RC r.k,Xr r.k))=Kx.map λr=>(.ref r.a,r.a):=by kernel_rfl
theorem QO(hf:∀a b,a<SN->b<SN->f a=f b->a=b):∀{l:List Nat},l.Nodup->(∀a∈l,a<SN)->(l.map f).Nodup
 |[],_,_=>.nil
 |x::r,h,k=>by
  obtain⟨a,b⟩:=bU.mp h
  refine bU.mpr ⟨λm=>?_,QO hf b λy m=>k y (.tail _ m)⟩
  obtain⟨y,m,e⟩:=bu.mp m
  exact a (hf y x (k y (.tail _ m)) (k x (.head _)) e▸m)
theorem xZ{p:List Arg}{as:List Arg}{v:Option Arg}{k:List Arg}{kd:List (Option Expr)}{w:Option Arg}{d:List Expr}(h1:p.isEmpty=true)(h2:v.isNone=true)(h3:k.isEmpty=true)(h4:kd.isEmpty=true)(h5:w.isNone=true)(h6:d.isEmpty=true):(⟨p,as,v,k,kd,w,d⟩:Arguments)=⟨[],as,none,[],[],none,[]⟩:=by
 rw[Zu0.mp h1,Zm7.mp h2,Zu0.mp h3,Zu0.mp h4,Zm7.mp h5,Zu0.mp h6]
theorem xY(h:r7 nm np sc a=true):∃as,a=⟨[],as,none,[],[],none,[]⟩/\as.map (·.arg)=nm.take np/\∀n∈nm.take np,sc.names.lookup n=some .local\/sc.names.lookup n=some .cell:=by
 obtain⟨p,as,v,k,kd,w,d⟩:=a
 have h:=Z0 h
 have h1:=Z0 h.1
 have h2:=Z0 h1.1
 have h3:=Z0 h1.2
 have h4:=Z0 h3.1
 have h5:=Z0 h3.2
 have h6:=Z0 h.2
 exact⟨as,xZ h2.1 h2.2 h4.1 h4.2 h5.1 h5.2,beq_iff_eq.mp h6.1,λn m=>(b9.mp (aJ.mp h6.2 n m)).imp beq_iff_eq.mp beq_iff_eq.mp⟩
theorem xX(dc:YP w h):Mg (Ds prog w h A l X) gG:=λk fi e=>by
 have e:=Z1 ya _ (XJ e)
 refine hG ?_;intro PP
 obtain⟨r,hr,e⟩:=bK.mp e
 have m:=List.mem_of_find?_eq_some hr
 have hk:r.k=k:=cW (List.find?_some (p:=λr:FR=>cZ r.k k) hr)
 subst hk
 refine hG ?_;intro PP
 obtain⟨e1,e2⟩:=cN.mp e
 obtain⟨e3,e4⟩:=cN.mp e1
 obtain⟨e5,e6⟩:=cN.mp e2
 obtain⟨e7,e8⟩:=cN.mp e5
 obtain⟨e9,fZ⟩:=cN.mp e6
 obtain⟨fY,fX⟩:=cN.mp fZ
 obtain⟨fW,fV⟩:=cN.mp fX
 obtain⟨as,p1,p2,p3⟩:=xY e4
 obtain⟨g1,g2⟩:=Zt8 (Z1 rZ r m)
 have f2:fnIn (K0 w.params) r.a=true:=by
  have:=(q4 (Z1 (yq w.params) r.k (bu.mpr ⟨r,m,rfl⟩))).2.1
  rwa [g2]at this
 have ln:(qY fi).length=fi.nm.length:=cM ..
 exact⟨qY fi,(eW r.i r.j).2.2,(eW r.i r.j).2.1,r.a,
  ⟨⟨r.a,_,lB r,as,g1,dc.k _ _ (Z1 (x_ w.params) r m),rfl,rfl,rfl,rfl,rfl,rfl,rfl,dc.cd r m,p1,p2⟩,beq_iff_eq.mp e7,(Zr6 _).mp e8,(Zr6 _).mp e9,QO (λY Y=>WR) (UT fY) λa m=>Zw4.mp (aJ.mp fW a m),ln,ln.symm▸cL fV,p3⟩,e3,g1,f2⟩
end
noncomputable abbrev lX:RowW:=(PySem.Challenge.rw_nt0231_01:OpenLaw).row.toRowW
theorem ints_of:∀{xs:List WData},Zh9 R xs .int=true->∃ys:List Int,xs=ys.map .int:=by
 intro xs;induction xs with
 |nil=>
  intro _
  exact⟨[],rfl⟩
 |cons x xs ih=>
  intro h
  have h:(WShape.has R x .int&&Zh9 R xs .int)=true:=by simpa [Zh9]using h
  obtain⟨a,b⟩:=cN.mp h
  obtain⟨i,rfl⟩:=hasW_int a
  obtain⟨ys,rfl⟩:=ih b
  exact⟨i::ys,rfl⟩
theorem xW(h:lX.claim.pre xs=true):∃ys:List Int,xs=[.list (ys.map .int)]:=by
 obtain⟨d,r,rfl,h1,h2⟩:=hasAllW_cons (pre_splitW h).1
 obtain rfl:=hasAllW_nil h2
 obtain⟨zs,rfl,h3⟩:=hasW_list h1
 obtain⟨ys,rfl⟩:=ints_of h3
 exact⟨ys,rfl⟩
theorem G4(w:Well P h v (.int i)):∃t,v=.int i t:=by cases w;exact⟨_,rfl⟩
theorem G3:∀{vs:List Value},WellAll P h vs (ys.map .int)->ZW gv V (We ys) vs:=by
 induction ys with
 |nil=>exactλ{vs} w=>by cases w;rfl
 |cons y ys ih=>exactλ{vs} w=>(wellAll_cons_inv w).elim λv w=>w.elim λr w=>⟨v,r,w.1,G4 w.2.1,ih w.2.2⟩
theorem Dj{h:Zz0}{a:aV}{m m':Str->Option Value}(x:h.Ns a m)(y:h.Ns a m')(n:Str):m n=m' n:=by
 refine hG ?_;intro PP
 obtain⟨o,es,ep,e,d,_,f⟩:=x
 obtain⟨o',es',fR,e',d',_,f'⟩:=y
 dsimp only[PP]
 rw[e]at e';cases e'
 rw[d]at d';cases d'
 rw[<-f,f']
theorem Di:lX.claim.post xs (.bool true) xs=true:=by kernel_rfl
theorem xV:("law",AV.g 77)∈wI:=au (i:=53) (by kernel_rfl)
theorem G0:WalkO (view pw [104]) (pw.boundNames.filter λn=>n !=("law":Str)) (λY Y=>True) YP lX (((defOf (view pw [104]) ("law":Str)).map (·.1)).getD ⟨default,default,[],default,default⟩) [] λf vs=>PySem.call f vs:=
 λw s₀ s₁ mg mb G dc a o pm cd doc dV kV ho hd hc hD hm hg args fz as hp hl hr hW low=>by
  refine hG ?_;intro PP
  obtain⟨ys,rfl⟩:=xW hp
  have hlen:=length_le_of_layableW (layableW_arg hl _ (.head _))
  rw[cM]at hlen
  cases hW with|@cons v _ _ _ w1 w2=>
  cases w2
  cases w1 with|@list la vs _ h1 h2=>
  let c:=Ds pw w s₁.heap callerA [] λY=>False
  have T:∀{A l X},Top (c.ww A l X) gG:=yc dc G.T.b G.T.builtins
  have I:Inv c s₁ λY=>none:=⟨⟨λY Y e=>(ZE e),λa o e=>⟨e,rfl,λz=>z⟩⟩,trivial,λY z=>z.elim,rfl,λa Z=>eE Z λe Z=>aE Z λm _=>by cases m⟩
  have ea:V5 c s₁.heap (λY=>none) [.lst (We ys)] [.ref la]:=⟨_,_,rfl,⟨vs,⟨⟨h1,rfl,λz=>z⟩⟩,c7 (c7 (cV (cM ..)) hlen) (by decide),G3 h2⟩,rfl⟩
  have hC:Xh c (Z8 441) 444:=Ot T G.T.nolimit (xX dc) 441
  have hL:Z8 441 77 [.lst (We ys)] (λv Y=>v=.bool true) (λY=>False) (λY=>none):=sM (m:=428) (v:=.lst (We ys)) (xs:=ys) (by decide) (by decide) (λY k=>k) λY=>rfl
  have hR:NG (WV 77) 444 callerA:=⟨rfl,by decide+kernel,by decide+kernel⟩
  obtain⟨f,e1,e2,e3⟩:=hC (A:=callerA) (l:=[]) (X:=λY=>False) rfl hL hR I ea
  have ef:a=f:=by
   have e:mg ("law":Str)=some (.ref f):=by
    rw[Dj G.T.g (B6 dc) ("law":Str),<-e1]
    exact Z1 (r_ w.params) ("law",.g 77) xV
   have hm:mg ("law":Str)=some (.ref a):=hm
   rw[e]at hm;cases hm;rfl
  subst ef
  refine Zm3 (codeAny_mono e3 λr s' z=>?_)
  cases r with
  |error e=>cases z with|mk _ q=>exact q.elim
  |ok fl=>
   cases fl with
   |ret v=>
    cases z with|@mk U' p J N=>
    refine hG ?_;intro PP
    obtain⟨x,rfl,ev⟩:=p
    obtain rfl:v=.bool true:=ev
    refine⟨.inl ⟨_,.bool true,[],rfl,λY=>rfl,.bool _,Di,λY=>⟨.nil,λY m=>by cases m⟩⟩,.of_keep λa o e=>N.k.obj a o e rfl λZ=>eE Z λ_ Z=>aE Z λm _=>(by cases m),N.r.o,.of_eq (N.r.g.trans hg)⟩
   |_=>exact z.elim
noncomputable abbrev TQ:OpenLaw:=PySem.Challenge.rw_nt0231_01
theorem n1:namesResolve TQ.row.prog=true:=by kernel_rfl
theorem n2:noRoadLSs {strict:=!(Zp4 TQ.row.prog.main.body).all cThrough.contains,foot:=none,bare:=(["vars","dir","locals"]:List Str).filter (readsOut TQ.row.prog TQ.row.prog.main.body)} TQ.row.prog.main.body=true:=by kernel_rfl
theorem n3:(namesMeet TQ.row.prog TQ.row.prog.main.body λY n=>attrL n)=true:=by kernel_rfl
theorem n4:noRoadLSs {strict:=true,foot:=some TQ.bound',writes:=TQ.writes,may:=TQ.may} TQ.footing=true:=by kernel_rfl
theorem n5:TQ.bound'.all (λn=>!builtinNamed n||TQ.about==[n]||!TQ.reads n)=true:=by kernel_rfl
theorem n6:(namesMeet TQ.prog TQ.above λY n=>!TQ.own.contains n)=true:=by kernel_rfl
theorem dH:looksOpen TQ.row.prog=true:=by
 unfold looksOpen
 refine Zh8 (Zh8 (Zh8 (Zh8 (Zh8 ?_ ?_) n1) ?_) n2) n3<;>kernel_rfl
theorem dB:TQ.wellSaid=true:=by
 unfold OpenLaw.wellSaid OpenRow.wellSaid OpenRow.partSaid
 repeat' with_reducible refine Zh8 ?_ ?_
 all_goals first|with_reducible exact dH|with_reducible exact n4|with_reducible exact n5|with_reducible exact n6|kernel_rfl
theorem GZ{p q:Zw8}{loose:List Str}{Xt:cK->Bool}{α:Type}{Yf:cK->α}{Yt:bI->α}{Ya:Zt2->α}{N m:Nat}{ann:Option Value}{H:Zq0->Zz0}{d:PySem.Drawn}{k:Nat}{stp:Zw8->Zt2->bI->bh->Option (bI×bh)}{S:Zt2->OsState->bI}
 (ha:∀w os,(S w os).abs=⟨H w.params,#[],d,k,os⟩) (op:∀w:Zt2,(fencedOpening Zu6 p w (N+1)).map (λs=>(s.heap,s.gens,s.drawn,s.toks))=some (H w.params,#[],d,k))
 (size:∀w:Zt2,((H w.params).isNs Zw6&&(#[]:Array GenState).size==0,(H w.params).objs.size,(H w.params).nsMap Zw6 "__annotations__")=(true,m,ann)) (imp:Zp4 p.main.body=[]) (hst:stepT (denote Zu6)=stp) (hy:∀s:bI,Yf s.abs=Yt s)
 (head:∀w os,(xS (stp p w) (Zp5 m ann) N (S w os) (topStub p)).map (λr=>(Zj5 r.2,(staticsOk [] (H w.params) r.1.abs.heap&&namesBound p r.1.abs.heap&&gensDone r.1.abs&&laidKept (H w.params) r.1.abs.heap),openSeen q loose [] Xt true r.1.abs,Yt r.1))=some (true,true,openGood q loose,Ya w)):
 LeftO p q loose Xt Yf Ya (N+1) true:=λw=>by
 obtain⟨⟨h,gs,d',k',os⟩,e,e'⟩:=bK.mp (op w)
 obtain⟨rfl,rfl,rfl,rfl⟩:h=H w.params/\gs=#[]/\d'=d/\k'=k:=by simpa using e'
 obtain⟨⟨s',t'⟩,g1,g2⟩:=bK.mp (head w os)
 obtain⟨g2,g3⟩:=Zt8 g2
 obtain⟨g3,g4⟩:=Zt8 g3
 obtain⟨g4,g5⟩:=Zt8 g4
 rw[<-hst]at g1
 have r:=GN g1 g2
 rw[ha]at r
 obtain⟨z1,z2,z3⟩:_/\_/\_:=by simpa only[Prod.mk.injEq]using size w
 have t:topFrom Zu6 p w (N+1) ⟨H w.params,#[],d',k',os⟩=some s'.abs:=by
  unfold topFrom
  dsimp only
  rw[z1,z2,z3,r]
  show(match staticsOk (Zp4 p.main.body) (H w.params) s'.abs.heap&&namesBound p s'.abs.heap&&gensDone s'.abs&&laidKept (H w.params) s'.abs.heap with|true=>_|false=>_)=_
  rw[imp,g3]
 unfold openEnds
 rw[e]
 show(topFrom Zu6 p w (N+1) _).map _=_
 rw[t,imp]
 exact congrArg some (Prod.ext g4 ((hy s').trans g5))
theorem rY(w:Zt2):((Zr1 w.params).isNs Zw6&&(#[]:Array GenState).size==0,(Zr1 w.params).objs.size,(Zr1 w.params).nsMap Zw6 "__annotations__")=(true,11,some (.ref 6)):=by kernel_rfl
theorem xU(s:cK):fenceModules? pw s=some s:=by rfl
theorem rX(w:Zt2):(fencedOpening Zu6 pw w (14000+1)).map (λs=>(s.heap,s.gens,s.drawn,s.toks))=some (Zr1 w.params,#[],boot_drawn,boot_toks):=boot_open (p:=pw) (N:=14000+1) l6 (by rfl) xU w
theorem left:LeftO pw qV QL (λY=>true) (λs=>rK s.heap.get?) (λw=>dm w.params) (14000+1) true:=GZ qX rX rY l2 iX (λs=>congrArg rK (GG s)) λw os=>BV (p:=pw) (w:=w)▸head w os
noncomputable def M9:DefRec:=((defOf qV ("law":Str)).map (·.1)).getD ⟨default,default,[],default,default⟩
theorem Dh:defOf qV TQ.row.name=some (M9,[]):=by kernel_rfl
theorem GY:TQ.row.prog.theDef TQ.row.name=some (M9.params,M9.body,M9.scope):=by kernel_rfl
theorem Dg:kwWritten? M9.params.kwonlyargs M9.params.kw_defaults=some []:=by kernel_rfl
theorem dJ:(chainsOk qV&&opensWell TQ.row.prog&&(frees TQ.row.toRowW&&TQ.row.toRowW.within.isEmpty))=true:=by kernel_rfl
theorem dI(call:WalkO qV QL (λY Y=>True) YP TQ.row.toRowW M9 [] λf vs=>PySem.call f vs):PySem.Challenge.rw_nt0231_01.Holds:=
 holds_law dB λk1=>holds_open (r:=TQ.row) left wB YP.keeps (λY Y=>trivial) (λY Y Y Y Y=>trivial) Dh GY Dg (λY Y=>recFacts_nil rfl) (by rfl) k1 dJ (by exact⟨rfl,rfl,rfl,rfl,rfl,by decide+kernel⟩) ⟨[.list []],by decide+kernel,by decide+kernel⟩ call
end
end Mine.Internal
theorem PySem.Challenge.cw_nt0231_01_holds : PySem.Challenge.rw_nt0231_01.Holds :=
 Mine.Internal.dI Mine.Internal.G0
