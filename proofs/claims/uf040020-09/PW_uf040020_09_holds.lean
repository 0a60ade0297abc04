import PyProof.Rows.All
import PyProof.ExcArgsOwn
import PyProof.IsInstance
import PyProof.DictRoads
import PyProof.DictDisplay
import PyProof.DictWalks
import PyProof.StrLoop
import PyProof.Walks
import PyProof.Rows.MatchSeqLen
import PyProof.P3Statements
import PyProof.StrBlockL
import PyProof.StrBlock2
import PyProof.Rows.StrNews2
import KE.KIntText
import PyProof.Cells
import PyProof.CompFree
import PyProof.RulesTry
import PyProof.RulesAs
import PyProof.StationsW
import PyProof.DictList
import PyProof.TupleOps
import PyProof.ListOps
import PyProof.DictKinds
import PyProof.ExcClass2
import PyProof.ObjNew
import PyProof.InstLoad
import PyProof.InstStoreFacts
import PyProof.EqLayable
import PyProof.Rows.StrJoin2
import PyProof.Rows.StrJoinMade
import PyProof.CallStr
import PyProof.Rows.StrSplitAre
import PyProof.RaisesMany
import PyProof.Rows.PlainStore
import PyProof.StrWalks
import PyProof.Rows.TupAssign
import PyProof.ExcBaseAll.ValueError
import PyProof.NsDelKeeps
import PyProof.CallRoads
import PyProof.AssignAttr
import PyProof.Rows.Own
import Wide.All
import OpenK.KLine
import Open.Line
import Open.Seg
import Open.Boot
import Wide.FinOn
import Lean
import PySem.Challenge.RW_uf040020_09
set_option Elab.async false
set_option autoImplicit false
set_option genSizeOf false
set_option genInjectivity false
set_option linter.all false
set_option backward.match.sparseCases false
set_option bootstrap.genMatcherCode false
set_option backward.eqns.nonrecursive false
set_option genCtorIdx false

section
set_option maxRecDepth 100000
namespace Mine
open PySem
noncomputable def bmX:List Value:=[.type "ValueError",.type "Exception",.type "BaseException",.type "object"]
noncomputable def wF:List Str:=["__getattribute__","__getattr__","__class__"]
inductive TailC (h:Heap):List Value->Prop
 | base:TailC h bmX
 | own {A:Addr} {c0:Value} {dd:Option Addr} {cd:ClassData} {sl:Array (Option Value)} {mA:Str->Option Value} {tl:List Value} :
   h.get? A=some { cls:=c0,dict:=dd,data:=.cls cd,slots:=sl }->h.Ns cd.ns mA->(∀ n ∈ wF,mA n=none)->TailC h tl->TailC h (.ref A :: tl)
theorem TailC.keeps {h h':Heap} {tl:List Value} (T:TailC h tl) (hk:∀ b o,h.get? b=some o->h'.get? b=some o):TailC h' tl:=by
 induction T with
 | base=>exact .base
 | own hA hN hq _ ih=>exact .own (hk _ _ hA) (hN.keeps hk) hq ih
theorem TailC.has {h:Heap} {tl:List Value} (T:TailC h tl) {v:Value} (hv:bmX.contains v=true):tl.contains v=true:=by
 induction T with
 | base=>exact hv
 | own _ _ _ _ ih=>rw [List.contains_cons,ih,Bool.or_true]
theorem zLQ:typeLookup (.type "ValueError") "__getattribute__"=pure (some (.builtin "BaseException.__getattribute__")):=by rw [typeLookup_type,builtinLookup_eq_fast]; kernel_rfl
theorem zE6:typeLookup (.type "ValueError") "__class__"=pure (some (.builtin "object.__class__")):=by rw [typeLookup_type,builtinLookup_eq_fast]; kernel_rfl
theorem zCQ:typeLookup (.type "ValueError") "__getattr__"=pure none:=by rw [typeLookup_type,builtinLookup_eq_fast]; kernel_rfl
theorem zPl:mroOf (.type "ValueError")=pure bmX:=by kernel_rfl
theorem zNA (self:Value):bindSpecial (.builtin "BaseException.__getattribute__") self=pure (.builtin "BaseException.__getattribute__",[self]):=by
 kernel_rfl
section
variable {prog:Program} {w:World} {A:Around} {E:Value->Shared->Prop} {h:Heap} {g:Array GenState} {d:Drawn} {t:Nat} {os:OsState} {a:Addr} {o:Obj}
 {nm q:Str} {C N:Addr} {bs bm:List Value} {hdct:Bool} {sn:List Str} {sub:List Value} {ab:Bool} {col:Option Bool} {dd:Option Addr} {k0 k1 k2 k3 k5:Option Value} {newId:String}
theorem zD5 {M:Model} {tl:List Value} {n:Str} {y:Option Value} {Q:Option Value->Shared->Prop} (hn:n ∈ wF) (T:TailC h tl) (hrest:lookupAlong bmX n=pure y) (hq:Q y ⟨h,g,d,t,os⟩) :
  wpAny M A (lookupAlong tl n) Q E ⟨h,g,d,t,os⟩:=by
 induction T with
 | base=>rw [hrest]; exact wpAny_pure hq
 | own hA hN hni _ ih =>
  rw [lookupAlong_cons]
  refine wpAny_bind (wpAny_classOwn_cls hA hN ?_)
  rw [hni n hn]
  exact ih
theorem vA {M:Model} {n:Str} {y:Option Value} {Q:Option Value->Shared->Prop} (hn:n ∈ wF) (hC:h.get? C=some (excClassObj nm q C N bs bm hdct sn sub ab col dd k0 k1 k2 k3 k5 newId)) (T:TailC h (.ref C :: bm))
  (hB:typeLookup (.type "ValueError") n=pure y) (hq:Q y ⟨h,g,d,t,os⟩):wpAny M A (typeLookup (.ref C) n) Q E ⟨h,g,d,t,os⟩:=by
 have hrest:lookupAlong bmX n=pure y:=by rw [typeLookup_eq,zPl] at hB; exact hB
 rw [typeLookup_eq]
 exact wpAny_bind (wpAny_mroOf_exc hC (zD5 hn T hrest hq))
theorem zCN {R:Result->Shared->Prop} (hC:h.get? C=some (excClassObj nm q C N bs bm hdct sn sub ab col dd k0 k1 k2 k3 k5 newId)) (T:TailC h (.ref C :: bm))
  (hx:h.get? a=some o) (hc:o.cls=.ref C) (hq:R (.ok (.ret (.ref C))) ⟨h,g,d,t,os⟩) :
  codeAny (model prog w) A (.call (.builtin "getset_descriptor.__get__") ⟨[.builtin "object.__class__",.ref a,.ref C],[]⟩) R ⟨h,g,d,t,os⟩:=by
 have hT5:(⟨h,g,d,t,os⟩:Shared).TypeIs (.builtin "object.__class__") "getset_descriptor":=F.typeOf_object_class
 have hcB:(Value.ref C :: bm).contains (.type (".".intercalate ("object.__class__".cutAt '.').dropLast))=true:=by
  rw [F.owner_object_class]; exact T.has rfl
 refine codeAny_call_builtin F.slot_gs_get.plain F.entry_gs_get (F.slot_gs_get.check _ _ _ _ _ _ _ _ hT5 (F.args_gs_get _ _ _) ?_)
 repeat (any_goals (first | assumption | (with_reducible refine wpAny_loadPart_at hx ?_; rw [hc]) | (with_reducible refine wpAny_isSubtype_exc hC ?_; rw [hcB]) | wp_step))
 refine ⟨Code.quiet_builtin _ (by decide +kernel),codeAny_builtin F.entry_object_class ?_⟩
 repeat (any_goals (first | assumption | (with_reducible refine wpAny_loadPart_at hx ?_; rw [hc]) | (with_reducible refine wpAny_isSubtype_exc hC ?_; rw [hcB]) | wp_step))
theorem zDl {M:Model} {nameV:Value} {Q:Unit->Shared->Prop} (hC:h.get? C=some (excClassObj nm q C N bs bm hdct sn sub ab col dd k0 k1 k2 k3 k5 newId)) (T:TailC h (.ref C :: bm))
  (hx:h.get? a=some o) (hc:o.cls=.ref C) (hq:Q () ⟨h,g,d,t,os⟩):wpAny M A (checkBuiltinCall "BaseException.__getattribute__" ⟨[.ref a,nameV],[]⟩) Q E ⟨h,g,d,t,os⟩:=by
 have hk:builtinKind "BaseException.__getattribute__"=some .slot:=by decide +kernel
 have hsplit:splitId "BaseException.__getattribute__"=some ("BaseException","__getattribute__"):=by decide +kernel
 have hcB:(Value.ref C :: bm).contains (.type "BaseException")=true:=T.has rfl
 have ha:=F.args_bexc_ga (.ref a) nameV
 simp only [checkBuiltinCall,hk,hsplit]
 refine wpAny_bind ?_
 ·unfold isInstance
  repeat (first | (with_reducible refine wpAny_loadPart_at hx ?_; rw [hc]) | (with_reducible refine wpAny_isSubtype_exc hC ?_; rw [hcB]) | wp_step)
  exact hq
theorem zBB {tk:Tok} {Q:Fin->Shared->Prop} (hC:h.get? C=some (excClassObj nm q C N bs bm hdct sn sub ab col dd k0 k1 k2 k3 k5 newId)) (T:TailC h (.ref C :: bm))
  (hx:h.get? a=some o) (hc:o.cls=.ref C) (hq:Q (.done (.ret (.ref C))) ⟨h,g,d,t,os⟩) :
  wpAny (model prog w) A (Builtin.«object.__getattribute__» ⟨[.ref a,.str "__class__" tk],[]⟩) Q E ⟨h,g,d,t,os⟩:=by
 have hT5:(⟨h,g,d,t,os⟩:Shared).TypeIs (.builtin "object.__class__") "getset_descriptor":=F.typeOf_object_class
 have f5:=F.typeOf_object_class
 have f6:=F.slot_gs_get.lookup
 have f7:=F.slot_gs_set.lookup
 have hm:("__class__" : Str) ∈ wF:=.tail _ (.tail _ (.head _))
 repeat (any_goals (first | assumption | (with_reducible refine wpAny_loadPart_at hx ?_; rw [hc]) | with_reducible refine vA hm hC T zE6 ?_ | wp_step))
 refine zCN hC T hx hc ?_
 repeat (any_goals (first | assumption | wp_step))
theorem zDm {tk:Tok} {Q:Value->Shared->Prop} (hC:h.get? C=some (excClassObj nm q C N bs bm hdct sn sub ab col dd k0 k1 k2 k3 k5 newId)) (T:TailC h (.ref C :: bm))
  (hx:h.get? a=some o) (hc:o.cls=.ref C) (hq:Q (.ref C) ⟨h,g,d,t,os⟩) :
  wpAny (model prog w) A (getAttrBy (.ref a) (.str "__class__" tk) false) Q E ⟨h,g,d,t,os⟩:=by
 have f3:=zNA (.ref a)
 have hx2:(Value.builtin "BaseException.__getattribute__"==Value.builtin "object.__getattribute__")=false:=by decide +kernel
 have hx1:(onTheHeap (Value.ref C)&&Value.builtin "BaseException.__getattribute__"==Value.builtin "object.__getattribute__")=false:=by rw [hx2]; rfl
 have hm1:("__getattribute__" : Str) ∈ wF:=.head _
 have hm2:("__getattr__" : Str) ∈ wF:=.tail _ (.head _)
 have hp:plainId "BaseException.__getattribute__"=true:=by decide +kernel
 repeat (any_goals (first | assumption | (with_reducible refine wpAny_loadPart_at hx ?_; rw [hc]) | with_reducible refine vA hm1 hC T zLQ ?_ | with_reducible refine vA hm2 hC T zCQ ?_ | wp_step))
 refine codeAny_call_builtin hp F.entry_bexc_ga (zDl hC T hx hc (zBB hC T hx hc ?_))
 repeat (any_goals (first | assumption | wp_step))
theorem zBe {Q:Option Value->Shared->Prop} (hC:h.get? C=some (excClassObj nm q C N bs bm hdct sn sub ab col dd k0 k1 k2 k3 k5 newId)) (T:TailC h (.ref C :: bm))
  (hx:h.get? a=some o) (hc:o.cls=.ref C) (hq:Q (some (.ref C)) ⟨h,g,d,t+1,os⟩):wpAny (model prog w) A (getAttr? (.ref a) "__class__") Q E ⟨h,g,d,t,os⟩:=by
 unfold getAttr? getAttrBy?
 repeat (any_goals (first | assumption | with_reducible apply zDm hC T hx hc | wp_step))
variable {nm' q':Str} {K N':Addr} {bs' bm':List Value} {hdct':Bool} {sn':List Str} {sub':List Value} {ab':Bool} {col':Option Bool} {dd':Option Addr} {k0' k1' k2' k3' k5':Option Value} {newId':String}
theorem zGG {b:Bool} {dep:Int} {tk:Tok} {Q:Fin->Shared->Prop} (hC:h.get? C=some (excClassObj nm q C N bs bm hdct sn sub ab col dd k0 k1 k2 k3 k5 newId)) (T:TailC h (.ref C :: bm)) (hK:h.get? K=some (excClassObj nm' q' K N' bs' bm' hdct' sn' sub' ab' col' dd' k0' k1' k2' k3' k5' newId'))
  (hx:h.get? a=some o) (hc:o.cls=.ref C) (hb:(Value.ref C :: bm).contains (.ref K)=b) (h1:Q (.done (.ret (.bool b))) ⟨h,g,d,t,os⟩) (h2:Q (.done (.ret (.bool b))) ⟨h,g,d,t+1,os⟩) :
  wpAny (model prog w) A (Builtin.«isinstance.nested» ⟨[.ref a,.ref K,.int dep tk],[]⟩) Q E ⟨h,g,d,t,os⟩:=by
 cases he:(Value.ref C==Value.ref K) with
 | true =>
  have hbt:b=true:=by rw [<- hb,List.contains_cons,beq_iff_eq.mp he,beq_self_eq_true]; rfl
  subst hbt
  repeat (any_goals (first | assumption | (with_reducible refine wpAny_loadPart_at hx ?_; rw [hc]) | wp_step))
 | false =>
  have he':¬ ((Value.ref C==Value.ref K)=true):=by rw [he]; exact Bool.false_ne_true
  cases b with
  | true=>repeat (any_goals (first | assumption | (with_reducible refine wpAny_loadPart_at hx ?_; rw [hc]) | with_reducible refine wpAny_loadPart_at hK ?_ | (with_reducible refine wpAny_isSubtype_exc hC ?_; rw [hb]) | wp_step))
  | false=>repeat (any_goals (first | assumption | (with_reducible refine wpAny_loadPart_at hx ?_; rw [hc]) | with_reducible refine wpAny_loadPart_at hK ?_ | (with_reducible refine wpAny_isSubtype_exc hC ?_; rw [hb]) | with_reducible apply zBe hC T hx hc | with_reducible refine wpAny_loadPart_at hC ?_ | wp_step))
theorem zIk {dep:Int} {tk:Tok} {Q:Fin->Shared->Prop} (hC:h.get? C=some (excClassObj nm q C N bs bm hdct sn sub ab col dd k0 k1 k2 k3 k5 newId)) (T:TailC h (.ref C :: bm))
  (hx:h.get? a=some o) (hc:o.cls=.ref C) (h1:Q (.done (.ret (.bool true))) ⟨h,g,d,t,os⟩) :
  wpAny (model prog w) A (Builtin.«isinstance.nested» ⟨[.ref a,.type "ValueError",.int dep tk],[]⟩) Q E ⟨h,g,d,t,os⟩:=by
 have hb:(Value.ref C :: bm).contains (.type "ValueError")=true:=T.has rfl
 have he:¬ ((Value.ref C==Value.type "ValueError")=true):=fun h=>nomatch (beq_iff_eq.mp h)
 have hty:typeOf (.type "ValueError")=pure (.type "type"):=by kernel_rfl
 repeat (any_goals (first | assumption | (with_reducible refine wpAny_loadPart_at hx ?_; rw [hc]) | (with_reducible refine wpAny_isSubtype_exc hC ?_; rw [hb]) | wp_step))
theorem zNF {b:Bool} {Q:Value->Shared->Prop} (hC:h.get? C=some (excClassObj nm q C N bs bm hdct sn sub ab col dd k0 k1 k2 k3 k5 newId)) (T:TailC h (.ref C :: bm)) (hK:h.get? K=some (excClassObj nm' q' K N' bs' bm' hdct' sn' sub' ab' col' dd' k0' k1' k2' k3' k5' newId'))
  (hx:h.get? a=some o) (hc:o.cls=.ref C) (hb:(Value.ref C :: bm).contains (.ref K)=b) (h1:Q (.bool b) ⟨h,g,d,t,os⟩) (h2:Q (.bool b) ⟨h,g,d,t+1,os⟩) :
  wpAny (model prog w) A (call (.builtin "isinstance") [.ref a,.ref K]) Q E ⟨h,g,d,t,os⟩:=
 call_isinstance (S:=fun _ R s=>s=⟨h,g,d,t,os⟩ /\ R (.ok (.ret (.bool b))) ⟨h,g,d,t,os⟩ /\ R (.ok (.ret (.bool b))) ⟨h,g,d,t+1,os⟩)
  (fun _ _ _ _ s hs=>by obtain ⟨rfl,h1,h2⟩:=hs; exact isinstance_outer (zGG hC T hK hx hc hb h1 h2)) ⟨rfl,h1,h2⟩
theorem zPc {Q:Value->Shared->Prop} (hC:h.get? C=some (excClassObj nm q C N bs bm hdct sn sub ab col dd k0 k1 k2 k3 k5 newId)) (T:TailC h (.ref C :: bm))
  (hx:h.get? a=some o) (hc:o.cls=.ref C) (h1:Q (.bool true) ⟨h,g,d,t,os⟩) :
  wpAny (model prog w) A (call (.builtin "isinstance") [.ref a,.type "ValueError"]) Q E ⟨h,g,d,t,os⟩:=
 call_isinstance (S:=fun _ R s=>s=⟨h,g,d,t,os⟩ /\ R (.ok (.ret (.bool true))) ⟨h,g,d,t,os⟩)
  (fun _ _ _ _ s hs=>by obtain ⟨rfl,h1⟩:=hs; exact isinstance_outer (zIk hC T hx hc h1)) ⟨rfl,h1⟩
end
end Mine
end

section
namespace Mine
open PySem
section
variable {prog:Program} {w:World} {K:Type} [DecidableEq K] {knd:KeyKind prog w K} {A:Around} {E:Value->Shared->Prop} {s:Shared} {d:Addr} {kvs:List (K × Value)} {k:K} {key v:Value}
theorem zGY {kvs:List (K × Value)} {k:K} {v:Value} (h:¬ (kvs.any fun kv=>decide (kv.1=k))=true):(stored kvs k v).length=kvs.length+1:=by
 rw [stored,if_neg h,List.length_append]; rfl
theorem zGZ {kvs:List (K × Value)} {k:K} {v:Value} (h:(kvs.any fun kv=>decide (kv.1=k))=true):(stored kvs k v).length=kvs.length:=by
 rw [stored,if_pos h,List.length_map]
noncomputable def Even (knd:KeyKind prog w K) (h:Heap) (d:Addr) (kvs:List (K × Value)):Prop:=h.DictAt knd d kvs kvs.length
theorem zFN {Q:Unit->Shared->Prop} (hkey:knd.is k key=true) (hm:Even knd s.heap d kvs) (hQ:∀ h',Even knd h' d (stored kvs k v)->Heap.SameBut d s.heap h'->Q () { s with heap:=h',toks:=s.toks+1 })
  (hsz:kvs.length <= sizeLine):wpAny (model prog w) A (dictSet d key v) Q E s:=by
 obtain ⟨o,es,ho,hc,hd,hk,hp,hn⟩:=hm
 have hlen:es.size=kvs.length:=by rw [<- hp.length,Array.length_toList]
 have htl:(es.toList.findIdx? fun e=>knd.is k e.key)=es.findIdx? fun e=>knd.is k e.key:=by cases es; simp
 have hix:(es.findIdx? fun e=>knd.is k e.key)=kvs.findIdx? fun kv=>decide (kv.1=k):=htl.symm.trans (hp.findIdx k)
 unfold dictSet
 refine wpAny_holding (wpAny_bind (knd.pyHash hkey ?_))
 unfold dictSetHashed
 refine wpAny_holding (wpAny_bind (wpAny_dictFind_of (s:={ s with toks:=s.toks+1 }) hkey ho hd hk ?_))
 cases hi:es.findIdx? fun e=>knd.is k e.key with
 | some i =>
  have hany:=any_of_findIdx_some (hix ▸ hi)
  have hl:(es.toList.findIdx? fun e=>knd.is k e.key)=some i:=htl.trans hi
  refine wpAny_bind (wpAny_rule (wpAny_bind (wpAny_updateDict (s:={ s with toks:=s.toks+1 }) ho hd (wpAny_point (hQ _ ⟨_,_,Heap.get?_update_self _ ho (Obj.isFreed_of_dict (Obj.data_mapDict hd _)),hc.mapDict _,(Obj.data_mapDict hd _).trans (by rw [zGZ hany]),hk.modify _ _,?_,?_⟩ (Heap.SameBut.update ..))))))
  ·rw [stored,if_pos hany,Array.toList_modify]; exact hp.modify hn hl v
  ·rw [stored,if_pos hany,keys_map_store]; exact hn
 | none =>
  have hnot:k ∉ kvs.map (·.1):=not_mem_of_findIdx_none (hix ▸ hi)
  have hany:¬ (kvs.any fun kv=>decide (kv.1=k))=true:=fun h=>by
   obtain ⟨kv,hkv,he⟩:=List.any_eq_true.mp h
   exact hnot (List.mem_map.mpr ⟨kv,hkv,of_decide_eq_true he⟩)
  refine wpAny_bind (wpAny_rule (wpAny_updateDictKeys (hz:=hlen ▸ hsz) (s:={ s with toks:=s.toks+1 }) ho hd (hQ _ ⟨_,_,Heap.get?_update_self _ ho (Obj.isFreed_of_dict (Obj.data_mapDictKeys hd _)),hc.mapDictKeys _,(Obj.data_mapDictKeys hd _).trans (by rw [zGY hany]),hk.push hkey _,?_,?_⟩ (Heap.SameBut.update ..))))
  ·rw [stored,if_neg hany,Array.toList_push]; exact hp.append hkey (knd.hash k) v
  ·rw [stored,if_neg hany,List.map_append,List.nodup_append]
   refine ⟨hn,by simp,fun a ha b hb q=>hnot ?_⟩
   obtain rfl:b=k:=List.mem_singleton.mp hb
   exact q ▸ ha
theorem zEB {Q:Unit->Shared->Prop} (hkey:knd.is k key=true) (hm:Even knd s.heap d kvs) (hQ:∀ h',Even knd h' d (stored kvs k v)->Heap.SameBut d s.heap h'->Q () { s with heap:=h',toks:=s.toks+1 })
  (hsz:kvs.length <= sizeLine):wpAny (model prog w) A (setItem (.ref d) key v) Q E s:=by
 have hT:=hm.dictOf.typeIs
 unfold setItem
 refine wpAny_holding (wpAny_bind (wpAny_sequenceKey hT (by decide) ?_))
 refine wpAny_bind (wpAny_callSpecial?_slot (name:=Str.ofString "__setitem__") hT slot_dict_setitem (wpAny_call_entry slot_dict_setitem hT entry_dict_setitem ?_ (args_dict_setitem _ _ _)))
 show wpAny _ _ (Builtin.Dict.notOrdered "__setitem__" ⟨[.ref d,key,v],[]⟩ >>= fun _=>_) _ _ s
 refine wpAny_bind (wpAny_notOrdered_dict hT ?_)
 show wpAny _ _ (dictSet d key v >>= fun _=>_) _ _ s
 exact wpAny_bind (zFN hkey hm (fun h' hm' hs'=>wpAny_pure ⟨.none,rfl,wpAny_pure (hQ h' hm' hs')⟩) hsz)
theorem zKo {env:Env} {ke ve:Expr} {pos:Pos} {Q:Value->Shared->Prop}
  (h:wpAny (model prog w) A (evalPairs [(eval ke env,do let x <- eval ve env; standAt pos; pure x)]) (fun vs s₁=>∃ (key vv:Value) (k:K),vs=[(key,vv)] /\ knd.is k key=true /\ Even knd s₁.heap s.heap.objs.size [] /\
   ∀ h',Even knd h' s.heap.objs.size [(k,vv)]->Heap.SameBut s.heap.objs.size s₁.heap h'->Q (.ref s.heap.objs.size) { s₁ with heap:=h',toks:=s₁.toks+1 }) E { s with heap:=s.heap.push { cls:=.type "dict",data:=.dict #[] } }) :
  wpAny (model prog w) A (eval (.Dict [some ke] [ve] pos) env) Q E s:=by
 have hsh:(evalEachOpt [some ke] env).zip ((evalEach [ve] env).map fun v=>(do let x <- v; standAt pos; pure x:Sem Value))=([(eval ke env,(do let x <- eval ve env; standAt pos; pure x:Sem Value))]:List (Sem Value × Sem Value)).map fun p=>(some p.1,p.2):=rfl
 rw [arm_eval_Dict,hsh,dictDisplay_pairs [_] (List.cons_ne_nil _ _) (by show 1 < 17; decide)]
 refine wpAny_bind (wpAny_standAt (wpAny_bind ?_))
 unfold subDict
 refine wpAny_bind (wpAny_alloc (wpAny_bind (wpAny_holding ?_)))
 rw [if_pos (by show 1 <= 15; decide)]
 refine wpAny_bind (wpAny_mono h (fun vs s₁ q=>?_) fun _ _ e=>e)
 obtain ⟨key,vv,k,rfl,hkey,hm,hQ⟩:=q
 refine wpAny_holding (wpAny_bind ?_)
 rw [List.forIn_cons]
 refine wpAny_bind (wpAny_bind (zFN hkey hm (fun h' hm' hs'=>wpAny_pure ?_) (Nat.zero_le _)))
 simp only [List.forIn_nil]
 exact wpAny_pure (wpAny_pure (wpAny_pure (wpAny_pure (hQ h' hm' hs'))))
theorem Even.dictOf {h:Heap} (x:Even knd h d kvs):h.DictOf knd d kvs:=Heap.DictAt.dictOf x
theorem Even.at {h h':Heap} (e:h'.get? d=h.get? d) (x:Even knd h d kvs):Even knd h' d kvs:=by
 obtain ⟨o,es,ho,r⟩:=x
 exact ⟨o,es,e.trans ho,r⟩
theorem Even.new {h:Heap}:Even knd (h.push { cls:=.type "dict",data:=.dict #[] }) h.objs.size []:=by
 obtain ⟨o,es,ep,r⟩:=Heap.DictOf.new (knd:=knd) h
 obtain ⟨ho,_,hd,_⟩:=id r
 have e:(h.push { cls:=.type "dict",data:=.dict #[] }).get? h.objs.size=some { cls:=.type "dict",data:=.dict #[] }:=Heap.get?_push_size _ rfl
 rw [e] at ho; cases ho
 cases hd
 exact ⟨_,_,r⟩
theorem Even.live {h:Heap} (x:Even knd h d kvs):∃ o,h.get? d=some o:=by
 obtain ⟨o,_,_,e,_⟩:=x.dictOf
 exact ⟨o,e⟩
end
end Mine
end

section
set_option maxRecDepth 100000
namespace Mine
open PySem PyProof.Rows
noncomputable def Hn (A:Around) (h:Heap):Prop:=∀ v,A.handled=some v->∃ a o fs,v=.ref a /\ h.get? a=some o /\ o.data=.fields fs /\ fs[2]?=some .none
theorem zCO:entryFor table "proto.unchain"=some Builtin.«proto.unchain»:=entryFor_of_tree (by kernel_rfl)
section
variable {prog:Program} {w:World} {A:Around} {E:Value->Shared->Prop} {s:Shared} {α:Type} {Q:α->Shared->Prop}
theorem Hn.ext {h h':Heap} {b:Addr} {o:Obj} {vs:Array Value} (n:Hn A h) (hb:h.get? b=some o) (hd:o.data=.fields vs) (hz:vs[2]?=none) (hs:Heap.ExtBut b h h'):Hn A h':=fun v hv=>by
 obtain ⟨a,oa,fs,e,h1,h2,h3⟩:=n v hv
 refine ⟨a,oa,fs,e,hs a oa (fun q=>?_) h1,h2,h3⟩
 rw [q,hb] at h1; cases h1
 rw [hd] at h2; cases h2
 rw [hz] at h3; cases h3
theorem zJ9 {x:Addr} {ox:Obj} {vx:Array Value} (n:Hn A s.heap) (hx:s.heap.get? x=some ox) (hd:ox.data=.fields vx) (hz:2 < vx.size) (hne:∀ v,A.handled=some v->v ≠ .ref x)
  (hE:∀ h',(∃ o,h'.get? x=some o /\ o.cls=ox.cls)->Heap.ExtBut x s.heap h'->E (.ref x) { s with heap:=h' }):wpAny (model prog w) A (raiseNew (.ref x):Sem α) Q E s:=by
 simp only [raiseNew]
 refine wpAny_bind (wpAny_handled ?_)
 cases hh:A.handled with
 | none=>exact wpAny_bind (wpAny_pure (wpAny_throw (hE s.heap ⟨ox,hx,rfl⟩ (Heap.ExtBut.refl x s.heap))))
 | some v =>
  obtain ⟨a,o,fs,rfl,h1,h2,h3⟩:=n v hh
  have hax:(Value.ref a != Value.ref x)=true:=bne_iff_ne.mpr (hne _ hh)
  dsimp only
  rw [if_pos hax]
  refine wpAny_bind (wpAny_holding (runValue_entry zCO ?_))
  unfold Builtin.«proto.unchain»
  refine wpAny_bind (wpAny_field h1 h2 h3 ?_)
  rw [if_pos (by decide)]
  refine wpAny_bind (wpAny_pure (wpAny_pure ⟨_,rfl,?_⟩))
  simp only [updateField]
  refine wpAny_bind (wpAny_bind (wpAny_load hx ?_))
  rw [hd]; dsimp only; rw [if_pos hz]
  refine wpAny_update hx (wpAny_throw (hE _ ⟨_,Heap.get?_update_self _ hx (Obj.isFreed_of_fields (Obj.data_mapFields hd _)),Obj.cls_mapFields _ _⟩ fun b o hb e=>(Heap.get?_update_other _ _ (Ne.symm hb)).trans e))
theorem zFR (n:Hn A s.heap)
  (hE:∀ x h',(∃ o,h'.get? x=some o /\ o.cls=.type "StopIteration")->(∀ c o,s.heap.get? c=some o->h'.get? c=some o)->E (.ref x) { s with heap:=h' }) :
  wpAny (model prog w) A (newExc (.type "StopIteration") [] >>= fun e=>(raiseNew e:Sem α)) Q E s:=by
 refine wpAny_bind ?_
 simp only [newExc,newTuple]
 refine wpAny_bind (wpAny_newObj_type ?_ (by size_fits))
 refine wpAny_bind (m:=firstArgMember _ _) (wpAny_of_eq (a:=Value.none) (by first | rfl | (simp only [firstArgMember]; rfl)) ?_)
 refine wpAny_newObj_type ?_ (by size_fits)
 have k:∀ (o₁ o₂:Obj) c o,s.heap.get? c=some o->((s.heap.push o₁).push o₂).get? c=some o:=fun _ _ c o e=>Heap.get?_push_of_some _ (Heap.get?_push_of_some _ e)
 refine zJ9 (ox:=_) (fun v hv=>?_) (Heap.get?_push_size _ rfl) rfl (show 2 < (#[_,_,_,_,_,_]:Array Value).size from by show 2 < 6; decide) (fun v hv q=>?_) fun h' hx he=>hE _ h' hx fun c o e=>he c o (fun q=>?_) (k _ _ c o e)
 ·obtain ⟨a,o,fs,e,h1,h2,h3⟩:=n v hv
  exact ⟨a,o,fs,e,k _ _ a o h1,h2,h3⟩
 ·obtain ⟨a,o,fs,e,h1,_⟩:=n v hv
  rw [e] at q; cases q
  exact absurd (Heap.lt_size h1) (Nat.not_lt.mpr (by rw [Heap.size_push]; exact Nat.le_succ _))
 ·have:=Heap.lt_size e
  rw [q] at this
  exact absurd this (Nat.not_lt.mpr (by rw [Heap.size_push]; exact Nat.le_succ _))
end
section
variable {prog:Program} {w:World} {A:Around} {E:Value->Shared->Prop} {s:Shared} {Q:Option Value->Shared->Prop}
theorem zAL {it l:Addr} {i:Nat} {items:Array Value} (n:Hn A s.heap)
  (hit:s.heap.IsListIter it l i) (hl:s.heap.IsList l items) (hx:items[i]?=none)
  (hQ:∀ h',Heap.ExtBut it s.heap h'->Q none { s with heap:=h' }):wpAny (model prog w) A (pyNext (.ref it)) Q E s:=by
 obtain ⟨o,ho,hc,hd⟩:=id hit
 obtain ⟨ol,hol,_,nl,hdl⟩:=hl
 unfold pyNext
 refine wpAny_bind (wpAny_attempt (wpAny_callSpecial?_slot (name:=Str.ofString "__next__") hit.typeIs slot_listiter_next
  (wpAny_call_entry slot_listiter_next hit.typeIs entry_listiter_next ?_ (args_listiter_next _))))
 show wpAny _ _ (field (.ref it) 0 >>= _) _ _ s
 refine wpAny_bind (wpAny_field ho hd (x:=.ref l) rfl ?_)
 show wpAny _ _ (if (Value.ref l==Value.none)=true then _ else _) _ _ s
 rw [if_neg (show ¬ ((Value.ref l==Value.none)=true) from Bool.false_ne_true)]
 refine wpAny_bind (wpAny_field ho hd (x:=.int i 0) rfl ?_)
 refine wpAny_bind (wpAny_seqItems hol hdl ?_)
 simp only [Int.toNat_natCast,hx]
 refine wpAny_bind (wpAny_rule (wpAny_bind (wpAny_setField ho hd (by simp) ?_)))
 have sb:=(Heap.SameBut.update (h:=s.heap) (a:=it) (f:=Obj.mapFields (·.setIfInBounds 0 Value.none))).extBut
 refine zFR (n.ext ho hd rfl sb) fun x h' hx he=>?_
 obtain ⟨ox,h1,h2⟩:=hx
 refine wpAny_bind (wpAny_isInstance (T:="StopIteration") (b:=true) ⟨ox,h1,h2⟩ isSubtype_stop ?_)
 exact wpAny_pure (hQ _ fun b o hb e=>he b o (sb b o hb e))
theorem zFp {it:Addr} {x:Str} {t:Tok} {i:Nat} (n:Hn A s.heap)
  (hit:s.heap.IsStrIter it "str_ascii_iterator" x t i) (hx:x.cps[i]?=none)
  (hQ:∀ h',Heap.ExtBut it s.heap h'->Q none { s with heap:=h' }):wpAny (model prog w) A (pyNext (.ref it)) Q E s:=by
 obtain ⟨o,ho,hc,hd⟩:=id hit
 unfold pyNext
 refine wpAny_bind (wpAny_attempt (wpAny_callSpecial?_slot (name:=Str.ofString "__next__") hit.typeIs F.slot_str_ascii_iterator_next
  (wpAny_call_entry F.slot_str_ascii_iterator_next hit.typeIs F.entry_str_ascii_iterator_next ?_ (F.args_str_ascii_iterator_next_1 _))))
 show wpAny _ _ (field (.ref it) 0 >>= _) _ _ s
 refine wpAny_bind (wpAny_field ho hd (x:=.str x t) rfl ?_)
 show wpAny _ _ (field (.ref it) 1 >>= _) _ _ s
 refine wpAny_bind (wpAny_field ho hd (x:=.int i 0) rfl ?_)
 simp only [Int.toNat_natCast,hx]
 refine wpAny_bind (wpAny_rule (wpAny_bind (wpAny_setField ho hd (by simp) (wpAny_bind (wpAny_letGo ?_)))))
 have sb:=(Heap.SameBut.update (h:=s.heap) (a:=it) (f:=Obj.mapFields (·.setIfInBounds 0 Value.none))).extBut
 refine zFR (n.ext ho hd rfl sb) fun x h' hx he=>?_
 obtain ⟨ox,h1,h2⟩:=hx
 refine wpAny_bind (wpAny_isInstance (T:="StopIteration") (b:=true) ⟨ox,h1,h2⟩ isSubtype_stop ?_)
 exact wpAny_pure (hQ _ fun b o hb e=>he b o (sb b o hb e))
end
theorem Hn.one {A:Around} {h:Heap} (n:Hn A h):∃ ea,ea ≠ h.objs.size /\ (∀ v,A.handled=some v->v=.ref ea) /\ (A.handled ≠ none->∃ o fs,h.get? ea=some o /\ o.data=.fields fs /\ fs[2]?=some .none):=by
 cases hh:A.handled with
 | none=>exact ⟨h.objs.size+1,Nat.succ_ne_self _,(by intro v hv; cases hv),fun z=>absurd rfl z⟩
 | some v =>
  obtain ⟨a,o,fs,rfl,h1,h2⟩:=n v hh
  exact ⟨a,Nat.ne_of_lt (Heap.lt_size h1),fun w hw=>(Option.some.inj hw).symm,fun _=>⟨o,fs,h1,h2⟩⟩
theorem zFf {prog:Program} {w:World} {A:Around} (I ax:Addr) (hne:ax ≠ I) (items:Array Value) (ea:Addr) (hI:ea ≠ I) (hA:∀ v,A.handled=some v->v=.ref ea) :
  Walks prog w A I [I,ax,ea] [I] items.size (fun i v=>items[i]?=some v) (fun i h=>h.IsListIter I ax i /\ h.IsList ax items /\ (A.handled ≠ none->∃ o fs,h.get? ea=some o /\ o.data=.fields fs /\ fs[2]?=some .none)) where
 sub:=fun b hb=>by simp at hb; simp [hb]
 frame:=fun _ _ _ st hk=>⟨st.1.at fun o e=>hk I (by simp) o e,st.2.1.at fun o e=>hk ax (by simp) o e,fun z=>let ⟨o,fs,h1,h2⟩:=st.2.2 z; ⟨o,fs,hk ea (by simp) o h1,h2⟩⟩
 item:=fun i s Q E hi st hQ=>by
  refine wpAny_pyNext_list_item st.1 st.2.1 (x:=items[i]) (by simp [hi]) fun h' hit' hs'=>?_
  exact hQ _ h' s.toks (by simp [hi]) ⟨hit',st.2.1.extBut hs'.extBut hne,fun z=>let ⟨o,fs,h1,h2⟩:=st.2.2 z; ⟨o,fs,hs'.extBut ea o hI h1,h2⟩⟩ fun b o hb e=>hs'.extBut b o (fun h=>hb (by simp [h])) e
 done:=fun s Q E st hQ=>zAL (fun v hv=>let ⟨o,fs,h1,h2⟩:=st.2.2 (by rw [hv]; simp); ⟨ea,o,fs,hA v hv,h1,h2⟩) st.1 st.2.1 (by simp) fun h' he'=>hQ h' s.toks fun b o hb e=>he' b o (fun h=>hb (by simp [h])) e
 self:=fun _ _ _ _ st hQ=>wpAny_pyIter_listiter st.1 hQ
end Mine
end

section
namespace Mine
open PySem
set_option genCtorIdx true in
inductive Cls where
 | FlowError | NoDeed | NoLines | NoItem | NoNumber | FullBook | NoOrder | SameOrder | NoLine | TooMuch | NothingDone | ValueError
 deriving DecidableEq
noncomputable def Cls.sub (c d:Cls):Bool:=c==d||d==.ValueError||(d==.FlowError&&c != .ValueError)
set_option genCtorIdx true in
inductive V where
 | undef
 | none
 | bool (b:Bool)
 | int (i:Int)
 | str (s:Str)
 | tup (xs:List V)
 | lst (xs:List V)
 | ref (n:Nat)
 | exc (c:Cls)
 | parts
set_option genCtorIdx true in
inductive O where
 | list (xs:List V)
 | dict (es:List (Int × V))
 | inst (attrs:List (Nat × V))
noncomputable abbrev Sto:=List O
set_option genCtorIdx true in
inductive R (α:Type) where
 | ok (a:α) (U:Sto)
 | exc (c:Cls) (U:Sto)
 | stuck
noncomputable def R.bind {α β:Type}:R α->(α->Sto->R β)->R β
 | .ok a U,f=>f a U
 | .exc c U,_=>.exc c U
 | .stuck,_=>.stuck
@[simp] theorem R.bind_ok {α β:Type} (a:α) (U:Sto) (f:α->Sto->R β):(R.ok a U).bind f=f a U:=rfl
@[simp] theorem R.bind_exc {α β:Type} (c:Cls) (U:Sto) (f:α->Sto->R β):(R.exc c U:R α).bind f=.exc c U:=rfl
@[simp] theorem R.bind_stuck {α β:Type} (f:α->Sto->R β):(R.stuck:R α).bind f=.stuck:=rfl
noncomputable def R.lift {α:Type} (U:Sto):Option α->R α
 | some a=>.ok a U
 | none=>.stuck
@[simp] theorem R.lift_some {α:Type} (U:Sto) (a:α):R.lift U (some a)=.ok a U:=rfl
@[simp] theorem R.lift_none {α:Type} (U:Sto):R.lift U (none:Option α)=.stuck:=rfl
set_option genCtorIdx true in
inductive Kd where
 | int | bool | str | list | tuple | exc (c:Cls)
 deriving DecidableEq
inductive P1 where
 | not | neg | abs | len | toList | toTup | toInt | toStr | sum | min | max | all | isNone | isNotNone | isInst (k:Kd) | count
set_option genCtorIdx true in
inductive P2 where
 | add | sub | mul | fdiv | mod | pow
 | eq | ne | lt | le | gt | ge | isIn | notIn
 | index | min | max | join | split | partition | startswith | count
noncomputable def xK (U:Sto):V->Option (List V)
 | .tup xs=>some xs
 | .lst xs=>some xs
 | .ref n=>match U[n]? with
  | some (.list xs)=>some xs
  | _=>none
 | _=>none
noncomputable def wT:Option O->Option (List V)
 | some (.list xs)=>some xs
 | _=>none
noncomputable def listOf? (U:Sto):V->Option (List V)
 | .lst xs=>some xs
 | .ref n=>wT U[n]?
 | _=>none
noncomputable def intOf?:V->Option Int
 | .int i=>some i
 | _=>none
noncomputable def strOf?:V->Option Str
 | .str s=>some s
 | _=>none
noncomputable def boolOf?:V->Option Bool
 | .bool b=>some b
 | _=>none
noncomputable def ints? (xs:List V):Option (List Int):=xs.mapM intOf?
noncomputable def strs? (xs:List V):Option (List Str):=xs.mapM strOf?
noncomputable def bools? (xs:List V):Option (List Bool):=xs.mapM boolOf?
noncomputable def truthy (U:Sto):V->Option Bool
 | .none=>some false
 | .bool b=>some b
 | .int i=>some (i != 0)
 | .str s=>some (s.length != 0)
 | .tup xs=>some (!xs.isEmpty)
 | .lst xs=>some (!xs.isEmpty)
 | .ref n=>match U[n]? with
  | some (.list xs)=>some (!xs.isEmpty)
  | _=>none
 | _=>none
noncomputable def LIM:Nat:=1048576
noncomputable def zDZ (g:V->Option PyData):Option O->Option PyData
 | some (.list xs)=>(xs.mapM g).map .list
 | _=>none
noncomputable def xY (U:Sto):Nat->V->Option PyData
 | 0,_=>none
 | d+1,v=>match v with
  | .none=>some .none
  | .bool b=>some (.bool b)
  | .int i=>some (.int i)
  | .str s=>some (.str s)
  | .tup xs=>(xs.mapM (xY U d)).map .tuple
  | .lst xs=>(xs.mapM (xY U d)).map .list
  | .ref n=>zDZ (xY U d) U[n]?
  | _=>none
noncomputable def xJ:Nat:=8
noncomputable def eqV (U:Sto) (a b:V):Option Bool:=
 match listOf? U a,listOf? U b with
 | some xs,some ys=>if xs.length != ys.length then some false else eqD a b
 | _,_=>eqD a b
where
 eqD (a b:V):Option Bool:=(xY U xJ a).bind fun x=>(xY U xJ b).map fun y=>PyData.eqv x y
noncomputable def mkS (l:List Nat):Str:=⟨l.toArray⟩
noncomputable def yI (s:Str):List Nat:=s.cps.toList
noncomputable def partsTable:List (Str × Int):=[("order",2),("deliver",4),("back",4),("swap",4),("credit",4),("pay",3),("refund",3),("move",4)]
noncomputable def yA (a:Int):Bool:=a.natAbs < 2 ^ 64
noncomputable def ze (n:Nat) (i:Int):Option Nat:=
 if 0 <= i then (if i.toNat < n then some i.toNat else none)
 else if 0 <= i+n then some (i+n).toNat else none
noncomputable def za (n:Nat):Option Int->Nat
 | none=>0
 | some i=>if i < 0 then (i+n).toNat else min i.toNat n
noncomputable def yk (n:Nat):Option Int->Nat
 | none=>n
 | some i=>if i < 0 then (i+n).toNat else min i.toNat n
noncomputable def yJ {α:Type} (xs:List α) (lo hi:Option Int):List α:=
 (xs.take (yk xs.length hi)).drop (za xs.length lo)
noncomputable def zSR:List Int->Option Int
 | []=>none
 | x :: xs=>some (xs.foldl (fun m y=>if y < m then y else m) x)
noncomputable def zSQ:List Int->Option Int
 | []=>none
 | x :: xs=>some (xs.foldl (fun m y=>if y > m then y else m) x)
noncomputable def zGS:Option O->Kd->Option Bool
 | some (.list _),k=>(match k with
  | .list=>some true
  | .tuple=>some false
  | .str=>some false
  | .int=>some false
  | _=>none)
 | _,_=>none
noncomputable def ko (U:Sto) (k:Kd):V->Option Bool
 | .undef=>none
 | .parts=>none
 | .none=>(match k with | .exc _=>none | _=>some false)
 | .int _=>(match k with | .int=>some true | .exc _=>none | _=>some false)
 | .bool _=>(match k with | .int=>some true | .bool=>some true | .exc _=>none | _=>some false)
 | .str _=>(match k with | .str=>some true | .exc _=>none | _=>some false)
 | .tup _=>(match k with | .tuple=>some true | .exc _=>none | _=>some false)
 | .lst _=>(match k with | .list=>some true | .exc _=>none | _=>some false)
 | .exc c=>(match k with | .exc d=>some (c.sub d) | _=>none)
 | .ref n=>zGS U[n]? k
noncomputable def ev1 (o:P1) (U:Sto) (a:V):Option V:=
 match o with
 | .not=>(truthy U a).map fun b=>.bool !b
 | .neg=>match a with | .int i=>some (.int (-i)) | _=>none
 | .abs=>match a with | .int i=>some (.int i.natAbs) | _=>none
 | .len=>match a with
  | .str s=>some (.int s.length)
  | .ref n=>match U[n]? with
   | some (.list xs)=>some (.int xs.length)
   | _=>none
  | a=>(xK U a).map fun xs=>.int xs.length
 | .toList=>(xK U a).map .lst
 | .toTup=>(listOf? U a).map .tup
 | .toInt=>match a with
  | .bool b=>some (.int (if b then 1 else 0))
  | .int i=>some (.int i)
  | .str x=>if x.length <= 640 then (intText? x).map .int else none
  | _=>none
 | .toStr=>match a with | .int i=>if 0 <= i /\ i < 10 ^ 100 then some (.str (Str.ofString (toString i))) else none | _=>none
 | .sum=>(listOf? U a).bind fun xs=>(ints? xs).map fun l=>.int l.sum
 | .min=>(listOf? U a).bind fun xs=>(ints? xs).bind fun l=>(zSR l).map .int
 | .max=>(listOf? U a).bind fun xs=>(ints? xs).bind fun l=>(zSQ l).map .int
 | .all=>(listOf? U a).bind fun xs=>(bools? xs).map fun l=>.bool (l.all id)
 | .isNone=>match a with | .undef=>none | .none=>some (.bool true) | _=>some (.bool false)
 | .isNotNone=>match a with | .undef=>none | .none=>some (.bool false) | _=>some (.bool true)
 | .isInst k=>(ko U k a).map .bool
 | .count=>(listOf? U a).bind fun xs=>(bools? xs).map fun l=>.int (l.count true)
noncomputable def inV (U:Sto) (a b:V):Option Bool:=
 match a,b with
 | .str x,.str y=>match yI x with
  | [c]=>some ((yI y).contains c)
  | _=>none
 | .str x,.parts=>some (partsTable.any fun p=>p.1==x)
 | .str x,b=>(xK U b).bind fun xs=>(strs? xs).map fun l=>l.contains x
 | _,_=>none
noncomputable def zLI (U:Sto) (a b:V):Option V:=(strOf? a).bind fun sep=>(listOf? U b).bind fun xs=>(strs? xs).bind fun l =>
 if (l.map (·.length)).sum+l.length * sep.length <= 100000 then some (.str (Txt.join sep l)) else none
noncomputable def zP7 (a b:V):Option V:=(strOf? a).bind fun s=>(strOf? b).bind fun sep =>
 if (sep.length==0)||decide (10000 < s.length) then none else some (.lst ((Txt.split s sep).map .str))
noncomputable def zRh (a b:V):Option V:=(strOf? a).bind fun s=>(strOf? b).bind fun sep =>
 if (sep.length==0)||decide (10000 < s.length) then none else some (.tup [.str (Txt.partition s sep).1,.str (Txt.partition s sep).2.1,.str (Txt.partition s sep).2.2])
noncomputable def zP9 (a b:V):Option V:=(strOf? a).bind fun x=>(strOf? b).map fun y=>.bool (Txt.startswith x y)
noncomputable def wq (k:Bool):V->Bool
 | .bool b=>b==k
 | _=>false
noncomputable def zKk (U:Sto) (a b:V):Option V:=
 match b with
 | .bool k=>(listOf? U a).bind fun xs=>if xs.all fun x=>wq true x||wq false x then some (.int (xs.countP (wq k):Nat)) else none
 | _=>none
noncomputable def ev2 (o:P2) (U:Sto) (a b:V):Option V:=
 match o with
 | .add=>match a,b with
  | .int x,.int y=>some (.int (x+y))
  | .str x,.str y=>if x.length+y.length <= 10000 then some (.str (x++y)) else none
  | .tup xs,.tup ys=>if xs.length+ys.length <= LIM then some (.tup (xs++ys)) else none
  | a,b=>(listOf? U a).bind fun xs=>(listOf? U b).bind fun ys=>if xs.length+ys.length <= LIM then some (.lst (xs++ys)) else none
 | .sub=>match a,b with | .int x,.int y=>some (.int (x - y)) | _,_=>none
 | .mul=>(match a with
  | a=>match a,b with
   | .int x,.int y=>if yA x||yA y then some (.int (x * y)) else none
   | _,_=>none)
 | .fdiv=>match a,b with | .int x,.int y=>if y==0||1073741824 <= y.natAbs then none else some (.int (x.fdiv y)) | _,_=>none
 | .mod=>match a,b with | .int x,.int y=>if y==0 then none else some (.int (x.fmod y)) | _,_=>none
 | .pow=>match a,b with | .int x,.int y=>if x==10&&0 <= y&&y <= 40 then some (.int (x ^ y.toNat)) else none | _,_=>none
 | .eq=>(eqV U a b).map .bool
 | .ne=>(eqV U a b).map fun r=>.bool !r
 | .lt=>match a,b with | .int x,.int y=>some (.bool (x < y)) | _,_=>none
 | .le=>match a,b with | .int x,.int y=>some (.bool (x <= y)) | _,_=>none
 | .gt=>match a,b with | .int x,.int y=>some (.bool (x > y)) | _,_=>none
 | .ge=>match a,b with | .int x,.int y=>some (.bool (x >= y)) | _,_=>none
 | .isIn=>(inV U a b).map .bool
 | .notIn=>(inV U a b).map fun r=>.bool !r
 | .index=>match a,b with
  | .str s,.int i=>(ze s.length i).bind fun k=>(yI s)[k]?.map fun c=>.str (mkS [c])
  | .parts,.str x=>(partsTable.find? fun p=>p.1==x).map fun p=>.int p.2
  | .ref n,.int i=>match U[n]? with
   | some (.list xs)=>(ze xs.length i).bind fun k=>xs[k]?
   | some (.dict es)=>(es.find? fun p=>p.1==i).map fun p=>p.2
   | _=>none
  | a,.int i=>(xK U a).bind fun xs=>(ze xs.length i).bind fun k=>xs[k]?
  | _,_=>none
 | .min=>match a,b with | .int x,.int y=>some (.int (if y < x then y else x)) | _,_=>none
 | .max=>match a,b with | .int x,.int y=>some (.int (if y > x then y else x)) | _,_=>none
 | .join=>zLI U a b
 | .split=>zP7 a b
 | .partition=>zRh a b
 | .count=>zKk U a b
 | .startswith=>zP9 a b
noncomputable def wQ (U:Sto) (a:V) (lo hi:Option Int):Option V:=
 match a with
 | .tup xs=>some (.tup (yJ xs lo hi))
 | a=>(listOf? U a).map fun xs=>.lst (yJ xs lo hi)
set_option genCtorIdx true in
inductive SK where
 | val | range1 | range2
 deriving DecidableEq
inductive CE where
 | lit (v:V)
 | var (i:Nat)
 | p1 (o:P1) (a:CE)
 | p2 (o:P2) (a b:CE)
 | chain (a:CE) (ops:List P2) (es:List CE)
 | slice (a:CE) (lo hi:Option CE)
 | and (a b:CE)
 | or (a b:CE)
 | tup (es:List CE)
 | list (es:List CE)
 | dict0
 | dict1 (k v:CE)
 | comp (elt:CE) (k:SK) (src:List CE) (cond:Option CE)
 | call (f:Nat) (args:List CE)
 | callm (f:Nat) (o:CE) (args:List CE)
 | new
 | attr (e:CE) (a:Nat)
 | append (l x:CE)
 | sm (o:P2) (a b:CE)
 | pop (l:CE)
 | clear (l:CE)
 | trk (e:CE)
set_option genCtorIdx true in
inductive TK where
 | ret
 | asg (i:Nat)
 | exp
structure Hd where
 cls:Cls
 as:Option Nat
 tk:TK
 e:CE
inductive CS where
 | asg (i:Nat) (e:CE)
 | setItem (o i v:CE)
 | setAttr (o:CE) (a:Nat) (v:CE)
 | unpack3 (i j k:Nat) (e:CE)
 | ite (c:CE) (a b:List CS)
 | for (i:Nat) (k:SK) (src:List CE) (body:List CS)
 | while (c:CE) (body:List CS)
 | ret (e:CE)
 | exp (e:CE)
 | raise (c:Cls)
 | try (k:TK) (e:CE) (hs:List Hd)
 | pass
 | stuck
set_option genCtorIdx true in
inductive Fl where
 | next (J:List V)
 | ret (v:V)
structure Fn where
 params:Nat
 slots:Nat
 body:List CS
noncomputable def zN (J:List V) (i:Nat):Option V:=
 match J[i]? with
 | none | some .undef=>none
 | some v=>some v
noncomputable def zY (lo hi:Int):List V:=(List.range (hi - lo).toNat).map fun (k:Nat)=>V.int (lo+(k:Int))
set_option genCtorIdx true in
inductive Items where
 | now (xs:List V)
 | live (n:Nat)
 | keys (n:Nat) (ks:List Int)
noncomputable def xh (x:Str):List V:=(yI x).map fun c=>.str (mkS [c])
noncomputable def kG (n:Nat):Option O->Option Items
 | some (.list _)=>some (.live n)
 | some (.dict es)=>some (.keys n (es.map (·.1)))
 | _=>none
noncomputable def zMQ (U:Sto):V->Option Items
 | .tup xs=>some (.now xs)
 | .lst xs=>some (.now xs)
 | .ref n=>kG n U[n]?
 | .str x=>if x.cps.all (· < 128) then some (.now (xh x)) else none
 | _=>none
noncomputable def zPb (g:Int->Option Items):V->Option Items
 | .int i=>g i
 | _=>none
noncomputable def yM (U:Sto) (k:SK):List V->Option Items
 | []=>none
 | [v]=>(match k with
  | .range1=>zPb (fun n=>if n.natAbs <= LIM then some (.now (zY 0 n)) else none) v
  | .val=>zMQ U v
  | .range2=>none)
 | [v,w]=>(match k with
  | .range2=>zPb (fun a=>zPb (fun b=>if 0 <= a&&a <= LIM&&b.natAbs <= LIM then some (.now (zY a b)) else none) w) v
  | _=>none)
 | _=>none
noncomputable def zOH:Option O->Bool
 | some (.dict _)=>true
 | _=>false
noncomputable def zOI (U:Sto):V->Bool
 | .tup _=>true
 | .ref n=>zOH U[n]?
 | _=>false
noncomputable def zLR (U:Sto) (k:SK):List V->Bool
 | [v]=>(match k with
  | .val=>zOI U v
  | _=>true)
 | _=>true
noncomputable def yd (q:Bool) (U:Sto) (k:SK) (vs:List V):Option Items:=if (q&&zLR U k vs)=true then none else yM U k vs
noncomputable def zt (U:Sto) (it:Items) (i:Nat):Option (Option V):=
 match it with
 | .now xs=>some xs[i]?
 | .live n=>match U[n]? with
  | some (.list xs)=>some xs[i]?
  | _=>none
 | .keys n ks=>match U[n]? with
  | some (.dict es)=>if es.map (·.1)=ks then some (ks[i]?.map .int) else none
  | _=>none
noncomputable def zAK (U:Sto) (it:Items):Nat:=
 match it with
 | .now xs=>xs.length+1
 | .live n=>match U[n]? with
  | some (.list xs)=>xs.length+1
  | _=>0
 | .keys _ ks=>ks.length+1
noncomputable def xF {β:Type} (it:Items) (f:V->β->Sto->R β):Nat->Nat->β->Sto->R β
 | 0,_,_,_=>.stuck
 | fuel+1,i,b,U=>match zt U it i with
  | none=>.stuck
  | some none=>.ok b U
  | some (some x)=>(f x b U).bind fun b U=>xF it f fuel (i+1) b U
noncomputable def zo {β:Type} (it:Items) (f:V->β->Sto->R β) (b:β) (U:Sto):R β:=xF it f (zAK U it) 0 b U
noncomputable def R.calm {α:Type}:R α->R α
 | .ok a U=>.ok a U
 | _=>.stuck
noncomputable abbrev R.calmE {α:Type} (r:R α):R α:=r.calm
noncomputable def isInst (U:Sto):V->Bool
 | .ref n=>match U[n]? with
  | some (.inst _)=>true
  | _=>false
 | _=>false
noncomputable def kR (U:Sto) (v:V):Bool:=(listOf? U v).isSome
noncomputable def xz (es:List (Int × V)) (k:Int) (v:V):List (Int × V):=
 if es.any (fun p=>p.1==k) then es.map fun p=>if p.1==k then (k,v) else p else es++[(k,v)]
noncomputable def zAs (U:Sto) (n:Nat) (k:Int) (v:V):Option O->R Unit
 | some (.list xs)=>if 0 <= k /\ k.toNat < xs.length then .ok () (U.set n (.list (xs.set k.toNat v))) else .stuck
 | some (.dict es)=>if es.length < LIM then .ok () (U.set n (.dict (xz es k v))) else .stuck
 | _=>.stuck
noncomputable def xO (U:Sto) (o i v:V):R Unit:=
 match o,i with
 | .ref n,.int k=>zAs U n k v U[n]?
 | _,_=>.stuck
noncomputable def kJ (U:Sto) (n a:Nat) (v:V):Option O->R Unit
 | some (.inst es)=>if a < 2 then .ok () (U.set n (.inst ((a,v) :: es))) else .stuck
 | _=>.stuck
noncomputable def wd (U:Sto) (o:V) (a:Nat) (v:V):R Unit:=
 match o with
 | .ref n=>kJ U n a v U[n]?
 | _=>.stuck
noncomputable def zGn (a:Nat):Option O->Option V
 | some (.inst es)=>es.lookup a
 | _=>none
noncomputable def zAD (U:Sto) (o:V) (a:Nat):Option V:=
 match o with
 | .ref n=>zGn a U[n]?
 | _=>none
noncomputable def wG (U:Sto) (o x:V):R V:=
 match o with
 | .ref n=>match U[n]? with
  | some (.list xs)=>if xs.length < LIM then .ok .none (U.set n (.list (xs++[x]))) else .stuck
  | _=>.stuck
 | _=>.stuck
noncomputable def zG2 (U:Sto) (o:V):R V:=
 match o with
 | .ref n=>match U[n]? with
  | some (.list xs)=>match xs[xs.length - 1]? with
   | some x=>.ok x (U.set n (.list (xs.eraseIdx (xs.length - 1))))
   | none=>.stuck
  | _=>.stuck
 | _=>.stuck
noncomputable def zG1 (U:Sto) (o:V):R V:=
 match o with
 | .ref n=>match U[n]? with
  | some (.list _)=>.ok .none (U.set n (.list []))
  | _=>.stuck
 | _=>.stuck
noncomputable def zEh (U:Sto):V->R V
 | .lst xs=>.ok (.ref U.length) (U++[.list xs])
 | _=>.stuck
noncomputable def zBi (n:Nat) (U:Sto) (k:Int) (v:V):Option O->R V
 | some (.dict [])=>.ok (.ref n) (U.set n (.dict [(k,v)]))
 | _=>.stuck
noncomputable def zBJ (n:Nat) (U:Sto) (k v:V):R V:=
 match k with
 | .int k=>zBi n U k v U[n]?
 | _=>.stuck
noncomputable def zB3 (n:Nat):V->Sto->R V
 | .none,U=>.ok (.ref n) U
 | _,_=>.stuck
noncomputable abbrev Calls:=Nat->List V->Sto->R V
noncomputable def zEA (o:P2) (U:Sto) (a:V):Bool:=
 match o with
 | .count=>(listOf? U a).isSome
 | _=>(strOf? a).isSome
noncomputable def vM:P1->Bool
 | .sum | .min | .max=>true
 | _=>false
noncomputable def wK:P2->Bool
 | .min | .max | .join=>true
 | _=>false
mutual
noncomputable def evE (F:Calls) (q:Bool):CE->List V->Sto->R V
 | .lit v,_,U=>.ok v U
 | .var i,J,U=>R.lift U (zN J i)
 | .p1 o a,J,U=>if vM o&&q then .stuck else (evE F q a J U).bind fun a U=>R.lift U (ev1 o U a)
 | .p2 o a b,J,U=>if wK o&&q then .stuck else (evE F q a J U).bind fun a U=>(evE F q b J U).bind fun b U=>R.lift U (ev2 o U a b)
 | .chain a ops es,J,U=>(evE F q a J U).bind fun a U=>evChain F q ops es a J U
 | .slice a lo hi,J,U=>(evE F q a J U).bind fun a U=>(evO F q lo J U).bind fun lo U=>(evO F q hi J U).bind fun hi U=>R.lift U (wQ U a lo hi)
 | .and a b,J,U=>(evE F q a J U).bind fun a U=>(R.lift U (truthy U a)).bind fun t U=>if t then evE F q b J U else .ok a U
 | .or a b,J,U=>(evE F q a J U).bind fun a U=>(R.lift U (truthy U a)).bind fun t U=>if t then .ok a U else evE F q b J U
 | .tup es,J,U=>(evL F q es J U).bind fun vs U=>.ok (.tup vs) U
 | .list es,J,U=>(evL F q es J U).bind fun vs U=>.ok (.lst vs) U
 | .dict0,_,U=>.ok (.ref U.length) (U++[.dict []])
 | .dict1 k v,J,U=>(evE F q k J (U++[.dict []])).bind fun a U1=>(evE F q v J U1).bind fun b U2=>zBJ U.length U2 a b
 | .comp elt k src cond,J,U=>(evL F q src J U).bind fun vs U=>(R.lift U (yd q U k vs)).bind fun it U =>
   (zo it (fun x acc U=>(evC F q cond (J++[x]) U).calm.bind fun t U=>if t then (evE F q elt (J++[x]) U).calmE.bind fun y U=>(if acc.length < LIM then .ok (acc++[y]) U else .stuck) else .ok acc U) [] U).bind fun acc U=>.ok (.lst acc) U
 | .call f args,J,U=>(evL F q args J U).bind fun vs U=>F f vs U
 | .callm f o args,J,U=>(evE F q o J U).bind fun o U=>if isInst U o then (evL F q args J U).bind fun vs U=>F f (o :: vs) U else .stuck
 | .new,_,U=>(F 0 [.ref U.length] (U++[.inst []])).bind (zB3 U.length)
 | .attr e a,J,U=>(evE F q e J U).bind fun o U=>R.lift U (zAD U o a)
 | .sm o a b,J,U=>(evE F q a J U).bind fun a U=>if zEA o U a then (evE F q b J U).bind fun b U=>R.lift U (ev2 o U a b) else .stuck
 | .append l x,J,U=>(evE F q l J U).bind fun o U=>if kR U o then (evE F q x J U).bind fun x U=>wG U o x else .stuck
 | .pop l,J,U=>(evE F q l J U).bind fun o U=>zG2 U o
 | .clear l,J,U=>(evE F q l J U).bind fun o U=>zG1 U o
 | .trk e,J,U=>(evE F q e J U).bind fun v U=>zEh U v
noncomputable def evL (F:Calls) (q:Bool):List CE->List V->Sto->R (List V)
 | [],_,U=>.ok [] U
 | e :: es,J,U=>(evE F q e J U).bind fun v U=>(evL F q es J U).bind fun vs U=>.ok (v :: vs) U
noncomputable def evO (F:Calls) (q:Bool):Option CE->List V->Sto->R (Option Int)
 | none,_,U=>.ok none U
 | some e,J,U=>(evE F q e J U).bind fun v U=>match v with
  | .int i=>.ok (some i) U
  | _=>.stuck
noncomputable def evC (F:Calls) (q:Bool):Option CE->List V->Sto->R Bool
 | none,_,U=>.ok true U
 | some e,J,U=>(evE F q e J U).bind fun v U=>R.lift U (truthy U v)
noncomputable def evChain (F:Calls) (q:Bool):List P2->List CE->V->List V->Sto->R V
 | [op],[e],a,J,U=>if wK op&&q then .stuck else (evE F q e J U).bind fun b U=>R.lift U (ev2 op U a b)
 | op :: ops,e :: es,a,J,U=>if wK op&&q then .stuck else (evE F q e J U).bind fun b U=>(R.lift U (ev2 op U a b)).bind fun c U=>(R.lift U (truthy U c)).bind fun t U=>if t then evChain F q ops es b J U else .ok c U
 | _,_,_,_,_=>.stuck
end
noncomputable def wN (c:List V->Sto->R Bool) (b:List V->Sto->R Fl):Nat->List V->Sto->R Fl
 | 0,_,_=>.stuck
 | n+1,J,U=>(c J U).bind fun t U=>if t then (b J U).bind fun fl U=>match fl with
   | .next J=>wN c b n J U
   | .ret v=>.ok (.ret v) U
  else .ok (.next J) U
noncomputable def xB (it:Items) (f:V->List V->Sto->R Fl):Nat->Nat->List V->Sto->R Fl
 | 0,_,_,_=>.stuck
 | fuel+1,i,J,U=>match zt U it i with
  | none=>.stuck
  | some none=>.ok (.next J) U
  | some (some x)=>(f x J U).bind fun fl U=>match fl with
   | .next J=>xB it f fuel (i+1) J U
   | .ret v=>.ok (.ret v) U
noncomputable def yr (it:Items) (f:V->List V->Sto->R Fl) (J:List V) (U:Sto):R Fl:=xB it f (zAK U it) 0 J U
noncomputable def R.orElse {α β:Type} (r:R α) (f:α->Sto->R β) (g:Cls->Sto->R β):R β:=
 match r with
 | .ok a U=>f a U
 | .exc c U=>g c U
 | .stuck=>.stuck
noncomputable def zGb (k:TK) (v:V) (J:List V):Fl:=
 match k with
 | .ret=>.ret v
 | .asg i=>.next (J.set i v)
 | .exp=>.next J
noncomputable def Fl.unset (i:Nat):Fl->Fl
 | .next J=>.next (J.set i .undef)
 | .ret v=>.ret v
noncomputable def zCh (as:Option Nat) (c:Cls) (J:List V):List V:=
 match as with
 | none=>J
 | some i=>J.set i (.exc c)
noncomputable def zOF (as:Option Nat) (fl:Fl):Fl:=
 match as with
 | none=>fl
 | some i=>fl.unset i
noncomputable def exH (Fq:Calls):List Hd->List V->Cls->Sto->R Fl
 | [],_,_,_=>.stuck
 | h :: hs,J,c,U=>if c.sub h.cls then ((evE Fq true h.e (zCh h.as c J) U).calm.bind fun v U=>.ok (zOF h.as (zGb h.tk v (zCh h.as c J))) U) else exH Fq hs J c U
noncomputable def zCI:Nat:=100000
mutual
noncomputable def exS (F Fq:Calls) (q:Bool):CS->List V->Sto->R Fl
 | .asg i e,J,U=>(evE F q e J U).bind fun v U=>.ok (.next (J.set i v)) U
 | .setItem o i v,J,U=>(evE F q v J U).bind fun v U=>(evE F q o J U).bind fun o U=>(evE F q i J U).bind fun i U=>(xO U o i v).bind fun _ U=>.ok (.next J) U
 | .setAttr o a v,J,U=>(evE F q v J U).bind fun v U=>(evE F q o J U).bind fun o U=>(wd U o a v).bind fun _ U=>.ok (.next J) U
 | .unpack3 i j k e,J,U=>if q then .stuck else (evE F q e J U).bind fun v U=>match v with
  | .tup [x,y,z]=>.ok (.next (((J.set i x).set j y).set k z)) U
  | _=>.stuck
 | .ite c a b,J,U=>(evE F q c J U).bind fun v U=>(R.lift U (truthy U v)).bind fun t U=>if t then exL F Fq q a J U else exL F Fq q b J U
 | .for i k src body,J,U=>(evL F q src J U).bind fun vs U=>(R.lift U (yd q U k vs)).bind fun it U =>
   yr it (fun x J U=>exL F Fq q body (J.set i x) U) J U
 | .while c body,J,U=>if q then .stuck else wN (fun J U=>((evE F q c J U).bind fun v U=>R.lift U (truthy U v)).calm) (fun J U=>(exL F Fq q body J U).calm) zCI J U
 | .ret e,J,U=>(evE F q e J U).bind fun v U=>.ok (.ret v) U
 | .exp e,J,U=>(evE F q e J U).bind fun _ U=>.ok (.next J) U
 | .raise c,_,U=>if q then .stuck else .exc c U
 | .try k e hs,J,U=>if q then .stuck else (evE F q e J U).orElse (fun v U=>.ok (zGb k v J) U) (exH Fq hs J)
 | .pass,J,U=>.ok (.next J) U
 | .stuck,_,_=>.stuck
noncomputable def exL (F Fq:Calls) (q:Bool):List CS->List V->Sto->R Fl
 | [],J,U=>.ok (.next J) U
 | s :: ss,J,U=>(exS F Fq q s J U).bind fun fl U=>match fl with
  | .next J=>exL F Fq q ss J U
  | .ret v=>.ok (.ret v) U
end
noncomputable def zCe:Fl->Sto->R V
 | .ret v,U=>.ok v U
 | .next _,U=>.ok .none U
noncomputable def zA (T:Nat->Option Fn):Nat->Bool->Calls
 | 0,_,_,_,_=>.stuck
 | d+1,q,f,args,U=>match T f with
  | none=>.stuck
  | some fn=>if args.length=fn.params then
    (exL (zA T d q) (zA T d true) q fn.body (args++List.replicate (fn.slots - fn.params) .undef) U).bind zCe
   else .stuck
end Mine
end

section
namespace Mine
theorem zB {α:Type} {x:α} {P:Prop} (h:none=some x):P:=nomatch h
theorem zF {P:Prop} (h:false=true):P:=nomatch h
theorem bind_some {α β:Type} {x:Option α} {f:α->Option β} {b:β} (h:x.bind f=some b):∃ a,x=some a /\ f a=some b:=Option.bind_eq_some_iff.mp h
theorem map_some {α β:Type} {x:Option α} {f:α->β} {b:β} (h:x.map f=some b):∃ a,x=some a /\ f a=b:=Option.map_eq_some_iff.mp h
theorem by2 {P:Nat->Prop} (h0:P 0) (h1:P 1) {k:Nat} (hk:k < 2):P k:=by
 cases k with
 | zero=>exact h0
 | succ k =>
  cases k with
  | zero=>exact h1
  | succ k=>exact absurd (Nat.lt_of_succ_lt_succ (Nat.lt_of_succ_lt_succ hk)) (Nat.not_lt_zero k)
theorem zNx (a b:Int):a+b - a=b:=by rw [Int.add_comm,Int.add_sub_cancel]
theorem zQ0 (a n:Int):a - n - a=-n:=by rw [Int.sub_eq_add_neg (a:=a) (b:=n),zNx]
theorem zRd {c:Int} {B:Nat} (h1:0 <= c) (h2:c <= (B:Int)):c.natAbs <= B:=Int.ofNat_le.mp (by rw [Int.natAbs_of_nonneg h1]; exact h2)
open PySem
structure Ctx where
 fns:List (Str × Nat)
 meths:List (Str × Nat)
 consts:List (Str × V)
 excs:List (Str × Cls)
 attrs:List (Str × Nat)
 book:Bool
 trks:List (Nat × Nat × Nat)
noncomputable def kindNames:List (Str × Kd):=[("int",.int),("bool",.bool),("str",.str),("list",.list),("tuple",.tuple)
 ,("ValueError",.exc .ValueError)
 ]
noncomputable def kindOf? (C:Ctx) (x:Str):Option Kd:=if (C.fns.lookup x).isSome then none else kindNames.lookup x
noncomputable def attrNames:List (Str × Nat):=[("entries",0),("history",1)]
noncomputable def zx (x:Str):List Str->Option Nat
 | []=>none
 | y :: ys=>match zx x ys with
  | some i=>some (i+1)
  | none=>if y==x then some 0 else none
noncomputable def zA1 (sc:Scope) (x:Str):Bool:=match sc.names.lookup x with
 | some .local | some .cell | some .free=>true
 | _=>false
noncomputable def isGlob (sc:Scope) (x:Str):Bool:=sc.names.lookup x==some .globalImplicit
noncomputable def xi:CmpOp->Option P2
 | .Eq=>some .eq | .NotEq=>some .ne | .Lt=>some .lt | .LtE=>some .le | .Gt=>some .gt | .GtE=>some .ge
 | .In=>some .isIn | .NotIn=>some .notIn | _=>none
noncomputable def zCW:Operator->Option P2
 | .Add=>some .add | .Sub=>some .sub | .Mult=>some .mul | .FloorDiv=>some .fdiv | .Mod=>some .mod
 | .Pow=>some .pow
 | _=>none
noncomputable def b1Names:List (Str × P1):=[("len",.len),
 ("int",.toInt),
 ("all",.all),("list",.toList),("tuple",.toTup),("sum",.sum)]
noncomputable def b2Names:List (Str × P2):=[("min",.min),("max",.max)]
noncomputable def m1Names:List (Str × P2):=[("join",.join)
 ,("count",.count)
 ]
noncomputable def vE (C:Ctx) (p:Pos) (e:CE):CE:=if C.trks.contains (p.line,p.col,p.endCol) then .trk e else e
noncomputable def vI (isAnd:Bool):List CE->Option CE
 | []=>none
 | [e]=>some e
 | e :: es=>(vI isAnd es).map fun r=>if isAnd then .and e r else .or e r
noncomputable def zGw (C:Ctx) (Γ:List Str) (sc:Scope) (x:Str):Option CE:=
 if x==("__debug__" : Str)||x==("__classdict__" : Str) then none else if zA1 sc x then (zx x Γ).map .var else if isGlob sc x then (C.consts.lookup x).map .lit else none
noncomputable def zPN:Str:=".0"
noncomputable def zFu (Γ:List Str) (sc scope:Scope) (x:Str):Bool:=
 scope.kind==.function&&scope.names.lookup x==some .local&&!Γ.contains zPN&&x != zPN &&
  scope.names.all fun p=>match p.2 with
   | .cell=>false
   | .local=>(p.1==x||p.1==zPN)&&scope.names.lookup p.1==some .local
   | .free=>sc.names.lookup p.1==some .cell||sc.names.lookup p.1==some .free
   | _=>true
inductive EV where
 | non
 | str (s:Str)
 | name (x:Str)
 | call (f:Expr) (a:List Expr) (k:List Keyword)
 | slice (lo hi:Option Expr)
 | attr (o:Expr) (m:Str) (p:Pos)
 | sub (o i:Expr)
 | star
 | lcomp
 | other
noncomputable def yq:Expr->EV
 | .Constant .none _ _=>.non
 | .Constant (.str s) _ _=>.str s
 | .Name x _=>.name x
 | .Call f a k _=>.call f a k
 | .Slice lo hi none _=>.slice lo hi
 | .Attribute o m p=>.attr o m p
 | .Subscript o i _=>.sub o i
 | .Starred ..=>.star
 | .ListComp ..=>.lcomp
 | _=>.other
noncomputable def zR2 (e:Expr):EV->Prop
 | .non=>∃ k p,e=.Constant .none k p
 | .str s=>∃ k p,e=.Constant (.str s) k p
 | .name x=>∃ p,e=.Name x p
 | .call f a k=>∃ p,e=.Call f a k p
 | .slice lo hi=>∃ p,e=.Slice lo hi none p
 | .attr o m p=>e=.Attribute o m p
 | .sub o i=>∃ p,e=.Subscript o i p
 | _=>True
theorem wf (e:Expr):zR2 e (yq e):=by
 cases e with
 | Constant k n p =>
  cases k with
  | none=>exact ⟨_,_,rfl⟩
  | str s=>exact ⟨_,_,rfl⟩
  | _=>exact True.intro
 | Name x p=>exact ⟨_,rfl⟩
 | Call f a k p=>exact ⟨_,rfl⟩
 | Slice lo hi st p =>
  cases st with
  | none=>exact ⟨_,rfl⟩
  | some _=>exact True.intro
 | Attribute o m p=>exact (rfl:Expr.Attribute o m p=.Attribute o m p)
 | Subscript o i p=>exact ⟨_,rfl⟩
 | _=>exact True.intro
noncomputable def EV.str?:EV->Option Str
 | .str s=>some s
 | _=>none
noncomputable def EV.name?:EV->Option Str
 | .name x=>some x
 | _=>none
noncomputable def EV.call?:EV->Option (Expr × List Expr × List Keyword)
 | .call f a k=>some (f,a,k)
 | _=>none
noncomputable def EV.slice?:EV->Option (Option Expr × Option Expr)
 | .slice l h=>some (l,h)
 | _=>none
noncomputable def EV.attr?:EV->Option (Expr × Str × Pos)
 | .attr o m p=>some (o,m,p)
 | _=>none
noncomputable def EV.sub?:EV->Option (Expr × Expr)
 | .sub o i=>some (o,i)
 | _=>none
noncomputable def EV.isStar:EV->Bool
 | .star=>true
 | _=>false
noncomputable def EV.isComp:EV->Bool
 | .lcomp=>true
 | _=>false
noncomputable def EV.noSuper:EV->Bool
 | .call f [] []=>(yq f).name?.isNone
 | _=>true
noncomputable def isStar (e:Expr):Bool:=(yq e).isStar
noncomputable def isComp (e:Expr):Bool:=(yq e).isComp
noncomputable def noSuper (e:Expr):Bool:=(yq e).noSuper
noncomputable def nameOf? (e:Expr):Option Str:=(yq e).name?
noncomputable def callParts? (e:Expr):Option (Expr × List Expr × List Keyword):=(yq e).call?
noncomputable def sliceParts? (e:Expr):Option (Option Expr × Option Expr):=(yq e).slice?
noncomputable def attrParts? (e:Expr):Option (Expr × Str × Pos):=(yq e).attr?
noncomputable def subParts? (e:Expr):Option (Expr × Expr):=(yq e).sub?
noncomputable def strC? (e:Expr):Option Str:=(yq e).str?
theorem nameOf?_eq {e:Expr} {x:Str} (h:nameOf? e=some x):∃ p,e=.Name x p:=by
 have hv:=wf e
 replace h:(yq e).name?=some x:=h
 generalize yq e=v at hv h
 cases v with
 | name=>cases h; exact hv
 | _=>exact zB h
theorem callParts?_eq {e fn:Expr} {args:List Expr} {kws:List Keyword} (h:callParts? e=some (fn,args,kws)):∃ p,e=.Call fn args kws p:=by
 have hv:=wf e
 replace h:(yq e).call?=some _:=h
 generalize yq e=v at hv h
 cases v with
 | call=>cases h; exact hv
 | _=>exact zB h
theorem sliceParts?_eq {e:Expr} {lo hi:Option Expr} (h:sliceParts? e=some (lo,hi)):∃ p,e=.Slice lo hi none p:=by
 have hv:=wf e
 replace h:(yq e).slice?=some _:=h
 generalize yq e=v at hv h
 cases v with
 | slice=>cases h; exact hv
 | _=>exact zB h
theorem attrParts?_eq {e o:Expr} {m:Str} {p:Pos} (h:attrParts? e=some (o,m,p)):e=.Attribute o m p:=by
 have hv:=wf e
 replace h:(yq e).attr?=some _:=h
 generalize yq e=v at hv h
 cases v with
 | attr=>cases h; exact hv
 | _=>exact zB h
theorem subParts?_eq {e:Expr} {p:Expr × Expr} (h:subParts? e=some p):∃ q,e=.Subscript p.1 p.2 q:=by
 have hv:=wf e
 replace h:(yq e).sub?=some _:=h
 generalize yq e=v at hv h
 cases v with
 | sub=>cases h; exact hv
 | _=>exact zB h
theorem strC?_eq {e:Expr} {s:Str} (h:strC? e=some s):∃ k p,e=.Constant (.str s) k p:=by
 have hv:=wf e
 replace h:(yq e).str?=some _:=h
 generalize yq e=v at hv h
 cases v with
 | str=>cases h; exact hv
 | _=>exact zB h
section
variable (C:Ctx) (rec:List Str->Scope->Expr->Option CE)
noncomputable def cL (Γ:List Str) (sc:Scope):List Expr->Option (List CE)
 | []=>some []
 | e :: es=>if isStar e then none else (rec Γ sc e).bind fun a=>(cL Γ sc es).map fun as=>a :: as
noncomputable def zPF (Γ:List Str) (sc:Scope):Option Expr->Option (Option CE)
 | none=>some none
 | some e=>(rec Γ sc e).map some
noncomputable def cIf (Γ:List Str) (sc:Scope):List Expr->Option (Option CE)
 | []=>some none
 | [e]=>(rec Γ sc e).map some
 | _=>none
noncomputable def zKZ:Const->Option CE
 | .none=>some (.lit .none)
 | .bool b=>some (.lit (.bool b))
 | .int i=>some (.lit (.int i))
 | .str s=>if s.length <= 1000&&PyData.strOk s then some (.lit (.str s)) else none
 | _=>none
noncomputable def zPB (Γ:List Str) (sc:Scope) (a:Expr) (ops:List CmpOp) (cs:List Expr):Option CE:=
 if ops.length != cs.length then none else match cs,ops with
  | [b],[op] =>
   (xi op).bind fun o=>(rec Γ sc a).bind fun x=>(rec Γ sc b).map fun y=>.p2 o x y
  | cs,ops=>(ops.mapM xi).bind fun os=>(rec Γ sc a).bind fun x=>(cL rec Γ sc cs).map fun ys=>.chain x os ys
noncomputable def zKf (Γ:List Str) (sc:Scope) (e:Expr):Option (SK × List CE):=
 match callParts? e with
 | some (fn,args,kws)=>(match nameOf? fn with
  | some f=>if f==("range" : Str) then (if isGlob sc f&&kws.isEmpty then (cL rec Γ sc args).bind fun es=>(match es with
    | [a]=>some (.range1,[a])
    | _=>none) else none)
   else (rec Γ sc e).map fun a=>(.val,[a])
  | none=>(rec Γ sc e).map fun a=>(.val,[a]))
 | none=>(rec Γ sc e).map fun a=>(.val,[a])
noncomputable def zEW (Γ:List Str) (sc:Scope) (elt:Expr) (gens:List Comprehension) (scope:Scope):Option CE:=
 match gens with
 | [g]=>(nameOf? g.target).bind fun x =>
   if g.is_async != 0||!zFu Γ sc scope x then none else (zKf rec Γ sc g.iter).bind fun s=>(cIf rec (Γ++[x]) scope g.ifs).bind fun c=>(rec (Γ++[x]) scope elt).map fun e=>.comp e s.1 s.2 c
 | _=>none
noncomputable def zPG (Γ:List Str) (sc:Scope) (o i:Expr) (pos:Pos):Option CE:=
 match sliceParts? i with
 | some (lo,hi)=>(rec Γ sc o).bind fun a=>(zPF rec Γ sc lo).bind fun l=>(zPF rec Γ sc hi).map fun h=>vE C pos (.slice a l h)
 | none=>(rec Γ sc o).bind fun a=>(rec Γ sc i).map fun b=>.p2 .index a b
noncomputable def zFr (Γ:List Str) (sc:Scope) (o:Expr) (m:Str) (args:List Expr):Option CE:=
 match args with
 | [x]=>if isStar x then none else if m==("append" : Str) then (rec Γ sc o).bind fun a=>(rec Γ sc x).map fun b=>.append a b
  else (m1Names.lookup m).bind fun p=>(rec Γ sc o).bind fun a=>(rec Γ sc x).map fun b=>.sm p a b
 | [] =>
  if m==("pop" : Str) then (rec Γ sc o).map .pop else
  none
 | _=>none
noncomputable def zKc (Γ:List Str) (sc:Scope) (o:Expr) (m:Str) (apos:Pos) (args:List Expr) (pos:Pos):Option CE:=
 if !noSuper o||apos.endLine != pos.line then none else
  match C.meths.lookup m with
  | some n=>(rec Γ sc o).bind fun a=>(cL rec Γ sc args).map fun es=>.callm n a es
  | none =>
  zFr rec Γ sc o m args
noncomputable def km (sc:Scope) (x:Str):Option Cls:=if isGlob sc x&&x != ("__debug__" : Str)&&x != ("ValueError" : Str) then C.excs.lookup x else none
noncomputable def zGv (Γ:List Str) (sc:Scope) (args:List Expr):Option CE:=
 match args with
 | [x,k]=>if isStar x then none else (nameOf? k).bind fun kn=>if isGlob sc kn then (match kindOf? C kn with
  | some kd=>(rec Γ sc x).map fun a=>.p1 (.isInst kd) a
  | none=>(km C sc kn).bind fun k=>(rec Γ sc x).map fun a=>.p1 (.isInst (.exc k)) a) else none
 | _=>none
noncomputable def zPD (Γ:List Str) (sc:Scope) (f:Str) (args:List Expr) (pos:Pos):Option CE:=
 if !isGlob sc f then none
 else if f==("isinstance" : Str) then zGv C rec Γ sc args
 else (cL rec Γ sc args).bind fun es=>match C.fns.lookup f with
  | some n=>some (.call n es)
  | none =>
   if C.book&&f==("Book" : Str) then (if es.isEmpty then some .new else none) else
   (match es with
   | [a]=>(b1Names.lookup f).map fun o=>if f==("list" : Str) then vE C pos (.p1 o a) else .p1 o a
   | [a,b]=>(b2Names.lookup f).map fun o=>.p2 o a b
   | _=>none)
noncomputable def zKX (Γ:List Str) (sc:Scope) (fn:Expr) (args:List Expr) (kws:List Keyword) (pos:Pos):Option CE:=
 if !kws.isEmpty||20 < args.length then none else match attrParts? fn with
  | some (o,m,apos)=>zKc C rec Γ sc o m apos args pos
  | none=>(nameOf? fn).bind fun f=>zPD C rec Γ sc f args pos
noncomputable def zPC (Γ:List Str) (sc:Scope) (v:Expr):Option Expr->Option CE
 | some k=>(rec Γ sc k).bind fun a=>(rec Γ sc v).map fun b=>.dict1 a b
 | none=>none
noncomputable def zNv (Γ:List Str) (sc:Scope) (ks:List (Option Expr)):List Expr->Option CE
 | []=>if ks.isEmpty then some .dict0 else none
 | v :: vs=>if vs.isEmpty then (match ks with
  | [k]=>zPC rec Γ sc v k
  | _=>none) else none
noncomputable def zOT (Γ:List Str) (sc:Scope):Expr->Option CE
 | .Constant k _ _=>zKZ k
 | .Name x _=>zGw C Γ sc x
 | .BoolOp op vs _=>(cL rec Γ sc vs).bind fun es=>vI (op==.And) es
 | .BinOp l op r pos=>(zCW op).bind fun o=>(rec Γ sc l).bind fun a=>(rec Γ sc r).map fun b=>vE C pos (.p2 o a b)
 | .UnaryOp .Not x _=>(rec Γ sc x).map (.p1 .not)
 | .UnaryOp .USub x _=>(rec Γ sc x).map (.p1 .neg)
 | .Compare a ops cs _=>zPB rec Γ sc a ops cs
 | .List es pos=>if es.length <= 1000 then (cL rec Γ sc es).map fun es=>vE C pos (.list es) else none
 | .Tuple es _ _=>if es.length <= 1000 then (cL rec Γ sc es).map .tup else none
 | .ListComp elt gens scope pos=>(zEW rec Γ sc elt gens scope).map fun e=>vE C pos e
 | .Subscript o i pos=>zPG C rec Γ sc o i pos
 | .Call fn args kws pos=>zKX C rec Γ sc fn args kws pos
 | .Attribute o m _=>(C.attrs.lookup m).bind fun k=>if noSuper o then (rec Γ sc o).map fun a=>.attr a k else none
 | .Dict ks vs _=>zNv rec Γ sc ks vs
 | _=>none
end
noncomputable def cE (C:Ctx):Nat->List Str->Scope->Expr->Option CE
 | 0=>fun _ _ _=>none
 | n+1=>zOT C (cE C n)
noncomputable def xT:Nat:=30
noncomputable def yx (Γ:List Str) (sc:Scope) (x:Str):Option Nat:=if sc.names.lookup x==some .local||sc.names.lookup x==some .cell then zx x Γ else none
section
variable (C:Ctx) (Γ:List Str) (sc:Scope) (rec:Stmt->CS)
noncomputable def zNu (t e:Expr):Option CS:=
 match attrParts? t with
 | some p=>(C.attrs.lookup p.2.1).bind fun k=>if isComp e then none else (cE C xT Γ sc e).bind fun v=>(cE C xT Γ sc p.1).map fun b=>.setAttr b k v
 | none=>none
noncomputable def zPA (t e:Expr):Option CS:=
 match nameOf? t with
 | some x=>(yx Γ sc x).bind fun i=>(cE C xT Γ sc e).map (.asg i)
 | none=>(match subParts? t with
  | some p=>if isComp e then none else (cE C xT Γ sc e).bind fun v=>(cE C xT Γ sc p.1).bind fun a=>(cE C xT Γ sc p.2).map fun b=>.setItem a b v
  | none=>zNu C Γ sc t e)
noncomputable def zSI:Option Expr->Option (TK × CE)
 | some e=>(cE C xT Γ sc e).map fun c=>(.ret,c)
 | none=>none
noncomputable def zSH (e:Expr):List Expr->Option (TK × CE)
 | [t]=>if isComp e then none else (nameOf? t).bind fun x=>(yx Γ sc x).bind fun i=>(cE C xT Γ sc e).map fun c=>(.asg i,c)
 | _=>none
noncomputable def zQx:Stmt->Option (TK × CE)
 | .Return v _=>zSI C Γ sc v
 | .Assign ts e _=>zSH C Γ sc e ts
 | .Expr e _=>if isComp e then none else (cE C xT Γ sc e).map fun c=>(.exp,c)
 | _=>none
noncomputable def zMM (a b:CE):CE:=.p2 .index (.tup [a,b]) (.lit (.int 1))
noncomputable def zQz (a:CE):Stmt->Option (TK × CE)
 | .Return v _=>(match v with
  | some r=>(cE C xT Γ sc r).map fun b=>(.ret,zMM a b)
  | none=>none)
 | _=>none
noncomputable def zQy (t:Stmt):Stmt->Option (TK × CE)
 | .Expr e _=>if isComp e then none else (cE C xT Γ sc e).bind fun a=>zQz C Γ sc a t
 | _=>none
noncomputable def cTK:List Stmt->Option (TK × CE)
 | [s]=>zQx C Γ sc s
 | [s,t]=>zQy C Γ sc t s
 | _=>none
noncomputable def cAs:Option Str->Option (Option Nat)
 | none=>some none
 | some n=>if sc.names.lookup n==some .local then (yx Γ sc n).map some else none
noncomputable def cHd:ExceptHandler->Option Hd
 | .ExceptHandler (some t) n body _=>(nameOf? t).bind fun x=>(km C sc x).bind fun k=>(cAs Γ sc n).bind fun as=>(cTK C Γ sc body).map fun p=>⟨k,as,p.1,p.2⟩
 | _=>none
noncomputable def zKb:List ExceptHandler->Option (List Hd)
 | []=>some []
 | h :: hs=>(cHd C Γ sc h).bind fun a=>(zKb hs).map fun as=>a :: as
noncomputable def zMr (fn:Expr) (kws:List Keyword):List Expr->Option CS
 | [x]=>if kws.isEmpty then (strC? x).bind fun s=>(nameOf? fn).bind fun f=>if s.length <= 1000&&PyData.strOk s then (km C sc f).map .raise else none else none
 | _=>none
noncomputable def zKe (e:Expr):Option CS:=(callParts? e).bind fun p=>zMr C sc p.1 p.2.2 p.2.1
noncomputable def zHh:Stmt->Option CS
 | .Return (some e) _=>(cE C xT Γ sc e).map .ret
 | .Assign [t] e _=>zPA C Γ sc t e
 | .If t a b _=>(cE C xT Γ sc t).map fun t=>.ite t (a.map rec) (b.map rec)
 | .For x iter body [] _=>(nameOf? x).bind fun x=>(yx Γ sc x).bind fun i=>(zKf (cE C xT) Γ sc iter).map fun s=>.for i s.1 s.2 (body.map rec)
 | .While t body [] _=>(cE C xT Γ sc t).map fun t=>.while t (body.map rec)
 | .Expr e _=>if isComp e then none else (cE C xT Γ sc e).map .exp
 | .Pass _=>some .pass
 | .Raise (some e) none _=>zKe C sc e
 | .Try body (h :: hs) [] [] _=>(cTK C Γ sc body).bind fun p=>(zKb C Γ sc (h :: hs)).map fun hs=>.try p.1 p.2 hs
 | _=>none
end
noncomputable def cS (C:Ctx) (Γ:List Str) (sc:Scope):Nat->Stmt->CS
 | 0=>fun _=>.stuck
 | n+1=>fun s=>(zHh C Γ sc (cS C Γ sc n) s).getD .stuck
noncomputable def cSL (C:Ctx) (Γ:List Str) (sc:Scope) (l:List Stmt):List CS:=l.map (cS C Γ sc xT)
noncomputable def wA (params:List Str) (sc:Scope):List Str:=
 params++(sc.names.filter fun p=>(p.2==.local||p.2==.cell)&&!params.contains p.1).map (·.1)
end Mine
end

section
namespace Mine
open PySem
noncomputable def zSV (J:List V) (i j k:Nat) (v:V) (U:Sto):R Fl:=match v with
 | .tup [x,y,z]=>.ok (.next (((J.set i x).set j y).set k z)) U
 | _=>.stuck
noncomputable def zON (v:V) (U:Sto):R (Option Int):=match v with
 | .int i=>.ok (some i) U
 | _=>.stuck
theorem zL1 {v:V} {U:Sto} (h:zON v U ≠ .stuck):∃ i,v=.int i:=by
 cases v with
 | int i=>exact ⟨i,rfl⟩
 | _=>exact absurd rfl h
theorem zKD {v:V} {y:Str} (h:strOf? v=some y):v=.str y:=by
 cases v with
 | str _=>cases h; rfl
 | _=>exact zB h
theorem zLE {U:Sto} {v:V} (h:isInst U v=true):∃ n as,v=.ref n /\ U[n]?=some (.inst as):=by
 cases v with
 | ref n =>
  replace h:(match U[n]? with | some (.inst _)=>true | _=>false)=true:=h
  cases hU:U[n]? with
  | none=>rw [hU] at h; exact zF h
  | some o =>
   rw [hU] at h
   cases o with
   | inst as=>exact ⟨n,as,rfl,hU⟩
   | _=>exact zF h
 | _=>exact zF h
theorem zKP {U:Sto} {v x:V} {k:Nat} (h:zAD U v k=some x):∃ n as,v=.ref n /\ U[n]?=some (.inst as) /\ as.lookup k=some x:=by
 cases v with
 | ref n =>
  replace h:zGn k U[n]?=some x:=h
  cases hU:U[n]? with
  | none=>rw [hU] at h; exact zB h
  | some o =>
   rw [hU] at h
   cases o with
   | inst as=>exact ⟨n,as,rfl,hU,h⟩
   | _=>exact zB h
 | _=>exact zB h
theorem zFK {U:Sto} {o v:V} {k:Nat} (h:wd U o k v ≠ .stuck):∃ n as,o=.ref n /\ U[n]?=some (.inst as):=by
 cases o with
 | ref n =>
  replace h:kJ U n k v U[n]? ≠ .stuck:=h
  cases hU:U[n]? with
  | none=>rw [hU] at h; exact absurd rfl h
  | some o =>
   rw [hU] at h
   cases o with
   | inst as=>exact ⟨n,as,rfl,hU⟩
   | _=>exact absurd rfl h
 | _=>exact absurd rfl h
theorem zIL {n:Nat} {U:Sto} {k v:V} (h:zBJ n U k v ≠ .stuck):∃ ki,k=.int ki /\ U[n]?=some (.dict []):=by
 cases k with
 | int ki =>
  replace h:zBi n U ki v U[n]? ≠ .stuck:=h
  cases hU:U[n]? with
  | none=>rw [hU] at h; exact absurd rfl h
  | some o =>
   rw [hU] at h
   cases o with
   | dict es =>
    cases es with
    | nil=>exact ⟨ki,rfl,rfl⟩
    | cons _ _=>exact absurd rfl h
   | _=>exact absurd rfl h
 | _=>exact absurd rfl h
theorem zFn {U:Sto} {o v:V} (h:wG U o v ≠ .stuck):∃ n xs,o=.ref n /\ U[n]?=some (.list xs) /\ xs.length < LIM:=by
 cases o with
 | ref n =>
  replace h:(match U[n]? with | some (.list xs)=>if xs.length < LIM then R.ok V.none (U.set n (.list (xs++[v]))) else .stuck | _=>.stuck) ≠ .stuck:=h
  cases hU:U[n]? with
  | none=>rw [hU] at h; exact absurd rfl h
  | some o =>
   rw [hU] at h
   cases o with
   | list xs =>
    replace h:(if xs.length < LIM then R.ok V.none (U.set n (.list (xs++[v]))) else .stuck) ≠ .stuck:=h
    by_cases hl:xs.length < LIM
    ·exact ⟨n,xs,rfl,hU,hl⟩
    ·rw [if_neg hl] at h; exact absurd rfl h
   | _=>exact absurd rfl h
 | _=>exact absurd rfl h
section
variable (F Fq:Calls) (q:Bool) (J:List V) (U:Sto)
@[simp] theorem zA8 (v:V):evE F q (.lit v) J U=.ok v U:=id rfl
@[simp] theorem zv (i:Nat):evE F q (.var i) J U=R.lift U (zN J i):=id rfl
@[simp] theorem zKG (o:P1) (a:CE):evE F q (.p1 o a) J U=if vM o&&q then .stuck else (evE F q a J U).bind fun a U=>R.lift U (ev1 o U a):=id rfl
@[simp] theorem zNn (o:P2) (a b:CE):evE F q (.p2 o a b) J U=if wK o&&q then .stuck else (evE F q a J U).bind fun a U=>(evE F q b J U).bind fun b U=>R.lift U (ev2 o U a b):=id rfl
@[simp] theorem zBT (a:CE) (ops:List P2) (es:List CE):evE F q (.chain a ops es) J U=(evE F q a J U).bind fun a U=>evChain F q ops es a J U:=id rfl
@[simp] theorem zHx (a:CE) (lo hi:Option CE):evE F q (.slice a lo hi) J U=(evE F q a J U).bind fun a U=>(evO F q lo J U).bind fun lo U=>(evO F q hi J U).bind fun hi U=>R.lift U (wQ U a lo hi):=id rfl
@[simp] theorem zHp (a b:CE):evE F q (.and a b) J U=(evE F q a J U).bind fun a U=>(R.lift U (truthy U a)).bind fun t U=>if t then evE F q b J U else .ok a U:=id rfl
@[simp] theorem zNm (a b:CE):evE F q (.or a b) J U=(evE F q a J U).bind fun a U=>(R.lift U (truthy U a)).bind fun t U=>if t then .ok a U else evE F q b J U:=id rfl
@[simp] theorem zOb (es:List CE):evE F q (.tup es) J U=(evL F q es J U).bind fun vs U=>.ok (.tup vs) U:=id rfl
@[simp] theorem zMX (es:List CE):evE F q (.list es) J U=(evL F q es J U).bind fun vs U=>.ok (.lst vs) U:=id rfl
@[simp] theorem zMU (f:Nat) (args:List CE):evE F q (.call f args) J U=(evL F q args J U).bind fun vs U=>F f vs U:=id rfl
@[simp] theorem zQS (o:P2) (a b:CE):evE F q (.sm o a b) J U=(evE F q a J U).bind fun a U=>if zEA o U a then (evE F q b J U).bind fun b U=>R.lift U (ev2 o U a b) else .stuck:=id rfl
@[simp] theorem zFj (l x:CE):evE F q (.append l x) J U=(evE F q l J U).bind fun o U=>if kR U o then (evE F q x J U).bind fun x U=>wG U o x else .stuck:=id rfl
@[simp] theorem zHw (l:CE):evE F q (.pop l) J U=(evE F q l J U).bind fun o U=>zG2 U o:=id rfl
@[simp] theorem zRx (l:CE):evE F q (.clear l) J U=(evE F q l J U).bind fun o U=>zG1 U o:=id rfl
@[simp] theorem kO (e:CE):evE F q (.trk e) J U=(evE F q e J U).bind fun v U=>zEh U v:=id rfl
@[simp] theorem zOZ:evL F q [] J U=.ok [] U:=id rfl
@[simp] theorem zCJ (e:CE) (es:List CE):evL F q (e :: es) J U=(evE F q e J U).bind fun v U=>(evL F q es J U).bind fun vs U=>.ok (v :: vs) U:=id rfl
@[simp] theorem zNl:evO F q none J U=.ok none U:=id rfl
@[simp] theorem zEJ (e:CE):evO F q (some e) J U=(evE F q e J U).bind fun v U=>zON v U:=id rfl
@[simp] theorem zNj:evC F q none J U=.ok true U:=id rfl
@[simp] theorem zBU (e:CE):evC F q (some e) J U=(evE F q e J U).bind fun v U=>R.lift U (truthy U v):=id rfl
@[simp] theorem zMS (i:Nat) (e:CE):exS F Fq q (.asg i e) J U=(evE F q e J U).bind fun v U=>.ok (.next (J.set i v)) U:=id rfl
@[simp] theorem zDe (o i v:CE):exS F Fq q (.setItem o i v) J U=(evE F q v J U).bind fun v U=>(evE F q o J U).bind fun o U=>(evE F q i J U).bind fun i U=>(xO U o i v).bind fun _ U=>.ok (.next J) U:=id rfl
@[simp] theorem zMW (c:CE) (a b:List CS):exS F Fq q (.ite c a b) J U=(evE F q c J U).bind fun v U=>(R.lift U (truthy U v)).bind fun t U=>if t then exL F Fq q a J U else exL F Fq q b J U:=id rfl
@[simp] theorem zOa (e:CE):exS F Fq q (.ret e) J U=(evE F q e J U).bind fun v U=>.ok (.ret v) U:=id rfl
@[simp] theorem zMV (e:CE):exS F Fq q (.exp e) J U=(evE F q e J U).bind fun _ U=>.ok (.next J) U:=id rfl
@[simp] theorem zQV (i j k:Nat) (e:CE):exS F Fq q (.unpack3 i j k e) J U=if q then .stuck else (evE F q e J U).bind fun v U=>zSV J i j k v U:=id rfl
@[simp] theorem zHy (k:TK) (e:CE) (hs:List Hd):exS F Fq q (.try k e hs) J U=if q then .stuck else (evE F q e J U).orElse (fun v U=>.ok (zGb k v J) U) (exH Fq hs J):=id rfl
@[simp] theorem zQR:exS F Fq q .pass J U=.ok (.next J) U:=id rfl
@[simp] theorem zQQ:exL F Fq q [] J U=.ok (.next J) U:=id rfl
@[simp] theorem zHv (s:CS) (ss:List CS):exL F Fq q (s :: ss) J U=(exS F Fq q s J U).bind fun fl U=>match fl with | .next J=>exL F Fq q ss J U | .ret v=>.ok (.ret v) U:=id rfl
@[simp] theorem zMT (e:CE) (a:Nat):evE F q (.attr e a) J U=(evE F q e J U).bind fun o U=>R.lift U (zAD U o a):=id rfl
@[simp] theorem zHq (f:Nat) (o:CE) (args:List CE):evE F q (.callm f o args) J U=(evE F q o J U).bind fun o U=>if isInst U o then (evL F q args J U).bind fun vs U=>F f (o :: vs) U else .stuck:=id rfl
@[simp] theorem zRt:evE F q .new J U=(F 0 [.ref U.length] (U++[.inst []])).bind (zB3 U.length):=id rfl
@[simp] theorem zNk:evE F q .dict0 J U=.ok (.ref U.length) (U++[.dict []]):=id rfl
@[simp] theorem zEI (k v:CE):evE F q (.dict1 k v) J U=(evE F q k J (U++[.dict []])).bind fun a U1=>(evE F q v J U1).bind fun b U2=>zBJ U.length U2 a b:=id rfl
@[simp] theorem zDd (o:CE) (a:Nat) (v:CE):exS F Fq q (.setAttr o a v) J U=(evE F q v J U).bind fun v U=>(evE F q o J U).bind fun o U=>(wd U o a v).bind fun _ U=>.ok (.next J) U:=id rfl
@[simp] theorem zRy (c:Cls):exS F Fq q (.raise c) J U=if q then .stuck else .exc c U:=id rfl
@[simp] theorem zHr (op:P2) (e:CE) (a:V):evChain F q [op] [e] a J U=if wK op&&q then .stuck else (evE F q e J U).bind fun b U=>R.lift U (ev2 op U a b):=id rfl
@[simp] theorem zHs (op op':P2) (ops:List P2) (e e':CE) (es:List CE) (a:V):evChain F q (op :: op' :: ops) (e :: e' :: es) a J U=if wK op&&q then .stuck else (evE F q e J U).bind fun b U=>(R.lift U (ev2 op U a b)).bind fun c U=>(R.lift U (truthy U c)).bind fun t U=>if t then evChain F q (op' :: ops) (e' :: es) b J U else .ok c U:=id rfl
@[simp] theorem zQP (elt:CE) (k:SK) (src:List CE) (cond:Option CE):evE F q (.comp elt k src cond) J U=(evL F q src J U).bind fun vs U=>(R.lift U (yd q U k vs)).bind fun it U =>
   (zo it (fun x acc U=>(evC F q cond (J++[x]) U).calm.bind fun t U=>if t then (evE F q elt (J++[x]) U).calmE.bind fun y U=>(if acc.length < LIM then .ok (acc++[y]) U else .stuck) else .ok acc U) [] U).bind fun acc U=>.ok (.lst acc) U:=id rfl
theorem zOY (i:Nat) (k:SK) (src:List CE) (body:List CS):exS F Fq q (.for i k src body) J U=(evL F q src J U).bind fun vs U=>(R.lift U (yd q U k vs)).bind fun it U =>
   yr it (fun x J U=>exL F Fq q body (J.set i x) U) J U:=id rfl
theorem zHt {β:Type} {it:Items} {f:V->β->Sto->R β} {k i:Nat} {b:β} {U:Sto} (h:zt U it i=some none):xF it f (k+1) i b U=.ok b U:=by
 show (match zt U it i with | none=>R.stuck | some none=>.ok b U | some (some x)=>(f x b U).bind fun b U=>xF it f k (i+1) b U)=_
 rw [h]
theorem zHu {β:Type} {it:Items} {f:V->β->Sto->R β} {k i:Nat} {b:β} {U:Sto} {x:V} (h:zt U it i=some (some x)):xF it f (k+1) i b U=(f x b U).bind fun b U=>xF it f k (i+1) b U:=by
 show (match zt U it i with | none=>R.stuck | some none=>.ok b U | some (some x)=>(f x b U).bind fun b U=>xF it f k (i+1) b U)=_
 rw [h]
theorem zCK {it:Items} {f:V->List V->Sto->R Fl} {k i:Nat} {J:List V} {U:Sto} (h:zt U it i=some none):xB it f (k+1) i J U=.ok (.next J) U:=by
 show (match zt U it i with | none=>R.stuck | some none=>R.ok (Fl.next J) U | some (some x)=>(f x J U).bind fun fl U=>match fl with | Fl.next J=>xB it f k (i+1) J U | Fl.ret v=>R.ok (Fl.ret v) U)=_
 rw [h]
theorem zAw {it:Items} {f:V->List V->Sto->R Fl} {k i:Nat} {J J':List V} {U U':Sto} {x:V} (h:zt U it i=some (some x)) (e:f x J U=.ok (.next J') U'):xB it f (k+1) i J U=xB it f k (i+1) J' U':=by
 show (match zt U it i with | none=>R.stuck | some none=>R.ok (Fl.next J) U | some (some x)=>(f x J U).bind fun fl U=>match fl with | Fl.next J=>xB it f k (i+1) J U | Fl.ret v=>R.ok (Fl.ret v) U)=_
 rw [h]
 show R.bind (f x J U) _=_
 rw [e]; rfl
theorem zEK (c:CE) (body:List CS):exS F Fq q (.while c body) J U=if q then .stuck else wN (fun J U=>((evE F q c J U).bind fun v U=>R.lift U (truthy U v)).calm) (fun J U=>(exL F Fq q body J U).calm) zCI J U:=id rfl
end
theorem zF0 {it:Items} {f:V->List V->Sto->R Fl} {i:Nat} {J:List V} {U:Sto}:xB it f 0 i J U=.stuck:=rfl
theorem zFz {it:Items} {f:V->List V->Sto->R Fl} {n i:Nat} {J:List V} {U:Sto}:xB it f (n+1) i J U=match zt U it i with
  | none=>.stuck
  | some none=>.ok (.next J) U
  | some (some x)=>(f x J U).bind fun fl U=>match fl with
   | .next J=>xB it f n (i+1) J U
   | .ret v=>.ok (.ret v) U:=rfl
theorem zEr {β:Type} {it:Items} {f:V->β->Sto->R β} {i:Nat} {b:β} {U:Sto}:xF it f 0 i b U=.stuck:=rfl
theorem zEq {β:Type} {it:Items} {f:V->β->Sto->R β} {n i:Nat} {b:β} {U:Sto}:xF it f (n+1) i b U=match zt U it i with
  | none=>.stuck
  | some none=>.ok b U
  | some (some x)=>(f x b U).bind fun b U=>xF it f n (i+1) b U:=rfl
theorem zFh {c:List V->Sto->R Bool} {b:List V->Sto->R Fl} {J:List V} {U:Sto}:wN c b 0 J U=.stuck:=rfl
theorem zFg {c:List V->Sto->R Bool} {b:List V->Sto->R Fl} {n:Nat} {J:List V} {U:Sto}:wN c b (n+1) J U=(c J U).bind fun t U=>if t then (b J U).bind fun fl U=>match fl with
   | .next J=>wN c b n J U
   | .ret v=>.ok (.ret v) U
  else .ok (.next J) U:=rfl
theorem vH {T:Nat->Option Fn} {d:Nat} {q:Bool} {k:Nat} {vs:List V} {U:Sto}:zA T (d+1) q k vs U=match T k with
  | none=>.stuck
  | some fn=>if vs.length=fn.params then
    (exL (zA T d q) (zA T d true) q fn.body (vs++List.replicate (fn.slots - fn.params) .undef) U).bind zCe
   else .stuck:=rfl
end Mine
end

section
namespace Mine
open PySem
noncomputable def Gives (U:Sto) (it:Items) (xs:List V):Prop:=it=.now xs \/ ∃ n,it=.live n /\ U[n]?=some (.list xs)
theorem Gives.next {U:Sto} {it:Items} {xs:List V} (h:Gives U it xs) (i:Nat):zt U it i=some xs[i]?:=by
 rcases h with rfl | ⟨n,rfl,h⟩
 ·rfl
 ·simp [zt,h]
theorem Gives.fuel {U:Sto} {it:Items} {xs:List V} (h:Gives U it xs):zAK U it=xs.length+1:=by
 rcases h with rfl | ⟨n,rfl,h⟩
 ·rfl
 ·simp [zAK,h]
theorem zIR {β:Type} {it:Items} {f:V->β->Sto->R β} {xs:List V} {U:Sto} (g:Nat->β) (hit:Gives U it xs)
  (h:∀ i x,xs[i]?=some x->f x (g i) U=.ok (g (i+1)) U):zo it f (g 0) U=.ok (g xs.length) U:=by
 have key:∀ k i,k+i=xs.length->xF it f (k+1) i (g i) U=.ok (g xs.length) U:=by
  intro k
  induction k with
  | zero =>
   intro i hi
   obtain rfl:i=xs.length:=(Nat.zero_add i).symm.trans hi
   exact zHt ((hit.next _).trans (by rw [List.getElem?_eq_none (Nat.le_refl _)]))
  | succ k ih =>
   intro i hi
   have hlt:i < xs.length:=Nat.lt_of_lt_of_eq (Nat.lt_add_of_pos_left (Nat.succ_pos k)) hi
   rw [zHu ((hit.next _).trans (by rw [List.getElem?_eq_getElem hlt]))]
   rw [h i _ (List.getElem?_eq_getElem hlt)]
   exact ih (i+1) ((Nat.succ_add_eq_add_succ k i).symm.trans hi)
 have:=key xs.length 0 rfl
 rw [zo,hit.fuel]
 exact this
theorem R.calm_ok {α:Type} {a:α} {U:Sto}:(R.ok a U).calm=.ok a U:=rfl
theorem yh {F:Calls} {elt:CE} {k:SK} {src:List CE} {cond:Option CE} {J vs:List V} {U U1:Sto} {it:Items} {α:Type} {l:List α} {φ:α->V}
  (p:α->Bool) (g:α->V) (hsrc:evL F false src J U=.ok vs U1) (hit:yM U1 k vs=some it) (hg:Gives U1 it (l.map φ)) (hl:l.length < LIM)
  (hc:∀ x ∈ l,evC F false cond (J++[φ x]) U1=.ok (p x) U1) (he:∀ x ∈ l,p x=true->evE F false elt (J++[φ x]) U1=.ok (g x) U1) :
  evE F false (.comp elt k src cond) J U=.ok (.lst ((l.filter p).map g)) U1:=by
 show ((evL F false src J U).bind fun vs U=>(R.lift U (yM U k vs)).bind fun it U =>
   (zo it (fun x acc U=>(evC F false cond (J++[x]) U).calm.bind fun t U=>if t then (evE F false elt (J++[x]) U).calmE.bind fun y U=>(if acc.length < LIM then .ok (acc++[y]) U else .stuck) else .ok acc U) [] U).bind fun acc U=>R.ok (V.lst acc) U)=_
 simp only [hsrc,R.bind_ok,hit,R.lift_some]
 have:=zIR (f:=fun x acc U=>(evC F false cond (J++[x]) U).calm.bind fun t U=>if t then (evE F false elt (J++[x]) U).calmE.bind fun y U=>(if acc.length < LIM then .ok (acc++[y]) U else .stuck) else .ok acc U)
  (fun i=>((l.take i).filter p).map g) hg (fun i x hx=>by
   rw [List.getElem?_map] at hx
   cases hi:l[i]? with
   | none=>rw [hi] at hx; cases hx
   | some a =>
    rw [hi] at hx
    obtain rfl:φ a=x:=by simpa using hx
    have ha:a ∈ l:=List.mem_of_getElem? hi
    have hlt:i < l.length:=(List.getElem?_eq_some_iff.mp hi).1
    have ht:l.take (i+1)=l.take i++[a]:=by rw [List.take_add_one,hi]; rfl
    simp only [hc a ha,R.calm_ok,R.bind_ok,ht,List.filter_append,List.map_append]
    cases hp:p a with
    | false=>simp [hp]
    | true =>
     have hle:(((l.take i).filter p).map g).length < LIM:=by
      have:=List.length_filter_le p (l.take i)
      rw [List.length_map]
      exact Nat.lt_of_le_of_lt this (Nat.lt_of_le_of_lt (List.length_take_le' i l) hl)
     simp [he a ha hp,R.calmE,R.calm_ok,hp,List.length_map] at hle ⊢
     exact hle)
 simp only [List.take_zero,List.filter_nil,List.map_nil,List.length_map,List.take_length] at this
 rw [this]
 rfl
theorem zM8 {it:Items} {f:V->List V->Sto->R Fl} {xs:List V} {J:List V} {U:Sto} (I:Nat->List V->Sto->Prop) (hit:∀ i J U,I i J U->Gives U it xs) (h0:I 0 J U)
  (hs:∀ i x J U,xs[i]?=some x->I i J U->∃ J' U',f x J U=.ok (.next J') U' /\ I (i+1) J' U') :
  ∃ J' U',yr it f J U=.ok (.next J') U' /\ I xs.length J' U':=by
 have key:∀ k i J U,k+i=xs.length->I i J U->∃ J' U',xB it f (k+1) i J U=.ok (.next J') U' /\ I xs.length J' U':=by
  intro k
  induction k with
  | zero =>
   intro i J U hi h
   obtain rfl:i=xs.length:=(Nat.zero_add i).symm.trans hi
   exact ⟨J,U,zCK (((hit _ _ _ h).next _).trans (by rw [List.getElem?_eq_none (Nat.le_refl _)])),h⟩
  | succ k ih =>
   intro i J U hi h
   have hlt:i < xs.length:=Nat.lt_of_lt_of_eq (Nat.lt_add_of_pos_left (Nat.succ_pos k)) hi
   obtain ⟨J',U',e,h'⟩:=hs i _ J U (List.getElem?_eq_getElem hlt) h
   obtain ⟨J'',U'',e',h''⟩:=ih (i+1) J' U' ((Nat.succ_add_eq_add_succ k i).symm.trans hi) h'
   refine ⟨J'',U'',?_,h''⟩
   rw [zAw (((hit _ _ _ h).next _).trans (by rw [List.getElem?_eq_getElem hlt])) e]
   exact e'
 rw [yr,(hit _ _ _ h0).fuel]
 exact key xs.length 0 J U rfl h0
theorem zKF {c:List V->Sto->R Bool} {b:List V->Sto->R Fl} {P:List V->Sto->Prop} (I:Nat->List V->Sto->Prop)
  (hs:∀ m J U,I m J U->(c J U=.ok false U /\ P J U) \/ (c J U=.ok true U /\ ∃ m' J' U',m' < m /\ b J U=.ok (.next J') U' /\ I m' J' U')) :
  ∀ fuel m J U,I m J U->m < fuel->∃ J' U',wN c b fuel J U=.ok (.next J') U' /\ P J' U':=by
 intro fuel
 induction fuel with
 | zero=>intro m J U _ h; exact absurd h (Nat.not_lt_zero m)
 | succ k ih =>
  intro m J U h hm
  rcases hs m J U h with ⟨e,p⟩ | ⟨e,m',J',U',hlt,e',h'⟩
  ·exact ⟨J,U,by show R.bind (c J U) _=_; rw [e]; rfl,p⟩
  ·obtain ⟨J'',U'',e'',p⟩:=ih m' J' U' h' (Nat.lt_of_lt_of_le hlt (Nat.le_of_lt_succ hm))
   exact ⟨J'',U'',by show R.bind (c J U) _=_; rw [e]; show R.bind (b J U) _=_; rw [e']; exact e'',p⟩
section
variable (U:Sto)
@[simp] theorem zDr (x y:Int):ev2 .add U (.int x) (.int y)=some (.int (x+y)):=rfl
@[simp] theorem zBL (x y:Int):ev2 .sub U (.int x) (.int y)=some (.int (x - y)):=rfl
@[simp] theorem xN (x y:Int):ev2 .lt U (.int x) (.int y)=some (.bool (x < y)):=rfl
@[simp] theorem zSN (x y:Int):ev2 .le U (.int x) (.int y)=some (.bool (x <= y)):=rfl
@[simp] theorem zBq (x y:Int):ev2 .gt U (.int x) (.int y)=some (.bool (x > y)):=rfl
@[simp] theorem zPR (x y:Int):ev2 .ge U (.int x) (.int y)=some (.bool (x >= y)):=rfl
@[simp] theorem zBK (x y:Int):ev2 .min U (.int x) (.int y)=some (.int (if y < x then y else x)):=rfl
@[simp] theorem zHB (x y:Int):ev2 .max U (.int x) (.int y)=some (.int (if y > x then y else x)):=rfl
theorem zM1 (y:Nat) (h:y <= 40):ev2 .pow U (.int 10) (.int y)=some (.int (10 ^ y)):=by
 show (if ((10:Int)==10&&decide (0 <= (y:Int))&&decide ((y:Int) <= 40))=true then some (V.int (10 ^ (y:Int).toNat)) else none)=_
 rw [if_pos (by simp; omega),Int.toNat_natCast]
theorem yc (x y:Int) (h:yA x=true \/ yA y=true):ev2 .mul U (.int x) (.int y)=some (.int (x * y)):=by
 show (if (yA x||yA y)=true then some (V.int (x * y)) else none)=_
 rw [<- Bool.or_eq_true] at h; rw [if_pos h]
theorem wH (x y:Int) (h:(y==0||decide (1073741824 <= y.natAbs))=false):ev2 .fdiv U (.int x) (.int y)=some (.int (x.fdiv y)):=by
 show (if (y==0||decide (1073741824 <= y.natAbs))=true then none else some (V.int (x.fdiv y)))=_
 rw [h]; rfl
theorem wP (x y:Int) (h:(y==0)=false):ev2 .mod U (.int x) (.int y)=some (.int (x.fmod y)):=by
 show (if (y==0)=true then none else some (V.int (x.fmod y)))=_
 rw [h]; rfl
@[simp] theorem zRu (a b:Int):eqV U (.int a) (.int b)=some (a==b):=rfl
@[simp] theorem xM (x y:Int):ev2 .eq U (.int x) (.int y)=some (.bool (x==y)):=rfl
@[simp] theorem zKz (x y:Int):ev2 .ne U (.int x) (.int y)=some (.bool (x != y)):=rfl
@[simp] theorem zRw (x:Int):ev1 .neg U (.int x)=some (.int (-x)):=rfl
@[simp] theorem zRv (x:Int):ev1 .abs U (.int x)=some (.int x.natAbs):=rfl
@[simp] theorem zf (xs:List V):ev1 .len U (.lst xs)=some (.int xs.length):=rfl
@[simp] theorem zEn (xs:List V):ev1 .len U (.tup xs)=some (.int xs.length):=rfl
theorem wO {n:Nat} {xs:List V} (h:U[n]?=some (.list xs)):ev1 .len U (.ref n)=some (.int xs.length):=by
 show (match U[n]? with | some (.list xs)=>some (V.int xs.length) | _=>none)=_
 rw [h]
@[simp] theorem zM0 (b:Bool):ev1 .not U (.bool b)=some (.bool !b):=rfl
@[simp] theorem zKx (xs:List V):ev1 .toList U (.lst xs)=some (.lst xs):=rfl
@[simp] theorem zKy (xs:List V):ev1 .toList U (.tup xs)=some (.lst xs):=rfl
@[simp] theorem zNz (x:Str):ev1 .len U (.str x)=some (.int x.length):=rfl
@[simp] theorem zRU (x:Str):ko U .str (.str x)=some true:=rfl
@[simp] theorem zRT (i:Int):ko U .str (.int i)=some false:=rfl
@[simp] theorem zQU (x:Str):strOf? (.str x)=some x:=rfl
@[simp] theorem zOU (b:Bool):truthy U (.bool b)=some b:=rfl
@[simp] theorem truthy_int (b:Int):truthy U (.int b)=some (b != 0):=rfl
noncomputable def iv (l:List Int):List V:=l.map V.int
@[simp] theorem wJ (l:List Int):(iv l).length=l.length:=by simp [iv]
noncomputable def gI (l:List Int) (k:Nat):Int:=l.getD k 0
theorem zNE (l:List Int):ints? (iv l)=some l:=by
 induction l with
 | nil=>rfl
 | cons x l ih =>
  simp only [ints?,iv,List.map_cons,List.mapM_cons] at ih ⊢
  simp [ih,intOf?]
@[simp] theorem xl (l:List Int):ev1 .sum U (.lst (iv l))=some (.int l.sum):=by
 show (ints? (iv l)).map (fun l=>V.int l.sum)=_
 rw [zNE]; rfl
theorem xy {n i:Nat} (h:i < n):ze n (i:Int)=some i:=by
 unfold ze
 rw [if_pos (Int.natCast_nonneg i),Int.toNat_natCast,if_pos h]
theorem zr {l:List V} {i:Nat} {v:V} (h:l[i]?=some v):ev2 .index U (.lst l) (.int i)=some v:=by
 show ((ze l.length i).bind fun k=>l[k]?)=some v
 rw [xy (List.getElem?_eq_some_iff.mp h).1]; exact h
theorem wg {l:List V} {i:Nat} {v:V} (h:l[i]?=some v):ev2 .index U (.tup l) (.int i)=some v:=by
 show ((ze l.length i).bind fun k=>l[k]?)=some v
 rw [xy (List.getElem?_eq_some_iff.mp h).1]; exact h
theorem zU {l:List V} {i n:Nat} {v:V} (hn:U[n]?=some (.list l)) (h:l[i]?=some v):ev2 .index U (.ref n) (.int i)=some v:=by
 show (match U[n]? with | some (.list xs)=>(ze xs.length i).bind fun k=>xs[k]? | some (.dict es)=>(es.find? fun p=>p.1==(i:Int)).map fun p=>p.2 | _=>none)=some v
 rw [hn]
 show ((ze l.length i).bind fun k=>l[k]?)=some v
 rw [xy (List.getElem?_eq_some_iff.mp h).1]; exact h
theorem zLG {l:List Int} {i:Nat} (h:i < l.length):(iv l)[i]?=some (.int (gI l i)):=by simp [iv,gI,h]
theorem xP {l:List Int} {i:Nat} (h:i < l.length):ev2 .index U (.lst (iv l)) (.int i)=some (.int (gI l i)):=zr U (zLG h)
theorem zAJ {l:List Int} {i n:Nat} (hn:U[n]?=some (.list (iv l))) (h:i < l.length):ev2 .index U (.ref n) (.int i)=some (.int (gI l i)):=zU U hn (zLG h)
theorem zg {n:Int} (h:n.natAbs <= LIM):yM U .range1 [.int n]=some (.now (zY 0 n)):=by
 show (if n.natAbs <= LIM then some (Items.now (zY 0 n)) else none)=_
 rw [if_pos h]
theorem zE1 {xs:List V}:yM U .val [.tup xs]=some (.now xs):=rfl
theorem yu {n:Nat} {xs:List V} (h:U[n]?=some (.list xs)):yM U .val [.ref n]=some (.live n):=by
 show kG n U[n]?=_
 rw [h]; rfl
@[simp] theorem jG (k:Kd) (v:V):ev1 (.isInst k) U v=(ko U k v).map .bool:=rfl
@[simp] theorem zRR (i:Int):ko U .int (.int i)=some true:=rfl
@[simp] theorem zRQ (i:Int):ko U .bool (.int i)=some false:=rfl
@[simp] theorem zRV (xs:List V):ko U .tuple (.tup xs)=some true:=rfl
@[simp] theorem zRS (xs:List V):ko U .list (.lst xs)=some true:=rfl
theorem zBv {n:Nat} {xs:List V} (h:U[n]?=some (.list xs)):ko U .list (.ref n)=some true:=by
 show zGS U[n]? .list=_
 rw [h]; rfl
theorem yQ {n i:Nat} {xs:List V} {v:V} (hn:U[n]?=some (.list xs)) (h:i < xs.length):xO U (.ref n) (.int i) v=.ok () (U.set n (.list (xs.set i v))):=by
 show zAs U n i v U[n]?=_
 rw [hn]
 show (if 0 <= (i:Int) /\ (i:Int).toNat < xs.length then R.ok () (U.set n (.list (xs.set (i:Int).toNat v))) else .stuck)=_
 rw [if_pos ⟨Int.natCast_nonneg i,by rwa [Int.toNat_natCast]⟩,Int.toNat_natCast]
theorem yB {n:Nat} {xs:List V} {x:V} (hn:U[n]?=some (.list xs)) (h:xs.length < LIM):wG U (.ref n) x=.ok .none (U.set n (.list (xs++[x]))):=by
 show (match U[n]? with | some (.list xs)=>if xs.length < LIM then R.ok V.none (U.set n (.list (xs++[x]))) else .stuck | _=>.stuck)=_
 rw [hn]
 show (if xs.length < LIM then R.ok V.none (U.set n (.list (xs++[x]))) else .stuck)=_
 rw [if_pos h]
@[simp] theorem zRN (a:V) (l:List V):ev2 .index U (.tup (a :: l)) (.int 0)=some a:=wg U (i:=0) rfl
@[simp] theorem zRO (a b:V) (l:List V):ev2 .index U (.tup (a :: b :: l)) (.int 1)=some b:=wg U (i:=1) rfl
@[simp] theorem zRP (a b c:V) (l:List V):ev2 .index U (.tup (a :: b :: c :: l)) (.int 2)=some c:=wg U (i:=2) rfl
end
theorem zG {T:Nat->Option Fn} {d:Nat} {q:Bool} {f:Nat} {fn:Fn} {args:List V} {U U':Sto} {v:V} (hT:T f=some fn) (hl:args.length=fn.params)
  (h:exL (zA T d q) (zA T d true) q fn.body (args++List.replicate (fn.slots - fn.params) .undef) U=.ok (.ret v) U'):zA T (d+1) q f args U=.ok v U':=by
 show (match T f with | none=>R.stuck | some fn=>if args.length=fn.params then (exL (zA T d q) (zA T d true) q fn.body (args++List.replicate (fn.slots - fn.params) V.undef) U).bind zCe else .stuck)=_
 rw [hT]
 show (if args.length=fn.params then (exL (zA T d q) (zA T d true) q fn.body (args++List.replicate (fn.slots - fn.params) V.undef) U).bind zCe else .stuck)=_
 rw [if_pos hl,h]; rfl
theorem zFi {F Fq:Calls} {c:CE} {body:List CS} {J:List V} {U:Sto} {P:List V->Sto->Prop} (I:Nat->List V->Sto->Prop) (m:Nat) (hm:m < zCI) (h0:I m J U)
  (hs:∀ m J U,I m J U->((evE F false c J U).bind fun v U=>R.lift U (truthy U v))=.ok false U /\ P J U \/
   ((evE F false c J U).bind fun v U=>R.lift U (truthy U v))=.ok true U /\ ∃ m' J' U',m' < m /\ exL F Fq false body J U=.ok (.next J') U' /\ I m' J' U') :
  ∃ J' U',exS F Fq false (.while c body) J U=.ok (.next J') U' /\ P J' U':=by
 rw [zEK,if_neg Bool.false_ne_true]
 exact zKF (c:=fun J U=>((evE F false c J U).bind fun v U=>R.lift U (truthy U v)).calm) (b:=fun J U=>(exL F Fq false body J U).calm) (P:=P) I (fun m J U h=>by
  rcases hs m J U h with ⟨e,p⟩ | ⟨e,m',J',U',hl,e',h'⟩
  ·exact .inl ⟨by simp only [e]; rfl,p⟩
  ·exact .inr ⟨by simp only [e]; rfl,m',J',U',hl,by simp only [e']; rfl,h'⟩) zCI m J U h0 hm
theorem xt {F Fq:Calls} {i:Nat} {k:SK} {src:List CE} {body:List CS} {J vs:List V} {U U1:Sto} {it:Items} {xs:List V} (I:Nat->List V->Sto->Prop)
  (hsrc:evL F false src J U=.ok vs U1) (hit:yM U1 k vs=some it) (hI:∀ j J U,I j J U->Gives U it xs) (h0:I 0 J U1)
  (hs:∀ j x J U,xs[j]?=some x->I j J U->∃ J' U',exL F Fq false body (J.set i x) U=.ok (.next J') U' /\ I (j+1) J' U') :
  ∃ J' U',exS F Fq false (.for i k src body) J U=.ok (.next J') U' /\ I xs.length J' U':=by
 have e:exS F Fq false (.for i k src body) J U=yr it (fun x J U=>(exL F Fq false body (J.set i x) U)) J U1:=by
  show ((evL F false src J U).bind fun vs U=>(R.lift U (yM U k vs)).bind fun it U=>yr it (fun x J U=>(exL F Fq false body (J.set i x) U)) J U)=_
  simp only [hsrc,R.bind_ok,hit,R.lift_some]
 rw [e]
 exact zM8 (it:=it) (f:=fun x J U=>(exL F Fq false body (J.set i x) U)) I hI h0 (fun j x J U hx h=>by
  exact hs j x J U hx h)
theorem xA {α:Type} (l:List α):l.filter (fun _=>true)=l:=by simp
end Mine
end

section
namespace Mine
open PySem
noncomputable abbrev Loc:=Addr × Option Addr
noncomputable def Loc.addrs:Loc->List Addr
 | (a,none)=>[a]
 | (a,some d)=>[a,d]
noncomputable def addrs (f:List Loc):List Addr:=f.flatMap Loc.addrs
theorem jP (f g:List Loc):addrs (f++g)=addrs f++addrs g:=by simp [addrs]
theorem mem_addrs_append {f g:List Loc} {a:Addr}:a ∈ addrs (f++g) ↔ a ∈ addrs f \/ a ∈ addrs g:=by rw [jP,List.mem_append]
structure zR where
 prog:Program
 w:World
 hb:Heap
 cl:Cls->Value
 book:Addr
 parts:Value
 hasParts:Bool
 fn:Nat->Addr
 kn:List Cls
noncomputable def bmV:List Value:=[.type "ValueError",.type "Exception",.type "BaseException",.type "object"]
inductive kj (S:zR) (c:Cls):Prop where
 | mk (Ca:Addr) (bm:List Value) (N:Addr) (nm q:Str) (bs:List Value) (hdct:Bool) (sn:List Str) (sub:List Value) (ab:Bool) (col:Option Bool) (dd:Option Addr) (k0 k1 k2 k3 k5:Option Value) (mN:Str->Option Value)
   (hcl:S.cl c=.ref Ca) (hC:S.hb.get? Ca=some (excClassObj nm q Ca N bs bm hdct sn sub ab col dd k0 k1 k2 k3 k5 "ValueError.__new__")) (hN:S.hb.Ns N mN) (hni:mN "__init__"=none) (OT:OwnTail S.hb bmV bm)
   (hm:∀ d ∈ S.kn,(Value.ref Ca :: bm).contains (S.cl d)=c.sub d)
   (TC:TailC S.hb (.ref Ca :: bm))
inductive SeqAt (X:List Addr) (f:List Loc) (I:Addr->Array Value->Nat->Prop) (P:List Value->Prop) (k:Nat) (v:Value):Prop
 | mk (a:Addr) (vs:Array Value) (n:Nat) (e:v=.ref a) (ha:a ∉ addrs f /\ a ∉ X) (i:I a vs n) (p:P vs.toList) (hl:k <= LIM)
mutual
noncomputable def VR (S:zR) (X:List Addr) (f:List Loc) (h:Heap):V->Value->Prop
 | .undef,_=>False
 | .none,v=>v=.none
 | .bool b,v=>v=.bool b
 | .int i,v=>∃ t,v=.int i t
 | .str x,v=>(∃ t,v=.str x t) /\ x.length <= LIM /\ PyData.strOk x=true
 | .tup xs,v=>SeqAt X f (IsT h) (VRs S X f h xs) xs.length v
 | .lst xs,v=>SeqAt X f (IsL h) (VRs S X f h xs) xs.length v
 | .ref n,v=>∃ l,f[n]?=some l /\ v=.ref l.1
 | .exc c,v=>∃ a o,v=.ref a /\ (a ∉ addrs f /\ a ∉ X) /\ h.get? a=some o /\ o.cls=S.cl c /\ kj S c
 | .parts,v=>S.hasParts=true /\ v=S.parts
noncomputable def VRs (S:zR) (X:List Addr) (f:List Loc) (h:Heap):List V->List Value->Prop
 | [],[]=>True
 | x :: xs,v :: vs=>VR S X f h x v /\ VRs S X f h xs vs
 | [],_ :: _=>False
 | _ :: _,[]=>False
end
theorem wD {S:zR} {X:List Addr} {f:List Loc} {h:Heap}:∀ {xs:List V} {vs:List Value},VRs S X f h xs vs->xs.length=vs.length
 | [],[],_=>rfl
 | _ :: _,_ :: _,e=>by simp [wD e.2]
 | [],_ :: _,e=>False.elim e
 | _ :: _,[],e=>False.elim e
noncomputable def SameObj (o o':Obj):Prop:=o'=o \/ ((∃ es n,o.data=.dict es n) /\ o'.cls=o.cls /\ o'.dict=o.dict /\ o'.data=o.data)
theorem SameObj.refl (o:Obj):SameObj o o:=.inl rfl
theorem SameObj.data {o o':Obj} (x:SameObj o o'):o'.data=o.data:=x.elim (fun e=>by rw [e]) fun e=>e.2.2.2
theorem SameObj.cls {o o':Obj} (x:SameObj o o'):o'.cls=o.cls:=x.elim (fun e=>by rw [e]) fun e=>e.2.1
theorem SameObj.dict {o o':Obj} (x:SameObj o o'):o'.dict=o.dict:=x.elim (fun e=>by rw [e]) fun e=>e.2.2.1
theorem SameObj.exact {o o':Obj} (x:SameObj o o') (h:∀ es n,o.data ≠ .dict es n):o'=o:=x.elim id fun e=>by obtain ⟨⟨es,n,q⟩,_⟩:=e; exact absurd q (h es n)
theorem SameObj.trans {a b c:Obj} (x:SameObj a b) (y:SameObj b c):SameObj a c:=by
 rcases x with rfl | ⟨x1,x2,x3,x4⟩
 ·exact y
 ·exact .inr ⟨x1,y.cls.trans x2,y.dict.trans x3,y.data.trans x4⟩
structure Kp (f:List Loc) (Y:List Addr) (s s':Shared):Prop where
 rest:s'={ s with heap:=s'.heap,toks:=s'.toks }
 live:∀ a o,s.heap.get? a=some o->∃ o',s'.heap.get? a=some o'
 kept:∀ a o,s.heap.get? a=some o->a ∉ addrs f->a ∉ Y->∃ o',s'.heap.get? a=some o' /\ SameObj o o'
 dicts:∀ a o es n,s.heap.get? a=some o->o.data=.dict es n->a ∉ addrs f->∃ o' es' n',s'.heap.get? a=some o' /\ o'.data=.dict es' n'
noncomputable def Fresh (g:List Loc) (s:Shared):Prop:=∀ a ∈ addrs g,s.heap.get? a=none
theorem Fresh.nil (s:Shared):Fresh [] s:=fun _ h=>nomatch h
theorem Kp.refl (f:List Loc) (Y:List Addr) (s:Shared):Kp f Y s s:=
 ⟨rfl,fun _ o e=>⟨o,e⟩,fun _ o e _ _=>⟨o,e,.refl o⟩,fun _ o es n e d _=>⟨o,es,n,e,d⟩⟩
theorem Kp.mono {f:List Loc} {Y Z:List Addr} {s s':Shared} (k:Kp f Y s s') (h:∀ a ∈ Y,a ∈ Z):Kp f Z s s':=
 ⟨k.rest,k.live,fun a o e h1 h2=>k.kept a o e h1 fun h3=>h2 (h a h3),k.dicts⟩
theorem zz {g:List Loc} {s:Shared} (hg:Fresh g s) {a:Addr} {o:Obj} (e:s.heap.get? a=some o):a ∉ addrs g:=
 fun h=>by rw [hg a h] at e; cases e
theorem Kp.trans {f g:List Loc} {Y:List Addr} {s s₁ s₂:Shared} (k:Kp f Y s s₁) (hg:Fresh g s) (k':Kp (f++g) Y s₁ s₂):Kp f Y s s₂ where
 rest:=by rw [k'.rest,k.rest]
 live a o e:=let ⟨o₁,e₁⟩:=k.live a o e; k'.live a o₁ e₁
 kept a o e h1 h2:=by
  obtain ⟨o₁,e₁,q₁⟩:=k.kept a o e h1 h2
  obtain ⟨o₂,e₂,q₂⟩:=k'.kept a o₁ e₁ (fun h=>(mem_addrs_append.mp h).elim h1 (zz hg e)) h2
  exact ⟨o₂,e₂,q₁.trans q₂⟩
 dicts a o es n e d h1:=by
  obtain ⟨o₁,es1,n₁,e₁,d₁⟩:=k.dicts a o es n e d h1
  exact k'.dicts a o₁ es1 n₁ e₁ d₁ (fun h=>(mem_addrs_append.mp h).elim h1 (zz hg e))
theorem zu {s s₁:Shared} (hs:∀ a o,s.heap.get? a=some o->∃ o',s₁.heap.get? a=some o') {a:Addr} (h:s₁.heap.get? a=none):s.heap.get? a=none:=by
 cases e:s.heap.get? a with
 | none=>rfl
 | some o=>obtain ⟨o',e'⟩:=hs a o e; rw [h] at e'; cases e'
theorem Fresh.trans {g g':List Loc} {s s₁:Shared} (hg:Fresh g s) (hs:∀ a o,s.heap.get? a=some o->∃ o',s₁.heap.get? a=some o') (hg':Fresh g' s₁):Fresh (g++g') s:=
 fun a h=>(mem_addrs_append.mp h).elim (hg a) fun h=>zu hs (hg' a h)
mutual
theorem VR.keep {S:zR} {X X':List Addr} {f f':List Loc} {h h':Heap}
  (kf:∀ (i:Nat) (l:Loc),f[i]?=some l->f'[i]?=some l)
  (kh:∀ a o,h.get? a=some o->a ∉ addrs f->a ∉ X->(a ∉ addrs f' /\ a ∉ X') /\ ∃ o',h'.get? a=some o' /\ SameObj o o') :
  ∀ (x:V) (v:Value),VR S X f h x v->VR S X' f' h' x v
 | .undef,_,e=>False.elim e
 | .none,_,e=>e
 | .bool _,_,e=>e
 | .int _,_,e=>e
 | .str _,_,e=>e
 | .ref n,_,e=>by
  obtain ⟨l,e1,e2⟩:=e
  exact ⟨l,kf _ _ e1,e2⟩
 | .exc c,_,e=>by
  obtain ⟨a,o,e1,e2,e3,e4,e5⟩:=e
  obtain ⟨q1,o',q2,q3⟩:=kh a o e3 e2.1 e2.2
  exact ⟨a,o',e1,q1,q2,q3.cls.trans e4,e5⟩
 | .parts,_,e=>e
 | .tup xs,_,e=>by
  obtain ⟨a,vs,n,e1,e2,e3,e7,e8⟩:=e
  obtain ⟨q1,o',q2,q3⟩:=kh a _ e3 e2.1 e2.2
  exact ⟨a,vs,n,e1,q1,q2.trans (congrArg some (q3.exact fun _ _ q=>by cases q)),VRs.keep kf kh xs vs.toList e7,e8⟩
 | .lst xs,_,e=>by
  obtain ⟨a,vs,n,e1,e2,e3,e7,e8⟩:=e
  obtain ⟨q1,o',q2,q3⟩:=kh a _ e3 e2.1 e2.2
  exact ⟨a,vs,n,e1,q1,q2.trans (congrArg some (q3.exact fun _ _ q=>by cases q)),VRs.keep kf kh xs vs.toList e7,e8⟩
theorem VRs.keep {S:zR} {X X':List Addr} {f f':List Loc} {h h':Heap}
  (kf:∀ (i:Nat) (l:Loc),f[i]?=some l->f'[i]?=some l)
  (kh:∀ a o,h.get? a=some o->a ∉ addrs f->a ∉ X->(a ∉ addrs f' /\ a ∉ X') /\ ∃ o',h'.get? a=some o' /\ SameObj o o') :
  ∀ (xs:List V) (vs:List Value),VRs S X f h xs vs->VRs S X' f' h' xs vs
 | [],[],e=>e
 | x :: xs,v :: vs,e=>by
  exact ⟨VR.keep kf kh x v e.1,VRs.keep kf kh xs vs e.2⟩
 | [],_ :: _,e=>False.elim e
 | _ :: _,[],e=>False.elim e
end
theorem VR.keepK {S:zR} {X:List Addr} {f g:List Loc} {Y:List Addr} {s s':Shared} (k:Kp f Y s s') (hg:Fresh g s) (hY:∀ a ∈ Y,a ∈ X)
  {x:V} {v:Value} (e:VR S X f s.heap x v):VR S X (f++g) s'.heap x v:=
 VR.keep (fun _ _ e=>List.getElem?_append_left (List.getElem?_eq_some_iff.mp e).1 ▸ e)
  (fun a o ho h1 h2=>⟨⟨fun h=>(mem_addrs_append.mp h).elim h1 (zz hg ho),h2⟩,k.kept a o ho h1 fun h=>h2 (hY a h)⟩) x v e
theorem VRs.keepK {S:zR} {X:List Addr} {f g:List Loc} {Y:List Addr} {s s':Shared} (k:Kp f Y s s') (hg:Fresh g s) (hY:∀ a ∈ Y,a ∈ X)
  {x:List V} {v:List Value} (e:VRs S X f s.heap x v):VRs S X (f++g) s'.heap x v:=
 VRs.keep (fun _ _ e=>List.getElem?_append_left (List.getElem?_eq_some_iff.mp e).1 ▸ e)
  (fun a o ho h1 h2=>⟨⟨fun h=>(mem_addrs_append.mp h).elim h1 (zz hg ho),h2⟩,k.kept a o ho h1 fun h=>h2 (hY a h)⟩) x v e
theorem VR.less {S:zR} {X X':List Addr} {f:List Loc} {h:Heap} (hX:∀ a ∈ X',a ∈ X) {x:V} {v:Value} (e:VR S X f h x v):VR S X' f h x v:=
 VR.keep (fun _ _ e=>e) (fun _ o ho h1 h2=>⟨⟨h1,fun h=>h2 (hX _ h)⟩,o,ho,.refl o⟩) x v e
theorem VRs.less {S:zR} {X X':List Addr} {f:List Loc} {h:Heap} (hX:∀ a ∈ X',a ∈ X) {x:List V} {v:List Value} (e:VRs S X f h x v):VRs S X' f h x v:=
 VRs.keep (fun _ _ e=>e) (fun _ o ho h1 h2=>⟨⟨h1,fun h=>h2 (hX _ h)⟩,o,ho,.refl o⟩) x v e
theorem VR.more {S:zR} {X X':List Addr} {f:List Loc} {h:Heap} (hX:∀ a ∈ X',a ∈ X \/ h.get? a=none) {x:V} {v:Value} (e:VR S X f h x v):VR S X' f h x v:=
 VR.keep (fun _ _ e=>e) (fun a o ho h1 h2=>⟨⟨h1,fun h=>(hX _ h).elim h2 fun q=>by rw [q] at ho; cases ho⟩,o,ho,.refl o⟩) x v e
noncomputable def zL (k:Nat):Str:=if k=0 then "entries" else "history"
noncomputable def OR (S:zR) (X:List Addr) (f:List Loc) (h:Heap):Loc->O->Prop
 | (a,none),.list xs=>∃ vs n,IsL h a vs n /\ VRs S X f h xs vs.toList /\ xs.length <= LIM
 | (a,none),.dict es=>∃ kvs,Even (intKind S.prog S.w) h a kvs /\ kvs.map (·.1)=es.map (·.1) /\ VRs S X f h (es.map (·.2)) (kvs.map (·.2)) /\ es.length <= LIM /\ (a==sysModules)=false
 | (a,some d),.inst as=>∃ ob mA,h.get? a=some ob /\ (ob.cls=.ref S.book /\ ob.dict=some d /\ (∀ c,ob.data ≠ .cls c) /\ d ≠ a) /\ h.Ns1 d mA /\ (∀ k x,as.lookup k=some x->∃ v,mA (zL k)=some v /\ VR S X f h x v) /\ (∀ x v,mA x=some v->x=zL 0 \/ x=zL 1) /\ ∀ k,k ∈ as.map (·.1)->k < 2
 | _,_=>False
theorem OR.keep {S:zR} {X X':List Addr} {f f':List Loc} {h h':Heap} (k:∀ x v,VR S X f h x v->VR S X' f' h' x v) (ks:∀ x v,VRs S X f h x v->VRs S X' f' h' x v) {l:Loc} {o:O}
  (hl:∀ a ∈ l.addrs,h'.get? a=h.get? a) (e:OR S X f h l o):OR S X' f' h' l o:=by
 obtain ⟨a,d⟩:=l
 cases d with
 | none =>
  have ha:=hl a (List.mem_singleton.mpr rfl)
  cases o with
  | list xs =>
   obtain ⟨vs,n,e1,e5,e6⟩:=e
   exact ⟨vs,n,ha.trans e1,ks _ _ e5,e6⟩
  | dict es =>
   obtain ⟨kvs,e1,e2,e3,e4⟩:=e
   exact ⟨kvs,e1.at ha,e2,ks _ _ e3,e4⟩
  | inst as=>exact e.elim
 | some d =>
  have ha:=hl a (List.mem_cons_self)
  have hd:=hl d (List.mem_cons_of_mem _ (List.mem_singleton.mpr rfl))
  cases o with
  | list xs=>exact e.elim
  | dict es=>exact e.elim
  | inst as =>
   obtain ⟨ob,mA,e1,e0,⟨o,es,ep,e2,r⟩,e3,e4⟩:=e
   exact ⟨ob,mA,ha.trans e1,e0,⟨o,es,ep,hd.trans e2,r⟩,fun i x q=>let ⟨v,q1,q2⟩:=e3 i x q; ⟨v,q1,k _ _ q2⟩,e4⟩
structure Lk (S:zR) (X:List Addr) (f:List Loc) (U:Sto) (h:Heap):Prop where
 base:∀ b o,S.hb.get? b=some o->h.get? b=some o
 len:f.length=U.length
 nodup:(addrs f).Nodup
 fresh:∀ a ∈ addrs f,S.hb.get? a=none
 hid:∀ a ∈ X,S.hb.get? a=none /\ a ∉ addrs f /\ ∃ o,h.get? a=some o
 obj:∀ (i:Nat) (l:Loc) (o:O),f[i]?=some l->U[i]?=some o->OR S X f h l o
theorem OR.live {S:zR} {X:List Addr} {f:List Loc} {h:Heap} {l:Loc} {o:O} (e:OR S X f h l o):∀ a ∈ l.addrs,∃ ob,h.get? a=some ob:=by
 obtain ⟨a,d⟩:=l
 intro b hb
 cases d with
 | none =>
  obtain rfl:=List.mem_singleton.mp hb
  cases o with
  | list xs=>obtain ⟨vs,n,e1,_⟩:=e; exact ⟨_,e1⟩
  | dict es=>obtain ⟨kvs,e1,_⟩:=e; exact e1.live
  | inst as=>exact e.elim
 | some d =>
  cases o with
  | list xs=>exact e.elim
  | dict es=>exact e.elim
  | inst as =>
   obtain ⟨ob,mA,e1,e0,⟨o,es,ep,e2,r⟩,_⟩:=e
   rcases List.mem_cons.mp hb with rfl | hb
   ·exact ⟨_,e1⟩
   ·obtain rfl:=List.mem_singleton.mp hb; exact ⟨_,e2⟩
theorem zIg {f:List Loc} {a:Addr} (h:a ∈ addrs f):∃ (i:Nat) (l:Loc),f[i]?=some l /\ a ∈ l.addrs:=by
 obtain ⟨l,hl,ha⟩:=List.mem_flatMap.mp h
 obtain ⟨i,hi⟩:=List.getElem?_of_mem hl
 exact ⟨i,l,hi,ha⟩
theorem yD {f:List Loc} {i:Nat} {l:Loc} {a:Addr} (h:f[i]?=some l) (ha:a ∈ l.addrs):a ∈ addrs f:=
 List.mem_flatMap.mpr ⟨l,List.mem_of_getElem? h,ha⟩
theorem Lk.live {S:zR} {X:List Addr} {f:List Loc} {U:Sto} {h:Heap} (L:Lk S X f U h) {a:Addr} (ha:a ∈ addrs f):∃ ob,h.get? a=some ob:=by
 obtain ⟨i,l,hi,hl⟩:=zIg ha
 have hlt:i < U.length:=L.len ▸ (List.getElem?_eq_some_iff.mp hi).1
 exact (L.obj i l _ hi (List.getElem?_eq_getElem hlt)).live a hl
inductive ExcR (S:zR) (X:List Addr) (f:List Loc) (U:Sto) (h h₀:Heap) (ea:Addr) (k:Cls):Prop where
 | mk (e1:h₀.get? ea=none) (ec:kj S k) (hs:List Addr) (oe:Obj) (vs:Array Value) (L:Lk S (hs++X) f U h) (e4:h.get? ea=some oe) (e5:oe.cls=S.cl k) (e6:oe.data=.fields vs) (e7:vs[2]?=some .none) (e8:(hs=[ea] /\ vs[1]?=some .none) \/
   ∃ T oT ts,hs=[ea,T] /\ h₀.get? T=none /\ T ≠ ea /\ vs[1]?=some (.ref T) /\ h.get? T=some oT /\ oT.data=.fields ts /\ 3 < ts.size)
theorem ExcR.back {S:zR} {X:List Addr} {f:List Loc} {U:Sto} {h h₀ h₁:Heap} {ea:Addr} {k:Cls} (e:ExcR S X f U h h₁ ea k) (hl:∀ a,h₁.get? a=none->h₀.get? a=none):ExcR S X f U h h₀ ea k:=by
 obtain ⟨e1,ec,hs,oe,vs,L,e4,e5,e6,e7,e8⟩:=e
 refine ⟨hl _ e1,ec,hs,oe,vs,L,e4,e5,e6,e7,e8.imp id ?_⟩
 rintro ⟨T,oT,ts,t0,t1,t2⟩
 exact ⟨T,oT,ts,t0,hl _ t1,t2⟩
section
variable {α β γ δ:Type}
inductive QS (S:zR) (X Y:List Addr) (f:List Loc) (P:α->β->List Loc->Shared->Prop) (s:Shared) (r:R β) (a:α) (s':Shared):Prop where
 | mk (b:β) (U':Sto) (g:List Loc) (e:r=.ok b U') (hg:Fresh g s) (k:Kp f Y s s') (L:Lk S X (f++g) U' s'.heap) (p:P a b (f++g) s')
inductive ES (S:zR) (X Y:List Addr) (f:List Loc) (tr:Bool) (s:Shared) (r:R β) (e:Value) (s':Shared):Prop where
 | mk (k:Cls) (U':Sto) (g:List Loc) (ea:Addr) (e1:e=.ref ea) (e2:r=.exc k U') (hg:Fresh g s) (kp:Kp f Y s s') (L:Lk S X (f++g) U' s'.heap) (x:ExcR S X (f++g) U' s'.heap s.heap ea k)
noncomputable def Sim (S:zR) (A:Around) (X Y:List Addr) (f:List Loc) (P:α->β->List Loc->Shared->Prop) (t:Sem α) (r:R β) (s:Shared):Prop:=
 r ≠ .stuck->wpAny (model S.prog S.w) A t (QS S X Y f P s r) (ES S X Y f false s r) s
variable {S:zR} {A:Around} {X Y:List Addr} {f:List Loc} {P:α->β->List Loc->Shared->Prop} {P':γ->δ->List Loc->Shared->Prop}
theorem QS.lift {s s₁:Shared} {b:β} {U':Sto} {g:List Loc} {rk:β->Sto->R δ} {a:γ} {s':Shared} (hg:Fresh g s) (k:Kp f Y s s₁)
  (q:QS S X Y (f++g) P' s₁ (rk b U') a s'):QS S X Y f P' s ((R.ok b U').bind rk) a s':=by
 obtain ⟨b',U'',g',e,hg',k',L,p⟩:=q
 rw [List.append_assoc] at L p
 exact ⟨b',U'',g++g',e,hg.trans k.live hg',k.trans hg k',L,p⟩
theorem ES.lift {s s₁:Shared} {b:β} {U':Sto} {g:List Loc} {tr:Bool} {rk:β->Sto->R δ} {e:Value} {s':Shared} (hg:Fresh g s) (k:Kp f Y s s₁)
  (q:ES S X Y (f++g) tr s₁ (rk b U') e s'):ES S X Y f tr s ((R.ok b U').bind rk) e s':=by
 obtain ⟨c,U'',g',ea,e1,e2,hg',k',L,x⟩:=q
 rw [List.append_assoc] at L x
 exact ⟨c,U'',g++g',ea,e1,e2,hg.trans k.live hg',k.trans hg k',L,x.back fun a h=>zu k.live h⟩
theorem Sim.seq {t:Sem α} {r:R β} {rk:β->Sto->R δ} {s:Shared} {W:α->Shared->Prop} (h:Sim S A X Y f P t r s) (hne:r.bind rk ≠ .stuck)
  (hk:∀ a b U' g s',rk b U' ≠ .stuck->Fresh g s->Kp f Y s s'->Lk S X (f++g) U' s'.heap->P a b (f++g) s'->(∀ c s'',QS S X Y (f++g) P' s' (rk b U') c s''->QS S X Y f P' s (r.bind rk) c s'') ->
   (∀ e s'',ES S X Y (f++g) false s' (rk b U') e s''->ES S X Y f false s (r.bind rk) e s'')->W a s') :
  wpAny (model S.prog S.w) A t W (ES S X Y f false s (r.bind rk)) s:=by
 have hr:r ≠ .stuck:=fun e=>hne (by rw [e]; rfl)
 refine wpAny_mono (h hr) (fun a s' q=>?_) fun e s' q=>?_
 ·obtain ⟨b,U',g,rfl,hg,k,L,p⟩:=q
  exact hk a b U' g s' hne hg k L p (fun c s'' q=>q.lift hg k) (fun e s'' q=>q.lift hg k)
 ·obtain ⟨c,U',g,ea,e1,rfl,hg,k,L,x⟩:=q
  exact ⟨c,U',g,ea,e1,rfl,hg,k,L,x⟩
theorem QS.here {s:Shared} {U:Sto} {a:α} {b:β} (L:Lk S X f U s.heap) (p:P a b f s):QS S X Y f P s (.ok b U) a s:=
 ⟨b,U,[],rfl,.nil s,.refl f Y s,by rwa [List.append_nil],by rwa [List.append_nil]⟩
end
end Mine
end

section
namespace Mine
open PySem PyProof.Rows
structure Ext (s s':Shared):Prop where
 rest:s'={ s with heap:=s'.heap,toks:=s'.toks }
 keep:∀ b o,s.heap.get? b=some o->s'.heap.get? b=some o
theorem Ext.refl (s:Shared):Ext s s:=⟨rfl,fun _ _ e=>e⟩
theorem Ext.toks (s:Shared) (t:Nat):Ext s { s with toks:=t }:=⟨rfl,fun _ _ e=>e⟩
theorem Ext.heap {s:Shared} {h:Heap} {t:Nat} (k:∀ b o,s.heap.get? b=some o->h.get? b=some o):Ext s { s with heap:=h,toks:=t }:=⟨rfl,k⟩
theorem Ext.push (s:Shared) (o:Obj):Ext s { s with heap:=s.heap.push o }:=⟨rfl,fun _ _ e=>Heap.get?_push_of_some _ e⟩
theorem Ext.trans {a b c:Shared} (x:Ext a b) (y:Ext b c):Ext a c:=⟨by rw [y.rest,x.rest],fun d o e=>y.keep d o (x.keep d o e)⟩
theorem Ext.kp {s s':Shared} (e:Ext s s') (f:List Loc) (Y:List Addr):Kp f Y s s':=
 ⟨e.rest,fun a o h=>⟨o,e.keep a o h⟩,fun a o h _ _=>⟨o,e.keep a o h,.refl o⟩,fun a o es n h d _=>⟨o,es,n,e.keep a o h,d⟩⟩
section
variable {S:zR} {X Y:List Addr} {f:List Loc} {U:Sto} {s s':Shared}
theorem Ext.vr (e:Ext s s') {x:V} {v:Value} (h:VR S X f s.heap x v):VR S X f s'.heap x v:=
 VR.keep (fun _ _ e=>e) (fun a o h h1 h2=>⟨⟨h1,h2⟩,o,e.keep a o h,.refl o⟩) x v h
theorem Ext.vrs (e:Ext s s') {x:List V} {v:List Value} (h:VRs S X f s.heap x v):VRs S X f s'.heap x v:=
 VRs.keep (fun _ _ e=>e) (fun a o h h1 h2=>⟨⟨h1,h2⟩,o,e.keep a o h,.refl o⟩) x v h
theorem Ext.lk (e:Ext s s') (L:Lk S X f U s.heap):Lk S X f U s'.heap where
 base b o h:=e.keep b o (L.base b o h)
 len:=L.len
 nodup:=L.nodup
 fresh:=L.fresh
 hid a ha:=⟨(L.hid a ha).1,(L.hid a ha).2.1,let ⟨o,q⟩:=(L.hid a ha).2.2; ⟨o,e.keep a o q⟩⟩
 obj i l o hi ho:=(L.obj i l o hi ho).keep (fun _ _=>e.vr) (fun _ _=>e.vrs) fun a ha=>by
  obtain ⟨ob,h⟩:=L.live (yD hi ha)
  rw [h]; exact e.keep a ob h
noncomputable def PV (S:zR) (X:List Addr) (v:Value) (x:V) (f:List Loc) (s:Shared):Prop:=VR S X f s.heap x v
theorem QS.leaf {x:V} {v:Value} (L:Lk S X f U s.heap) (e:Ext s s') (h:VR S X f s'.heap x v):QS S X Y f (PV S X) s (.ok x U) v s':=
 ⟨x,U,[],rfl,.nil s,e.kp f Y,by rw [List.append_nil]; exact e.lk L,by rw [List.append_nil]; exact h⟩
theorem Lk.new (L:Lk S X f U s.heap) {a:Addr} (h:s.heap.get? a=none):a ∉ addrs f /\ a ∉ X:=
 ⟨fun q=>(by obtain ⟨o,e⟩:=L.live q; rw [h] at e; cases e),fun q=>(by obtain ⟨o,e⟩:=(L.hid a q).2.2; rw [h] at e; cases e)⟩
theorem yj (h:Heap):h.get? h.objs.size=none:=Heap.get?_none_of_le (Nat.le_refl _)
inductive NewL (S:zR) (X:List Addr) (f:List Loc) (s s':Shared) (xs:List V) (v:Value):Prop
 | mk (a:Addr) (vs:Array Value) (n:Nat) (e:v=.ref a) (hn:s.heap.get? a=none) (i:IsL s'.heap a vs n) (p:VRs S X f s.heap xs vs.toList) (hl:xs.length <= LIM)
theorem NewL.vr {xs:List V} {v:Value} (L:Lk S X f U s.heap) (e:Ext s s') (h:NewL S X f s s' xs v):VR S X f s'.heap (.lst xs) v:=by
 obtain ⟨a,vs,n,e1,e2,e3,e4,e5⟩:=h
 exact ⟨a,vs,n,e1,L.new e2,e3,e.vrs e4,e5⟩
end
section
variable {S:zR} {X:List Addr} {f:List Loc} {U:Sto} {h:Heap}
inductive zOf (S:zR) (X:List Addr) (f:List Loc) (h:Heap) (xs:List V) (v:Value):Prop
 | mk (a:Addr) (vs:Array Value) (n:Nat) (e:v=.ref a) (i:IsL h a vs n) (p:VRs S X f h xs vs.toList) (hl:xs.length <= LIM)
theorem zy (L:Lk S X f U h) {x:V} {v:Value} {xs:List V} (e:listOf? U x=some xs) (r:VR S X f h x v):zOf S X f h xs v:=by
 cases x with
 | lst ys =>
  cases e
  obtain ⟨a,vs,n,e1,_,e3,e4,e5⟩:=r
  exact ⟨a,vs,n,e1,e3,e4,e5⟩
 | ref k =>
  obtain ⟨l,hl,rfl⟩:=r
  cases ho:U[k]? with
  | none=>have e:wT U[k]?=some _:=e; rw [ho] at e; exact zB e
  | some o =>
   replace e:wT U[k]?=some _:=e
   rw [ho] at e
   cases o <;> cases e
   have:=L.obj k l _ hl ho
   obtain ⟨a,d⟩:=l
   cases d with
   | none=>obtain ⟨vs,n,e1,e2,e3⟩:=this; exact ⟨a,vs,n,rfl,e1,e2,e3⟩
   | some d=>exact this.elim
 | _=>first | exact zB e | exact zF e | cases e
inductive zMY (S:zR) (X:List Addr) (f:List Loc) (h:Heap) (xs:List V) (v:Value):Prop
 | mk (a:Addr) (vs:Array Value) (n:Nat) (e:v=.ref a) (i:IsL h a vs n \/ IsT h a vs n) (p:VRs S X f h xs vs.toList) (hl:xs.length <= LIM)
theorem vJ (L:Lk S X f U h) {x:V} {v:Value} {xs:List V} (e:xK U x=some xs) (r:VR S X f h x v) :
  zMY S X f h xs v:=by
 cases x with
 | tup ys =>
  cases e
  obtain ⟨a,vs,n,e1,_,e3,e4,e5⟩:=r
  exact ⟨a,vs,n,e1,.inr e3,e4,e5⟩
 | lst ys =>
  obtain ⟨a,vs,n,e1,e2,e3,e4⟩:=zy L (x:=.lst ys) (xs:=xs) e r
  exact ⟨a,vs,n,e1,.inl e2,e3,e4⟩
 | ref k =>
  obtain ⟨a,vs,n,e1,e2,e3,e4⟩:=zy L (x:=.ref k) (xs:=xs) e r
  exact ⟨a,vs,n,e1,.inl e2,e3,e4⟩
 | _=>first | exact zB e | exact zF e | cases e
theorem wp:∀ {xs:List V} {vs:List Value},VRs S X f h xs vs->∀ {i:Nat} {x:V},xs[i]?=some x->∃ v,vs[i]?=some v /\ VR S X f h x v
 | x :: xs,v :: vs,r,0,y,e=>by simp at e; subst e; exact ⟨v,by simp,r.1⟩
 | x :: xs,v :: vs,r,i+1,y,e=>by simp at e; obtain ⟨w,h1,h2⟩:=wp r.2 e; exact ⟨w,by simpa using h1,h2⟩
 | [],_,_,_,_,e=>by simp at e
 | _ :: _,[],r,_,_,_=>False.elim r
theorem xa:∀ {xs ys:List V} {vs ws:List Value},VRs S X f h xs vs->VRs S X f h ys ws->VRs S X f h (xs++ys) (vs++ws)
 | [],_,[],_,_,b=>b
 | x :: xs,ys,v :: vs,ws,a,b=>by show VRs S X f h (x :: (xs++ys)) (v :: (vs++ws)); exact ⟨a.1,xa a.2 b⟩
 | [],_,_ :: _,_,a,_=>False.elim a
 | _ :: _,_,[],_,a,_=>False.elim a
theorem zBZ:∀ {xs:List V} {vs:List Value},VRs S X f h xs vs->∀ n,VRs S X f h (xs.take n) (vs.take n)
 | [],[],_,n=>by rw [List.take_nil,List.take_nil]; exact True.intro
 | x :: xs,v :: vs,r,0=>True.intro
 | x :: xs,v :: vs,r,n+1=>by simp only [List.take_succ_cons]; exact ⟨r.1,zBZ r.2 n⟩
 | [],_ :: _,a,_=>False.elim a
 | _ :: _,[],a,_=>False.elim a
theorem zBY:∀ {xs:List V} {vs:List Value},VRs S X f h xs vs->∀ n,VRs S X f h (xs.drop n) (vs.drop n)
 | [],[],_,n=>by rw [List.drop_nil,List.drop_nil]; exact True.intro
 | x :: xs,v :: vs,r,0=>r
 | x :: xs,v :: vs,r,n+1=>by simp only [List.drop_succ_cons]; exact zBY r.2 n
 | [],_ :: _,a,_=>False.elim a
 | _ :: _,[],a,_=>False.elim a
theorem zGk:∀ {xs:List V} {vs:List Value},VRs S X f h xs vs->∀ {i:Nat} {x:V} {v:Value},VR S X f h x v->VRs S X f h (xs.set i x) (vs.set i v)
 | [],[],_,n,_,_,_=>True.intro
 | x :: xs,v :: vs,r,0,_,_,q=>by simp only [List.set_cons_zero]; exact ⟨q,r.2⟩
 | x :: xs,v :: vs,r,n+1,_,_,q=>by simp only [List.set_cons_succ]; exact ⟨r.1,zGk r.2 q⟩
 | [],_ :: _,a,_,_,_,_=>False.elim a
 | _ :: _,[],a,_,_,_,_=>False.elim a
theorem zHL:∀ {xs:List V} {vs:List Value} {l:List Int},ints? xs=some l->VRs S X f h xs vs->∃ ys:List (Int × Tok),vs=ys.map (fun p=>.int p.1 p.2) /\ ys.map (·.1)=l
 | [],[],l,e,_=>by simp [ints?] at e; subst e; exact ⟨[],rfl,rfl⟩
 | x :: xs,v :: vs,l,e,r=>by
  simp only [ints?,List.mapM_cons] at e
  cases x with
  | int i =>
   obtain ⟨t,rfl⟩:=(r.1:∃ t,v=.int i t)
   replace e:(xs.mapM intOf? >>= fun l'=>some (i :: l'))=some l:=e
   cases hl:xs.mapM intOf? with
   | none=>rw [hl] at e; exact zB e
   | some l' =>
    rw [hl] at e
    have e:i :: l'=l:=Option.some.inj e
    obtain ⟨ys,e1,e2⟩:=zHL (l:=l') hl r.2
    subst e
    exact ⟨(i,t) :: ys,by simp [e1],by simp [e2]⟩
  | _=>exact zB e
 | [],_ :: _,_,_,a=>False.elim a
 | _ :: _,[],_,_,a=>False.elim a
theorem zEV:∀ {xs:List V} {vs:List Value} {l:List Bool},bools? xs=some l->VRs S X f h xs vs->vs=l.map .bool
 | [],[],l,e,_=>by simp [bools?] at e; subst e; rfl
 | x :: xs,v :: vs,l,e,r=>by
  simp only [bools?,List.mapM_cons] at e
  cases x with
  | bool i =>
   obtain rfl:=(r.1:v=.bool i)
   replace e:(xs.mapM boolOf? >>= fun l'=>some (i :: l'))=some l:=e
   cases hl:xs.mapM boolOf? with
   | none=>rw [hl] at e; exact zB e
   | some l' =>
    rw [hl] at e
    have e:i :: l'=l:=Option.some.inj e
    subst e
    rw [List.map_cons,zEV (l:=l') hl r.2]
  | _=>exact zB e
 | [],_ :: _,_,_,a=>False.elim a
 | _ :: _,[],_,_,a=>False.elim a
theorem zHi:∀ {xs:List V} {vs:List Value} {l:List Str},strs? xs=some l->VRs S X f h xs vs->∃ ys:List (Str × Tok),vs=ys.map (fun p=>.str p.1 p.2) /\ ys.map (·.1)=l /\ ∀ x ∈ l,x.length <= LIM /\ PyData.strOk x=true
 | [],[],l,e,_=>by simp [strs?] at e; subst e; exact ⟨[],rfl,rfl,fun _ h=>nomatch h⟩
 | x :: xs,v :: vs,l,e,r=>by
  simp only [strs?,List.mapM_cons] at e
  cases x with
  | str i =>
   obtain ⟨⟨t,rfl⟩,q⟩:=(r.1:(∃ t,v=.str i t) /\ i.length <= LIM /\ PyData.strOk i=true)
   replace e:(xs.mapM strOf? >>= fun l'=>some (i :: l'))=some l:=e
   cases hl:xs.mapM strOf? with
   | none=>rw [hl] at e; exact zB e
   | some l' =>
    rw [hl] at e
    have e:i :: l'=l:=Option.some.inj e
    obtain ⟨ys,e1,e2,e3⟩:=zHi (l:=l') hl r.2
    subst e
    exact ⟨(i,t) :: ys,by simp [e1],by simp [e2],fun x hx=>(List.mem_cons.mp hx).elim (fun e=>e ▸ q) (e3 x)⟩
  | _=>exact zB e
 | [],_ :: _,_,_,a=>False.elim a
 | _ :: _,[],_,_,a=>False.elim a
end
end Mine
end

section
namespace Mine
open PySem PyProof.Rows
theorem yW:LIM <= sizeLine:=by decide
theorem xW {n:Nat} (h:n <= LIM):(n:Int) < 2 ^ 63:=Int.lt_of_le_of_lt (Int.ofNat_le.mpr h) (by decide)
theorem zGm (vs ws:Array Value):(vs.toList++ws.toList).toArray=vs++ws:=by apply Array.toList_inj.mp; simp
theorem zBd {a:Int} (h:yA a=true):Builtin.Int.intBits a <= 64:=by
 have h':a.natAbs < 2 ^ 64:=of_decide_eq_true h
 unfold Builtin.Int.intBits
 split
 ·omega
 ·rename_i hz
  have hne:a.natAbs ≠ 0:=by intro e; apply hz; simp; omega
  have:=(Nat.log2_lt hne).mpr h'
  omega
section
variable {S:zR} {A:Around} {X:List Addr} {f:List Loc} {U:Sto} {s:Shared} {E:Value->Shared->Prop}
noncomputable def PE (S:zR) (X:List Addr) (f:List Loc) (s:Shared) (x:V) (v:Value) (s':Shared):Prop:=Ext s s' /\ VR S X f s'.heap x v /\ ∀ xs,x=.lst xs->NewL S X f s s' xs v
theorem PE.int {i:Int} {t tk:Nat}:PE S X f s (.int i) (.int i t) { s with toks:=tk }:=⟨.toks s tk,⟨t,rfl⟩,fun _ e=>by cases e⟩
theorem PE.bool {b:Bool} {tk:Nat}:PE S X f s (.bool b) (.bool b) { s with toks:=tk }:=⟨.toks s tk,rfl,fun _ e=>by cases e⟩
theorem PE.bool0 {b:Bool}:PE S X f s (.bool b) (.bool b) s:=⟨.refl s,rfl,fun _ e=>by cases e⟩
theorem PE.str {x:Str} {t tk:Nat} (h1:x.length <= LIM) (h2:PyData.strOk x=true):PE S X f s (.str x) (.str x t) { s with toks:=tk }:=⟨.toks s tk,⟨⟨t,rfl⟩,h1,h2⟩,fun _ e=>by cases e⟩
theorem PE.intH {i:Int} {t:Tok} {h':Heap} {tk:Nat} (k:∀ b o,s.heap.get? b=some o->h'.get? b=some o):PE S X f s (.int i) (.int i t) { s with heap:=h',toks:=tk }:=⟨.heap k,⟨t,rfl⟩,fun _ e=>by cases e⟩
theorem PE.boolH {i:Bool} {h':Heap} {tk:Nat} (k:∀ b o,s.heap.get? b=some o->h'.get? b=some o):PE S X f s (.bool i) (.bool i) { s with heap:=h',toks:=tk }:=⟨.heap k,rfl,fun _ e=>by cases e⟩
theorem yH {i:Int} {v:Value} {h:Heap} (r:VR S X f h (.int i) v):∃ t,v=.int i t:=by exact r
theorem wB {i:Bool} {v:Value} {h:Heap} (r:VR S X f h (.bool i) v):v=.bool i:=by exact r
theorem yy {i:Str} {v:Value} {h:Heap} (r:VR S X f h (.str i) v):(∃ t,v=.str i t) /\ i.length <= LIM /\ PyData.strOk i=true:=by exact r
theorem zEH {v:Value} {h:Heap} (r:VR S X f h .none v):v=.none:=by exact r
theorem jO {xs:List V} {v:Value} {h:Heap} (r:VR S X f h (.tup xs) v):SeqAt X f (IsT h) (VRs S X f h xs) xs.length v:=by exact r
theorem wx {x y:Str} (hx:PyData.strOk x=true) (hy:PyData.strOk y=true):PyData.strOk (x++y)=true:=by
 show (x.cps++y.cps).all _=true
 rw [Array.all_append]
 exact Bool.and_eq_true_iff.mpr ⟨hx,hy⟩
theorem length_append (x y:Str):(x++y).length=x.length+y.length:=by show (x.cps++y.cps).size=_; simp [Str.length]
theorem zc {xs:List V} {vs:Array Value} {h:Heap} (r:VRs S X f h xs vs.toList):vs.size=xs.length:=by
 have:=wD r; simpa using this.symm
theorem zAN {vs:List Value} {xs:List V} {tk:Nat} (L:Lk S X f U s.heap) (r:VRs S X f s.heap xs vs) (hl:xs.length <= LIM) :
  PE S X f s (.lst xs) (.ref s.heap.objs.size) { s with heap:=s.heap.push { cls:=.type "list",data:=.seq vs.toArray },toks:=tk }:=by
 have e:Ext s { s with heap:=s.heap.push { cls:=.type "list",data:=.seq vs.toArray },toks:=tk }:=.heap fun b o h=>Heap.get?_push_of_some _ h
 have nl:NewL S X f s { s with heap:=s.heap.push { cls:=.type "list",data:=.seq vs.toArray },toks:=tk } xs (.ref s.heap.objs.size):=
  ⟨_,vs.toArray,0,rfl,yj _,Heap.get?_push_size _ rfl,by simpa using r,hl⟩
 exact ⟨e,nl.vr L e,fun ys q=>by cases q; exact nl⟩
theorem zAO {vs:List Value} {xs:List V} {tk:Nat} (L:Lk S X f U s.heap) (r:VRs S X f s.heap xs vs) (hl:xs.length <= LIM) :
  PE S X f s (.tup xs) (.ref s.heap.objs.size) { s with heap:=s.heap.push { cls:=.type "tuple",data:=.seq vs.toArray },toks:=tk }:=by
 have e:Ext s { s with heap:=s.heap.push { cls:=.type "tuple",data:=.seq vs.toArray },toks:=tk }:=.heap fun b o h=>Heap.get?_push_of_some _ h
 refine ⟨e,?_,fun ys q=>by cases q⟩
 exact ⟨_,vs.toArray,0,rfl,L.new (yj _),Heap.get?_push_size _ rfl,by simpa using e.vrs r,hl⟩
theorem zGq {op:Operator} {o:P2} (ho:zCW op=some o) {i j:Int} {x:V} {t u:Tok} (e:ev2 o U (.int i) (.int j)=some x) :
  wpAny (model S.prog S.w) A (binaryOp op (.int i t) (.int j u)) (PE S X f s x) E s:=by
 cases op <;> cases ho
 ·cases e; exact PyProof.Rows.add_int .int
 ·cases e; exact PyProof.Rows.sub_int .int
 ·delta ev2 at e; dsimp only at e
  split at e
  ·rename_i h
   cases e
   exact PyProof.Rows.mul_int .int ((Bool.or_eq_true_iff.mp h).elim (fun h=>.of_left (zBd h)) fun h=>.of_right (zBd h))
  ·first | exact zB e | exact zF e | cases e
 ·delta ev2 at e; dsimp only at e
  split at e
  ·first | exact zB e | exact zF e | cases e
  ·rename_i h
   cases e
   exact PyProof.Rows.mod_int (by simpa using h) .int
 ·delta ev2 at e; dsimp only at e
  split at e
  ·rename_i h
   cases e
   simp only [Bool.and_eq_true,beq_iff_eq,decide_eq_true_eq] at h
   obtain ⟨⟨rfl,h1⟩,h2⟩:=h
   exact pow_int_small h1 (by omega) (by decide) .int
  ·first | exact zB e | exact zF e | cases e
 ·delta ev2 at e; dsimp only at e
  split at e
  ·first | exact zB e | exact zF e | cases e
  ·rename_i h
   cases e
   simp only [Bool.or_eq_true,beq_iff_eq,decide_eq_true_eq,not_or,Nat.not_le] at h
   exact floordiv_int h.1 .int (.inl (PyProof.noPylong_small h.2))
theorem zDx {c:Prop} [Decidable c] {a b:V} (h:(if c then some a else none)=some b):c /\ a=b:=by
 by_cases hc:c
 ·rw [if_pos hc] at h; exact ⟨hc,Option.some.inj h⟩
 ·rw [if_neg hc] at h; exact zB h
theorem zH1 {U:Sto} {P:V->V->V->Prop} (hi:∀ i j,P (.int i) (.int j) (.int (i+j))) (hs:∀ x y:Str,x.length+y.length <= 10000->P (.str x) (.str y) (.str (x++y)))
  (ht:∀ xs ys:List V,xs.length+ys.length <= LIM->P (.tup xs) (.tup ys) (.tup (xs++ys))) (hl:∀ a b (xs ys:List V),listOf? U a=some xs->listOf? U b=some ys->xs.length+ys.length <= LIM->P a b (.lst (xs++ys)))
  {a b x:V} (e:ev2 .add U a b=some x):P a b x:=by
 have gen:((listOf? U a).bind fun xs=>(listOf? U b).bind fun ys=>if xs.length+ys.length <= LIM then some (V.lst (xs++ys)) else none)=some x->P a b x:=by
  intro e
  replace e:=bind_some e
  obtain ⟨xs,h1,e⟩:=e
  replace e:=bind_some e
  obtain ⟨ys,h2,e⟩:=e
  obtain ⟨h3,e⟩:=zDx e
  subst e
  exact hl a b xs ys h1 h2 h3
 cases a with
 | int i =>
  cases b with
  | int j=>cases e; exact hi i j
  | _=>exact zB e
 | str i =>
  cases b with
  | str j=>obtain ⟨h,e⟩:=zDx (show (if i.length+j.length <= 10000 then some (V.str (i++j)) else none)=some x from e); subst e; exact hs i j h
  | _=>exact zB e
 | tup xs =>
  cases b with
  | tup ys=>obtain ⟨h,e⟩:=zDx (show (if xs.length+ys.length <= LIM then some (V.tup (xs++ys)) else none)=some x from e); subst e; exact ht xs ys h
  | _=>exact zB e
 | lst xs=>exact gen e
 | ref n=>exact gen e
 | _=>exact zB e
theorem zH0 {a b:V} {va vb:Value} {xs ys:List V} (L:Lk S X f U s.heap) (h1:listOf? U a=some xs) (h2:listOf? U b=some ys) (h3:xs.length+ys.length <= LIM) (ra:VR S X f s.heap a va) (rb:VR S X f s.heap b vb) :
  wpAny (model S.prog S.w) A (binaryOp .Add va vb) (PE S X f s (.lst (xs++ys))) E s:=by
 obtain ⟨p,vs,n,rfl,il,r1,l1⟩:=zy L h1 ra
 obtain ⟨q,ws,m,rfl,il',r2,l2⟩:=zy L h2 rb
 refine P.add_list il il' ?_ (by rw [zc r1,zc r2]; exact Nat.le_trans h3 yW)
 have:=zAN (tk:=s.toks) L (xa r1 r2) (by simpa using h3)
 rwa [zGm] at this
theorem zKN {va vb:Value} {xs ys:List V} (L:Lk S X f U s.heap) (h3:xs.length+ys.length <= LIM) (ra:VR S X f s.heap (.tup xs) va) (rb:VR S X f s.heap (.tup ys) vb) :
  wpAny (model S.prog S.w) A (binaryOp .Add va vb) (PE S X f s (.tup (xs++ys))) E s:=by
 obtain ⟨p,vs,n,rfl,q1,il,r1,l1⟩:=jO ra
 obtain ⟨q,ws,m,rfl,q2,il',r2,l2⟩:=jO rb
 have z1:=zc r1
 have z2:=zc r2
 by_cases hv:vs=#[]
 ·subst hv
  have:xs=[]:=List.length_eq_zero_iff.mp (by simpa using z1.symm)
  subst this
  refine concat_meets ⟨_,il,rfl⟩ ⟨_,il',rfl⟩ noFill_tuple_add seq_tuple_add PySem.F.slot_tuple_add PySem.F.entry_tuple_add (PySem.F.args_tuple_add_2 _ _) (tuple_addW0 p q #[] ws n m none none #[] #[] (by simp)) ⟨il,il',?_⟩
  exact ⟨.refl s,rb,fun _ q=>by cases q⟩
 ·by_cases hw:ws=#[]
  ·subst hw
   have:ys=[]:=List.length_eq_zero_iff.mp (by simpa using z2.symm)
   subst this
   refine concat_meets ⟨_,il,rfl⟩ ⟨_,il',rfl⟩ noFill_tuple_add seq_tuple_add PySem.F.slot_tuple_add PySem.F.entry_tuple_add (PySem.F.args_tuple_add_2 _ _) (tuple_addW1 p q vs #[] n m none none #[] #[] (by simpa using hv) (by simp)) ⟨il,il',?_⟩
   rw [List.append_nil]
   exact ⟨.refl s,ra,fun _ q=>by cases q⟩
  ·refine P.add_tuple il il' (by simpa using hv) (by simpa using hw) ?_ (by rw [z1,z2]; exact Nat.le_trans h3 yW)
   have:=zAO (tk:=s.toks) L (xa r1 r2) (by simpa using h3)
   rwa [zGm] at this
theorem zH2 {a b x:V} {va vb:Value} (L:Lk S X f U s.heap) (e:ev2 .add U a b=some x) (ra:VR S X f s.heap a va) (rb:VR S X f s.heap b vb) :
  wpAny (model S.prog S.w) A (binaryOp .Add va vb) (PE S X f s x) E s:=by
 refine zH1 (P:=fun a b x=>VR S X f s.heap a va->VR S X f s.heap b vb->wpAny (model S.prog S.w) A (binaryOp .Add va vb) (PE S X f s x) E s) (fun i j ra rb=>?_) (fun x y h ra rb=>?_) (fun xs ys h ra rb=>zKN L h ra rb) (fun a b xs ys h1 h2 h3 ra rb=>zH0 L h1 h2 h3 ra rb) e ra rb
 ·obtain ⟨t,rfl⟩:=yH ra
  obtain ⟨u,rfl⟩:=yH rb
  exact zGq (U:=U) (o:=.add) (i:=i) (j:=j) rfl rfl
 ·obtain ⟨⟨t,rfl⟩,a1,a2⟩:=yy ra
  obtain ⟨⟨u,rfl⟩,b1,b2⟩:=yy rb
  refine PyProof.Rows.add_str (fun t' tk=>.str ?_ (wx a2 b2)) (Nat.le_trans h (by decide))
  rw [length_append]; exact Nat.le_trans h (by decide)
theorem zMu {op:CmpOp} {o:P2} (ho:xi op=some o) (hn:op ≠ .Eq /\ op ≠ .NotEq /\ op ≠ .In /\ op ≠ .NotIn) {i j:Int} {x:V} {t u:Tok} (e:ev2 o U (.int i) (.int j)=some x) :
  wpAny (model S.prog S.w) A (compareOp op (.int i t) (.int j u)) (PE S X f s x) E s:=by
 cases op <;> cases ho
 ·exact absurd rfl hn.1
 ·exact absurd rfl hn.2.1
 ·cases e; exact P.lt_int .bool0
 ·cases e; exact P.le_int .bool0
 ·cases e; exact P.gt_int .bool0
 ·cases e; exact P.ge_int .bool0
 ·exact absurd rfl hn.2.2.1
 ·exact absurd rfl hn.2.2.2
theorem kN {g:Int->Int->Option V} {a b x:V} (e:(match a,b with | .int x,.int y=>g x y | _,_=>none)=some x):∃ i j,a=.int i /\ b=.int j:=by
 cases a with
 | int i =>
  cases b with
  | int j=>exact ⟨_,_,rfl,rfl⟩
  | _=>first | exact zB e | exact zF e | cases e
 | _=>first | exact zB e | exact zF e | cases e
theorem zKj {op:CmpOp} {o:P2} (ho:xi op=some o) (hn:op ≠ .Eq /\ op ≠ .NotEq /\ op ≠ .In /\ op ≠ .NotIn) {a b x:V} (e:ev2 o U a b=some x):∃ i j,a=.int i /\ b=.int j:=by
 cases op <;> cases ho
 ·exact absurd rfl hn.1
 ·exact absurd rfl hn.2.1
 all_goals first
  | exact absurd rfl hn.2.2.1
  | exact absurd rfl hn.2.2.2
  | exact kN e
theorem yf {a:V} {va:Value} {b:Bool} (L:Lk S X f U s.heap) (e:truthy U a=some b) (ra:VR S X f s.heap a va) :
  wpAny (model S.prog S.w) A (PySem.truthy va) (fun c s'=>c=b /\ Ext s s') E s:=by
 cases a with
 | none=>obtain rfl:=zEH ra; cases e; exact wpAny_pure ⟨rfl,.refl s⟩
 | bool c=>obtain rfl:=wB ra; cases e; exact wpAny_truthy_bool ⟨rfl,.refl s⟩
 | int i=>obtain ⟨t,rfl⟩:=yH ra; cases e; exact P.truthy_int ⟨rfl,.refl s⟩
 | str x =>
  obtain ⟨⟨t,rfl⟩,h1,h2⟩:=yy ra
  cases e
  refine P.truthy_str (by have:=xW h1; omega) ⟨?_,.toks s _⟩
  cases h:x.length <;> simp
  omega
 | tup xs =>
  obtain ⟨p,vs,n,rfl,q1,il,r1,l1⟩:=jO ra
  cases e
  have z:=zc r1
  refine PyProof.Rows.truthy_tuple ⟨_,il,rfl,n,rfl⟩ (by rw [z]; exact xW l1) ⟨?_,.toks s _⟩
  cases xs <;> simp_all [Array.isEmpty]
 | lst xs =>
  cases e
  obtain ⟨p,vs,n,rfl,il,r1,l1⟩:=zy L (x:=.lst xs) rfl ra
  have z:=zc r1
  refine wpAny_truthy_list (IsL.isList il) (by rw [z]; exact xW l1) ⟨?_,.toks s _⟩
  cases xs <;> simp_all [Array.isEmpty]
 | ref k =>
  cases ho:U[k]? with
  | none=>have e:(match U[k]? with | some (.list xs)=>some (!xs.isEmpty) | _=>none)=some _:=e; rw [ho] at e; exact zB e
  | some ob =>
  replace e:(match U[k]? with | some (.list xs)=>some (!xs.isEmpty) | _=>none)=some _:=e
  rw [ho] at e
  cases ob with
  | list ys =>
   cases e
   obtain ⟨p,vs,n,rfl,il,r1,l1⟩:=zy L (x:=.ref k) (xs:=ys) (by show wT U[k]?=some ys; rw [ho]; rfl) ra
   have z:=zc r1
   refine wpAny_truthy_list (IsL.isList il) (by rw [z]; exact xW l1) ⟨?_,.toks s _⟩
   cases ys <;> simp_all [Array.isEmpty]
  | _=>exact zB e
 | undef=>first | exact zB e | exact zF e | cases e
 | exc _=>first | exact zB e | exact zF e | cases e
 | parts=>first | exact zB e | exact zF e | cases e
theorem zNI {v:Value} {xs:List V} {a:Addr} {vs:Array Value} {n:Nat} (hv:v=.ref a) (il:IsL s.heap a vs n \/ IsT s.heap a vs n) (r:VRs S X f s.heap xs vs.toList) (l:xs.length <= LIM) :
  wpAny (model S.prog S.w) A (call (.builtin "len") [v]) (PE S X f s (.int xs.length)) E s:=by
 subst hv
 have z:=zc r
 rcases il with il | il
 ·have:=Calls.call_len_list (prog:=S.prog) (w:=S.w) (A:=A) (E:=E) (Q:=PE S X f s (.int xs.length)) (IsL.isList il) (by rw [z]; exact xW l) (by rw [z]; exact .int)
  exact this
 ·exact PyProof.Rows.len_tuple ⟨_,il,rfl,n,rfl⟩ (by rw [z]; exact xW l) (by rw [z]; exact .int)
theorem zIc {a x:V} {va:Value} (L:Lk S X f U s.heap) (e:ev1 .len U a=some x) (ra:VR S X f s.heap a va) :
  wpAny (model S.prog S.w) A (call (.builtin "len") [va]) (PE S X f s x) E s:=by
 have gen:∀ {xs:List V},xK U a=some xs->x=.int xs.length->wpAny (model S.prog S.w) A (call (.builtin "len") [va]) (PE S X f s x) E s:=by
  intro xs h1 h2
  obtain ⟨p,vs,n,h3,il,r1,l1⟩:=vJ L h1 ra
  rw [h2]; exact zNI h3 il r1 l1
 cases a with
 | str y =>
  obtain ⟨⟨t,rfl⟩,h1,h2⟩:=yy ra
  cases e
  exact PyProof.Rows.len_str (by have:=xW h1; omega) .int
 | tup xs=>cases e; exact gen rfl rfl
 | lst xs=>cases e; exact gen rfl rfl
 | ref k =>
  delta ev1 at e; dsimp only at e
  split at e
  ·rename_i ys ho
   cases e
   exact gen (xs:=ys) (by show (match U[k]? with | some (.list xs)=>some xs | _=>none)=some ys; rw [ho]) rfl
  ·first | exact zB e | exact zF e | cases e
 | _=>first | exact zB e | exact zF e | cases e
theorem vN {n:Nat} {i:Int} {k:Nat} (h:ze n i=some k):seqIndex? i n=some k /\ k < n /\ (0 <= i->k=i.toNat) /\ (i < 0->0 <= i+n /\ k=(i+n).toNat):=by
 unfold ze at h
 split at h
 ·rename_i h0
  split at h
  ·rename_i h1
   cases h
   exact ⟨seqIndex_of h0 (by omega),h1,fun _=>rfl,fun h=>absurd h (Int.not_lt.mpr h0)⟩
  ·first | exact zB h | exact zF h | cases h
 ·rename_i h0
  split at h
  ·rename_i h1
   cases h
   exact ⟨seqIndex_neg (by omega) (by omega),by omega,fun h=>absurd h h0,fun _=>⟨h1,rfl⟩⟩
  ·first | exact zB h | exact zF h | cases h
theorem zCp {n:Nat} {i:Int} (h:0 <= i+n):-(n:Int) <= i:=by
 have:=Int.sub_le_sub_right h (n:Int); rwa [Int.zero_sub,Int.add_sub_cancel] at this
theorem zCj {n k:Nat} {i:Int} (hl:(n:Int) < 2 ^ 63) (h2:k < n) (h3:0 <= i->k=i.toNat) (h4:i < 0->0 <= i+n /\ k=(i+n).toNat):-(2 ^ 63) <= i /\ i < 2 ^ 63:=by
 by_cases h:i < 0
 ·exact ⟨Int.le_trans (Int.neg_le_neg (Int.le_of_lt hl)) (zCp (h4 h).1),Int.lt_trans h (by decide)⟩
 ·have h:=Int.not_lt.mp h
  refine ⟨Int.le_trans (by decide) h,?_⟩
  rw [<- Int.toNat_of_nonneg h,<- h3 h]
  exact Int.lt_trans (Int.ofNat_lt.mpr h2) hl
theorem zEw {xs:List V} {a:Addr} {vs:Array Value} {n:Nat} {i:Int} {t:Tok} {k:Nat} {x:V} (il:IsL s.heap a vs n \/ IsT s.heap a vs n) (r:VRs S X f s.heap xs vs.toList) (l:xs.length <= LIM)
  (hk:ze xs.length i=some k) (hx:xs[k]?=some x) :
  wpAny (model S.prog S.w) A (getItem (.ref a) (.int i t)) (fun v s'=>s'=s /\ VR S X f s.heap x v) E s:=by
 have z:=zc r
 obtain ⟨v,hv,rv⟩:=wp r hx
 rw [Array.getElem?_toList] at hv
 obtain ⟨h1,h2,h3,h4⟩:=vN hk
 have hb:=zCj (xW l) h2 h3 h4
 rcases il with il | il
 ·by_cases h0:0 <= i
  ·rw [h3 h0] at hv
   exact wpAny_getItem_list (IsL.isList il) h0 hb.2 hv ⟨rfl,rv⟩
  ·obtain ⟨h5,h6⟩:=h4 (Int.not_le.mp h0)
   rw [h6] at hv
   exact wpAny_getItem_list_neg (IsL.isList il) (Int.not_le.mp h0) (by rw [z]; exact zCp h5) hb.1 (by rw [z]; exact hv) ⟨rfl,rv⟩
 ·exact PyProof.Rows.getItem_tuple ⟨_,il,rfl,n,rfl⟩ hb.1 hb.2 (by rw [z]; exact h1) hv ⟨rfl,rv⟩
end
end Mine
end

section
namespace Mine
open PySem PyProof.Rows
theorem zEc (n:Nat) (i:Int):((if i < 0 then (i+n).toNat else min i.toNat n:Nat):Int)=if i < 0 then max (i+n) 0 else min i n:=by
 split
 ·rw [Int.max_comm]; exact Int.toNat_eq_max (i+n) |>.trans (Int.max_comm _ _)
 ·rename_i h
  rw [Lean.Omega.Int.ofNat_min,Int.toNat_of_nonneg (Int.not_lt.mp h)]
theorem zGF {i n:Int} (h:i < 0):i+n <= n:=by have:=Int.add_le_add_right (Int.le_of_lt h) n; rwa [Int.zero_add] at this
theorem zG0 (n:Nat) (i:Int):(if i < 0 then (i+n).toNat else min i.toNat n)=(max 0 (min (if i < 0 then i+n else i) n)).toNat:=by
 split
 ·rename_i h
  rw [Int.min_eq_left (zGF h),Int.max_comm,<- Int.toNat_eq_max,Int.toNat_natCast]
 ·rename_i h
  have h:=Int.not_lt.mp h
  have e:(i:Int)=(i.toNat:Int):=(Int.toNat_of_nonneg h).symm
  rw [Int.max_eq_right (Int.le_min.mpr ⟨h,Int.natCast_nonneg n⟩)]
  generalize i.toNat=k at e
  subst e
  rw [<- Lean.Omega.Int.ofNat_min,Int.toNat_natCast]
theorem zFs (n:Nat) (lo:Option Int):za n lo=lo.elim 0 (clipAt n):=by
 cases lo with
 | none=>rfl
 | some i =>
  exact zG0 n i
theorem zIF (n:Nat) (hi:Option Int):yk n hi=hi.elim n (clipAt n):=by
 cases hi with
 | none=>rfl
 | some i =>
  exact zG0 n i
theorem zAt {α:Type} (xs:List α) (lo hi:Option Int):yJ xs lo hi=(xs.drop (za xs.length lo)).take (yk xs.length hi - za xs.length lo):=by
 unfold yJ; rw [List.drop_take]
theorem jN {α:Type} (xs:List α) (lo hi:Option Int):(yJ xs lo hi).length <= xs.length:=by
 delta yJ; rw [List.length_drop,List.length_take]; exact Nat.le_trans (Nat.sub_le _ _) (Nat.min_le_right _ _)
theorem zDi (lo hi:Option Int) (n:Nat):Builtin.Slice.sliceAdjust lo hi 1 (n:Int)=((za n lo:Int),(yk n hi:Int)):=by
 have h1:¬ ((1:Int) < 0):=by decide
 unfold Builtin.Slice.sliceAdjust
 simp only [h1,if_false]
 congr 1
 ·cases lo with
  | none=>rfl
  | some i=>exact (zEc n i).symm
 ·cases hi with
  | none=>rfl
  | some i=>exact (zEc n i).symm
theorem zD7 (a b:Nat):Builtin.Slice.slicePlaces (a:Int) (b:Int) 1=b - a:=by
 unfold Builtin.Slice.slicePlaces
 have h1:(1:Int) > 0:=by decide
 simp only [h1,if_true,Int.ediv_one]
 by_cases h:(a:Int) < (b:Int)
 ·rw [if_pos h,Int.sub_add_cancel,<- Int.ofNat_sub (Nat.le_of_lt (Int.ofNat_lt.mp h)),Int.toNat_natCast]
 ·rw [if_neg h]; exact (Nat.sub_eq_zero_of_le (Nat.le_of_not_lt fun q=>h (Int.ofNat_lt.mpr q))).symm
theorem zGM (xs:Array Value) (a k:Nat):((List.range k).filterMap fun (i:Nat)=>xs[((a:Int)+(i:Int) * 1).toNat]?).toArray=((xs.toList.drop a).take k).toArray:=by
 have e:(fun (i:Nat)=>xs[((a:Int)+(i:Int) * 1).toNat]?)=fun i=>xs[a+i]?:=by
  funext i
  have:((a:Int)+(i:Int) * 1).toNat=a+i:=by rw [Int.mul_one]; exact Int.toNat_natCast (a+i)
  rw [this]
 rw [e]
 have:=pick_run xs a k
 rw [List.filterMap_map] at this
 have e2:((fun x=>xs[x]?) ∘ fun x=>a+x)=fun k=>xs[a+k]?:=rfl
 rw [e2] at this
 rw [this]
section
variable {S:zR} {A:Around} {X:List Addr} {f:List Loc} {U:Sto} {s:Shared} {E:Value->Shared->Prop}
theorem jA {v:Value} {k:Option Int} {Q:Option Int->Shared->Prop} (hv:IsPart v k) (h:Q k s):wpAny (model S.prog S.w) A (Builtin.Slice.slicePartIndex v) Q E s:=by
 cases hv with
 | none=>exact slicePart_none h
 | int i t=>exact slicePart_int h
theorem jM {sl:Addr} {vl vu:Value} {lo hi:Option Int} {n:Nat} {Q:Int × Int × Nat->Shared->Prop} (hs:s.heap.IsSliceOf sl vl vu .none) (pl:IsPart vl lo) (pu:IsPart vu hi)
  (h:Q ((za n lo:Int),1,yk n hi - za n lo) s) :
  wpAny (model S.prog S.w) A (Builtin.Slice.sliceApplied (.ref sl) (pure (n:Int))) Q E s:=by
 obtain ⟨os,hos,hcs,hds⟩:=id hs
 unfold Builtin.Slice.sliceApplied Builtin.Slice.sliceFields
 refine wpAny_bind (wpAny_bind (wpAny_field hos hds (x:=vl) rfl (wpAny_bind (wpAny_field hos hds (x:=vu) rfl (wpAny_bind (wpAny_field hos hds (x:=.none) rfl (wpAny_pure ?_)))))))
 refine wpAny_bind (slicePart_none ?_)
 show wpAny _ _ (if ((1:Int)==0)=true then _ else _) _ _ s
 rw [if_neg (by decide)]
 refine wpAny_bind (jA pl (wpAny_bind (jA pu (wpAny_bind (wpAny_pure ?_)))))
 show wpAny _ _ (match Builtin.Slice.sliceAdjust lo hi 1 (n:Int) with | (lo,hi)=>pure (lo,(1:Int),Builtin.Slice.slicePlaces lo hi 1)) _ _ s
 rw [zDi]
 show wpAny _ _ (pure ((za n lo:Int),(1:Int),Builtin.Slice.slicePlaces (za n lo:Int) (yk n hi:Int) 1)) _ _ s
 rw [zD7]
 exact wpAny_pure h
theorem zAC {t sl:Addr} {xs:List V} {vs:Array Value} {n:Nat} {vl vu:Value} {lo hi:Option Int} (L:Lk S X f U s.heap) (q:t ∉ addrs f /\ t ∉ X) (il:IsT s.heap t vs n) (r:VRs S X f s.heap xs vs.toList) (l:xs.length <= LIM)
  (hs:s.heap.IsSliceOf sl vl vu .none) (pl:IsPart vl lo) (pu:IsPart vu hi) :
  wpAny (model S.prog S.w) A (getItem (.ref t) (.ref sl)) (PE S X f s (.tup (yJ xs lo hi))) E s:=by
 have ht:IsTup s.heap t vs:=⟨_,il,rfl,n,rfl⟩
 have z:=zc r
 obtain ⟨os,hos,hcs,hds⟩:=id hs
 have hTs:s.TypeIs (.ref sl) "slice":=⟨os,hos,hcs⟩
 unfold getItem
 try with_reducible refine wpAny_holding ?_
 first | refine wpAny_bind (wpAny_pure ?_) | skip
 refine wpAny_bind (wpAny_sequenceKey ht.typeIs (by decide) ?_)
 refine wpAny_bind (wpAny_callSpecial?_slot (name:=Str.ofString "__getitem__") ht.typeIs slot_tuple_getitem
  (wpAny_call_entry slot_tuple_getitem ht.typeIs entry_tuple_getitem ?_ (args_tuple_getitem _ _)))
 show wpAny _ _ (Builtin.Tuple.tupleItemsOf (.ref t) >>= _) _ _ s
 refine wpAny_bind (tupleItemsOf_ ht ?_)
 refine wpAny_bind (wpAny_typeOf hTs ?_)
 rw [if_pos (by decide)]
 refine wpAny_bind (jM hs pl pu ?_)
 show wpAny _ _ (if ((za vs.size lo:Int)==0&&(1:Int)==1&&(yk vs.size hi - za vs.size lo)==vs.size)=true then _ else _) _ _ s
 by_cases hw:((za vs.size lo:Int)==0&&(1:Int)==1&&(yk vs.size hi - za vs.size lo)==vs.size)=true
 ·rw [if_pos hw]
  simp only [Bool.and_eq_true,beq_iff_eq] at hw
  have hz:za vs.size lo=0:=Int.ofNat_inj.mp hw.1.1
  have he:yJ xs lo hi=xs:=by
   rw [zAt,<- z,hz,List.drop_zero,List.take_of_length_le]
   have:=hw.2; rw [hz] at this; rw [<- z]; exact Nat.le_of_eq this.symm
  rw [he]
  have fin:PE S X f s (.tup xs) (.ref t) s:=⟨.refl s,⟨t,vs,n,rfl,q,il,r,l⟩,fun _ q=>by cases q⟩
  unfold Builtin.Tuple.tupleIsExact
  refine wpAny_bind (wpAny_bind (wpAny_typeOf ht.typeIs (wpAny_pure ?_)))
  rw [if_pos (by decide)]
  exact wpAny_bind (wpAny_rule (wpAny_pure ⟨_,rfl,wpAny_pure fin⟩))
 ·rw [if_neg hw,zGM]
  have hd:((vs.toList.drop (za vs.size lo)).take (yk vs.size hi - za vs.size lo))=yJ vs.toList lo hi:=by rw [zAt]; simp
  rw [hd]
  have hdrop:sizeOk (.seq (yJ vs.toList lo hi).toArray):=by
   show (yJ vs.toList lo hi).toArray.size <= sizeLine
   rw [List.size_toArray]
   have:=jN vs.toList lo hi
   have h2:vs.toList.length=xs.length:=by simpa using z
   exact Nat.le_trans (h2 ▸ this) (Nat.le_trans l yW)
  have rr:VRs S X f s.heap (yJ xs lo hi) (yJ vs.toList lo hi):=by
   unfold yJ
   have h2:vs.toList.length=xs.length:=by simpa using z
   rw [h2]
   exact zBY (zBZ r _) _
  have h:=zAO (tk:=s.toks) L rr (Nat.le_trans (jN xs lo hi) l)
  first
   | exact wpAny_bind (m:=Builtin.Tuple.tupleExact _) (wpAny_newObj_type (wpAny_pure ⟨_,rfl,wpAny_pure h⟩) hdrop)
   | exact wpAny_bind (m:=Builtin.Tuple.tupleExact _) (wpAny_newObj_type (wpAny_bind (wpAny_pure (wpAny_pure ⟨_,rfl,wpAny_pure h⟩))) hdrop)
   | exact wpAny_bind (wpAny_bind (m:=Builtin.Tuple.tupleExact _) (wpAny_newObj_type (wpAny_pure (wpAny_pure ⟨_,rfl,wpAny_pure h⟩)) hdrop))
   | exact wpAny_bind (wpAny_bind (m:=Builtin.Tuple.tupleExact _) (wpAny_newObj_type (wpAny_pure ⟨_,rfl,wpAny_pure h⟩) hdrop))
theorem zAM {t sl:Addr} {xs:List V} {vs:Array Value} {n:Nat} {vl vu:Value} {lo hi:Option Int} (L:Lk S X f U s.heap) (il:IsL s.heap t vs n) (r:VRs S X f s.heap xs vs.toList) (l:xs.length <= LIM)
  (hs:s.heap.IsSliceOf sl vl vu .none) (pl:IsPart vl lo) (pu:IsPart vu hi) :
  wpAny (model S.prog S.w) A (getItem (.ref t) (.ref sl)) (PE S X f s (.lst (yJ xs lo hi))) E s:=by
 have z:=zc r
 refine wpAny_getItem_list_slice (IsL.isList il) hs pl pu .none (by simp) ?_ (by rw [z]; exact Nat.le_trans l yW)
 rw [slicePick_plain,<- zFs,<- zIF]
 have hd:((vs.toList.drop (za vs.size lo)).take (yk vs.size hi - za vs.size lo))=yJ vs.toList lo hi:=by rw [zAt]; simp
 rw [hd]
 have rr:VRs S X f s.heap (yJ xs lo hi) (yJ vs.toList lo hi):=by
  unfold yJ
  have h2:vs.toList.length=xs.length:=by simpa using z
  rw [h2]
  exact zBY (zBZ r _) _
 exact zAN (tk:=s.toks) L rr (Nat.le_trans (jN xs lo hi) l)
end
end Mine
end

section
namespace Mine
open PySem PyProof.Rows
section
variable {S:zR} {A:Around} {X:List Addr} {f:List Loc} {U:Sto} {s:Shared} {E:Value->Shared->Prop}
theorem zEz (ys:List (Int × Tok)):(ys.map fun p=>Value.int p.1 p.2).toArray=intItems ys.toArray:=by simp [intItems]
theorem zIU {a:V} {va:Value} {xs:List V} {l:List Int} (L:Lk S X f U s.heap) (h1:listOf? U a=some xs) (h2:ints? xs=some l) (ra:VR S X f s.heap a va) :
  ∃ (p:Addr) (ys:List (Int × Tok)),va=.ref p /\ s.heap.IsList p (intItems ys.toArray) /\ ys.map (·.1)=l:=by
 obtain ⟨p,vs,n,rfl,il,r,_⟩:=zy L h1 ra
 obtain ⟨ys,e1,e2⟩:=zHL h2 r
 refine ⟨p,ys,rfl,?_,e2⟩
 rw [<- zEz,<- e1]
 exact IsL.isList il
theorem zKE {a x:V} {va:Value} (hh:A.handled=none) (L:Lk S X f U s.heap) (e:ev1 .sum U a=some x) (ra:VR S X f s.heap a va) :
  wpAny (model S.prog S.w) A (call (.builtin "sum") [va]) (PE S X f s x) E s:=by
 delta ev1 at e; dsimp only at e
 cases h1:listOf? U a with
 | none=>first | (rw [h1] at e; exact zB e) | simp [h1] at e
 | some xs =>
  cases h2:ints? xs with
  | none=>first | (rw [h1,h2] at e; exact zB e) | (rw [h1,Option.bind_some,h2] at e; exact zB e) | simp [h1,h2] at e
  | some l =>
   simp [h1,h2] at e
   subst e
   obtain ⟨p,ys,rfl,il,rfl⟩:=zIU L h1 h2 ra
   refine sum_intListG hh il fun h' tk t' k=>?_
   rw [preSum_eq,List.take_of_length_le (by simp)]
   exact .intH k
theorem zEF {a x:V} {va:Value} (L:Lk S X f U s.heap) (e:ev1 .toList U a=some x) (ra:VR S X f s.heap a va) :
  wpAny (model S.prog S.w) A (call (.type "list") [va]) (PE S X f s x) E s:=by
 delta ev1 at e; dsimp only at e
 cases h1:xK U a with
 | none=>first | (rw [h1] at e; exact zB e) | simp [h1] at e
 | some xs =>
  simp [h1] at e
  subst e
  obtain ⟨p,vs,n,rfl,il,r,l⟩:=vJ L h1 ra
  have z:=zc r
  have fin:∀ (h':Heap) (c':Nat),(∀ b o',s.heap.get? b=some o'->h'.get? b=some o')->h'.get? s.heap.objs.size=some { cls:=.type "list",data:=.seq vs c' }->PE S X f s (.lst xs) (.ref s.heap.objs.size) { s with heap:=h' }:=by
   intro h' c' k hl
   have e:Ext s { s with heap:=h' }:=.heap (t:=s.toks) k
   have nl:NewL S X f s { s with heap:=h' } xs (.ref s.heap.objs.size):=⟨_,vs,c',rfl,yj _,hl,r,l⟩
   exact ⟨e,nl.vr L e,fun ys q=>by cases q; exact nl⟩
  rcases il with il | il
  ·exact call_list_seq p (T:="list") (.inl rfl) il rfl rfl fin (by rw [z]; exact Nat.le_trans l yW)
  ·exact call_list_seq p (T:="tuple") (.inr rfl) il rfl rfl fin (by rw [z]; exact Nat.le_trans l yW)
theorem zIj {i:Int} {t:Tok}:wpAny (model S.prog S.w) A (unaryOp .USub (.int i t)) (PE S X f s (.int (-i))) E s:=PyProof.Rows.neg_int .int
theorem zGD {i j:Int} {t u:Tok} (hh:A.handled=none):wpAny (model S.prog S.w) A (call (.builtin "min") [.int i t,.int j u]) (PE S X f s (.int (if j < i then j else i))) E s:=by
 refine min_two_ints hh fun h' tk k=>?_
 split <;> exact .intH k
theorem zGC {i j:Int} {t u:Tok} (hh:A.handled=none):wpAny (model S.prog S.w) A (call (.builtin "max") [.int i t,.int j u]) (PE S X f s (.int (if j > i then j else i))) E s:=by
 refine max_two_ints hh fun h' tk k=>?_
 split <;> exact .intH k
noncomputable def zFm (h:Heap) (v:Value) (p:PyData) (d:Nat):Prop:=(∃ as,Reads h v p as) /\ p.canLay0=true /\ p.depth <= d
noncomputable def zMb (h:Heap) (vs:List Value) (ps:List PyData) (d:Nat):Prop:=(∃ as,ReadsAll h vs ps as) /\ PyData.canLayAll0 ps=true /\ PyData.depthAll ps <= d
theorem zFX {h:Heap} {d:Nat} (ih:∀ (x:V) (v:Value) (p:PyData),xY U d x=some p->VR S X f h x v->zFm h v p d):∀ (xs:List V) (vs:List Value) (ps:List PyData),xs.mapM (xY U d)=some ps->VRs S X f h xs vs->zMb h vs ps d:=by
 intro xs
 induction xs with
 | nil =>
  intro vs ps e r
  cases vs with
  | nil=>cases e; exact ⟨⟨_,.nil⟩,rfl,Nat.zero_le _⟩
  | cons _ _=>exact False.elim r
 | cons x xs ih2 =>
  intro vs ps e r
  cases vs with
  | nil=>exact False.elim r
  | cons v vs =>
   rw [List.mapM_cons] at e
   replace e:=bind_some e
   obtain ⟨p,h1,e⟩:=e
   replace e:=bind_some e
   obtain ⟨ps',h2,e⟩:=e
   cases e
   obtain ⟨⟨as,a1⟩,a2,a3⟩:=ih x v p h1 r.1
   obtain ⟨⟨bs,b1⟩,b2,b3⟩:=ih2 vs ps' h2 r.2
   exact ⟨⟨_,.cons a1 b1⟩,by rw [PyData.canLayAll0,a2,b2]; rfl,by rw [PyData.depthAll]; exact Nat.max_le.mpr ⟨a3,b3⟩⟩
theorem zCF {h:Heap} (L:Lk S X f U h) (d:Nat):∀ (x:V) (v:Value) (p:PyData),xY U d x=some p->VR S X f h x v->zFm h v p d:=by
 induction d with
 | zero=>intro x v p e; cases e
 | succ d ih =>
  intro x v p e r
  have lists:∀ {xs:List V},listOf? U x=some xs->(xs.mapM (xY U d)).map PyData.list=some p->zFm h v p (d+1):=fun h1 e=>by
   obtain ⟨a,vs,n,rfl,il,rs,_⟩:=zy L h1 r
   replace e:=map_some e
   obtain ⟨ps,e1,rfl⟩:=e
   obtain ⟨⟨as,r1⟩,r2,r3⟩:=zFX ih _ _ _ e1 rs
   exact ⟨⟨_,.list il rfl rfl r1⟩,r2,by rw [PyData.depth]; omega⟩
  cases x with
  | none=>cases e; obtain rfl:=zEH r; exact ⟨⟨_,.none⟩,rfl,Nat.zero_le _⟩
  | bool b=>cases e; obtain rfl:=wB r; exact ⟨⟨_,.bool b⟩,rfl,Nat.zero_le _⟩
  | int i=>cases e; obtain ⟨t,rfl⟩:=yH r; exact ⟨⟨_,.int i t⟩,rfl,Nat.zero_le _⟩
  | str y=>cases e; obtain ⟨⟨t,rfl⟩,h1,h2⟩:=yy r; exact ⟨⟨_,.str y t⟩,h2,Nat.zero_le _⟩
  | tup xs =>
   obtain ⟨a,vs,n,rfl,_,il,rs,_⟩:=jO r
   replace e:(xs.mapM (xY U d)).map PyData.tuple=some p:=e
   replace e:=map_some e
   obtain ⟨ps,e1,rfl⟩:=e
   obtain ⟨⟨as,r1⟩,r2,r3⟩:=zFX ih _ _ _ e1 rs
   exact ⟨⟨_,.tuple il rfl rfl r1⟩,r2,by rw [PyData.depth]; omega⟩
  | lst xs=>exact lists rfl e
  | ref k =>
   replace e:zDZ (xY U d) U[k]?=some p:=e
   cases ho:U[k]? with
   | none=>rw [ho] at e; first | exact zB e | exact zF e | cases e
   | some o =>
    rw [ho] at e
    cases o with
    | list xs=>exact lists (show wT U[k]?=some xs by rw [ho]; rfl) e
    | _=>first | exact zB e | exact zF e | cases e
  | undef=>first | exact zB e | exact zF e | cases e
  | exc _=>first | exact zB e | exact zF e | cases e
  | parts=>first | exact zB e | exact zF e | cases e
theorem zCc {a b:V} {va vb:Value} {r:Bool} (hu:A.units+64 < cLine) (L:Lk S X f U s.heap) (e:eqV.eqD U a b=some r) (ra:VR S X f s.heap a va) (rb:VR S X f s.heap b vb) :
  wpAny (model S.prog S.w) A (compareOp .Eq va vb) (PE S X f s (.bool r)) E s /\ wpAny (model S.prog S.w) A (compareOp .NotEq va vb) (PE S X f s (.bool !r)) E s:=by
 unfold eqV.eqD at e
 cases h1:xY U xJ a with
 | none=>first | (rw [h1] at e; exact zB e) | simp [h1] at e
 | some p =>
  cases h2:xY U xJ b with
  | none=>first | (rw [h1,h2] at e; exact zB e) | (rw [h1,Option.bind_some,h2] at e; exact zB e) | simp [h1,h2] at e
  | some q =>
   simp [h1,h2] at e
   subst e
   obtain ⟨⟨as,a1⟩,a2,a3⟩:=zCF L _ _ _ _ h1 ra
   obtain ⟨⟨bs,b1⟩,b2,b3⟩:=zCF L _ _ _ _ h2 rb
   have sa:SeqAt.shaped p=true:=by unfold SeqAt.shaped; rw [a2,Bool.true_and]; exact decide_eq_true (Nat.le_trans a3 (by decide))
   have sb:SeqAt.shaped q=true:=by unfold SeqAt.shaped; rw [b2,Bool.true_and]; exact decide_eq_true (Nat.le_trans b3 (by decide))
   exact ⟨SeqAt.compareEq_shaped a1 b1 sa sb hu .bool0,SeqAt.compareNe_shaped a1 b1 sa sb hu .bool0⟩
end
end Mine
end

section
namespace Mine
open PySem PyProof.Rows
section
variable {S:zR} {A:Around} {X:List Addr} {f:List Loc} {U:Sto} {s:Shared} {E:Value->Shared->Prop}
theorem zBA (l:List Bool):(List.range l.length).all (fun i=>(l[i]?).getD true)=l.all id:=by
 rw [Bool.eq_iff_iff,List.all_eq_true,List.all_eq_true]
 constructor
 ·intro h x hx
  obtain ⟨i,hi,rfl⟩:=List.getElem_of_mem hx
  have:=h i (List.mem_range.mpr hi)
  rw [List.getElem?_eq_getElem hi] at this
  exact this
 ·intro h i hi
  rw [List.getElem?_eq_getElem (List.mem_range.mp hi)]
  exact h _ (List.getElem_mem _)
theorem zFY {a x:V} {va:Value} (L:Lk S X f U s.heap) (e:ev1 .toTup U a=some x) (ra:VR S X f s.heap a va) :
  wpAny (model S.prog S.w) A (call (.type "tuple") [va]) (PE S X f s x) E s:=by
 delta ev1 at e; dsimp only at e; simp only [Option.map_eq_some_iff] at e
 obtain ⟨xs,h1,rfl⟩:=e
 obtain ⟨p,vs,n,rfl,il,r,l⟩:=zy L h1 ra
 have z:=zc r
 refine call_tuple_list (IsL.isList il) (fun h' k=>?_) (by rw [z]; exact Nat.le_trans l yW)
 have e1:Ext s { s with heap:=h'.push { cls:=.type "tuple",data:=.seq vs } }:=.heap (t:=s.toks) fun b o q=>Heap.get?_push_of_some _ (k b o q)
 have hn:s.heap.get? h'.objs.size=none:=by
  cases q:s.heap.get? h'.objs.size with
  | none=>rfl
  | some o=>have:=yj h'; rw [k _ _ q] at this; cases this
 refine ⟨e1,?_,fun _ q=>by cases q⟩
 exact ⟨_,vs,0,rfl,L.new hn,Heap.get?_push_size _ rfl,e1.vrs r,l⟩
theorem zFW {a x:V} {va:Value} (e:ev1 .toInt U a=some x) (ra:VR S X f s.heap a va) :
  wpAny (model S.prog S.w) A (call (.type "int") [va]) (PE S X f s x) E s:=by
 cases a with
 | bool b=>obtain rfl:=wB ra; cases e; exact call_int_bool .int
 | int i=>obtain ⟨t,rfl⟩:=yH ra; cases e; exact call_int_int (.int (tk:=s.toks))
 | str y =>
  obtain ⟨⟨t,rfl⟩,_⟩:=yy ra
  replace e:(if y.length <= 640 then (intText? y).map V.int else none)=some x:=e
  split at e
  ·rename_i hl
   replace e:=map_some e
   obtain ⟨n,hn,rfl⟩:=e
   exact PySem.W.KIN.call_text hn hl .int
  ·first | exact zB e | exact zF e | cases e
 | _=>first | exact zB e | exact zF e | cases e
noncomputable def zMP:Kd->String
 | .int=>"int" | .bool=>"bool" | .str=>"str" | .list=>"list" | .tuple=>"tuple" | .exc _=>"ValueError"
theorem zm {x a:V} {t:Sem Value} (e:some a=some x) (h:wpAny (model S.prog S.w) A t (PE S X f s a) E s):wpAny (model S.prog S.w) A t (PE S X f s x) E s:=Option.some.inj e ▸ h
theorem zQB (c:Cls):c.sub .ValueError=true:=by cases c <;> rfl
theorem zD1 {a x:V} {va:Value} {k:Kd}
  (hk:∀ c,k=.exc c->c=.ValueError)
  (L:Lk S X f U s.heap) (e:ev1 (.isInst k) U a=some x) (ra:VR S X f s.heap a va) :
  wpAny (model S.prog S.w) A (call (.builtin "isinstance") [va,.type (zMP k)]) (PE S X f s x) E s:=by
 cases a with
 | undef=>first | exact zB e | exact zF e | cases e
 | parts=>first | exact zB e | exact zF e | cases e
 | exc c =>
  cases k with
  | exc d =>
   obtain rfl:=hk d rfl
   obtain ⟨p,o,rfl,-,e3,e4,e5⟩:=ra
   obtain ⟨Ca,bm,N,nm,qn,bs,hdct,sn,sub,ab,col,dd,k0,k1,k2,k3,k5,mN,hcl,hC,hN,hni,OT,hm,TC⟩:=e5
   obtain ⟨hp,g,d,tk,os⟩:=s
   refine zm e (zPc (L.base _ _ hC) (TC.keeps L.base) e3 (e4.trans hcl) ?_)
   rw [zQB]
   exact .bool0
  | _=>exact zB e
 | none =>
  obtain rfl:=zEH ra
  cases k <;> first | exact zB e | skip
  ·exact zm e (IsiPair.NoneType_int .bool)
  ·exact zm e (IsiPair.NoneType_bool .bool)
  ·exact zm e (IsiPair.NoneType_str .bool)
  ·exact zm e (IsiPair.NoneType_list .bool)
  ·exact zm e (IsiPair.NoneType_tuple .bool)
 | bool b =>
  obtain rfl:=wB ra
  cases k <;> first | exact zB e | skip
  ·exact zm e (IsiPair.bool_int .bool0)
  ·exact zm e (IsiPair.bool_bool .bool0)
  ·exact zm e (IsiPair.bool_str .bool)
  ·exact zm e (IsiPair.bool_list .bool)
  ·exact zm e (IsiPair.bool_tuple .bool)
 | int i =>
  obtain ⟨t,rfl⟩:=yH ra
  cases k <;> first | exact zB e | skip
  ·exact zm e (IsiPair.int_int .bool0)
  ·exact zm e (IsiPair.int_bool .bool)
  ·exact zm e (IsiPair.int_str .bool)
  ·exact zm e (IsiPair.int_list .bool)
  ·exact zm e (IsiPair.int_tuple .bool)
 | str y =>
  obtain ⟨⟨t,rfl⟩,_⟩:=yy ra
  cases k <;> first | exact zB e | skip
  ·exact zm e (IsiPair.str_int .bool)
  ·exact zm e (IsiPair.str_bool .bool)
  ·exact zm e (IsiPair.str_str .bool0)
  ·exact zm e (IsiPair.str_list .bool)
  ·exact zm e (IsiPair.str_tuple .bool)
 | tup xs =>
  obtain ⟨p,vs,n,rfl,_,il,_⟩:=jO ra
  cases k <;> first | exact zB e | skip
  ·exact zm e (IsiPair.tuple_int il rfl .bool)
  ·exact zm e (IsiPair.tuple_bool il rfl .bool)
  ·exact zm e (IsiPair.tuple_str il rfl .bool)
  ·exact zm e (IsiPair.tuple_list il rfl .bool)
  ·exact zm e (IsiPair.tuple_tuple il rfl .bool0)
 | lst xs =>
  obtain ⟨p,vs,n,rfl,il,_⟩:=zy L (x:=.lst xs) rfl ra
  cases k <;> first | exact zB e | skip
  ·exact zm e (IsiPair.list_int il rfl .bool)
  ·exact zm e (IsiPair.list_bool il rfl .bool)
  ·exact zm e (IsiPair.list_str il rfl .bool)
  ·exact zm e (IsiPair.list_list il rfl .bool0)
  ·exact zm e (IsiPair.list_tuple il rfl .bool)
 | ref m =>
  cases ho:U[m]? with
  | none=>have e:(zGS U[m]? k).map V.bool=some x:=e; rw [ho] at e; cases e
  | some o =>
   cases o with
   | list ys =>
    obtain ⟨p,vs,n,rfl,il,_⟩:=zy L (x:=.ref m) (xs:=ys) (by show wT U[m]?=some ys; rw [ho]; rfl) ra
    replace e:(zGS U[m]? k).map V.bool=some x:=e
    rw [ho] at e
    cases k <;> first | exact zB e | skip
    ·exact zm e (IsiPair.list_int il rfl .bool)
    ·exact zm e (IsiPair.list_str il rfl .bool)
    ·exact zm e (IsiPair.list_list il rfl .bool0)
    ·exact zm e (IsiPair.list_tuple il rfl .bool)
   | dict es=>have e:(zGS U[m]? k).map V.bool=some x:=e; rw [ho] at e; cases e
   | inst es=>have e:(zGS U[m]? k).map V.bool=some x:=e; rw [ho] at e; cases e
end
end Mine
end

section
namespace Mine
open PySem PyProof.Rows
section
variable {S:zR} {A:Around} {X:List Addr} {f:List Loc} {U:Sto} {s:Shared} {E:Value->Shared->Prop}
theorem zH3 {a x:V} {va:Value} (hh:Hn A s.heap) (L:Lk S X f U s.heap) (e:ev1 .all U a=some x) (ra:VR S X f s.heap a va) :
  wpAny (model S.prog S.w) A (call (.builtin "all") [va]) (PE S X f s x) E s:=by
 delta ev1 at e; dsimp only at e
 cases h1:listOf? U a with
 | none=>first | (rw [h1] at e; exact zB e) | simp [h1] at e
 | some xs =>
  cases h2:bools? xs with
  | none=>first | (rw [h1,h2] at e; exact zB e) | (rw [h1,Option.bind_some,h2] at e; exact zB e) | simp [h1,h2] at e
  | some l =>
   simp [h1,h2] at e
   subst e
   obtain ⟨p,vs,n,rfl,il,r,_⟩:=zy L h1 ra
   have hv:=zEV h2 r
   have hlist:=IsL.isList il
   have hlt:p < s.heap.objs.size:=Heap.lt_size il
   refine call_all_walk (wpAny_pyIter_list hlist ?_)
   obtain ⟨ea,z1,z2,z3⟩:=hh.one
   refine ⟨s.heap.objs.size,_,_,vs.size,_,_,fun i=>(l[i]?).getD true,rfl,zFf (A:=A.in1) s.heap.objs.size p (Nat.ne_of_lt hlt) vs ea z1 z2,
    ⟨⟨_,Heap.get?_push_size _ rfl,rfl,rfl⟩,hlist.push _,fun z=>let ⟨o,fs,w1,w2⟩:=z3 z; ⟨o,fs,Heap.get?_push_of_some _ w1,w2⟩⟩,?_,fun h' tk k=>?_⟩
   ·intro i v s₁ Q E' hP hQ
    rw [<- Array.getElem?_toList,hv,List.getElem?_map] at hP
    cases hl:l[i]? with
    | none=>rw [hl] at hP; first | exact zB hP | exact zF hP | cases hP
    | some b=>rw [hl] at hP; cases hP; exact wpAny_truthy_bool (by simpa [hl] using hQ)
   ·have hz:vs.size=l.length:=by rw [<- Array.length_toList,hv,List.length_map]
    rw [hz,zBA]
    exact .boolH (old_kept k)
theorem zDn (l:List Str) (x:Str) (ys:List (Str × Tok)) (h:ys.map (·.1)=l):(ys.map fun p=>Value.str p.1 p.2).any (fun y=>match y with | .str z _=>z.cps.toList==x.cps.toList | _=>false)=l.contains x:=by
 subst h
 induction ys with
 | nil=>rfl
 | cons p ps ih =>
  simp only [List.map_cons,List.any_cons,List.contains_cons,ih]
  congr 1
  rw [Bool.eq_iff_iff]
  constructor
  ·intro h
   have:p.1.cps.toList=x.cps.toList:=beq_iff_eq.mp h
   have:p.1=x:=by cases hp:p.1; cases hx:x; rw [hp,hx] at this; simp at this; rw [this]
   simp [this]
  ·intro h
   rw [beq_iff_eq.mp h]; simp
theorem zDy {y:Str} {u:Tok} {xs:List V} {l:List Str} {p:Addr} {vs:Array Value} {n:Nat} (il:IsL s.heap p vs n \/ IsT s.heap p vs n) (r:VRs S X f s.heap xs vs.toList) (h2:strs? xs=some l) :
  wpAny (model S.prog S.w) A (compareOp .In (.str y u) (.ref p)) (PE S X f s (.bool (l.contains y))) E s /\ wpAny (model S.prog S.w) A (compareOp .NotIn (.str y u) (.ref p)) (PE S X f s (.bool !(l.contains y))) E s:=by
 obtain ⟨ys,e1,e2,_⟩:=zHi h2 r
 have hany:vs.any (fun y'=>match y' with | .str z _=>z.cps.toList==y.cps.toList | _=>false)=l.contains y:=by
  rw [<- zDn l y ys e2,<- e1]
  exact (Array.any_toList ..).symm
 have he:∀ v,v ∈ vs->MeetsSeq.EqGives v (.str y u) (match v with | .str z _=>z.cps.toList==y.cps.toList | _=>false):=by
  intro v hv
  have:v ∈ vs.toList:=by simpa using hv
  rw [e1] at this
  obtain ⟨q,_,rfl⟩:=List.mem_map.mp this
  exact SeqRoads2.EqGives.str q.1 y q.2 u
 rcases il with il | il
 ·exact ⟨SeqRoads2.in_list _ he il (by rw [hany]; exact .bool0),SeqRoads2.notIn_list _ he il (by rw [hany]; exact .bool0)⟩
 ·exact ⟨SeqRoads2.in_tuple _ he il (by rw [hany]; exact .bool0),SeqRoads2.notIn_tuple _ he il (by rw [hany]; exact .bool0)⟩
theorem zDz {x y:Str} {c:Nat} {t u:Tok} (hc:yI x=[c]) :
  wpAny (model S.prog S.w) A (compareOp .In (.str x t) (.str y u)) (PE S X f s (.bool ((yI y).contains c))) E s /\ wpAny (model S.prog S.w) A (compareOp .NotIn (.str x t) (.str y u)) (PE S X f s (.bool !((yI y).contains c))) E s:=by
 have hx:x=⟨#[c]⟩:=by cases x with | mk a=>simp [yI] at hc; rw [show a=#[c] from Array.toList_inj.mp hc]
 subst hx
 have e:(!(Builtin.Str.occurrences y ⟨#[c]⟩ 0 y.length 1).isEmpty)=(yI y).contains c:=by
  rw [StrLaws.found_one]
  rw [Bool.eq_iff_iff]; simp [yI]
 exact ⟨PyProof.Rows.in_str (by rw [e]; exact .bool0),PyProof.Rows.notIn_str (by rw [e]; exact .bool0)⟩
noncomputable def wn (S:zR) (h:Heap):Prop:=S.hasParts=true->∃ d g,S.parts=.ref d /\ (d==sysModules)=false /\ h.MapOf (strKind S.prog S.w) d g /\ ∀ x,∃ t,g x=((partsTable.find? fun p=>p.1==x).map fun p=>Value.int p.2 t)
theorem zD6 (x:Str):((partsTable.find? fun p=>p.1==x).map fun p=>p.2).isSome=partsTable.any fun p=>p.1==x:=by
 rw [Option.isSome_map,Bool.eq_iff_iff,List.find?_isSome,List.any_eq_true]
theorem zBu {x:Str} {t:Tok} (hp:wn S s.heap) (hh:S.hasParts=true) :
  wpAny (model S.prog S.w) A (compareOp .In (.str x t) S.parts) (PE S X f s (.bool (partsTable.any fun p=>p.1==x))) E s /\ wpAny (model S.prog S.w) A (compareOp .NotIn (.str x t) S.parts) (PE S X f s (.bool !(partsTable.any fun p=>p.1==x))) E s:=by
 obtain ⟨d,g,e,hd,hm,hg⟩:=hp hh
 rw [e]
 obtain ⟨tk,hgx⟩:=hg x
 have hs:(g x).isSome=partsTable.any fun p=>p.1==x:=by rw [hgx,<- zD6 x,Option.isSome_map,Option.isSome_map]
 have hk:(strKind S.prog S.w).is x (.str x t)=true:=by show Value.isStrOf x (.str x t)=true; simp [Value.isStrOf]
 exact ⟨wpAny_in_of hk hd hm (by rw [hs]; exact .bool),wpAny_notIn_of hk hd hm (by rw [hs]; exact .bool)⟩
theorem zEx {a b:V} {va vb:Value} {r:Bool} (hp:wn S s.heap) (L:Lk S X f U s.heap) (e:inV U a b=some r) (ra:VR S X f s.heap a va) (rb:VR S X f s.heap b vb) :
  wpAny (model S.prog S.w) A (compareOp .In va vb) (PE S X f s (.bool r)) E s /\ wpAny (model S.prog S.w) A (compareOp .NotIn va vb) (PE S X f s (.bool !r)) E s:=by
 cases a with
 | str x =>
  obtain ⟨⟨t,rfl⟩,_⟩:=yy ra
  have gen:∀ {xs:List V},xK U b=some xs->((strs? xs).map fun l=>l.contains x)=some r ->
    wpAny (model S.prog S.w) A (compareOp .In (.str x t) vb) (PE S X f s (.bool r)) E s /\ wpAny (model S.prog S.w) A (compareOp .NotIn (.str x t) vb) (PE S X f s (.bool !r)) E s:=by
   intro xs h1 h2
   obtain ⟨p,vs,n,rfl,il,rs,_⟩:=vJ L h1 rb
   cases h3:strs? xs with
   | none=>first | (rw [h3] at h2; exact zB h2) | simp [h3] at h2
   | some l=>rw [h3,Option.map_some,Option.some.injEq] at h2; subst h2; exact zDy il rs h3
  cases b with
  | str y =>
   obtain ⟨⟨u,rfl⟩,_⟩:=yy rb
   delta inV at e; dsimp only at e
   split at e
   ·rename_i c hc; cases e; exact zDz hc
   ·first | exact zB e | exact zF e | cases e
  | parts=>obtain ⟨hh,rfl⟩:=rb; cases e; exact zBu hp hh
  | tup xs=>exact gen rfl e
  | lst xs=>exact gen rfl e
  | ref k =>
   delta inV at e; dsimp only at e
   cases h1:xK U (.ref k) with
   | none=>first | (rw [h1] at e; exact zB e) | simp [h1] at e
   | some xs=>simp only [h1,Option.bind_some] at e; exact gen h1 e
  | _=>first | exact zB e | exact zF e | cases e
 | _=>first | exact zB e | exact zF e | cases e
theorem zBC {y:Str} {i:Int} {t u:Tok} {k:Nat} {c:Nat} (hl:y.length <= LIM) (hok:PyData.strOk y=true) (h1:ze y.length i=some k) (h2:(yI y)[k]?=some c) :
  wpAny (model S.prog S.w) A (getItem (.str y t) (.int i u)) (PE S X f s (.str (mkS [c]))) E s:=by
 obtain ⟨g1,g2,g3,g4⟩:=vN h1
 have hll:=xW hl
 refine PyProof.Rows.getItem_str (c:=c) ?_ ?_ ?_
 ·obtain ⟨b1,b2⟩:=zCj hll g2 g3 g4
  rw [decide_eq_false (Int.not_lt.mpr b1),decide_eq_false (Int.not_le.mpr b2)]; rfl
 ·rw [g1]; simpa [yI] using h2
 ·have hc:c < 0x110000:=by
   have hm:c ∈ y.cps.toList:=List.mem_of_getElem? h2
   have:=Array.all_eq_true.mp hok
   obtain ⟨j,hj,rfl⟩:=List.getElem_of_mem hm
   have:=this j (by simpa using hj)
   simpa using this
  have:PyData.strOk (mkS [c])=true:=by simp [PyData.strOk,mkS,hc]
  exact PE.str (s:=s) (by simp [mkS,Str.length]; decide) this
theorem zEf {h:Heap} {i:Int} {x:V}:∀ {es:List (Int × V)} {kvs:List (Int × Value)},((es.find? fun p=>p.1==i).map fun p=>p.2)=some x->kvs.map (·.1)=es.map (·.1)->VRs S X f h (es.map (·.2)) (kvs.map (·.2))->∃ v,valueAt kvs i=some v /\ VR S X f h x v
 | [],_,e,_,_=>zB e
 | q :: qs,[],_,hk,_=>by cases hk
 | q :: qs,r :: rs,e,hk,hv=>by
  simp only [List.map_cons,List.cons.injEq] at hk
  rw [List.map_cons,List.map_cons] at hv
  rw [List.find?_cons] at e
  unfold valueAt
  rw [List.find?_cons,hk.1]
  by_cases hq:q.1=i
  ·rw [hq,beq_self_eq_true] at e
   rw [hq,decide_eq_true rfl]
   cases e
   exact ⟨_,rfl,hv.1⟩
  ·rw [beq_eq_false_iff_ne.mpr hq] at e
   rw [decide_eq_false hq]
   exact zEf e hk.2 hv.2
inductive zBW (U:Sto) (x:V):V->V->Prop
 | str (y:Str) (i:Int) (k c:Nat) (h4:ze y.length i=some k) (h5:(yI y)[k]?=some c) (ex:V.str (mkS [c])=x):zBW U x (.str y) (.int i)
 | seq (a:V) (xs:List V) (i:Int) (k:Nat) (h1:xK U a=some xs) (h4:ze xs.length i=some k) (h3:xs[k]?=some x):zBW U x a (.int i)
 | dict (n:Nat) (es:List (Int × V)) (i:Int) (ho:U[n]?=some (.dict es)) (h:((es.find? fun p=>p.1==i).map fun p=>p.2)=some x):zBW U x (.ref n) (.int i)
 | parts (y:Str) (h:((partsTable.find? fun p=>p.1==y).map fun p=>V.int p.2)=some x):zBW U x .parts (.str y)
theorem zLH {U:Sto} {a x:V} {xs:List V} {i:Int} (h1:xK U a=some xs) (h:((ze xs.length i).bind fun k=>xs[k]?)=some x):zBW U x a (.int i):=by
 replace h:=bind_some h
 obtain ⟨k,h4,h3⟩:=h
 exact .seq a xs i k h1 h4 h3
theorem zRX {U:Sto} {n:Nat} {x:V} {i:Int} (e:ev2 .index U (.ref n) (.int i)=some x):zBW U x (.ref n) (.int i):=by
 delta ev2 at e; dsimp only at e
 cases ho:U[n]? with
 | none=>rw [ho] at e; exact zB e
 | some ob =>
  rw [ho] at e
  cases ob with
  | list xs=>exact zLH (xs:=xs) (by delta xK; dsimp only; rw [ho]) e
  | dict es=>exact .dict n es i ho e
  | inst _=>first | exact zB e | exact zF e | cases e
theorem zOG {U:Sto} {a b x:V} (e:ev2 .index U a b=some x):zBW U x a b:=by
 cases b with
 | int i =>
  cases a with
  | str y =>
   obtain ⟨k,h4,e⟩:=bind_some (show ((ze y.length i).bind fun k=>(yI y)[k]?.map fun c=>V.str (mkS [c]))=some x from e)
   replace e:=map_some e
   obtain ⟨c,h5,ex⟩:=e
   exact .str y i k c h4 h5 ex
  | ref n=>exact zRX e
  | tup xs=>exact zLH rfl e
  | lst xs=>exact zLH rfl e
  | _=>first | exact zB e | exact zF e | cases e
 | str y =>
  cases a with
  | parts=>exact .parts y e
  | _=>first | exact zB e | exact zF e | cases e
 | _=>cases a <;> exact zB e
theorem zEy {a b x:V} {va vb:Value} (hp:wn S s.heap) (L:Lk S X f U s.heap) (e:ev2 .index U a b=some x) (ra:VR S X f s.heap a va) (rb:VR S X f s.heap b vb) :
  wpAny (model S.prog S.w) A (getItem va vb) (fun v s'=>Ext s s' /\ VR S X f s'.heap x v) E s:=by
 have q:=zOG e
 clear e
 cases q with
 | str y i k c h4 h5 ex =>
  obtain ⟨⟨t,rfl⟩,l1,l2⟩:=yy ra
  obtain ⟨u,rfl⟩:=yH rb
  subst ex
  exact wpAny_mono (zBC l1 l2 h4 h5) (fun v s' q=>⟨q.1,q.2.1⟩) fun _ _ q=>q
 | seq a xs i k h1 h4 h3 =>
  obtain ⟨u,rfl⟩:=yH rb
  obtain ⟨p,vs,n,rfl,il,rs,l⟩:=vJ L h1 ra
  exact wpAny_mono (zEw il rs l h4 h3) (fun v s' q=>by obtain ⟨rfl,q⟩:=q; exact ⟨.refl _,q⟩) fun _ _ q=>q
 | dict n es i ho h =>
  obtain ⟨u,rfl⟩:=yH rb
  obtain ⟨l,hl,rfl⟩:=ra
  have ob:=L.obj n l _ hl ho
  obtain ⟨p,d⟩:=l
  cases d with
  | some d=>exact ob.elim
  | none =>
   obtain ⟨kvs,hd,hk,hv,hlen⟩:=ob
   obtain ⟨v,h1,h2⟩:=zEf h hk hv
   exact wpAny_getItem_of (knd:=intKind S.prog S.w) (k:=i) (by show Value.isInt i (.int i u)=true; simp [Value.isInt]) hd.dictOf.mapOf h1 ⟨.toks s _,h2⟩
 | parts y h =>
  obtain ⟨hh,rfl⟩:=ra
  obtain ⟨⟨u,rfl⟩,_⟩:=yy rb
  obtain ⟨d,g,h1,hd,hm,hg⟩:=hp hh
  obtain ⟨tk,hgx⟩:=hg y
  replace h:=map_some h
  obtain ⟨q,h2,rfl⟩:=h
  rw [h2] at hgx
  rw [h1]
  exact wpAny_getItem_of (knd:=strKind S.prog S.w) (k:=y) (by show Value.isStrOf y (.str y u)=true; simp [Value.isStrOf]) hm hgx ⟨.toks s _,⟨tk,rfl⟩⟩
end
end Mine
end

section
namespace Mine
open PySem PyProof.Rows Builtin Builtin.Str
section
variable {S:zR} {A:Around} {X:List Addr} {f:List Loc} {U:Sto} {s:Shared} {E:Value->Shared->Prop}
theorem zFT {h:Heap}:∀ {xs:List V} {vs:List Value} {l:List Str},VRs S X f h xs vs->strs? xs=some l->StrsAre vs l
 | [],[],l,_,e=>by cases e; exact .nil
 | x :: xs,v :: vs,l,r,e=>by
  unfold strs? at e
  rw [List.mapM_cons] at e
  cases x with
  | str y =>
   cases e2:xs.mapM strOf? with
   | none=>rw [e2] at e; cases e
   | some l' =>
    rw [e2] at e
    cases e
    obtain ⟨⟨t,rfl⟩,_⟩:=yy r.1
    exact .cons y t (zFT r.2 e2)
  | _=>first | exact zB e | exact zF e | cases e
 | [],_ :: _,_,r,_=>False.elim r
 | _ :: _,[],_,r,_=>False.elim r
theorem zFS:PyData.strOk Str.empty=true:=by unfold PyData.strOk Str.empty; simp
theorem zCA {sep:Str} (hs:PyData.strOk sep=true):∀ {l:List Str},(∀ x ∈ l,PyData.strOk x=true)->PyData.strOk (Str.join sep l)=true
 | [],_=>zFS
 | [x],h=>h x List.mem_cons_self
 | x :: y :: r,h=>by
  show PyData.strOk (x++sep++Str.join sep (y :: r))=true
  exact wx (wx (h x List.mem_cons_self) hs) (zCA hs fun z hz=>h z (List.mem_cons_of_mem _ hz))
theorem zHj {h:Heap}:∀ {xs:List V} {vs:List Value} {l:List Str},VRs S X f h xs vs->strs? xs=some l->∀ x ∈ l,PyData.strOk x=true
 | [],[],l,_,e=>by cases e; intro x hx; cases hx
 | x :: xs,v :: vs,l,r,e=>by
  unfold strs? at e
  rw [List.mapM_cons] at e
  cases x with
  | str y =>
   cases e2:xs.mapM strOf? with
   | none=>rw [e2] at e; cases e
   | some l' =>
    rw [e2] at e
    cases e
    obtain ⟨_,_,hk⟩:=yy r.1
    intro z hz
    rcases List.mem_cons.mp hz with rfl | hz
    ·exact hk
    ·exact zHj r.2 e2 z hz
  | _=>first | exact zB e | exact zF e | cases e
 | [],_ :: _,_,r,_=>False.elim r
 | _ :: _,[],_,r,_=>False.elim r
theorem zF9 {a b x:V} {va vb:Value} (L:Lk S X f U s.heap) (e:ev2 .join U a b=some x) (ra:VR S X f s.heap a va) (rb:VR S X f s.heap b vb) :
  wpAny (model S.prog S.w) A (call (.builtin "str.join") [va,vb]) (PE S X f s x) E s:=by
 replace e:zLI U a b=some x:=e
 unfold zLI at e
 replace e:=bind_some e
 obtain ⟨sep,h1,e⟩:=e
 replace e:=bind_some e
 obtain ⟨xs,h2,e⟩:=e
 replace e:=bind_some e
 obtain ⟨l,h3,e⟩:=e
 split at e
 ·rename_i hl
  cases e
  cases a with
  | str y =>
   cases h1
   obtain ⟨⟨t,rfl⟩,_,hk⟩:=yy ra
   obtain ⟨p,vs,n,rfl,il,rs,_⟩:=zy L h2 rb
   refine join_list (IsL.isList il) (zFT rs h3) (by omega) fun t' k=>.str ?_ ?_
   ·show (glued sep l).length <= LIM
    rw [StrLaws.glued_eq_join]
    have:=StrLaws.join_length_le sep l
    simp only [LIM]; omega
   ·show PyData.strOk (glued sep l)=true
    rw [StrLaws.glued_eq_join]
    exact zCA hk (zHj rs h3)
  | _=>first | exact zB h1 | exact zF h1 | cases h1
 ·first | exact zB e | exact zF e | cases e
end
end Mine
end

section
namespace Mine
open PySem PyProof.Rows
section
variable {M:Model} {A:Around} {E:Value->Shared->Prop} {s:Shared} {env:Env}
theorem wU {x:Str} {mg:Str->Option Value} {v:Value} {Q:Value->Shared->Prop} (hk:env.scope.kind=.function) (hl:env.kindOf x=some .globalImplicit) (hg:s.heap.Ns env.globals mg) (hv:mg x=some v) (h:Q v s) :
  wpAny M A (loadName env x) Q E s:=by
 unfold loadName
 simp only [Env.blockKind,hk,hl,ScopeKind.isAnnotationScope,Bool.false_and,Bool.false_eq_true,if_false]
 unfold loadGlobal
 refine wpAny_bind (wpAny_nsGet hg ?_)
 rw [hv]
 exact wpAny_pure h
theorem jW {x:Str} {mg mb:Str->Option Value} {v:Value} {Q:Value->Shared->Prop} (hk:env.scope.kind=.function) (hl:env.kindOf x=some .globalImplicit) (hg:s.heap.Ns env.globals mg) (hn:mg x=none)
  (hb:s.heap.Ns env.builtins mb) (hv:mb x=some v) (h:Q v s):wpAny M A (loadName env x) Q E s:=by
 unfold loadName
 simp only [Env.blockKind,hk,hl,ScopeKind.isAnnotationScope,Bool.false_and,Bool.false_eq_true,if_false]
 unfold loadGlobal
 refine wpAny_bind (wpAny_nsGet hg ?_)
 rw [hn]
 refine wpAny_bind (wpAny_nsGet hb ?_)
 rw [hv]
 exact wpAny_pure h
noncomputable def zBV (s:Shared) (f:Value):Prop:=(∀ a,f ≠ .ref a) \/ ∃ a o fd,f=.ref a /\ s.heap.get? a=some o /\ o.data=.func fd
theorem zIa {f:Value} {Q:Keeper->Shared->Prop} (hc:zBV s f) (h:∀ k,(k=.machine \/ k=.frame)->Q k s):wpAny M A (keeperOf f) Q E s:=by
 unfold keeperOf
 rcases hc with hc | ⟨a,o,fd,rfl,ho,hd⟩
 ·cases f with
  | ref a=>exact absurd rfl (hc a)
  | _=>exact wpAny_pure (h _ (.inl rfl))
 ·refine wpAny_bind (wpAny_load ho ?_)
  rw [hd]
  exact wpAny_pure (h _ (.inr rfl))
theorem yG {e:Expr} {r:List Expr} (h:isStar e=false):starEach (e :: r) env=(false,eval e env) :: starEach r env:=by
 cases e <;> first | rfl | exact zF h.symm
theorem zh {pos:Pos} (args:List Expr) (h:args.any isStar=false):(backTo pos (starEach args env)).any (·.1)=false:=by
 induction args with
 | nil=>rfl
 | cons e r ih =>
  have h1:=Bool.or_eq_false_iff.mp ((List.any_cons).symm.trans h)
  rw [yG h1.1]
  exact ih h1.2
theorem vC {f:Value} {trees:List (Bool × Sem Value)} {Q:Args->Shared->Prop} (hn:trees.any (·.1)=false)
  (h:wpAny M A (spliced trees) (fun vs s'=>Q ⟨vs,[]⟩ s') E s):wpAny M A (evalArgs f true trees []) Q E s:=by
 cases trees with
 | nil=>exact fun Γ p hΓ=>(PyProof.Rows.evalArgs_none (show Q ⟨[],[]⟩ s from h Γ p hΓ)) Γ p hΓ
 | cons t r =>
  obtain ⟨b,x⟩:=t
  have hb:b=false:=by simp only [List.any_cons,Bool.or_eq_false_iff] at hn; exact hn.1
  subst hb
  exact Calls.evalArgs_plain h
theorem zw {pos:Pos} {f:Value} {first:List Value} {trees:List (Bool × Sem Value)} {Q:Value->Shared->Prop} (hn:trees.any (·.1)=false)
  (h:wpAny M A (spliced trees) (fun vs s₁=>zBV s₁ f /\ wpAny M A (call f (first++vs) []) Q E s₁) E s):wpAny M A (callWith pos f first trees []) Q E s:=by
 delta callWith
 refine wpAny_bind (wpAny_holding (vC hn (wpAny_mono h (fun vs s₁ h₁=>?_) fun _ _ q=>q)))
 refine wpAny_bind (wpAny_standAt ?_)
 have hb:(trees.any (·.1)||([]:List (Option Str × Sem Value)).any (·.1.isNone))=false:=by rw [hn]; rfl
 have fin:wpAny M A (call f (first++vs) []) (fun r s'=>wpAny M A (do holding [r] point; pure r) Q E s') E s₁:=wpAny_mono h₁.2 (fun r s' q=>wpAny_bind (wpAny_holding (wpAny_point (wpAny_pure q)))) fun _ _ q=>q
 refine wpAny_bind (zIa h₁.1 fun k hk=>?_)
 rw [hb]
 rcases hk with rfl | rfl
 ·exact wpAny_bind fin
 ·show wpAny M A (if trees.length+2 * 0 > 30 then (call f (first++vs) [] >>= fun r=>do holding [r] point; pure r) else (callMarked plainCall f (first++vs) [] >>= fun r=>do holding [r] point; pure r)) Q E s₁
  split
  ·exact wpAny_bind fin
  ·exact wpAny_bind (Calls.wpAny_keep fin)
theorem xb {o:Expr} {name:Str} (h:noSuper o=true):attributeBase o name env (eval o env)=eval o env:=by
 cases o with
 | Call fn args kws pos =>
  cases fn with
  | Name id p =>
   cases args with
   | nil =>
    cases kws with
    | nil=>first | exact zB h | exact zF h | cases h
    | cons _ _=>rfl
   | cons _ _=>rfl
  | _=>rfl
 | _=>rfl
end
end Mine
end

section
namespace Mine
open PySem PyProof.Rows
section
variable {S:zR} {X Y:List Addr} {f g:List Loc} {U:Sto} {s s':Shared}
theorem zLX {f:List Loc} (h:(addrs f).Nodup) {i j:Nat} {l l':Loc} (hi:f[i]?=some l) (hj:f[j]?=some l') (hne:i ≠ j):∀ a ∈ l.addrs,a ∉ l'.addrs:=by
 induction f generalizing i j with
 | nil=>simp at hi
 | cons x f ih =>
  have h1:(x.addrs++addrs f).Nodup:=by simpa [addrs] using h
  obtain ⟨_,h2,h3⟩:=List.nodup_append.mp h1
  cases i with
  | zero =>
   cases j with
   | zero=>exact absurd rfl hne
   | succ j =>
    simp at hi hj
    subst hi
    intro a ha hb
    exact h3 a ha a (yD hj hb) rfl
  | succ i =>
   cases j with
   | zero =>
    simp at hi hj
    subst hj
    intro a ha hb
    exact h3 a hb a (yD hi ha) rfl
   | succ j =>
    simp at hi hj
    exact ih h2 hi hj fun e=>hne (congrArg (· + 1) e)
theorem Lk.upd {n:Nat} {l:Loc} {o':O} {h':Heap} (L:Lk S X f U s.heap) (hn:f[n]?=some l) (hs:∀ b o,b ∉ l.addrs->s.heap.get? b=some o->h'.get? b=some o) (ho:OR S X f h' l o'):Lk S X f (U.set n o') h':=by
 have nb:∀ b o,b ∉ addrs f->s.heap.get? b=some o->h'.get? b=some o:=fun b o hb=>hs b o fun q=>hb (yD hn q)
 have kv:∀ x v,VR S X f s.heap x v->VR S X f h' x v:=VR.keep (fun _ _ e=>e) fun a o q h1 h2=>⟨⟨h1,h2⟩,o,nb a o h1 q,.refl o⟩
 have kvs:∀ x v,VRs S X f s.heap x v->VRs S X f h' x v:=VRs.keep (fun _ _ e=>e) fun a o q h1 h2=>⟨⟨h1,h2⟩,o,nb a o h1 q,.refl o⟩
 refine ⟨fun b o e=>?_,by rw [List.length_set]; exact L.len,L.nodup,L.fresh,fun a ha=>?_,fun i l' o hi hoo=>?_⟩
 ·exact nb b o (fun q=>by rw [L.fresh b q] at e; cases e) (L.base b o e)
 ·obtain ⟨h1,h2,o,h3⟩:=L.hid a ha
  exact ⟨h1,h2,o,nb a o h2 h3⟩
 ·by_cases hin:i=n
  ·subst hin
   rw [hn] at hi; cases hi
   have hlt:i < U.length:=L.len ▸ (List.getElem?_eq_some_iff.mp hn).1
   rw [List.getElem?_set_self hlt] at hoo
   cases hoo
   exact ho
  ·rw [List.getElem?_set_ne (fun q=>hin q.symm)] at hoo
   refine (L.obj i l' o hi hoo).keep kv kvs fun a ha=>?_
   obtain ⟨ob,e⟩:=(L.obj i l' o hi hoo).live a ha
   rw [e,hs a ob (fun q=>zLX L.nodup hi hn hin a ha q) e]
theorem Kp.upd {n:Nat} {l:Loc} {h':Heap} {t:Nat} (hn:f[n]?=some l) (hs:∀ b o,b ∉ l.addrs->s.heap.get? b=some o->h'.get? b=some o) (hl:∀ a ∈ l.addrs,∃ o,h'.get? a=some o):Kp f Y s { s with heap:=h',toks:=t }:=by
 have nb:∀ b o,b ∉ addrs f->s.heap.get? b=some o->h'.get? b=some o:=fun b o hb=>hs b o fun q=>hb (yD hn q)
 refine ⟨rfl,fun a o e=>?_,fun a o e h1 _=>⟨o,nb a o h1 e,.refl o⟩,fun a o es k e d h1=>⟨o,es,k,nb a o h1 e,d⟩⟩
 by_cases ha:a ∈ l.addrs
 ·exact hl a ha
 ·exact ⟨o,hs a o ha e⟩
theorem Lk.track {l:Loc} {o:O} {h:Heap} (L:Lk S (l.addrs++X) f U h) (hnd:l.addrs.Nodup) (hX:∀ a ∈ l.addrs,a ∉ X) (ho:OR S X (f++[l]) h l o):Lk S X (f++[l]) (U++[o]) h:=by
 have hdis:∀ a ∈ l.addrs,a ∉ addrs f:=fun a ha=>(L.hid a (List.mem_append_left _ ha)).2.1
 have hl:addrs [l]=l.addrs:=by simp [addrs]
 have kf:∀ (i:Nat) (l':Loc),f[i]?=some l'->(f++[l])[i]?=some l':=fun i l' e=>List.getElem?_append_left (List.getElem?_eq_some_iff.mp e).1 ▸ e
 have kh:∀ a ob,h.get? a=some ob->a ∉ addrs f->a ∉ l.addrs++X->(a ∉ addrs (f++[l]) /\ a ∉ X) /\ ∃ o',h.get? a=some o' /\ SameObj ob o':=fun a ob q h1 h2 =>
  ⟨⟨fun h3=>(mem_addrs_append.mp h3).elim h1 fun h4=>h2 (List.mem_append_left _ (hl ▸ h4)),fun h3=>h2 (List.mem_append_right _ h3)⟩,ob,q,.refl ob⟩
 refine ⟨L.base,by simp [L.len],?_,fun a ha=>?_,fun a ha=>?_,fun i l' o' hi ho'=>?_⟩
 ·rw [jP,hl]
  exact List.nodup_append.mpr ⟨L.nodup,hnd,fun a ha b hb e=>hdis b hb (e ▸ ha)⟩
 ·rcases mem_addrs_append.mp ha with ha | ha
  ·exact L.fresh a ha
  ·exact (L.hid a (List.mem_append_left _ (hl ▸ ha))).1
 ·obtain ⟨h1,h2,h3⟩:=L.hid a (List.mem_append_right _ ha)
  exact ⟨h1,fun q=>(mem_addrs_append.mp q).elim h2 fun q=>hX a (hl ▸ q) ha,h3⟩
 ·by_cases hlt:i < f.length
  ·rw [List.getElem?_append_left hlt] at hi
   rw [List.getElem?_append_left (L.len ▸ hlt)] at ho'
   exact (L.obj i l' o' hi ho').keep (VR.keep kf kh) (VRs.keep kf kh) fun _ _=>rfl
  ·have hi':i=f.length:=by
    have:=(List.getElem?_eq_some_iff.mp hi).1
    simp at this; omega
   subst hi'
   rw [List.getElem?_append_right (Nat.le_refl _)] at hi
   rw [L.len,List.getElem?_append_right (Nat.le_refl _)] at ho'
   simp at hi ho'
   subst hi ho'
   exact ho
theorem Lk.hideNew {a:Addr} (L:Lk S X f U s.heap) (e:Ext s s') (hn:s.heap.get? a=none) {o:Obj} (hl:s'.heap.get? a=some o):Lk S (a :: X) f U s'.heap:=by
 have hb:S.hb.get? a=none:=by
  cases q:S.hb.get? a with
  | none=>rfl
  | some o=>rw [L.base a o q] at hn; first | exact zB hn | exact zF hn | cases hn
 have kv:∀ x v,VR S X f s.heap x v->VR S (a :: X) f s'.heap x v:=VR.keep (fun _ _ e=>e) fun b ob q h1 h2 =>
  ⟨⟨h1,fun h=>(List.mem_cons.mp h).elim (fun h=>by subst h; rw [hn] at q; cases q) h2⟩,ob,e.keep b ob q,.refl ob⟩
 have kvs:∀ x v,VRs S X f s.heap x v->VRs S (a :: X) f s'.heap x v:=VRs.keep (fun _ _ e=>e) fun b ob q h1 h2 =>
  ⟨⟨h1,fun h=>(List.mem_cons.mp h).elim (fun h=>by subst h; rw [hn] at q; cases q) h2⟩,ob,e.keep b ob q,.refl ob⟩
 have L':=e.lk L
 refine ⟨L'.base,L'.len,L'.nodup,L'.fresh,fun b hb'=>?_,fun i l ob hi ho=>(L.obj i l ob hi ho).keep kv kvs fun b hb'=>?_⟩
 ·rcases List.mem_cons.mp hb' with rfl | hb'
  ·exact ⟨hb,(L.new hn).1,o,hl⟩
  ·exact L'.hid b hb'
 ·obtain ⟨ob',q⟩:=L.live (yD hi hb')
  rw [q]; exact e.keep b ob' q
theorem VRs.hideNew {a:Addr} (e:Ext s s') (hn:s.heap.get? a=none) {xs:List V} {vs:List Value} (r:VRs S X f s.heap xs vs):VRs S (a :: X) f s'.heap xs vs:=
 VRs.keep (fun _ _ e=>e) (fun b ob q h1 h2=>⟨⟨h1,fun h=>(List.mem_cons.mp h).elim (fun h=>by subst h; rw [hn] at q; cases q) h2⟩,ob,e.keep b ob q,.refl ob⟩) xs vs r
theorem Lk.less {X':List Addr} {h:Heap} (L:Lk S X f U h) (hX:∀ a ∈ X',a ∈ X):Lk S X' f U h:=
 ⟨L.base,L.len,L.nodup,L.fresh,fun a ha=>L.hid a (hX a ha),fun i l o hi ho=>(L.obj i l o hi ho).keep (fun _ _=>VR.less hX) (fun _ _=>VRs.less hX) fun _ _=>rfl⟩
theorem Lk.enter {X N:List Addr} {f:List Loc} {U:Sto} {s s₁:Shared} (L:Lk S X f U s.heap) (hk:∀ b o,s.heap.get? b=some o->s₁.heap.get? b=some o)
  (hN:∀ a ∈ N,s.heap.get? a=none /\ ∃ o,s₁.heap.get? a=some o):Lk S (N++X) f U s₁.heap:=by
 have kv:∀ x v,VR S X f s.heap x v->VR S (N++X) f s₁.heap x v:=fun x v e =>
  VR.keep (fun _ _ e=>e) (fun a o ho h1 h2=>⟨⟨h1,fun h=>(List.mem_append.mp h).elim (fun h=>by rw [(hN a h).1] at ho; cases ho) h2⟩,o,hk a o ho,.refl o⟩) x v e
 have kvs:∀ x v,VRs S X f s.heap x v->VRs S (N++X) f s₁.heap x v:=fun x v e =>
  VRs.keep (fun _ _ e=>e) (fun a o ho h1 h2=>⟨⟨h1,fun h=>(List.mem_append.mp h).elim (fun h=>by rw [(hN a h).1] at ho; cases ho) h2⟩,o,hk a o ho,.refl o⟩) x v e
 refine ⟨fun b o h=>hk b o (L.base b o h),L.len,L.nodup,L.fresh,fun a ha=>?_,fun i l o hi ho=>(L.obj i l o hi ho).keep kv kvs fun a ha=>?_⟩
 ·rcases List.mem_append.mp ha with h | h
  ·refine ⟨?_,fun hf=>?_,(hN a h).2⟩
   ·cases e:S.hb.get? a with
    | none=>rfl
    | some o=>have:=L.base a o e; rw [(hN a h).1] at this; cases this
   ·obtain ⟨o,e⟩:=L.live hf; rw [(hN a h).1] at e; cases e
  ·obtain ⟨h1,h2,o,h3⟩:=L.hid a h
   exact ⟨h1,h2,o,hk a o h3⟩
 ·obtain ⟨o',e⟩:=(L.obj i l o hi ho).live a ha
  rw [e,hk a o' e]
theorem ExcR.less {X':List Addr} {h h₀:Heap} {ea:Addr} {k:Cls} (e:ExcR S X f U h h₀ ea k) (hX:∀ a ∈ X',a ∈ X):ExcR S X' f U h h₀ ea k:=by
 obtain ⟨e1,ec,hs,oe,vs,L,e4,e5,e6,e7,e8⟩:=e
 exact ⟨e1,ec,hs,oe,vs,L.less fun a ha=>(List.mem_append.mp ha).elim (fun h=>List.mem_append_left _ h) fun h=>List.mem_append_right _ (hX a h),e4,e5,e6,e7,e8⟩
inductive zR3 (S:zR) (X:List Addr) (f:List Loc) (U:Sto) (s s':Shared) (xs:List V) (v:Value):Prop where
 | mk (a:Addr) (vs:Array Value) (n:Nat) (e:v=.ref a) (hn:s.heap.get? a=none) (hX:a ∉ X) (L:Lk S (a :: X) f U s'.heap) (il:IsL s'.heap a vs n) (rs:VRs S (a :: X) f s'.heap xs vs.toList) (hl:xs.length <= LIM)
inductive QN (S:zR) (X Y:List Addr) (f:List Loc) (s:Shared) (r:R V) (v:Value) (s':Shared):Prop where
 | mk (x:V) (U':Sto) (g:List Loc) (e:r=.ok x U') (hg:Fresh g s) (k:Kp f Y s s') (L:Lk S X (f++g) U' s'.heap) (p:VR S X (f++g) s'.heap x v) (hl:∀ xs,x=.lst xs->zR3 S X (f++g) U' s s' xs v)
theorem QN.qs {r:R V} {v:Value} (q:QN S X Y f s r v s'):QS S X Y f (PV S X) s r v s':=by
 obtain ⟨x,U',g,e,hg,k,L,p,_⟩:=q
 exact ⟨x,U',g,e,hg,k,L,p⟩
theorem QN.trk {r:R V} {v:Value} (hne:(r.bind fun v U=>zEh U v) ≠ .stuck) (q:QN S X Y f s r v s'):QS S X Y f (PV S X) s (r.bind fun v U=>zEh U v) v s':=by
 obtain ⟨x,U',g,rfl,hg,k,L,p,hl⟩:=q
 cases x with
 | lst xs =>
  obtain ⟨a,vs,n,rfl,hn,hX,L',il,r,hlen⟩:=hl xs rfl
  refine ⟨.ref U'.length,U'++[.list xs],g++[(a,none)],rfl,?_,k,?_,?_⟩
  ·intro b hb
   rcases mem_addrs_append.mp hb with hb | hb
   ·exact hg b hb
   ·have:b=a:=by simpa [addrs,Loc.addrs] using hb
    rw [this]; exact hn
  ·rw [<- List.append_assoc]
   refine Lk.track (l:=(a,none)) (X:=X) L' (by simp [Loc.addrs]) (fun b hb=>by rw [show b=a by simpa [Loc.addrs] using hb]; exact hX) ⟨vs,n,il,?_,hlen⟩
   refine VRs.keep (fun i l' e=>List.getElem?_append_left (List.getElem?_eq_some_iff.mp e).1 ▸ e) (fun b ob q h1 h2=>⟨⟨fun h3=>?_,fun h3=>h2 (List.mem_cons_of_mem _ h3)⟩,ob,q,.refl ob⟩) xs vs.toList r
   rcases mem_addrs_append.mp h3 with h3 | h3
   ·exact h1 h3
   ·have:b=a:=by simpa [addrs,Loc.addrs] using h3
    exact h2 (this ▸ List.mem_cons_self)
  ·show VR S X (f++(g++[(a,none)])) s'.heap (.ref U'.length) (.ref a)
   refine ⟨(a,none),?_,rfl⟩
   rw [<- List.append_assoc,<- L.len,List.getElem?_append_right (Nat.le_refl _)]
   simp
 | _=>exact absurd rfl hne
theorem PE.qn {s₁:Shared} {x:V} {v:Value} (hg:Fresh g s) (k:Kp f Y s s₁) (L:Lk S X (f++g) U s₁.heap) (p:PE S X (f++g) s₁ x v s'):QN S X Y f s (.ok x U) v s':=by
 obtain ⟨e,r,hl⟩:=p
 refine ⟨x,U,g,rfl,hg,k.trans hg (e.kp _ _),e.lk L,r,fun xs hx=>?_⟩
 obtain ⟨a,vs,n,e1,e2,e3,e4,e5⟩:=hl xs hx
 refine ⟨a,vs,n,e1,zu k.live e2,(L.new e2).2,L.hideNew e e2 e3,e3,?_,e5⟩
 exact VRs.hideNew e e2 e4
end
end Mine
end

section
namespace Mine
open PySem PyProof.Rows
noncomputable def yP (k:Option NameKind):Prop:=k=some .cell \/ k=some .free
noncomputable def NameIs (env:Env) (h:Heap) (x:Str) (w:Value):Prop:=
 (env.kindOf x=some .local /\ ∃ m,h.Ns env.locals m /\ m x=some w) \/ (yP (env.kindOf x) /\ ∃ c,env.cells.lookup x=some c /\ h.IsCell c (some w))
structure FR (S:zR) (X:List Addr) (f:List Loc) (h:Heap) (env:Env) (Γ:List Str) (sc:Scope) (J:List V):Prop where
 kind:env.scope.kind=.function
 glob:env.globals=mainGlobals
 blt:env.builtins=builtinsNs
 names:∀ x,env.kindOf x=sc.names.lookup x \/ (sc.names.lookup x=some .free /\ env.kindOf x=some .cell)
 loc:env.locals ∈ X /\ ∃ m,h.Ns env.locals m
 cells:∀ x,yP (env.kindOf x)->∃ c o,env.cells.lookup x=some c /\ c ∈ X /\ h.IsCell c o
 vals:∀ x i v,zA1 sc x=true->zx x Γ=some i->J[i]?=some v->v ≠ .undef->∃ w,NameIs env h x w /\ VR S X f h v w
 len:J.length=Γ.length
noncomputable def FrL (S:zR) (f:List Loc) (h:Heap) (l:List Env):Prop:=
 ∀ e ∈ l,e.scope.kind ≠ .module /\ ∃ L o es n,e.frame=some L /\ S.hb.get? L=none /\ L ∉ addrs f /\ h.get? L=some o /\ o.data=.dict es n
noncomputable def HnX (A:Around) (X:List Addr) (f:List Loc) (h:Heap):Prop:=∀ v,A.handled=some v->∃ a o fs,v=.ref a /\ a ∉ X /\ a ∉ addrs f /\ h.get? a=some o /\ o.data=.fields fs /\ fs[2]?=some .none
theorem HnX.here {A:Around} {X:List Addr} {f:List Loc} {h:Heap} (n:HnX A X f h):Hn A h:=fun v hv=>by
 obtain ⟨a,o,fs,e,_,_,r⟩:=n v hv
 exact ⟨a,o,fs,e,r⟩
theorem HnX.keep {A:Around} {X Y:List Addr} {f g:List Loc} {s s':Shared} (n:HnX A X f s.heap) (k:Kp f Y s s') (hg:Fresh g s) (hY:∀ a ∈ Y,a ∈ X):HnX A X (f++g) s'.heap:=fun v hv=>by
 obtain ⟨a,o,fs,e,h1,h2,h3,h4,h5⟩:=n v hv
 obtain ⟨o',q1,q2⟩:=k.kept a o h3 h2 fun h=>h1 (hY a h)
 exact ⟨a,o',fs,e,h1,fun h=>(mem_addrs_append.mp h).elim h2 (zz hg h3),q1,q2.data.trans h4,h5⟩
theorem HnX.more {A:Around} {X X':List Addr} {f:List Loc} {h:Heap} (n:HnX A X f h) (hX:∀ a ∈ X',a ∈ X \/ h.get? a=none):HnX A X' f h:=fun v hv=>by
 obtain ⟨a,o,fs,e,h1,h2,h3,r⟩:=n v hv
 exact ⟨a,o,fs,e,fun m=>(hX a m).elim h1 fun q=>(by rw [h3] at q; cases q),h2,h3,r⟩
structure Cx (S:zR) (A:Around) (q:Bool) (d:Nat) (f:List Loc) (h:Heap) (fr:Option Addr):Prop where
 depth:A.depth+2 * d+3 <= 900
 units:A.units+5 * d+202 <= 9900
 hand:q=false->A.handled=none
 frs:∃ e0 l,A.frames=some (e0 :: l) /\ e0.frame=fr /\ FrL S f h (e0 :: l)
structure CxC (S:zR) (A:Around) (q:Bool) (d:Nat) (X:List Addr) (f:List Loc) (h:Heap):Prop where
 depth:A.depth+2 * d+2 <= 900
 units:A.units+5 * d+200 <= 9900
 hand:q=false->A.handled=none
 frs:∃ l,A.frames=some l /\ FrL S f h l
 hn:HnX A X f h
section
variable {S:zR} {A:Around} {X Y:List Addr} {f g:List Loc} {s s':Shared} {env:Env} {Γ:List Str} {sc:Scope} {J:List V} {q:Bool} {d:Nat} {fr:Option Addr}
theorem zE3 {a:Addr} {m:Str->Option Value} (k:Kp f Y s s') (hf:a ∉ addrs f) (hY:a ∉ Y) (h:s.heap.Ns a m):s'.heap.Ns a m:=by
 obtain ⟨o,es,ep,ho,hd,r⟩:=h
 obtain ⟨o',ho',e⟩:=k.kept a o ho hf hY
 exact ⟨o',es,ep,ho',e.data.trans hd,r⟩
theorem zD3 {a:Addr} {m:Option Value} (k:Kp f Y s s') (hf:a ∉ addrs f) (hY:a ∉ Y) (h:s.heap.IsCell a m):s'.heap.IsCell a m:=by
 obtain ⟨o,ho,hd⟩:=h
 obtain ⟨o',ho',e⟩:=k.kept a o ho hf hY
 exact ⟨o',ho',e.data.trans hd⟩
theorem NameIs.keep {x:Str} {w:Value} (k:Kp f Y s s') (hl:env.locals ∉ addrs f /\ env.locals ∉ Y) (hc:∀ x c,env.cells.lookup x=some c->yP (env.kindOf x)->c ∉ addrs f /\ c ∉ Y) (h:NameIs env s.heap x w):NameIs env s'.heap x w:=by
 rcases h with ⟨h1,m,h2,h3⟩ | ⟨h1,c,h2,h3⟩
 ·exact .inl ⟨h1,m,zE3 k hl.1 hl.2 h2,h3⟩
 ·exact .inr ⟨h1,c,h2,zD3 k (hc x c h2 h1).1 (hc x c h2 h1).2 h3⟩
theorem FR.keep {U:Sto} (F:FR S X f s.heap env Γ sc J) (L:Lk S X f U s.heap) (k:Kp f [] s s') (hg:Fresh g s):FR S X (f++g) s'.heap env Γ sc J:=by
 have hl:env.locals ∉ addrs f:=(L.hid _ F.loc.1).2.1
 have hc:∀ x c,env.cells.lookup x=some c->yP (env.kindOf x)->c ∉ addrs f:=fun x c e hk=>by
  obtain ⟨c',o,e',hX,_⟩:=F.cells x hk
  rw [e] at e'; cases e'
  exact (L.hid c hX).2.1
 refine ⟨F.kind,F.glob,F.blt,F.names,⟨F.loc.1,let ⟨m,h⟩:=F.loc.2; ⟨m,zE3 k hl (by simp) h⟩⟩,fun x hx=>?_,fun x i v h1 h2 h3 h4=>?_,F.len⟩
 ·obtain ⟨c,o,e,hX,h⟩:=F.cells x hx
  exact ⟨c,o,e,hX,zD3 k (hc x c e hx) (by simp) h⟩
 ·obtain ⟨w,h5,h6⟩:=F.vals x i v h1 h2 h3 h4
  exact ⟨w,h5.keep k ⟨hl,by simp⟩ fun x c e hk=>⟨hc x c e hk,by simp⟩,h6.keepK k hg fun a ha=>nomatch ha⟩
theorem FrL.keep {l:List Env} (F:FrL S f s.heap l) (k:Kp f Y s s') (hg:Fresh g s):FrL S (f++g) s'.heap l:=fun e he=>by
 obtain ⟨h1,L,o,es,n,h2,h3,h4,h5,h6⟩:=F e he
 obtain ⟨o',es',n',h7,h8⟩:=k.dicts L o es n h5 h6 h4
 exact ⟨h1,L,o',es',n',h2,h3,fun h=>(mem_addrs_append.mp h).elim h4 (zz hg h5),h7,h8⟩
theorem Cx.keep (c:Cx S A q d f s.heap fr) (k:Kp f Y s s') (hg:Fresh g s):Cx S A q d (f++g) s'.heap fr:=
 ⟨c.depth,c.units,c.hand,let ⟨e0,l,h1,h2,h3⟩:=c.frs; ⟨e0,l,h1,h2,h3.keep k hg⟩⟩
end
inductive zDg (S:zR) (C:Ctx):Prop where
 | mk (N:Addr) (mN:Str->Option Value) (nm q:Str) (bs:List Value) (sn:List Str) (sub:List Value) (col:Option Bool) (dd:Option Addr) (k0 k1 k2 k3 k5:Option Value)
   (hC:S.hb.get? S.book=some (excClassObj nm q S.book N bs [.type "object"] true sn sub false col dd k0 k1 k2 k3 k5 "object.__new__")) (hN:S.hb.Ns N mN)
   (hq:mN "__getattribute__"=none /\ mN "__getattr__"=none /\ mN "__setattr__"=none /\ mN (zL 0)=none /\ mN (zL 1)=none) (hini:mN "__init__"=some (.ref (S.fn 0))) (h0:∃ o,S.hb.get? (S.fn 0)=some o /\ o.cls=.type "function")
   (hms:∀ m k,C.meths.lookup m=some k->mN m=some (.ref (S.fn k)) /\ ∃ o,S.hb.get? (S.fn k)=some o /\ o.cls=.type "function")
inductive GF (S:zR) (C:Ctx):Prop where
 | mk (mg mb:Str->Option Value) (g1:S.hb.Ns mainGlobals mg) (g2:S.hb.Ns builtinsNs mb)
   (g3:∀ x v,C.consts.lookup x=some v->∃ w,mg x=some w /\ VR S [] [] S.hb v w)
   (g4:∀ x k,C.fns.lookup x=some k->mg x=some (.ref (S.fn k)))
   (g5:∀ x:Str,(x ∈ b1Names.map (·.1) \/ x ∈ b2Names.map (·.1) \/ x ∈ kindNames.map (·.1) \/ x=("isinstance" : Str) \/ x=("range" : Str))->C.fns.lookup x=none->mg x=none /\ mb x=bootBuiltins x)
   (g6:C.book=true->mg "Book"=some (.ref S.book))
   (g7:∀ x c,C.excs.lookup x=some c->(mg x=some (S.cl c)) \/ (mg x=none /\ mb x=some (S.cl c)))
structure zZ (S:zR) (C:Ctx) (T:Nat->Option Fn):Prop where
 g:GF S C
 nolimit:S.hb.NoLimit
 book:(C.book=false /\ C.meths=[] /\ C.attrs=[]) \/ (C.attrs=attrNames /\ zDg S C)
 exc:∀ x c,C.excs.lookup x=some c->c ∈ S.kn /\ (x ≠ ("ValueError" : Str)->kj S c)
 parts:wn S S.hb
 pnn:S.parts ≠ .none
 fnObj:∀ k fn,T k=some fn->∃ o fd,S.hb.get? (S.fn k)=some o /\ o.data=.func fd
section
variable (S:zR) (C:Ctx) (F:Calls) (q:Bool) (d:Nat)
noncomputable def FS:Prop:=∀ (k:Nat) (vs:List V) (U:Sto) (f:List Loc) (X:List Addr) (A:Around) (s:Shared) (vals:List Value),CxC S A q d X f s.heap->Lk S X f U s.heap->VRs S X f s.heap vs vals ->
 F k vs U ≠ .stuck->(∃ o fd,S.hb.get? (S.fn k)=some o /\ o.data=.func fd) /\
  codeAny (model S.prog S.w) A (.call (.ref (S.fn k)) ⟨vals,[]⟩) (fun r s'=>match r with | .ok (.ret v)=>QS S X [] f (PV S X) s (F k vs U) v s' | .ok _=>False | .error e=>ES S X [] f false s (F k vs U) e s') s
structure St (Γ:List Str) (sc:Scope) (env:Env) (J:List V) (f:List Loc) (X:List Addr) (U:Sto) (s:Shared) (A:Around):Prop where
 cx:Cx S A q d f s.heap env.frame
 fr:FR S X f s.heap env Γ sc J
 lk:Lk S X f U s.heap
 hn:HnX A X f s.heap
noncomputable def EOk (Γ:List Str) (sc:Scope) (e:Expr) (c:CE):Prop:=∀ (env:Env) (J:List V) (f:List Loc) (X:List Addr) (U:Sto) (s:Shared) (A:Around),St S q d Γ sc env J f X U s A ->
 Sim S A X [] f (PV S X) (eval e env) (evE F q c J U) s
noncomputable def NOk (Γ:List Str) (sc:Scope) (e:Expr) (c:CE):Prop:=∀ (env:Env) (J:List V) (f:List Loc) (X:List Addr) (U:Sto) (s:Shared) (A:Around),St S q d Γ sc env J f X U s A ->
 evE F q c J U ≠ .stuck->wpAny (model S.prog S.w) A (eval e env) (QN S X [] f s (evE F q c J U)) (ES S X [] f false s (evE F q c J U)) s
noncomputable def LOk (Γ:List Str) (sc:Scope) (es:List Expr) (cs:List CE):Prop:=es.any isStar=false /\ ∀ (env:Env) (pos:Pos) (J:List V) (f:List Loc) (X:List Addr) (U:Sto) (s:Shared) (A:Around),St S q d Γ sc env J f X U s A ->
 Sim S A X [] f (fun vs xs f s=>VRs S X f s.heap xs vs) (spliced (backTo pos (starEach es env))) (evL F q cs J U) s
noncomputable def TOk (Γ:List Str) (sc:Scope) (e:Expr) (c:CE):Prop:=∀ (env:Env) (J:List V) (f:List Loc) (X:List Addr) (U:Sto) (s:Shared) (A:Around),St S q d Γ sc env J f X U s A ->
 Sim S A X [] f (fun b t _ _=>b=t) (isTrue e env (eval e env)) ((evE F q c J U).bind fun v U=>R.lift U (truthy U v)) s
end
theorem FR.isGlob {S:zR} {X:List Addr} {f:List Loc} {h:Heap} {env:Env} {Γ:List Str} {sc:Scope} {J:List V} (fr:FR S X f h env Γ sc J) {x:Str} (hg:isGlob sc x=true):env.kindOf x=some .globalImplicit:=by
 have h:sc.names.lookup x=some .globalImplicit:=by simpa [Mine.isGlob] using hg
 rcases fr.names x with e | ⟨e,_⟩
 ·exact e.trans h
 ·rw [h] at e; first | exact zB e | exact zF e | cases e
section
variable {S:zR} {C:Ctx} {F:Calls} {q:Bool} {d:Nat} {Γ:List Str} {sc:Scope}
theorem St.keep {env:Env} {J:List V} {f g:List Loc} {X:List Addr} {U U':Sto} {s s':Shared} {A:Around} (st:St S q d Γ sc env J f X U s A) (hg:Fresh g s) (k:Kp f [] s s') (L:Lk S X (f++g) U' s'.heap):St S q d Γ sc env J (f++g) X U' s' A:=
 ⟨st.cx.keep k hg,st.fr.keep st.lk k hg,L,st.hn.keep k hg fun _ h=>nomatch h⟩
theorem St.call {env:Env} {J:List V} {f:List Loc} {X:List Addr} {U:Sto} {s:Shared} {A:Around} (st:St S q d Γ sc env J f X U s A):CxC S A q d X f s.heap:=
 ⟨Nat.le_of_succ_le st.cx.depth,Nat.le_trans (Nat.add_le_add_left (by decide) _) st.cx.units,st.cx.hand,let ⟨e0,l,h1,_,h3⟩:=st.cx.frs; ⟨e0 :: l,h1,h3⟩,st.hn⟩
theorem NOk.eok {e:Expr} {c:CE} (h:NOk S F q d Γ sc e c):EOk S F q d Γ sc e c:=fun env J f X U s A st hne=>wpAny_mono (h env J f X U s A st hne) (fun _ _ x=>x.qs) fun _ _ x=>x
theorem NOk.trk {e:Expr} {c:CE} (h:NOk S F q d Γ sc e c):EOk S F q d Γ sc e (.trk c):=fun env J f X U s A st hne=>by
 have hr:evE F q c J U ≠ .stuck:=fun e=>hne (by rw [kO,e]; rfl)
 rw [kO] at hne ⊢
 refine wpAny_mono (h env J f X U s A st hr) (fun _ _ x=>x.trk hne) fun e s' x=>?_
 obtain ⟨k,U',g,ea,e1,e2,hgE,kE,LE,xE⟩:=x
 exact ⟨k,U',g,ea,e1,by rw [e2]; rfl,hgE,kE,LE,xE⟩
theorem kM {e:Expr} {c:CE} {p:Pos} (h:NOk S F q d Γ sc e c):EOk S F q d Γ sc e (vE C p c):=by
 unfold vE; split
 ·exact h.trk
 ·exact h.eok
noncomputable def zCR {γ δ:Type} (Y:List Addr) (K:List Loc->Shared->R δ->γ->Shared->Prop):Prop:=∀ f g s s₁ r c s',Fresh g s->Kp f Y s s₁->K (f++g) s₁ r c s'->K f s r c s'
theorem QS.lifts {α β:Type} {X Y:List Addr} {P:α->β->List Loc->Shared->Prop}:zCR Y (fun f s r a s'=>QS S X Y f P s r a s'):=fun f g s s₁ r c s' hg k q=>by
 obtain ⟨b',U'',g',e,hg',k',L,p⟩:=q
 rw [List.append_assoc] at L p
 exact ⟨b',U'',g++g',e,hg.trans k.live hg',k.trans hg k',L,p⟩
theorem ES.lifts {β:Type} {X Y:List Addr} {tr:Bool}:zCR (δ:=β) Y (fun f s r a s'=>ES S X Y f tr s r a s'):=fun f g s s₁ r c s' hg k q=>by
 obtain ⟨c,U'',g',ea,e1,e2,hg',k',L,x⟩:=q
 rw [List.append_assoc] at L x
 exact ⟨c,U'',g++g',ea,e1,e2,hg.trans k.live hg',k.trans hg k',L,x.back fun a h=>zu k.live h⟩
theorem QN.lifts {X Y:List Addr}:zCR Y (fun f s r a s'=>QN S X Y f s r a s'):=fun f g s s₁ r c s' hg k q=>by
 obtain ⟨x,U',g',e,hg',k',L,p,hl⟩:=q
 rw [List.append_assoc] at L p
 refine ⟨x,U',g++g',e,hg.trans k.live hg',k.trans hg k',L,p,fun xs hx=>?_⟩
 obtain ⟨a,vs,n,e1,e2,e3,e4,e5,e6,e7⟩:=hl xs hx
 rw [List.append_assoc] at e4 e6
 exact ⟨a,vs,n,e1,zu k.live e2,e3,e4,e5,e6,e7⟩
theorem Sim.go {α β γ δ:Type} {A:Around} {X Y:List Addr} {f:List Loc} {P:α->β->List Loc->Shared->Prop} {K:List Loc->Shared->R δ->γ->Shared->Prop} (hK:zCR Y K)
  {t:Sem α} {r:R β} {rk:β->Sto->R δ} {s:Shared} {W:α->Shared->Prop} {Q':γ->Shared->Prop} {E':Value->Shared->Prop} (h:Sim S A X Y f P t r s) (hne:r.bind rk ≠ .stuck)
  (hQ:∀ c s'',K f s (r.bind rk) c s''->Q' c s'') (hE:∀ e s'',ES S X Y f false s (r.bind rk) e s''->E' e s'')
  (hk:∀ a b U' g s',rk b U' ≠ .stuck->Fresh g s->Kp f Y s s'->Lk S X (f++g) U' s'.heap->P a b (f++g) s'->(∀ c s'',K (f++g) s' (rk b U') c s''->Q' c s'') ->
   (∀ e s'',ES S X Y (f++g) false s' (rk b U') e s''->E' e s'')->W a s'):wpAny (model S.prog S.w) A t W E' s:=by
 have hr:r ≠ .stuck:=fun e=>hne (by rw [e]; rfl)
 refine wpAny_mono (h hr) (fun a s' q=>?_) fun e s' q=>hE e s' ?_
 ·obtain ⟨b,U',g,rfl,hg,k,L,p⟩:=q
  exact hk a b U' g s' hne hg k L p (fun c s'' q=>hQ c s'' (hK f g s s' _ c s'' hg k q)) fun e s'' q=>hE e s'' (ES.lifts f g s s' _ e s'' hg k q)
 ·obtain ⟨c,U',g,ea,e1,rfl,hg,k,L,x⟩:=q
  exact ⟨c,U',g,ea,e1,rfl,hg,k,L,x⟩
theorem R.bind_assoc {α β γ:Type} (r:R α) (f:α->Sto->R β) (g:β->Sto->R γ):(r.bind f).bind g=r.bind fun a U=>(f a U).bind g:=by cases r <;> rfl
theorem PE.here {X Y:List Addr} {f:List Loc} {U:Sto} {s s':Shared} {x:V} {v:Value} (L:Lk S X f U s.heap) (p:PE S X f s x v s'):QN S X Y f s (.ok x U) v s':=by
 have:=PE.qn (f:=f) (g:=[]) (Y:=Y) (.nil s) (.refl f Y s) (by rwa [List.append_nil]) (by rw [List.append_nil]; exact p)
 exact this
theorem Sim.goN {α β:Type} {A:Around} {X Y:List Addr} {f:List Loc} {P:α->β->List Loc->Shared->Prop}
  {t:Sem α} {r:R β} {rk:β->Sto->R V} {s:Shared} {W:α->Shared->Prop} {Q':Value->Shared->Prop} {E':Value->Shared->Prop} (h:Sim S A X Y f P t r s) (hne:r.bind rk ≠ .stuck)
  (hQ:∀ c s'',QN S X Y f s (r.bind rk) c s''->Q' c s'') (hE:∀ e s'',ES S X Y f false s (r.bind rk) e s''->E' e s'')
  (hk:∀ a b U' g s',rk b U' ≠ .stuck->Fresh g s->Kp f Y s s'->Lk S X (f++g) U' s'.heap->P a b (f++g) s'->(∀ c s'',QN S X Y (f++g) s' (rk b U') c s''->Q' c s'') ->
   (∀ e s'',ES S X Y (f++g) false s' (rk b U') e s''->E' e s'')->W a s'):wpAny (model S.prog S.w) A t W E' s:=
 Sim.go (K:=fun f s r a s'=>QN S X Y f s r a s') QN.lifts h hne hQ hE hk
theorem Sim.goQ {α β γ δ:Type} {A:Around} {X Y:List Addr} {f:List Loc} {P:α->β->List Loc->Shared->Prop} {P':γ->δ->List Loc->Shared->Prop}
  {t:Sem α} {r:R β} {rk:β->Sto->R δ} {s:Shared} {W:α->Shared->Prop} {Q':γ->Shared->Prop} {E':Value->Shared->Prop} (h:Sim S A X Y f P t r s) (hne:r.bind rk ≠ .stuck)
  (hQ:∀ c s'',QS S X Y f P' s (r.bind rk) c s''->Q' c s'') (hE:∀ e s'',ES S X Y f false s (r.bind rk) e s''->E' e s'')
  (hk:∀ a b U' g s',rk b U' ≠ .stuck->Fresh g s->Kp f Y s s'->Lk S X (f++g) U' s'.heap->P a b (f++g) s'->(∀ c s'',QS S X Y (f++g) P' s' (rk b U') c s''->Q' c s'') ->
   (∀ e s'',ES S X Y (f++g) false s' (rk b U') e s''->E' e s'')->W a s'):wpAny (model S.prog S.w) A t W E' s:=
 Sim.go (K:=fun f s r a s'=>QS S X Y f P' s r a s') QS.lifts h hne hQ hE hk
end
end Mine
end

section
namespace Mine
open PySem PyProof.Rows
section
variable {S:zR} {C:Ctx} {T:Nat->Option Fn} {F Fq:Calls} {q:Bool} {d:Nat} {Γ:List Str} {sc:Scope}
variable {X X' Y Z:List Addr} {f g:List Loc} {U:Sto} {s s':Shared} {A:Around} {E:Value->Shared->Prop} {env:Env} {J:List V}
theorem zMv {n:Nat} {ax:Addr} {es:List (Int × V)} (L:Lk S X f U s.heap) (hf:f[n]?=some (ax,none)) (ho:U[n]?=some (.dict es)) :
  ∃ kvs,Even (intKind S.prog S.w) s.heap ax kvs /\ kvs.map (·.1)=es.map (·.1) /\ VRs S X f s.heap (es.map (·.2)) (kvs.map (·.2)) /\ es.length <= LIM /\ (ax==sysModules)=false:=L.obj n _ _ hf ho
theorem zFc {n:Nat} {ax:Addr} {es':List (Int × V)} {kvs':List (Int × Value)} {h':Heap} {t:Nat} (L:Lk S X f U s.heap) (hf:f[n]?=some (ax,none)) (hs:Heap.SameBut ax s.heap h') (hd:Even (intKind S.prog S.w) h' ax kvs')
  (e1:kvs'.map (·.1)=es'.map (·.1)) (rs:VRs S X f s.heap (es'.map (·.2)) (kvs'.map (·.2))) (hl:es'.length <= LIM) (hy:(ax==sysModules)=false) :
  Lk S X f (U.set n (.dict es')) h' /\ ∀ Y,Kp f Y s { s with heap:=h',toks:=t }:=by
 have hs':∀ b o,b ∉ Loc.addrs (ax,none)->s.heap.get? b=some o->h'.get? b=some o:=fun b o hb e=>(hs.2 b fun q=>hb (by rw [q]; exact List.mem_singleton.mpr rfl)).trans e
 have hax:ax ∈ addrs f:=yD hf (List.mem_singleton.mpr rfl)
 refine ⟨L.upd hf hs' ⟨kvs',hd,e1,?_,hl,hy⟩,fun Y=>Kp.upd hf hs' fun a ha=>?_⟩
 ·exact VRs.keep (fun _ _ e=>e) (fun b ob q h1 h2=>⟨⟨h1,h2⟩,ob,hs' b ob (fun z=>h1 (by rw [List.mem_singleton.mp z]; exact hax)) q,.refl ob⟩) _ _ rs
 ·rw [List.mem_singleton.mp ha]; exact hd.live
theorem zDX {k:Int} {v:V} {vv:Value} {h:Heap} (rv:VR S X f h v vv):∀ {es:List (Int × V)} {kvs:List (Int × Value)},kvs.map (·.1)=es.map (·.1)->VRs S X f h (es.map (·.2)) (kvs.map (·.2)) ->
  ((kvs.any fun kv=>decide (kv.1=k))=es.any fun p=>p.1==k) /\ ((kvs.map fun kv=>if kv.1=k then (kv.1,vv) else kv).map (·.1)=(es.map fun p=>if p.1==k then (k,v) else p).map (·.1)) /\
   VRs S X f h ((es.map fun p=>if p.1==k then (k,v) else p).map (·.2)) ((kvs.map fun kv=>if kv.1=k then (kv.1,vv) else kv).map (·.2))
 | [],[],_,_=>⟨rfl,rfl,by rw [List.map_nil,List.map_nil,List.map_nil,List.map_nil]; exact True.intro⟩
 | [],_ :: _,e,_=>by cases e
 | _ :: _,[],e,_=>by cases e
 | (i,x) :: es,(j,w) :: kvs,e,r=>by
  have e0:j :: kvs.map (·.1)=i :: es.map (·.1):=e
  obtain ⟨rfl,e1⟩:=List.cons.inj e0
  have r0:VRs S X f h (x :: es.map (·.2)) (w :: kvs.map (·.2)):=r
  obtain ⟨h1,h2,h3⟩:=zDX (k:=k) rv e1 r0.2
  by_cases hk:j=k
  ·have c1:(if (j,w).1=k then ((j,w).1,vv) else (j,w))=(j,vv):=if_pos hk
   have c2:(if ((j,x).1==k)=true then (k,v) else (j,x))=(k,v):=if_pos (by simp [hk])
   refine ⟨by simp [hk],?_,?_⟩
   ·show (if (j,w).1=k then ((j,w).1,vv) else (j,w)).1 :: _=(if ((j,x).1==k)=true then (k,v) else (j,x)).1 :: _
    rw [c1,c2,h2,hk]
   ·show VRs S X f h ((if ((j,x).1==k)=true then (k,v) else (j,x)).2 :: _) ((if (j,w).1=k then ((j,w).1,vv) else (j,w)).2 :: _)
    rw [c1,c2]
    exact ⟨rv,h3⟩
  ·have c1:(if (j,w).1=k then ((j,w).1,vv) else (j,w))=(j,w):=if_neg hk
   have c2:(if ((j,x).1==k)=true then (k,v) else (j,x))=(j,x):=if_neg (by simp [hk])
   refine ⟨by simp [hk,h1],?_,?_⟩
   ·show (if (j,w).1=k then ((j,w).1,vv) else (j,w)).1 :: _=(if ((j,x).1==k)=true then (k,v) else (j,x)).1 :: _
    rw [c1,c2,h2]
   ·show VRs S X f h ((if ((j,x).1==k)=true then (k,v) else (j,x)).2 :: _) ((if (j,w).1=k then ((j,w).1,vv) else (j,w)).2 :: _)
    rw [c1,c2]
    exact ⟨r0.1,h3⟩
theorem zFM {n:Nat} {ki:Int} {vo vi vv:Value} {v':V} {es:List (Int × V)} {Q:Unit->Shared->Prop} (L:Lk S X f U s.heap) (ro:VR S X f s.heap (.ref n) vo) (ri:VR S X f s.heap (.int ki) vi) (hU:U[n]?=some (.dict es)) (hl:es.length < LIM) (rv:VR S X f s.heap v' vv)
  (h:∀ h' tk,Lk S X f (U.set n (.dict (xz es ki v'))) h'->(∀ Y,Kp f Y s { s with heap:=h',toks:=tk })->Q () { s with heap:=h',toks:=tk }):wpAny (model S.prog S.w) A (setItem vo vi vv) Q E s:=by
 obtain ⟨⟨ax,dd⟩,hf,rfl⟩:=ro
 have hob:=L.obj n _ _ hf hU
 cases dd with
 | some _=>exact hob.elim
 | none =>
 obtain ⟨kvs,hd,e1,rs,_,hy⟩:=hob
 obtain ⟨t,rfl⟩:=yH ri
 have hlen:kvs.length=es.length:=by have:=congrArg List.length e1; simpa using this
 have hsz:kvs.length <= sizeLine:=by rw [hlen]; exact Nat.le_trans (Nat.le_of_lt hl) yW
 obtain ⟨p1,p2,p3⟩:=zDX (k:=ki) rv e1 rs
 refine zEB (knd:=intKind S.prog S.w) (k:=ki) (by show Value.isInt ki (.int ki t)=true; simp [Value.isInt]) hd (fun h' hd' hs=>?_) hsz
 have key:(stored kvs ki vv).map (·.1)=(xz es ki v').map (·.1) /\ VRs S X f s.heap ((xz es ki v').map (·.2)) ((stored kvs ki vv).map (·.2)) /\ (xz es ki v').length <= LIM:=by
  unfold stored xz
  rw [p1]
  split
  ·exact ⟨p2,p3,by rw [List.length_map]; exact Nat.le_of_lt hl⟩
  ·refine ⟨by rw [List.map_append,List.map_append,e1]; rfl,?_,by rw [List.length_append]; exact hl⟩
   rw [List.map_append,List.map_append]
   exact xa rs ⟨rv,trivial⟩
 obtain ⟨L3,k3⟩:=zFc (t:=s.toks+1) L hf hs hd' key.1 key.2.1 key.2.2 hy
 exact h h' _ L3 k3
end
end Mine
end

section
namespace Mine
open PySem PyProof.Rows
noncomputable def xx (h:Heap):List Addr->Heap
 | []=>h
 | a :: l=>(xx h l).hide a
theorem jJ {h:Heap} {a:Addr}:∀ {l:List Addr},a ∈ l->(xx h l).get? a=none
 | b :: l,m=>by
  unfold xx
  by_cases e:a=b
  ·rw [e]; exact Heap.hide_self _ _
  ·rw [Heap.hide_ne _ e]; exact jJ ((List.mem_cons.mp m).resolve_left e)
theorem wR {h:Heap} {a:Addr}:∀ {l:List Addr},a ∉ l->(xx h l).get? a=h.get? a
 | [],_=>rfl
 | b :: l,m=>by
  unfold xx
  have hne:a ≠ b:=fun e=>m (by rw [e]; exact List.mem_cons_self)
  rw [Heap.hide_ne _ hne]
  exact wR fun q=>m (List.mem_cons_of_mem _ q)
theorem zCP (h:Heap) (l:List Addr):(xx h l).StaysIn h:=fun b o e=>by
 by_cases m:b ∈ l
 ·rw [jJ m] at e; first | exact zB e | exact zF e | cases e
 ·rwa [wR m] at e
section
variable {M:Model} {A:Around} {E:Value->Shared->Prop} {s:Shared} {env:Env} {outer:List Env} {base:Heap} {L e:Addr} {Q:Unit->Shared->Prop}
inductive zBE (base:Heap) (e:Addr) (cls:Value) (h h':Heap):Prop where
 | mk (stays:base.StaysIn h') (oe:Obj) (vs:Array Value) (T:Addr) (oT:Obj) (ts:Array Value) (p1:h'.get? e=some oe) (p2:oe.cls=cls) (p3:oe.data=.fields vs) (p3':vs[2]?=some .none) (p4:vs[1]?=some (.ref T)) (p5:base.get? T=none) (p6:T ≠ e)
   (p7:h'.get? T=some oT) (p8:oT.data=.fields ts) (p9:3 < ts.size) (same:∀ b o,h.get? b=some o->(∀ vs,o.data ≠ .fields vs)->∃ sl,h'.get? b=some { o with slots:=sl })
theorem zCq {head:Value} {hadNext:Bool} {oe:Obj} {vs:Array Value} (hfr:A.frames=some (env :: outer)) (hl:s.heap.FunFrames base (env :: outer)) (hf:env.frame=some L)
  (he:s.heap.get? e=some oe) (hkb:base.StaysIn s.heap) (hen:base.get? e=none) (hd:oe.data=.fields vs) (hv2:vs[2]?=some .none) (hsz:1 < vs.size)
  (h:∀ h',zBE base e oe.cls s.heap h'->Q () { s with heap:=h' }) :
  wpAny M A (do let a <- frameOf env; let pl <- entryPlaceOf L hadNext; let b <- EntryCells.newEntry head a .none (rawInt L) .none pl; setField (.ref e) 1 b) Q E s:=by
 have out:e ∉ (env :: outer).filterMap (·.frame):=fun hm=>by
  obtain ⟨_,o,ho,hnf⟩:=hl.mem hm
  rw [he] at ho; cases ho; exact hnf vs hd
 refine wpAny_bind (wpAny_frameOf_fun hfr hl hf fun h₁ so=>?_)
 refine wpAny_bind (wpAny_entryPlaceOf fun pl hpl=>?_)
 unfold EntryCells.newEntry newFields
 refine wpAny_bind (wpAny_newObj_type ?_ (hpl.sizeOk5 _ _ _ _ _))
 have he1:h₁.get? e=some oe:=(so.2.1 e out).trans he
 have kb1:base.StaysIn h₁:=fun b o hbo=>(so.2.1 b fun hm=>by rw [(hl.mem hm).1] at hbo; cases hbo).trans (hkb b o hbo)
 have hTe:h₁.objs.size ≠ e:=Nat.ne_of_gt (Heap.lt_size he1)
 refine wpAny_setField (Heap.get?_push_of_some _ he1) hd hsz (h _ ?_)
 have keep:∀ (ob:Obj) b o,b ≠ e->h₁.get? b=some o->((h₁.push ob).update e (Obj.mapFields (·.setIfInBounds 1 (Value.ref h₁.objs.size)))).get? b=some o:=fun ob b o hb q =>
  (Heap.get?_update_other _ _ (Ne.symm hb)).trans (Heap.get?_push_of_some _ q)
 have hd3:=Obj.data_mapFields hd (·.setIfInBounds 1 (Value.ref h₁.objs.size))
 refine ⟨fun b o hbo=>keep _ b o (fun q=>by rw [q,hen] at hbo; cases hbo) (kb1 b o hbo),_,_,h₁.objs.size,_,_,Heap.get?_update_self _ (Heap.get?_push_of_some _ he1) (Obj.isFreed_of_fields hd3),Obj.cls_mapFields _ _,hd3,by rw [Array.getElem?_setIfInBounds_ne (by decide)]; exact hv2,by simp [hsz],kb1.fresh,hTe,
  (Heap.get?_update_other _ _ (Ne.symm hTe)).trans (Heap.get?_push_size h₁ rfl),rfl,?_,fun b o hb hnf=>?_⟩
 ·simp only [List.size_toArray,List.length_append,List.length_cons,List.length_nil]
  exact Nat.lt_of_lt_of_le (by decide) (Nat.le_add_right 5 _)
 ·obtain ⟨sl,q⟩:=so.2.2 b o hb
  exact ⟨sl,keep _ b _ (fun z=>by rw [z,he] at hb; cases hb; exact hnf vs hd) q⟩
theorem zGH {oe:Obj} {vs:Array Value} (hfr:A.frames=some (env :: outer)) (hl:s.heap.FunFrames base (env :: outer)) (hf:env.frame=some L)
  (he:s.heap.get? e=some oe) (hkb:base.StaysIn s.heap) (hen:base.get? e=none) (hd:oe.data=.fields vs) (hv2:vs[2]?=some .none) (h1:vs[1]?=some .none)
  (h:∀ h',zBE base e oe.cls s.heap h'->Q () { s with heap:=h' }) :
  wpAny M A (noteFrame (.ref e) env) Q E s:=by
 unfold noteFrame
 simp only [hf]
 refine wpAny_bind (wpAny_field he hd h1 ?_)
 rw [if_neg (by decide)]
 exact zCq hfr hl hf he hkb hen hd hv2 (Array.getElem?_eq_some_iff.mp h1).1 h
theorem zIn {oe oT:Obj} {vs ts:Array Value} {T:Addr} {z:Value} (hfr:A.frames=some (env :: outer)) (hl:s.heap.FunFrames base (env :: outer)) (hf:env.frame=some L)
  (he:s.heap.get? e=some oe) (hkb:base.StaysIn s.heap) (hen:base.get? e=none) (hd:oe.data=.fields vs) (hv2:vs[2]?=some .none) (h1:vs[1]?=some (.ref T))
  (hnT:base.get? T=none) (hTe:T ≠ e) (hT:s.heap.get? T=some oT) (hdT:oT.data=.fields ts) (h3:ts[3]?=some z)
  (h0:Q () s) (h:∀ h',zBE base e oe.cls s.heap h'->Q () { s with heap:=h' }) :
  wpAny M A (noteFrame (.ref e) env) Q E s:=by
 unfold noteFrame
 simp only [hf]
 refine wpAny_bind (wpAny_field he hd h1 ?_)
 rw [if_pos (show (Value.ref T != Value.none)=true from by simp)]
 refine wpAny_bind (wpAny_field hT hdT h3 ?_)
 by_cases hz:(z==rawInt L)=true
 ·rw [if_pos hz]; exact wpAny_pure h0
 rw [if_neg hz]
 refine wpAny_bind (wpAny_setField hT hdT (Array.getElem?_eq_some_iff.mp h3).1 ?_)
 have other:∀ b,b ≠ T->(s.heap.update T (Obj.mapFields (·.setIfInBounds 3 Value.none))).get? b=s.heap.get? b:=fun b hb=>Heap.get?_update_other _ _ (Ne.symm hb)
 have noRecord:∀ b o,s.heap.get? b=some o->(∀ vs,o.data ≠ .fields vs)->b ≠ T:=fun b o hb hnf q=>by
  rw [q,hT] at hb; cases hb; exact hnf ts hdT
 exact zCq hfr (hl.of_keeps fun b o hb hnf=>⟨o,(other b (noRecord b o hb hnf)).trans hb,rfl⟩) hf ((other e (Ne.symm hTe)).trans he)
  (fun b o hbo=>(other b fun q=>by rw [q,hnT] at hbo; cases hbo).trans (hkb b o hbo)) hen hd hv2 (Array.getElem?_eq_some_iff.mp h1).1
  fun h' ⟨x1,oe,vs,T,oT,ts,p1,p2,p3,p3',p4,p5,p6,p7,p8,p9,x4⟩=>h h' ⟨x1,oe,vs,T,oT,ts,p1,p2,p3,p3',p4,p5,p6,p7,p8,p9,fun b o hb hnf=>x4 b o ((other b (noRecord b o hb hnf)).trans hb) hnf⟩
end
section
variable {S:zR} {X Y:List Addr} {f f0:List Loc} {U:Sto} {h h' h₀:Heap} {ea:Addr} {k:Cls} {s s' s0:Shared} {l:List Env}
noncomputable def yE (l:List Env):List Addr:=l.filterMap (·.frame)
theorem FrL.mem (F:FrL S f h l) {a:Addr} (ha:a ∈ yE l):S.hb.get? a=none /\ a ∉ addrs f /\ ∃ o es n,h.get? a=some o /\ o.data=.dict es n:=by
 obtain ⟨e,he,hf⟩:=List.mem_filterMap.mp ha
 obtain ⟨_,L,o,es,n,h1,h2,h3,h4,h5⟩:=F e he
 rw [h1] at hf; cases hf
 exact ⟨h2,h3,o,es,n,h4,h5⟩
theorem FrL.fun {base:Heap} (F:FrL S f h l) (hb:∀ a ∈ yE l,base.get? a=none):h.FunFrames base l:=by
 induction l with
 | nil=>trivial
 | cons e l ih =>
  obtain ⟨h0,L,o,es,n,h1,h2,h3,h4,h5⟩:=F e List.mem_cons_self
  exact ⟨h0,⟨L,o,h1,hb L (List.mem_filterMap.mpr ⟨e,List.mem_cons_self,h1⟩),h4,fun vs q=>by rw [h5] at q; cases q⟩,
   ih (fun e he=>F e (List.mem_cons_of_mem _ he)) fun a ha=>hb a (by
    obtain ⟨e',he,hf⟩:=List.mem_filterMap.mp ha
    exact List.mem_filterMap.mpr ⟨e',List.mem_cons_of_mem _ he,hf⟩)⟩
structure Noted (S:zR) (f:List Loc) (h h':Heap) (hs:List Addr):Prop where
 same:∀ b o,b ∉ hs->h.get? b=some o->∃ o',h'.get? b=some o' /\ SameObj o o'
 base:∀ b o,S.hb.get? b=some o->h'.get? b=some o
 trk:∀ b ∈ addrs f,h'.get? b=h.get? b
theorem Noted.lk {hs hs':List Addr} (N:Noted S f h h' hs) (L:Lk S (hs++X) f U h) (hX:∀ a ∈ X,a ∉ hs) (hn:∀ a ∈ hs',(a ∈ hs \/ h.get? a=none) /\ ∃ o,h'.get? a=some o):Lk S (hs'++X) f U h':=by
 have nf:∀ a,a ∈ addrs f->∃ o,h.get? a=some o:=fun a ha=>L.live ha
 have ho:∀ a o,h.get? a=some o->a ∉ addrs f->a ∉ hs++X->(a ∉ addrs f /\ a ∉ hs'++X) /\ ∃ o',h'.get? a=some o' /\ SameObj o o':=fun a o e h1 h2=>by
  refine ⟨⟨h1,fun q=>?_⟩,N.same a o (fun q=>h2 (List.mem_append_left _ q)) e⟩
  rcases List.mem_append.mp q with q | q
  ·rcases (hn a q).1 with z | z
   ·exact h2 (List.mem_append_left _ z)
   ·rw [z] at e; first | exact zB e | exact zF e | cases e
  ·exact h2 (List.mem_append_right _ q)
 refine ⟨N.base,L.len,L.nodup,L.fresh,fun a ha=>?_,fun i l o hi hU=>(L.obj i l o hi hU).keep (fun x v e=>VR.keep (fun _ _ e=>e) ho x v e) (fun x v e=>VRs.keep (fun _ _ e=>e) ho x v e) fun a ha=>N.trk a (yD hi ha)⟩
 rcases List.mem_append.mp ha with q | q
 ·obtain ⟨z,o,e⟩:=hn a q
  rcases z with z | z
  ·obtain ⟨h1,h2,_⟩:=L.hid a (List.mem_append_left _ z)
   exact ⟨h1,h2,o,e⟩
  ·refine ⟨?_,fun hf=>?_,o,e⟩
   ·cases hb:S.hb.get? a with
    | none=>rfl
    | some o=>have:=L.base a o hb; rw [z] at this; cases this
   ·obtain ⟨o,q⟩:=nf a hf; rw [z] at q; cases q
 ·obtain ⟨h1,h2,o,e⟩:=L.hid a (List.mem_append_right _ q)
  exact ⟨h1,h2,let ⟨o',q',_⟩:=N.same a o (hX a q) e; ⟨o',q'⟩⟩
theorem Noted.kp {hs:List Addr} (N:Noted S f s.heap h' hs) (K:Kp f0 Y s0 s) (hn:∀ a ∈ hs,s0.heap.get? a=none):Kp f0 Y s0 { s with heap:=h' }:=by
 have no:∀ a o,s0.heap.get? a=some o->a ∉ hs:=fun a o e m=>by rw [hn a m] at e; cases e
 refine ⟨?_,fun a o e=>?_,fun a o e h1 h2=>?_,fun a o es n e d h1=>?_⟩
 ·show ({ s with heap:=h' }:Shared)=_
  rw [K.rest]
 ·obtain ⟨o₁,e₁⟩:=K.live a o e
  exact let ⟨o',q',_⟩:=N.same a o₁ (no a o e) e₁; ⟨o',q'⟩
 ·obtain ⟨o₁,e₁,q₁⟩:=K.kept a o e h1 h2
  obtain ⟨o₂,e₂,q₂⟩:=N.same a o₁ (no a o e) e₁
  exact ⟨o₂,e₂,q₁.trans q₂⟩
 ·obtain ⟨o₁,es1,n₁,e₁,d₁⟩:=K.dicts a o es n e d h1
  obtain ⟨o₂,e₂,q₂⟩:=N.same a o₁ (no a o e) e₁
  exact ⟨o₂,es1,n₁,e₂,q₂.data.trans d₁⟩
theorem xu {M:Model} {A:Around} {E:Value->Shared->Prop} {Q:Unit->Shared->Prop} {fr:Option Addr} (x:ExcR S X f U s.heap h₀ ea k) (hX:∀ a ∈ X,∃ o,h₀.get? a=some o)
  (hQ:∀ h' hs,(∀ a ∈ hs,h₀.get? a=none)->Noted S f s.heap h' hs->Lk S X f U h'->ExcR S X f U h' h₀ ea k->Q () { s with heap:=h' }):wpAny M A (setFlight (.ref ea) fr) Q E s:=by
 obtain ⟨e1,ec,hs,oe,vs,Lh,e4,e5,e6,e7,e8⟩:=id x
 rcases e8 with ⟨rfl,v1⟩ | ⟨T,oT,ts,rfl,t0,t1,t2,t3,t4,t5⟩
 ·unfold setFlight
  refine wpAny_bind (wpAny_field e4 e6 v1 ?_)
  rw [if_neg (by decide)]
  refine wpAny_pure ?_
  exact hQ s.heap [] (fun a ha=>nomatch ha) ⟨fun b o _ e=>⟨o,e,.refl o⟩,Lh.base,fun _ _=>rfl⟩ (Lh.less fun a ha=>List.mem_append_right _ ha) x
 ·unfold setFlight
  refine wpAny_bind (wpAny_field e4 e6 t2 ?_)
  rw [if_pos (show (Value.ref T != Value.none)=true from by simp)]
  refine wpAny_setField t3 t4 t5 ?_
  generalize (fr.elim Value.none fun f=>rawInt f)=z
  have hd3:=Obj.data_mapFields t4 (·.setIfInBounds 3 z)
  have hT:=Heap.get?_update_self (Obj.mapFields (·.setIfInBounds 3 z)) t3 (Obj.isFreed_of_fields hd3)
  have other:∀ b,b ≠ T->(s.heap.update T (Obj.mapFields (·.setIfInBounds 3 z))).get? b=s.heap.get? b:=fun b hb=>Heap.get?_update_other _ _ (Ne.symm hb)
  have hfree:∀ a ∈ [ea,T],h₀.get? a=none:=fun a ha=>by
   rcases List.mem_cons.mp ha with rfl | ha
   ·exact e1
   ·rw [List.mem_singleton.mp ha]; exact t0
  have hTm:T ∈ [ea,T]++X:=List.mem_append_left _ (List.mem_cons_of_mem _ (List.mem_singleton.mpr rfl))
  have N:Noted S f s.heap (s.heap.update T (Obj.mapFields (·.setIfInBounds 3 z))) [ea,T]:=by
   refine ⟨fun b o hb e=>⟨o,(other b fun q=>hb (q ▸ List.mem_cons_of_mem _ (List.mem_singleton.mpr rfl))).trans e,.refl o⟩,fun b o e=>?_,fun b hb=>other b fun q=>?_⟩
   ·exact (other b fun q=>by rw [q,(Lh.hid T hTm).1] at e; cases e).trans (Lh.base b o e)
   ·exact (Lh.hid T hTm).2.1 (q ▸ hb)
  have hXs:∀ a ∈ X,a ∉ [ea,T]:=fun a ha m=>by obtain ⟨o,e⟩:=hX a ha; rw [hfree a m] at e; cases e
  have L1:Lk S ([ea,T]++X) f U (s.heap.update T (Obj.mapFields (·.setIfInBounds 3 z))):=N.lk Lh hXs fun a ha=>⟨.inl ha,by
   rcases List.mem_cons.mp ha with rfl | ha
   ·exact ⟨_,(other a (Ne.symm t1)).trans e4⟩
   ·rw [List.mem_singleton.mp ha]; exact ⟨_,hT⟩⟩
  refine hQ _ [ea,T] hfree N (L1.less fun a ha=>List.mem_append_right _ ha) ⟨e1,ec,[ea,T],oe,vs,L1,(other ea (Ne.symm t1)).trans e4,e5,e6,e7,.inr ⟨T,_,_,rfl,t0,t1,t2,hT,hd3,by rw [Array.size_setIfInBounds]; exact t5⟩⟩
theorem zHV {M:Model} {A:Around} {E:Value->Shared->Prop} {Q:Unit->Shared->Prop} {env:Env} {outer:List Env} {L:Addr} (hfr:A.frames=some (env :: outer)) (F:FrL S f s.heap (env :: outer)) (hf:env.frame=some L)
  (x:ExcR S X f U s.heap h₀ ea k) (hX:∀ a ∈ X,∃ o,h₀.get? a=some o) (hback:∀ a,s.heap.get? a=none->h₀.get? a=none)
  (hQ:∀ h' hs oe vs T,(∀ a ∈ hs,h₀.get? a=none)->Noted S f s.heap h' hs->ExcR S X f U h' h₀ ea k->h'.get? ea=some oe->oe.data=.fields vs->vs[1]?=some (.ref T)->Q () { s with heap:=h' }) :
  wpAny M A (noteFrame (.ref ea) env) Q E s:=by
 have x0:=x
 obtain ⟨e1,ec,hs,oe,vs,Lh,e4,e5,e6,e7,e8⟩:=x
 have hea:ea ∈ hs:=by rcases e8 with ⟨rfl,_⟩ | ⟨T,_,_,rfl,_⟩ <;> exact List.mem_cons_self
 have hfree:∀ a ∈ hs,h₀.get? a=none:=by
  rcases e8 with ⟨rfl,_⟩ | ⟨T,_,_,rfl,t1,_⟩
  ·intro a ha; rw [List.mem_singleton.mp ha]; exact e1
  ·intro a ha
   rcases List.mem_cons.mp ha with rfl | ha
   ·exact e1
   ·rw [List.mem_singleton.mp ha]; exact t1
 have Fr:∀ {a:Addr},a ∈ yE (env :: outer)->S.hb.get? a=none /\ a ∉ addrs f /\ ∃ o es n,s.heap.get? a=some o /\ o.data=.dict es n:=FrL.mem F
 have hB:∀ a ∈ yE (env :: outer)++hs,(xx s.heap (yE (env :: outer)++hs)).get? a=none:=fun a ha=>jJ ha
 have hFF:s.heap.FunFrames (xx s.heap (yE (env :: outer)++hs)) (env :: outer):=F.fun fun a ha=>hB a (List.mem_append_left _ ha)
 have hst:=zCP s.heap (yE (env :: outer)++hs)
 have fin:∀ h',zBE (xx s.heap (yE (env :: outer)++hs)) ea oe.cls s.heap h'->Q () { s with heap:=h' }:=fun h' q=>by
  obtain ⟨q1,oe',vs',T',oT',ts',p1,p2,p3,p3',p4,p5,p6,p7,p8,p9,q4⟩:=q
  have exact':∀ b o,b ∉ yE (env :: outer)->b ∉ hs->s.heap.get? b=some o->h'.get? b=some o:=fun b o h1 h2 e =>
   q1 b o ((wR fun m=>(List.mem_append.mp m).elim h1 h2).trans e)
  have same:∀ b o,b ∉ hs->s.heap.get? b=some o->∃ o',h'.get? b=some o' /\ SameObj o o':=fun b o h2 e=>by
   by_cases h1:b ∈ yE (env :: outer)
   ·obtain ⟨_,_,o2,es,n,r1,r2⟩:=Fr h1
    rw [e] at r1; cases r1
    obtain ⟨sl,r3⟩:=q4 b o e fun vs q=>by rw [r2] at q; cases q
    exact ⟨_,r3,.inr ⟨⟨es,n,r2⟩,rfl,rfl,rfl⟩⟩
   ·exact ⟨o,exact' b o h1 h2 e,.refl o⟩
  have hT':T' ∈ hs \/ s.heap.get? T'=none:=by
   cases e:s.heap.get? T' with
   | none=>exact .inr rfl
   | some o =>
    by_cases m:T' ∈ yE (env :: outer)++hs
    ·rcases List.mem_append.mp m with m | m
     ·obtain ⟨_,_,o2,es,n,r1,r2⟩:=Fr m
      obtain ⟨sl,r3⟩:=q4 T' o2 r1 fun vs q=>by rw [r2] at q; cases q
      rw [p7] at r3; cases r3
      rw [r2] at p8; cases p8
     ·exact .inl m
    ·rw [wR m,e] at p5; first | exact zB p5 | exact zF p5 | cases p5
  have N:Noted S f s.heap h' hs:=by
   refine ⟨same,fun b o e=>?_,fun b hb=>?_⟩
   ·have hb:s.heap.get? b=some o:=Lh.base b o e
    refine exact' b o (fun m=>?_) (fun m=>?_) hb
    ·rw [(Fr m).1] at e; first | exact zB e | exact zF e | cases e
    ·rw [(Lh.hid b (List.mem_append_left _ m)).1] at e; first | exact zB e | exact zF e | cases e
   ·obtain ⟨o,e⟩:=Lh.live hb
    rw [e]
    exact exact' b o (fun m=>(Fr m).2.1 hb) (fun m=>(Lh.hid b (List.mem_append_left _ m)).2.1 hb) e
  have hXs:∀ a ∈ X,a ∉ hs:=fun a ha m=>by obtain ⟨o,e⟩:=hX a ha; rw [hfree a m] at e; cases e
  have L1:Lk S ([ea,T']++X) f U h':=N.lk Lh hXs fun a ha=>by
   rcases List.mem_cons.mp ha with rfl | ha
   ·exact ⟨.inl hea,_,p1⟩
   ·obtain rfl:=List.mem_singleton.mp ha; exact ⟨hT',_,p7⟩
  refine hQ h' hs oe' vs' T' hfree N ⟨e1,ec,[ea,T'],oe',vs',L1,p1,p2.trans e5,p3,p3',.inr ⟨T',oT',ts',rfl,?_,p6,p4,p7,p8,p9⟩⟩ p1 p3 p4
  rcases hT' with m | m
  ·exact hfree T' m
  ·exact hback T' m
 rcases e8 with ⟨rfl,v1⟩ | ⟨T,oT,ts,rfl,t0,t1,t2,t3,t4,t5⟩
 ·exact zGH hfr hFF hf e4 hst (hB ea (List.mem_append_right _ hea)) e6 e7 v1 fin
 ·exact zIn hfr hFF hf e4 hst (hB ea (List.mem_append_right _ hea)) e6 e7 t2 (hB T (List.mem_append_right _ (List.mem_cons_of_mem _ (List.mem_singleton.mpr rfl)))) t1 t3 t4 (Array.getElem?_eq_getElem t5) (hQ s.heap [] oe vs T (fun a ha=>nomatch ha) ⟨fun b o _ e=>⟨o,e,.refl o⟩,Lh.base,fun _ _=>rfl⟩ x0 e4 e6 t2) fin
theorem zB4 {M:Model} {A:Around} {E:Value->Shared->Prop} {Q:Unit->Shared->Prop} {env:Env} {outer:List Env} {L:Addr} (hfr:A.frames=some (env :: outer)) (F:FrL S f s.heap (env :: outer)) (hf:env.frame=some L)
  (x:ExcR S X f U s.heap s0.heap ea k) (hX:∀ a ∈ X,∃ o,s0.heap.get? a=some o) (kp:Kp f0 Y s0 s)
  (hQ:∀ h',Kp f0 Y s0 { s with heap:=h' }->Lk S X f U h'->ExcR S X f U h' s0.heap ea k->Q () { s with heap:=h' }) :
  wpAny M A (noteFrame (.ref ea) env) (fun _ s₂=>wpAny M A (setFlight (.ref ea) none) Q E s₂) E s:=
 zHV hfr F hf x hX (fun _ h=>zu kp.live h) fun h₁ hs _ _ _ h1 N x1 _ _ _=>xu (s:={ s with heap:=h₁ }) x1 hX fun h₂ hs2 h2 N2 L2 x2=>hQ h₂ (N2.kp (N.kp kp h1) h2) L2 x2
theorem ww {e:Value} {env env':Env} (h:env'.frame=env.frame):noteFrame e env=noteFrame e env':=by
 unfold noteFrame PySem.frameOf
 rw [h]
end
end Mine
end

section
namespace Mine
open PySem PyProof.Rows
section
variable {S:zR} {C:Ctx} {T:Nat->Option Fn} {F:Calls} {q:Bool} {d:Nat} {Γ:List Str} {sc:Scope}
theorem Lk.ofBase {X:List Addr} {f:List Loc} {U:Sto} {h:Heap} (L:Lk S X f U h) {v:V} {w:Value} (r:VR S [] [] S.hb v w):VR S X f h v w:=
 VR.keep (fun i l e=>by simp at e) (fun a o ho _ _=>⟨⟨fun q=>(by rw [L.fresh a q] at ho; cases ho),fun q=>(by rw [(L.hid a q).1] at ho; cases ho)⟩,o,L.base a o ho,.refl o⟩) v w r
theorem Lk.ns {X:List Addr} {f:List Loc} {U:Sto} {h:Heap} {a:Addr} {m:Str->Option Value} (L:Lk S X f U h) (n:S.hb.Ns a m):h.Ns a m:=by
 obtain ⟨o,es,ep,ho,r⟩:=n
 exact ⟨o,es,ep,L.base a o ho,r⟩
theorem zNY {k pos}:EOk S F q d Γ sc (.Constant .none k pos) (.lit .none):=fun env J f X U s A st _=>by
 rw [zA8]
 exact wpAny_Constant_none (.leaf st.lk (.refl s) (rfl))
theorem zNT {b k pos}:EOk S F q d Γ sc (.Constant (.bool b) k pos) (.lit (.bool b)):=fun env J f X U s A st _=>by
 rw [zA8]
 exact wpAny_Constant_bool (.leaf st.lk (.refl s) (rfl))
theorem zPr {i k pos}:EOk S F q d Γ sc (.Constant (.int i) k pos) (.lit (.int i)):=fun env J f X U s A st _=>by
 rw [zA8]
 exact wpAny_Constant_int (.leaf st.lk (.toks s _) (⟨_,rfl⟩))
theorem zLw {x:Str} {k pos} (h:(x.length <= 1000&&PyData.strOk x)=true):EOk S F q d Γ sc (.Constant (.str x) k pos) (.lit (.str x)):=fun env J f X U s A st _=>by
 rw [zA8]
 rw [Bool.and_eq_true] at h
 have:=of_decide_eq_true h.1
 exact wpAny_Constant_str (.leaf st.lk (.toks s _) (⟨⟨_,rfl⟩,by unfold LIM; omega,h.2⟩))
theorem zE0 {sc:Scope} {x:Str} (hv:zA1 sc x=true):sc.names.lookup x=some .local \/ sc.names.lookup x=some .cell \/ sc.names.lookup x=some .free:=by
 delta zA1 at hv
 cases h:sc.names.lookup x with
 | none=>rw [h] at hv; exact zF hv
 | some k =>
  rw [h] at hv
  cases k with
  | «local»=>exact .inl rfl
  | cell=>exact .inr (.inl rfl)
  | free=>exact .inr (.inr rfl)
  | _=>exact zF hv
theorem zIe {env:Env} {x:Str} {w:Value} {s:Shared} {A:Around} {Q:Value->Shared->Prop} {E:Value->Shared->Prop} (hk:env.scope.kind=.function) (hc:(x==("__classdict__" : Str))=false) (n:NameIs env s.heap x w) (h:Q w s) :
  wpAny (model S.prog S.w) A (loadName env x) Q E s:=by
 rcases n with ⟨h1,m,h2,h3⟩ | ⟨h1,c,h2,h3⟩
 ·exact wpAny_loadName_local hk h1 h2 h3 h
 ·rcases h1 with h1 | h1
  ·exact wpAny_loadName_cell hk h1 h2 h3 h
  ·exact wpAny_loadName_free hk h1 h2 h3 h hc
theorem zD9 {J:List V} {i:Nat} {v:V} (h:zN J i=some v):J[i]?=some v /\ v ≠ .undef:=by
 delta zN at h
 cases hr:J[i]? with
 | none=>rw [hr] at h; exact zB h
 | some w =>
  rw [hr] at h
  have key:w ≠ .undef->some w=some v->some w=some v /\ v ≠ .undef:=fun h1 h2=>⟨h2,fun e=>h1 (by rw [Option.some.inj h2]; exact e)⟩
  cases w with
  | undef=>exact zB h
  | _=>exact key (fun q=>nomatch q) h
theorem zNX (fs:zZ S C T) {x:Str} {pos:Pos} {c:CE} (h:zGw C Γ sc x=some c):EOk S F q d Γ sc (.Name x pos) c:=fun env J f X U s A st hne=>by
 unfold zGw at h
 split at h
 ·first | exact zB h | exact zF h | cases h
 rename_i hn
 simp only [Bool.or_eq_true,not_or,Bool.not_eq_true] at hn
 refine wpAny_Name ?_ hn.1
 split at h
 ·rename_i hv
  replace h:=map_some h
  obtain ⟨i,hi,rfl⟩:=h
  rw [zv] at hne ⊢
  cases hr:zN J i with
  | none=>rw [hr] at hne; exact absurd rfl hne
  | some v =>
   obtain ⟨h1,h2⟩:=zD9 hr
   obtain ⟨w,n,r⟩:=st.fr.vals x i v hv hi h1 h2
   exact zIe st.fr.kind hn.2 n (QS.leaf st.lk (.refl s) r)
 ·split at h
  ·rename_i hg
   replace h:=map_some h
   obtain ⟨v,hv,rfl⟩:=h
   rw [zA8]
   obtain ⟨mg,mb,g1,g2,g3,_⟩:=fs.g
   obtain ⟨w,e1,e2⟩:=g3 x v hv
   exact wU st.fr.kind (st.fr.isGlob hg) (by rw [st.fr.glob]; exact st.lk.ns g1) e1 (QS.leaf st.lk (.refl s) (st.lk.ofBase e2))
  ·first | exact zB h | exact zF h | cases h
theorem yS {β:Type} {U:Sto} {o:Option β} (h:R.lift U o ≠ .stuck):∃ x,o=some x:=by
 cases o with
 | none=>exact absurd rfl h
 | some x=>exact ⟨x,rfl⟩
theorem zIB {X:List Addr} {f:List Loc} {U:Sto} {s:Shared} {A:Around} {E:Value->Shared->Prop} {op:Operator} {o:P2} {a b x:V} {va vb:Value} (ho:zCW op=some o) (L:Lk S X f U s.heap) (e:ev2 o U a b=some x) (ra:VR S X f s.heap a va) (rb:VR S X f s.heap b vb) :
  wpAny (model S.prog S.w) A (binaryOp op va vb) (PE S X f s x) E s:=by
 by_cases hop:op=.Add
 ·subst hop
  cases ho
  exact zH2 L e ra rb
 ·have:∃ i j,a=.int i /\ b=.int j:=by
   cases op <;> first | exact absurd rfl hop | (cases ho; done) | (cases ho; exact kN e)
  obtain ⟨i,j,rfl,rfl⟩:=this
  obtain ⟨t,rfl⟩:=yH ra
  obtain ⟨u,rfl⟩:=yH rb
  exact zGq ho e
theorem zES {op:Operator} {o:P2} (h:zCW op=some o):wK o=false:=by
 cases op <;> first | (cases h; rfl) | exact zB h
theorem xj {op:CmpOp} {o:P2} (h:xi op=some o):wK o=false:=by
 cases op <;> first | (cases h; rfl) | exact zB h
theorem zLl {l r:Expr} {op:Operator} {pos:Pos} {o:P2} {a b:CE} (ho:zCW op=some o) (hl:EOk S F q d Γ sc l a) (hr:EOk S F q d Γ sc r b):NOk S F q d Γ sc (.BinOp l op r pos) (.p2 o a b):=fun env J f X U s A st hne=>by
 rw [zNn,zES ho,Bool.false_and,if_neg (by simp)] at hne ⊢
 refine wpAny_BinOp ?_
 refine Sim.goN (hl env J f X U s A st) hne (fun _ _ x=>x) (fun _ _ x=>x) fun va a' U1 g₁ s₁ hne hg k L ra hQ hE=>?_
 have st₁:=st.keep hg k L
 refine Sim.goN (hr env J _ X U1 s₁ A st₁) hne hQ hE fun vb b' U2 g₂ s₂ hne hg₂ k₂ L₂ rb hQ hE=>?_
 obtain ⟨x,hx⟩:=yS hne
 rw [hx] at hQ
 exact wpAny_mono (zIB ho L₂ hx (VR.keepK k₂ hg₂ (fun _ h=>nomatch h) ra) rb) (fun v s' p=>hQ v s' (p.here L₂)) fun _ _ x=>x
end
end Mine
end

section
namespace Mine
open PySem PyProof.Rows
section
variable {S:zR} {C:Ctx} {T:Nat->Option Fn} {F:Calls} {q:Bool} {d:Nat} {Γ:List Str} {sc:Scope}
variable {X:List Addr} {f:List Loc} {U:Sto} {s:Shared} {A:Around} {E:Value->Shared->Prop}
theorem Lk.parts {h:Heap} (fs:zZ S C T) (L:Lk S X f U h):wn S h:=fun hh=>by
 obtain ⟨d,g,e,hd,hm,hg⟩:=fs.parts hh
 refine ⟨d,g,e,hd,?_,hg⟩
 obtain ⟨o,es,ep,ho,r⟩:=hm
 exact ⟨o,es,ep,L.base d o ho,r⟩
theorem zEj {a b:V} {va vb:Value} {r:Bool} (hu:A.units+64 < cLine) (L:Lk S X f U s.heap) (e:eqV U a b=some r) (ra:VR S X f s.heap a va) (rb:VR S X f s.heap b vb) :
  wpAny (model S.prog S.w) A (compareOp .Eq va vb) (PE S X f s (.bool r)) E s /\ wpAny (model S.prog S.w) A (compareOp .NotEq va vb) (PE S X f s (.bool !r)) E s:=by
 unfold eqV at e
 split at e
 ·rename_i xs ys h1 h2
  split at e
  ·rename_i hne
   cases e
   obtain ⟨p,vs,n,rfl,il,rs,hl⟩:=zy L h1 ra
   obtain ⟨p2,vs2,n2,rfl,il2,rs2,hl2⟩:=zy L h2 rb
   have hsz:(vs.size != vs2.size)=true:=by rw [zc rs,zc rs2]; exact hne
   exact ⟨P.eq_list_lengths il il2 hsz (by omega) .bool0,SeqAt.RcNeAt.lists_lengths ⟨_,il,rfl,n,rfl⟩ ⟨_,il2,rfl,n2,rfl⟩ hsz (by omega) _ _ _ _ .bool0⟩
  ·exact zCc hu L e ra rb
 ·exact zCc hu L e ra rb
theorem wc {op:CmpOp} {o:P2} (fs:zZ S C T) (hu:A.units+64 < cLine) (ho:xi op=some o) {a b x:V} {va vb:Value} (L:Lk S X f U s.heap) (e:ev2 o U a b=some x) (ra:VR S X f s.heap a va) (rb:VR S X f s.heap b vb) :
  wpAny (model S.prog S.w) A (compareOp op va vb) (PE S X f s x) E s:=by
 by_cases h:op ≠ .Eq /\ op ≠ .NotEq /\ op ≠ .In /\ op ≠ .NotIn
 ·obtain ⟨i,j,rfl,rfl⟩:=zKj ho h e
  obtain ⟨t,rfl⟩:=yH ra
  obtain ⟨u,rfl⟩:=yH rb
  exact zMu ho h e
 ·have h':op=.Eq \/ op=.NotEq \/ op=.In \/ op=.NotIn:=by
   by_cases h1:op=.Eq
   ·exact .inl h1
   by_cases h2:op=.NotEq
   ·exact .inr (.inl h2)
   by_cases h3:op=.In
   ·exact .inr (.inr (.inl h3))
   by_cases h4:op=.NotIn
   ·exact .inr (.inr (.inr h4))
   exact absurd ⟨h1,h2,h3,h4⟩ h
  rcases h' with rfl | rfl | rfl | rfl <;> cases ho
  ·delta ev2 at e; dsimp only at e; simp only [Option.map_eq_some_iff] at e
   obtain ⟨r,h1,rfl⟩:=e
   exact (zEj hu L h1 ra rb).1
  ·delta ev2 at e; dsimp only at e; simp only [Option.map_eq_some_iff] at e
   obtain ⟨r,h1,rfl⟩:=e
   exact (zEj hu L h1 ra rb).2
  ·delta ev2 at e; dsimp only at e; simp only [Option.map_eq_some_iff] at e
   obtain ⟨r,h1,rfl⟩:=e
   exact (zEx (L.parts fs) L h1 ra rb).1
  ·delta ev2 at e; dsimp only at e; simp only [Option.map_eq_some_iff] at e
   obtain ⟨r,h1,rfl⟩:=e
   exact (zEx (L.parts fs) L h1 ra rb).2
theorem St.room {env:Env} {J:List V} (st:St S q d Γ sc env J f X U s A):A.units+64 < cLine:=by
 exact Nat.lt_of_lt_of_le (Nat.lt_of_lt_of_le (Nat.add_lt_add_left (show 64 < 202 by decide) A.units) (Nat.add_le_add_right (Nat.le_add_right A.units (5 * d)) 202)) st.cx.units
theorem zDc {v:V} {w:Value} {β:Type} {rk:Bool->Sto->R β} {W:Bool->Shared->Prop} (L:Lk S X f U s.heap) (r:VR S X f s.heap v w) (hne:(R.lift U (truthy U v)).bind rk ≠ .stuck)
  (hk:∀ t s',truthy U v=some t->Ext s s'->rk t U ≠ .stuck->W t s'):wpAny (model S.prog S.w) A (PySem.truthy w) W E s:=by
 cases h:truthy U v with
 | none=>rw [h] at hne; exact absurd rfl hne
 | some t =>
  rw [h] at hne
  exact wpAny_mono (yf L h r) (fun c s' q=>by obtain ⟨rfl,e⟩:=q; exact hk c s' h e hne) fun _ _ x=>x
theorem QS.moved {α β:Type} {Y:List Addr} {P:α->β->List Loc->Shared->Prop} {r:R β} {a:α} {s₁ s':Shared} (e:Ext s s₁) (h:QS S X Y f P s₁ r a s'):QS S X Y f P s r a s':=
 QS.lifts f [] s s₁ r a s' (.nil s) (e.kp f Y) (by rwa [List.append_nil])
theorem QN.moved {Y:List Addr} {r:R V} {a:Value} {s₁ s':Shared} (e:Ext s s₁) (h:QN S X Y f s₁ r a s'):QN S X Y f s r a s':=
 QN.lifts f [] s s₁ r a s' (.nil s) (e.kp f Y) (by rwa [List.append_nil])
theorem ES.moved {β:Type} {Y:List Addr} {tr:Bool} {r:R β} {a:Value} {s₁ s':Shared} (e:Ext s s₁) (h:ES S X Y f tr s₁ r a s'):ES S X Y f tr s r a s':=
 ES.lifts f [] s s₁ r a s' (.nil s) (e.kp f Y) (by rwa [List.append_nil])
theorem St.moved {env:Env} {J:List V} {s':Shared} (st:St S q d Γ sc env J f X U s A) (e:Ext s s'):St S q d Γ sc env J f X U s' A:=by
 have:=st.keep (g:=[]) (.nil s) (e.kp f []) (by rw [List.append_nil]; exact e.lk st.lk)
 rwa [List.append_nil] at this
theorem QS.bool {Y:List Addr} {b:Bool} {s':Shared} (L:Lk S X f U s.heap) (e:Ext s s'):QS S X Y f (fun b t _ _=>b=t) s (.ok b U) b s':=
 ⟨b,U,[],rfl,.nil s,e.kp f Y,by rw [List.append_nil]; exact e.lk L,rfl⟩
theorem zOK {e e':Expr} {c:CE} {o:P1} {t:Value->Sem Value} (hq:(vM o&&q)=false) (h:EOk S F q d Γ sc e c)
  (rule:∀ (env:Env) (A:Around) (Q E:Value->Shared->Prop) (s:Shared),wpAny (model S.prog S.w) A (eval e env) (fun v s₁=>wpAny (model S.prog S.w) A (t v) Q E s₁) E s->wpAny (model S.prog S.w) A (eval e' env) Q E s)
  (op:∀ (X:List Addr) (f:List Loc) (U:Sto) (s:Shared) (A:Around) (E:Value->Shared->Prop) (a x:V) (va:Value),(q=false->A.handled=none)->Lk S X f U s.heap->ev1 o U a=some x->VR S X f s.heap a va->wpAny (model S.prog S.w) A (t va) (PE S X f s x) E s) :
  NOk S F q d Γ sc e' (.p1 o c):=fun env J f X U s A st hne=>by
 rw [zKG,hq,if_neg (by simp)] at hne ⊢
 refine rule _ _ _ _ _ ?_
 refine Sim.goN (h env J f X U s A st) hne (fun _ _ x=>x) (fun _ _ x=>x) fun va a' U1 g₁ s₁ hne hg k L ra hQ hE=>?_
 obtain ⟨x,hx⟩:=yS hne
 rw [hx] at hQ
 exact wpAny_mono (op X _ U1 s₁ A _ a' x va st.cx.hand L hx ra) (fun v s' p=>hQ v s' (p.here L)) fun _ _ x=>x
theorem zPv {e:Expr} {c:CE} {pos:Pos} (h:EOk S F q d Γ sc e c):EOk S F q d Γ sc (.UnaryOp .Not e pos) (.p1 .not c):=
 NOk.eok <| zOK rfl h (fun env A Q E s h=>UnaryOp_ h) fun X f U s A E a x va _ L hx ra=>by
  delta ev1 at hx; dsimp only at hx; simp only [Option.map_eq_some_iff] at hx
  obtain ⟨b,hb,rfl⟩:=hx
  exact not_of (wpAny_mono (yf L hb ra) (fun c s' q=>by obtain ⟨rfl,e⟩:=q; exact ⟨e,rfl,fun _ e=>by cases e⟩) fun _ _ x=>x)
theorem zPs {e:Expr} {c:CE} {pos:Pos} (h:EOk S F q d Γ sc e c):EOk S F q d Γ sc (.UnaryOp .USub e pos) (.p1 .neg c):=
 NOk.eok <| zOK rfl h (fun env A Q E s h=>UnaryOp_ h) fun X f U s A E a x va _ L hx ra=>by
  cases a with
  | int i=>cases hx; obtain ⟨t,rfl⟩:=yH ra; exact zIj
  | _=>first | exact zB hx | exact zF hx | cases hx
theorem zOL {l r e':Expr} {a b:CE} {o:P2} {t:Value->Value->Sem Value} (hq:(wK o&&q)=false) (hl:EOk S F q d Γ sc l a) (hr:EOk S F q d Γ sc r b)
  (rule:∀ (env:Env) (A:Around) (Q E:Value->Shared->Prop) (s:Shared),wpAny (model S.prog S.w) A (eval l env) (fun v s₁=>wpAny (model S.prog S.w) A (eval r env) (fun w s₂=>wpAny (model S.prog S.w) A (t v w) Q E s₂) E s₁) E s->wpAny (model S.prog S.w) A (eval e' env) Q E s)
  (op:∀ (X:List Addr) (f:List Loc) (U:Sto) (s:Shared) (A:Around) (E:Value->Shared->Prop) (a b x:V) (va vb:Value),(q=false->A.handled=none)->A.units+64 < cLine->Lk S X f U s.heap->ev2 o U a b=some x->VR S X f s.heap a va->VR S X f s.heap b vb->wpAny (model S.prog S.w) A (t va vb) (fun v s'=>Ext s s' /\ VR S X f s'.heap x v) E s) :
  EOk S F q d Γ sc e' (.p2 o a b):=fun env J f X U s A st hne=>by
 rw [zNn,hq,if_neg (by simp)] at hne ⊢
 refine rule _ _ _ _ _ ?_
 refine Sim.goQ (P':=PV S X) (hl env J f X U s A st) hne (fun _ _ x=>x) (fun _ _ x=>x) fun va a' U1 g₁ s₁ hne hg k L ra hQ hE=>?_
 have st₁:=st.keep hg k L
 refine Sim.goQ (P':=PV S X) (hr env J _ X U1 s₁ A st₁) hne hQ hE fun vb b' U2 g₂ s₂ hne hg₂ k₂ L₂ rb hQ hE=>?_
 obtain ⟨x,hx⟩:=yS hne
 rw [hx] at hQ
 exact wpAny_mono (op X _ U2 s₂ A _ a' b' x va vb st.cx.hand st.room L₂ hx (VR.keepK k₂ hg₂ (fun _ h=>nomatch h) ra) rb) (fun v s' p=>hQ v s' (.leaf L₂ p.1 p.2)) fun _ _ x=>x
theorem PE.weak {x:V} {v:Value} {s':Shared} (p:PE S X f s x v s'):Ext s s' /\ VR S X f s'.heap x v:=⟨p.1,p.2.1⟩
theorem zPo {l r:Expr} {a b:CE} {op:CmpOp} {o:P2} {pos:Pos} (fs:zZ S C T) (ho:xi op=some o) (hm:behindInMarks op r=false) (hl:EOk S F q d Γ sc l a) (hr:EOk S F q d Γ sc r b) :
  EOk S F q d Γ sc (.Compare l [op] [r] pos) (.p2 o a b):=
 zOL (by rw [xj ho,Bool.false_and]) hl hr (fun env A Q E s h=>wpAny_Compare1 h hm) fun X f U s A E a b x va vb _ hu L hx ra rb=>wpAny_mono (wc fs hu ho L hx ra rb) (fun _ _ p=>p.weak) fun _ _ x=>x
end
end Mine
end

section
namespace Mine
open PySem PyProof.Rows
structure GOk (S:zR) (F:Calls) (q:Bool) (d:Nat) (Γ:List Str) (sc:Scope) (e:Expr) (c:CE):Prop where
 eo:EOk S F q d Γ sc e c
 to:TOk S F q d Γ sc e c
 star:isStar e=false
 marks:∀ op,behindInMarks op e=false
 fold:∀ env x,foldedSetIterable e env x=pure x
inductive All2 {α β:Type} (P:α->β->Prop):List α->List β->Prop where
 | nil:All2 P [] []
 | cons {a:α} {b:β} {as:List α} {bs:List β}:P a b->All2 P as bs->All2 P (a :: as) (b :: bs)
section
variable {S:zR} {C:Ctx} {T:Nat->Option Fn} {F:Calls} {q:Bool} {d:Nat} {Γ:List Str} {sc:Scope}
variable {X:List Addr} {f:List Loc} {U:Sto} {s:Shared} {A:Around} {E:Value->Shared->Prop}
theorem TOk.plain {e:Expr} {c:CE} (h:EOk S F q d Γ sc e c) (he:∀ env whole,isTrue e env whole=(do let v <- whole; standAt e.pos; holding [v] (PySem.truthy v))):TOk S F q d Γ sc e c:=fun env J f X U s A st hne=>by
 refine isTrue_plain ?_ (he env _)
 refine Sim.goQ (P':=fun b t _ _=>b=t) (h env J f X U s A st) hne (fun _ _ x=>x) (fun _ _ x=>x) fun va a' U1 g₁ s₁ hne hg k L ra hQ hE=>?_
 obtain ⟨x,hx⟩:=yS hne
 rw [hx] at hQ
 exact wpAny_mono (yf L hx ra) (fun c s' p=>by obtain ⟨rfl,e⟩:=p; exact hQ c s' (.bool L e)) fun _ _ x=>x
theorem TOk.not {e:Expr} {c:CE} {pos:Pos} (h:TOk S F q d Γ sc e c):TOk S F q d Γ sc (.UnaryOp .Not e pos) (.p1 .not c):=fun env J f X U s A st hne=>by
 have key:((evE F q (.p1 .not c) J U).bind fun v U=>R.lift U (truthy U v))=((evE F q c J U).bind fun v U=>R.lift U (truthy U v)).bind fun b U=>.ok (!b) U:=by
  rw [zKG,show vM .not=false from rfl,Bool.false_and,if_neg (by simp),R.bind_assoc,R.bind_assoc]
  congr 1
  funext v U'
  show R.bind (R.lift U' ((truthy U' v).map fun b=>V.bool !b)) _=_
  cases truthy U' v <;> rfl
 rw [key] at hne ⊢
 refine isTrue_not ?_
 refine Sim.goQ (P':=fun b t _ _=>b=t) (h env J f X U s A st) hne (fun _ _ x=>x) (fun _ _ x=>x) fun va a' U1 g₁ s₁ hne hg k L ra hQ hE=>?_
 replace ra:va=a':=ra
 subst ra
 exact hQ _ _ (.bool L (.refl s₁))
theorem zDs {op:CmpOp} {o:P2} (ho:xi op=some o) {U:Sto} {a b x:V} (h:ev2 o U a b=some x):∃ t,x=.bool t:=by
 cases op <;> cases ho
 all_goals first
  | (obtain ⟨r,_,rfl⟩:=map_some h; exact ⟨_,rfl⟩)
  | (obtain ⟨i,j,rfl,rfl⟩:=kN h; cases h; exact ⟨_,rfl⟩)
theorem zBf {op:CmpOp} {o:P2} {a b:V} {U:Sto} {β:Type} {f:V->Sto->R β} (h1:xi op=some o) (h:(R.lift U (ev2 o U a b)).bind f ≠ .stuck):∃ t:Bool,ev2 o U a b=some (.bool t):=by
 cases hx:ev2 o U a b with
 | none=>rw [hx] at h; exact absurd rfl h
 | some x=>obtain ⟨t,rfl⟩:=zDs h1 hx; exact ⟨t,rfl⟩
theorem zGz (fs:zZ S C T) {pos:Pos}:∀ {ops:List CmpOp} {os:List P2} {es:List Expr} {cs:List CE},All2 (fun op o=>xi op=some o) ops os->All2 (GOk S F q d Γ sc) es cs->ops.length=es.length ->
  ∀ (env:Env) (J:List V) (f:List Loc) (X:List Addr) (U:Sto) (s:Shared) (A:Around) (a:V) (va:Value),St S q d Γ sc env J f X U s A->VR S X f s.heap a va ->
   Sim S A X [] f (PV S X) (compareChain pos va ops (evalEach es env)) (evChain F q os cs a J U) s /\
   Sim S A X [] f (fun b t _ _=>b=t) (testChain pos va ops (evalEach es env)) ((evChain F q os cs a J U).bind fun v U=>R.lift U (truthy U v)) s:=by
 intro ops os es cs ho
 induction ho generalizing es cs with
 | nil =>
  intro hes hlen env J f X U s A a va st ra
  cases hes with
  | nil=>exact ⟨fun h=>absurd rfl h,fun h=>absurd rfl h⟩
  | cons _ _=>simp at hlen
 | @cons op o ops os h1 h2 ih =>
  intro hes hlen env J f X U s A a va st ra
  cases hes with
  | nil=>simp at hlen
  | @cons e c es cs he hes =>
   cases h2 with
   | nil =>
    cases hes with
    | nil =>
     constructor
     ·intro hne
      rw [zHr,xj h1,Bool.false_and,if_neg (by simp)] at hne ⊢
      refine chain_last ?_
      refine Sim.goQ (P':=PV S X) (he.eo env J f X U s A st) hne (fun _ _ x=>x) (fun _ _ x=>x) fun vb b' U1 g₁ s₁ hne hg k L rb hQ hE=>?_
      obtain ⟨x,hx⟩:=yS hne
      rw [hx] at hQ
      exact wpAny_mono (wc fs st.room h1 L hx (VR.keepK k hg (fun _ h=>nomatch h) ra) rb) (fun v s' p=>hQ v s' (.leaf L p.1 p.2.1)) fun _ _ x=>x
     ·intro hne
      rw [zHr,xj h1,Bool.false_and,if_neg (by simp),R.bind_assoc] at hne ⊢
      refine test_last ?_
      refine Sim.goQ (P':=fun b t _ _=>b=t) (he.eo env J f X U s A st) hne (fun _ _ x=>x) (fun _ _ x=>x) fun vb b' U1 g₁ s₁ hne hg k L rb hQ hE=>?_
      obtain ⟨t,hx⟩:=zBf h1 hne
      rw [hx] at hne hQ
      refine wpAny_mono (wc fs st.room h1 L hx (VR.keepK k hg (fun _ h=>nomatch h) ra) rb) (fun v s' p=>?_) fun _ _ x=>x
      obtain rfl:=wB p.2.1
      exact wpAny_mono (yf (p.1.lk L) (b:=t) rfl p.2.1) (fun c s'' p2=>by obtain ⟨rfl,e⟩:=p2; exact hQ c s'' (.bool L (p.1.trans e))) fun _ _ x=>x
    | cons _ _=>simp at hlen
   | @cons op' o' ops os h1' h2' =>
    cases hes with
    | nil=>simp at hlen
    | @cons e2 c2 es cs he2 hes2 =>
     constructor
     ·intro hne
      rw [zHs,xj h1,Bool.false_and,if_neg (by simp)] at hne ⊢
      refine chain_link ?_
      refine Sim.goQ (P':=PV S X) (he.eo env J f X U s A st) hne (fun _ _ x=>x) (fun _ _ x=>x) fun vb b' U1 g₁ s₁ hne hg k L rb hQ hE=>?_
      obtain ⟨t,hx⟩:=zBf h1 hne
      rw [hx] at hne hQ hE
      refine wpAny_mono (wc fs st.room h1 L hx (VR.keepK k hg (fun _ h=>nomatch h) ra) rb) (fun v s' p=>?_) fun _ _ x=>x
      obtain rfl:=wB p.2.1
      refine wpAny_mono (yf (p.1.lk L) (b:=t) rfl p.2.1) (fun c s'' p2=>?_) fun _ _ x=>x
      obtain ⟨rfl,e⟩:=p2
      have ee:=p.1.trans e
      have st₂:=(st.keep hg k L).moved ee
      cases c with
      | true=>exact wpAny_mono ((ih (.cons he2 hes2) (by simpa using hlen) env J _ X U1 s'' A b' vb st₂ (ee.vr rb)).1 hne) (fun v s3 q3=>hQ v s3 (.moved ee q3)) fun v s3 q3=>hE v s3 (.moved ee q3)
      | false=>exact hQ _ _ (.leaf L ee (rfl))
     ·intro hne
      rw [zHs,xj h1,Bool.false_and,if_neg (by simp),R.bind_assoc] at hne ⊢
      refine test_link ?_
      refine Sim.goQ (P':=fun b t _ _=>b=t) (he.eo env J f X U s A st) hne (fun _ _ x=>x) (fun _ _ x=>x) fun vb b' U1 g₁ s₁ hne hg k L rb hQ hE=>?_
      obtain ⟨t,hx⟩:=zBf h1 fun e=>hne (by rw [e]; rfl)
      rw [hx] at hne hQ hE
      refine wpAny_mono (wc fs st.room h1 L hx (VR.keepK k hg (fun _ h=>nomatch h) ra) rb) (fun v s' p=>?_) fun _ _ x=>x
      obtain rfl:=wB p.2.1
      refine wpAny_mono (yf (p.1.lk L) (b:=t) rfl p.2.1) (fun c s'' p2=>?_) fun _ _ x=>x
      obtain ⟨rfl,e⟩:=p2
      have ee:=p.1.trans e
      have st₂:=(st.keep hg k L).moved ee
      cases c with
      | true=>exact wpAny_mono ((ih (.cons he2 hes2) (by simpa using hlen) env J _ X U1 s'' A b' vb st₂ (ee.vr rb)).2 hne) (fun v s3 q3=>hQ v s3 (.moved ee q3)) fun v s3 q3=>hE v s3 (.moved ee q3)
      | false=>exact hQ _ _ (.bool L ee)
theorem jU:∀ {ops:List CmpOp} {es:List Expr} {cs:List CE},All2 (GOk S F q d Γ sc) es cs->lastMarks ops es=false:=by
 intro ops es cs h
 induction h generalizing ops with
 | nil=>cases ops <;> simp [lastMarks]
 | @cons e c es cs he hes ih =>
  cases ops with
  | nil=>simp [lastMarks]
  | cons op ops =>
   cases ops with
   | nil=>cases es with
    | nil=>simp only [lastMarks]; exact he.marks op
    | cons _ _=>simp only [lastMarks]
   | cons op2 ops=>simp only [lastMarks]; exact ih
theorem zLo (fs:zZ S C T) {l:Expr} {a:CE} {ops:List CmpOp} {os:List P2} {es:List Expr} {cs:List CE} {pos:Pos} (hl:EOk S F q d Γ sc l a) (ho:All2 (fun op o=>xi op=some o) ops os) (hes:All2 (GOk S F q d Γ sc) es cs) (hlen:ops.length=es.length) :
  EOk S F q d Γ sc (.Compare l ops es pos) (.chain a os cs) /\ TOk S F q d Γ sc (.Compare l ops es pos) (.chain a os cs):=by
 constructor
 ·intro env J f X U s A st hne
  rw [zBT] at hne ⊢
  show wpAny _ _ (do compareChain pos (<- eval l env) ops (markedEach ops es (evalEach es env))) _ _ _
  rw [markedEach_of_false _ _ _ (jU hes)]
  refine wpAny_bind ?_
  refine Sim.goQ (P':=PV S X) (hl env J f X U s A st) hne (fun _ _ x=>x) (fun _ _ x=>x) fun va a' U1 g₁ s₁ hne hg k L ra hQ hE=>?_
  exact wpAny_mono ((zGz fs ho hes hlen env J _ X U1 s₁ A a' va (st.keep hg k L) ra).1 hne) hQ hE
 ·intro env J f X U s A st hne
  rw [zBT,R.bind_assoc] at hne ⊢
  show wpAny _ _ (do testChain pos (<- eval l env) ops (markedEach ops es (evalEach es env))) _ _ _
  rw [markedEach_of_false _ _ _ (jU hes)]
  refine wpAny_bind ?_
  refine Sim.goQ (P':=fun b t _ _=>b=t) (hl env J f X U s A st) hne (fun _ _ x=>x) (fun _ _ x=>x) fun va a' U1 g₁ s₁ hne hg k L ra hQ hE=>?_
  exact wpAny_mono ((zGz fs ho hes hlen env J _ X U1 s₁ A a' va (st.keep hg k L) ra).2 hne) hQ hE
theorem TOk.cmp1 {l r:Expr} {op:CmpOp} {c:CE} {pos:Pos} (hm:behindInMarks op r=false) (h:EOk S F q d Γ sc (.Compare l [op] [r] pos) c):TOk S F q d Γ sc (.Compare l [op] [r] pos) c:=fun env J f X U s A st hne=>by
 rw [isTrue_Compare1,markedBehindIn_of_false hm]
 have he:=h env J f X U s A st
 have hr:(evE F q c J U) ≠ .stuck:=fun e=>hne (by rw [e]; rfl)
 have key:wpAny (model S.prog S.w) A (eval (.Compare l [op] [r] pos) env >>= fun c=>holding [c] (PySem.truthy c)) (QS S X [] f (fun b t _ _=>b=t) s ((evE F q c J U).bind fun v U=>R.lift U (truthy U v))) (ES S X [] f false s ((evE F q c J U).bind fun v U=>R.lift U (truthy U v))) s:=by
  refine wpAny_bind ?_
  refine Sim.goQ (P':=fun b t _ _=>b=t) he hne (fun _ _ x=>x) (fun _ _ x=>x) fun va a' U1 g₁ s₁ hne hg k L ra hQ hE=>?_
  obtain ⟨x,hx⟩:=yS hne
  rw [hx] at hQ
  exact wpAny_holding (wpAny_mono (yf L hx ra) (fun c s' p=>by obtain ⟨rfl,e⟩:=p; exact hQ c s' (.bool L e)) fun _ _ x=>x)
 have e2:eval (.Compare l [op] [r] pos) env=(do let a <- eval l env; let b <- holding [a] (markedBehindIn op r (eval r env)); standAt pos; operate [a,b] (compareOp op a b)):=rfl
 rw [e2,markedBehindIn_of_false hm] at key
 simpa only [bind_assoc] using key
theorem zLm {op:BoolOp} {pos:Pos}:∀ {es:List Expr} {cs:List CE} {c:CE},All2 (GOk S F q d Γ sc) es cs->vI (op==.And) cs=some c ->
  EOk S F q d Γ sc (.BoolOp op es pos) c /\ TOk S F q d Γ sc (.BoolOp op es pos) c:=by
 intro es cs c h
 induction h generalizing c with
 | nil=>intro e; exact zB e
 | @cons x cx es cs hx hes ih =>
  intro e
  cases hes with
  | nil =>
   cases e
   refine ⟨fun env J f X U s A st hne=>BoolOp_one (hx.eo env J f X U s A st hne),fun env J f X U s A st hne=>?_⟩
   have:=hx.to env J f X U s A st hne
   cases op with
   | And=>exact isTrue_and (wpAny_mono this (fun c s' q=>by cases c with | true=>exact isTrue_and_nil q | false=>exact q) fun _ _ x=>x)
   | Or=>exact isTrue_or (wpAny_mono this (fun c s' q=>by cases c with | false=>exact isTrue_or_nil q | true=>exact q) fun _ _ x=>x)
  | @cons y cy es cs hy hes =>
   replace e:(vI (op==.And) (cy :: cs)).map (fun r=>if (op==.And)=true then CE.and cx r else .or cx r)=some c:=e
   replace e:=map_some e
   obtain ⟨r,e1,rfl⟩:=e
   obtain ⟨ih1,ih2⟩:=ih e1
   cases op with
   | And =>
    show EOk S F q d Γ sc _ (.and cx r) /\ TOk S F q d Γ sc _ (.and cx r)
    constructor
    ·intro env J f X U s A st hne
     rw [zHp] at hne ⊢
     refine BoolOp_and ?_
     refine Sim.goQ (P':=PV S X) (hx.eo env J f X U s A st) hne (fun _ _ x=>x) (fun _ _ x=>x) fun va a' U1 g₁ s₁ hne hg k L ra hQ hE=>?_
     refine zDc L ra hne fun t s₂ ht e hne=>?_
     rw [ht] at hQ hE
     cases t with
     | true=>exact wpAny_mono (ih1 env J _ X U1 s₂ A ((st.keep hg k L).moved e) hne) (fun v s3 q3=>hQ v s3 (.moved e q3)) fun v s3 q3=>hE v s3 (.moved e q3)
     | false=>exact hQ _ _ (.leaf L e (e.vr ra))
    ·intro env J f X U s A st hne
     have key:((evE F q (.and cx r) J U).bind fun v U=>R.lift U (truthy U v))=((evE F q cx J U).bind fun v U=>R.lift U (truthy U v)).bind fun t U=>if t then (evE F q r J U).bind fun v U=>R.lift U (truthy U v) else .ok false U:=by
      rw [zHp,R.bind_assoc,R.bind_assoc]
      congr 1
      funext v U'
      rw [R.bind_assoc]
      cases ht:truthy U' v with
      | none=>simp
      | some t=>cases t <;> simp [ht]
     rw [key] at hne ⊢
     refine isTrue_and ?_
     refine Sim.goQ (P':=fun b t _ _=>b=t) (hx.to env J f X U s A st) hne (fun _ _ x=>x) (fun _ _ x=>x) fun va a' U1 g₁ s₁ hne hg k L ra hQ hE=>?_
     replace ra:va=a':=ra
     subst ra
     cases va with
     | true=>exact wpAny_mono (ih2 env J _ X U1 s₁ A (st.keep hg k L) hne) hQ hE
     | false=>exact hQ _ _ (.bool L (.refl s₁))
   | Or =>
    show EOk S F q d Γ sc _ (.or cx r) /\ TOk S F q d Γ sc _ (.or cx r)
    constructor
    ·intro env J f X U s A st hne
     rw [zNm] at hne ⊢
     refine BoolOp_or ?_
     refine Sim.goQ (P':=PV S X) (hx.eo env J f X U s A st) hne (fun _ _ x=>x) (fun _ _ x=>x) fun va a' U1 g₁ s₁ hne hg k L ra hQ hE=>?_
     refine zDc L ra hne fun t s₂ ht e hne=>?_
     rw [ht] at hQ hE
     cases t with
     | false=>exact wpAny_mono (ih1 env J _ X U1 s₂ A ((st.keep hg k L).moved e) hne) (fun v s3 q3=>hQ v s3 (.moved e q3)) fun v s3 q3=>hE v s3 (.moved e q3)
     | true=>exact hQ _ _ (.leaf L e (e.vr ra))
    ·intro env J f X U s A st hne
     have key:((evE F q (.or cx r) J U).bind fun v U=>R.lift U (truthy U v))=((evE F q cx J U).bind fun v U=>R.lift U (truthy U v)).bind fun t U=>if t then .ok true U else (evE F q r J U).bind fun v U=>R.lift U (truthy U v):=by
      rw [zNm,R.bind_assoc,R.bind_assoc]
      congr 1
      funext v U'
      rw [R.bind_assoc]
      cases ht:truthy U' v with
      | none=>simp
      | some t=>cases t <;> simp [ht]
     rw [key] at hne ⊢
     refine isTrue_or ?_
     refine Sim.goQ (P':=fun b t _ _=>b=t) (hx.to env J f X U s A st) hne (fun _ _ x=>x) (fun _ _ x=>x) fun va a' U1 g₁ s₁ hne hg k L ra hQ hE=>?_
     replace ra:va=a':=ra
     subst ra
     cases va with
     | false=>exact wpAny_mono (ih2 env J _ X U1 s₁ A (st.keep hg k L) hne) hQ hE
     | true=>exact hQ _ _ (.bool L (.refl s₁))
end
end Mine
end

section
namespace Mine
open PySem PyProof.Rows
section
variable {S:zR} {C:Ctx} {T:Nat->Option Fn} {F:Calls} {q:Bool} {d:Nat} {Γ:List Str} {sc:Scope}
variable {X:List Addr} {f:List Loc} {U:Sto} {s:Shared} {A:Around} {E:Value->Shared->Prop}
theorem LOk.of {es:List Expr} {cs:List CE} (h:All2 (GOk S F q d Γ sc) es cs):LOk S F q d Γ sc es cs:=by
 refine ⟨?_,?_⟩
 ·induction h with
  | nil=>rfl
  | cons hx _ ih=>rw [List.any_cons,hx.star,ih]; rfl
 ·induction h with
  | nil =>
   intro env pos J f X U s A st _
   rw [zOZ]
   exact wpAny_pure ⟨[],U,[],rfl,.nil s,.refl f [] s,by rw [List.append_nil]; exact st.lk,(by show VRs S X _ s.heap [] []; exact True.intro)⟩
  | @cons x c es cs hx _ ih =>
   intro env pos J f X U s A st hne
   rw [zCJ] at hne ⊢
   rw [yG hx.star]
   show wpAny _ _ (spliced ((false,eval x env) :: backTo pos (starEach es env))) _ _ _
   refine Calls.spliced_cons ?_
   refine Sim.goQ (P':=fun vs xs f s=>VRs S X f s.heap xs vs) (hx.eo env J f X U s A st) hne (fun _ _ x=>x) (fun _ _ x=>x) fun va a' U1 g₁ s₁ hne hg k L ra hQ hE=>?_
   refine Sim.goQ (P':=fun vs xs f s=>VRs S X f s.heap xs vs) (ih env pos J _ X U1 s₁ A (st.keep hg k L)) hne hQ hE fun vs xs U2 g₂ s₂ hne hg₂ k₂ L₂ rs hQ hE=>?_
   refine hQ _ _ (QS.here L₂ ?_)
   show VRs S X _ s₂.heap (a' :: xs) (va :: vs)
   exact ⟨VR.keepK k₂ hg₂ (fun _ h=>nomatch h) ra,rs⟩
theorem zHC:∀ {cs:List CE} {J:List V} {U U':Sto} {vs:List V},evL F q cs J U=.ok vs U'->vs.length=cs.length
 | [],J,U,U',vs,h=>by rw [zOZ] at h; cases h; rfl
 | c :: cs,J,U,U',vs,h=>by
  rw [zCJ] at h
  cases h1:evE F q c J U with
  | ok v U1 =>
   rw [h1,R.bind_ok] at h
   cases h2:evL F q cs J U1 with
   | ok ws U2=>rw [h2,R.bind_ok] at h; cases h; simp [zHC h2]
   | exc _ _=>rw [h2] at h; first | exact zB h | exact zF h | cases h
   | stuck=>rw [h2] at h; first | exact zB h | exact zF h | cases h
  | exc _ _=>rw [h1] at h; first | exact zB h | exact zF h | cases h
  | stuck=>rw [h1] at h; first | exact zB h | exact zF h | cases h
theorem All2.len {α β:Type} {P:α->β->Prop} {as:List α} {bs:List β} (h:All2 P as bs):as.length=bs.length:=by
 induction h with
 | nil=>rfl
 | cons _ _ ih=>simp [ih]
theorem LOk.go {es:List Expr} {cs:List CE} {env:Env} {pos:Pos} {J:List V} {rk:List V->Sto->R V} {W:List Value->Shared->Prop} {Q' E':Value->Shared->Prop} (h:LOk S F q d Γ sc es cs) (st:St S q d Γ sc env J f X U s A) (hne:(evL F q cs J U).bind rk ≠ .stuck)
  (hQ:∀ c s'',QN S X [] f s ((evL F q cs J U).bind rk) c s''->Q' c s'') (hE:∀ e s'',ES S X [] f false s ((evL F q cs J U).bind rk) e s''->E' e s'')
  (hk:∀ vs xs U' g s',xs.length=cs.length->rk xs U' ≠ .stuck->Fresh g s->Kp f [] s s'->Lk S X (f++g) U' s'.heap->VRs S X (f++g) s'.heap xs vs->(∀ c s'',QN S X [] (f++g) s' (rk xs U') c s''->Q' c s'') ->
   (∀ e s'',ES S X [] (f++g) false s' (rk xs U') e s''->E' e s'')->W vs s'):wpAny (model S.prog S.w) A (spliced (backTo pos (starEach es env))) W E' s:=by
 have hr:evL F q cs J U ≠ .stuck:=fun e=>hne (by rw [e]; rfl)
 refine wpAny_mono (h.2 env pos J f X U s A st hr) (fun a s' p=>?_) fun e s' p=>hE e s' ?_
 ·obtain ⟨b,U',g,e,hg,k,L,p⟩:=p
  have hl:=zHC e
  rw [e] at hne hQ hE
  exact hk a b U' g s' hl hne hg k L p (fun c s'' x=>hQ c s'' (QN.lifts f g s s' _ c s'' hg k x)) fun e s'' x=>hE e s'' (ES.lifts f g s s' _ e s'' hg k x)
 ·obtain ⟨c,U',g,ea,e1,e2,hg,k,L,x⟩:=p
  exact ⟨c,U',g,ea,e1,by rw [e2]; rfl,hg,k,L,x⟩
theorem zNW {es:List Expr} {cs:List CE} {pos:Pos} (hl:es.length <= 1000) (h:All2 (GOk S F q d Γ sc) es cs):NOk S F q d Γ sc (.List es pos) (.list cs):=fun env J f X U s A st hne=>by
 rw [zMX] at hne ⊢
 refine wpAny_List ?_
 refine LOk.go (.of h) st hne (fun _ _ x=>x) (fun _ _ x=>x) fun vs xs U1 g s₁ hlen hne hg k L rs hQ hE=>?_
 have:xs.length <= 1000:=by rw [hlen,<- h.len]; exact hl
 have h2:vs.length <= LIM:=by rw [<- wD rs]; unfold LIM; omega
 refine ⟨Nat.le_trans h2 yW,hQ _ _ (PE.here L ?_)⟩
 exact zAN (tk:=s₁.toks) L rs (by unfold LIM; omega)
theorem zLx {es:List Expr} {cs:List CE} {pos:Pos} {k:Nat} (hl:es.length <= 1000) (h:All2 (GOk S F q d Γ sc) es cs):EOk S F q d Γ sc (.Tuple es k pos) (.tup cs):=fun env J f X U s A st hne=>by
 rw [zOb] at hne ⊢
 refine wpAny_Tuple ?_
 refine LOk.go (.of h) st hne (fun _ _ x=>x.qs) (fun _ _ x=>x) fun vs xs U1 g s₁ hlen hne hg k L rs hQ hE=>?_
 have:xs.length <= 1000:=by rw [hlen,<- h.len]; exact hl
 have h2:vs.length <= LIM:=by rw [<- wD rs]; unfold LIM; omega
 refine ⟨Nat.le_trans h2 yW,hQ _ _ (PE.here L ?_)⟩
 exact zAO (tk:=s₁.toks) L rs (by unfold LIM; omega)
theorem zNf (slice:Expr) (o i:Value):∃ ops,subscripted slice false o i=operate ops (getItem o i):=by
 cases slice with
 | Slice l u st p=>cases st <;> exact ⟨_,rfl⟩
 | _=>exact ⟨_,rfl⟩
theorem zCB {value slice:Expr} {o i:Value} {K id:String} {Q:Value->Shared->Prop} (hT:s.TypeIs o K)
  (hl:typeLookup (.type K) "__getitem__"=pure (some (.builtin id))) (h:wpAny (model S.prog S.w) A (getItem o i) Q E s) :
  wpAny (model S.prog S.w) A (subscriptTail value slice o i) Q E s:=by
 obtain ⟨ops,hs⟩:=zNf slice o i
 unfold subscriptTail
 refine wpAny_bind ?_
 rw [getitemInPython_of_ne hT.not_modules]
 refine wpAny_bind (wpAny_specialOf hT hl ?_)
 have fin:wpAny (model S.prog S.w) A (subscripted slice false o i) (fun r s₃=>wpAny (model S.prog S.w) A (letTemporaryGo value o r >>= fun _=>pure r) Q E s₃) E s:=by
  rw [hs]
  exact wpAny_operating (wpAny_mono h (fun r s₃ h₃=>wpAny_bind (wpAny_letTemporaryGo (wpAny_pure h₃))) fun _ _ x=>x)
 first
  | exact wpAny_pure (wpAny_bind fin)
  | exact wpAny_bind (wpAny_pure (wpAny_bind fin))
  | exact wpAny_bind fin
theorem zF7 (fs:zZ S C T) {a b x:V} {va:Value} (L:Lk S X f U s.heap) (e:ev2 .index U a b=some x) (ra:VR S X f s.heap a va) :
  ∃ K id,s.TypeIs va K /\ typeLookup (.type K) "__getitem__"=pure (some (.builtin id)):=by
 replace e:=zOG e
 cases e with
 | str y i k c _ _ _=>obtain ⟨⟨t,rfl⟩,_⟩:=yy ra; exact ⟨"str",_,typeIs_str s y t,F.slot_str_getitem.lookup⟩
 | seq a xs i k h1 _ _ =>
  obtain ⟨p,vs,n,rfl,il | il,_⟩:=vJ L h1 ra
  ·exact ⟨"list",_,⟨_,il,rfl⟩,slot_list_getitem.lookup⟩
  ·exact ⟨"tuple",_,⟨_,il,rfl⟩,slot_tuple_getitem.lookup⟩
 | dict n es i ho _ =>
  obtain ⟨l,hl,rfl⟩:=ra
  replace L:=L.obj n l _ hl ho
  obtain ⟨p,dd⟩:=l
  cases dd with
  | none=>obtain ⟨kvs,hd,_⟩:=L; exact ⟨"dict",_,hd.dictOf.typeIs,slot_dict_getitem.lookup⟩
  | some dd=>exact L.elim
 | parts y _ =>
  obtain ⟨hh,rfl⟩:=ra
  obtain ⟨d,g,e1,hd,hm,_⟩:=L.parts fs hh
  rw [e1]
  exact ⟨"dict",_,hm.typeIs,slot_dict_getitem.lookup⟩
theorem zLs (fs:zZ S C T) {o i:Expr} {a b:CE} {pos:Pos} (ho:EOk S F q d Γ sc o a) (hi:EOk S F q d Γ sc i b):EOk S F q d Γ sc (.Subscript o i pos) (.p2 .index a b):=
 zOL (t:=fun v w=>subscriptTail o i v w) rfl ho hi (fun env A Q E s h=>Subscript_ h) fun X f U s A E a b x va vb _ _ L hx ra rb=>by
  obtain ⟨K,id,h1,h2⟩:=zF7 fs L hx ra
  exact zCB h1 h2 (zEy (L.parts fs) L hx ra rb)
noncomputable def PO (x:Value) (i:Option Int) (_:List Loc) (_:Shared):Prop:=IsPart x i
theorem zHY {e:Option Expr} {c:Option CE} (h:(e=none /\ c=none) \/ ∃ e' c',e=some e' /\ c=some c' /\ EOk S F q d Γ sc e' c') (env:Env) (J:List V) (st:St S q d Γ sc env J f X U s A) :
  Sim S A X [] f PO (evalPart e env) (evO F q c J U) s:=fun hne=>by
 rcases h with ⟨rfl,rfl⟩ | ⟨e',c',rfl,rfl,h⟩
 ·rw [evalPart_none,zNl]
  exact wpAny_pure (QS.here st.lk .none)
 ·rw [evalPart_some]
  rw [zEJ] at hne ⊢
  refine Sim.goQ (P':=PO) (h env J f X U s A st) hne (fun _ _ x=>x) (fun _ _ x=>x) fun va a' U1 g₁ s₁ hne hg k L ra hQ hE=>?_
  obtain ⟨i,rfl⟩:=zL1 hne
  obtain ⟨t,rfl⟩:=yH ra
  exact hQ _ _ (QS.here L (.int i t))
theorem zGX {o slice:Expr} {x a:V} {va vl vh:Value} {sl:Addr} {l' h':Option Int} (L:Lk S X f U s.heap) (hx:wQ U a l' h'=some x) (ra:VR S X f s.heap a va) (hs:s.heap.IsSliceOf sl vl vh .none) (rl:IsPart vl l') (rh:IsPart vh h') :
  wpAny (model S.prog S.w) A (subscriptTail o slice va (.ref sl)) (PE S X f s x) E s:=by
 have seq:∀ {xs:List V},listOf? U a=some xs->x=.lst (yJ xs l' h')->wpAny (model S.prog S.w) A (subscriptTail o slice va (.ref sl)) (PE S X f s x) E s:=by
  intro xs h1 h2
  subst h2
  obtain ⟨p,vs,n,rfl,il,rs,hlen⟩:=zy L h1 ra
  exact zCB (K:="list") ⟨_,il,rfl⟩ slot_list_getitem.lookup (zAM L il rs hlen hs rl rh)
 cases a with
 | tup xs =>
  cases hx
  obtain ⟨p,vs,n,rfl,hp,il,rs,hlen⟩:=jO ra
  exact zCB (K:="tuple") ⟨_,il,rfl⟩ slot_tuple_getitem.lookup (zAC L hp il rs hlen hs rl rh)
 | lst xs=>cases hx; exact seq rfl rfl
 | ref n =>
  delta wQ at hx; dsimp only at hx; simp only [Option.map_eq_some_iff] at hx
  obtain ⟨xs,h1,h2⟩:=hx
  exact seq h1 h2.symm
 | _=>first | exact zB hx | exact zF hx | cases hx
theorem zLu {o:Expr} {lo hi:Option Expr} {a:CE} {cl ch:Option CE} {p pos:Pos} (ho:EOk S F q d Γ sc o a) (hl:(lo=none /\ cl=none) \/ ∃ e' c',lo=some e' /\ cl=some c' /\ EOk S F q d Γ sc e' c')
  (hh:(hi=none /\ ch=none) \/ ∃ e' c',hi=some e' /\ ch=some c' /\ EOk S F q d Γ sc e' c'):NOk S F q d Γ sc (.Subscript o (.Slice lo hi none p) pos) (.slice a cl ch):=fun env J f X U s A st hne=>by
 rw [zHx] at hne ⊢
 refine Subscript_ ?_
 refine Sim.goN (ho env J f X U s A st) hne (fun _ _ x=>x) (fun _ _ x=>x) fun va a' U1 g₁ s₁ hne hg k L ra hQ hE=>?_
 have st₁:=st.keep hg k L
 refine wpAny_Slice ?_
 refine Sim.goN (zHY hl env J st₁) hne hQ hE fun vl l' U2 g₂ s₂ hne hg₂ k₂ L₂ rl hQ hE=>?_
 have st₂:=st₁.keep hg₂ k₂ L₂
 have ra2:=VR.keepK k₂ hg₂ (fun _ h=>nomatch h) ra
 refine Sim.goN (zHY hh env J st₂) hne hQ hE fun vh h' U3 g₃ s₃ hne hg₃ k₃ L₃ rh hQ hE=>?_
 have ra3:=VR.keepK k₃ hg₃ (fun _ h=>nomatch h) ra2
 rw [evalPart_none]
 refine wpAny_pure ?_
 obtain ⟨x,hx⟩:=yS hne
 rw [hx] at hQ
 have ee:=Ext.push s₃ { cls:=.type "slice",data:=.fields #[vl,vh,.none] }
 have L₄:=ee.lk L₃
 have ra4:=ee.vr ra3
 have hs:=Heap.IsSliceOf.new s₃.heap vl vh .none
 exact wpAny_mono (zGX L₄ hx ra4 hs rl rh) (fun v s' p=>hQ v s' (QN.moved ee (p.here L₄))) fun _ _ x=>x
end
end Mine
end

section
namespace Mine
open PySem PyProof.Rows
theorem zS {β:Type} {x:Str} {y:β}:∀ {l:List (Str × β)},l.lookup x=some y->(x,y) ∈ l
 | [],h=>by simp at h
 | (a,b) :: r,h=>by
  rw [List.lookup_cons] at h
  split at h
  ·rename_i e
   have:=eq_of_beq e
   cases h; subst this
   exact List.mem_cons_self
  ·exact List.mem_cons_of_mem _ (zS h)
theorem zO3:bootBuiltins "len"=some (.builtin "len"):=by kernel_rfl
theorem zO2:bootBuiltins "all"=some (.builtin "all"):=by kernel_rfl
theorem zQn:bootBuiltins "ValueError"=some (.type "ValueError"):=by kernel_rfl
theorem zKT:bootBuiltins "int"=some (.type "int"):=by kernel_rfl
theorem zMk:bootBuiltins "bool"=some (.type "bool"):=by kernel_rfl
theorem zO6:bootBuiltins "str"=some (.type "str"):=by kernel_rfl
theorem zGp:bootBuiltins "list"=some (.type "list"):=by kernel_rfl
theorem zER:bootBuiltins "tuple"=some (.type "tuple"):=by kernel_rfl
theorem zO7:bootBuiltins "sum"=some (.builtin "sum"):=by kernel_rfl
theorem zO5:bootBuiltins "min"=some (.builtin "min"):=by kernel_rfl
theorem zO4:bootBuiltins "max"=some (.builtin "max"):=by kernel_rfl
theorem kl:bootBuiltins "isinstance"=some (.builtin "isinstance"):=by kernel_rfl
theorem zKU:bootBuiltins "range"=some (.type "range"):=by kernel_rfl
section
variable {S:zR} {C:Ctx} {T:Nat->Option Fn} {F:Calls} {q:Bool} {d:Nat} {Γ:List Str} {sc:Scope}
variable {X:List Addr} {f:List Loc} {U:Sto} {s:Shared} {A:Around} {E:Value->Shared->Prop}
theorem yz (fs:zZ S C T) {x:Str} {p:Pos} {v:Value} {env:Env} {J:List V} {Q:Value->Shared->Prop} (st:St S q d Γ sc env J f X U s A) (hg:isGlob sc x=true) (hn:C.fns.lookup x=none)
  (hx:x ∈ b1Names.map (·.1) \/ x ∈ b2Names.map (·.1) \/ x ∈ kindNames.map (·.1) \/ x=("isinstance" : Str) \/ x=("range" : Str)) (hv:bootBuiltins x=some v) (hd:(x==("__debug__" : Str))=false) (h:Q v s):wpAny (model S.prog S.w) A (eval (.Name x p) env) Q E s:=by
 obtain ⟨mg,mb,g1,g2,g3,g4,g5,_⟩:=fs.g
 obtain ⟨e1,e2⟩:=g5 x hx hn
 refine wpAny_Name ?_ hd
 exact jW st.fr.kind (st.fr.isGlob hg) (by rw [st.fr.glob]; exact st.lk.ns g1) e1 (by rw [st.fr.blt]; exact st.lk.ns g2) (e2.trans hv) h
theorem zAB {env:Env} {e:Expr} {pos:Pos} {Q:List Value->Shared->Prop} (hs:isStar e=false) (h:wpAny (model S.prog S.w) A (eval e env) (fun v s'=>Q [v] s') E s):wpAny (model S.prog S.w) A (spliced (backTo pos (starEach [e] env))) Q E s:=by
 rw [yG hs]
 show wpAny _ _ (spliced ((false,eval e env) :: [])) _ _ _
 exact Calls.spliced_cons (wpAny_mono h (fun v s' q=>wpAny_pure q) fun _ _ x=>x)
theorem zB8 {env:Env} {e e2:Expr} {pos:Pos} {Q:List Value->Shared->Prop} (hs:isStar e=false) (hs2:isStar e2=false) (h:wpAny (model S.prog S.w) A (eval e env) (fun v s'=>wpAny (model S.prog S.w) A (eval e2 env) (fun w s''=>Q [v,w] s'') E s') E s) :
  wpAny (model S.prog S.w) A (spliced (backTo pos (starEach [e,e2] env))) Q E s:=by
 rw [yG hs,yG hs2]
 show wpAny _ _ (spliced ((false,eval e env) :: (false,eval e2 env) :: [])) _ _ _
 exact Calls.spliced_cons (wpAny_mono h (fun v s' q=>Calls.spliced_cons (wpAny_mono q (fun w s'' q=>wpAny_pure q) fun _ _ x=>x)) fun _ _ x=>x)
theorem yF {v:Value} (h:∀ a,v ≠ .ref a):zBV s v:=.inl h
theorem wj (fs:zZ S C T) {x:Str} {p pos:Pos} {v:Value} {e:Expr} {c:CE} {o:P1} (hg:isGlob sc x=true) (hn:C.fns.lookup x=none)
  (hx:x ∈ b1Names.map (·.1)) (hv:bootBuiltins x=some v) (hd:(x==("__debug__" : Str))=false) (hr:∀ a,v ≠ .ref a) (h:GOk S F q d Γ sc e c)
  (op:∀ (X:List Addr) (f:List Loc) (U:Sto) (s:Shared) (A:Around) (E:Value->Shared->Prop) (a x:V) (va:Value),(vM o&&q)=false->((q=false->A.handled=none) /\ Hn A s.heap)->Lk S X f U s.heap->ev1 o U a=some x->VR S X f s.heap a va->wpAny (model S.prog S.w) A (call v [va]) (PE S X f s x) E s) :
  NOk S F q d Γ sc (.Call (.Name x p) [e] [] pos) (.p1 o c):=fun env J f X U s A st hne=>by
 rw [zKG] at hne ⊢
 by_cases hq:(vM o&&q)=true
 ·rw [if_pos hq] at hne; exact absurd rfl hne
 rw [if_neg hq] at hne ⊢
 refine wpAny_Call_NameR (yz fs st hg hn (.inl hx) hv hd ?_)
 refine zw (zh _ (by simp [h.star])) (zAB h.star ?_)
 refine Sim.goN (h.eo env J f X U s A st) hne (fun _ _ x=>x) (fun _ _ x=>x) fun va a' U1 g₁ s₁ hne hg k L ra hQ hE=>?_
 obtain ⟨x,hx⟩:=yS hne
 rw [hx] at hQ
 exact ⟨yF hr,wpAny_mono (op X _ U1 s₁ A _ a' x va (by simpa using hq) ⟨st.cx.hand,(st.keep hg k L).hn.here⟩ L hx ra) (fun v s' p=>hQ v s' (p.here L)) fun _ _ x=>x⟩
theorem zNC {o:P1} (hl:vM o=true) (h1:(vM o&&q)=false) (h2:(q=false->A.handled=none) /\ Hn A s.heap):A.handled=none:=h2.1 (by rw [hl,Bool.true_and] at h1; exact h1)
theorem zOJ (fs:zZ S C T) {x:Str} {p pos:Pos} {e:Expr} {c:CE} {o:P1} (hg:isGlob sc x=true) (hn:C.fns.lookup x=none) (ho:b1Names.lookup x=some o) (h:GOk S F q d Γ sc e c) :
  NOk S F q d Γ sc (.Call (.Name x p) [e] [] pos) (.p1 o c):=by
 have hm:=zS ho
 have hm':x ∈ b1Names.map (·.1):=List.mem_map_of_mem hm
 simp only [b1Names,List.mem_cons,Prod.mk.injEq,List.not_mem_nil,or_false] at hm
 rcases hm with ⟨rfl,rfl⟩ | hm
 ·exact wj fs hg hn hm' zO3 (by decide) (by simp) h fun X f U s A E a x va _ _ L hx ra=>zIc L hx ra
 rcases hm with ⟨rfl,rfl⟩ | hm
 ·exact wj fs hg hn hm' zKT (by decide) (by simp) h fun X f U s A E a x va _ _ L hx ra=>zFW hx ra
 rcases hm with ⟨rfl,rfl⟩ | hm
 ·exact wj fs hg hn hm' zO2 (by decide) (by simp) h fun X f U s A E a x va h1 h2 L hx ra=>zH3 h2.2 L hx ra
 rcases hm with ⟨rfl,rfl⟩ | hm
 ·exact wj fs hg hn hm' zGp (by decide) (by simp) h fun X f U s A E a x va _ _ L hx ra=>zEF L hx ra
 rcases hm with ⟨rfl,rfl⟩ | hm
 ·exact wj fs hg hn hm' zER (by decide) (by simp) h fun X f U s A E a x va _ _ L hx ra=>zFY L hx ra
 obtain ⟨rfl,rfl⟩:=hm
 exact wj fs hg hn hm' zO7 (by decide) (by simp) h fun X f U s A E a x va h1 h2 L hx ra=>zKE (zNC rfl h1 h2) L hx ra
theorem zE9 (fs:zZ S C T) {x:Str} {p pos:Pos} {v:Value} {e e2:Expr} {c c2:CE} {o:P2} (hg:isGlob sc x=true) (hn:C.fns.lookup x=none)
  (hx:x ∈ b2Names.map (·.1)) (hv:bootBuiltins x=some v) (hd:(x==("__debug__" : Str))=false) (hr:∀ a,v ≠ .ref a) (s1:isStar e=false) (s2:isStar e2=false) (h:EOk S F q d Γ sc e c) (h2:EOk S F q d Γ sc e2 c2)
  (op:∀ (X:List Addr) (f:List Loc) (U:Sto) (s:Shared) (A:Around) (E:Value->Shared->Prop) (a b x:V) (va vb:Value),(wK o&&q)=false->(q=false->A.handled=none)->Lk S X f U s.heap->ev2 o U a b=some x->VR S X f s.heap a va->VR S X f s.heap b vb->wpAny (model S.prog S.w) A (call v [va,vb]) (PE S X f s x) E s) :
  EOk S F q d Γ sc (.Call (.Name x p) [e,e2] [] pos) (.p2 o c c2):=fun env J f X U s A st hne=>by
 rw [zNn] at hne ⊢
 by_cases hq:(wK o&&q)=true
 ·rw [if_pos hq] at hne; exact absurd rfl hne
 rw [if_neg hq] at hne ⊢
 refine wpAny_Call_NameR (yz fs st hg hn (.inr (.inl hx)) hv hd ?_)
 refine zw (zh _ (by simp [s1,s2])) (zB8 s1 s2 ?_)
 refine Sim.goN (h env J f X U s A st) hne (fun _ _ x=>x.qs) (fun _ _ x=>x) fun va a' U1 g₁ s₁ hne hg k L ra hQ hE=>?_
 refine Sim.goN (h2 env J _ X U1 s₁ A (st.keep hg k L)) hne hQ hE fun vb b' U2 g₂ s₂ hne hg₂ k₂ L₂ rb hQ hE=>?_
 obtain ⟨x,hx⟩:=yS hne
 rw [hx] at hQ
 exact ⟨yF hr,wpAny_mono (op X _ U2 s₂ A _ a' b' x va vb (by simpa using hq) st.cx.hand L₂ hx (VR.keepK k₂ hg₂ (fun _ h=>nomatch h) ra) rb) (fun v s' p=>hQ v s' (p.here L₂)) fun _ _ x=>x⟩
theorem zRe (fs:zZ S C T) {x:Str} {p pos:Pos} {e e2:Expr} {c c2:CE} {o:P2} (hg:isGlob sc x=true) (hn:C.fns.lookup x=none) (ho:b2Names.lookup x=some o) (s1:isStar e=false) (s2:isStar e2=false) (h:EOk S F q d Γ sc e c) (h2:EOk S F q d Γ sc e2 c2) :
  EOk S F q d Γ sc (.Call (.Name x p) [e,e2] [] pos) (.p2 o c c2):=by
 have hm:=zS ho
 have hm':x ∈ b2Names.map (·.1):=List.mem_map_of_mem hm
 simp only [b2Names,List.mem_cons,Prod.mk.injEq,List.not_mem_nil,or_false] at hm
 rcases hm with ⟨rfl,rfl⟩ | ⟨rfl,rfl⟩
 ·exact zE9 fs hg hn hm' zO5 (by decide) (by simp) s1 s2 h h2 fun X f U s A E a b x va vb h1 h2 L hx ra rb=>by
   have hh:A.handled=none:=h2 h1
   obtain ⟨i,j,rfl,rfl⟩:=kN hx
   cases hx
   obtain ⟨t,rfl⟩:=yH ra
   obtain ⟨u,rfl⟩:=yH rb
   exact zGD hh
 ·exact zE9 fs hg hn hm' zO4 (by decide) (by simp) s1 s2 h h2 fun X f U s A E a b x va vb h1 h2 L hx ra rb=>by
   have hh:A.handled=none:=h2 h1
   obtain ⟨i,j,rfl,rfl⟩:=kN hx
   cases hx
   obtain ⟨t,rfl⟩:=yH ra
   obtain ⟨u,rfl⟩:=yH rb
   exact zGC hh
theorem zLJ {k:Str} {kd:Kd} (hm:(k,kd) ∈ kindNames):bootBuiltins k=some (.type (zMP kd)) /\ (k==("__debug__" : Str))=false
  /\ ∀ c,kd=.exc c->c=.ValueError:=by
 simp only [kindNames,List.mem_cons,Prod.mk.injEq,List.not_mem_nil,or_false] at hm
 rcases hm with ⟨rfl,rfl⟩ | ⟨rfl,rfl⟩ | ⟨rfl,rfl⟩ | ⟨rfl,rfl⟩ | ⟨rfl,rfl⟩
  | ⟨rfl,rfl⟩
 ·exact ⟨zKT,by decide,by simp⟩
 ·exact ⟨zMk,by decide,by simp⟩
 ·exact ⟨zO6,by decide,by simp⟩
 ·exact ⟨zGp,by decide,by simp⟩
 ·exact ⟨zER,by decide,by simp⟩
 ·exact ⟨zQn,by decide,fun c h=>by cases h; rfl⟩
theorem zJ3 (fs:zZ S C T) {k:Str} {p pk pos:Pos} {e:Expr} {c:CE} {kd:Kd} (hg:isGlob sc "isinstance"=true) (hn:C.fns.lookup ("isinstance" : Str)=none) (hk:kindOf? C k=some kd) (hgk:isGlob sc k=true) (hs:isStar e=false) (h:EOk S F q d Γ sc e c) :
  EOk S F q d Γ sc (.Call (.Name ("isinstance" : Str) p) [e,.Name k pk] [] pos) (.p1 (.isInst kd) c):=fun env J f X U s A st hne=>by
 rw [zKG,show vM (.isInst kd)=false from rfl,Bool.false_and,if_neg (by simp)] at hne ⊢
 unfold kindOf? at hk
 split at hk
 ·first | exact zB hk | exact zF hk | cases hk
 rename_i hnk
 have hnk:C.fns.lookup k=none:=Option.not_isSome_iff_eq_none.mp hnk
 have hm:=zS hk
 have hm':k ∈ kindNames.map (·.1):=List.mem_map_of_mem hm
 have hv:=zLJ hm
 refine wpAny_Call_NameR (yz fs st hg hn (.inr (.inr (.inr (.inl rfl)))) kl (by decide) ?_)
 refine zw (zh _ (by rw [List.any_cons,hs]; rfl)) (zB8 hs rfl ?_)
 refine Sim.goN (h env J f X U s A st) hne (fun _ _ x=>x.qs) (fun _ _ x=>x) fun va a' U1 g₁ s₁ hne hg k L ra hQ hE=>?_
 refine yz fs (st.keep hg k L) hgk hnk (.inr (.inr (.inl hm'))) hv.1 hv.2.1 ?_
 obtain ⟨x,hx⟩:=yS hne
 rw [hx] at hQ
 exact ⟨yF (by simp),wpAny_mono (zD1 hv.2.2 L hx ra) (fun v s' p=>hQ v s' (p.here L)) fun _ _ x=>x⟩
theorem zNU (fs:zZ S C T) (FSs:FS S F q d) {x:Str} {n:Nat} {p pos:Pos} {es:List Expr} {cs:List CE} (hg:isGlob sc x=true) (hd:(x==("__debug__" : Str))=false) (hn:C.fns.lookup x=some n) (h:All2 (GOk S F q d Γ sc) es cs) :
  EOk S F q d Γ sc (.Call (.Name x p) es [] pos) (.call n cs):=fun env J f X U s A st hne=>by
 rw [zMU] at hne ⊢
 have hr:evL F q cs J U ≠ .stuck:=fun e=>hne (by rw [e]; rfl)
 obtain ⟨mg,mb,g1,g2,g3,g4,_⟩:=fs.g
 refine wpAny_Call_NameR (wpAny_Name (wU st.fr.kind (st.fr.isGlob hg) (by rw [st.fr.glob]; exact st.lk.ns g1) (g4 x n hn) ?_) hd)
 have hl:=LOk.of h
 refine zw (zh _ hl.1) ?_
 refine Sim.goQ (P':=PV S X) (hl.2 env pos J f X U s A st) hne (fun _ _ x=>x) (fun _ _ x=>x) fun vs xs U1 g₁ s₁ hne hg k L rs hQ hE=>?_
 obtain ⟨⟨o,fd,h1,h2⟩,h3⟩:=FSs n xs U1 _ X A s₁ vs (st.keep hg k L).call L rs hne
 refine ⟨.inr ⟨_,o,fd,rfl,L.base _ _ h1,h2⟩,wpAny_call ?_⟩
 refine codeAny_mono h3 fun r s' hq=>?_
 match r,hq with
 | .ok (.ret v),hq=>exact hQ v s' hq
 | .error e,hq=>exact hE e s' hq
end
end Mine
end

section
namespace Mine
open PySem PyProof.Rows
section
variable {S:zR} {C:Ctx} {T:Nat->Option Fn} {F:Calls} {q:Bool} {d:Nat} {Γ:List Str} {sc:Scope}
variable {X X' Y Z:List Addr} {f g:List Loc} {U:Sto} {s s':Shared} {A:Around} {E:Value->Shared->Prop} {I a:Addr} {its:Items} {i:Nat}
structure Mv (I:Addr) (s s':Shared):Prop where
 rest:s'={ s with heap:=s'.heap,toks:=s'.toks }
 keep:∀ b o,b ≠ I->s.heap.get? b=some o->s'.heap.get? b=some o
 live:∃ o,s'.heap.get? I=some o
 dic:∀ o es n,s.heap.get? I=some o->o.data=.dict es n->∃ o' es' n',s'.heap.get? I=some o' /\ o'.data=.dict es' n'
theorem Mv.kp (m:Mv I s s') (hI:I ∈ Y):Kp f Y s s':=
 ⟨m.rest,fun a o e=>(by
   by_cases h:a=I
   ·rw [h]; exact m.live
   ·exact ⟨o,m.keep a o h e⟩),fun a o e _ h=>⟨o,m.keep a o (fun q=>h (q ▸ hI)) e,.refl o⟩,
  fun a o es n e d _=>(by
   by_cases h:a=I
   ·subst h; exact m.dic o es n e d
   ·exact ⟨o,es,n,m.keep a o h e,d⟩)⟩
theorem Mv.vr (m:Mv I s s') (hI:I ∈ X) {x:V} {v:Value} (r:VR S X f s.heap x v):VR S X f s'.heap x v:=
 VR.keep (fun _ _ e=>e) (fun a o h h1 h2=>⟨⟨h1,h2⟩,o,m.keep a o (fun q=>h2 (q ▸ hI)) h,.refl o⟩) x v r
theorem Mv.vrs (m:Mv I s s') (hI:I ∈ X) {x:List V} {v:List Value} (r:VRs S X f s.heap x v):VRs S X f s'.heap x v:=
 VRs.keep (fun _ _ e=>e) (fun a o h h1 h2=>⟨⟨h1,h2⟩,o,m.keep a o (fun q=>h2 (q ▸ hI)) h,.refl o⟩) x v r
theorem Mv.lk (m:Mv I s s') (hI:I ∈ X) (L:Lk S X f U s.heap):Lk S X f U s'.heap where
 base b o h:=m.keep b o (fun q=>by rw [q,(L.hid I hI).1] at h; cases h) (L.base b o h)
 len:=L.len
 nodup:=L.nodup
 fresh:=L.fresh
 hid a ha:=⟨(L.hid a ha).1,(L.hid a ha).2.1,(by
  by_cases h:a=I
  ·rw [h]; exact m.live
  ·obtain ⟨o,e⟩:=(L.hid a ha).2.2; exact ⟨o,m.keep a o h e⟩)⟩
 obj i l o hi ho:=(L.obj i l o hi ho).keep (fun _ _=>m.vr hI) (fun _ _=>m.vrs hI) fun a ha=>by
  obtain ⟨ob,h⟩:=L.live (yD hi ha)
  rw [h]; exact m.keep a ob (fun q=>(L.hid I hI).2.1 (q ▸ yD hi ha)) h
theorem VR.drop {h h':Heap} (hX:∀ a ∈ X',a ∈ X) (hZ:∀ a ∈ Z,a ∈ X) (k:∀ b o,b ∉ Z->h.get? b=some o->h'.get? b=some o) {x:V} {v:Value} (r:VR S X f h x v):VR S X' f h' x v:=
 VR.keep (fun _ _ e=>e) (fun a o h h1 h2=>⟨⟨h1,fun q=>h2 (hX a q)⟩,o,k a o (fun q=>h2 (hZ a q)) h,.refl o⟩) x v r
theorem VRs.drop {h h':Heap} (hX:∀ a ∈ X',a ∈ X) (hZ:∀ a ∈ Z,a ∈ X) (k:∀ b o,b ∉ Z->h.get? b=some o->h'.get? b=some o) {x:List V} {v:List Value} (r:VRs S X f h x v):VRs S X' f h' x v:=
 VRs.keep (fun _ _ e=>e) (fun a o h h1 h2=>⟨⟨h1,fun q=>h2 (hX a q)⟩,o,k a o (fun q=>h2 (hZ a q)) h,.refl o⟩) x v r
theorem Lk.drop {h h':Heap} (L:Lk S X f U h) (hX:∀ a ∈ X',a ∈ X /\ a ∉ Z) (hZ:∀ a ∈ Z,a ∈ X) (k:∀ b o,b ∉ Z->h.get? b=some o->h'.get? b=some o):Lk S X' f U h' where
 base b o q:=k b o (fun z=>by rw [(L.hid b (hZ b z)).1] at q; cases q) (L.base b o q)
 len:=L.len
 nodup:=L.nodup
 fresh:=L.fresh
 hid a ha:=⟨(L.hid a (hX a ha).1).1,(L.hid a (hX a ha).1).2.1,let ⟨o,e⟩:=(L.hid a (hX a ha).1).2.2; ⟨o,k a o (hX a ha).2 e⟩⟩
 obj i l o hi ho:=(L.obj i l o hi ho).keep (fun _ _=>VR.drop (fun a ha=>(hX a ha).1) hZ k) (fun _ _=>VRs.drop (fun a ha=>(hX a ha).1) hZ k) fun a ha=>by
  obtain ⟨ob,h⟩:=L.live (yD hi ha)
  rw [h]; exact k a ob (fun z=>(L.hid a (hZ a z)).2.1 (yD hi ha)) h
theorem Kp.ends {s₁:Shared} (k:Kp f Y s s₁) (hr:s'={ s₁ with heap:=s'.heap,toks:=s'.toks }) (hk:∀ b o,b ∉ Z->s₁.heap.get? b=some o->s'.heap.get? b=some o) (hZ:∀ a ∈ Z,s.heap.get? a=none):Kp f Y s s' where
 rest:=by rw [hr,k.rest]
 live a o e:=let ⟨o₁,e₁⟩:=k.live a o e; ⟨o₁,hk a o₁ (fun h=>by rw [hZ a h] at e; cases e) e₁⟩
 kept a o e h1 h2:=by
  obtain ⟨o₁,e₁,q₁⟩:=k.kept a o e h1 h2
  exact ⟨o₁,hk a o₁ (fun h=>by rw [hZ a h] at e; cases e) e₁,q₁⟩
 dicts a o es n e d h1:=by
  obtain ⟨o₁,es1,n₁,e₁,d₁⟩:=k.dicts a o es n e d h1
  exact ⟨o₁,es1,n₁,hk a o₁ (fun h=>by rw [hZ a h] at e; cases e) e₁,d₁⟩
noncomputable def ItAt (S:zR) (q:Bool) (X:List Addr) (f:List Loc) (h:Heap) (I:Addr):Items->Nat->Prop
 | .now xs,i=>(∃ ax items n,h.IsListIter I ax i /\ (ax ∉ addrs f /\ ax ∉ X) /\ IsL h ax items n /\ VRs S X f h xs items.toList) \/
   (q=false /\ ∃ ax items n,h.IsTupleIter I ax i /\ (ax ∉ addrs f /\ ax ∉ X) /\ IsT h ax items n /\ VRs S X f h xs items.toList) \/
   (q=false /\ ∃ lo hi:Int,xs=zY lo hi /\ IsRangeIter h I (lo+i) (((hi - lo).toNat:Int) - i) 1) \/
   (∃ y t,xs=xh y /\ y.cps.all (· < 128)=true /\ h.IsStrIter I "str_ascii_iterator" y t i)
 | .live n,i=>∃ ax,f[n]?=some (ax,none) /\ h.IsListIter I ax i
 | .keys n ks,i=>q=false /\ ∃ ax,f[n]?=some (ax,none) /\ h.IsKeyIter I ax i ks.length ks.length
theorem zHW {h h':Heap} {N:Addr} {m:Str->Option Value} (x:h.Ns N m) (k:∀ o,h.get? N=some o->h'.get? N=some o):h'.Ns N m:=by
 obtain ⟨o,es,ep,e,r⟩:=x; exact ⟨o,es,ep,k o e,r⟩
theorem zB1 {N:Addr} {s:Shared} {h':Heap} {tk:Nat} {m:Str->Option Value} (x:h'.Ns N m) (k:∀ b,b ≠ N->h'.get? b=s.heap.get? b):Mv N s { s with heap:=h',toks:=tk }:=by
 obtain ⟨o,es,ep,e,d,_⟩:=x
 exact ⟨rfl,fun b _ hb z=>(k b hb).trans z,⟨o,e⟩,fun _ _ _ _ _=>⟨o,es,ep,e,d⟩⟩
theorem zLM {n i:Nat} (h:i < n):(n:Int) - (i:Int) > 0:=Int.sub_pos_of_lt (Int.ofNat_lt.mpr h)
theorem zIb {n i:Nat} (h:n <= i):(n:Int) - (i:Int) <= 0:=Int.sub_nonpos_of_le (Int.ofNat_le.mpr h)
theorem zGP {lo hi:Int} {x:V} (h:(zY lo hi)[i]?=some x):x=.int (lo+i) /\ i < (hi - lo).toNat:=by
 simp only [zY,List.getElem?_map,Option.map_eq_some_iff] at h
 obtain ⟨k,hk,rfl⟩:=h
 have:=List.getElem?_range (n:=(hi - lo).toNat) (i:=i)
 by_cases hlt:i < (hi - lo).toNat
 ·rw [this hlt] at hk; cases hk; exact ⟨rfl,hlt⟩
 ·rw [List.getElem?_eq_none (by rw [List.length_range]; exact Nat.le_of_not_lt hlt)] at hk; first | exact zB hk | exact zF hk | cases hk
theorem zGO {lo hi:Int} (h:(zY lo hi)[i]?=none):(hi - lo).toNat <= i:=by
 simp only [zY,List.getElem?_map,Option.map_eq_none_iff] at h
 simpa using h
theorem kq {h h':Heap} {ax:Addr} (x:h.IsListIter I ax i) (k:∀ o,h.get? I=some o->∃ o',h'.get? I=some o' /\ SameObj o o'):h'.IsListIter I ax i:=by
 obtain ⟨o,e,c,dt⟩:=x
 obtain ⟨o',e',q⟩:=k o e
 exact ⟨o',e',q.cls.trans c,q.data.trans dt⟩
theorem zEG {h h':Heap} {ax:Addr} (x:h.IsTupleIter I ax i) (k:∀ o,h.get? I=some o->∃ o',h'.get? I=some o' /\ SameObj o o'):h'.IsTupleIter I ax i:=by
 obtain ⟨o,e,c,dt⟩:=x
 obtain ⟨o',e',q⟩:=k o e
 exact ⟨o',e',q.cls.trans c,q.data.trans dt⟩
theorem zEE {h h':Heap} {c:String} {y:Str} {t:Tok} (x:h.IsStrIter I c y t i) (k:∀ o,h.get? I=some o->∃ o',h'.get? I=some o' /\ SameObj o o'):h'.IsStrIter I c y t i:=by
 obtain ⟨o,e,c,dt⟩:=x
 obtain ⟨o',e',q⟩:=k o e
 exact ⟨o',e',q.cls.trans c,q.data.trans dt⟩
theorem zEb {y:Str} {x:V} (h:(xh y)[i]?=some x):∃ c,y.cps[i]?=some c /\ x=.str ⟨#[c]⟩:=by
 unfold xh yI at h
 rw [List.getElem?_map] at h
 cases e:y.cps.toList[i]? with
 | none=>rw [e] at h; first | exact zB h | exact zF h | cases h
 | some c=>rw [e] at h; cases h; exact ⟨c,by rw [<- Array.getElem?_toList]; exact e,rfl⟩
theorem zEa {y:Str} (h:(xh y)[i]?=none):y.cps[i]?=none:=by
 unfold xh yI at h
 rw [List.getElem?_map] at h
 cases e:y.cps.toList[i]? with
 | none=>rw [<- Array.getElem?_toList]; exact e
 | some c=>rw [e] at h; first | exact zB h | exact zF h | cases h
theorem ItAt.keep {h h':Heap} {f':List Loc} (kf:∀ (i:Nat) (l:Loc),f[i]?=some l->f'[i]?=some l)
  (kh:∀ a o,h.get? a=some o->a ∉ addrs f->a ∉ X->(a ∉ addrs f' /\ a ∉ X') /\ ∃ o',h'.get? a=some o' /\ SameObj o o')
  (kI:∀ o,h.get? I=some o->∃ o',h'.get? I=some o' /\ SameObj o o') (x:ItAt S q X f h I its i):ItAt S q X' f' h' I its i:=by
 cases its with
 | now xs =>
  rcases x with ⟨ax,items,n,h1,h2,h3,h4⟩ | ⟨hq,ax,items,n,h1,h2,h3,h4⟩ | ⟨hq,lo,hi,h1,h2⟩ | ⟨y,t,h1,h2,h3⟩
  ·obtain ⟨q1,o',q2,q3⟩:=kh ax _ h3 h2.1 h2.2
   exact .inl ⟨ax,items,n,kq h1 kI,q1,q2.trans (congrArg some (q3.exact fun _ _ q=>by cases q)),VRs.keep kf kh _ _ h4⟩
  ·obtain ⟨q1,o',q2,q3⟩:=kh ax _ h3 h2.1 h2.2
   exact .inr (.inl ⟨hq,ax,items,n,zEG h1 kI,q1,q2.trans (congrArg some (q3.exact fun _ _ q=>by cases q)),VRs.keep kf kh _ _ h4⟩)
  ·obtain ⟨o',q2,q3⟩:=kI _ h2
   exact .inr (.inr (.inl ⟨hq,lo,hi,h1,q2.trans (congrArg some (q3.exact fun _ _ q=>by cases q))⟩))
  ·exact .inr (.inr (.inr ⟨y,t,h1,h2,zEE h3 kI⟩))
 | live n =>
  obtain ⟨ax,h1,h2⟩:=x
  exact ⟨ax,kf _ _ h1,kq h2 kI⟩
 | keys n ks =>
  obtain ⟨hq,ax,h1,o,e,c,dt⟩:=x
  obtain ⟨o',e',z⟩:=kI o e
  exact ⟨hq,ax,kf _ _ h1,o',e',z.cls.trans c,z.data.trans dt⟩
theorem ItAt.keepK (k:Kp f [] s s') (hg:Fresh g s) (hI:I ∈ X) (hXf:∀ a ∈ X,a ∉ addrs f) (x:ItAt S q X f s.heap I its i):ItAt S q X (f++g) s'.heap I its i:=
 ItAt.keep (f:=f) (f':=f++g) (X:=X) (X':=X) (h:=s.heap) (fun _ _ e=>List.getElem?_append_left (List.getElem?_eq_some_iff.mp e).1 ▸ e)
  (fun a o ho h1 h2=>⟨⟨fun h=>(mem_addrs_append.mp h).elim h1 (zz hg ho),h2⟩,k.kept a o ho h1 fun h=>nomatch h⟩) (fun o ho=>k.kept I o ho (hXf I hI) fun h=>nomatch h) x
theorem ItAt.mv (m:Mv a s s') (ha:a ∈ X) (hne:I ≠ a) (x:ItAt S q X f s.heap I its i):ItAt S q X f s'.heap I its i:=
 ItAt.keep (fun _ _ e=>e) (fun b o ho h1 h2=>⟨⟨h1,h2⟩,o,m.keep b o (fun q=>h2 (q ▸ ha)) ho,.refl o⟩) (fun o ho=>⟨o,m.keep I o hne ho,.refl o⟩) x
theorem ItAt.hideNew (e:Ext s s') (hn:s.heap.get? a=none) (x:ItAt S q X f s.heap I its i):ItAt S q (a :: X) f s'.heap I its i:=
 ItAt.keep (fun _ _ e=>e) (fun b ob q h1 h2=>⟨⟨h1,fun h=>(List.mem_cons.mp h).elim (fun h=>by subst h; rw [hn] at q; cases q) h2⟩,ob,e.keep b ob q,.refl ob⟩) (fun o ho=>⟨o,e.keep I o ho,.refl o⟩) x
theorem kT {h':Heap} {t:Nat} {o:Obj} (hs:Heap.SameBut I s.heap h') (hl:h'.get? I=some o) (hd:∀ o es n,s.heap.get? I=some o->o.data ≠ .dict es n):Mv I s { s with heap:=h',toks:=t }:=
 ⟨rfl,fun b o hb e=>(hs.2 b hb).trans e,⟨o,hl⟩,fun o es n e d=>absurd d (hd o es n e)⟩
theorem zCs {n:Nat} {ks:List Int} {r:Option V} (h:zt U (.keys n ks) i=some r):∃ es,U[n]?=some (.dict es) /\ es.map (·.1)=ks /\ ks[i]?.map V.int=r:=by
 delta zt at h; dsimp only at h
 split at h
 ·rename_i es ho
  split at h
  ·rename_i hk; exact ⟨es,ho,hk,Option.some.inj h⟩
  ·exact zB h
 ·exact zB h
inductive zOg (S:zR) (q:Bool) (X:List Addr) (f:List Loc) (I:Addr) (its:Items) (i:Nat) (x:V) (s:Shared) (r:Option Value) (s':Shared):Prop
 | mk (v:Value) (e:r=some v) (m:Mv I s s') (it:ItAt S q X f s'.heap I its (i+1)) (rv:VR S X f s'.heap x v)
theorem zCr {x:V} (hI:I ∈ X) (L:Lk S X f U s.heap) (it:ItAt S q X f s.heap I its i) (hn:zt U its i=some (some x)) :
  wpAny (model S.prog S.w) A (pyNext (.ref I)) (zOg S q X f I its i x s) E s:=by
 cases its with
 | now xs =>
  have hx:xs[i]?=some x:=by simpa [zt] using hn
  rcases it with ⟨ax,items,n,h1,h2,h3,h4⟩ | ⟨hq,ax,items,n,h1,h2,h3,h4⟩ | ⟨hq,lo,hi,rfl,h2⟩ | ⟨y,t,rfl,h2,h3⟩
  ·obtain ⟨v,hv,rv⟩:=wp h4 hx
   refine wpAny_pyNext_list_item h1 (IsL.isList h3) (by simpa using hv) fun h' hit' hs'=>?_
   obtain ⟨o1,e1,_,d1⟩:=id h1
   obtain ⟨o2,e2,_⟩:=id hit'
   have m:Mv I s { s with heap:=h' }:=kT (t:=s.toks) hs' e2 fun o es n e d=>by rw [e1] at e; cases e; rw [d1] at d; cases d
   have hne:ax ≠ I:=fun q=>h2.2 (q ▸ hI)
   exact ⟨v,rfl,m,.inl ⟨ax,items,n,hit',h2,m.keep ax _ hne h3,m.vrs hI h4⟩,m.vr hI rv⟩
  ·obtain ⟨v,hv,rv⟩:=wp h4 hx
   refine wpAny_pyNext_tuple_item h1 ⟨_,h3,rfl,n,rfl⟩ (by simpa using hv) fun h' hit' hs'=>?_
   obtain ⟨o1,e1,_,d1⟩:=id h1
   obtain ⟨o2,e2,_⟩:=id hit'
   have m:Mv I s { s with heap:=h' }:=kT (t:=s.toks) hs' e2 fun o es n e d=>by rw [e1] at e; cases e; rw [d1] at d; cases d
   have hne:ax ≠ I:=fun q=>h2.2 (q ▸ hI)
   exact ⟨v,rfl,m,.inr (.inl ⟨hq,ax,items,n,hit',h2,m.keep ax _ hne h3,m.vrs hI h4⟩),m.vr hI rv⟩
  ·obtain ⟨rfl,hlt⟩:=zGP hx
   refine wpAny_pyNext_range_item h2 (zLM hlt) fun h' hit' hs'=>?_
   have m:Mv I s { s with heap:=h',toks:=s.toks+1 }:=kT hs' hit' fun o es n e d=>by rw [h2] at e; cases e; cases d
   refine ⟨_,rfl,m,.inr (.inr (.inl ⟨hq,lo,hi,rfl,?_⟩)),⟨_,rfl⟩⟩
   have e1:lo+((i+1:Nat):Int)=lo+i+1:=(Int.add_assoc lo (i:Int) 1).symm
   have e2:(((hi - lo).toNat:Int) - ((i+1:Nat):Int))=((hi - lo).toNat:Int) - i - 1:=(Int.sub_sub ((hi - lo).toNat:Int) (i:Int) 1).symm
   rw [e1,e2]; exact hit'
  ·obtain ⟨c,hc,rfl⟩:=zEb hx
   refine wpAny_pyNext_ascii_item h3 hc fun h' hit' hs'=>?_
   obtain ⟨o1,e1,_,d1⟩:=id h3
   obtain ⟨o2,e2,_⟩:=id hit'
   have m:Mv I s { s with heap:=h',toks:=s.toks+1 }:=kT hs' e2 fun o es n e d=>by rw [e1] at e; cases e; rw [d1] at d; cases d
   have hlt:c < 128:=by
    have:=(Array.all_eq_true'.mp h2) c (Array.mem_of_getElem? hc)
    simpa using this
   refine ⟨_,rfl,m,.inr (.inr (.inr ⟨y,t,rfl,h2,hit'⟩)),?_⟩
   refine ⟨⟨_,rfl⟩,by show 1 <= LIM; decide,?_⟩
   show (#[c]:Array Nat).all (· < 0x110000)=true
   have:=Nat.lt_trans hlt (show 128 < 0x110000 by decide)
   simp [this]
 | live n =>
  obtain ⟨ax,h1,h2⟩:=it
  delta zt at hn; dsimp only at hn
  split at hn
  ·rename_i xs ho
   have hx:xs[i]?=some x:=by simpa using hn
   obtain ⟨vs,k,il,rs,hl⟩:=L.obj n (ax,none) _ h1 ho
   obtain ⟨v,hv,rv⟩:=wp rs hx
   refine wpAny_pyNext_list_item h2 (IsL.isList il) (by simpa using hv) fun h' hit' hs'=>?_
   obtain ⟨o1,e1,_,d1⟩:=id h2
   obtain ⟨o2,e2,_⟩:=id hit'
   have m:Mv I s { s with heap:=h' }:=kT (t:=s.toks) hs' e2 fun o es n e d=>by rw [e1] at e; cases e; rw [d1] at d; cases d
   exact ⟨v,rfl,m,⟨ax,h1,hit'⟩,m.vr hI rv⟩
  ·first | exact zB hn | exact zF hn | cases hn
 | keys n ks =>
  obtain ⟨hq,ax,h1,h2⟩:=it
  obtain ⟨es,ho,rfl,hx⟩:=zCs hn
  obtain ⟨kvs,hd,e1,_⟩:=L.obj n (ax,none) _ h1 ho
  replace hx:=map_some hx
  obtain ⟨k,hk,rfl⟩:=hx
  have hl:(es.map (·.1)).length=kvs.length:=by rw [<- e1,List.length_map]
  rw [<- e1,List.getElem?_map] at hk
  replace hk:=map_some hk
  obtain ⟨⟨k',v⟩,hkv,rfl⟩:=hk
  rw [hl] at h2
  refine wpAny_pyNext_dict_item (knd:=intKind S.prog S.w) h2 hd hkv fun key h' hkey hit' hs'=>?_
  obtain ⟨o1,q1,_,d1⟩:=id h2
  obtain ⟨o2,q2,_⟩:=id hit'
  have m:Mv I s { s with heap:=h' }:=kT (t:=s.toks) hs' q2 fun o es n e d=>by rw [q1] at e; cases e; rw [d1] at d; cases d
  refine ⟨key,rfl,m,⟨hq,ax,h1,by rw [hl]; exact hit'⟩,?_⟩
  replace hkey:Value.isInt k' key=true:=hkey
  cases key with
  | int j t=>exact ⟨t,by rw [eq_of_beq hkey]⟩
  | _=>cases hkey
theorem zE8 (hh:q=false->A.handled=none) (hn':Hn A s.heap) (L:Lk S X f U s.heap) (it:ItAt S q X f s.heap I its i) (hn:zt U its i=some none) :
  wpAny (model S.prog S.w) A (pyNext (.ref I)) (fun r s'=>r=none /\ s'={ s with heap:=s'.heap,toks:=s'.toks } /\ ∀ b o,b ≠ I->s.heap.get? b=some o->s'.heap.get? b=some o) E s:=by
 cases its with
 | now xs =>
  have hx:xs[i]?=none:=by simpa [zt] using hn
  rcases it with ⟨ax,items,n,h1,h2,h3,h4⟩ | ⟨hq,ax,items,n,h1,h2,h3,h4⟩ | ⟨hq,lo,hi,rfl,h2⟩ | ⟨y,t,rfl,h2,h3⟩
  ·have:items[i]?=none:=by
    have z:=zc h4
    rw [List.getElem?_eq_none_iff] at hx
    exact Array.getElem?_eq_none_iff.mpr (by rw [z]; exact hx)
   exact zAL hn' h1 (IsL.isList h3) this fun h' he=>⟨rfl,rfl,he⟩
  ·have:items[i]?=none:=by
    have z:=zc h4
    rw [List.getElem?_eq_none_iff] at hx
    exact Array.getElem?_eq_none_iff.mpr (by rw [z]; exact hx)
   exact wpAny_pyNext_tuple_end (hh hq) h1 ⟨_,h3,rfl,n,rfl⟩ this fun h' he=>⟨rfl,rfl,he⟩
  ·have:=zGO hx
   exact wpAny_pyNext_range_end (hh hq) h2 (zIb this) fun h' he=>⟨rfl,rfl,he⟩
  ·exact zFp hn' h3 (zEa hx) fun h' he=>⟨rfl,rfl,he⟩
 | live n =>
  obtain ⟨ax,h1,h2⟩:=it
  delta zt at hn; dsimp only at hn
  split at hn
  ·rename_i xs ho
   have hx:xs[i]?=none:=by simpa using hn
   obtain ⟨vs,k,il,rs,hl⟩:=L.obj n (ax,none) _ h1 ho
   have:vs[i]?=none:=by
    have z:=zc rs
    rw [List.getElem?_eq_none_iff] at hx
    exact Array.getElem?_eq_none_iff.mpr (by rw [z]; exact hx)
   exact zAL hn' h2 (IsL.isList il) this fun h' he=>⟨rfl,rfl,he⟩
  ·first | exact zB hn | exact zF hn | cases hn
 | keys n ks =>
  obtain ⟨hq,ax,h1,h2⟩:=it
  obtain ⟨es,ho,rfl,hx⟩:=zCs hn
  obtain ⟨kvs,hd,e1,_⟩:=L.obj n (ax,none) _ h1 ho
  have hx:=Option.map_eq_none_iff.mp hx
  have hl:(es.map (·.1)).length=kvs.length:=by rw [<- e1,List.length_map]
  rw [<- e1,List.getElem?_map] at hx
  rw [hl] at h2
  exact wpAny_pyNext_dict_end (knd:=intKind S.prog S.w) (hh hq) h2 hd (Option.map_eq_none_iff.mp hx) fun h' he=>⟨rfl,rfl,he⟩
end
end Mine
end

section
namespace Mine
open PySem PyProof.Rows
inductive QI (S:zR) (q:Bool) (X:List Addr) (f:List Loc) (s:Shared) (r:R Items) (it:Value) (s':Shared):Prop where
 | mk (its:Items) (U':Sto) (g:List Loc) (I:Addr) (e1:r=.ok its U') (e2:it=.ref I) (hI:s.heap.get? I=none) (hX:I ∉ X) (hg:Fresh g s) (k:Kp f [] s s') (L:Lk S (I :: X) (f++g) U' s'.heap) (x:ItAt S q (I :: X) (f++g) s'.heap I its 0)
section
variable {S:zR} {C:Ctx} {T:Nat->Option Fn} {F:Calls} {q:Bool} {d:Nat} {Γ:List Str} {sc:Scope}
variable {X X' Y Z:List Addr} {f g:List Loc} {U:Sto} {s s':Shared} {A:Around} {E:Value->Shared->Prop} {I a:Addr} {its:Items} {i:Nat}
theorem QI.lifts:zCR [] (fun f s r a s'=>QI S q X f s r a s'):=fun f g s s₁ r c s' hg k z=>by
 obtain ⟨its,U',g',I,e1,e2,e3,e4,hg',k',L,x⟩:=z
 rw [List.append_assoc] at L x
 exact ⟨its,U',g++g',I,e1,e2,zu k.live e3,e4,hg.trans k.live hg',k.trans hg k',L,x⟩
theorem QI.made {o:Obj} {t:Nat} (L:Lk S X f U s.heap) (x:ItAt S q (s.heap.objs.size :: X) f (s.heap.push o) s.heap.objs.size its 0) (hl:(s.heap.push o).get? s.heap.objs.size=some o) :
  QI S q X f s (.ok its U) (.ref s.heap.objs.size) { s with heap:=s.heap.push o,toks:=t }:=by
 have ex:Ext s { s with heap:=s.heap.push o,toks:=t }:=.heap fun _ _ e=>Heap.get?_push_of_some _ e
 refine ⟨its,U,[],s.heap.objs.size,rfl,rfl,yj _,(L.new (yj _)).2,.nil s,ex.kp f [],?_,?_⟩
 ·rw [List.append_nil]; exact L.hideNew ex (yj _) hl
 ·rw [List.append_nil]; exact x
theorem QI.moved {r:R Items} {v:Value} {s₁:Shared} (e:Ext s s₁) (h:QI S q X f s₁ r v s'):QI S q X f s r v s':=
 QI.lifts f [] s s₁ r v s' (.nil s) (e.kp f []) (by rwa [List.append_nil])
theorem zFd {o:Obj} {xs:List V} {vs:List Value} (r:VRs S X f s.heap xs vs):VRs S (s.heap.objs.size :: X) f (s.heap.push o) xs vs:=
 VRs.hideNew (s':={ s with heap:=s.heap.push o }) (Ext.push s o) (yj _) r
theorem zBw {k:SK} {vs:List V} (h:yd q U k vs=some its):yM U k vs=some its /\ (zLR U k vs=true->q=false):=by
 unfold yd at h
 by_cases hq:(q&&zLR U k vs)=true
 ·rw [if_pos hq] at h; exact zB h
 ·rw [if_neg hq] at h
  refine ⟨h,fun hl=>?_⟩
  rw [hl,Bool.and_true] at hq
  exact Bool.eq_false_iff.mpr hq
theorem zF8 {v:V} {w:Value} (L:Lk S X f U s.heap) (hi:yM U .val [v]=some its) (hq:zOI U v=true->q=false) (r:VR S X f s.heap v w):wpAny (model S.prog S.w) A (pyIter w) (QI S q X f s (.ok its U)) E s:=by
 cases v with
 | tup xs =>
  cases hi
  obtain ⟨p,vs,n,rfl,hp,il,rs,hlen⟩:=jO r
  refine wpAny_pyIter_tuple ⟨_,il,rfl,n,rfl⟩ (QI.made (t:=s.toks) L (.inr (.inl ⟨hq rfl,p,vs,n,⟨_,Heap.get?_push_size _ rfl,rfl,rfl⟩,⟨hp.1,?_⟩,Heap.get?_push_of_some _ il,zFd rs⟩)) (Heap.get?_push_size _ rfl))
  exact fun h=>(List.mem_cons.mp h).elim (fun h=>by have:=yj s.heap; rw [<- h,il] at this; cases this) hp.2
 | lst xs =>
  cases hi
  obtain ⟨p,vs,n,rfl,hp,il,rs,hlen⟩:=r
  refine wpAny_pyIter_list (IsL.isList il) (QI.made (t:=s.toks) L (.inl ⟨p,vs,n,⟨_,Heap.get?_push_size _ rfl,rfl,rfl⟩,⟨hp.1,?_⟩,Heap.get?_push_of_some _ il,zFd rs⟩) (Heap.get?_push_size _ rfl))
  exact fun h=>(List.mem_cons.mp h).elim (fun h=>by have:=yj s.heap; rw [<- h,il] at this; cases this) hp.2
 | ref n =>
  replace hi:kG n U[n]?=some its:=hi
  unfold kG at hi
  split at hi
  ·rename_i xs ho
   cases hi
   obtain ⟨l,hl,rfl⟩:=r
   have:=L.obj n l _ hl ho
   obtain ⟨p,dd⟩:=l
   cases dd with
   | none =>
    obtain ⟨vs,k,il,rs,hlen⟩:=this
    exact wpAny_pyIter_list (IsL.isList il) (QI.made (t:=s.toks) L ⟨p,hl,⟨_,Heap.get?_push_size _ rfl,rfl,rfl⟩⟩ (Heap.get?_push_size _ rfl))
   | some dd=>exact this.elim
  ·rename_i es ho
   cases hi
   obtain ⟨l,hl,rfl⟩:=r
   have:=L.obj n l _ hl ho
   obtain ⟨p,dd⟩:=l
   cases dd with
   | none =>
    obtain ⟨kvs,hd,e1,_,_,hy⟩:=this
    have hlen:(es.map (·.1)).length=kvs.length:=by rw [<- e1,List.length_map]
    exact wpAny_pyIter_dict (knd:=intKind S.prog S.w) hy hd (QI.made (t:=s.toks) L ⟨hq (by show zOH U[n]?=true; rw [ho]; rfl),p,hl,⟨_,Heap.get?_push_size _ rfl,rfl,by rw [hlen]; rfl⟩⟩ (Heap.get?_push_size _ rfl))
   | some dd=>exact this.elim
  ·first | exact zB hi | exact zF hi | cases hi
 | str y =>
  obtain ⟨⟨t,rfl⟩,_⟩:=yy r
  replace hi:(if y.cps.all (· < 128)=true then some (Items.now (xh y)) else none)=some its:=hi
  split at hi
  ·rename_i ha
   cases hi
   exact wpAny_pyIter_ascii ha (QI.made (t:=s.toks) L (.inr (.inr (.inr ⟨y,t,rfl,ha,⟨_,Heap.get?_push_size _ rfl,rfl,rfl⟩⟩))) (Heap.get?_push_size _ rfl))
  ·first | exact zB hi | exact zF hi | cases hi
 | _=>first | exact zB hi | exact zF hi | cases hi
noncomputable def zAy (S:zR) (F:Calls) (q:Bool) (d:Nat) (Γ:List Str) (sc:Scope) (e:Expr) (k:SK) (cs:List CE):Prop:=(∀ env x,foldedSetIterable e env x=pure x) /\
 ∀ (env:Env) (J:List V) (f:List Loc) (X:List Addr) (U:Sto) (s:Shared) (A:Around),St S q d Γ sc env J f X U s A ->
  ((evL F q cs J U).bind fun vs U=>R.lift U (yd q U k vs)) ≠ .stuck ->
  wpAny (model S.prog S.w) A (eval e env) (fun x s₁=>wpAny (model S.prog S.w) A (pyIter x) (QI S q X f s ((evL F q cs J U).bind fun vs U=>R.lift U (yd q U k vs))) (ES S X [] f false s ((evL F q cs J U).bind fun vs U=>R.lift U (yd q U k vs))) s₁)
   (ES S X [] f false s ((evL F q cs J U).bind fun vs U=>R.lift U (yd q U k vs))) s
theorem zNe {e:Expr} {c:CE} (h:GOk S F q d Γ sc e c):zAy S F q d Γ sc e .val [c]:=by
 refine ⟨h.fold,fun env J f X U s A st hne=>?_⟩
 have key:((evL F q [c] J U).bind fun vs U=>R.lift U (yd q U .val vs))=(evE F q c J U).bind fun v U=>R.lift U (yd q U .val [v]):=by
  rw [zCJ,R.bind_assoc]
  congr 1
 rw [key] at hne ⊢
 refine Sim.go (K:=fun f s r a s'=>QI S q X f s r a s') QI.lifts (h.eo env J f X U s A st) hne (fun _ _ x=>x) (fun _ _ x=>x) fun va a' U1 g₁ s₁ hne hg k L ra hQ hE=>?_
 obtain ⟨its,hi⟩:=yS hne
 rw [hi] at hQ
 obtain ⟨hi,hl⟩:=zBw hi
 exact wpAny_mono (zF8 L hi hl ra) hQ fun _ _ x=>x
theorem zL9 {lo:Int} (h0:0 <= lo) (h1:lo <= LIM):-(2 ^ 62) <= lo /\ lo < 2 ^ 62:=⟨Int.le_trans (by decide) h0,Int.lt_of_le_of_lt h1 (by decide)⟩
theorem zL8 {hi:Int} (h2:hi.natAbs <= LIM):-(2 ^ 62) <= hi /\ hi < 2 ^ 62:=by
 have h:=Int.ofNat_le.mpr h2
 have a:hi <= (hi.natAbs:Int):=Int.le_natAbs
 have b:-hi <= (hi.natAbs:Int):=by rw [<- Int.natAbs_neg]; exact Int.le_natAbs
 exact ⟨Int.neg_le_of_neg_le (Int.le_trans (Int.le_trans b h) (by decide)),Int.lt_of_le_of_lt (Int.le_trans a h) (by decide)⟩
theorem zP0 {lo hi:Int}:(if lo < hi then hi - lo else (0:Int))=((hi - lo).toNat:Int) - ((0:Nat):Int):=by
 by_cases h:lo < hi
 ·rw [if_pos h,Int.toNat_of_nonneg (Int.sub_nonneg_of_le (Int.le_of_lt h))]; exact (Int.sub_zero _).symm
 ·rw [if_neg h,Int.toNat_of_nonpos (Int.sub_nonpos_of_le (Int.not_lt.mp h))]; rfl
theorem zGQ {lo hi:Int} {t u v:Tok} (hq:q=false) (L:Lk S X f U s.heap) (h0:0 <= lo) (h1:lo <= LIM) (h2:hi.natAbs <= LIM) :
  wpAny (model S.prog S.w) A (pyIter (.ref s.heap.objs.size)) (QI S q X f s (.ok (.now (zY lo hi)) U)) E { s with heap:=s.heap.push { cls:=.type "range",data:=.fields #[.int lo t,.int hi u,.int 1 v] },toks:=s.toks }:=by
 have hL:LIM=1048576:=rfl
 have ex:Ext s { s with heap:=s.heap.push { cls:=.type "range",data:=.fields #[.int lo t,.int hi u,.int 1 v] },toks:=s.toks }:=.heap fun _ _ e=>Heap.get?_push_of_some _ e
 refine wpAny_pyIter_range (IsRange.new ..) (small_one (zL9 h0 h1).1 (zL9 h0 h1).2 (zL8 h2).1 (zL8 h2).2) (QI.moved ex (QI.made (t:=s.toks) (ex.lk L) (.inr (.inr (.inl ⟨hq,lo,hi,rfl,?_⟩))) (Heap.get?_push_size _ rfl)))
 have e1:Builtin.Range.rangeSize lo hi 1=((hi - lo).toNat:Int) - ((0:Nat):Int):=by rw [rangeSize_one]; exact zP0
 have e2:lo+((0:Nat):Int)=lo:=by simp
 show IsRangeIter _ _ (lo+((0:Nat):Int)) _ 1
 rw [<- e1,e2]
 exact Heap.get?_push_size _ rfl
theorem zKC (fs:zZ S C T) {p pos:Pos} {es:List Expr} {cs:List CE} {k:SK} (hg:isGlob sc "range"=true) (hn:C.fns.lookup ("range" : Str)=none) (h:All2 (GOk S F q d Γ sc) es cs)
  (hk:(k=.range1 /\ cs.length=1) \/ False):zAy S F q d Γ sc (.Call (.Name ("range" : Str) p) es [] pos) k cs:=by
 refine ⟨fun _ _=>rfl,fun env J f X U s A st hne=>?_⟩
 have hl:=LOk.of h
 refine wpAny_Call_NameR (yz fs st hg hn (.inr (.inr (.inr (.inr rfl)))) zKU (by decide) ?_)
 refine zw (zh _ hl.1) ?_
 refine Sim.go (K:=fun f s r a s'=>QI S q X f s r a s') QI.lifts (hl.2 env pos J f X U s A st) hne (fun _ _ x=>x) (fun _ _ x=>x) fun vs xs U1 g₁ s₁ hne hg k L rs hQ hE=>?_
 refine ⟨yF (by simp),?_⟩
 obtain ⟨its,hi⟩:=yS hne
 rw [hi] at hQ
 obtain ⟨hi,hlo⟩:=zBw hi
 rcases hk with ⟨rfl,_⟩ | hk
 ·obtain ⟨n,rfl⟩:∃ n,xs=[.int n]:=by
   rcases xs with _ | ⟨x,_ | ⟨y,_ | ⟨z,r⟩⟩⟩
   ·first | exact zB hi | exact zF hi | cases hi
   ·cases x <;> first | exact ⟨_,rfl⟩ | cases hi
   ·first | exact zB hi | exact zF hi | cases hi
   ·first | exact zB hi | exact zF hi | cases hi
  match vs,rs with
  | [w],rs =>
   obtain ⟨t,rfl⟩:=yH rs.1
   replace hi:(if n.natAbs <= LIM then some (Items.now (zY 0 n)) else none)=some its:=hi
   split at hi
   ·rename_i hb
    cases hi
    refine call_range_1 ?_
    have ex:Ext s₁ { s₁ with toks:=s₁.toks+1+1 }:=.toks s₁ _
    exact wpAny_mono (zGQ (s:={ s₁ with toks:=s₁.toks+1+1 }) (hlo rfl) L (Int.le_refl 0) (by decide) hb) (fun v s'' x=>hQ v s'' (QI.moved ex x)) fun _ _ x=>x
   ·first | exact zB hi | exact zF hi | cases hi
  | [],rs=>exact False.elim rs
  | _ :: _ :: _,rs=>exact False.elim rs.2
 ·exact hk.elim
end
end Mine
end

section
namespace Mine
open PySem PyProof.Rows
section
variable {S:zR} {C:Ctx} {T:Nat->Option Fn} {F:Calls} {q:Bool} {d:Nat} {Γ:List Str} {sc:Scope}
variable {X X' Y Z:List Addr} {f g:List Loc} {U:Sto} {s s':Shared} {A:Around} {E:Value->Shared->Prop} {I a:Addr} {its:Items} {i:Nat} {env:Env} {J:List V}
theorem zFo {l:Addr} {items:Array Value} {n:Nat} {x:Value} {Q:Value->Shared->Prop} (hl:IsL s.heap l items n) (h:Q .none { s with heap:=s.heap.update l (Obj.mapSeq (·.push x)) }) (hsz:items.size <= sizeLine) :
  wpAny (model S.prog S.w) A (call (.builtin "list.append") [.ref l,x]) Q E s:=by
 refine wpAny_call_entry slot_list_append (IsL.isList hl).typeIs entry_list_append ?_ (args_list_append _ _)
 show wpAny _ _ (updateSeq l (·.push x) >>= fun _=>ret .none) _ _ s
 refine wpAny_bind ?_
 have hz':(items.push x).size <= sizeLine+1:=by rw [Array.size_push]; omega
 exact wpAny_updateSeq hl rfl (wpAny_pure ⟨.none,rfl,h⟩) (hz:=hsz) (_hz':=hz')
theorem IsL.appended {h:Heap} {l:Addr} {items:Array Value} {n:Nat} {x:Value} (hl:IsL h l items n):∃ n',IsL (h.update l (Obj.mapSeq (·.push x))) l (items.push x) n':=⟨_,IsL.update hl _⟩
theorem jC:∀ (names:List (Str × NameKind)) (cs:List (Str × Addr)),(∀ n,(n,NameKind.free) ∈ names->∃ c,env.cells.lookup n=some c)->(∀ y c,cs.lookup y=some c->env.cells.lookup y=some c) ->
  ∃ cl,(forIn names cs (fun x r=>do
    let __x <- pure PUnit.unit
    match x with
    | (name,kind)=>if (kind==.free)=true then do let y <- cellOf env name; pure (ForInStep.yield ((name,y) :: r)) else pure (ForInStep.yield r)):Sem (List (Str × Addr)))=pure cl /\ (∀ y c,cl.lookup y=some c->env.cells.lookup y=some c) /\
   (∀ y,(cs.lookup y).isSome=true->(cl.lookup y).isSome=true) /\ ∀ y,(y,NameKind.free) ∈ names->(cl.lookup y).isSome=true
 | [],cs,_,h2=>⟨cs,rfl,h2,fun _ h=>h,fun _ h=>nomatch h⟩
 | (n,k) :: r,cs,h1,h2=>by
  have h1':∀ n,(n,NameKind.free) ∈ r->∃ c,env.cells.lookup n=some c:=fun n hn=>h1 n (List.mem_cons_of_mem _ hn)
  by_cases hk:k=.free
  ·subst hk
   obtain ⟨c,hc⟩:=h1 n List.mem_cons_self
   obtain ⟨cl,e1,e2,e3,e4⟩:=jC r ((n,c) :: cs) h1' (fun y c' e=>by
    rw [List.lookup_cons] at e
    split at e
    ·rename_i hy; rw [eq_of_beq hy]; cases e; exact hc
    ·exact h2 y c' e)
   refine ⟨cl,?_,e2,fun y hy=>e3 y ?_,fun y hy=>?_⟩
   ·rw [List.forIn_cons]
    simp only [cellOf,hc]
    exact e1
   ·rw [List.lookup_cons]; split
    ·rfl
    ·exact hy
   ·rcases List.mem_cons.mp hy with e | hy
    ·cases e; exact e3 n (by simp)
    ·exact e4 y hy
  ·obtain ⟨cl,e1,e2,e3,e4⟩:=jC r cs h1' h2
   refine ⟨cl,?_,e2,e3,fun y hy=>?_⟩
   ·rw [List.forIn_cons]
    have:(k==NameKind.free)=false:=by simpa using hk
    simp only [this]
    exact e1
   ·rcases List.mem_cons.mp hy with e | hy
    ·cases e; exact absurd rfl hk
    ·exact e4 y hy
theorem zFt {scope:Scope} (h:∀ n,(n,NameKind.free) ∈ scope.names->∃ c,env.cells.lookup n=some c):∃ cl,closureFor scope env=pure cl /\ ∀ y,(y,NameKind.free) ∈ scope.names->∃ c,cl.lookup y=some c /\ env.cells.lookup y=some c:=by
 obtain ⟨cl,e1,e2,_,e4⟩:=jC (env:=env) scope.names [] h (fun y c e=>by simp at e)
 refine ⟨cl,?_,fun y hy=>?_⟩
 ·simp only [closureFor]
  have:=e1
  simp only [pure_bind,bind_pure] at this ⊢
  exact this
 ·obtain ⟨c,hc⟩:=Option.isSome_iff_exists.mp (e4 y hy)
  exact ⟨c,hc,e2 y c hc⟩
end
end Mine
end

section
namespace Mine
open PySem PyProof.Rows
theorem kH {env:Env} {scope:Scope} (x:Str):(relabel scope env).names.lookup x=scope.names.lookup x \/ (scope.names.lookup x=some .free /\ (relabel scope env).names.lookup x=some .cell):=by
 show (scope.names.map fun (n,k)=>if (k==NameKind.free&&env.scope.kind==.function&&env.kindOf n==some .cell) then (n,NameKind.cell) else (n,k)).lookup x=_ \/ (_ /\ (scope.names.map fun (n,k)=>if (k==NameKind.free&&env.scope.kind==.function&&env.kindOf n==some .cell) then (n,NameKind.cell) else (n,k)).lookup x=some .cell)
 generalize scope.names=names
 induction names with
 | nil=>exact .inl rfl
 | cons p r ih =>
  obtain ⟨n,k⟩:=p
  simp only [List.map_cons]
  by_cases hc:(k==NameKind.free&&env.scope.kind==.function&&env.kindOf n==some .cell)=true
  ·rw [if_pos hc]
   rw [List.lookup_cons,List.lookup_cons]
   have hk:k=.free:=by simp only [Bool.and_eq_true] at hc; exact eq_of_beq hc.1.1
   split
   ·exact .inr ⟨by rw [hk],rfl⟩
   ·exact ih
  ·rw [if_neg hc]
   rw [List.lookup_cons,List.lookup_cons]
   split
   ·exact .inl rfl
   ·exact ih
section
variable {S:zR} {C:Ctx} {T:Nat->Option Fn} {F:Calls} {q:Bool} {d:Nat} {Γ:List Str} {sc:Scope}
variable {X X' Y Z:List Addr} {f g:List Loc} {U:Sto} {s s':Shared} {A:Around} {E:Value->Shared->Prop} {I a:Addr} {its:Items} {i:Nat} {env:Env} {J:List V}
theorem vK (x y:Str):∀ (Γ:List Str),zx y (Γ++[x])=if x==y then some Γ.length else zx y Γ
 | []=>by simp [zx]
 | z :: Γ=>by
  simp only [List.cons_append,zx,vK x y Γ]
  by_cases h:(x==y)=true
  ·simp [h]
  ·simp [h]
theorem wu {y:Str}:∀ {Γ:List Str} {i:Nat},zx y Γ=some i->i < Γ.length
 | [],i,h=>by simp [zx] at h
 | z :: Γ,i,h=>by
  simp only [zx] at h
  split at h
  ·rename_i j hj; cases h; have:=wu hj; simp; omega
  ·split at h
   ·cases h; simp
   ·first | exact zB h | exact zF h | cases h
theorem vL {y:Str}:∀ {Γ:List Str} {i:Nat},zx y Γ=some i->y ∈ Γ
 | [],i,h=>by simp [zx] at h
 | z :: Γ,i,h=>by
  simp only [zx] at h
  split at h
  ·rename_i j hj; exact List.mem_cons_of_mem _ (vL hj)
  ·split at h
   ·rename_i e; rw [eq_of_beq e]; exact List.mem_cons_self
   ·first | exact zB h | exact zF h | cases h
structure vF (Γ:List Str) (sc scope:Scope) (x:Str):Prop where
 kind:scope.kind=.function
 self:scope.names.lookup x=some .local
 cell:∀ p ∈ scope.names,p.2 ≠ .cell
 loc:∀ p ∈ scope.names,p.2=.local->(p.1=x \/ p.1 ∉ Γ) /\ scope.names.lookup p.1=some .local
 free:∀ p ∈ scope.names,p.2=.free->sc.names.lookup p.1=some .cell \/ sc.names.lookup p.1=some .free
theorem zIG {scope:Scope} {x:Str} (h:zFu Γ sc scope x=true):vF Γ sc scope x:=by
 unfold zFu at h
 simp only [Bool.and_eq_true,List.all_eq_true,Bool.not_eq_true'] at h
 obtain ⟨⟨⟨⟨h1,h2⟩,h3⟩,h4⟩,h5⟩:=h
 refine ⟨eq_of_beq h1,eq_of_beq h2,fun p hp e=>?_,fun p hp e=>?_,fun p hp e=>?_⟩
 ·have:=h5 p hp
  rw [e] at this; cases this
 ·have:=h5 p hp
  rw [e] at this
  simp only [Bool.and_eq_true,Bool.or_eq_true] at this
  refine ⟨this.1.elim (fun q=>.inl (eq_of_beq q)) fun q=>.inr ?_,eq_of_beq this.2⟩
  rw [eq_of_beq q]
  intro hm
  rw [List.contains_iff_mem.mpr hm] at h3
  cases h3
 ·have:=h5 p hp
  rw [e] at this
  simp only [Bool.or_eq_true] at this
  exact this.elim (fun q=>.inl (eq_of_beq q)) fun q=>.inr (eq_of_beq q)
theorem FR.cellKind {h:Heap} (fr:FR S X f h env Γ sc J) {y:Str} (hy:sc.names.lookup y=some .cell \/ sc.names.lookup y=some .free):yP (env.kindOf y):=by
 rcases fr.names y with e | ⟨_,e⟩
 ·rw [e]; exact hy
 ·exact .inl e
theorem FR.comp {h:Heap} {scope:Scope} {x:Str} {cl:List (Str × Addr)} {D:Addr} {m:Str->Option Value} {v:V} {w:Value} (fr:FR S X f h env Γ sc J) (ok:vF Γ sc scope x)
  (hcl:∀ y,(y,NameKind.free) ∈ scope.names->∃ c,cl.lookup y=some c /\ env.cells.lookup y=some c) (hD:D ∈ X) (hn:h.Ns D m) (hm:m x=some w) (r:VR S X f h v w) :
  FR S X f h (compEnvC scope cl D env) (Γ++[x]) scope (J++[v]):=by
 have names:∀ y,(compEnvC scope cl D env).kindOf y=scope.names.lookup y \/ (scope.names.lookup y=some .free /\ (compEnvC scope cl D env).kindOf y=some .cell):=fun y=>kH y
 have freeOf:∀ y,yP ((compEnvC scope cl D env).kindOf y)->(y,NameKind.free) ∈ scope.names:=fun y hy=>by
  rcases names y with e | ⟨e,_⟩
  ·rw [e] at hy
   rcases hy with e' | e'
   ·exact absurd rfl (ok.cell _ (zS e'))
   ·exact zS e'
  ·exact zS e
 refine ⟨ok.kind,fr.glob,fr.blt,names,⟨hD,m,hn⟩,fun y hy=>?_,fun y i v' hv hi hv' hne=>?_,by simp [fr.len]⟩
 ·obtain ⟨c,e1,e2⟩:=hcl y (freeOf y hy)
  obtain ⟨c',o,e3,e4,e5⟩:=fr.cells y (fr.cellKind (ok.free _ (freeOf y hy) rfl))
  rw [e2] at e3; cases e3
  exact ⟨c,o,e1,e4,e5⟩
 ·rw [vK] at hi
  by_cases hxy:(x==y)=true
  ·rw [if_pos hxy] at hi
   cases hi
   have e:=eq_of_beq hxy
   subst e
   rw [<- fr.len,List.getElem?_append_right (Nat.le_refl _)] at hv'
   simp at hv'
   subst hv'
   refine ⟨w,.inl ⟨?_,m,hn,hm⟩,r⟩
   rcases names x with e | ⟨e,_⟩
   ·exact e.trans ok.self
   ·rw [ok.self] at e; cases e
  ·rw [if_neg hxy] at hi
   have hlt:=wu hi
   rw [List.getElem?_append_left (by rw [fr.len]; exact hlt)] at hv'
   have hfree:(y,NameKind.free) ∈ scope.names:=by
    rcases zE0 hv with e | e | e
    ·rcases (ok.loc _ (zS e) rfl).1 with e' | e'
     ·exact absurd (by rw [show x=y from e'.symm]; simp) hxy
     ·exact absurd (vL hi) e'
    ·exact absurd rfl (ok.cell _ (zS e))
    ·exact zS e
   have hsc:=ok.free _ hfree rfl
   have hv2:zA1 sc y=true:=by
    unfold zA1
    rcases hsc with e | e <;> simp only at e <;> rw [e]
   obtain ⟨w',n,r'⟩:=fr.vals y i v' hv2 hi hv' hne
   obtain ⟨c,e1,e2⟩:=hcl y hfree
   refine ⟨w',.inr ⟨?_,c,e1,?_⟩,r'⟩
   ·rcases names y with e | ⟨_,e⟩
    ·rw [e]
     rcases zE0 hv with e' | e' | e'
     ·rcases (ok.loc _ (zS e') rfl).1 with e'' | e''
      ·exact absurd (by rw [show x=y from e''.symm]; simp) hxy
      ·exact absurd (vL hi) e''
     ·exact .inl e'
     ·exact .inr e'
    ·exact .inl e
   ·rcases n with ⟨k1,_⟩ | ⟨_,c',e3,e4⟩
    ·have:=fr.cellKind hsc
     rw [k1] at this
     rcases this with h | h <;> cases h
    ·rw [e2] at e3; cases e3; exact e4
theorem FR.keepY (fr:FR S X f s.heap env Γ sc J) (hXf:∀ a ∈ X,a ∉ addrs f) (k:Kp f Y s s') (hg:Fresh g s) (hYX:∀ a ∈ Y,a ∈ X) (hl:env.locals ∉ Y) (hc:∀ x c,yP (env.kindOf x)->env.cells.lookup x=some c->c ∉ Y):FR S X (f++g) s'.heap env Γ sc J:=by
 have hcf:∀ x c,env.cells.lookup x=some c->yP (env.kindOf x)->c ∉ addrs f:=fun x c e hk=>by
  obtain ⟨c',o,e',hX,_⟩:=fr.cells x hk
  rw [e] at e'; cases e'
  exact hXf c hX
 refine ⟨fr.kind,fr.glob,fr.blt,fr.names,⟨fr.loc.1,let ⟨m,h⟩:=fr.loc.2; ⟨m,zE3 k (hXf _ fr.loc.1) hl h⟩⟩,fun x hx=>?_,fun x i v h1 h2 h3 h4=>?_,fr.len⟩
 ·obtain ⟨c,o,e,hX,h⟩:=fr.cells x hx
  exact ⟨c,o,e,hX,zD3 k (hcf x c e hx) (hc x c hx e) h⟩
 ·obtain ⟨w,h5,h6⟩:=fr.vals x i v h1 h2 h3 h4
  exact ⟨w,h5.keep k ⟨hXf _ fr.loc.1,hl⟩ fun x c e hk=>⟨hcf x c e hk,hc x c hk e⟩,h6.keepK k hg hYX⟩
inductive QC {α β:Type} (S:zR) (X Y:List Addr) (f:List Loc) (P:α->β->List Loc->Shared->Prop) (s:Shared) (b:β) (U':Sto) (a:α) (s':Shared):Prop
 | mk (g:List Loc) (hg:Fresh g s) (k:Kp f Y s s') (L:Lk S X (f++g) U' s'.heap) (p:P a b (f++g) s')
inductive zR0 {α β γ:Type} (S:zR) (A:Around) (X Y:List Addr) (f:List Loc) (P:α->β->List Loc->Shared->Prop) (t:Sem α) (r:R β) (rk:β->Sto->R γ) (s:Shared):Prop
 | mk (b:β) (U':Sto) (e:r=.ok b U') (ek:r.calm.bind rk=rk b U') (hne:rk b U' ≠ .stuck) (w:∀ E,wpAny (model S.prog S.w) A t (QC S X Y f P s b U') E s)
theorem Sim.calm {α β γ:Type} {P:α->β->List Loc->Shared->Prop} {t:Sem α} {r:R β} {rk:β->Sto->R γ} (h:Sim S A X Y f P t r s) (hne:r.calm.bind rk ≠ .stuck) :
  zR0 S A X Y f P t r rk s:=by
 cases r with
 | ok b U' =>
  refine ⟨b,U',rfl,rfl,hne,fun E=>wpAny_mono (h (by simp)) (fun a s' q=>?_) fun e s' q=>?_⟩
  ·obtain ⟨b',U'',g,e,hg,k,L,p⟩:=q
   cases e
   exact ⟨g,hg,k,L,p⟩
  ·obtain ⟨_,_,_,_,_,e,_⟩:=q; cases e
 | exc _ _=>exact absurd rfl hne
 | stuck=>exact absurd rfl hne
end
end Mine
end

section
namespace Mine
open PySem PyProof.Rows
section
variable {S:zR} {C:Ctx} {T:Nat->Option Fn} {F:Calls} {q:Bool} {d:Nat} {Γ:List Str} {sc:Scope}
variable {X X' Y Z:List Addr} {f g:List Loc} {U:Sto} {s s':Shared} {A:Around} {E:Value->Shared->Prop} {I a:Addr} {its:Items} {i:Nat} {env:Env} {J:List V}
theorem FR.later (fr:FR S X f s.heap env Γ sc J) (L:Lk S X f U s.heap) (k:Kp f [] s s') (hg:Fresh g s) (hX':∀ a ∈ X',a ∈ X \/ s.heap.get? a=none) (hXX:∀ a ∈ X,a ∈ X'):FR S X' (f++g) s'.heap env Γ sc J:=by
 have fr':FR S X' f s.heap env Γ sc J:=⟨fr.kind,fr.glob,fr.blt,fr.names,⟨hXX _ fr.loc.1,fr.loc.2⟩,fun x hx=>(by obtain ⟨c,o,e,hX,h⟩:=fr.cells x hx; exact ⟨c,o,e,hXX c hX,h⟩),
  fun x i v h1 h2 h3 h4=>(by obtain ⟨w,h5,h6⟩:=fr.vals x i v h1 h2 h3 h4; exact ⟨w,h5,h6.more hX'⟩),fr.len⟩
 exact fr'.keepY (fun a ha=>(hX' a ha).elim (fun h=>(L.hid a h).2.1) fun h=>(L.new h).1) k hg (fun a h=>nomatch h) (fun h=>nomatch h) fun _ _ _ _ h=>nomatch h
theorem zIZ {Q:Value->Shared->Prop} (x:ItAt S q X f s.heap I its i) (h:Q (.ref I) s):wpAny (model S.prog S.w) A (pyIter (.ref I)) Q E s:=by
 cases its with
 | now xs =>
  rcases x with ⟨ax,items,n,h1,h2,h3,h4⟩ | ⟨_,ax,items,n,h1,h2,h3,h4⟩ | ⟨_,lo,hi,rfl,h2⟩ | ⟨y,t,rfl,h2,h3⟩
  ·exact wpAny_pyIter_listiter h1 h
  ·exact wpAny_pyIter_tupleiter h1 h
  ·exact wpAny_pyIter_rangeiter h2 h
  ·exact wpAny_pyIter_striter_ascii h3 h
 | live n=>obtain ⟨ax,h1,h2⟩:=x; exact wpAny_pyIter_listiter h2 h
 | keys n ks=>obtain ⟨_,ax,h1,h2⟩:=x; exact wpAny_pyIter_keyiter h2 h
theorem Kp.mv {s₁:Shared} (k:Kp f Y s s₁) (m:Mv a s₁ s') (hn:s.heap.get? a=none):Kp f Y s s':=
 k.ends (Z:=[a]) m.rest (fun b o hb e=>m.keep b o (fun q=>hb (q ▸ List.mem_singleton.mpr rfl)) e) fun b hb=>List.mem_singleton.mp hb ▸ hn
noncomputable def yT (F:Calls) (q:Bool) (elt:CE) (cond:Option CE) (J:List V) (x:V) (acc:List V) (U:Sto):R (List V):=
 (evC F q cond (J++[x]) U).calm.bind fun t U=>if t then (evE F q elt (J++[x]) U).calmE.bind fun y U=>(if acc.length < LIM then .ok (acc++[y]) U else .stuck) else .ok acc U
structure zOk (S:zR) (q:Bool) (s:Shared) (X:List Addr) (f:List Loc) (N D I:Addr) (its:Items) (i:Nat) (acc:List V) (U':Sto) (g:List Loc) (m:Str->Option Value) (ys:Array Value) (n:Nat) (s':Shared):Prop where
 fresh:Fresh g s
 kp:Kp f [] s s'
 lk:Lk S (N :: D :: I :: X) (f++g) U' s'.heap
 it:ItAt S q (N :: D :: I :: X) (f++g) s'.heap I its i
 ns:s'.heap.Ns N m
 il:IsL s'.heap D ys n
 vs:VRs S (N :: D :: I :: X) (f++g) s'.heap acc ys.toList
 len:acc.length <= LIM
theorem zMd {N D:Addr} {X:List Addr} {P:Addr->Prop} (hN:P N) (hD:P D) (h:∀ a ∈ X,P a):∀ a ∈ N :: D :: X,P a:=fun a ha =>
 (List.mem_cons.mp ha).elim (fun e=>e.symm ▸ hN) fun ha=>(List.mem_cons.mp ha).elim (fun e=>e.symm ▸ hD) (h a)
theorem zR5 {N D I:Addr} {X:List Addr} {P:Addr->Prop} (hN:P N) (hD:P D) (hI:P I) (h:∀ a ∈ X,P a):∀ a ∈ N :: D :: I :: X,P a:=fun a ha =>
 (List.mem_cons.mp ha).elim (fun e=>e.symm ▸ hN) (zMd hD hI h a)
inductive zNo (S:zR) (q:Bool) (s:Shared) (X:List Addr) (f:List Loc) (N D I:Addr) (its:Items) (g:V->List V->Sto->R (List V)) (total:R (List V)) (k:Nat) (s':Shared):Prop
 | mk (i:Nat) (acc:List V) (U':Sto) (l:List Loc) (m:Str->Option Value) (ys:Array Value) (n:Nat) (hf:xF its g k i acc U'=total) (t:zOk S q s X f N D I its i acc U' l m ys n s'):zNo S q s X f N D I its g total k s'
theorem zIH {scope:Scope} {x:Str} {px pos:Pos} {elt iter:Expr} {ifs:List Expr} {ce:CE} {cond:Option CE} {cl:List (Str × Addr)} {N D:Addr} {R':Result->Shared->Prop} {s₄:Shared}
  (st:St S q d Γ sc env J f X U s A) (hh:q=false->A.handled=none) (ok:vF Γ sc scope x) (hcl:∀ y,(y,NameKind.free) ∈ scope.names->∃ c,cl.lookup y=some c /\ env.cells.lookup y=some c)
  (hcond:(ifs=[] /\ cond=none) \/ ∃ e c,ifs=[e] /\ cond=some c /\ TOk S F q d (Γ++[x]) scope e c) (helt:EOk S F q d (Γ++[x]) scope elt ce)
  (hN:s.heap.get? N=none) (hD:s.heap.get? D=none) (hI:s.heap.get? I=none) (hND:N ≠ D) (hNI:N ≠ I) (hDI:D ≠ I)
  {total:R (List V)} (hne:total ≠ .stuck) {fuel:Nat} {acc0:List V} {U0:Sto} (h0:xF its (yT F q ce cond J) fuel 0 acc0 U0=total) {g0:List Loc} {m0:Str->Option Value} {ys0:Array Value} {n₀:Nat} (t0:zOk S q s X f N D I its 0 acc0 U0 g0 m0 ys0 n₀ s₄)
  (hR:∀ acc U' g m ys n s',total=.ok acc U'->Fresh g s->Kp f [] s s'->Lk S (N :: D :: X) (f++g) U' s'.heap->s'.heap.Ns N m->IsL s'.heap D ys n->VRs S (N :: D :: X) (f++g) s'.heap acc ys.toList->acc.length <= LIM->R' (.ok .next) s')
  : codeAny (model S.prog S.w) A (.compLoop (.ListComp elt [⟨.Name x px,iter,ifs,0⟩] scope pos) 0 (.ref I) (.ref D) (compEnvC scope cl N env)) R' s₄:=by
 refine codeAny_compLoop_tests (zNo S q s X f N D I its (yT F q ce cond J) total) ?_ fuel (.mk 0 acc0 U0 g0 m0 ys0 n₀ h0 t0)
 rintro k s' ⟨i,acc,U',g,m,ys,n,hf,t⟩
 cases k with
 | zero=>rw [zEr] at hf; exact absurd hf.symm hne
 | succ k =>
 rw [zEq] at hf
 have hIX:I ∈ N :: D :: I :: X:=.tail _ (.tail _ (.head _))
 have hNX:N ∈ N :: D :: I :: X:=.head _
 have hDX:D ∈ N :: D :: I :: X:=.tail _ (.head _)
 cases hnx:zt U' its i with
 | none=>rw [hnx] at hf; exact absurd hf.symm hne
 | some o =>
 rw [hnx] at hf
 cases o with
 | none =>
  refine wpAny_mono (zE8 hh ((st.hn.keep t.kp t.fresh fun _ h=>nomatch h).here) t.lk t.it hnx) (fun r s₁ h₁=>?_) fun _ _ x=>x
  obtain ⟨rfl,hr,hk⟩:=h₁
  have hk':∀ b o,b ∉ [I]->s'.heap.get? b=some o->s₁.heap.get? b=some o:=fun b o hb e=>hk b o (fun q=>hb (q ▸ List.mem_singleton.mpr rfl)) e
  have hXd:∀ a ∈ N :: D :: X,a ∈ N :: D :: I :: X:=zMd hNX hDX fun a ha=>.tail _ (.tail _ (.tail _ ha))
  have hIn:∀ a ∈ N :: D :: X,a ∉ [I]:=zMd (fun h=>hNI (List.mem_singleton.mp h)) (fun h=>hDI (List.mem_singleton.mp h)) fun a ha h=>(List.mem_singleton.mp h ▸ st.lk.hid a ha).2.2.elim fun o e=>nomatch hI.symm.trans e
  replace hf:R.ok acc U'=total:=hf
  refine hR acc U' g m ys n s₁ hf.symm t.fresh (t.kp.ends (Z:=[I]) hr hk' fun b hb=>List.mem_singleton.mp hb ▸ hI) (t.lk.drop (Z:=[I]) (fun a ha=>⟨hXd a ha,hIn a ha⟩) (fun a ha=>List.mem_singleton.mp ha ▸ hIX) hk') (zHW t.ns fun o=>hk N o hNI) (hk D _ hDI t.il) (VRs.drop (Z:=[I]) hXd (fun a ha=>List.mem_singleton.mp ha ▸ hIX) hk' t.vs) t.len
 | some x' =>
 replace hf:(yT F q ce cond J x' acc U').bind (fun b U=>xF its (yT F q ce cond J) k (i+1) b U)=total:=hf
 refine wpAny_mono (zCr hIX t.lk t.it hnx) (fun r s₁ h₁=>?_) fun _ _ x=>x
 obtain ⟨v,rfl,m1,it1,rv⟩:=h₁
 have ns1:s₁.heap.Ns N m:=zHW t.ns fun o=>m1.keep N o hNI
 have hxk:(compEnvC scope cl N env).kindOf x=some .local:=by
  rcases kH (env:=env) (scope:=scope) x with e | ⟨e,_⟩
  ·exact e.trans ok.self
  ·rw [ok.self] at e; cases e
 refine wpAny_assign_Name (wpAny_storeName_local hxk ns1 (fun h₂ hn2 hs₂=>?_) (by simp [compEnvC,relabel,ok.kind]))
 have m2:Mv N s₁ { s₁ with heap:=h₂,toks:=s₁.toks+1 }:=zB1 hn2 fun b hb=>hs₂.2 b hb
 generalize hs2':({ s₁ with heap:=h₂,toks:=s₁.toks+1 }:Shared)=s₂ at m2 ⊢
 have hh2:s₂.heap=h₂:=by rw [<- hs2']
 rw [<- hh2] at hn2
 have lk2:=m2.lk hNX (m1.lk hIX t.lk)
 have it2:=it1.mv m2 hNX (Ne.symm hNI)
 have kp2:Kp f [] s s₂:=(t.kp.mv m1 hI).mv m2 hN
 have hX':∀ a ∈ N :: D :: I :: X,a ∈ X \/ s.heap.get? a=none:=zR5 (.inr hN) (.inr hD) (.inr hI) fun a ha=>.inl ha
 have fr2:=(st.fr.later st.lk kp2 t.fresh hX' fun a ha=>.tail _ (.tail _ (.tail _ ha))).comp ok hcl hNX hn2 (by simp) (m2.vr hNX rv)
 have cx2:Cx S A q d (f++g) s₂.heap env.frame:=st.cx.keep kp2 t.fresh
 have st2:St S q d (Γ++[x]) scope (compEnvC scope cl N env) (J++[x']) (f++g) (N :: D :: I :: X) U' s₂ A:=⟨cx2,fr2,lk2,(st.hn.more hX').keep kp2 t.fresh fun _ h=>nomatch h⟩
 have il2:IsL s₂.heap D ys n:=m2.keep D _ (Ne.symm hND) (m1.keep D _ hDI t.il)
 have vs2:=m2.vrs hNX (m1.vrs hIX t.vs)
 have hns:yT F q ce cond J x' acc U' ≠ .stuck:=fun e=>hne (by rw [<- hf,e]; rfl)
 have tests:Sim S A (N :: D :: I :: X) [] (f++g) (fun b t _ _=>b=t) (forIn ifs true fun c r=>if r=true then do let ok <- isTrue c (compEnvC scope cl N env) (eval c (compEnvC scope cl N env)); pure (ForInStep.yield ok) else pure (ForInStep.yield r)) (evC F q cond (J++[x']) U') s₂:=by
  rcases hcond with ⟨rfl,rfl⟩ | ⟨e,c,rfl,rfl,ht⟩
  ·intro _
   rw [zNj]
   exact wpAny_tests_nil (QS.bool lk2 (.refl s₂))
  ·intro hn
   rw [zBU] at hn ⊢
   exact wpAny_tests_one (ht _ _ _ _ _ _ _ st2 hn)
 unfold yT at hns hf
 obtain ⟨b,U3,hb,hbk,hns2,wt⟩:=Sim.calm tests hns
 rw [hbk] at hf
 refine wpAny_mono (wt _) (fun ok' s₃ h₃=>?_) fun _ _ x=>x
 obtain ⟨g3,hg3,k3,lk3,hbe⟩:=h₃
 replace hbe:ok'=b:=hbe
 subst hbe
 have hXf:∀ a ∈ N :: D :: I :: X,a ∉ addrs (f++g):=fun a ha=>(lk2.hid a ha).2.1
 have it3:=it2.keepK k3 hg3 hIX hXf
 have kp3:Kp f [] s s₃:=kp2.trans t.fresh k3
 have fg3:Fresh (g++g3) s:=t.fresh.trans kp2.live hg3
 have keepO:∀ {s s':Shared} {f:List Loc} {a:Addr} {o:Obj},Kp f [] s s'->a ∉ addrs f->(∀ es n,o.data ≠ .dict es n)->s.heap.get? a=some o->s'.heap.get? a=some o:=fun k h1 h2 e=>by
  obtain ⟨o',e',q⟩:=k.kept _ _ e h1 (fun h=>nomatch h)
  rw [e',q.exact h2]
 have il3:IsL s₃.heap D ys n:=keepO k3 (hXf D hDX) (fun _ _ h=>by cases h) il2
 have ns3:=zE3 k3 (hXf N hNX) (fun h=>nomatch h) hn2
 have vs3:=VRs.keepK k3 hg3 (fun _ h=>nomatch h) vs2
 rw [List.append_assoc] at lk3 it3 vs3
 cases ok' with
 | false=>exact ⟨k,Nat.lt_succ_self k,.mk (i+1) acc U3 (g++g3) _ ys n hf ⟨fg3,kp3,lk3,it3,ns3,il3,vs3,t.len⟩⟩
 | true =>
  replace hns2:((evE F q ce (J++[x']) U3).calmE.bind fun y U=>(if acc.length < LIM then R.ok (acc++[y]) U else .stuck)) ≠ .stuck:=hns2
  replace hf:(((evE F q ce (J++[x']) U3).calmE.bind fun y U=>(if acc.length < LIM then R.ok (acc++[y]) U else .stuck)).bind fun b U=>xF its (yT F q ce cond J) k (i+1) b U)=total:=hf
  have st3:St S q d (Γ++[x]) scope (compEnvC scope cl N env) (J++[x']) ((f++g)++g3) (N :: D :: I :: X) U3 s₃ A:=st2.keep hg3 k3 (by rw [List.append_assoc]; exact lk3)
  rw [List.append_assoc] at st3
  obtain ⟨y,U4,hy,hyk,hns3,we⟩:=Sim.calm (helt _ _ _ _ _ _ _ st3) hns2
  rw [hyk] at hf
  by_cases hlen:acc.length < LIM
  ·rw [if_pos hlen] at hf
   show wpAny _ _ _ _ _ _
   refine wpAny_mono (we _) (fun yv s4' h₄=>?_) fun _ _ x=>x
   obtain ⟨g4,hg4,k4,lk4,ry⟩:=h₄
   replace ry:VR S (N :: D :: I :: X) ((f++(g++g3))++g4) s4'.heap y yv:=ry
   have hXf3:∀ a ∈ N :: D :: I :: X,a ∉ addrs (f++(g++g3)):=fun a ha=>(lk3.hid a ha).2.1
   have it4:=it3.keepK k4 hg4 hIX hXf3
   have kp4:Kp f [] s s4':=kp3.trans fg3 k4
   have fg4:Fresh ((g++g3)++g4) s:=fg3.trans kp3.live hg4
   have il4:IsL s4'.heap D ys n:=keepO k4 (hXf3 D hDX) (fun _ _ h=>by cases h) il3
   have ns4:=zE3 k4 (hXf3 N hNX) (fun h=>nomatch h) ns3
   have vs4:=VRs.keepK k4 hg4 (fun _ h=>nomatch h) vs3
   rw [List.append_assoc] at lk4 it4 vs4 ry
   have hsz:ys.size <= sizeLine:=by rw [zc vs4]; exact Nat.le_trans t.len yW
   refine zFo il4 ?_ hsz
   obtain ⟨n',il5⟩:=IsL.appended (x:=yv) il4
   have m5:Mv D s4' { s4' with heap:=s4'.heap.update D (Obj.mapSeq (·.push yv)) }:=
    ⟨rfl,fun b o hb e=>(Heap.get?_update_other _ _ (Ne.symm hb)).trans e,⟨_,il5⟩,fun o es n e dd=>by rw [il4] at e; cases e; cases dd⟩
   refine ⟨k,Nat.lt_succ_self k,.mk (i+1) (acc++[y]) U4 ((g++g3)++g4) _ (ys.push yv) n' hf ⟨fg4,kp4.mv m5 hD,m5.lk hDX lk4,it4.mv m5 hDX (Ne.symm hDI),zHW ns4 fun o=>m5.keep N o hND,il5,?_,?_⟩⟩
   ·rw [Array.toList_push]
    exact xa (m5.vrs hDX vs4) (⟨m5.vr hDX ry,trivial⟩)
   ·rw [List.length_append]; exact hlen
  ·rw [if_neg hlen] at hns3; exact absurd rfl hns3
end
end Mine
end

section
namespace Mine
open PySem PyProof.Rows
section
variable {S:zR} {C:Ctx} {T:Nat->Option Fn} {F:Calls} {q:Bool} {d:Nat} {Γ:List Str} {sc:Scope}
variable {X X' Y Z:List Addr} {f g:List Loc} {U:Sto} {s s':Shared} {A:Around} {E:Value->Shared->Prop} {I a:Addr} {its:Items} {i:Nat} {env:Env} {J:List V}
theorem zBg {scope:Scope} {x:Str} {px pos:Pos} {elt iter:Expr} {ifs:List Expr} {ce:CE} {cond:Option CE} {cl:List (Str × Addr)} {RR:Value->Addr->Result->Shared->Prop} {s₂:Shared} {U1:Sto}
  (st:St S q d Γ sc env J f X U s A) (hh:q=false->A.handled=none) (ok:vF Γ sc scope x) (hcl:∀ y,(y,NameKind.free) ∈ scope.names->∃ c,cl.lookup y=some c /\ env.cells.lookup y=some c)
  (hcond:(ifs=[] /\ cond=none) \/ ∃ e c,ifs=[e] /\ cond=some c /\ TOk S F q d (Γ++[x]) scope e c) (helt:EOk S F q d (Γ++[x]) scope elt ce)
  (hI:s.heap.get? I=none) (hg:Fresh g s) (k:Kp f [] s s₂) (L:Lk S (I :: X) (f++g) U1 s₂.heap) (x0:ItAt S q (I :: X) (f++g) s₂.heap I its 0)
  (hne:zo its (yT F q ce cond J) [] U1 ≠ .stuck)
  (hR:∀ N D acc U' g m ys n s',s.heap.get? N=none->s.heap.get? D=none->N ≠ D->zo its (yT F q ce cond J) [] U1=.ok acc U'->Fresh g s->Kp f [] s s'->Lk S (N :: D :: X) (f++g) U' s'.heap->s'.heap.Ns N m->IsL s'.heap D ys n->VRs S (N :: D :: X) (f++g) s'.heap acc ys.toList->acc.length <= LIM->RR (.ref D) N (.ok .next) s')
  : wpAny (model S.prog S.w) A (newList []) (fun acc s₃=>wpAny (model S.prog S.w) A (newFunctionEnv scope env.globals cl [] env.qual none .none (some env)) (fun cenv s₄ =>
   codeAny (model S.prog S.w) A (.compStart (.ListComp elt [⟨.Name x px,iter,ifs,0⟩] scope pos) 0 (.ref I) acc { cenv with scope:=relabel scope env }) (RR acc cenv.locals) s₄) E s₃) E s₂:=by
 refine wpAny_newObj_type (wpAny_newFunctionEnv ok.cell (by intro y hy; simp at hy) (fun h₁ hns1 hsb1=>?_) ok.kind)
 dsimp only at hns1 hsb1 ⊢
 generalize hH2:s₂.heap.push { cls:=.type "list",dict:=none,data:=.seq ([]:List Value).toArray }=H2 at hns1 hsb1 ⊢
 have hsz:H2.objs.size=s₂.heap.objs.size+1:=by rw [<- hH2,Heap.size_push]
 have hND:H2.objs.size ≠ s₂.heap.objs.size:=by rw [hsz]; omega
 have ex1:Ext s₂ { s₂ with heap:=H2 }:=⟨rfl,fun b o e=>hH2 ▸ Heap.get?_push_of_some _ e⟩
 have nD:s₂.heap.get? s₂.heap.objs.size=none:=yj _
 have lD:H2.get? s₂.heap.objs.size=some { cls:=.type "list",dict:=none,data:=.seq ([]:List Value).toArray }:=hH2 ▸ Heap.get?_push_size _ rfl
 have nN:H2.get? H2.objs.size=none:=yj _
 have ex2:Ext { s₂ with heap:=H2 } { s₂ with heap:=h₁,toks:=s₂.toks+([]:List (Str × Value)).length }:=⟨rfl,fun b o e=>(hsb1.2 b (fun q=>by subst q; rw [nN] at e; cases e)).trans (Heap.get?_push_of_some _ e)⟩
 obtain ⟨oN,esN,epN,eN,_⟩:=id hns1
 have L1:Lk S (s₂.heap.objs.size :: I :: X) (f++g) U1 H2:=L.hideNew ex1 nD lD
 have it1:=x0.hideNew (s':={ s₂ with heap:=H2 }) ex1 nD
 have L2:Lk S (H2.objs.size :: s₂.heap.objs.size :: I :: X) (f++g) U1 h₁:=Lk.hideNew (s:={ s₂ with heap:=H2 }) (s':={ s₂ with heap:=h₁,toks:=s₂.toks+([]:List (Str × Value)).length }) L1 ex2 nN eN
 have it2:=ItAt.hideNew (s:={ s₂ with heap:=H2 }) (s':={ s₂ with heap:=h₁,toks:=s₂.toks+([]:List (Str × Value)).length }) ex2 nN it1
 have k2:Kp f [] s { s₂ with heap:=h₁,toks:=s₂.toks+([]:List (Str × Value)).length }:=k.trans hg ((ex1.trans ex2).kp _ _)
 have hD:s.heap.get? s₂.heap.objs.size=none:=zu k.live nD
 have hN:s.heap.get? H2.objs.size=none:=zu k.live (Heap.get?_none_of_le (by rw [hsz]; omega))
 have lI:∃ o,s₂.heap.get? I=some o:=(L.hid I (by simp)).2.2
 have hDI:s₂.heap.objs.size ≠ I:=fun q=>by obtain ⟨o,e⟩:=lI; rw [<- q,nD] at e; cases e
 have hNI:H2.objs.size ≠ I:=fun q=>by obtain ⟨o,e⟩:=lI; rw [<- q,Heap.get?_none_of_le (by rw [hsz]; omega)] at e; cases e
 have turn:zOk S q s X f H2.objs.size s₂.heap.objs.size I its 0 [] U1 g (fun x=>([]:List (Str × Value)).reverse.lookup x) #[] 0 { s₂ with heap:=h₁,toks:=s₂.toks+([]:List (Str × Value)).length }:=
  ⟨hg,k2,L2,it2,hns1,ex2.keep _ _ lD,(by show VRs S _ _ h₁ [] []; exact True.intro),by simp⟩
 have loop:codeAny (model S.prog S.w) A (.compLoop (.ListComp elt [⟨.Name x px,iter,ifs,0⟩] scope pos) 0 (.ref I) (.ref s₂.heap.objs.size) (compEnvC scope cl H2.objs.size env)) (RR (.ref s₂.heap.objs.size) H2.objs.size) { s₂ with heap:=h₁,toks:=s₂.toks+([]:List (Str × Value)).length }:=
  zIH st hh ok hcl hcond helt hN hD hI hND hNI hDI hne rfl turn (fun acc U' g m ys n s' e1 e2 e3 e4 e5 e6 e7 e8=>hR _ _ acc U' g m ys n s' hN hD hND e1 e2 e3 e4 e5 e6 e7 e8)
 exact codeAny_compStart_list loop (zIZ it2 loop)
theorem FR.closure {scope:Scope} {x:Str} {h:Heap} (fr:FR S X f h env Γ sc J) (ok:vF Γ sc scope x):∃ cl,closureFor scope env=pure cl /\ ∀ y,(y,NameKind.free) ∈ scope.names->∃ c,cl.lookup y=some c /\ env.cells.lookup y=some c:=
 zFt fun n hn=>by
  obtain ⟨c,o,e,_⟩:=fr.cells n (fr.cellKind (ok.free _ hn rfl))
  exact ⟨c,e⟩
theorem jD {elt:CE} {k:SK} {cs:List CE} {cond:Option CE}:evE F q (.comp elt k cs cond) J U=((evL F q cs J U).bind fun vs U=>R.lift U (yd q U k vs)).bind fun its U=>(zo its (yT F q elt cond J) [] U).bind fun acc U=>.ok (.lst acc) U:=by
 rw [zQP,R.bind_assoc]
 rfl
theorem zHX {scope:Scope} {x:Str} {px pos:Pos} {elt iter:Expr} {ifs:List Expr} {ce:CE} {cond:Option CE} {k:SK} {cs:List CE} (ok:vF Γ sc scope x) (hsrc:zAy S F q d Γ sc iter k cs)
  (hcond:(ifs=[] /\ cond=none) \/ ∃ e c,ifs=[e] /\ cond=some c /\ TOk S F q d (Γ++[x]) scope e c) (helt:EOk S F q d (Γ++[x]) scope elt ce) :
  NOk S F q d Γ sc (.ListComp elt [⟨.Name x px,iter,ifs,0⟩] scope pos) (.comp ce k cs cond):=fun env J f X U s A st hne=>by
 rw [jD] at hne ⊢
 obtain ⟨cl,hclos,hcl⟩:=st.fr.closure ok
 rw [eval_ListComp]
 refine wpAny_comprehension_free (g:=⟨.Name x px,iter,ifs,0⟩) (gs:=[]) rfl (hsrc.1 env) hclos ok.kind (fun p hp e=>(ok.loc p hp e).2) ?_
 have hr:((evL F q cs J U).bind fun vs U=>R.lift U (yd q U k vs)) ≠ .stuck:=fun e=>hne (by rw [e]; rfl)
 refine wpAny_mono (hsrc.2 env J f X U s A st hr) (fun xv s₁ h₁=>wpAny_mono h₁ (fun it s₂ h₂=>?_) fun e s' h=>?_) fun e s' h=>?_
 ·obtain ⟨its,U1,g,I,e1,rfl,hI,hIX,hg,kk,L,x0⟩:=h₂
  rw [e1,R.bind_ok] at hne ⊢
  have hne2:zo its (yT F q ce cond J) [] U1 ≠ .stuck:=fun e=>hne (by rw [e]; rfl)
  refine zBg st st.cx.hand ok hcl hcond helt hI hg kk L x0 hne2 (fun N D acc U' g' m ys n s' hN hD hND e2 hg' k' L' hns il vs hlen=>?_)
  rw [e2]
  refine ⟨m,hns,fun h' hs=>?_⟩
  have hkk:∀ b o,b ∉ [N]->s'.heap.get? b=some o->h'.get? b=some o:=fun b o hb e=>(hs.2 b (fun q=>hb (q ▸ List.mem_singleton.mpr rfl))).trans e
  have hNX:N ∉ X:=(st.lk.new hN).2
  have hDX:D ∉ X:=(st.lk.new hD).2
  have LD:Lk S (D :: X) (f++g') U' h':=L'.drop (Z:=[N]) (fun a ha=>⟨List.mem_cons_of_mem _ ha,fun h=>by
   have:=List.mem_singleton.mp h
   subst this
   exact (List.mem_cons.mp ha).elim hND hNX⟩) (fun a ha=>List.mem_singleton.mp ha ▸ List.mem_cons_self) hkk
  have vD:VRs S (D :: X) (f++g') h' acc ys.toList:=VRs.drop (Z:=[N]) (fun a ha=>List.mem_cons_of_mem _ ha) (fun a ha=>List.mem_singleton.mp ha ▸ List.mem_cons_self) hkk vs
  have iD:IsL h' D ys n:=(hs.2 D (Ne.symm hND)).trans il
  refine ⟨.lst acc,U',g',rfl,hg',k'.ends (Z:=[N]) rfl hkk (fun b hb=>List.mem_singleton.mp hb ▸ hN),LD.less fun a ha=>List.mem_cons_of_mem _ ha,?_,fun xs hxs=>?_⟩
  ·exact ⟨D,ys,n,rfl,⟨(LD.hid D List.mem_cons_self).2.1,hDX⟩,iD,vD.less fun a ha=>List.mem_cons_of_mem _ ha,hlen⟩
  ·cases hxs
   exact ⟨D,ys,n,rfl,hD,hDX,LD,iD,vD,hlen⟩
 ·obtain ⟨c,U',g,ea,e1,e2,hgE,kE,LE,xE⟩:=h
  exact ⟨c,U',g,ea,e1,by rw [e2]; rfl,hgE,kE,LE,xE⟩
 ·obtain ⟨c,U',g,ea,e1,e2,hgE,kE,LE,xE⟩:=h
  exact ⟨c,U',g,ea,e1,by rw [e2]; rfl,hgE,kE,LE,xE⟩
end
end Mine
end

section
namespace Mine
open PySem PyProof.Rows
section
variable {S:zR} {C:Ctx} {T:Nat->Option Fn} {F:Calls} {q:Bool} {d:Nat} {Γ:List Str} {sc:Scope}
variable {X X' Y Z:List Addr} {f g:List Loc} {U:Sto} {s s':Shared} {A:Around} {E:Value->Shared->Prop} {env:Env} {J:List V}
theorem zPU {e:Expr} {pos:Pos} (hs:isStar e=false):((backTo pos (starEach [e] env)).all (fun x=>!x.1)&&(backToKw pos (keywordEach [] env)).all (fun x=>x.1.isSome)
  &&decide ([e].length+([]:List Keyword).length+(if ([]:List Keyword).isEmpty then 0 else 1) < 30))=true:=by
 rw [yG hs]; rfl
theorem zSO {pos:Pos}:((backTo pos (starEach [] env)).all (fun x=>!x.1)&&(backToKw pos (keywordEach [] env)).all (fun x=>x.1.isSome)
  &&decide (([]:List Expr).length+([]:List Keyword).length+(if ([]:List Keyword).isEmpty then 0 else 1) < 30))=true:=rfl
theorem zCH {n:Nat} {ax:Addr} {xs:List V} {vs:Array Value} {k:Nat} {fn:Array Value->Array Value} (L:Lk S X f U s.heap) (hn:f[n]?=some (ax,none)) (il:IsL s.heap ax vs k) (rs:VRs S X f s.heap xs (fn vs).toList) (hl:xs.length <= LIM) :
  Lk S X f (U.set n (.list xs)) (s.heap.update ax (Obj.mapSeq fn)) /\ Kp f [] s { s with heap:=s.heap.update ax (Obj.mapSeq fn) }:=by
 have hs:∀ b o,b ∉ Loc.addrs (ax,none)->s.heap.get? b=some o->(s.heap.update ax (Obj.mapSeq fn)).get? b=some o:=fun b o hb e=>(Heap.get?_update_other s.heap (Obj.mapSeq fn) (fun q:ax=b=>hb (by rw [q]; exact List.mem_singleton.mpr rfl))).trans e
 have il':=IsL.update il fn
 have hax:ax ∈ addrs f:=yD hn (List.mem_singleton.mpr rfl)
 refine ⟨L.upd hn hs ⟨_,_,il',?_,hl⟩,Kp.upd (t:=s.toks) hn hs fun a ha=>⟨_,by have:=List.mem_singleton.mp ha; subst this; exact il'⟩⟩
 exact VRs.keep (fun _ _ e=>e) (fun b ob q h1 h2=>⟨⟨h1,h2⟩,ob,hs b ob (fun z=>h1 (List.mem_singleton.mp z ▸ hax)) q,.refl ob⟩) _ _ rs
inductive zMc (S:zR) (X:List Addr) (f:List Loc) (h:Heap) (xs:List V) (n:Nat) (v:Value):Prop
 | mk (ax:Addr) (vs:Array Value) (k:Nat) (e:v=.ref ax) (hf:f[n]?=some (ax,none)) (i:IsL h ax vs k) (p:VRs S X f h xs vs.toList) (hl:xs.length <= LIM)
theorem wz {n:Nat} {v:Value} {xs:List V} (L:Lk S X f U s.heap) (r:VR S X f s.heap (.ref n) v) (ho:U[n]?=some (.list xs)):zMc S X f s.heap xs n v:=by
 obtain ⟨⟨ax,dd⟩,hl,rfl⟩:=r
 have:=L.obj n _ _ hl ho
 cases dd with
 | none=>obtain ⟨vs,k,il,rs,h⟩:=this; exact ⟨ax,vs,k,rfl,hl,il,rs,h⟩
 | some dd=>exact this.elim
theorem zJ2 {o x:Expr} {a b:CE} {apos pos:Pos} (hb:noSuper o=true) (hp:(apos.endLine==pos.line)=true) (hs:isStar x=false) (ho:EOk S F q d Γ sc o a) (hx:EOk S F q d Γ sc x b) :
  EOk S F q d Γ sc (.Call (.Attribute o ("append" : Str) apos) [x] [] pos) (.append a b):=fun env J f X U s A st hne=>by
 rw [zFj] at hne ⊢
 refine wpAny_Call_method (xb hb) (zPU hs) hp PySem.F.plainAttrs_list slot_list_append type_list_append ?_
 refine Sim.goQ (P':=PV S X) (ho env J f X U s A st) hne (fun _ _ x=>x) (fun _ _ x=>x) fun va a' U1 g₁ s₁ hne hg k L ra hQ hE=>?_
 by_cases hil:kR U1 a'=true
 ·rw [if_pos hil] at hne hQ hE
  obtain ⟨xs1,hxs1⟩:=Option.isSome_iff_exists.mp hil
  obtain ⟨p,vs,n,rfl,il,rs,hlen⟩:=zy L hxs1 ra
  refine ⟨⟨_,il,rfl⟩,fun b hb=>⟨_,by cases hb; exact il,rfl⟩,?_⟩
  rw [yG hs]
  show wpAny _ _ (callWith pos (.builtin "list.append") [.ref p] [(false,eval x env)] []) _ _ _
  refine P.append_list ?_
  refine Sim.goQ (P':=PV S X) (hx env J _ X U1 s₁ A (st.keep hg k L)) hne hQ hE fun vb b' U2 g₂ s₂ hne hg₂ k₂ L₂ rb hQ hE=>?_
  have ra2:=VR.keepK k₂ hg₂ (fun _ h=>nomatch h) ra
  obtain ⟨m,xs,rfl,hU,hlt⟩:=zFn hne
  have hd:wG U2 (.ref m) b'=.ok .none (U2.set m (.list (xs++[b']))):=by
   show (match U2[m]? with | some (.list xs)=>if xs.length < LIM then R.ok V.none (U2.set m (.list (xs++[b']))) else .stuck | _=>.stuck)=_
   rw [hU]; exact if_pos hlt
  rw [hd] at hQ
  obtain ⟨ax,vs',k',e,hf,il',rs',hlen'⟩:=wz L₂ ra2 hU
  cases e
  refine ⟨vs',k',by rw [zc rs']; exact Nat.le_trans hlen' yW,il',hQ _ _ ?_⟩
  obtain ⟨L3,k3⟩:=zCH (fn:=fun xs=>xs.push vb) (xs:=xs++[b']) L₂ hf il' (by rw [Array.toList_push]; exact xa rs' (⟨rb,trivial⟩)) (by rw [List.length_append]; exact hlt)
  exact ⟨.none,_,[],rfl,.nil _,k3,by rw [List.append_nil]; exact L3,rfl⟩
 ·rw [if_neg hil] at hne; exact absurd rfl hne
theorem zCS {h:Heap}:∀ {xs:List V} {vs:List Value} (i:Nat),VRs S X f h xs vs->VRs S X f h (xs.eraseIdx i) (vs.eraseIdx i)
 | [],[],_,r=>r
 | [],_ :: _,_,r=>False.elim r
 | _ :: _,[],_,r=>False.elim r
 | _ :: _,_ :: _,0,r=>by exact r.2
 | _ :: _,_ :: _,i+1,r=>by rw [List.eraseIdx_cons_succ,List.eraseIdx_cons_succ]; exact ⟨r.1,zCS i r.2⟩
theorem zPw {o:Expr} {a:CE} {apos pos:Pos} (hb:noSuper o=true) (hp:(apos.endLine==pos.line)=true) (ho:EOk S F q d Γ sc o a) :
  EOk S F q d Γ sc (.Call (.Attribute o ("pop" : Str) apos) [] [] pos) (.pop a):=fun env J f X U s A st hne=>by
 rw [zHw] at hne ⊢
 refine wpAny_Call_method (xb hb) zSO hp PySem.F.plainAttrs_list PySem.F.slot_list_pop PySem.F.type_list_pop ?_
 refine Sim.goQ (P':=PV S X) (ho env J f X U s A st) hne (fun _ _ x=>x) (fun _ _ x=>x) fun va a' U1 g₁ s₁ hne hg k L ra hQ hE=>?_
 cases a' with
 | ref m =>
  simp only [zG2] at hne hQ
  split at hne
  ·rename_i xs hU
   split at hne
   ·rename_i y hy
    rw [hU] at hQ
    simp only [hy] at hQ
    obtain ⟨ax,vs,k',rfl,hf,il,rs,hlen⟩:=wz L ra hU
    refine ⟨⟨_,il,rfl⟩,fun b hb=>⟨_,by cases hb; exact il,rfl⟩,?_⟩
    show wpAny _ _ (callWith pos (.builtin "list.pop") [.ref ax] [] []) _ _ _
    obtain ⟨w,hw,rw'⟩:=wp rs hy
    have hz:=zc rs
    obtain ⟨L3,k3⟩:=zCH (fn:=fun xs=>xs.eraseIdxIfInBounds (vs.size - 1)) (xs:=xs.eraseIdx (xs.length - 1)) L hf il (by rw [Array.toList_eraseIdxIfInBounds,hz]; exact zCS _ rs) (Nat.le_trans (List.length_eraseIdx_le _ _) hlen)
    refine P.pop_list il (by rw [hz,<- Array.getElem?_toList]; exact hw) (hQ _ _ ⟨y,_,[],rfl,.nil _,k3,by rw [List.append_nil]; exact L3,VR.keepK k3 (.nil _) (fun _ h=>nomatch h) rw'⟩) (by rw [hz]; exact Nat.le_trans hlen yW)
   ·exact absurd rfl hne
  ·exact absurd rfl hne
 | _=>exact absurd rfl hne
theorem zLv {o x:Expr} {a b:CE} {apos pos:Pos} {m:Str} {id:String} {p:P2} (hso:∀ U a,zEA p U a=(strOf? a).isSome) (slot:Slot "str" m id) (hty:typeOf (.builtin id)=pure (.type "method_descriptor"))
  (op:∀ (X:List Addr) (f:List Loc) (U:Sto) (s:Shared) (A:Around) (E:Value->Shared->Prop) (a b x:V) (va vb:Value),Lk S X f U s.heap->ev2 p U a b=some x->VR S X f s.heap a va->VR S X f s.heap b vb->wpAny (model S.prog S.w) A (call (.builtin id) [va,vb]) (PE S X f s x) E s)
  (hb:noSuper o=true) (hp:(apos.endLine==pos.line)=true) (hs:isStar x=false) (ho:EOk S F q d Γ sc o a) (hx:EOk S F q d Γ sc x b) :
  EOk S F q d Γ sc (.Call (.Attribute o m apos) [x] [] pos) (.sm p a b):=fun env J f X U s A st hne=>by
 rw [zQS] at hne ⊢
 refine wpAny_Call_method (xb hb) (zPU hs) hp PySem.F.plainAttrs_str slot hty ?_
 refine Sim.goN (ho env J f X U s A st) hne (fun _ _ x=>x.qs) (fun _ _ x=>x) fun va a' U1 g₁ s₁ hne hg k L ra hQ hE=>?_
 rw [hso] at hne hQ hE
 by_cases hil:(strOf? a').isSome=true
 ·rw [if_pos hil] at hne hQ hE
  obtain ⟨y,hy⟩:=Option.isSome_iff_exists.mp hil
  obtain rfl:=zKD hy
  obtain ⟨⟨t,rfl⟩,_⟩:=yy ra
  refine ⟨typeIs_str _ _ _,(fun _ e=>nomatch e),zw (zh _ (by rw [List.any_cons,hs]; rfl)) (zAB hs ?_)⟩
  refine Sim.goN (hx env J _ X U1 s₁ A (st.keep hg k L)) hne hQ hE fun vb b' U2 g₂ s₂ hne hg₂ k₂ L₂ rb hQ hE=>?_
  obtain ⟨x,hx⟩:=yS hne
  rw [hx] at hQ
  exact ⟨yF (by simp),wpAny_mono (op X _ U2 s₂ A _ _ b' x _ vb L₂ hx (VR.keepK k₂ hg₂ (fun _ h=>nomatch h) ra) rb) (fun v s' p=>hQ v s' (p.here L₂)) fun _ _ x=>x⟩
 ·rw [if_neg hil] at hne; exact absurd rfl hne
theorem zIV {xs:List V} (k:Bool):∀ {vs:List Value},VRs S X f s.heap xs vs->(xs.all fun x=>wq true x||wq false x)=true->(∀ y ∈ vs,∃ b,y=.bool b) /\ vs.countP (isBoolOf k)=xs.countP (wq k):=by
 induction xs with
 | nil =>
  intro vs r _
  cases vs with
  | nil=>exact ⟨fun y hy=>(nomatch hy),rfl⟩
  | cons _ _=>exact False.elim r
 | cons x xs ih =>
  intro vs r ha
  cases vs with
  | nil=>exact False.elim r
  | cons v vs =>
   rw [List.all_cons,Bool.and_eq_true] at ha
   obtain ⟨h1,h2⟩:=ih r.2 ha.2
   cases x with
   | bool b =>
    obtain rfl:=wB r.1
    refine ⟨fun y hy=>?_,?_⟩
    ·rcases List.mem_cons.mp hy with rfl | hy
     ·exact ⟨b,rfl⟩
     ·exact h1 y hy
    ·rw [List.countP_cons,List.countP_cons,h2]; rfl
   | _=>exact zF ha.1
theorem zDo {a b x:V} {va vb:Value} (L:Lk S X f U s.heap) (e:ev2 .count U a b=some x) (ra:VR S X f s.heap a va) (rb:VR S X f s.heap b vb):wpAny (model S.prog S.w) A (call (.builtin "list.count") [va,vb]) (PE S X f s x) E s:=by
 replace e:zKk U a b=some x:=e
 cases b with
 | bool k =>
  replace e:((listOf? U a).bind fun xs=>if xs.all fun x=>wq true x||wq false x then some (.int (xs.countP (wq k):Nat)) else none)=some x:=e
  replace e:=bind_some e
  obtain ⟨xs,hxs,e⟩:=e
  obtain ⟨p,vs,n,rfl,il,rs,_⟩:=zy L hxs ra
  obtain rfl:=wB rb
  split at e
  ·rename_i ha
   cases e
   obtain ⟨h1,h2⟩:=zIV k rs ha
   refine call_meets PySem.F.slot_list_count ⟨_,il,rfl⟩ PySem.F.entry_list_count (PySem.F.args_list_count_2 _ _) (SeqAt.list_countAt p vs n none #[] (.bool k) (isBoolOf k)) ⟨il,fun y hy=>?_,?_⟩
   ·obtain ⟨b,rfl⟩:=h1 y (by simpa using hy)
    exact SeqAt.EqAt.bool_bool b k
   ·rw [h2]; exact .int
  ·exact zB e
 | _=>exact zB e
theorem zLp {o x:Expr} {a b:CE} {apos pos:Pos} (hb:noSuper o=true) (hp:(apos.endLine==pos.line)=true) (hs:isStar x=false) (ho:EOk S F q d Γ sc o a) (hx:EOk S F q d Γ sc x b) :
  EOk S F q d Γ sc (.Call (.Attribute o ("count" : Str) apos) [x] [] pos) (.sm .count a b):=fun env J f X U s A st hne=>by
 rw [zQS] at hne ⊢
 refine wpAny_Call_method (xb hb) (zPU hs) hp PySem.F.plainAttrs_list PySem.F.slot_list_count PySem.F.type_list_count ?_
 refine Sim.goN (ho env J f X U s A st) hne (fun _ _ x=>x.qs) (fun _ _ x=>x) fun va a' U1 g₁ s₁ hne hg k L ra hQ hE=>?_
 by_cases hil:zEA .count U1 a'=true
 ·rw [if_pos hil] at hne hQ hE
  obtain ⟨xs1,hxs1⟩:=Option.isSome_iff_exists.mp hil
  obtain ⟨p,vs,n,rfl,il,rs,hlen⟩:=zy L hxs1 ra
  refine ⟨⟨_,il,rfl⟩,fun b hb=>⟨_,by cases hb; exact il,rfl⟩,zw (zh _ (by rw [List.any_cons,hs]; rfl)) (zAB hs ?_)⟩
  refine Sim.goN (hx env J _ X U1 s₁ A (st.keep hg k L)) hne hQ hE fun vb b' U2 g₂ s₂ hne hg₂ k₂ L₂ rb hQ hE=>?_
  obtain ⟨x,hx⟩:=yS hne
  rw [hx] at hQ
  exact ⟨yF (by simp),wpAny_mono (zDo L₂ hx (VR.keepK k₂ hg₂ (fun _ h=>nomatch h) ra) rb) (fun v s' p=>hQ v s' (p.here L₂)) fun _ _ x=>x⟩
 ·rw [if_neg hil] at hne; exact absurd rfl hne
theorem zRg {o x:Expr} {a b:CE} {apos pos:Pos} {m:Str} {p:P2} (hm:m1Names.lookup m=some p) (hb:noSuper o=true) (hp:(apos.endLine==pos.line)=true) (hs:isStar x=false) (ho:EOk S F q d Γ sc o a) (hx:EOk S F q d Γ sc x b) :
  EOk S F q d Γ sc (.Call (.Attribute o m apos) [x] [] pos) (.sm p a b):=by
 have hm:=zS hm
 simp only [m1Names,List.mem_cons,Prod.mk.injEq,List.not_mem_nil,or_false] at hm
 rcases hm with ⟨rfl,rfl⟩
  | ⟨rfl,rfl⟩
 ·exact zLv (fun _ _=>rfl) PySem.F.slot_str_join PySem.F.type_str_join (fun _ _ _ _ _ _ _ _ _ _ _ L e ra rb=>zF9 L e ra rb) hb hp hs ho hx
 ·exact zLp hb hp hs ho hx
end
end Mine
end

section
namespace Mine
open PySem PyProof.Rows
noncomputable def ya (env:Env):List Addr:=env.locals :: env.cells.map (·.2)
structure FW (env:Env) (X:List Addr):Prop where
 loc:env.locals ∈ X
 mem:∀ p ∈ env.cells,p.2 ∈ X
 inj:∀ x y c,env.cells.lookup x=some c->env.cells.lookup y=some c->x=y
theorem FW.cellX {env:Env} {X:List Addr} (fw:FW env X) (x:Str) (c:Addr) (h:env.cells.lookup x=some c):c ∈ X:=fw.mem _ (zS h)
theorem zCL {env:Env} {X:List Addr} (fw:FW env X):∀ a ∈ ya env,a ∈ X:=fun a h=>by
 rcases List.mem_cons.mp h with h | h
 ·exact h ▸ fw.loc
 ·obtain ⟨p,hp,rfl⟩:=List.mem_map.mp h
  exact fw.mem p hp
theorem zBz {β:Type} {x:Str} {y:β}:∀ {l:List (Str × β)},l.lookup x=some y->y ∈ l.map (·.2):=fun h=>List.mem_map_of_mem (f:=(·.2)) (zS h)
noncomputable def FlR (S:zR) (X:List Addr) (f:List Loc) (h:Heap) (env:Env) (Γ:List Str) (sc:Scope):Fl->Flow->Prop
 | .next J,fl=>fl=.next /\ FR S X f h env Γ sc J
 | .ret v,fl=>∃ w,fl=.ret w /\ VR S X f h v w
inductive QF (S:zR) (X:List Addr) (env:Env) (Γ:List Str) (sc:Scope) (f:List Loc) (s:Shared) (r:R Fl) (fl:Flow) (s':Shared):Prop where
 | mk (x:Fl) (U':Sto) (g:List Loc) (e:r=.ok x U') (hg:Fresh g s) (k:Kp f (ya env) s s') (L:Lk S X (f++g) U' s'.heap) (p:FlR S X (f++g) s'.heap env Γ sc x fl)
section
variable (S:zR) (F Fq:Calls) (q:Bool) (d:Nat)
noncomputable def SOk (Γ:List Str) (sc:Scope) (st:Stmt) (c:CS):Prop:=∀ (env:Env) (J:List V) (f:List Loc) (X:List Addr) (U:Sto) (s:Shared) (A:Around),St S q d Γ sc env J f X U s A->FW env X ->
 exS F Fq q c J U ≠ .stuck->wpAny (model S.prog S.w) A (exec st env) (QF S X env Γ sc f s (exS F Fq q c J U)) (ES S X (ya env) f false s (exS F Fq q c J U)) s
noncomputable def LSOk (Γ:List Str) (sc:Scope) (st:List Stmt) (c:List CS):Prop:=∀ (env:Env) (J:List V) (f:List Loc) (X:List Addr) (U:Sto) (s:Shared) (A:Around),St S q d Γ sc env J f X U s A->FW env X ->
 exL F Fq q c J U ≠ .stuck->wpAny (model S.prog S.w) A (execs st env) (QF S X env Γ sc f s (exL F Fq q c J U)) (ES S X (ya env) f false s (exL F Fq q c J U)) s
end
section
variable {S:zR} {C:Ctx} {T:Nat->Option Fn} {F Fq:Calls} {q:Bool} {d:Nat} {Γ:List Str} {sc:Scope}
variable {X X' Y Z:List Addr} {f g:List Loc} {U:Sto} {s s':Shared} {A:Around} {E:Value->Shared->Prop} {I a:Addr} {its:Items} {i:Nat} {env:Env} {J:List V}
theorem QF.lifts:zCR (ya env) (fun f s r a s'=>QF S X env Γ sc f s r a s'):=fun f g s s₁ r c s' hg k q=>by
 obtain ⟨b',U'',g',e,hg',k',L,p⟩:=q
 rw [List.append_assoc] at L p
 exact ⟨b',U'',g++g',e,hg.trans k.live hg',k.trans hg k',L,p⟩
theorem Sim.goS {α β:Type} {P:α->β->List Loc->Shared->Prop}
  {t:Sem α} {r:R β} {rk:β->Sto->R Fl} {W:α->Shared->Prop} {Q':Flow->Shared->Prop} {E':Value->Shared->Prop} (h:Sim S A X [] f P t r s) (hne:r.bind rk ≠ .stuck)
  (hQ:∀ c s'',QF S X env Γ sc f s (r.bind rk) c s''->Q' c s'') (hE:∀ e s'',ES S X (ya env) f false s (r.bind rk) e s''->E' e s'')
  (hk:∀ a b U' g s',rk b U' ≠ .stuck->Fresh g s->Kp f [] s s'->Lk S X (f++g) U' s'.heap->P a b (f++g) s'->(∀ c s'',QF S X env Γ sc (f++g) s' (rk b U') c s''->Q' c s'') ->
   (∀ e s'',ES S X (ya env) (f++g) false s' (rk b U') e s''->E' e s'')->W a s'):wpAny (model S.prog S.w) A t W E' s:=by
 have hr:r ≠ .stuck:=fun e=>hne (by rw [e]; rfl)
 refine wpAny_mono (h hr) (fun a s' q=>?_) fun e s' q=>hE e s' ?_
 ·obtain ⟨b,U',g,rfl,hg,k,L,p⟩:=q
  have ky:Kp f (ya env) s s':=k.mono fun a h=>nomatch h
  exact hk a b U' g s' hne hg k L p (fun c s'' q=>hQ c s'' (QF.lifts f g s s' _ c s'' hg ky q)) fun e s'' q=>hE e s'' (ES.lifts f g s s' _ e s'' hg ky q)
 ·obtain ⟨c,U',g,ea,e1,rfl,hg,k,L,x⟩:=q
  exact ⟨c,U',g,ea,e1,rfl,hg,(k.mono fun a h=>nomatch h),L,x⟩
theorem wS {y:Str}:∀ {Γ:List Str} {i:Nat},zx y Γ=some i->Γ[i]?=some y
 | [],i,h=>by simp [zx] at h
 | z :: Γ,i,h=>by
  simp only [zx] at h
  split at h
  ·rename_i j hj; cases h; simpa using wS hj
  ·split at h
   ·rename_i e; cases h; rw [eq_of_beq e]; rfl
   ·first | exact zB h | exact zF h | cases h
theorem zA7 {x:Str} (h:yx Γ sc x=some i):(sc.names.lookup x=some .local \/ sc.names.lookup x=some .cell) /\ zx x Γ=some i:=by
 unfold yx at h
 split at h
 ·rename_i e
  simp only [Bool.or_eq_true] at e
  exact ⟨e.imp (fun q=>eq_of_beq q) fun q=>eq_of_beq q,h⟩
 ·first | exact zB h | exact zF h | cases h
theorem FR.mv (m:Mv a s s') (ha:a ∈ X) (hl:env.locals ≠ a) (hc:∀ x c,env.cells.lookup x=some c->c ≠ a) (fr:FR S X f s.heap env Γ sc J):FR S X f s'.heap env Γ sc J:=by
 have ns:∀ {b:Addr} {m':Str->Option Value},b ≠ a->s.heap.Ns b m'->s'.heap.Ns b m':=fun hb h=>by
  obtain ⟨o,es,ep,ho,r⟩:=h
  exact ⟨o,es,ep,m.keep _ _ hb ho,r⟩
 have cl:∀ {b:Addr} {m':Option Value},b ≠ a->s.heap.IsCell b m'->s'.heap.IsCell b m':=fun hb h=>by
  obtain ⟨o,ho,r⟩:=h
  exact ⟨o,m.keep _ _ hb ho,r⟩
 refine ⟨fr.kind,fr.glob,fr.blt,fr.names,⟨fr.loc.1,let ⟨m',h⟩:=fr.loc.2; ⟨m',ns hl h⟩⟩,fun x hx=>?_,fun x i v h1 h2 h3 h4=>?_,fr.len⟩
 ·obtain ⟨c,o,e1,hX,h⟩:=fr.cells x hx
  exact ⟨c,o,e1,hX,cl (hc x c e1) h⟩
 ·obtain ⟨w,h5,h6⟩:=fr.vals x i v h1 h2 h3 h4
  refine ⟨w,?_,m.vr ha h6⟩
  rcases h5 with ⟨k,m',h7,h8⟩ | ⟨k,c,h7,h8⟩
  ·exact .inl ⟨k,m',ns hl h7,h8⟩
  ·exact .inr ⟨k,c,h7,cl (hc x c h7) h8⟩
theorem xo {x:Str} {v:V} {w:Value} {Q:Unit->Shared->Prop} (fr:FR S X f s.heap env Γ sc J) (fw:FW env X) (hx:yx Γ sc x=some i) (r:VR S X f s.heap v w)
  (h:∀ a s',a ∈ ya env->a ∈ X->Mv a s s'->FR S X f s'.heap env Γ sc (J.set i v)->Q () s'):wpAny (model S.prog S.w) A (storeName env x w) Q E s:=by
 obtain ⟨hk,hi⟩:=zA7 hx
 have hkind:env.kindOf x=some .local \/ env.kindOf x=some .cell:=by
  rcases fr.names x with e | ⟨e,_⟩
  ·rw [e]; exact hk
  ·rcases hk with h | h <;> rw [h] at e <;> cases e
 have hvx:zA1 sc x=true:=by unfold zA1; rcases hk with h | h <;> rw [h]
 have hil:i < J.length:=by rw [fr.len]; exact wu hi
 obtain ⟨m,hm⟩:=fr.loc.2
 have same:∀ y,zx y Γ=some i->y=x:=fun y hy=>by
  have h1:=wS hy
  rw [wS hi] at h1; cases h1; rfl
 have setv:∀ {j:Nat} {v':V},(J.set i v)[j]?=some v'->j ≠ i->J[j]?=some v':=fun h hne=>by rwa [List.getElem?_set_ne (fun q=>hne q.symm)] at h
 have cellNe:∀ x c,yP (env.kindOf x)->env.cells.lookup x=some c->c ≠ env.locals:=fun x c hk e q=>by
  obtain ⟨c',o,e',_,⟨ob,h1,h2⟩⟩:=fr.cells x hk
  rw [e] at e'; cases e'
  obtain ⟨ob',es,ep,h3,h4,_⟩:=hm
  rw [q,h3] at h1; cases h1; rw [h4] at h2; cases h2
 rcases hkind with hl | hc
 ·refine wpAny_storeName_local hl hm (fun h' hn' hs'=>?_) (by simp [fr.kind])
  have mv:Mv env.locals s { s with heap:=h',toks:=s.toks+1 }:=zB1 hn' fun b hb=>hs'.2 b hb
  refine h env.locals _ List.mem_cons_self fw.loc mv ?_
  have cl:∀ {b:Addr} {m':Option Value},b ≠ env.locals->s.heap.IsCell b m'->h'.IsCell b m':=fun hb h=>by
   obtain ⟨o,ho,r⟩:=h
   exact ⟨o,mv.keep _ _ hb ho,r⟩
  refine ⟨fr.kind,fr.glob,fr.blt,fr.names,⟨fr.loc.1,_,hn'⟩,fun y hy=>?_,fun y j v' h1 h2 h3 h4=>?_,by rw [List.length_set]; exact fr.len⟩
  ·obtain ⟨c,o,e1,hX,h5⟩:=fr.cells y hy
   exact ⟨c,o,e1,hX,cl (cellNe y c hy e1) h5⟩
  ·by_cases hj:j=i
   ·subst hj
    have hy:=same y h2
    subst hy
    rw [List.getElem?_set_self hil] at h3; cases h3
    exact ⟨w,.inl ⟨hl,_,hn',by simp⟩,mv.vr fw.loc r⟩
   ·obtain ⟨w',h5,h6⟩:=fr.vals y j v' h1 h2 (setv h3 hj) h4
    refine ⟨w',?_,mv.vr fw.loc h6⟩
    rcases h5 with ⟨k,m',h7,h8⟩ | ⟨k,c,h7,h8⟩
    ·refine .inl ⟨k,_,hn',?_⟩
     have hyx:y ≠ x:=fun q=>by rw [q,hi] at h2; cases h2; exact hj rfl
     obtain ⟨ob,es,ep,q1,q2,q3,q4⟩:=h7
     obtain ⟨ob',es',ep',p1,p2,p3,p4⟩:=hm
     rw [q1] at p1; cases p1; rw [q2] at p2; cases p2
     show (if y=x then some w else m y)=some w'
     rw [if_neg hyx,<- p4 y,q4 y,h8]
    ·exact .inr ⟨k,c,h7,cl (cellNe y c k h7) h8⟩
 ·obtain ⟨c,o,e1,hX,hcell⟩:=fr.cells x (.inl hc)
  refine wpAny_storeName_cell fr.kind hc e1 hcell fun h' hc' hs'=>?_
  obtain ⟨o2,e3,e4⟩:=id hc'
  have mv:Mv c s { s with heap:=h' }:=⟨rfl,fun b o hb e=>(hs'.2 b hb).trans e,⟨o2,e3⟩,fun ob es n q1 q2=>by
   obtain ⟨ob',q3,q4⟩:=hcell
   rw [q3] at q1; cases q1; rw [q4] at q2; cases q2⟩
  refine h c _ (List.mem_cons_of_mem _ (zBz e1)) hX mv ?_
  have hlne:env.locals ≠ c:=fun q=>cellNe x c (.inl hc) e1 q.symm
  have ns:∀ {m':Str->Option Value},s.heap.Ns env.locals m'->h'.Ns env.locals m':=fun h=>by
   obtain ⟨o,es,ep,ho,r⟩:=h
   exact ⟨o,es,ep,mv.keep _ _ hlne ho,r⟩
  have cl:∀ {b:Addr} {m':Option Value},b ≠ c->s.heap.IsCell b m'->h'.IsCell b m':=fun hb h=>by
   obtain ⟨o,ho,r⟩:=h
   exact ⟨o,mv.keep _ _ hb ho,r⟩
  refine ⟨fr.kind,fr.glob,fr.blt,fr.names,⟨fr.loc.1,_,ns hm⟩,fun y hy=>?_,fun y j v' h1 h2 h3 h4=>?_,by rw [List.length_set]; exact fr.len⟩
  ·obtain ⟨c',o',e1',hX',h5⟩:=fr.cells y hy
   by_cases hcc:c'=c
   ·subst hcc; exact ⟨c',_,e1',hX,hc'⟩
   ·exact ⟨c',o',e1',hX',cl hcc h5⟩
  ·by_cases hj:j=i
   ·subst hj
    have hy:=same y h2
    subst hy
    rw [List.getElem?_set_self hil] at h3; cases h3
    exact ⟨w,.inr ⟨.inl hc,c,e1,hc'⟩,mv.vr hX r⟩
   ·obtain ⟨w',h5,h6⟩:=fr.vals y j v' h1 h2 (setv h3 hj) h4
    refine ⟨w',?_,mv.vr hX h6⟩
    have hyx:y ≠ x:=fun q=>by rw [q,hi] at h2; cases h2; exact hj rfl
    rcases h5 with ⟨k,m',h7,h8⟩ | ⟨k,c',h7,h8⟩
    ·exact .inl ⟨k,m',ns h7,h8⟩
    ·exact .inr ⟨k,c',h7,cl (fun q=>hyx (fw.inj y x c (q ▸ h7) e1)) h8⟩
theorem zRb {v:Fl} {fl:Flow} (hY:a ∈ ya env) (hX:a ∈ X) (L:Lk S X f U s.heap) (m:Mv a s s') (h:FlR S X f s'.heap env Γ sc v fl):QF S X env Γ sc f s (.ok v U) fl s':=
 ⟨v,U,[],rfl,.nil s,m.kp hY,by rw [List.append_nil]; exact m.lk hX L,by rw [List.append_nil]; exact h⟩
theorem zBN {v:Fl} {fl:Flow} (L:Lk S X f U s.heap) (h:FlR S X f s.heap env Γ sc v fl):QF S X env Γ sc f s (.ok v U) fl s:=
 ⟨v,U,[],rfl,.nil s,.refl f _ s,by rw [List.append_nil]; exact L,by rw [List.append_nil]; exact h⟩
theorem zMI {e:Expr} {t:Option Expr} {n:Nat} (h:isComp e=false) (h2:∀ el gs sc p,e ≠ .SetComp el gs sc p) (h3:∀ k v gs sc p,e ≠ .DictComp k v gs sc p):swapsWith e t n env=pure false:=by
 cases e <;> first | rfl | exact zF h.symm | exact absurd rfl (h2 _ _ _ _) | exact absurd rfl (h3 _ _ _ _ _)
theorem zPx {e:Expr} {c:CE} {pos:Pos} (h:EOk S F q d Γ sc e c):SOk S F Fq q d Γ sc (.Return (some e) pos) (.ret c):=fun env J f X U s A st fw hne=>by
 rw [zOa] at hne ⊢
 refine wpAny_Return_some ?_
 refine Sim.goS (Γ:=Γ) (sc:=sc) (h env J f X U s A st) hne (fun _ _ x=>x) (fun _ _ x=>x) fun va a' U1 g₁ s₁ hne hg k L ra hQ hE=>hQ _ _ (zBN L ⟨va,rfl,ra⟩)
theorem zNZ {pos:Pos}:SOk S F Fq q d Γ sc (.Pass pos) .pass:=fun env J f X U s A st fw hne=>by
 rw [zQR]
 exact wpAny_Pass (zBN st.lk ⟨rfl,st.fr⟩)
theorem zPp {e:Expr} {c:CE} {pos:Pos} (h:EOk S F q d Γ sc e c) (hs:∀ env n t,swapsWith e t n env=pure false):SOk S F Fq q d Γ sc (.Expr e pos) (.exp c):=fun env J f X U s A st fw hne=>by
 rw [zMV] at hne ⊢
 refine wpAny_Expr_any ?_ (by simp [interactive,st.fr.kind]) (hs _ _ _)
 refine Sim.goS (Γ:=Γ) (sc:=sc) (h env J f X U s A st) hne (fun _ _ x=>x) (fun _ _ x=>x) fun va a' U1 g₁ s₁ hne hg k L ra hQ hE=>hQ _ _ (zBN L ⟨rfl,(st.keep hg k L).fr⟩)
theorem zKO {x:Str} {px pos:Pos} {e:Expr} {c:CE} (hx:yx Γ sc x=some i) (h:EOk S F q d Γ sc e c) (st:St S q d Γ sc env J f X U s A) (fw:FW env X) (hs:swapsWith e (some (.Name x px)) pos.line env=pure false) (hne:exS F Fq q (.asg i c) J U ≠ .stuck) :
  wpAny (model S.prog S.w) A (exec (.Assign [.Name x px] e pos) env) (QF S X env Γ sc f s (exS F Fq q (.asg i c) J U)) (ES S X (ya env) f false s (exS F Fq q (.asg i c) J U)) s:=by
 rw [zMS] at hne ⊢
 refine wpAny_Assign_Name ?_ hs
 refine Sim.goS (Γ:=Γ) (sc:=sc) (h env J f X U s A st) hne (fun _ _ x=>x) (fun _ _ x=>x) fun va a' U1 g₁ s₁ hne hg k L ra hQ hE=>?_
 exact xo (st.keep hg k L).fr fw hx ra fun b s' hY hX m fr=>hQ _ _ (zRb hY hX L m ⟨rfl,fr⟩)
theorem zPn {x:Str} {px pos:Pos} {e:Expr} {c:CE} (hx:yx Γ sc x=some i) (h:EOk S F q d Γ sc e c) (hs:∀ env n t,swapsWith e t n env=pure false):SOk S F Fq q d Γ sc (.Assign [.Name x px] e pos) (.asg i c):=fun env J f X U s A st fw hne =>
 zKO hx h st fw (hs _ _ _) hne
theorem zRf {t:Expr} {c:CE} {a b:List Stmt} {ca cb:List CS} {pos:Pos} (ht:TOk S F q d Γ sc t c) (ha:LSOk S F Fq q d Γ sc a ca) (hb:LSOk S F Fq q d Γ sc b cb):SOk S F Fq q d Γ sc (.If t a b pos) (.ite c ca cb):=fun env J f X U s A st fw hne=>by
 have key:exS F Fq q (.ite c ca cb) J U=((evE F q c J U).bind fun v U=>R.lift U (truthy U v)).bind fun t U=>if t then exL F Fq q ca J U else exL F Fq q cb J U:=by rw [zMW,R.bind_assoc]
 rw [key] at hne ⊢
 refine wpAny_If ?_
 refine Sim.goS (Γ:=Γ) (sc:=sc) (ht env J f X U s A st) hne (fun _ _ x=>x) (fun _ _ x=>x) fun va a' U1 g₁ s₁ hne hg k L ra hQ hE=>?_
 replace ra:va=a':=ra
 subst ra
 cases va with
 | true=>exact wpAny_mono (ha env J _ X U1 s₁ A (st.keep hg k L) fw hne) hQ hE
 | false=>exact wpAny_mono (hb env J _ X U1 s₁ A (st.keep hg k L) fw hne) hQ hE
theorem zPu:LSOk S F Fq q d Γ sc [] []:=fun env J f X U s A st fw hne=>by
 rw [zQQ]
 exact wpAny_execs_nil (zBN st.lk ⟨rfl,st.fr⟩)
theorem zNV {a:Stmt} {b:List Stmt} {ca:CS} {cb:List CS} (ha:SOk S F Fq q d Γ sc a ca) (hb:LSOk S F Fq q d Γ sc b cb):LSOk S F Fq q d Γ sc (a :: b) (ca :: cb):=fun env J f X U s A st fw hne=>by
 rw [zHv] at hne ⊢
 have hr:exS F Fq q ca J U ≠ .stuck:=fun e=>hne (by rw [e]; rfl)
 refine wpAny_execs_cons (wpAny_mono (ha env J f X U s A st fw hr) (fun fl s₁ h₁=>?_) fun e s₁ h₁=>?_)
 ·obtain ⟨x,U1,g,e,hg,k,L,p⟩:=h₁
  rw [e,R.bind_ok] at hne ⊢
  cases x with
  | next J' =>
   obtain ⟨rfl,fr⟩:=p
   have st₁:St S q d Γ sc env J' (f++g) X U1 s₁ A:=⟨st.cx.keep k hg,fr,L,st.hn.keep k hg (zCL fw)⟩
   exact wpAny_mono (hb env J' _ X U1 s₁ A st₁ fw hne) (fun c s'' q=>QF.lifts f g s s₁ _ c s'' hg k q) fun c s'' q=>ES.lifts f g s s₁ _ c s'' hg k q
  | ret v =>
   obtain ⟨w,rfl,r⟩:=p
   exact ⟨.ret v,U1,g,rfl,hg,k,L,w,rfl,r⟩
 ·obtain ⟨c,U',g,ea,e1,e2,hgE,kE,LE,xE⟩:=h₁
  exact ⟨c,U',g,ea,e1,by rw [e2]; rfl,hgE,kE,LE,xE⟩
end
end Mine
end

section
namespace Mine
open PySem PyProof.Rows
section
variable {S:zR} {C:Ctx} {T:Nat->Option Fn} {F Fq:Calls} {q:Bool} {d:Nat} {Γ:List Str} {sc:Scope}
variable {X X' Y Z:List Addr} {f g:List Loc} {U:Sto} {s s':Shared} {A:Around} {E:Value->Shared->Prop} {I a:Addr} {its:Items} {i:Nat} {env:Env} {J:List V}
set_option maxRecDepth 100000 in
theorem zFL {l:Addr} {items:Array Value} {n:Nat} {k:Int} {t:Tok} {v:Value} {Q:Unit->Shared->Prop} (hl:IsL s.heap l items n) (h0:0 <= k) (hfit:k < 2 ^ 63) (hn:k < items.size)
  (hQ:Q () { s with heap:=s.heap.update l (Obj.mapSeq (·.setIfInBounds k.toNat v)) }):wpAny (model S.prog S.w) A (setItem (.ref l) (.int k t) v) Q E s:=by
 have il:=IsL.isList hl
 unfold setItem
 try with_reducible refine wpAny_holding ?_
 first | refine wpAny_bind (wpAny_pure ?_) | skip
 refine wpAny_bind (wpAny_sequenceKey il.typeIs (by decide) ?_)
 refine wpAny_bind (wpAny_callSpecial?_slot (name:=Str.ofString "__setitem__") il.typeIs slot_list_setitem
  (wpAny_call_entry slot_list_setitem il.typeIs entry_list_setitem ?_ (args_list_setitem _ _ _)))
 show wpAny _ _ (Builtin.List.listSubscript? (.int k t) >>= _) _ _ s
 refine wpAny_bind (wpAny_listSubscript_int (fitsIndex_of h0 hfit) ?_)
 clear hfit
 obtain ⟨j,rfl⟩:=Int.eq_ofNat_of_zero_le h0
 have hj:j < items.size:=Int.ofNat_lt.mp hn
 have hx':items[j]?=some items[j]:=Array.getElem?_eq_getElem hj
 show wpAny _ _ ((seqItemAt l j >>= fun r=>pure (r.map (j,·))) >>= _) _ _ s
 refine wpAny_bind (wpAny_bind (wpAny_seqItemAt hl rfl (wpAny_pure ?_)))
 rw [hx']
 show wpAny _ _ (setSeqItemAt l j v >>= _) _ _ s
 refine wpAny_bind (wpAny_setSeqItemAt hl rfl ?_)
 first
  | exact wpAny_bind (wpAny_pure (wpAny_pure ⟨.none,rfl,wpAny_pure hQ⟩))
  | exact wpAny_pure ⟨.none,rfl,wpAny_pure hQ⟩
inductive zOh (U:Sto) (o i:V):Prop
 | list (n:Nat) (k:Int) (xs:List V) (eo:o=.ref n) (ei:i=.int k) (hU:U[n]?=some (.list xs)) (hk:0 <= k /\ k.toNat < xs.length)
 | dict (n:Nat) (k:Int) (es:List (Int × V)) (eo:o=.ref n) (ei:i=.int k) (hU:U[n]?=some (.dict es)) (hl:es.length < LIM)
theorem zP4 {U:Sto} {o i v:V} {γ:Type} {rk:Unit->Sto->R γ} (h:(xO U o i v).bind rk ≠ .stuck):zOh U o i:=by
 cases o with
 | ref n =>
  cases i with
  | int k =>
   replace h:(zAs U n k v U[n]?).bind rk ≠ .stuck:=h
   cases hU:U[n]? with
   | none=>rw [hU] at h; exact absurd rfl h
   | some ob =>
    rw [hU] at h
    cases ob with
    | list xs =>
     by_cases hk:0 <= k /\ k.toNat < xs.length
     ·exact .list n k xs rfl rfl hU hk
     ·exact absurd (by show R.bind (if 0 <= k /\ k.toNat < xs.length then _ else _) _=_; rw [if_neg hk]; rfl) h
    | dict es =>
     by_cases hl:es.length < LIM
     ·exact .dict n k es rfl rfl hU hl
     ·exact absurd (by show R.bind (if es.length < LIM then _ else _) _=_; rw [if_neg hl]; rfl) h
    | inst _=>exact absurd rfl h
  | _=>exact absurd rfl h
 | _=>exact absurd rfl h
theorem zM6 {j:Nat} (h:j < LIM):(j:Int) < 2 ^ 63:=Int.lt_trans (Int.ofNat_lt.mpr h) (by decide)
theorem zGJ {o ix e:Expr} {a b c:CE} {p' pos:Pos} (ho:EOk S F q d Γ sc o a) (hi:EOk S F q d Γ sc ix b) (h:EOk S F q d Γ sc e c) (hs:∀ env n t,swapsWith e t n env=pure false):SOk S F Fq q d Γ sc (.Assign [.Subscript o ix p'] e pos) (.setItem a b c):=fun env J f X U s A st fw hne=>by
 rw [zDe] at hne ⊢
 refine wpAny_Assign_Subscript ?_ (hs _ _ _)
 refine Sim.goS (Γ:=Γ) (sc:=sc) (h env J f X U s A st) hne (fun _ _ x=>x) (fun _ _ x=>x) fun vv v' U1 g₁ s₁ hne hg k L rv hQ hE=>?_
 have st₁:=st.keep hg k L
 refine Sim.goS (Γ:=Γ) (sc:=sc) (ho env J _ X U1 s₁ A st₁) hne hQ hE fun vo o' U2 g₂ s₂ hne hg₂ k₂ L₂ ro hQ hE=>?_
 have st₂:=st₁.keep hg₂ k₂ L₂
 have rv2:=VR.keepK k₂ hg₂ (fun _ h=>nomatch h) rv
 refine Sim.goS (Γ:=Γ) (sc:=sc) (hi env J _ X U2 s₂ A st₂) hne hQ hE fun vi i' U3 g₃ s₃ hne hg₃ k₃ L₃ ri hQ hE=>?_
 have st₃:=st₂.keep hg₃ k₃ L₃
 have rv3:=VR.keepK k₃ hg₃ (fun _ h=>nomatch h) rv2
 have ro3:=VR.keepK k₃ hg₃ (fun _ h=>nomatch h) ro
 cases zP4 hne with
 | list n k' xs eo ei hU hk =>
  subst eo
  subst ei
  have hd:xO U3 (.ref n) (.int k') v'=.ok () (U3.set n (.list (xs.set k'.toNat v'))):=by show zAs U3 n k' v' U3[n]?=_; rw [hU]; exact if_pos hk
  rw [hd] at hQ
  obtain ⟨ax,vs,kk,rfl,hf,il,rs,hlen⟩:=wz L₃ ro3 hU
  obtain ⟨t,rfl⟩:=yH ri
  obtain ⟨j,rfl⟩:=Int.eq_ofNat_of_zero_le hk.1
  have hj:j < vs.size:=by rw [zc rs]; exact hk.2
  have hfit:(j:Int) < 2 ^ 63:=zM6 (Nat.lt_of_lt_of_le (zc rs ▸ hj) hlen)
  obtain ⟨L4,k4⟩:=zCH (fn:=fun xs=>xs.setIfInBounds j vv) (xs:=xs.set j v') L₃ hf il (by rw [Array.toList_setIfInBounds]; exact zGk rs rv3) (by rw [List.length_set]; exact hlen)
  refine zFL il (Int.natCast_nonneg j) hfit (Int.ofNat_lt.mpr hj) (hQ _ _ ⟨.next J,_,[],rfl,.nil _,k4.mono (fun a h=>nomatch h),by rw [List.append_nil]; exact L4,rfl,?_⟩)
  rw [List.append_nil]
  have:=st₃.fr.keep (g:=[]) L₃ k4 (.nil _)
  rwa [List.append_nil] at this
 | dict n k' es eo ei hU hl =>
  subst eo
  subst ei
  have hd:xO U3 (.ref n) (.int k') v'=.ok () (U3.set n (.dict (xz es k' v'))):=by show zAs U3 n k' v' U3[n]?=_; rw [hU]; exact if_pos hl
  rw [hd] at hQ
  refine zFM L₃ ro3 ri hU hl rv3 fun h' tk L4 k4=>hQ _ _ ⟨.next J,_,[],rfl,.nil _,k4 _,by rw [List.append_nil]; exact L4,rfl,?_⟩
  exact st₃.fr.keep (g:=[]) L₃ (k4 []) (.nil _)
theorem FR.drop {h h':Heap} (fr:FR S X f h env Γ sc J) (fw:FW env X') (hX:∀ a ∈ X',a ∈ X /\ a ∉ Z) (hZ:∀ a ∈ Z,a ∈ X) (k:∀ b o,b ∉ Z->h.get? b=some o->h'.get? b=some o):FR S X' f h' env Γ sc J:=by
 have ns:∀ {b:Addr} {m':Str->Option Value},b ∈ X'->h.Ns b m'->h'.Ns b m':=fun hb x=>by
  obtain ⟨o,es,ep,ho,r⟩:=x
  exact ⟨o,es,ep,k _ _ (hX _ hb).2 ho,r⟩
 have cl:∀ {b:Addr} {m':Option Value},b ∈ X'->h.IsCell b m'->h'.IsCell b m':=fun hb x=>by
  obtain ⟨o,ho,r⟩:=x
  exact ⟨o,k _ _ (hX _ hb).2 ho,r⟩
 refine ⟨fr.kind,fr.glob,fr.blt,fr.names,⟨fw.loc,let ⟨m,h⟩:=fr.loc.2; ⟨m,ns fw.loc h⟩⟩,fun x hx=>?_,fun x i v h1 h2 h3 h4=>?_,fr.len⟩
 ·obtain ⟨c,o,e,_,h⟩:=fr.cells x hx
  exact ⟨c,o,e,fw.cellX x c e,cl (fw.cellX x c e) h⟩
 ·obtain ⟨w,h5,h6⟩:=fr.vals x i v h1 h2 h3 h4
  refine ⟨w,?_,h6.drop (fun a ha=>(hX a ha).1) hZ k⟩
  rcases h5 with ⟨kk,m',h7,h8⟩ | ⟨kk,c,h7,h8⟩
  ·exact .inl ⟨kk,m',ns fw.loc h7,h8⟩
  ·exact .inr ⟨kk,c,h7,cl (fw.cellX x c h7) h8⟩
theorem FW.more (fw:FW env X):FW env (a :: X):=⟨List.mem_cons_of_mem _ fw.loc,fun p hp=>List.mem_cons_of_mem _ (fw.mem p hp),fw.inj⟩
theorem zLa (fw:FW env X) (hI:I ∉ X):I ∉ ya env:=fun h=>by
 rcases List.mem_cons.mp h with h | h
 ·exact hI (h ▸ fw.loc)
 ·obtain ⟨p,hp,rfl⟩:=List.mem_map.mp h
  exact hI (fw.mem p hp)
theorem zFA {scope:Scope} {x y:Str} {px py pos spos:Pos} {elt iter:Expr} {ifs:List Expr} {ce c':CE} {cond:Option CE} {k:SK} {cs:List CE} (hy:yx Γ sc y=some i) (ok:vF Γ sc scope x) (hsrc:zAy S F q d Γ sc iter k cs)
  (hcond:(ifs=[] /\ cond=none) \/ ∃ e c,ifs=[e] /\ cond=some c /\ TOk S F q d (Γ++[x]) scope e c) (helt:EOk S F q d (Γ++[x]) scope elt ce) (hc':c'=.comp ce k cs cond \/ c'=.trk (.comp ce k cs cond)) :
  SOk S F Fq q d Γ sc (.Assign [.Name y py] (.ListComp elt [⟨.Name x px,iter,ifs,0⟩] scope pos) spos) (.asg i c'):=fun env J f X U s A st fw hne=>by
 have hn:=zHX (px:=px) (pos:=pos) ok hsrc hcond helt
 have he:EOk S F q d Γ sc (.ListComp elt [⟨.Name x px,iter,ifs,0⟩] scope pos) c':=by
  rcases hc' with rfl | rfl
  ·exact hn.eok
  ·exact hn.trk
 by_cases hsw:(env.blockKind==.function&&env.kindOf y==some .local&&py.line==pos.line&&!(scope.names.any fun (n,k)=>n==y&&(k==.local||k==.cell)))=true
 ·have hs:swapsWith (.ListComp elt [⟨.Name x px,iter,ifs,0⟩] scope pos) (some (.Name y py)) spos.line env=pure true:=by
   show pure (env.blockKind==.function&&env.kindOf y==some .local&&py.line==pos.line&&!(scope.names.any fun (n,k)=>n==y&&(k==.local||k==.cell)))=_
   rw [hsw]
  rw [exec_Assign_Name_used _ _ _ _ hs]
  rw [zMS] at hne ⊢
  have hval:∃ tk:V->Sto->R V,evE F q c' J U=(((evL F q cs J U).bind fun vs U=>R.lift U (yd q U k vs)).bind fun its U=>(zo its (yT F q ce cond J) [] U).bind fun acc U=>.ok (.lst acc) U).bind tk /\
    ∀ {X:List Addr} {s:Shared} {r:R V} {v:Value} {s':Shared},(r.bind tk) ≠ .stuck->QN S X [] f s r v s'->QS S X [] f (PV S X) s (r.bind tk) v s':=by
   rcases hc' with rfl | rfl
   ·exact ⟨fun v U=>.ok v U,by rw [jD]; generalize R.bind _ _=r; cases r <;> rfl,fun {X s r v s'} _ h=>by
     have:(r.bind fun v U=>R.ok v U)=r:=by cases r <;> rfl
     rw [this]; exact h.qs⟩
   ·exact ⟨fun v U=>zEh U v,by rw [kO,jD],fun {X s r v s'} hne h=>h.trk hne⟩
  obtain ⟨tk,e0,htk⟩:=hval
  rw [e0] at hne ⊢
  obtain ⟨cl,hclos,hcl⟩:=st.fr.closure ok
  refine wpAny_bind (wpAny_standAt (wpAny_bind ?_))
  show wpAny _ A (do let _ <- comprehension (.ListComp elt [⟨.Name x px,iter,ifs,0⟩] scope pos) scope env _ (newList []) false (eval iter env) (some (assign (.Name y py) env))) _ _ s
  refine wpAny_bind (wpAny_mono (wpAny_comprehension_free (Q:=fun _ s'=>QF S X env Γ sc f s _ .next s') (g:=⟨.Name x px,iter,ifs,0⟩) (gs:=[]) rfl (hsrc.1 env) hclos ok.kind (fun p hp e=>(ok.loc p hp e).2) ?_) (fun _ s' hq=>wpAny_pure (wpAny_pure hq)) fun _ _ e=>e)
  have hr:((evL F q cs J U).bind fun vs U=>R.lift U (yd q U k vs)) ≠ .stuck:=fun e=>hne (by rw [e]; rfl)
  refine wpAny_mono (hsrc.2 env J f X U s A st hr) (fun xv s₁ h₁=>wpAny_mono h₁ (fun it s₂ h₂=>?_) fun e s' h=>?_) fun e s' h=>?_
  ·obtain ⟨its,U1,g,I,e1,rfl,hI,hIX,hg,kk,L,x0⟩:=h₂
   rw [e1,R.bind_ok] at hne ⊢
   have hne2:zo its (yT F q ce cond J) [] U1 ≠ .stuck:=fun e=>hne (by rw [e]; rfl)
   refine zBg st st.cx.hand ok hcl hcond helt hI hg kk L x0 hne2 (fun N D acc U' g' m ys n s' hN hD hND e2 hg' k' L' hns il vs hlen=>?_)
   rw [e2,R.bind_ok] at hne ⊢
   have hNX:N ∉ X:=(st.lk.new hN).2
   have hDX:D ∉ X:=(st.lk.new hD).2
   have qn:QN S (N :: X) [] f s (.ok (.lst acc) U') (.ref D) s':=by
    have hsw2:∀ a,a ∈ D :: N :: X->a ∈ N :: D :: X:=zMd (.tail _ (.head _)) (.head _) fun a ha=>.tail _ (.tail _ ha)
    have L2:Lk S (D :: N :: X) (f++g') U' s'.heap:=L'.less hsw2
    have vs2:=VRs.less hsw2 vs
    refine ⟨.lst acc,U',g',rfl,hg',k',L2.less fun a ha=>List.mem_cons_of_mem _ ha,?_,fun xs hxs=>?_⟩
    ·exact ⟨D,ys,n,rfl,⟨(L2.hid D List.mem_cons_self).2.1,fun h=>(List.mem_cons.mp h).elim (fun q=>hND q.symm) hDX⟩,il,vs2.less fun a ha=>List.mem_cons_of_mem _ ha,hlen⟩
    ·cases hxs
     exact ⟨D,ys,n,rfl,hD,(fun h=>(List.mem_cons.mp h).elim (fun q=>hND q.symm) hDX),L2,il,vs2,hlen⟩
   have hne3:((R.ok (.lst acc) U').bind tk) ≠ .stuck:=fun e=>hne (by rw [e]; rfl)
   obtain ⟨v3,σ3,g3,e3,hg3,k3,L3,r3⟩:=htk hne3 qn
   rw [e3,R.bind_ok]
   have fr3:FR S (N :: X) (f++g3) s'.heap env Γ sc J:=st.fr.later st.lk k3 hg3 (fun a ha=>(List.mem_cons.mp ha).elim (fun h=>.inr (h ▸ hN)) .inl) fun a ha=>List.mem_cons_of_mem _ ha
   refine wpAny_assign_Name (xo fr3 fw.more hy r3 fun b s4 hY hX m4 fr4=>?_)
   have hbN:N ≠ b:=fun q=>zLa fw hNX (q ▸ hY)
   refine ⟨m,zHW hns fun o=>m4.keep N o hbN,fun h' hs4=>?_⟩
   have hkk:∀ b o,b ∉ [N]->s4.heap.get? b=some o->h'.get? b=some o:=fun b o hb e=>(hs4.2 b (fun q=>hb (q ▸ List.mem_singleton.mpr rfl))).trans e
   have hZX:∀ a ∈ X,a ∈ N :: X /\ a ∉ [N]:=fun a ha=>⟨List.mem_cons_of_mem _ ha,fun h=>hNX (List.mem_singleton.mp h ▸ ha)⟩
   have hZ:∀ a ∈ [N],a ∈ N :: X:=fun a ha=>List.mem_singleton.mp ha ▸ List.mem_cons_self
   have ky:Kp f (ya env) s s4:=(k3.mono fun a h=>nomatch h).trans hg3 (m4.kp hY)
   exact ⟨.next (J.set i v3),σ3,g3,rfl,hg3,ky.ends (Z:=[N]) rfl hkk (fun b hb=>List.mem_singleton.mp hb ▸ hN),(m4.lk hX L3).drop hZX hZ hkk,rfl,fr4.drop fw hZX hZ hkk⟩
  ·obtain ⟨c,U',g,ea,e1,e2,hg,kk,L,r⟩:=h
   exact ⟨c,U',g,ea,e1,by rw [e2]; rfl,hg,(kk.mono fun a h=>nomatch h),L,r⟩
  ·obtain ⟨c,U',g,ea,e1,e2,hg,kk,L,r⟩:=h
   exact ⟨c,U',g,ea,e1,by rw [e2]; rfl,hg,(kk.mono fun a h=>nomatch h),L,r⟩
 ·refine zKO hy he st fw ?_ hne
  show pure (env.blockKind==.function&&env.kindOf y==some .local&&py.line==pos.line&&!(scope.names.any fun (n,k)=>n==y&&(k==.local||k==.cell)))=_
  rw [Bool.eq_false_iff.mpr hsw]
end
end Mine
end

section
namespace Mine
open PySem PyProof.Rows
section
variable {S:zR} {C:Ctx} {T:Nat->Option Fn} {F Fq:Calls} {q:Bool} {d:Nat} {Γ:List Str} {sc:Scope}
variable {X X' Y Z:List Addr} {f g:List Loc} {U:Sto} {s s':Shared} {A:Around} {E:Value->Shared->Prop} {I a:Addr} {its:Items} {i:Nat} {env:Env} {J:List V}
theorem LSOk.calm {ss:List Stmt} {cs:List CS} {γ:Type} {rk:Fl->Sto->R γ} (h:LSOk S F Fq q d Γ sc ss cs) (st:St S q d Γ sc env J f X U s A) (fw:FW env X) (hne:(exL F Fq q cs J U).calm.bind rk ≠ .stuck) :
  ∃ x U',(exL F Fq q cs J U).calm.bind rk=rk x U' /\ rk x U' ≠ .stuck /\ ∀ E,wpAny (model S.prog S.w) A (execs ss env) (fun fl s'=>∃ g,Fresh g s /\ Kp f (ya env) s s' /\ Lk S X (f++g) U' s'.heap /\ FlR S X (f++g) s'.heap env Γ sc x fl) E s:=by
 have hs:=h env J f X U s A st fw
 cases hr:exL F Fq q cs J U with
 | ok x U' =>
  rw [hr] at hne hs
  refine ⟨x,U',rfl,hne,fun E=>wpAny_mono (hs (by simp)) (fun a s' q=>?_) fun e s' q=>?_⟩
  ·obtain ⟨x',U'',g,e,hg,k,L,p⟩:=q
   cases e
   exact ⟨g,hg,k,L,p⟩
  ·obtain ⟨_,_,_,_,_,e,_⟩:=q; cases e
 | exc _ _=>rw [hr] at hne; exact absurd rfl hne
 | stuck=>rw [hr] at hne; exact absurd rfl hne
structure zNr (S:zR) (q:Bool) (s:Shared) (X:List Addr) (f:List Loc) (I:Addr) (env:Env) (Γ:List Str) (sc:Scope) (its:Items) (i:Nat) (J:List V) (U':Sto) (g:List Loc) (s':Shared):Prop where
 fresh:Fresh g s
 kp:Kp f (ya env) s s'
 lk:Lk S (I :: X) (f++g) U' s'.heap
 it:ItAt S q (I :: X) (f++g) s'.heap I its i
 fr:FR S (I :: X) (f++g) s'.heap env Γ sc J
theorem ItAt.keepY (k:Kp f Y s s') (hg:Fresh g s) (hI:I ∈ X) (hXf:∀ a ∈ X,a ∉ addrs f) (hY:∀ a ∈ Y,a ∈ X) (hIY:I ∉ Y) (x:ItAt S q X f s.heap I its i):ItAt S q X (f++g) s'.heap I its i:=
 ItAt.keep (f:=f) (f':=f++g) (X:=X) (X':=X) (h:=s.heap) (fun _ _ e=>List.getElem?_append_left (List.getElem?_eq_some_iff.mp e).1 ▸ e)
  (fun a o ho h1 h2=>⟨⟨fun h=>(mem_addrs_append.mp h).elim h1 (zz hg ho),h2⟩,k.kept a o ho h1 fun h=>h2 (hY a h)⟩) (fun o ho=>k.kept I o ho (hXf I hI) hIY) x
inductive zNq (S:zR) (q:Bool) (s:Shared) (X:List Addr) (f:List Loc) (I:Addr) (env:Env) (Γ:List Str) (sc:Scope) (its:Items) (g:V->List V->Sto->R Fl) (total:R Fl) (n:Nat) (s':Shared):Prop
 | mk (j:Nat) (J':List V) (U':Sto) (l:List Loc) (hf:xB its g n j J' U'=total) (t:zNr S q s X f I env Γ sc its j J' U' l s'):zNq S q s X f I env Γ sc its g total n s'
theorem zPq {x:Str} {px pos:Pos} {iter:Expr} {body:List Stmt} {cb:List CS} {k:SK} {cs:List CE} (hx:yx Γ sc x=some i) (hsrc:zAy S F q d Γ sc iter k cs) (hb:LSOk S F Fq q d Γ sc body cb) :
  SOk S F Fq q d Γ sc (.For (.Name x px) iter body [] pos) (.for i k cs cb):=fun env J f X U s A st fw hne=>by
 have hh:=st.cx.hand
 have key:exS F Fq q (.for i k cs cb) J U=((evL F q cs J U).bind fun vs U=>R.lift U (yd q U k vs)).bind fun it U=>yr it (fun x J U=>exL F Fq q cb (J.set i x) U) J U:=by rw [zOY,R.bind_assoc]
 rw [key] at hne ⊢
 have hr:((evL F q cs J U).bind fun vs U=>R.lift U (yd q U k vs)) ≠ .stuck:=fun e=>hne (by rw [e]; rfl)
 refine wpAny_For ?_ (hsrc.1 env)
 refine wpAny_mono (hsrc.2 env J f X U s A st hr) (fun xv s₁ h₁=>wpAny_mono h₁ (fun it s₂ h₂=>?_) fun e s' h=>?_) fun e s' h=>?_
 rotate_left
 ·obtain ⟨c,U',g,ea,e1,e2,hg,kk,L,r⟩:=h
  exact ⟨c,U',g,ea,e1,by rw [e2]; rfl,hg,(kk.mono fun a h=>nomatch h),L,r⟩
 ·obtain ⟨c,U',g,ea,e1,e2,hg,kk,L,r⟩:=h
  exact ⟨c,U',g,ea,e1,by rw [e2]; rfl,hg,(kk.mono fun a h=>nomatch h),L,r⟩
 obtain ⟨its,U1,g,I,e1,rfl,hI,hIX,hg,kk,L,x0⟩:=h₂
 rw [e1,R.bind_ok] at hne ⊢
 have hIya:=zLa fw hIX
 have hIin:I ∈ I :: X:=List.mem_cons_self
 have fw':FW env (I :: X):=fw.more
 have hZX:∀ a ∈ X,a ∈ I :: X /\ a ∉ [I]:=fun a ha=>⟨List.mem_cons_of_mem _ ha,fun h=>hIX (List.mem_singleton.mp h ▸ ha)⟩
 have hZ:∀ a ∈ [I],a ∈ I :: X:=fun a ha=>List.mem_singleton.mp ha ▸ List.mem_cons_self
 have fr0:FR S (I :: X) (f++g) s₂.heap env Γ sc J:=st.fr.later st.lk kk hg (fun a ha=>(List.mem_cons.mp ha).elim (fun h=>.inr (h ▸ hI)) .inl) fun a ha=>List.mem_cons_of_mem _ ha
 have t0:zNr S q s X f I env Γ sc its 0 J U1 g s₂:=⟨hg,(kk.mono fun a h=>nomatch h),L,x0,fr0⟩
 unfold yr at hne ⊢
 generalize htot:xB its (fun x J U=>exL F Fq q cb (J.set i x) U) (zAK U1 its) 0 J U1=total at hne ⊢
 refine codeAny_forLoop (zNq S q s X f I env Γ sc its (fun x J U=>exL F Fq q cb (J.set i x) U) total) ?_ (zAK U1 its) (.mk 0 J U1 g htot t0)
 rintro n s' ⟨j,J',U',g',hf,t⟩
 cases n with
 | zero=>rw [zF0] at hf; exact absurd hf.symm hne
 | succ n =>
 rw [zFz] at hf
 cases hnx:zt U' its j with
 | none=>rw [hnx] at hf; exact absurd hf.symm hne
 | some o =>
 rw [hnx] at hf
 cases o with
 | none =>
  replace hf:R.ok (Fl.next J') U'=total:=hf
  refine wpAny_mono (zE8 hh ((st.hn.keep t.kp t.fresh (zCL fw)).here) t.lk t.it hnx) (fun r s₃ h₃=>?_) fun _ _ x=>x
  obtain ⟨rfl,hr3,hk3⟩:=h₃
  have hkk:∀ b o,b ∉ [I]->s'.heap.get? b=some o->s₃.heap.get? b=some o:=fun b o hb e=>hk3 b o (fun q=>hb (q ▸ List.mem_singleton.mpr rfl)) e
  refine wpAny_execs_nil ?_
  exact ⟨.next J',U',g',hf.symm,t.fresh,t.kp.ends (Z:=[I]) hr3 hkk (fun b hb=>List.mem_singleton.mp hb ▸ hI),t.lk.drop hZX hZ hkk,rfl,t.fr.drop fw hZX hZ hkk⟩
 | some x' =>
 replace hf:((exL F Fq q cb (J'.set i x') U').bind fun fl U=>match fl with | .next J=>xB its (fun x J U=>exL F Fq q cb (J.set i x) U) n (j+1) J U | .ret v=>.ok (.ret v) U)=total:=hf
 refine wpAny_mono (zCr hIin t.lk t.it hnx) (fun r s₃ h₃=>?_) fun _ _ x=>x
 obtain ⟨v,rfl,m1,it1,rv⟩:=h₃
 have hlI:env.locals ≠ I:=fun h=>hIX (h ▸ fw.loc)
 have hcI:∀ x c,env.cells.lookup x=some c->c ≠ I:=fun x c e h=>hIX (h ▸ fw.cellX x c e)
 have fr1:=t.fr.mv m1 hIin hlI hcI
 refine wpAny_assign_Name (xo fr1 fw' hx rv fun b s4 hY hX m4 fr4=>?_)
 have hbI:I ≠ b:=fun h=>hIya (h ▸ hY)
 have lk4:=m4.lk hX (m1.lk hIin t.lk)
 have it4:=it1.mv m4 hX hbI
 have kp3:Kp f (ya env) s s₃:=t.kp.mv m1 hI
 have kp4:Kp f (ya env) s s4:=kp3.trans t.fresh (m4.kp hY)
 have st4:St S q d Γ sc env (J'.set i x') (f++g') (I :: X) U' s4 A:=⟨st.cx.keep kp4 t.fresh,fr4,lk4,(st.hn.more fun a ha=>(List.mem_cons.mp ha).elim (fun h=>.inr (h ▸ hI)) .inl).keep kp4 t.fresh fun a ha=>List.mem_cons_of_mem _ (zCL fw a ha)⟩
 have hr5:exL F Fq q cb (J'.set i x') U' ≠ .stuck:=fun e=>hne (by rw [<- hf,e]; rfl)
 refine wpAny_mono (hb env _ _ _ U' s4 A st4 fw' hr5) (fun fl s6 h6=>?_) fun e s6 h6=>?_
 rotate_left
 ·obtain ⟨c,U5,g6,ea,rfl,e5,hg6,k6,lk6,x6⟩:=h6
  rw [e5] at hf
  replace hf:R.exc c U5=total:=hf
  subst hf
  have kp6:Kp f (ya env) s s6:=kp4.trans t.fresh k6
  have fg6:Fresh (g'++g6) s:=t.fresh.trans kp4.live hg6
  obtain ⟨en,l,h1,h2,h3⟩:=(st4.cx.keep k6 hg6).frs
  obtain ⟨-,L1,-,-,-,h4,-⟩:=h3 en List.mem_cons_self
  rw [List.append_assoc] at h3 x6 lk6
  have xs:ExcR S X (f++(g'++g6)) U5 s6.heap s.heap ea c:=(x6.back fun a h=>zu kp4.live h).less fun a ha=>List.mem_cons_of_mem _ ha
  have hX:∀ a ∈ X,∃ o,s.heap.get? a=some o:=fun a ha=>(st.lk.hid a ha).2.2
  show wpAny _ A (noteFrame (.ref ea) env) _ _ s6
  rw [ww (env':=en) h2]
  refine zHV h1 h3 h4 xs hX (fun _ h=>zu kp6.live h) fun h₁ hs₁ oe vs T hf1 N1 x1 p1 p2 p3=>?_
  show wpAny _ A (do
   if (<- field (.ref ea) 1)==.none then unsupported "frame.own-activation:exception-without-traceback"
   setFlight (.ref ea) env.frame) _ _ _
  refine wpAny_bind (wpAny_field p1 p2 p3 ?_)
  rw [if_neg (show ¬ ((Value.ref T==Value.none)=true) from by simp)]
  exact xu (s:={ s6 with heap:=h₁ }) x1 hX fun h₂ hs₂ hf2 N2 L2 x2=>⟨c,U5,g'++g6,ea,rfl,rfl,fg6,N2.kp (N1.kp kp6 hf1) hf2,L2,x2⟩
 obtain ⟨fl5,U5,g6,e5,hg6,k6,lk6,p6⟩:=h6
 rw [e5] at hf
 have hXf:∀ a ∈ I :: X,a ∉ addrs (f++g'):=fun a ha=>(lk4.hid a ha).2.1
 have it6:=it4.keepY k6 hg6 hIin hXf (zCL fw') hIya
 have kp6:Kp f (ya env) s s6:=kp4.trans t.fresh k6
 have fg6:Fresh (g'++g6) s:=t.fresh.trans kp4.live hg6
 rw [List.append_assoc] at lk6 it6 p6
 cases fl5 with
 | next J6 =>
  obtain ⟨rfl,fr6⟩:=p6
  exact ⟨n,Nat.lt_succ_self n,.mk (j+1) J6 U5 (g'++g6) hf ⟨fg6,kp6,lk6,it6,fr6⟩⟩
 | ret v6 =>
  obtain ⟨w6,rfl,r6⟩:=p6
  replace hf:R.ok (Fl.ret v6) U5=total:=hf
  exact ⟨.ret v6,U5,g'++g6,hf.symm,fg6,kp6,lk6.drop (Z:=[]) (fun a ha=>⟨List.mem_cons_of_mem _ ha,fun h=>nomatch h⟩) (fun a h=>nomatch h) (fun _ _ _ e=>e),w6,rfl,r6.less fun a ha=>List.mem_cons_of_mem _ ha⟩
theorem zLy {t:Expr} {c:CE} {body:List Stmt} {cb:List CS} {pos:Pos} (ht:TOk S F q d Γ sc t c) (hb:LSOk S F Fq q d Γ sc body cb):SOk S F Fq q d Γ sc (.While t body [] pos) (.while c cb):=fun env J f X U s A st fw hne=>by
 have hq:q=false:=by
  cases q with
  | false=>rfl
  | true=>rw [zEK] at hne; exact absurd rfl hne
 have key:exS F Fq q (.while c cb) J U=wN (fun J U=>((evE F q c J U).bind fun v U=>R.lift U (truthy U v)).calm) (fun J U=>(exL F Fq q cb J U).calm) zCI J U:=by rw [zEK,hq,if_neg (by simp)]
 rw [key] at hne ⊢
 refine wpAny_While ?_
 generalize htot:wN (fun J U=>((evE F q c J U).bind fun v U=>R.lift U (truthy U v)).calm) (fun J U=>(exL F Fq q cb J U).calm) zCI J U=total at hne ⊢
 refine codeAny_whileLoop (fun n s'=>∃ J' U' g,wN (fun J U=>((evE F q c J U).bind fun v U=>R.lift U (truthy U v)).calm) (fun J U=>(exL F Fq q cb J U).calm) n J' U'=total /\ Fresh g s /\ Kp f (ya env) s s' /\ Lk S X (f++g) U' s'.heap /\ FR S X (f++g) s'.heap env Γ sc J') ?_ zCI
  ⟨J,U,[],htot,.nil s,.refl f _ s,by rw [List.append_nil]; exact st.lk,by rw [List.append_nil]; exact st.fr⟩
 rintro n s' ⟨J',U',g',hf,hg,kp,lk,fr⟩
 cases n with
 | zero=>rw [zFh] at hf; exact absurd hf.symm hne
 | succ n =>
 rw [zFg] at hf
 have st1:St S q d Γ sc env J' (f++g') X U' s' A:=⟨st.cx.keep kp hg,fr,lk,st.hn.keep kp hg (zCL fw)⟩
 obtain ⟨b,U2,_,e2,hne2,w2⟩:=Sim.calm (ht env J' _ X U' s' A st1) (by rw [hf]; exact hne)
 rw [e2] at hf
 refine wpAny_mono (w2 _) (fun b' s₃ h₃=>?_) fun _ _ x=>x
 obtain ⟨g3,hg3,k3,lk3,hbb⟩:=h₃
 replace hbb:b'=b:=hbb
 subst hbb
 have st3:=st1.keep hg3 k3 lk3
 have kp3:Kp f (ya env) s s₃:=kp.trans hg (k3.mono fun a h=>nomatch h)
 have fg3:Fresh (g'++g3) s:=hg.trans kp.live hg3
 cases b' with
 | false =>
  replace hf:R.ok (Fl.next J') U2=total:=hf
  refine wpAny_execs_nil ⟨.next J',U2,g'++g3,hf.symm,fg3,kp3,by rw [<- List.append_assoc]; exact lk3,rfl,by rw [<- List.append_assoc]; exact st3.fr⟩
 | true =>
  replace hf:((exL F Fq q cb J' U2).calm.bind fun fl U=>match fl with | .next J=>wN (fun J U=>((evE F q c J U).bind fun v U=>R.lift U (truthy U v)).calm) (fun J U=>(exL F Fq q cb J U).calm) n J U | .ret v=>.ok (.ret v) U)=total:=hf
  obtain ⟨fl5,U5,e5,hne5,w5⟩:=hb.calm st3 fw (by rw [hf]; exact hne)
  rw [e5] at hf
  show wpAny _ _ _ _ _ _
  refine wpAny_mono (w5 _) (fun fl s6 h6=>?_) fun _ _ x=>x
  obtain ⟨g6,hg6,k6,lk6,p6⟩:=h6
  have fg6:Fresh ((g'++g3)++g6) s:=fg3.trans kp3.live hg6
  have kp6:Kp f (ya env) s s6:=kp3.trans fg3 (by rw [<- List.append_assoc]; exact k6)
  have ea:f++g'++g3++g6=f++(g'++g3++g6):=by simp [List.append_assoc]
  rw [ea] at lk6 p6
  cases fl5 with
  | next J6 =>
   obtain ⟨rfl,fr6⟩:=p6
   exact ⟨n,Nat.lt_succ_self n,J6,U5,_,hf,fg6,kp6,lk6,fr6⟩
  | ret v6 =>
   obtain ⟨w6,rfl,r6⟩:=p6
   replace hf:R.ok (Fl.ret v6) U5=total:=hf
   exact ⟨.ret v6,U5,_,hf.symm,fg6,kp6,lk6,w6,rfl,r6⟩
end
end Mine
end

section
namespace Mine
open PySem PyProof.Rows
section
variable {S:zR} {C:Ctx} {T:Nat->Option Fn} {F Fq:Calls} {q:Bool} {d:Nat} {Γ:List Str} {sc:Scope}
variable {X X' Y Z:List Addr} {f g:List Loc} {U:Sto} {s s':Shared} {A:Around} {E:Value->Shared->Prop} {I a:Addr} {its:Items} {i:Nat} {env:Env} {J:List V}
end
end Mine
end

section
namespace Mine
open PySem PyProof.Rows
section
variable {S:zR} {C:Ctx} {T:Nat->Option Fn} {F Fq:Calls} {q:Bool} {d:Nat} {Γ:List Str} {sc:Scope}
variable {X X' Y Z:List Addr} {f g:List Loc} {U:Sto} {s s' s0:Shared} {A:Around} {E:Value->Shared->Prop} {I a ea:Addr} {its:Items} {i:Nat} {env:Env} {J:List V}
theorem zFC {st:Stmt}:SOk S F Fq q d Γ sc st .stuck:=fun env J f X U s A _ _ hne=>absurd rfl hne
theorem zBr (fs:zZ S C T) {x:Str} {p:Pos} {c:Cls} {Q:Value->Shared->Prop} {U':Sto} (fr:FR S X f s.heap env Γ sc J) (L:Lk S X f U' s.heap) (hx:km C sc x=some c) (h:C.excs.lookup x=some c->x ≠ ("ValueError" : Str)->Q (S.cl c) s) :
  wpAny (model S.prog S.w) A (eval (.Name x p) env) Q E s:=by
 unfold km at hx
 split at hx
 ·rename_i hc
  simp only [Bool.and_eq_true,bne_iff_ne,ne_eq] at hc
  obtain ⟨⟨hg,hd⟩,hv⟩:=hc
  obtain ⟨mg,mb,h1,h2,_,_,_,_,h3⟩:=fs.g
  refine wpAny_Name ?_ (by simpa using hd)
  rcases h3 x c hx with h4 | ⟨h4,h5⟩
  ·exact wU fr.kind (fr.isGlob hg) (by rw [fr.glob]; exact L.ns h1) h4 (h hx hv)
  ·exact jW fr.kind (fr.isGlob hg) (by rw [fr.glob]; exact L.ns h1) h4 (by rw [fr.blt]; exact L.ns h2) h5 (h hx hv)
 ·first | exact zB hx | exact zF hx | cases hx
theorem zLt (fs:zZ S C T) {x m:Str} {np kp cp pos:Pos} {kk:Nat} {c:Cls} (hm:(m.length <= 1000&&PyData.strOk m)=true) (hx:km C sc x=some c) :
  SOk S F Fq q d Γ sc (.Raise (some (.Call (.Name x np) [.Constant (.str m) kk kp] [] cp)) none pos) (.raise c):=fun env J f X U s A st fw hne=>by
 have e0:exS F Fq q (.raise c) J U=if q=true then .stuck else .exc c U:=rfl
 rw [e0] at hne ⊢
 by_cases hq:q=true
 ·rw [if_pos hq] at hne; exact absurd rfl hne
 rw [if_neg hq]
 have hh:A.handled=none:=st.cx.hand (by simpa using hq)
 have hcl:∃ y,C.excs.lookup y=some c /\ y ≠ ("ValueError" : Str):=by
  unfold km at hx
  split at hx
  ·rename_i hc
   simp only [Bool.and_eq_true,bne_iff_ne,ne_eq] at hc
   exact ⟨x,hx,hc.2⟩
  ·first | exact zB hx | exact zF hx | cases hx
 obtain ⟨y,hy,hv⟩:=hcl
 obtain ⟨Ca,bm,N,nm,qn,bs,hdct,sn,sub,ab,col,dd,k0,k1,k2,k3,k5,mN,hcl,hC,hN,hni,OT,-,_⟩:=(fs.exc y c hy).2 hv
 refine wpAny_Raise_call_subT (C:=Ca) (nm:=nm) (q:=qn) (N:=N) (bs:=bs) (bm:=bm) (hdct:=hdct) (sn:=sn) (sub:=sub) (ab:=ab) (col:=col) (dd:=dd) (k0:=k0) (k1:=k1) (k2:=k2) (k3:=k3) (k5:=k5)
  PySem.F.excBase_ValueError (mN:=mN) (OT.hasType rfl) hh rfl hni (zBr fs st.fr st.lk hx fun _ _=>⟨hcl,?_⟩)
 refine vC rfl (zAB rfl ?_)
 refine wpAny_mono ((zLw (F:=F) (q:=q) (d:=d) (Γ:=Γ) (sc:=sc) hm) env J f X U s A st (by rw [zA8]; simp)) (fun v s₁ h₁=>?_) fun e s' h=>?_
 ·obtain ⟨b,U',g,e,hg,k,L,r⟩:=h₁
  rw [zA8] at e; cases e
  refine ⟨rfl,by show 1 <= sizeLine; decide,L.base _ _ hC,L.ns hN,OT.keeps L.base,fun h' e hm=>?_⟩
  obtain ⟨t,he,-,-⟩:=hm.there
  have ex:Ext s₁ { s₁ with heap:=h' }:=⟨rfl,hm.keeps⟩
  have ky:Kp f (ya env) s s₁:=k.mono fun a h=>nomatch h
  refine ⟨c,U,g,e,rfl,rfl,hg,ky.trans hg (ex.kp _ _),ex.lk L,zu k.live hm.new,(fs.exc y c hy).2 hv,[e],_,_,L.hideNew ex hm.new he,he,hcl.symm,rfl,rfl,.inl ⟨rfl,rfl⟩⟩
 ·obtain ⟨_,_,_,_,_,e,_⟩:=h
  rw [zA8] at e; cases e
noncomputable def zRp (k:TK) (v:V) (J:List V):List V:=
 match k with
 | .asg i=>J.set i v
 | _=>J
inductive QT (S:zR) (X:List Addr) (env:Env) (Γ:List Str) (sc:Scope) (f:List Loc) (s:Shared) (J:List V) (k:TK) (r:R V) (fl:Flow) (s':Shared):Prop where
 | mk (v:V) (U':Sto) (g:List Loc) (e:r=.ok v U') (hg:Fresh g s) (kp:Kp f (ya env) s s') (L:Lk S X (f++g) U' s'.heap) (p:FlR S X (f++g) s'.heap env Γ sc (zGb k v J) fl) (fr:FR S X (f++g) s'.heap env Γ sc (zRp k v J))
noncomputable def TKOk (S:zR) (F:Calls) (q:Bool) (d:Nat) (Γ:List Str) (sc:Scope) (ss:List Stmt) (k:TK) (c:CE):Prop:=
 ∀ (env:Env) (J:List V) (f:List Loc) (X:List Addr) (U:Sto) (s:Shared) (A:Around),St S q d Γ sc env J f X U s A->FW env X->evE F q c J U ≠ .stuck ->
  wpAny (model S.prog S.w) A (execs ss env) (QT S X env Γ sc f s J k (evE F q c J U)) (ES S X [] f false s (evE F q c J U)) s
theorem zQF {e:Expr} {c:CE} {pos:Pos} (h:EOk S F q d Γ sc e c):TKOk S F q d Γ sc [.Return (some e) pos] .ret c:=fun env J f X U s A st fw hne=>by
 refine wpAny_execs_cons (wpAny_Return_some (wpAny_mono (h env J f X U s A st hne) (fun v s₁ h₁=>?_) fun _ _ x=>x))
 obtain ⟨b,U',g,e,hg,k,L,r⟩:=h₁
 exact ⟨b,U',g,e,hg,(k.mono fun a h=>nomatch h),L,⟨v,rfl,r⟩,(st.keep hg k L).fr⟩
theorem zQE {e:Expr} {c:CE} {pos:Pos} (h:EOk S F q d Γ sc e c) (hs:∀ env n t,swapsWith e t n env=pure false):TKOk S F q d Γ sc [.Expr e pos] .exp c:=fun env J f X U s A st fw hne=>by
 refine wpAny_execs_cons (wpAny_Expr_any (wpAny_mono (h env J f X U s A st hne) (fun v s₁ h₁=>?_) fun _ _ x=>x) (by simp [interactive,st.fr.kind]) (hs _ _ _))
 obtain ⟨b,U',g,e,hg,k,L,r⟩:=h₁
 exact wpAny_execs_nil ⟨b,U',g,e,hg,(k.mono fun a h=>nomatch h),L,⟨rfl,(st.keep hg k L).fr⟩,(st.keep hg k L).fr⟩
theorem zNg {e r:Expr} {a b:CE} {p1 p2:Pos} (h:EOk S F q d Γ sc e a) (hs:∀ env n t,swapsWith e t n env=pure false) (h2:EOk S F q d Γ sc r b):TKOk S F q d Γ sc [.Expr e p1,.Return (some r) p2] .ret (zMM a b):=fun env J f X U s A st fw hne=>by
 have key:evE F q (zMM a b) J U=(evE F q a J U).bind fun _ U=>evE F q b J U:=by
  show (if (wK .index&&q)=true then _ else _)=_
  rw [if_neg (by simp [wK])]
  show (((evE F q a J U).bind fun v U=>((evE F q b J U).bind fun w U=>R.ok [w] U).bind fun vs U=>R.ok (v :: vs) U).bind fun vs U=>R.ok (V.tup vs) U).bind (fun x U=>R.lift U (ev2 .index U x (.int 1)))=_
  cases evE F q a J U with
  | ok v U' =>
   show ((((evE F q b J U').bind fun w U=>R.ok [w] U).bind fun vs U=>R.ok (v :: vs) U).bind fun vs U=>R.ok (V.tup vs) U).bind (fun x U=>R.lift U (ev2 .index U x (.int 1)))=evE F q b J U'
   cases evE F q b J U' <;> rfl
  | exc c U'=>rfl
  | stuck=>rfl
 rw [key] at hne ⊢
 refine wpAny_execs_cons (wpAny_Expr_any (Sim.seq (P':=PV S X) (h env J f X U s A st) hne fun v a' U1 g₁ s₁ hne hg k L ra hQ hE=>?_) (by simp [interactive,st.fr.kind]) (hs _ _ _))
 have st1:=st.keep hg k L
 refine wpAny_execs_cons (wpAny_Return_some (wpAny_mono (h2 env J _ X U1 s₁ A st1 hne) (fun w s₂ h₁=>?_) hE))
 have z:=hQ w s₂ h₁
 obtain ⟨b',U',g,e,hg',k',L',r'⟩:=z
 exact ⟨b',U',g,e,hg',(k'.mono fun a h=>nomatch h),L',⟨w,rfl,r'⟩,(st.keep hg' k' L').fr⟩
theorem zQD {x:Str} {px pos:Pos} {e:Expr} {c:CE} (hx:yx Γ sc x=some i) (h:EOk S F q d Γ sc e c) (hs:∀ env n t,swapsWith e t n env=pure false):TKOk S F q d Γ sc [.Assign [.Name x px] e pos] (.asg i) c:=fun env J f X U s A st fw hne=>by
 refine wpAny_execs_cons (wpAny_Assign_Name (wpAny_mono (h env J f X U s A st hne) (fun v s₁ h₁=>?_) fun _ _ x=>x) (hs _ _ _))
 obtain ⟨b,U',g,e,hg,k,L,r⟩:=h₁
 refine xo (st.keep hg k L).fr fw hx r fun b' s' hY hX m fr=>wpAny_execs_nil ?_
 have ky:Kp f (ya env) s s₁:=k.mono fun a h=>nomatch h
 exact ⟨b,U',g,e,hg,ky.trans hg (m.kp hY),m.lk hX L,⟨rfl,fr⟩,fr⟩
end
end Mine
end

section
namespace Mine
open PySem PyProof.Rows
section
variable {S:zR} {C:Ctx} {T:Nat->Option Fn} {F Fq:Calls} {q:Bool} {d:Nat} {Γ:List Str} {sc:Scope}
variable {X X' Y Z:List Addr} {f g:List Loc} {U:Sto} {s s' s0:Shared} {A:Around} {E:Value->Shared->Prop} {I a ea:Addr} {its:Items} {i:Nat} {env:Env} {J:List V}
theorem zLS {M:Model} {h:Heap} {g:Array GenState} {d:Drawn} {t:Nat} {os:OsState} {oe:Obj} {Q:Bool->Shared->Prop}
  {nm q nm' q':Str} {Ca N Cd N':Addr} {bs bm bs' bm':List Value} {hdct hdct':Bool} {sn sn':List Str} {sub sub':List Value} {ab ab':Bool} {col col':Option Bool} {dd dd':Option Addr} {k0 k1 k2 k3 k5 k0' k1' k2' k3' k5':Option Value} {newId newId':String}
  (hC:h.get? Ca=some (excClassObj nm q Ca N bs bm hdct sn sub ab col dd k0 k1 k2 k3 k5 newId)) (hD:h.get? Cd=some (excClassObj nm' q' Cd N' bs' bm' hdct' sn' sub' ab' col' dd' k0' k1' k2' k3' k5' newId'))
  (he:h.get? ea=some oe) (hcls:oe.cls=.ref Ca) (hbase:bm'.contains (.type "BaseException")=true)
  {b:Bool} (hb:(Value.ref Ca :: bm).contains (.ref Cd)=b) (hq:Q b ⟨h,g,d,t,os⟩):wpAny M A (excMatches (.ref ea) (.ref Cd)) Q E ⟨h,g,d,t,os⟩:=by
 have hcB:(Value.ref Cd :: bm').contains (.type "BaseException")=true:=by rw [List.contains_cons,hbase,Bool.or_true]
 have f:=tc_notTuple
 unfold excMatches
 cases b <;>
 ((repeat (first | (with_reducible refine wpAny_loadPart_at he ?_; rw [hcls]) | with_reducible refine wpAny_loadPart_at hD ?_ | (with_reducible refine wpAny_isSubtype_exc hD ?_; rw [hcB]) | (with_reducible refine wpAny_isSubtype_exc hC ?_; rw [hb]) | wp_step)); exact hq)
theorem zE7 {c k:Cls} {oe:Obj} {Q:Bool->Shared->Prop} (L:Lk S X f U s.heap) (xc:kj S c) (xk:kj S k) (hk:k ∈ S.kn) (he:s.heap.get? ea=some oe) (hcls:oe.cls=S.cl c) (h:Q (c.sub k) s) :
  wpAny (model S.prog S.w) A (excMatches (.ref ea) (S.cl k)) Q E s:=by
 obtain ⟨Ca,bm,N,nm,qn,bs,hdct,sn,sub,ab,col,dd,k0,k1,k2,k3,k5,mN,hcl,hC,hN,hni,OT,hm,_⟩:=xc
 obtain ⟨Cd,bm',N',nm',qn',bs',hdct',sn',sub',ab',col',dd',k0',k1',k2',k3',k5',mN',hcl',hC',hN',hni',OT',hm',_⟩:=xk
 have:=hm k hk
 rw [hcl'] at this ⊢
 rw [hcl] at hcls
 obtain ⟨hp,g,d,tk,os⟩:=s
 exact zLS (L.base _ _ hC) (L.base _ _ hC') he hcls (OT'.hasType rfl) this h
theorem zRW {k:Cls} {a x:V} (e:ev1 (.isInst (.exc k)) U a=some x):∃ c,a=.exc c /\ x=.bool (c.sub k):=by
 replace e:(ko U (.exc k) a).map V.bool=some x:=e
 cases a with
 | exc c=>cases e; exact ⟨c,rfl,rfl⟩
 | ref n =>
  replace e:(zGS U[n]? (.exc k)).map V.bool=some x:=e
  cases h:U[n]? with
  | none=>rw [h] at e; exact zB e
  | some o=>rw [h] at e; cases o <;> exact zB e
 | _=>exact zB e
theorem zQK {h:Heap} {c:Cls} {v:Value} (r:VR S X f h (.exc c) v):∃ a o,v=.ref a /\ (a ∉ addrs f /\ a ∉ X) /\ h.get? a=some o /\ o.cls=S.cl c /\ kj S c:=by
 exact r
theorem zIX {c k:Cls} {oe:Obj} (L:Lk S X f U s.heap) (xc:kj S c) (xk:kj S k) (hk:k ∈ S.kn) (he:s.heap.get? ea=some oe) (hcls:oe.cls=S.cl c) :
  wpAny (model S.prog S.w) A (call (.builtin "isinstance") [.ref ea,S.cl k]) (PE S X f s (.bool (c.sub k))) E s:=by
 obtain ⟨Ca,bm,N,nm,qn,bs,hdct,sn,sub,ab,col,dd,k0,k1,k2,k3,k5,mN,hcl,hC,hN,hni,OT,hm,TC⟩:=xc
 obtain ⟨Cd,bm',N',nm',qn',bs',hdct',sn',sub',ab',col',dd',k0',k1',k2',k3',k5',mN',hcl',hC',hN',hni',OT',hm',_⟩:=xk
 have:=hm k hk
 rw [hcl'] at this ⊢
 rw [hcl] at hcls
 obtain ⟨hp,g,d,tk,os⟩:=s
 exact zNF (L.base _ _ hC) (TC.keeps L.base) (L.base _ _ hC') he hcls this .bool0 .bool
theorem zFB (fs:zZ S C T) {k:Str} {kc:Cls} {p pk pos:Pos} {e:Expr} {c:CE} (hg:isGlob sc "isinstance"=true) (hn:C.fns.lookup ("isinstance" : Str)=none) (hk:km C sc k=some kc) (hs:isStar e=false) (h:EOk S F q d Γ sc e c) :
  EOk S F q d Γ sc (.Call (.Name ("isinstance" : Str) p) [e,.Name k pk] [] pos) (.p1 (.isInst (.exc kc)) c):=fun env J f X U s A st hne=>by
 rw [zKG,show vM (.isInst (.exc kc))=false from rfl,Bool.false_and,if_neg (by simp)] at hne ⊢
 refine wpAny_Call_NameR (yz fs st hg hn (.inr (.inr (.inr (.inl rfl)))) kl (by decide) ?_)
 refine zw (zh _ (by rw [List.any_cons,hs]; rfl)) (zB8 hs rfl ?_)
 refine Sim.goN (h env J f X U s A st) hne (fun _ _ x=>x.qs) (fun _ _ x=>x) fun va a' U1 g₁ s₁ hne hg k L ra hQ hE=>?_
 have st1:=st.keep hg k L
 refine zBr fs st1.fr st1.lk hk fun hx hv=>?_
 obtain ⟨x,hx'⟩:=yS hne
 rw [hx'] at hQ
 obtain ⟨c0,rfl,rfl⟩:=zRW hx'
 obtain ⟨a,o,rfl,-,e3,e4,e5⟩:=zQK ra
 exact ⟨yF (by simp),wpAny_mono (zIX L e5 ((fs.exc _ kc hx).2 hv) (fs.exc _ kc hx).1 e3 e4) (fun v s' p=>hQ v s' (p.here L)) fun _ _ x=>x⟩
theorem Cx.mark {fr:Option Addr} {h:Heap} {v:Value} (c:Cx S A q d f h fr):Cx S (A.mark (some v)) true d f h fr:=
 ⟨c.depth,c.units,fun h=>(nomatch h),c.frs⟩
theorem zF5 {x:Str} {pos:Pos} {Q:Unit->Shared->Prop} (fr:FR S X f s.heap env Γ sc J) (fw:FW env X) (hl:sc.names.lookup x=some .local) (hx:yx Γ sc x=some i)
  (h:∀ s',Mv env.locals s s'->FR S X f s'.heap env Γ sc (J.set i .undef)->Q () s'):wpAny (model S.prog S.w) A (do bindName env x .none; unbindBehindTheSuite env x pos) Q E s:=by
 obtain ⟨-,hi⟩:=zA7 hx
 have hk:env.kindOf x=some .local:=by
  rcases fr.names x with e | ⟨e,_⟩
  ·rw [e]; exact hl
  ·rw [hl] at e; first | exact zB e | exact zF e | cases e
 have hil:i < J.length:=by rw [fr.len]; exact wu hi
 obtain ⟨m,hm⟩:=fr.loc.2
 have setv:∀ {j:Nat} {v':V},(J.set i .undef)[j]?=some v'->j ≠ i->J[j]?=some v':=fun h hne=>by rwa [List.getElem?_set_ne (fun q=>hne q.symm)] at h
 have cellNe:∀ x c,yP (env.kindOf x)->env.cells.lookup x=some c->c ≠ env.locals:=fun x c hk e q=>by
  obtain ⟨c',o,e',_,⟨ob,h1,h2⟩⟩:=fr.cells x hk
  rw [e] at e'; cases e'
  obtain ⟨ob',es,ep,h3,h4,_⟩:=hm
  rw [q,h3] at h1; cases h1; rw [h4] at h2; cases h2
 refine wpAny_nameGoes_keeps hk hm (by simp [fr.kind]) fun h' v hn' hs'=>?_
 have mv:Mv env.locals s { s with heap:=h',toks:=s.toks+1 }:=zB1 hn' fun b hb=>hs'.2 b hb
 have cl:∀ {b:Addr} {m':Option Value},b ≠ env.locals->s.heap.IsCell b m'->h'.IsCell b m':=fun hb h=>by
  obtain ⟨o,ho,r⟩:=h
  exact ⟨o,mv.keep _ _ hb ho,r⟩
 refine h _ mv ⟨fr.kind,fr.glob,fr.blt,fr.names,⟨fr.loc.1,_,hn'⟩,fun y hy=>?_,fun y j v' h1 h2 h3 h4=>?_,by rw [List.length_set]; exact fr.len⟩
 ·obtain ⟨c,o,e1,hX,h5⟩:=fr.cells y hy
  exact ⟨c,o,e1,hX,cl (cellNe y c hy e1) h5⟩
 ·by_cases hj:j=i
  ·subst hj
   rw [List.getElem?_set_self hil] at h3; cases h3
   exact absurd rfl h4
  ·obtain ⟨w',h5,h6⟩:=fr.vals y j v' h1 h2 (setv h3 hj) h4
   refine ⟨w',?_,mv.vr fw.loc h6⟩
   rcases h5 with ⟨k,m',h7,h8⟩ | ⟨k,c,h7,h8⟩
   ·refine .inl ⟨k,_,hn',?_⟩
    have hyx:y ≠ x:=fun q=>by rw [q,hi] at h2; cases h2; exact hj rfl
    obtain ⟨ob,es,ep,q1,q2,q3,q4⟩:=h7
    obtain ⟨ob',es',ep',p1,p2,p3,p4⟩:=hm
    rw [q1] at p1; cases p1; rw [q2] at p2; cases p2
    show (if y=x then v else m y)=some w'
    rw [if_neg hyx,<- p4 y,q4 y,h8]
   ·exact .inr ⟨k,c,h7,cl (cellNe y c k h7) h8⟩
noncomputable def zRz (Γ:List Str) (sc:Scope) (n:Option Str) (as:Option Nat):Prop:=(n=none /\ as=none) \/ ∃ x i,n=some x /\ as=some i /\ sc.names.lookup x=some .local /\ yx Γ sc x=some i
structure zOd (S:zR) (C:Ctx) (Fq:Calls) (d:Nat) (Γ:List Str) (sc:Scope) (h:ExceptHandler) (c:Hd):Prop where
 ex:∃ x np n b₀ body pos,h=.ExceptHandler (some (.Name x np)) n (b₀ :: body) pos /\ km C sc x=some c.cls /\ zRz Γ sc n c.as /\ TKOk S Fq true d Γ sc (b₀ :: body) c.tk c.e
inductive zOj (S:zR) (A:Around) (X:List Addr) (env:Env) (Γ:List Str) (sc:Scope) (f:List Loc) (s:Shared) (J:List V) (ss:List Stmt) (k:TK) (r:R V):Prop
 | mk (v:V) (U':Sto) (e:r=.ok v U') (w:∀ E,wpAny (model S.prog S.w) A (execs ss env) (QT S X env Γ sc f s J k (.ok v U')) E s)
theorem TKOk.calm {ss:List Stmt} {k:TK} {c:CE} {γ:Type} {rk:V->Sto->R γ} (h:TKOk S F q d Γ sc ss k c) (st:St S q d Γ sc env J f X U s A) (fw:FW env X) (hne:(evE F q c J U).calm.bind rk ≠ .stuck) :
  zOj S A X env Γ sc f s J ss k (evE F q c J U):=by
 have hs:=h env J f X U s A st fw
 cases hr:evE F q c J U with
 | ok v U' =>
  rw [hr] at hs
  refine ⟨v,U',rfl,fun E=>wpAny_mono (hs (by simp)) (fun _ _ x=>x) fun e s' q=>?_⟩
  obtain ⟨_,_,_,_,_,e,_⟩:=q; cases e
 | exc _ _=>rw [hr] at hne; exact absurd rfl hne
 | stuck=>rw [hr] at hne; exact absurd rfl hne
structure Met (S:zR) (q:Bool) (d:Nat) (Γ:List Str) (sc:Scope) (env:Env) (J:List V) (f g:List Loc) (X:List Addr) (U0 U:Sto) (s0 s:Shared) (A:Around) (ea:Addr) (k:Cls):Prop where
 st:St S q d Γ sc env J f X U0 s0 A
 fw:FW env X
 fresh:Fresh g s0
 kp:Kp f [] s0 s
 lk:Lk S X (f++g) U s.heap
 exc:ExcR S X (f++g) U s.heap s0.heap ea k
theorem Met.alive {U0:Sto} {k:Cls} (m:Met S q d Γ sc env J f g X U0 U s0 s A ea k):∀ a ∈ X,∃ o,s0.heap.get? a=some o:=fun a ha=>(m.st.lk.hid a ha).2.2
theorem ExcR.hn {h h₀:Heap} {k:Cls} (x:ExcR S X f U h h₀ ea k) (hX:∀ a ∈ X,∃ o,h₀.get? a=some o):HnX (A.mark (some (.ref ea))) X f h:=fun v hv=>by
 obtain ⟨e1,ec,hs,oe,vs,Lh,e4,e5,e6,e7,e8⟩:=x
 have hea:ea ∈ hs:=by rcases e8 with ⟨rfl,_⟩ | ⟨T,_,_,rfl,_⟩ <;> exact List.mem_cons_self
 refine ⟨ea,oe,vs,(Option.some.inj hv).symm,fun q=>?_,(Lh.hid ea (List.mem_append_left _ hea)).2.1,e4,e6,e7⟩
 obtain ⟨o,z⟩:=hX ea q
 rw [e1] at z; cases z
theorem HnX.mv (n:HnX A X f s.heap) (m:Mv a s s') (ha:a ∈ X):HnX A X f s'.heap:=fun v hv=>by
 obtain ⟨b,o,fs,e,h1,h2,h3,r⟩:=n v hv
 exact ⟨b,o,fs,e,h1,h2,m.keep b o (fun q=>h1 (q ▸ ha)) h3,r⟩
theorem zIS (fs:zZ S C T) {U0:Sto} {k:Cls} (m:Met S q d Γ sc env J f g X U0 U s0 s A ea k):∀ {hs:List ExceptHandler} {cs:List Hd},All2 (zOd S C Fq d Γ sc) hs cs->exH Fq cs J k U ≠ .stuck ->
  wpAny (model S.prog S.w) A (handleBy (.ref ea) env hs) (QF S X env Γ sc f s0 (exH Fq cs J k U)) E s:=by
 intro hs cs h
 induction h with
 | nil=>intro hne; exact absurd rfl hne
 | @cons h c hs cs hh hr ih =>
  intro hne
  obtain ⟨x,np,n,b₀,body,pos,rfl,hx,has,htk⟩:=hh.ex
  have st:=m.st.keep m.fresh m.kp m.lk
  have e0:exH Fq (c :: cs) J k U=if k.sub c.cls=true then ((evE Fq true c.e (zCh c.as k J) U).calm.bind fun v U=>.ok (zOF c.as (zGb c.tk v (zCh c.as k J))) U) else exH Fq cs J k U:=rfl
  rw [e0] at hne ⊢
  obtain ⟨e1,ec,hs',oe,vs,Lh,e4,e5,e6,e7,e8⟩:=id m.exc
  refine wpAny_handleBy_cons (codeAny_handlers_test (zBr fs st.fr m.lk hx fun hc hv=>?_)) (by intro q; cases q)
  refine zE7 m.lk ec ((fs.exc x c.cls hc).2 hv) (fs.exc x c.cls hc).1 e4 e5 ?_
  by_cases hsub:k.sub c.cls=true
  ·rw [if_pos hsub] at hne
   rw [hsub]
   simp only [if_true]
   rcases has with ⟨rfl,ha⟩ | ⟨y,i,rfl,ha,hl,hsl⟩
   ·rw [ha] at hne ⊢
    refine codeAny_handlers_suite (xu m.exc m.alive fun h' hs'' hf N L' x'=>?_)
    have kp':=N.kp m.kp hf
    have st':St S true d Γ sc env J (f++g) X U { s with heap:=h' } (A.mark (some (.ref ea))):=by
     have:=m.st.keep m.fresh kp' L'
     exact ⟨this.cx.mark,this.fr,this.lk,x'.hn m.alive⟩
    obtain ⟨v,U',ev,w⟩:=htk.calm st' m.fw hne
    refine wpAny_mono (w _) (fun fl s₁ q=>?_) fun _ _ x=>x
    obtain ⟨v',σ2,g2,ez,hg2,k2,L2,p2,-⟩:=q
    cases ez
    rw [show zCh none k J=J from rfl,ev]
    have kp1:Kp f (ya env) s0 { s with heap:=h' }:=kp'.mono fun a h=>nomatch h
    rw [List.append_assoc] at L2 p2
    exact ⟨_,U',g++g2,rfl,m.fresh.trans kp1.live hg2,kp1.trans m.fresh k2,L2,p2⟩
   ·rw [ha] at hne ⊢
    refine codeAny_handlers_suite_as (xu m.exc m.alive fun h' hs'' hf N L' x'=>?_)
    have kp':=N.kp m.kp hf
    have st':=m.st.keep m.fresh kp' L'
    have hn1:HnX (A.mark (some (.ref ea))) X (f++g) h':=x'.hn m.alive
    obtain ⟨e1',ec',hs3,oe',vs',Lh',e4',e5',e6',e7',e8'⟩:=x'
    have hea:ea ∈ hs3:=by rcases e8' with ⟨rfl,_⟩ | ⟨T,_,_,rfl,_⟩ <;> exact List.mem_cons_self
    have r:VR S X (f++g) h' (.exc k) (.ref ea):=by
     refine ⟨ea,oe',rfl,⟨(Lh'.hid ea (List.mem_append_left _ hea)).2.1,fun q=>?_⟩,e4',e5',ec'⟩
     obtain ⟨o,z⟩:=m.alive ea q; rw [e1'] at z; cases z
    refine xo (s:={ s with heap:=h' }) st'.fr m.fw hsl r fun b s₁ hY hX mv fr=>?_
    have kp1:Kp f (ya env) s0 s₁:=(kp'.mono fun a h=>nomatch h).trans m.fresh (mv.kp hY)
    have st1:St S true d Γ sc env (J.set i (.exc k)) (f++g) X U s₁ (A.mark (some (.ref ea))):=⟨(m.st.cx.keep kp1 m.fresh).mark,fr,mv.lk hX L',hn1.mv mv hX⟩
    obtain ⟨v,U',ev,w⟩:=htk.calm st1 m.fw hne
    refine wpAny_mono (w _) (fun fl s₂ q=>?_) fun _ _ x=>x
    obtain ⟨v',σ2,g2,ez,hg2,k2,L2,p2,fr2⟩:=q
    cases ez
    have fg2:Fresh (g++g2) s0:=m.fresh.trans kp1.live hg2
    have kp2:Kp f (ya env) s0 s₂:=kp1.trans m.fresh k2
    rw [List.append_assoc] at L2 p2 fr2
    rw [show zCh (some i) k J=J.set i (.exc k) from rfl,ev]
    refine zF5 fr2 m.fw hl hsl fun s₃ mv3 fr3=>?_
    refine ⟨_,U',g++g2,rfl,fg2,kp2.trans fg2 (mv3.kp List.mem_cons_self),mv3.lk m.fw.loc L2,?_⟩
    cases htk:c.tk with
    | ret =>
     rw [htk] at p2
     obtain ⟨w2,rfl,r2⟩:=p2
     exact ⟨w2,rfl,mv3.vr m.fw.loc r2⟩
    | asg j=>rw [htk] at p2 fr3; exact ⟨p2.1,fr3⟩
    | exp=>rw [htk] at p2 fr3; exact ⟨p2.1,fr3⟩
  ·rw [if_neg hsub] at hne ⊢
   have:k.sub c.cls=false:=by simpa using hsub
   rw [this]
   exact ih hne
theorem zPy (fs:zZ S C T) {b₀:Stmt} {body:List Stmt} {h₀:ExceptHandler} {hs:List ExceptHandler} {k:TK} {c:CE} {cs:List Hd} {pos:Pos} (hb:TKOk S F q d Γ sc (b₀ :: body) k c) (hh:All2 (zOd S C Fq d Γ sc) (h₀ :: hs) cs) :
  SOk S F Fq q d Γ sc (.Try (b₀ :: body) (h₀ :: hs) [] [] pos) (.try k c cs):=fun env J f X U s A st fw hne=>by
 have e0:exS F Fq q (.try k c cs) J U=if q=true then .stuck else (evE F q c J U).orElse (fun v U=>.ok (zGb k v J) U) (exH Fq cs J):=rfl
 rw [e0] at hne ⊢
 by_cases hq:q=true
 ·rw [if_pos hq] at hne; exact absurd rfl hne
 rw [if_neg hq] at hne ⊢
 have hr:evE F q c J U ≠ .stuck:=fun e=>hne (by rw [e]; rfl)
 refine wpAny_Try_except (wpAny_mono (hb env J f X U s A st fw hr) (fun fl s₁ h₁=>?_) fun e s₁ h₁=>?_)
 ·obtain ⟨v,U',g,e,hg,kk,L,p,-⟩:=h₁
  rw [e]
  have:QF S X env Γ sc f s ((R.ok v U').orElse (fun v U=>.ok (zGb k v J) U) (exH Fq cs J)) fl s₁:=⟨_,U',g,rfl,hg,kk,L,p⟩
  cases fl with
  | next=>exact wpAny_execs_nil this
  | _=>exact this
 ·obtain ⟨c',U',g,ea,rfl,e2,hg,kk,L,x⟩:=h₁
  rw [e2] at hne ⊢
  replace hne:exH Fq cs J c' U' ≠ .stuck:=hne
  obtain ⟨en,l,h1,h2,h3⟩:=(st.cx.keep kk hg).frs
  have hX:∀ a ∈ X,∃ o,s.heap.get? a=some o:=fun a ha=>(st.lk.hid a ha).2.2
  obtain ⟨h0,L1,o,es,n,h4,-⟩:=h3 en List.mem_cons_self
  rw [ww (env':=en) h2]
  refine zB4 h1 h3 h4 x hX kk fun h' kk' L' x'=>?_
  have m:Met S q d Γ sc env J f g X U U' s { s₁ with heap:=h' } A ea c':=⟨st,fw,hg,kk',L',x'⟩
  exact zIS fs m hh hne
end
end Mine
end

section
namespace Mine
open PySem PyProof.Rows
section
variable {S:zR} {C:Ctx} {T:Nat->Option Fn} {F Fq:Calls} {q:Bool} {d:Nat} {Γ:List Str} {sc:Scope}
variable {X X' Y Z:List Addr} {f g:List Loc} {U:Sto} {s s':Shared} {A:Around} {E:Value->Shared->Prop} {env:Env} {J:List V}
theorem zM4 {es:List Expr} {pos:Pos} (hs:es.any isStar=false) (hl:es.length <= 20):((backTo pos (starEach es env)).all (fun x=>!x.1)&&(backToKw pos (keywordEach [] env)).all (fun x=>x.1.isSome)
  &&decide (es.length+([]:List Keyword).length+(if ([]:List Keyword).isEmpty then 0 else 1) < 30))=true:=by
 have h1:(backTo pos (starEach es env)).all (fun x=>!x.1)=true:=by
  have:=zh (env:=env) (pos:=pos) es hs
  rw [List.any_eq_false] at this
  rw [List.all_eq_true]
  intro x hx
  simpa using this x hx
 rw [h1]
 exact decide_eq_true (show es.length+0+0 < 30 from Nat.lt_of_le_of_lt hl (by decide))
theorem zIi {o:Expr} {name:Str} {apos pos:Pos} {args:List Expr} {Q:Value->Shared->Prop} (hbase:attributeBase o name env (eval o env)=eval o env)
  (hfew:((backTo pos (starEach args env)).all (fun x=>!x.1)&&(backToKw pos (keywordEach [] env)).all (fun x=>x.1.isSome)
  &&decide (args.length+([]:List Keyword).length+(if ([]:List Keyword).isEmpty then 0 else 1) < 30))=true) (hline:(apos.endLine==pos.line)=true)
  (h:wpAny (model S.prog S.w) A (eval o env) (fun ov s₁=>∀ pl,wpAny (model S.prog S.w) A (getMethod ov name pl) (fun fx s₂=>wpAny (model S.prog S.w) A (callWith pos fx.1 fx.2 (backTo pos (starEach args env)) []) Q E s₂) E s₁) E s) :
  wpAny (model S.prog S.w) A (eval (.Call (.Attribute o name apos) args [] pos) env) Q E s:=by
 rw [arm_eval_Call,hbase]
 refine wpAny_bind (wpAny_mono h (fun ov s₁ h₁=>?_) fun _ _ e=>e)
 refine wpAny_bind (wpAny_standAt ?_)
 have hform:methodCallForm (args.length+([]:List Keyword).length) (backTo pos (starEach args env)) (backToKw pos (keywordEach [] env))=true:=hfew
 have hpos:methodCallPos true o env apos pos=pure pos:=by unfold methodCallPos; simp [hline]
 unfold methodCall
 rw [hform]
 refine wpAny_bind (wpAny_holding (wpAny_mono (h₁ _) (fun fx s₂ h₂=>?_) fun _ _ x=>x))
 obtain ⟨fv,first⟩:=fx
 exact wpAny_bind (wpAny_of_eq hpos h₂)
inductive zOe (S:zR) (X:List Addr) (f:List Loc) (s:Shared) (as:List (Nat × V)) (n:Nat) (v:Value):Prop
 | mk (ax dx:Addr) (ob:Obj) (mA:Str->Option Value) (e:v=.ref ax) (hf:f[n]?=some (ax,some dx)) (h1:s.heap.get? ax=some ob) (h2:ob.cls=.ref S.book /\ ob.dict=some dx /\ (∀ c,ob.data ≠ .cls c) /\ dx ≠ ax) (h3:s.heap.Ns1 dx mA)
   (h4:∀ k x,as.lookup k=some x->∃ w,mA (zL k)=some w /\ VR S X f s.heap x w) (h5:∀ x v,mA x=some v->x=zL 0 \/ x=zL 1) (h6:∀ k,k ∈ as.map (·.1)->k < 2) (h7:s.heap.Inst ax S.book mA)
theorem zD0 {n:Nat} {v:Value} {as:List (Nat × V)} (L:Lk S X f U s.heap) (r:VR S X f s.heap (.ref n) v) (ho:U[n]?=some (.inst as)) :
  zOe S X f s as n v:=by
 obtain ⟨⟨ax,dd⟩,hl,rfl⟩:=r
 have:=L.obj n _ _ hl ho
 cases dd with
 | none=>exact this.elim
 | some dx =>
  obtain ⟨ob,mA,e1,e2,e3,e4,e5,e6⟩:=this
  exact ⟨ax,dx,ob,mA,rfl,hl,e1,e2,e3,e4,e5,e6,ob,e1,e2.1,e2.2.2.1,.inr ⟨dx,e2.2.1,e2.2.2.2,e3⟩⟩
theorem zPa (fs:zZ S C T) {x:V} {w:Value} (r:VR S X f s.heap x w):handedOut w=pure w:=by
 cases x with
 | undef=>exact False.elim r
 | none=>subst r; rfl
 | bool b=>subst r; rfl
 | int i=>obtain ⟨t,rfl⟩:=r; rfl
 | str y=>obtain ⟨⟨t,rfl⟩,_⟩:=r; rfl
 | tup xs=>obtain ⟨a,_,_,rfl,_⟩:=r; rfl
 | lst xs=>obtain ⟨a,_,_,rfl,_⟩:=r; rfl
 | ref n=>obtain ⟨l,_,rfl⟩:=r; rfl
 | exc c=>obtain ⟨a,_,rfl,_⟩:=r; rfl
 | parts=>obtain ⟨hp,rfl⟩:=r; obtain ⟨dA,_,e,_⟩:=fs.parts hp; rw [e]; rfl
theorem zDP:typeLookup (.type "object") (zL 0)=pure none:=by rw [typeLookup_type,builtinLookup_eq_fast]; kernel_rfl
theorem zDQ:typeLookup (.type "object") (zL 1)=pure none:=by rw [typeLookup_type,builtinLookup_eq_fast]; kernel_rfl
theorem zBa {m:Str} {k:Nat} (h:attrNames.lookup m=some k):k < 2 /\ m=zL k:=by
 have:=zS h
 simp only [attrNames,List.mem_cons,Prod.mk.injEq,List.not_mem_nil,or_false] at this
 rcases this with ⟨rfl,rfl⟩ | ⟨rfl,rfl⟩
 ·exact ⟨by decide,rfl⟩
 ·exact ⟨by decide,rfl⟩
theorem zNS (fs:zZ S C T) {o:Expr} {a:CE} {m:Str} {k:Nat} {pos:Pos} (hm:C.attrs.lookup m=some k) (hb:noSuper o=true) (ho:EOk S F q d Γ sc o a):EOk S F q d Γ sc (.Attribute o m pos) (.attr a k):=fun env J f X U s A st hne=>by
 rw [zMT] at hne ⊢
 rcases fs.book with ⟨_,_,h0⟩ | ⟨hat,B⟩
 ·rw [h0] at hm; first | exact zB hm | exact zF hm | cases hm
 rw [hat] at hm
 obtain ⟨hk,rfl⟩:=zBa hm
 obtain ⟨N,mN,nm,qn,bs,sn,sub,col,dd,k0,k1,k2,k3,k5,hC,hN,hq,_⟩:=B
 rw [arm_eval_Attribute,xb hb]
 refine wpAny_bind (Sim.goQ (P':=PV S X) (ho env J f X U s A st) hne (fun _ _ x=>x) (fun _ _ x=>x) fun va a' U1 g₁ s₁ hne hg kk L ra hQ hE=>wpAny_bind (wpAny_standAt (wpAny_bind (wpAny_holding ?_))))
 obtain ⟨x,hx⟩:=yS hne
 rw [hx] at hQ
 obtain ⟨n,as,rfl,hU,hx⟩:=zKP hx
 obtain ⟨ax,dx,ob,mA,rfl,hf,e1,e2,e3,e4,e5,e6,I⟩:=zD0 L ra hU
 obtain ⟨w,hw,rw'⟩:=e4 k x hx
 have hna:mN (zL k)=none:=by2 (P:=fun k=>mN (zL k)=none) hq.2.2.2.1 hq.2.2.2.2 hk
 have hB:typeLookup (.type "object") (zL k)=pure none:=by2 (P:=fun k=>typeLookup (.type "object") (zL k)=pure none) zDP zDQ hk
 refine load_attr (L.base _ _ hC) (L.ns hN) hq.1 hna hB I hw (zPa fs rw') (wpAny_bind (wpAny_letTemporaryGo (wpAny_pure ?_)))
 have ex:Ext s₁ { s₁ with toks:=s₁.toks+1 }:=⟨rfl,fun _ _ e=>e⟩
 exact hQ _ _ ⟨x,U1,[],rfl,.nil _,ex.kp _ _,by rw [List.append_nil]; exact L,by rw [List.append_nil]; exact rw'⟩
theorem zLn (fs:zZ S C T) (FSs:FS S F q d) {o:Expr} {a:CE} {m:Str} {n:Nat} {apos pos:Pos} {es:List Expr} {cs:List CE} (hm:C.meths.lookup m=some n) (hb:noSuper o=true) (hp:(apos.endLine==pos.line)=true) (hlen:es.length <= 20)
  (ho:EOk S F q d Γ sc o a) (h:All2 (GOk S F q d Γ sc) es cs):EOk S F q d Γ sc (.Call (.Attribute o m apos) es [] pos) (.callm n a cs):=fun env J f X U s A st hne=>by
 rw [zHq] at hne ⊢
 rcases fs.book with ⟨_,h0,_⟩ | ⟨hat,B⟩
 ·rw [h0] at hm; first | exact zB hm | exact zF hm | cases hm
 obtain ⟨N,mN,nm,qn,bs,sn,sub,col,dd,k0,k1,k2,k3,k5,hC,hN,hqt,_,_,hms⟩:=B
 obtain ⟨hmf,of,hof,hoc⟩:=hms m n hm
 have hl:=LOk.of h
 refine zIi (xb hb) (zM4 hl.1 hlen) hp ?_
 refine Sim.goQ (P':=PV S X) (ho env J f X U s A st) hne (fun _ _ x=>x) (fun _ _ x=>x) fun va a' U1 g₁ s₁ hne hg kk L ra hQ hE pl=>?_
 by_cases hi:isInst U1 a'=true
 case neg=>rw [if_neg hi] at hne; exact absurd rfl hne
 rw [if_pos hi] at hne hQ hE
 obtain ⟨k,as,rfl,hU⟩:=zLE hi
 obtain ⟨ax,dx,ob,mA,rfl,hf,e1,e2,e3,e4,e5,e6,I⟩:=zD0 L ra hU
 have hsh:mA m=none:=by
  cases e:mA m with
  | none=>rfl
  | some v =>
   rcases e5 m v e with z | z
   ·rw [z,hqt.2.2.2.1] at hmf; first | exact zB hmf | exact zF hmf | cases hmf
   ·rw [z,hqt.2.2.2.2] at hmf; first | exact zB hmf | exact zF hmf | cases hmf
 refine method_of (L.base _ _ hC) (L.ns hN) hqt.1 hqt.2.1 hmf (L.base _ _ hof) hoc (typeLookup_type _ _) I hsh ?_
 refine zw (zh _ hl.1) ?_
 refine Sim.goQ (P':=PV S X) (hl.2 env pos J _ X U1 _ A (st.keep hg kk L)) hne hQ hE fun vs xs U2 g₂ s₂ hne hg₂ k₂ L₂ rs hQ hE=>?_
 have ra2:=VR.keepK k₂ hg₂ (fun _ h=>nomatch h) ra
 obtain ⟨⟨o,fd,h1,h2⟩,h3⟩:=FSs n (.ref k :: xs) U2 _ X A s₂ (.ref ax :: vs) ((st.keep hg kk L).keep hg₂ k₂ L₂).call L₂ (⟨ra2,rs⟩) hne
 refine ⟨.inr ⟨_,o,fd,rfl,L₂.base _ _ h1,h2⟩,wpAny_call ?_⟩
 refine codeAny_mono h3 fun r s' hq=>?_
 match r,hq with
 | .ok (.ret v),hq=>exact hQ v s' hq
 | .error e,hq=>exact hE e s' hq
theorem zKh {pos:Pos} {Cb N:Addr} {nm qn:Str} {bs bm:List Value} {hdct:Bool} {sn:List Str} {sub:List Value} {ab:Bool} {col:Option Bool} {dd:Option Addr} {k0 k1 k2 k3 k5:Option Value} {newId:String} {Q:Value->Shared->Prop}
  (hC:s.heap.get? Cb=some (excClassObj nm qn Cb N bs bm hdct sn sub ab col dd k0 k1 k2 k3 k5 newId)) (h:wpAny (model S.prog S.w) A (call (.ref Cb) []) Q E s):wpAny (model S.prog S.w) A (callWith pos (.ref Cb) [] (backTo pos (starEach [] env)) []) Q E s:=by
 show wpAny (model S.prog S.w) A (callWith pos (.ref Cb) [] [] []) Q E s
 unfold callWith
 refine wpAny_bind (wpAny_holding (evalArgs_empty ?_))
 refine wpAny_bind (wpAny_standAt ?_)
 obtain ⟨hh,gg,dr,tk,os⟩:=s
 refine wpAny_bind (wpAny_keeperOf_exc hC ?_)
 exact wpAny_bind (wpAny_mono h (fun r s' q=>wpAny_bind (wpAny_holding (wpAny_point (wpAny_pure q)))) fun _ _ q=>q)
theorem zPt (fs:zZ S C T) (FSs:FS S F q d) {p pos:Pos} (hbk:C.book=true) (hg:isGlob sc "Book"=true):EOk S F q d Γ sc (.Call (.Name "Book" p) [] [] pos) .new:=fun env J f X U s A st hne=>by
 have e0:evE F q .new J U=(F 0 [.ref U.length] (U++[.inst []])).bind (zB3 U.length):=rfl
 rw [e0] at hne ⊢
 rcases fs.book with ⟨h0,_⟩ | ⟨hat,B⟩
 ·rw [h0] at hbk; first | exact zB hbk | exact zF hbk | cases hbk
 obtain ⟨N,mN,nm,qn,bs,sn,sub,col,dd,k0,k1,k2,k3,k5,hC,hN,hqt,hini,⟨of,hof,hoc⟩,_⟩:=B
 obtain ⟨mg,mb,g1,g2,g3,g4,g5,g6,_⟩:=fs.g
 refine wpAny_Call_NameR (wpAny_Name (wU st.fr.kind (st.fr.isGlob hg) (by rw [st.fr.glob]; exact st.lk.ns g1) (g6 hbk) ?_) (by decide))
 refine zKh (st.lk.base _ _ hC) ?_
 have L:=st.lk
 have cx:=st.cx
 have hn:=st.hn
 have key:∀ h' x dx,Heap.MadeObj s.heap h' x dx S.book->wpAny (model S.prog S.w) (A.under (.builtin "type.__call__" ⟨[Value.ref S.book],[]⟩)) (call (Value.ref (S.fn 0)) [Value.ref x])
   (fun r s'=>r=.none /\ QS S X [] f (PV S X) s ((F 0 [.ref U.length] (U++[.inst []])).bind (zB3 U.length)) (.ref x) s')
   (ES S X [] f false s ((F 0 [.ref U.length] (U++[.inst []])).bind (zB3 U.length))) { s with heap:=h' }:=fun h' x dx Mk=>by
  have ex:Ext s { s with heap:=h' }:=⟨rfl,Mk.keeps⟩
  obtain ⟨ob,hx,hcx,hncx,hdx⟩:=Mk.inst
  have hdd:=Mk.dict ob hx
  obtain ⟨hne',hns⟩:dx ≠ x /\ h'.Ns1 dx fun _=>none:=by
   rcases hdx with ⟨hn0,_⟩ | ⟨d',hd',hne',hns'⟩
   ·rw [hn0] at hdd; first | exact zB hdd | exact zF hdd | cases hdd
   ·obtain rfl:=Option.some.inj (hd'.symm.trans hdd); exact ⟨hne',hns'⟩
  have hfr:Fresh [(x,some dx)] s:=fun a ha=>by
   rcases List.mem_cons.mp ha with rfl | ha
   ·exact Mk.newX
   ·obtain rfl:=List.mem_singleton.mp ha; exact Mk.newD
  have L1:Lk S ([x,dx]++X) f U h':=L.enter (s₁:={ s with heap:=h' }) Mk.keeps fun a ha=>by
   rcases List.mem_cons.mp ha with rfl | ha
   ·exact ⟨Mk.newX,ob,hx⟩
   ·obtain rfl:=List.mem_singleton.mp ha
    exact ⟨Mk.newD,let ⟨o,_,_,e,_⟩:=hns; ⟨o,e⟩⟩
  have hnX:∀ a ∈ [x,dx],a ∉ X:=fun a ha hX=>by
   obtain ⟨o,e⟩:=(L.hid a hX).2.2
   rcases List.mem_cons.mp ha with rfl | ha
   ·rw [Mk.newX] at e; first | exact zB e | exact zF e | cases e
   ·obtain rfl:=List.mem_singleton.mp ha; rw [Mk.newD] at e; cases e
  have L2:Lk S X (f++[(x,some dx)]) (U++[.inst []]) h':=Lk.track (l:=(x,some dx)) L1 (List.nodup_cons.mpr ⟨fun h=>hne' (List.mem_singleton.mp h).symm,List.nodup_cons.mpr ⟨fun h=>(nomatch h),.nil⟩⟩) hnX
   ⟨ob,fun _=>none,hx,⟨hcx,hdd,hncx,hne'⟩,hns,fun k x e=>by simp at e,fun x v e=>by simp at e,fun k e=>by simp at e⟩
  have hlen:(f++[(x,some dx)])[U.length]?=some (x,some dx):=by rw [<- L.len]; simp
  have rx:VRs S X (f++[(x,some dx)]) h' [.ref U.length] [.ref x]:=⟨⟨_,hlen,rfl⟩,trivial⟩
  have kp0:Kp f [] s { s with heap:=h' }:=ex.kp _ _
  have cxc:CxC S (A.under (.builtin "type.__call__" ⟨[Value.ref S.book],[]⟩)) q d X (f++[(x,some dx)]) h':=by
   obtain ⟨e1,l,h1,_,h3⟩:=cx.frs
   refine ⟨?_,?_,cx.hand,⟨e1 :: l,?_,h3.keep kp0 hfr⟩,hn.keep kp0 hfr fun _ h=>nomatch h⟩
   ·have:=cx.depth; show A.depth+1+2 * d+2 <= 900; rw [Nat.add_right_comm A.depth 1 (2 * d)]; exact this
   ·have:=cx.units; show A.units+1+5 * d+200 <= 9900; rw [Nat.add_right_comm A.units 1 (5 * d)]; exact Nat.le_trans (Nat.le_of_eq (Nat.add_assoc (A.units+5 * d) 1 200)) (Nat.le_trans (Nat.add_le_add_left (show 1+200 <= 202 by decide) (A.units+5 * d)) this)
   ·exact h1
  have hr:F 0 [.ref U.length] (U++[.inst []]) ≠ .stuck:=fun e=>hne (by rw [e]; rfl)
  obtain ⟨_,h3⟩:=FSs 0 [.ref U.length] (U++[.inst []]) _ X _ { s with heap:=h' } [.ref x] cxc L2 rx hr
  refine wpAny_call (codeAny_mono h3 fun r s' hq=>?_)
  match r,hq with
  | .ok (.ret v),hq =>
   obtain ⟨b,U'',g',e,hg',kp',L3,rv⟩:=hq
   rw [e] at hne ⊢
   have hb:b=.none:=by cases b <;> first | rfl | exact absurd rfl hne
   subst hb
   have rv:v=.none:=by have:VR _ _ _ _ _ _:=rv; exact this
   refine ⟨rv,.ref U.length,U'',(x,some dx) :: g',rfl,?_,kp0.trans hfr kp',by rw [List.append_cons]; exact L3,?_⟩
   ·exact hfr.trans kp0.live hg'
   ·show VR _ _ _ _ _ _
    exact ⟨(x,some dx),by rw [<- L.len,List.append_cons,List.getElem?_append_left (by simp)]; simp,rfl⟩
  | .error e,hq =>
   obtain ⟨c,U',g',ea,e1,e2,hg',kp',L3,xr⟩:=hq
   rw [e2]
   refine ⟨c,U',(x,some dx) :: g',ea,e1,rfl,hfr.trans kp0.live hg',kp0.trans hfr kp',by rw [List.append_cons]; exact L3,?_⟩
   rw [List.append_cons]
   exact xr.back fun a h=>zu kp0.live h
 exact wpAny_call_obj_init PySem.F.objNew (L.base _ _ hC) (L.ns hN) hini (L.base _ _ hof) hoc key
theorem jX {β:Type} {k:Nat} {y:β}:∀ {l:List (Nat × β)},l.lookup k=some y->(k,y) ∈ l
 | (k',y') :: l,h=>by
  rw [List.lookup_cons] at h
  split at h
  ·rename_i e; cases h; rw [eq_of_beq e]; exact List.mem_cons_self
  ·exact List.mem_cons_of_mem _ (jX h)
theorem zMe {n k:Nat} {ax dx:Addr} {ob o₁:Obj} {mA:Str->Option Value} {as:List (Nat × V)} {v':V} {vv:Value} {h':Heap} (hk:k < 2) (hf:f[n]?=some (ax,some dx)) (e2:ob.cls=.ref S.book /\ ob.dict=some dx /\ (∀ c,ob.data ≠ .cls c) /\ dx ≠ ax)
  (e4:∀ k x,as.lookup k=some x->∃ w,mA (zL k)=some w /\ VR S X f s.heap x w) (e5:∀ x v,mA x=some v->x=zL 0 \/ x=zL 1) (e6:∀ k,k ∈ as.map (·.1)->k < 2) (rv:VR S X f s.heap v' vv)
  (hs:∀ b o,b ∉ Loc.addrs (ax,some dx)->s.heap.get? b=some o->h'.get? b=some o) (w1:h'.get? ax=some o₁) (w2:o₁.cls=ob.cls) (w3:o₁.data=ob.data) (w5:o₁.dict=some dx)
  (hns:h'.Ns1 dx (fun y=>if y=zL k then some vv else mA y)):OR S X f h' (ax,some dx) (.inst ((k,v') :: as)):=by
 have kv:∀ x v,VR S X f s.heap x v->VR S X f h' x v:=VR.keep (fun _ _ e=>e) fun a o q h1 h2=>⟨⟨h1,h2⟩,o,hs a o (fun z=>h1 (yD hf z)) q,.refl o⟩
 refine ⟨o₁,_,w1,⟨w2.trans e2.1,w5,fun c=>by rw [w3]; exact e2.2.2.1 c,e2.2.2.2⟩,hns,fun j x hj=>?_,fun y v hy=>?_,fun j hj=>?_⟩
 ·rw [List.lookup_cons] at hj
  cases hjk:(j==k) with
  | true =>
   rw [hjk] at hj
   cases hj
   obtain rfl:j=k:=eq_of_beq hjk
   exact ⟨vv,if_pos rfl,kv _ _ rv⟩
  | false =>
   rw [hjk] at hj
   obtain ⟨w,hw,hr⟩:=e4 j x hj
   refine ⟨w,?_,kv _ _ hr⟩
   have hj2:j < 2:=e6 j (List.mem_map_of_mem (f:=(·.1)) (jX hj))
   have hjn:zL j ≠ zL k:=by
    have hne:j ≠ k:=fun q=>by rw [q] at hjk; simp at hjk
    exact by2 (P:=fun j=>j ≠ k->zL j ≠ zL k) (by2 (P:=fun k=>0 ≠ k->zL 0 ≠ zL k) (fun h=>absurd rfl h) (fun _=>by decide) hk) (by2 (P:=fun k=>1 ≠ k->zL 1 ≠ zL k) (fun _=>by decide) (fun h=>absurd rfl h) hk) hj2 hne
   exact (if_neg hjn).trans hw
 ·by_cases hyk:y=zL k
  ·exact by2 (P:=fun k=>y=zL k->_) .inl .inr hk hyk
  ·exact e5 y v ((if_neg hyk).symm.trans hy)
 ·rcases List.mem_cons.mp hj with rfl | hj
  ·exact hk
  ·exact e6 j hj
theorem zGU (B:zDg S C) {n k:Nat} {vo vv:Value} {v':V} {as:List (Nat × V)} {Q:Unit->Shared->Prop} (hk:k < 2) (L:Lk S X f U s.heap) (ro:VR S X f s.heap (.ref n) vo) (hU:U[n]?=some (.inst as)) (rv:VR S X f s.heap v' vv)
  (h:∀ h' tk,Lk S X f (U.set n (.inst ((k,v') :: as))) h'->(∀ Y,Kp f Y s { s with heap:=h',toks:=tk })->Q () { s with heap:=h',toks:=tk }):wpAny (model S.prog S.w) A (setAttr vo (zL k) vv) Q E s:=by
 obtain ⟨N,mN,nm,qn,bs,sn,sub,col,dd,k0,k1,k2,k3,k5,hC,hN,hqt,_⟩:=B
 obtain ⟨ax,dx,ob,mA,rfl,hf,e1,e2,e3,e4,e5,e6,I⟩:=zD0 L ro hU
 have hna:mN (zL k)=none:=by2 (P:=fun k=>mN (zL k)=none) hqt.2.2.2.1 hqt.2.2.2.2 hk
 have hB:typeLookup (.type "object") (zL k)=pure none:=by2 (P:=fun k=>typeLookup (.type "object") (zL k)=pure none) zDP zDQ hk
 have hxC:ax ≠ S.book:=fun z=>by
  have h1:=L.fresh ax (yD hf List.mem_cons_self)
  rw [z,hC] at h1; cases h1
 have hsz:([zL 0,zL 1]:List Str).length <= sizeLine:=by show 2 <= sizeLine; decide
 have hw:Within mA [zL 0,zL 1]:=fun y hy=>by
  obtain ⟨v,hv⟩:=Option.ne_none_iff_exists'.mp hy
  rcases e5 y v hv with rfl | rfl
  ·exact List.mem_cons_self
  ·exact List.mem_cons_of_mem _ (List.mem_singleton.mpr rfl)
 have fin:∀ h' tk',h'.Inst ax S.book (fun y=>if y=zL k then some vv else mA y) ->
   (∀ b o,b ≠ ax->(∀ o0 d',s.heap.get? ax=some o0->o0.dict=some d'->b ≠ d')->s.heap.get? b=some o->h'.get? b=some o) ->
   (∀ o0,s.heap.get? ax=some o0->∃ o₁,h'.get? ax=some o₁ /\ o₁.cls=o0.cls /\ o₁.data=o0.data /\ o₁.slots=o0.slots /\ ∀ d',o0.dict=some d'->o₁.dict=some d')->Q () { s with heap:=h',toks:=tk' }:=fun h' tk' I' hkeep hsame=>by
  have hs':∀ b o,b ∉ Loc.addrs (ax,some dx)->s.heap.get? b=some o->h'.get? b=some o:=fun b o hb e =>
   hkeep b o (fun z=>hb (by rw [z]; exact List.mem_cons_self)) (fun o0 d' q1 q2 z=>hb (by
    rw [e1] at q1; cases q1; rw [e2.2.1] at q2; cases q2
    rw [z]; exact List.mem_cons_of_mem _ (List.mem_singleton.mpr rfl))) e
  obtain ⟨o₁,w1,w2,w3,_,w5⟩:=hsame ob e1
  obtain ⟨o',q1,q2,q3,q4⟩:=I'
  rw [w1] at q1; cases q1
  have hns:h'.Ns1 dx (fun y=>if y=zL k then some vv else mA y):=by
   rcases q4 with ⟨q5,_⟩ | ⟨d',q5,_,q6⟩
   ·rw [w5 dx e2.2.1] at q5; first | exact zB q5 | exact zF q5 | cases q5
   ·rw [w5 dx e2.2.1] at q5; cases q5; exact q6
  have hlive:∀ b ∈ Loc.addrs (ax,some dx),∃ o,h'.get? b=some o:=fun b hb=>by
   rcases List.mem_cons.mp hb with rfl | hb
   ·exact ⟨_,w1⟩
   ·rw [List.mem_singleton.mp hb]; exact let ⟨o,_,_,e,_⟩:=hns; ⟨o,e⟩
  exact h h' tk' (L.upd hf hs' (zMe hk hf e2 e4 e5 e6 rv hs' w1 w2 w3 (w5 dx e2.2.1) hns)) fun Y=>Kp.upd hf hs' hlive
 have L1:=L.base _ _ hC
 have L2:=L.ns hN
 clear e4 e5 e6 e3 h ro rv L
 exact store_attr PySem.F.store_object L1 L2 hqt.2.2.1 hna hB hxC I fin hw hsz
theorem zGI (fs:zZ S C T) {o e:Expr} {a c:CE} {m:Str} {k:Nat} {p' pos:Pos} (hm:C.attrs.lookup m=some k) (ho:EOk S F q d Γ sc o a) (h:EOk S F q d Γ sc e c) (hs:∀ env n t,swapsWith e t n env=pure false) :
  SOk S F Fq q d Γ sc (.Assign [.Attribute o m p'] e pos) (.setAttr a k c):=fun env J f X U s A st fw hne=>by
 rw [zDd] at hne ⊢
 rcases fs.book with ⟨_,_,h0⟩ | ⟨hat,B⟩
 ·rw [h0] at hm; first | exact zB hm | exact zF hm | cases hm
 rw [hat] at hm
 obtain ⟨hk,rfl⟩:=zBa hm
 refine plainObj_wpAny_Assign_Attribute ?_ (hs _ _ _)
 refine Sim.goS (Γ:=Γ) (sc:=sc) (h env J f X U s A st) hne (fun _ _ x=>x) (fun _ _ x=>x) fun vv v' U1 g₁ s₁ hne hg kk L rv hQ hE=>?_
 have st₁:=st.keep hg kk L
 refine Sim.goS (Γ:=Γ) (sc:=sc) (ho env J _ X U1 s₁ A st₁) hne hQ hE fun vo o' U2 g₂ s₂ hne hg₂ k₂ L₂ ro hQ hE=>?_
 have st₂:=st₁.keep hg₂ k₂ L₂
 have rv2:=VR.keepK k₂ hg₂ (fun _ h=>nomatch h) rv
 obtain ⟨n,as,rfl,hU⟩:=zFK fun e=>hne (by rw [e]; rfl)
 have hd:wd U2 (.ref n) k v'=.ok () (U2.set n (.inst ((k,v') :: as))):=by
  show kJ U2 n k v' U2[n]?=_
  rw [hU]; exact if_pos hk
 rw [hd] at hQ
 refine zGU B hk L₂ ro hU rv2 fun h' tk L3 kp3=>hQ _ _ ⟨.next J,_,[],rfl,.nil _,kp3 _,by rw [List.append_nil]; exact L3,rfl,?_⟩
 have:=st₂.fr.keep (g:=[]) st₂.lk (kp3 []) (.nil _)
 exact this
end
end Mine
end

section
namespace Mine
open PySem PyProof.Rows
section
variable {S:zR} {C:Ctx} {T:Nat->Option Fn} {F Fq:Calls} {q:Bool} {d:Nat} {Γ:List Str} {sc:Scope}
variable {X X' Y Z:List Addr} {f g:List Loc} {U:Sto} {s s':Shared} {A:Around} {E:Value->Shared->Prop} {env:Env} {J:List V}
theorem zFQ (fs:zZ S C T) (L:Lk S X f U s.heap):(s.heap.objs.size==sysModules)=false:=by
 obtain ⟨mg,mb,⟨o,es,ep,ho,_⟩,_⟩:=fs.g
 have:=Heap.lt_size (L.base _ _ ho)
 exact beq_false_of_ne fun q=>absurd (q ▸ this:mainGlobals < sysModules) (by decide)
theorem zEg (hy:(s.heap.objs.size==sysModules)=false) (L:Lk S X f U s.heap):Ext s { s with heap:=s.heap.push { cls:=.type "dict",data:=.dict #[] } } /\ Fresh [(s.heap.objs.size,none)] s /\
  Lk S X (f++[(s.heap.objs.size,none)]) (U++[.dict []]) (s.heap.push { cls:=.type "dict",data:=.dict #[] }):=by
 have hn:s.heap.get? s.heap.objs.size=none:=Heap.get?_none_of_le (Nat.le_refl _)
 have hl:(s.heap.push { cls:=.type "dict",data:=.dict #[] }).get? s.heap.objs.size=some { cls:=.type "dict",data:=.dict #[] }:=Heap.get?_push_size _ rfl
 have ex:Ext s { s with heap:=s.heap.push { cls:=.type "dict",data:=.dict #[] } }:=⟨rfl,fun b o e=>Heap.get?_push_of_some _ e⟩
 refine ⟨ex,fun a ha=>by rw [List.mem_singleton.mp ha]; exact hn,?_⟩
 have L1:Lk S (s.heap.objs.size :: X) f U (s.heap.push { cls:=.type "dict",data:=.dict #[] }):=L.hideNew ex hn hl
 exact Lk.track (l:=(s.heap.objs.size,none)) L1 (List.nodup_cons.mpr ⟨fun h=>(nomatch h),.nil⟩) (fun a ha hX=>by
  rw [List.mem_singleton.mp ha] at hX
  obtain ⟨o,e⟩:=(L.hid _ hX).2.2
  rw [hn] at e; cases e) ⟨[],Even.new,rfl,by rw [List.map_nil,List.map_nil]; exact True.intro,Nat.zero_le _,hy⟩
theorem zLq (fs:zZ S C T) {pos:Pos}:EOk S F q d Γ sc (.Dict [] [] pos) .dict0:=fun env J f X U s A st hne=>by
 rw [zNk]
 obtain ⟨ex,hg,L⟩:=zEg (zFQ fs st.lk) st.lk
 refine wpAny_Dict_empty ⟨.ref U.length,_,_,rfl,hg,ex.kp _ _,L,?_⟩
 show VR _ _ _ _ _ _
 exact ⟨(s.heap.objs.size,none),by rw [<- st.lk.len]; simp,rfl⟩
theorem zLr (fs:zZ S C T) {k v:Expr} {a b:CE} {pos:Pos} (hk:EOk S F q d Γ sc k a) (hv:EOk S F q d Γ sc v b):EOk S F q d Γ sc (.Dict [some k] [v] pos) (.dict1 a b):=fun env J f X U s A st hne=>by
 rw [zEI] at hne ⊢
 obtain ⟨ex,hg,L⟩:=zEg (zFQ fs st.lk) st.lk
 have kp0:=ex.kp f []
 have st0:=st.keep hg kp0 L
 have hlen:(f++[(s.heap.objs.size,none)])[U.length]?=some (s.heap.objs.size,none):=by rw [<- st.lk.len]; simp
 refine zKo (knd:=intKind S.prog S.w) ?_
 refine evalPairs_cons ?_
 refine Sim.goQ (P':=PV S X) (hk env J _ X _ _ A st0) hne (fun c s'' x=>QS.lifts f _ s _ _ c s'' hg kp0 x) (fun c s'' x=>ES.lifts f _ s _ _ c s'' hg kp0 x) fun vk k' U1 g₁ s₁ hne hg1 k₁ L₁ rk hQ hE=>?_
 have st₁:=st0.keep hg1 k₁ L₁
 refine wpAny_bind (Sim.goQ (P':=PV S X) (hv env J _ X U1 s₁ A st₁) hne hQ hE fun vv v' U2 g₂ s₂ hne hg₂ k₂ L₂ rv hQ hE=>wpAny_bind (wpAny_standAt (wpAny_pure (evalPairs_nil ?_))))
 have hf₂:(f++[(s.heap.objs.size,none)]++g₁++g₂)[U.length]?=some (s.heap.objs.size,none):=by
  have h1:U.length < (f++[(s.heap.objs.size,none)]).length:=(List.getElem?_eq_some_iff.mp hlen).1
  rw [List.append_assoc,List.getElem?_append_left h1]; exact hlen
 obtain ⟨ki,rfl,hU⟩:=zIL hne
 have hd0:zBJ U.length U2 (.int ki) v'=zBi U.length U2 ki v' U2[U.length]?:=rfl
 rw [hd0,hU] at hQ
 obtain ⟨kvs,hd,e1,_,_,hy⟩:=zMv L₂ hf₂ hU
 obtain rfl:kvs=[]:=List.map_eq_nil_iff.mp e1
 obtain ⟨t,rfl⟩:=yH rk
 refine ⟨_,vv,ki,rfl,by show Value.isInt ki (.int ki t)=true; simp [Value.isInt],hd,fun h' hd' hs=>?_⟩
 obtain ⟨L3,k3⟩:=zFc (es':=[(ki,v')]) (t:=s₂.toks+1) L₂ hf₂ hs hd' rfl ⟨rv,trivial⟩ (by show 1 <= 1048576; decide) hy
 refine hQ _ _ ⟨.ref U.length,_,[],rfl,.nil _,k3 [],by rw [List.append_nil]; exact L3,?_⟩
 show VR _ _ _ _ _ _
 rw [List.append_nil]
 exact ⟨_,hf₂,rfl⟩
end
end Mine
end

section
namespace Mine
open PySem PyProof.Rows
section
variable {S:zR} {C:Ctx} {T:Nat->Option Fn} {F Fq:Calls} {q:Bool} {d:Nat}
theorem GOk.of {Γ:List Str} {sc:Scope} {e:Expr} {c:CE} (h:EOk S F q d Γ sc e c) (he:∀ env whole,isTrue e env whole=(do let v <- whole; standAt e.pos; holding [v] (PySem.truthy v))) (hs:isStar e=false) (hm:∀ op,behindInMarks op e=false) (hf:∀ env x,foldedSetIterable e env x=pure x):GOk S F q d Γ sc e c:=
 ⟨h,.plain h he,hs,hm,hf⟩
theorem zIf {ops:List CmpOp} {os:List P2} (h:ops.mapM xi=some os):All2 (fun op o=>xi op=some o) ops os:=by
 induction ops generalizing os with
 | nil=>simp at h; subst h; exact .nil
 | cons op ops ih =>
  simp only [List.mapM_cons] at h
  cases h1:xi op with
  | none=>first | (rw [h1] at h; exact zB h) | simp [h1] at h
  | some o =>
   cases h2:ops.mapM xi with
   | none=>first | (rw [h1,h2] at h; exact zB h) | (rw [h1,Option.bind_some,h2] at h; exact zB h) | simp [h1,h2] at h
   | some os' =>
    simp [h1,h2] at h
    subst h
    exact .cons h1 (ih h2)
structure Clean (C:Ctx):Prop where
 dbg:C.fns.lookup ("__debug__" : Str)=none
 isin:C.fns.lookup ("isinstance" : Str)=none
 rng:C.fns.lookup ("range" : Str)=none
theorem Clean.nd (cl:Clean C) {x:Str} {n:Nat} (h:C.fns.lookup x=some n):(x==("__debug__" : Str))=false:=by
 cases e:(x==("__debug__" : Str)) with
 | false=>rfl
 | true=>rw [eq_of_beq e,cl.dbg] at h; first | exact zB h | exact zF h | cases h
theorem zPW (fs:zZ S C T) {Γ:List Str} {sc:Scope} {x:Str} {pos:Pos} {c:CE} (h:zGw C Γ sc x=some c):GOk S F q d Γ sc (.Name x pos) c:=
 .of (zNX fs h) (fun _ _=>rfl) rfl (fun _=>rfl) fun _ _=>rfl
theorem wI {Γ:List Str} {sc:Scope} {f:Expr} {es:List Expr} {pos:Pos} {c:CE} (h:EOk S F q d Γ sc (.Call f es [] pos) c):GOk S F q d Γ sc (.Call f es [] pos) c:=
 .of h (fun _ _=>rfl) rfl (fun _=>rfl) fun _ _=>rfl
theorem zOB {Γ:List Str} {sc:Scope} {o i:Expr} {pos:Pos} {c:CE} (h:EOk S F q d Γ sc (.Subscript o i pos) c):GOk S F q d Γ sc (.Subscript o i pos) c:=
 .of h (fun _ _=>rfl) rfl (fun _=>rfl) fun _ _=>rfl
noncomputable def zQZ (S:zR) (F:Calls) (q:Bool) (d:Nat) (Γ:List Str) (sc:Scope) (ifs:List Expr) (cond:Option CE):Prop:=(ifs=[] /\ cond=none) \/ ∃ e c,ifs=[e] /\ cond=some c /\ TOk S F q d Γ sc e c
noncomputable def zQe (S:zR) (F:Calls) (q:Bool) (d:Nat) (Γ:List Str) (sc:Scope) (o:Option Expr) (c:Option CE):Prop:=(o=none /\ c=none) \/ ∃ e' c',o=some e' /\ c=some c' /\ EOk S F q d Γ sc e' c'
section
variable {rec:List Str->Scope->Expr->Option CE}
theorem zAz (hr:∀ Γ sc e c,rec Γ sc e=some c->GOk S F q d Γ sc e c) {Γ:List Str} {sc:Scope}:∀ {es:List Expr} {cs:List CE},cL rec Γ sc es=some cs->All2 (GOk S F q d Γ sc) es cs
 | [],cs,h=>by cases h; exact .nil
 | e :: es,cs,h=>by
  unfold cL at h
  split at h
  ·first | exact zB h | exact zF h | cases h
  ·replace h:=bind_some h
   obtain ⟨a,ha,h⟩:=h
   replace h:=map_some h
   obtain ⟨as,has,rfl⟩:=h
   exact .cons (hr Γ sc e a ha) (zAz hr has)
theorem zGx (hr:∀ Γ sc e c,rec Γ sc e=some c->GOk S F q d Γ sc e c) {Γ:List Str} {sc:Scope} {o:Option Expr} {c:Option CE} (h:zPF rec Γ sc o=some c):zQe S F q d Γ sc o c:=by
 cases o with
 | none=>cases h; exact .inl ⟨rfl,rfl⟩
 | some e =>
  replace h:(rec Γ sc e).map some=some c:=h
  replace h:=map_some h
  obtain ⟨a,ha,rfl⟩:=h
  exact .inr ⟨e,a,rfl,rfl,(hr Γ sc e a ha).eo⟩
theorem zPE (hr:∀ Γ sc e c,rec Γ sc e=some c->GOk S F q d Γ sc e c) {Γ:List Str} {sc:Scope} {o:List Expr} {c:Option CE} (h:cIf rec Γ sc o=some c):zQZ S F q d Γ sc o c:=by
 match o,h with
 | [],h=>cases h; exact .inl ⟨rfl,rfl⟩
 | [e],h =>
  replace h:(rec Γ sc e).map some=some c:=h
  replace h:=map_some h
  obtain ⟨a,ha,rfl⟩:=h
  exact .inr ⟨e,a,rfl,rfl,(hr Γ sc e a ha).to⟩
 | _ :: _ :: _,h=>cases h
theorem zIC {Γ:List Str} {sc:Scope} {k:Const} {n:Nat} {pos:Pos} {c:CE} (h:zKZ k=some c):GOk S F q d Γ sc (.Constant k n pos) c:=by
 cases k with
 | none=>cases h; exact .of zNY (fun _ _=>rfl) rfl (fun _=>rfl) fun _ _=>rfl
 | bool b=>cases h; exact .of zNT (fun _ _=>rfl) rfl (fun _=>rfl) fun _ _=>rfl
 | int i=>cases h; exact .of zPr (fun _ _=>rfl) rfl (fun _=>rfl) fun _ _=>rfl
 | str s =>
  replace h:(if s.length <= 1000&&PyData.strOk s then some (CE.lit (.str s)) else none)=some c:=h
  split at h
  ·rename_i hs; cases h; exact .of (zLw hs) (fun _ _=>rfl) rfl (fun _=>rfl) fun _ _=>rfl
  ·first | exact zB h | exact zF h | cases h
 | _=>first | exact zB h | exact zF h | cases h
theorem zMp (fs:zZ S C T) (hr:∀ Γ sc e c,rec Γ sc e=some c->GOk S F q d Γ sc e c) {Γ:List Str} {sc:Scope} {a:Expr} {ops:List CmpOp} {cs:List Expr} {pos:Pos} {c:CE} (h:zPB rec Γ sc a ops cs=some c):GOk S F q d Γ sc (.Compare a ops cs pos) c:=by
 unfold zPB at h
 split at h
 ·first | exact zB h | exact zF h | cases h
 rename_i hlen
 have hlen:ops.length=cs.length:=by simpa using hlen
 have gen:∀ {cs:List Expr},ops.length=cs.length->((ops.mapM xi).bind fun os=>(rec Γ sc a).bind fun x=>(cL rec Γ sc cs).map fun ys=>CE.chain x os ys)=some c->GOk S F q d Γ sc (.Compare a ops cs pos) c:=fun {cs} hlen h=>by
  replace h:=bind_some h
  obtain ⟨os,ho,h⟩:=h
  replace h:=bind_some h
  obtain ⟨x,hx,h⟩:=h
  replace h:=map_some h
  obtain ⟨ys,hy,rfl⟩:=h
  have g:=zLo (pos:=pos) fs (hr Γ sc a x hx).eo (zIf ho) (zAz hr hy) hlen
  exact ⟨g.1,g.2,rfl,fun _=>rfl,fun _ _=>rfl⟩
 rcases cs with _ | ⟨b,_ | ⟨b2,r⟩⟩
 ·exact gen hlen h
 ·rcases ops with _ | ⟨op,_ | ⟨op2,r⟩⟩
  ·cases hlen
  ·replace h:((xi op).bind fun o=>(rec Γ sc a).bind fun x=>(rec Γ sc b).map fun y=>CE.p2 o x y)=some c:=h
   replace h:=bind_some h
   obtain ⟨o,ho,h⟩:=h
   replace h:=bind_some h
   obtain ⟨x,hx,h⟩:=h
   replace h:=map_some h
   obtain ⟨y,hy,rfl⟩:=h
   have g2:=hr Γ sc _ y hy
   have g:=zPo (pos:=pos) fs ho (g2.marks _) (hr Γ sc a x hx).eo g2.eo
   exact ⟨g,.cmp1 (g2.marks _) g,rfl,fun _=>rfl,fun _ _=>rfl⟩
  ·cases hlen
 ·exact gen hlen h
theorem zGy (fs:zZ S C T) (cl:Clean C) (hr:∀ Γ sc e c,rec Γ sc e=some c->GOk S F q d Γ sc e c) {Γ:List Str} {sc:Scope} {e:Expr} {k:SK} {cs:List CE} (h:zKf rec Γ sc e=some (k,cs)):zAy S F q d Γ sc e k cs:=by
 have hv:Option.map (fun a=>(SK.val,[a])) (rec Γ sc e)=some (k,cs)->zAy S F q d Γ sc e k cs:=fun h=>by
  replace h:=map_some h
  obtain ⟨a,ha,e'⟩:=h
  cases e'
  exact zNe (hr Γ sc e a ha)
 unfold zKf at h
 split at h
 ·rename_i fn args kws hc
  obtain ⟨pc,rfl⟩:=callParts?_eq hc
  split at h
  ·rename_i f hn
   obtain ⟨p,rfl⟩:=nameOf?_eq hn
   split at h
   ·rename_i hf
    obtain rfl:=eq_of_beq hf
    split at h
    ·rename_i hg
     simp only [Bool.and_eq_true,List.isEmpty_iff] at hg
     obtain ⟨hg,rfl⟩:=hg
     replace h:=bind_some h
     obtain ⟨es,hes,h⟩:=h
     have ga:=zAz hr hes
     split at h
     ·cases h; exact zKC fs hg cl.rng ga (.inl ⟨rfl,rfl⟩)
     ·first | exact zB h | exact zF h | cases h
    ·first | exact zB h | exact zF h | cases h
   ·exact hv h
  ·exact hv h
 ·exact hv h
theorem zEX (fs:zZ S C T) (cl:Clean C) (hr:∀ Γ sc e c,rec Γ sc e=some c->GOk S F q d Γ sc e c) {Γ:List Str} {sc scope:Scope} {elt:Expr} {gens:List Comprehension} {c:CE} (h:zEW rec Γ sc elt gens scope=some c) :
  ∃ x px iter ifs ce cond k cs,gens=[⟨.Name x px,iter,ifs,0⟩] /\ vF Γ sc scope x /\ zAy S F q d Γ sc iter k cs /\ zQZ S F q d (Γ++[x]) scope ifs cond /\ EOk S F q d (Γ++[x]) scope elt ce /\ c=.comp ce k cs cond:=by
 unfold zEW at h
 split at h
 ·rename_i g
  obtain ⟨tgt,iter,ifs,n⟩:=g
  replace h:=bind_some h
  obtain ⟨x,hx,h⟩:=h
  obtain ⟨px,rfl⟩:=nameOf?_eq hx
  split at h
  ·first | exact zB h | exact zF h | cases h
  ·rename_i hok
   simp only [Bool.or_eq_true,not_or,Bool.not_eq_true,bne_eq_false_iff_eq,Bool.not_eq_false'] at hok
   obtain ⟨rfl,hok⟩:=hok
   replace h:=bind_some h
   obtain ⟨⟨k,cs⟩,h1,h⟩:=h
   replace h:=bind_some h
   obtain ⟨cond,h2,h⟩:=h
   replace h:=map_some h
   obtain ⟨ce,h3,rfl⟩:=h
   exact ⟨x,px,iter,ifs,ce,cond,k,cs,rfl,zIG hok,zGy fs cl hr h1,zPE hr h2,(hr _ scope elt ce h3).eo,rfl⟩
 ·first | exact zB h | exact zF h | cases h
theorem zMs (fs:zZ S C T) (hr:∀ Γ sc e c,rec Γ sc e=some c->GOk S F q d Γ sc e c) {Γ:List Str} {sc:Scope} {o i:Expr} {pos:Pos} {c:CE} (h:zPG C rec Γ sc o i pos=some c):GOk S F q d Γ sc (.Subscript o i pos) c:=by
 unfold zPG at h
 split at h
 ·rename_i lo hi hs
  obtain ⟨p,rfl⟩:=sliceParts?_eq hs
  replace h:=bind_some h
  obtain ⟨a,ha,h⟩:=h
  replace h:=bind_some h
  obtain ⟨l,hl,h⟩:=h
  replace h:=map_some h
  obtain ⟨u,hu,rfl⟩:=h
  exact zOB (kM (zLu (hr Γ sc o a ha).eo (zGx hr hl) (zGx hr hu)))
 ·replace h:=bind_some h
  obtain ⟨a,ha,h⟩:=h
  replace h:=map_some h
  obtain ⟨b,hb,rfl⟩:=h
  exact zOB (zLs fs (hr Γ sc o a ha).eo (hr Γ sc i b hb).eo)
theorem zID (hr:∀ Γ sc e c,rec Γ sc e=some c->GOk S F q d Γ sc e c) {Γ:List Str} {sc:Scope} {o:Expr} {m:Str} {apos pos:Pos} {args:List Expr} {c:CE} (h1:noSuper o=true) (h2:(apos.endLine==pos.line)=true) (h:zFr rec Γ sc o m args=some c):GOk S F q d Γ sc (.Call (.Attribute o m apos) args [] pos) c:=by
 unfold zFr at h
 split at h
 ·split at h
  ·first | exact zB h | exact zF h | cases h
  rename_i hx
  split at h
  ·rename_i hm
   replace h:=bind_some h
   obtain ⟨a,ha,h⟩:=h
   replace h:=map_some h
   obtain ⟨b,hb,rfl⟩:=h
   obtain rfl:=eq_of_beq hm
   exact wI (zJ2 h1 h2 (by simpa using hx) (hr Γ sc o a ha).eo (hr Γ sc _ b hb).eo)
  ·replace h:=bind_some h
   obtain ⟨p,hp,h⟩:=h
   replace h:=bind_some h
   obtain ⟨a,ha,h⟩:=h
   replace h:=map_some h
   obtain ⟨b,hb,rfl⟩:=h
   exact wI (zRg hp h1 h2 (by simpa using hx) (hr Γ sc o a ha).eo (hr Γ sc _ b hb).eo)
 ·
  split at h
  ·rename_i hm
   replace h:=map_some h
   obtain ⟨a,ha,rfl⟩:=h
   obtain rfl:=eq_of_beq hm
   exact wI (zPw h1 h2 (hr Γ sc o a ha).eo)
  exact zB h
 ·first | exact zB h | exact zF h | cases h
theorem zKd (fs:zZ S C T) (FSs:FS S F q d) (hr:∀ Γ sc e c,rec Γ sc e=some c->GOk S F q d Γ sc e c) {Γ:List Str} {sc:Scope} {o:Expr} {m:Str} {apos pos:Pos} {args:List Expr} {c:CE} (hlen:args.length <= 20) (h:zKc C rec Γ sc o m apos args pos=some c):GOk S F q d Γ sc (.Call (.Attribute o m apos) args [] pos) c:=by
 unfold zKc at h
 split at h
 ·first | exact zB h | exact zF h | cases h
 rename_i hc
 simp only [Bool.or_eq_true,not_or,Bool.not_eq_true,Bool.not_eq_false',bne_eq_false_iff_eq] at hc
 have h1:noSuper o=true:=by simpa using hc.1
 have h2:(apos.endLine==pos.line)=true:=by simpa using hc.2
 split at h
 ·rename_i n hn
  replace h:=bind_some h
  obtain ⟨a,ha,h⟩:=h
  replace h:=map_some h
  obtain ⟨es,hes,rfl⟩:=h
  exact wI (zLn fs FSs hn h1 h2 hlen (hr Γ sc o a ha).eo (zAz hr hes))
 exact zID hr h1 h2 h
theorem zMq (fs:zZ S C T) (FSs:FS S F q d) (cl:Clean C) (hr:∀ Γ sc e c,rec Γ sc e=some c->GOk S F q d Γ sc e c) {Γ:List Str} {sc:Scope} {f:Str} {args:List Expr} {p pos:Pos} {c:CE} (h:zPD C rec Γ sc f args pos=some c):GOk S F q d Γ sc (.Call (.Name f p) args [] pos) c:=by
 unfold zPD at h
 split at h
 ·first | exact zB h | exact zF h | cases h
 rename_i hg
 have hg:isGlob sc f=true:=by simpa using hg
 split at h
 ·rename_i hf
  obtain rfl:=eq_of_beq hf
  unfold zGv at h
  split at h
  ·split at h
   ·first | exact zB h | exact zF h | cases h
   rename_i hx
   replace h:=bind_some h
   obtain ⟨kn,hkn,h⟩:=h
   obtain ⟨pk,rfl⟩:=nameOf?_eq hkn
   split at h
   ·rename_i hgk
    split at h
    ·rename_i kd hk
     replace h:=map_some h
     obtain ⟨a,ha,rfl⟩:=h
     exact wI (zJ3 fs hg cl.isin hk hgk (by simpa using hx) (hr Γ sc _ a ha).eo)
    ·replace h:=bind_some h
     obtain ⟨kc,hkc,h⟩:=h
     replace h:=map_some h
     obtain ⟨a,ha,rfl⟩:=h
     exact wI (zFB fs hg cl.isin hkc (by simpa using hx) (hr Γ sc _ a ha).eo)
   ·first | exact zB h | exact zF h | cases h
  ·first | exact zB h | exact zF h | cases h
 ·replace h:=bind_some h
  obtain ⟨es,hes,h⟩:=h
  have ga:=zAz hr hes
  split at h
  ·rename_i n hn
   cases h
   exact wI (zNU fs FSs hg (cl.nd hn) hn ga)
  ·rename_i hn
   split at h
   ·rename_i hbk
    simp only [Bool.and_eq_true] at hbk
    obtain rfl:=eq_of_beq hbk.2
    split at h
    ·rename_i hem
     cases h
     have hnil:es=[]:=List.isEmpty_iff.mp hem
     subst hnil
     cases ga
     exact wI (zPt fs FSs hbk.1 hg)
    ·first | exact zB h | exact zF h | cases h
   split at h
   ·replace h:=map_some h
    obtain ⟨o,ho,h⟩:=h
    cases ga with
    | cons g1 gs =>
     cases gs
     split at h
     ·subst h; exact wI (kM (zOJ fs hg hn ho g1))
     ·subst h; exact wI (zOJ fs hg hn ho g1).eok
   ·replace h:=map_some h
    obtain ⟨o,ho,rfl⟩:=h
    cases ga with
    | cons g1 gs =>
     cases gs with
     | cons g2 gs =>
      cases gs
      exact wI (zRe fs hg hn ho g1.star g2.star g1.eo g2.eo)
   ·first | exact zB h | exact zF h | cases h
theorem zKY (fs:zZ S C T) (FSs:FS S F q d) (cl:Clean C) (hr:∀ Γ sc e c,rec Γ sc e=some c->GOk S F q d Γ sc e c) {Γ:List Str} {sc:Scope} {fn:Expr} {args:List Expr} {kws:List Keyword} {pos:Pos} {c:CE} (h:zKX C rec Γ sc fn args kws pos=some c):GOk S F q d Γ sc (.Call fn args kws pos) c:=by
 unfold zKX at h
 split at h
 ·first | exact zB h | exact zF h | cases h
 rename_i hk
 simp only [Bool.or_eq_true,not_or,Bool.not_eq_true,Bool.not_eq_false',List.isEmpty_iff] at hk
 obtain ⟨rfl,hk⟩:=hk
 split at h
 ·rename_i o m apos ha
  obtain rfl:=attrParts?_eq ha
  exact zKd fs FSs hr (by simpa using hk) h
 ·replace h:=bind_some h
  obtain ⟨f,hf,h⟩:=h
  obtain ⟨p,rfl⟩:=nameOf?_eq hf
  exact zMq fs FSs cl hr h
theorem zKa (fs:zZ S C T) (hr:∀ Γ sc e c,rec Γ sc e=some c->GOk S F q d Γ sc e c) {Γ:List Str} {sc:Scope} {ks:List (Option Expr)} {vs:List Expr} {pos:Pos} {c:CE} (h:zNv rec Γ sc ks vs=some c):GOk S F q d Γ sc (.Dict ks vs pos) c:=by
 cases vs with
 | nil =>
  cases ks with
  | nil=>cases h; exact .of (zLq fs) (fun _ _=>rfl) rfl (fun _=>rfl) fun _ _=>rfl
  | cons _ _=>first | exact zB h | exact zF h | cases h
 | cons v vs =>
  cases vs with
  | cons _ _=>first | exact zB h | exact zF h | cases h
  | nil =>
   match ks,h with
   | [],h=>cases h
   | _ :: _ :: _,h=>cases h
   | [none],h=>cases h
   | [some k],h =>
    replace h:((rec Γ sc k).bind fun a=>(rec Γ sc v).map fun b=>CE.dict1 a b)=some c:=h
    replace h:=bind_some h
    obtain ⟨a,ha,h⟩:=h
    replace h:=map_some h
    obtain ⟨b,hb,rfl⟩:=h
    exact .of (zLr fs (hr Γ sc _ a ha).eo (hr Γ sc _ b hb).eo) (fun _ _=>rfl) rfl (fun _=>rfl) fun _ _=>rfl
theorem zME (fs:zZ S C T) (FSs:FS S F q d) (cl:Clean C) (hr:∀ Γ sc e c,rec Γ sc e=some c->GOk S F q d Γ sc e c) {Γ:List Str} {sc:Scope} {e:Expr} {c:CE} (h:zOT C rec Γ sc e=some c):GOk S F q d Γ sc e c:=by
 cases e with
 | Constant k n pos=>exact zIC h
 | Name x pos=>exact zPW fs h
 | BoolOp op vs pos =>
  replace h:((cL rec Γ sc vs).bind fun es=>vI (op==.And) es)=some c:=h
  replace h:=bind_some h
  obtain ⟨es,h1,h2⟩:=h
  have:=zLm (pos:=pos) (zAz hr h1) h2
  exact ⟨this.1,this.2,rfl,fun _=>rfl,fun _ _=>rfl⟩
 | BinOp l op r pos =>
  replace h:((zCW op).bind fun o=>(rec Γ sc l).bind fun a=>(rec Γ sc r).map fun b=>vE C pos (.p2 o a b))=some c:=h
  replace h:=bind_some h
  obtain ⟨o,ho,h⟩:=h
  replace h:=bind_some h
  obtain ⟨a,ha,h⟩:=h
  replace h:=map_some h
  obtain ⟨b,hb,rfl⟩:=h
  exact .of (kM (zLl ho (hr Γ sc l a ha).eo (hr Γ sc r b hb).eo)) (fun _ _=>rfl) rfl (fun _=>rfl) fun _ _=>rfl
 | UnaryOp op x pos =>
  cases op with
  | Not =>
   replace h:(rec Γ sc x).map (.p1 .not)=some c:=h
   replace h:=map_some h
   obtain ⟨a,ha,rfl⟩:=h
   have g:=hr Γ sc x a ha
   exact ⟨zPv g.eo,g.to.not,rfl,fun _=>rfl,fun _ _=>rfl⟩
  | USub =>
   replace h:(rec Γ sc x).map (.p1 .neg)=some c:=h
   replace h:=map_some h
   obtain ⟨a,ha,rfl⟩:=h
   exact .of (zPs (hr Γ sc x a ha).eo) (fun _ _=>rfl) rfl (fun _=>rfl) fun _ _=>rfl
  | UAdd=>first | exact zB h | exact zF h | cases h
  | Invert=>first | exact zB h | exact zF h | cases h
 | Compare a ops cs pos=>exact zMp fs hr h
 | List es pos =>
  replace h:(if es.length <= 1000 then (cL rec Γ sc es).map fun es=>vE C pos (.list es) else none)=some c:=h
  split at h
  ·rename_i hl
   replace h:=map_some h
   obtain ⟨cs,h1,rfl⟩:=h
   exact .of (kM (zNW hl (zAz hr h1))) (fun _ _=>rfl) rfl (fun _=>rfl) fun _ _=>rfl
  ·first | exact zB h | exact zF h | cases h
 | Tuple es k pos =>
  replace h:(if es.length <= 1000 then (cL rec Γ sc es).map .tup else none)=some c:=h
  split at h
  ·rename_i hl
   replace h:=map_some h
   obtain ⟨cs,h1,rfl⟩:=h
   exact .of (zLx hl (zAz hr h1)) (fun _ _=>rfl) rfl (fun _=>rfl) fun _ _=>rfl
  ·first | exact zB h | exact zF h | cases h
 | ListComp elt gens scope pos =>
  replace h:((zEW rec Γ sc elt gens scope).map fun e=>vE C pos e)=some c:=h
  replace h:=map_some h
  obtain ⟨c',h',rfl⟩:=h
  obtain ⟨x,px,iter,ifs,ce,cond,k,cs,rfl,h1,h2,h3,h4,rfl⟩:=zEX fs cl hr h'
  exact .of (kM (zHX h1 h2 h3 h4)) (fun _ _=>rfl) rfl (fun _=>rfl) fun _ _=>rfl
 | Subscript o i pos=>exact zMs fs hr h
 | Call fn args kws pos=>exact zKY fs FSs cl hr h
 | Attribute o m pos =>
  replace h:((C.attrs.lookup m).bind fun k=>if noSuper o then (rec Γ sc o).map fun a=>.attr a k else none)=some c:=h
  replace h:=bind_some h
  obtain ⟨k,hk,h⟩:=h
  split at h
  ·rename_i hb
   replace h:=map_some h
   obtain ⟨a,ha,rfl⟩:=h
   exact .of (zNS fs hk hb (hr Γ sc o a ha).eo) (fun _ _=>rfl) rfl (fun _=>rfl) fun _ _=>rfl
  ·first | exact zB h | exact zF h | cases h
 | Dict ks vs pos =>
  exact zKa fs hr h
 | _=>first | exact zB h | exact zF h | cases h
end
theorem zEY (fs:zZ S C T) (FSs:FS S F q d) (cl:Clean C):∀ (n:Nat) (Γ:List Str) (sc:Scope) (e:Expr) (c:CE),cE C n Γ sc e=some c->GOk S F q d Γ sc e c
 | 0,_,_,_,_,h=>by cases h
 | n+1,Γ,sc,e,c,h=>zME fs FSs cl (zEY fs FSs cl n) h
theorem zIW {e:Expr} (h:isComp e=true):∃ a b c p,e=.ListComp a b c p:=by
 cases e with
 | ListComp=>exact ⟨_,_,_,_,rfl⟩
 | Constant k n p=>cases k <;> exact zF h
 | Slice l u st p=>cases st <;> exact zF h
 | _=>exact zF h
theorem wv {n:Nat} {Γ:List Str} {sc:Scope} {e:Expr} {c:CE} (h:cE C n Γ sc e=some c) (hc:isComp e=false):∀ env n t,swapsWith e t n env=pure false:=fun env _ t =>
 zMI hc (fun el gs sc p e'=>by subst e'; cases n <;> cases h) (fun k v gs sc p e'=>by subst e'; cases n <;> cases h)
section
variable {rec:Stmt->CS} {Γ:List Str} {sc:Scope}
theorem kP (hr:∀ s,SOk S F Fq q d Γ sc s (rec s)):∀ (ss:List Stmt),LSOk S F Fq q d Γ sc ss (ss.map rec)
 | []=>zPu
 | s :: ss=>zNV (hr s) (kP hr ss)
theorem zMo (fs:zZ S C T) (FSs:FS S F q d) (cl:Clean C) {t e:Expr} {pos:Pos} {c:CS} (h:zPA C Γ sc t e=some c):SOk S F Fq q d Γ sc (.Assign [t] e pos) c:=by
 have hE:=zEY (F:=F) (q:=q) (d:=d) fs FSs cl xT
 unfold zPA at h
 split at h
 ·rename_i x hx
  obtain ⟨px,rfl⟩:=nameOf?_eq hx
  replace h:=bind_some h
  obtain ⟨i,hi,h⟩:=h
  replace h:=map_some h
  obtain ⟨a,ha,rfl⟩:=h
  cases hc:isComp e with
  | false=>exact zPn hi (hE Γ sc _ a ha).eo (wv ha hc)
  | true =>
   obtain ⟨elt,gens,scope,p,rfl⟩:=zIW hc
   replace ha:((zEW (cE C 29) Γ sc elt gens scope).map fun e=>vE C p e)=some a:=ha
   replace ha:=map_some ha
   obtain ⟨c',h',rfl⟩:=ha
   obtain ⟨x,px,iter,ifs,ce,cond,k,cs,rfl,h1,h2,h3,h4,rfl⟩:=zEX fs cl (zEY fs FSs cl 29) h'
   refine zFA hi h1 h2 h3 h4 ?_
   unfold vE
   split
   ·exact .inr rfl
   ·exact .inl rfl
 ·split at h
  ·rename_i p hp
   obtain ⟨p',rfl⟩:=subParts?_eq hp
   split at h
   ·first | exact zB h | exact zF h | cases h
   ·rename_i hc
    replace h:=bind_some h
    obtain ⟨v,hv,h⟩:=h
    replace h:=bind_some h
    obtain ⟨a,ha,h⟩:=h
    replace h:=map_some h
    obtain ⟨b,hb,rfl⟩:=h
    exact zGJ (hE Γ sc _ a ha).eo (hE Γ sc _ b hb).eo (hE Γ sc _ v hv).eo (wv hv (by simpa using hc))
  ·unfold zNu at h
   split at h
   ·rename_i p hp
    obtain ⟨o,m,pa⟩:=p
    obtain rfl:=attrParts?_eq hp
    replace h:=bind_some h
    obtain ⟨k,hk,h⟩:=h
    split at h
    ·first | exact zB h | exact zF h | cases h
    ·rename_i hc
     replace h:=bind_some h
     obtain ⟨v,hv,h⟩:=h
     replace h:=map_some h
     obtain ⟨b,hb,rfl⟩:=h
     exact zGI fs hk (hE Γ sc _ b hb).eo (hE Γ sc _ v hv).eo (wv hv (by simpa using hc))
   cases h
theorem zKg (fs:zZ S C T) (FSs:FS S F q d) (cl:Clean C) {ss:List Stmt} {k:TK} {c:CE} (h:cTK C Γ sc ss=some (k,c)):(∃ b₀ bs,ss=b₀ :: bs) /\ TKOk S F q d Γ sc ss k c:=by
 have hE:=zEY (F:=F) (q:=q) (d:=d) fs FSs cl xT
 match ss,h with
 | [],h=>cases h
 | _ :: _ :: _ :: _,h=>cases h
 | [s,t],h =>
  refine ⟨⟨_,_,rfl⟩,?_⟩
  replace h:zQy C Γ sc t s=some (k,c):=h
  cases s with
  | Expr e pos =>
   replace h:(if isComp e=true then none else (cE C xT Γ sc e).bind fun a=>zQz C Γ sc a t)=some (k,c):=h
   by_cases hcm:isComp e=true
   ·rw [if_pos hcm] at h; exact zB h
   rw [if_neg hcm] at h
   replace h:=bind_some h
   obtain ⟨a,ha,h⟩:=h
   cases t with
   | Return v p2 =>
    cases v with
    | none=>exact zB h
    | some r =>
     replace h:=map_some h
     obtain ⟨b,hb,e'⟩:=h
     cases e'
     exact zNg (hE Γ sc _ _ ha).eo (wv ha (by simpa using hcm)) (hE Γ sc _ _ hb).eo
   | _=>exact zB h
  | _=>exact zB h
 | [s],h =>
  refine ⟨⟨_,_,rfl⟩,?_⟩
  replace h:zQx C Γ sc s=some (k,c):=h
  cases s with
  | Return v pos =>
   cases v with
   | none=>first | exact zB h | exact zF h | cases h
   | some e =>
    replace h:=map_some h
    obtain ⟨a,ha,e'⟩:=h
    cases e'
    exact zQF (hE Γ sc _ _ ha).eo
  | Assign ts e pos =>
   match ts,h with
   | [],h=>cases h
   | _ :: _ :: _,h=>cases h
   | [t],h =>
    replace h:(if isComp e=true then none else (nameOf? t).bind fun x=>(yx Γ sc x).bind fun i=>(cE C xT Γ sc e).map fun c=>(TK.asg i,c))=some (k,c):=h
    by_cases hcm:isComp e=true
    ·rw [if_pos hcm] at h; first | exact zB h | exact zF h | cases h
    rw [if_neg hcm] at h
    replace h:=bind_some h
    obtain ⟨x,hx,h⟩:=h
    replace h:=bind_some h
    obtain ⟨i,hi,h⟩:=h
    replace h:=map_some h
    obtain ⟨a,ha,e'⟩:=h
    cases e'
    obtain ⟨px,rfl⟩:=nameOf?_eq hx
    exact zQD hi (hE Γ sc _ _ ha).eo (wv ha (by simpa using hcm))
  | Expr e pos =>
   replace h:(if isComp e=true then none else (cE C xT Γ sc e).map fun c=>(TK.exp,c))=some (k,c):=h
   by_cases hcm:isComp e=true
   ·rw [if_pos hcm] at h; first | exact zB h | exact zF h | cases h
   rw [if_neg hcm] at h
   replace h:=map_some h
   obtain ⟨a,ha,e'⟩:=h
   cases e'
   exact zQE (hE Γ sc _ _ ha).eo (wv ha (by simpa using hcm))
  | _=>first | exact zB h | exact zF h | cases h
theorem zGu (fs:zZ S C T) (FSq:FS S Fq true d) (cl:Clean C):∀ {hs:List ExceptHandler} {cs:List Hd},zKb C Γ sc hs=some cs->All2 (zOd S C Fq d Γ sc) hs cs
 | [],cs,h=>by cases h; exact .nil
 | h₀ :: hs,cs,h=>by
  replace h:((cHd C Γ sc h₀).bind fun a=>(zKb C Γ sc hs).map fun as=>a :: as)=some cs:=h
  replace h:=bind_some h
  obtain ⟨a,ha,h⟩:=h
  replace h:=map_some h
  obtain ⟨as,has,rfl⟩:=h
  refine .cons ?_ (zGu fs FSq cl has)
  obtain ⟨t,n,body,pos⟩:=h₀
  cases t with
  | none=>exact zB ha
  | some t =>
   replace ha:=bind_some ha
   obtain ⟨x,hx,ha⟩:=ha
   replace ha:=bind_some ha
   obtain ⟨k,hk,ha⟩:=ha
   replace ha:=bind_some ha
   obtain ⟨as,has,ha⟩:=ha
   replace ha:=map_some ha
   obtain ⟨⟨tk,c⟩,hp,rfl⟩:=ha
   obtain ⟨px,rfl⟩:=nameOf?_eq hx
   obtain ⟨⟨b₀,bs,rfl⟩,ht⟩:=zKg fs FSq cl hp
   refine ⟨x,px,n,b₀,bs,pos,rfl,hk,?_,ht⟩
   cases n with
   | none=>cases has; exact .inl ⟨rfl,rfl⟩
   | some y =>
    replace has:(if sc.names.lookup y==some .local then (yx Γ sc y).map some else none)=some as:=has
    split at has
    ·rename_i hl
     replace has:=map_some has
     obtain ⟨i,hi,rfl⟩:=has
     exact .inr ⟨y,i,rfl,rfl,eq_of_beq hl,hi⟩
    ·first | exact zB has | exact zF has | cases has
theorem zIE (fs:zZ S C T) {e:Expr} {pos:Pos} {c:CS} (h:zKe C sc e=some c):SOk S F Fq q d Γ sc (.Raise (some e) none pos) c:=by
 replace h:=bind_some h
 obtain ⟨⟨fn,args,kws⟩,hc,h⟩:=h
 obtain ⟨cp,rfl⟩:=callParts?_eq hc
 clear hc
 match args,h with
 | [],h=>cases h
 | _ :: _ :: _,h=>cases h
 | [x],h =>
  have h2:(if kws.isEmpty then (strC? x).bind fun s=>(nameOf? fn).bind fun f=>if s.length <= 1000&&PyData.strOk s then (km C sc f).map .raise else none else none)=some c:=h
  by_cases hk0:kws.isEmpty=true
  ·rw [if_pos hk0] at h2
   replace h2:=bind_some h2
   obtain ⟨m,hm,h3⟩:=h2
   replace h3:=bind_some h3
   obtain ⟨f,hf,h4⟩:=h3
   obtain ⟨kk,kp,rfl⟩:=strC?_eq hm
   obtain ⟨px,rfl⟩:=nameOf?_eq hf
   obtain rfl:kws=[]:=List.isEmpty_iff.mp hk0
   by_cases hl:(m.length <= 1000&&PyData.strOk m)=true
   ·rw [if_pos hl] at h4
    replace h4:=map_some h4
    obtain ⟨k,hk,rfl⟩:=h4
    exact zLt fs hl hk
   ·rw [if_neg hl] at h4; first | exact zB h4 | exact zF h4 | cases h4
  ·rw [if_neg hk0] at h2; first | exact zB h2 | exact zF h2 | cases h2
theorem zMF (fs:zZ S C T) (FSs:FS S F q d) (FSq:FS S Fq true d) (cl:Clean C) (hr:∀ s,SOk S F Fq q d Γ sc s (rec s)) {s:Stmt} {c:CS} (h:zHh C Γ sc rec s=some c):SOk S F Fq q d Γ sc s c:=by
 have hE:=zEY (F:=F) (q:=q) (d:=d) fs FSs cl xT
 cases s with
 | Return v pos =>
  cases v with
  | none=>first | exact zB h | exact zF h | cases h
  | some e =>
   replace h:(cE C xT Γ sc e).map .ret=some c:=h
   replace h:=map_some h
   obtain ⟨a,ha,rfl⟩:=h
   exact zPx (hE Γ sc _ a ha).eo
 | Assign ts e pos =>
  match ts,h with
  | [],h=>cases h
  | [t],h=>exact zMo fs FSs cl h
  | _ :: _ :: _,h=>cases h
 | If t a b pos =>
  replace h:((cE C xT Γ sc t).map fun t=>CS.ite t (a.map rec) (b.map rec))=some c:=h
  replace h:=map_some h
  obtain ⟨t',ht,rfl⟩:=h
  exact zRf (hE Γ sc _ t' ht).to (kP hr a) (kP hr b)
 | For x iter body orelse pos =>
  cases orelse with
  | cons _ _=>first | exact zB h | exact zF h | cases h
  | nil =>
   replace h:((nameOf? x).bind fun x=>(yx Γ sc x).bind fun i=>(zKf (cE C xT) Γ sc iter).map fun s=>CS.for i s.1 s.2 (body.map rec))=some c:=h
   replace h:=bind_some h
   obtain ⟨xn,hx,h⟩:=h
   replace h:=bind_some h
   obtain ⟨i,hi,h⟩:=h
   replace h:=map_some h
   obtain ⟨⟨k,cs⟩,hs,rfl⟩:=h
   obtain ⟨px,rfl⟩:=nameOf?_eq hx
   exact zPq hi (zGy fs cl hE hs) (kP hr body)
 | While t body orelse pos =>
  cases orelse with
  | cons _ _=>first | exact zB h | exact zF h | cases h
  | nil =>
   replace h:((cE C xT Γ sc t).map fun t=>CS.while t (body.map rec))=some c:=h
   replace h:=map_some h
   obtain ⟨t',ht,rfl⟩:=h
   exact zLy (hE Γ sc _ t' ht).to (kP hr body)
 | Expr e pos =>
  replace h:(if isComp e then none else (cE C xT Γ sc e).map .exp)=some c:=h
  split at h
  ·first | exact zB h | exact zF h | cases h
  ·rename_i hc
   replace h:=map_some h
   obtain ⟨a,ha,rfl⟩:=h
   exact zPp (hE Γ sc _ a ha).eo (wv ha (by simpa using hc))
 | Pass pos=>cases h; exact zNZ
 | Raise e c' pos =>
  match e,c',h with
  | none,_,h=>cases h
  | some _,some _,h=>cases h
  | some e,none,h =>
   exact zIE fs h
 | Try body hs oe fb pos =>
  match hs,oe,fb,h with
  | h₀ :: hs,[],[],h =>
   replace h:((cTK C Γ sc body).bind fun p=>(zKb C Γ sc (h₀ :: hs)).map fun hs=>CS.try p.1 p.2 hs)=some c:=h
   replace h:=bind_some h
   obtain ⟨⟨k,ce⟩,hb,h⟩:=h
   replace h:=map_some h
   obtain ⟨cs,hcs,rfl⟩:=h
   obtain ⟨⟨b₀,bs,rfl⟩,ht⟩:=zKg fs FSs cl hb
   exact zPy fs ht (zGu fs FSq cl hcs)
  | [],_,_,h=>cases h
  | _ :: _,_ :: _,_,h=>cases h
  | _ :: _,[],_ :: _,h=>cases h
 | _=>first | exact zB h | exact zF h | cases h
end
theorem zNw (fs:zZ S C T) (FSs:FS S F q d) (FSq:FS S Fq true d) (cl:Clean C) {Γ:List Str} {sc:Scope}:∀ (n:Nat) (s:Stmt),SOk S F Fq q d Γ sc s (cS C Γ sc n s)
 | 0,_=>zFC
 | n+1,s=>by
  show SOk S F Fq q d Γ sc s ((zHh C Γ sc (cS C Γ sc n) s).getD .stuck)
  cases h:zHh C Γ sc (cS C Γ sc n) s with
  | none=>exact zFC
  | some c=>exact zMF fs FSs FSq cl (zNw fs FSs FSq cl n) h
theorem sSL (fs:zZ S C T) (FSs:FS S F q d) (FSq:FS S Fq true d) (cl:Clean C) (Γ:List Str) (sc:Scope) (ss:List Stmt):LSOk S F Fq q d Γ sc ss (cSL C Γ sc ss):=kP (zNw fs FSs FSq cl xT) ss
end
end Mine
end

section
namespace Mine
open PySem PyProof.Rows
inductive zFl (S:zR) (C:Ctx) (k:Nat) (fn:Fn):Prop where
 | mk (o:Obj) (fd:FuncData) (body:List Stmt) (ps:List Str) (ho:S.hb.get? (S.fn k)=some o) (hdata:o.data=.func fd) (hbody:fd.body=.stmts body) (hclo:fd.closure=[]) (hglob:fd.globals=mainGlobals) (hblt:fd.builtins=builtinsNs)
   (hcode:S.hb.CodeRec fd.code fd.qualname) (hco:fd.scope.isCoroutine=false) (hgen:fd.scope.isGenerator=false) (hkf:fd.scope.kind=.function)
   (hbind:∀ vals:List Value,vals.length=ps.length->bindArgs fd ⟨vals,[]⟩=pure (ps.zip vals)) (hnd:ps.Nodup) (hpk:∀ p ∈ ps,fd.scope.names.lookup p=some .local \/ fd.scope.names.lookup p=some .cell)
   (hfree:∀ p ∈ fd.scope.names,p.2 ≠ .free) (hnn:(fd.scope.names.map (·.1)).Nodup) (hpar:fn.params=ps.length) (hslots:fn.slots=(wA ps fd.scope).length) (hcomp:cSL C (wA ps fd.scope) fd.scope body=fn.body)
theorem zBc {kindOf:Str->Option NameKind} {x:Str}:∀ (b:List (Str × Value)) (m:Str->Option Value),(∀ p ∈ b,p.1 ≠ x)->bindL kindOf b m x=m x
 | [],m,_=>rfl
 | (n,v) :: r,m,h=>by
  rw [bindL,zBc r _ fun p hp=>h p (List.mem_cons_of_mem _ hp)]
  have:x ≠ n:=fun e=>h (n,v) List.mem_cons_self e.symm
  split
  ·simp [this]
  ·rfl
theorem zBb {kindOf:Str->Option NameKind} {x:Str}:∀ (b:List (Str × Value)) (m:Str->Option Value),(∀ p ∈ b,p.1 ≠ x)->bindC kindOf b m x=m x
 | [],m,_=>rfl
 | (n,v) :: r,m,h=>by
  rw [bindC,zBb r _ fun p hp=>h p (List.mem_cons_of_mem _ hp)]
  have:x ≠ n:=fun e=>h (n,v) List.mem_cons_self e.symm
  split
  ·rfl
  ·simp [this]
theorem zAx {ps:List Str} {vs:List Value} {p:Str × Value} (h:p ∈ ps.zip vs):p.1 ∈ ps:=(List.of_mem_zip h).1
theorem zEU {kindOf:Str->Option NameKind} {x:Str} {w:Value} (hk:kindOf x=some .local):∀ (ps:List Str) (vs:List Value) (i:Nat) (m:Str->Option Value),ps.Nodup->ps[i]?=some x->vs[i]?=some w->bindL kindOf (ps.zip vs) m x=some w
 | [],_,i,_,_,h,_=>by simp at h
 | p :: ps,[],i,_,_,_,h=>by simp at h
 | p :: ps,v :: vs,0,m,hn,h1,h2=>by
  obtain rfl:p=x:=by simpa using h1
  obtain rfl:v=w:=by simpa using h2
  rw [List.zip_cons_cons,bindL,zBc (x:=p) _ _ fun q hq e=>(List.nodup_cons.mp hn).1 (e ▸ zAx hq),if_pos hk]
  simp
 | p :: ps,v :: vs,i+1,m,hn,h1,h2=>by
  rw [List.zip_cons_cons,bindL]
  exact zEU hk ps vs i _ (List.nodup_cons.mp hn).2 (by simpa using h1) (by simpa using h2)
theorem zET {kindOf:Str->Option NameKind} {x:Str} {w:Value} (hk:kindOf x ≠ some .local):∀ (ps:List Str) (vs:List Value) (i:Nat) (m:Str->Option Value),ps.Nodup->ps[i]?=some x->vs[i]?=some w->bindC kindOf (ps.zip vs) m x=some w
 | [],_,i,_,_,h,_=>by simp at h
 | p :: ps,[],i,_,_,_,h=>by simp at h
 | p :: ps,v :: vs,0,m,hn,h1,h2=>by
  obtain rfl:p=x:=by simpa using h1
  obtain rfl:v=w:=by simpa using h2
  rw [List.zip_cons_cons,bindC,zBb (x:=p) _ _ fun q hq e=>(List.nodup_cons.mp hn).1 (e ▸ zAx hq),if_neg hk]
  simp
 | p :: ps,v :: vs,i+1,m,hn,h1,h2=>by
  rw [List.zip_cons_cons,bindC]
  exact zET hk ps vs i _ (List.nodup_cons.mp hn).2 (by simpa using h1) (by simpa using h2)
theorem wZ {x:Str}:∀ (names:List (Str × NameKind)) (n:Nat) (acc:List (Str × Addr)),(acc.lookup x).isSome=true->((cellsFrom n names acc).lookup x).isSome=true
 | [],_,_,h=>h
 | (y,k) :: r,n,acc,h=>by
  unfold cellsFrom
  split
  ·refine wZ r _ _ ?_
   rw [List.lookup_cons]
   split
   ·rfl
   ·exact h
  ·exact wZ r _ _ h
theorem yo {x:Str}:∀ (names:List (Str × NameKind)) (n:Nat) (acc:List (Str × Addr)),(x,NameKind.cell) ∈ names->((cellsFrom n names acc).lookup x).isSome=true
 | [],_,_,h=>nomatch h
 | (y,k) :: r,n,acc,h=>by
  unfold cellsFrom
  rcases List.mem_cons.mp h with e | h
  ·cases e
   rw [if_pos (by rfl)]
   exact wZ r _ _ (by rw [List.lookup_cons]; simp)
  ·split
   ·exact yo r _ _ h
   ·exact yo r _ _ h
theorem xp:∀ (names:List (Str × NameKind)) (n:Nat) (acc:List (Str × Addr)),(names.map (·.1)).Nodup->(acc.map (·.1)).Nodup->(∀ x ∈ acc.map (·.1),x ∉ names.map (·.1))->((cellsFrom n names acc).map (·.1)).Nodup
 | [],_,_,_,h,_=>h
 | (y,k) :: r,n,acc,h1,h2,h3=>by
  have h1':=List.nodup_cons.mp h1
  unfold cellsFrom
  split
  ·refine xp r _ _ h1'.2 (List.nodup_cons.mpr ⟨fun h=>h3 _ h List.mem_cons_self,h2⟩) fun x hx=>?_
   rcases List.mem_cons.mp hx with rfl | hx
   ·exact h1'.1
   ·exact fun h=>h3 x hx (List.mem_cons_of_mem _ h)
  ·exact xp r _ _ h1'.2 h2 fun x hx h=>h3 x hx (List.mem_cons_of_mem _ h)
theorem kt {β:Type}:∀ {l:List (Str × β)} {p:Str × β},(l.map (·.1)).Nodup->p ∈ l->l.lookup p.1=some p.2
 | (y,v) :: r,p,hn,h=>by
  have hn':=List.nodup_cons.mp hn
  rw [List.lookup_cons]
  rcases List.mem_cons.mp h with rfl | h
  ·simp
  ·have:(p.1==y)=false:=by
    cases e:(p.1==y) with
    | false=>rfl
    | true=>exact (hn'.1 (eq_of_beq e ▸ List.mem_map_of_mem (f:=(·.1)) h)).elim
   rw [this]
   exact kt hn'.2 h
section
variable {S:zR} {C:Ctx} {T:Nat->Option Fn}
theorem zSJ {a d:Nat} (h:a+2 * (d+1)+2 <= 900):a+1+2 * d+3 <= 900:=Nat.le_trans (Nat.le_of_eq (congrArg (· + 3) (Nat.add_right_comm a 1 (2 * d)))) h
theorem zSK {a d:Nat} (h:a+5 * (d+1)+200 <= 9900):a+3+5 * d+202 <= 9900:=Nat.le_trans (Nat.le_of_eq (by rw [Nat.add_right_comm a 3 (5 * d),Nat.mul_succ,<- Nat.add_assoc,Nat.add_assoc (a+5 * d) 3 202,Nat.add_assoc (a+5 * d) 5 200])) h
theorem zIT {A A':Around} {X X':List Addr} {f:List Loc} {h h':Heap} (n:HnX A X f h) (hA:A'.handled=A.handled) (hk:∀ a o,h.get? a=some o->h'.get? a=some o) (hX:∀ a ∈ X',a ∈ X \/ h.get? a=none):HnX A' X' f h':=fun v hv=>by
 obtain ⟨a,o,fs,e,h1,h2,h3,r⟩:=n v (hA ▸ hv)
 exact ⟨a,o,fs,e,fun m=>(hX a m).elim h1 fun q=>(by rw [h3] at q; cases q),h2,hk a o h3,r⟩
theorem jB (fs:zZ S C T) (cl:Clean C) (fa:∀ k fn,T k=some fn->zFl S C k fn):∀ (d:Nat) (q:Bool),FS S (zA T d q) q d
 | 0,q=>fun k vs U f X A s vals cx L rs hne=>(hne (by rfl)).elim
 | d+1,q=>fun k vs U f X A s vals cx L rs hne=>by
  have ih:=jB fs cl fa d q
  have ihq:=jB fs cl fa d true
  rw [vH] at hne ⊢
  cases hT:T k with
  | none=>rw [hT] at hne; exact (hne rfl).elim
  | some fn =>
   rw [hT] at hne
   simp only at hne ⊢
   by_cases hlen:vs.length=fn.params
   case neg=>rw [if_neg hlen] at hne; exact (hne rfl).elim
   rw [if_pos hlen] at hne ⊢
   obtain ⟨o,fd,body,ps,ho,hdata,hbody,hclo,hglob,hblt,hcode,hco,hgen,hkf,hbind,hnd,hpk,hfree,hnn,hpar,hslots,hcomp⟩:=fa k fn hT
   have LS:LSOk S (zA T d q) (zA T d true) q d (wA ps fd.scope) fd.scope body fn.body:=hcomp ▸ sSL fs ih ihq cl _ _ _
   refine ⟨⟨o,fd,ho,hdata⟩,?_⟩
   have hvl:vals.length=ps.length:=by rw [<- wD rs,hlen,hpar]
   refine codeAny_call_cells (Nat.lt_of_le_of_lt (Nat.le_trans (Nat.le_trans (Nat.le_add_right _ _) (Nat.le_add_right _ _)) cx.depth) (by decide)) (L.base _ _ ho) hdata (by obtain ⟨mc,h1,h2⟩:=fs.nolimit; exact ⟨mc,L.ns h1,h2⟩)
    (by obtain ⟨c,o,vs,t,e1,e2,e3⟩:=hcode; exact ⟨c,o,vs,t,e1,L.base _ _ e2,e3⟩) hbody (hbind vals hvl) hclo
    (fun x hx=>(hpk x.1 (zAx hx)).imp id fun h=>⟨h,yo _ _ _ (zS h)⟩) (fun s₁ ic=>?_) hco hgen hkf
   generalize henv:callEnvC fd s.heap.objs.size (S.fn k)=env at ic ⊢
   have e_loc:env.locals=s.heap.objs.size:=by rw [<- henv]; rfl
   have e_cells:env.cells=cellsFrom (s.heap.objs.size+1) fd.scope.names []:=by rw [<- henv]; rfl
   have e_kind:∀ x,env.kindOf x=fd.scope.names.lookup x:=fun x=>by rw [<- henv]; rfl
   have e_scope:env.scope=fd.scope:=by rw [<- henv]; rfl
   have e_glob:env.globals=mainGlobals:=by rw [<- henv]; exact hglob
   have e_blt:env.builtins=builtinsNs:=by rw [<- henv]; exact hblt
   have e_frame:env.frame=some s.heap.objs.size:=by rw [<- henv]; rfl
   have hkeep:=ic.toInCall.keep
   have hnew:∀ a,s.heap.objs.size <= a->s.heap.get? a=none:=fun a ha=>by
    cases e:s.heap.get? a with
    | none=>rfl
    | some o=>exact absurd (Heap.lt_size e) (Nat.not_lt.mpr ha)
   have hN:∀ a ∈ ya env,s.heap.get? a=none /\ ∃ o,s₁.heap.get? a=some o:=fun a ha=>by
    rcases List.mem_cons.mp ha with rfl | ha
    ·refine ⟨hnew _ (by rw [e_loc]; exact Nat.le_refl _),?_⟩
     obtain ⟨o,_,_,ho,_⟩:=ic.toInCall.ns
     exact ⟨o,ho⟩
    ·obtain ⟨p,hp,rfl⟩:=List.mem_map.mp ha
     have hlo:=ic.above p.1 p.2 hp
     refine ⟨hnew _ (Nat.le_of_lt (e_loc ▸ hlo)),?_⟩
     have hlk:env.cells.lookup p.1=some p.2:=kt (by rw [e_cells]; exact xp _ _ _ hnn .nil fun _ h=>nomatch h) hp
     obtain ⟨o,ho,_⟩:=ic.cell p.1 p.2 hlk
     exact ⟨o,ho⟩
   have L':Lk S (ya env++X) f U s₁.heap:=L.enter hkeep hN
   have rs':VRs S (ya env++X) f s₁.heap vs vals:=
    VRs.keep (fun _ _ e=>e) (fun a o ho h1 h2=>⟨⟨h1,fun h=>(List.mem_append.mp h).elim (fun h=>by rw [(hN a h).1] at ho; cases ho) h2⟩,o,hkeep a o ho,.refl o⟩) _ _ rs
   have hcx:Cx S (A.deeper env) q d f s₁.heap env.frame:=by
    obtain ⟨l,h1,h2⟩:=cx.frs
    refine ⟨zSJ cx.depth,zSK cx.units,cx.hand,env,l,by show A.frames.map (env :: ·)=_; rw [h1]; rfl,rfl,fun e he=>?_⟩
    rcases List.mem_cons.mp he with rfl | he
    ·obtain ⟨o,es,n,ho,hd,_⟩:=ic.toInCall.ns
     have hl:=L'.hid e.locals (List.mem_append_left _ List.mem_cons_self)
     exact ⟨by rw [e_scope,hkf]; simp,e.locals,o,es,n,by rw [e_frame,e_loc],hl.1,hl.2.1,ho,hd⟩
    ·obtain ⟨h3,L1,o,es,n,h4,h5,h6,h7,h8⟩:=h2 e he
     exact ⟨h3,L1,o,es,n,h4,h5,h6,hkeep _ _ h7,h8⟩
   have hfr:FR S (ya env++X) f s₁.heap env (wA ps fd.scope) fd.scope (vs++List.replicate (fn.slots - fn.params) .undef):=by
    refine ⟨by rw [e_scope,hkf],e_glob,e_blt,fun x=>.inl (e_kind x),⟨List.mem_append_left _ List.mem_cons_self,_,ic.toInCall.ns⟩,fun x hx=>?_,fun x i v h1 h2 h3 h4=>?_,?_⟩
    ·have hc:fd.scope.names.lookup x=some .cell:=by
      rcases hx with h | h
      ·rw [<- e_kind]; exact h
      ·rw [e_kind] at h; exact absurd rfl (hfree _ (zS h))
     have:=yo (x:=x) fd.scope.names (s.heap.objs.size+1) [] (zS hc)
     rw [<- e_cells] at this
     obtain ⟨c,hcl⟩:=Option.isSome_iff_exists.mp this
     exact ⟨c,_,hcl,List.mem_append_left _ (List.mem_cons_of_mem _ (zBz hcl)),ic.cell x c hcl⟩
    ·have hi:i < vs.length:=by
      cases hlt:decide (i < vs.length) with
      | true=>exact of_decide_eq_true hlt
      | false =>
       have hge:vs.length <= i:=Nat.le_of_not_lt (of_decide_eq_false hlt)
       rw [List.getElem?_append_right hge] at h3
       have:=List.eq_of_mem_replicate (List.mem_of_getElem? h3)
       exact (h4 this).elim
     rw [List.getElem?_append_left hi] at h3
     obtain ⟨w,hw,r⟩:=wp rs' h3
     have hx:ps[i]?=some x:=by
      have:=wS h2
      unfold wA at this
      rwa [List.getElem?_append_left (by rw [<- hpar,<- hlen]; exact hi)] at this
     refine ⟨w,?_,r⟩
     rcases hpk x (List.mem_of_getElem? hx) with h | h
     ·exact .inl ⟨by rw [e_kind,h],_,ic.toInCall.ns,zEU (by rw [e_kind,h]) ps vals i _ hnd hx hw⟩
     ·have:=yo (x:=x) fd.scope.names (s.heap.objs.size+1) [] (zS h)
      rw [<- e_cells] at this
      obtain ⟨c,hcl⟩:=Option.isSome_iff_exists.mp this
      refine .inr ⟨.inl (by rw [e_kind,h]),c,hcl,?_⟩
      have:=ic.cell x c hcl
      rwa [zET (by rw [e_kind,h]; simp) ps vals i _ hnd hx hw] at this
    ·have:(wA ps fd.scope).length=ps.length+((fd.scope.names.filter fun p=>(p.2==.local||p.2==.cell)&&!ps.contains p.1).map (·.1)).length:=by rw [wA,List.length_append]
     rw [List.length_append,List.length_replicate,hlen,hslots,hpar,this]
     exact Nat.add_sub_of_le (Nat.le_add_right _ _)
   have hfw:FW env (ya env++X):=by
    refine ⟨List.mem_append_left _ List.mem_cons_self,fun p hp=>List.mem_append_left _ (List.mem_cons_of_mem _ (List.mem_map_of_mem hp)),fun x y c h1 h2=>?_⟩
    exact name_of_addr ic.apart (mem_of_lookup h1) (mem_of_lookup h2)
   have hne':exL (zA T d q) (zA T d true) q fn.body (vs++List.replicate (fn.slots - fn.params) .undef) U ≠ .stuck:=fun e=>hne (by rw [e]; rfl)
   refine wpAny_mono (LS env _ f (ya env++X) U s₁ (A.deeper env) ⟨hcx,hfr,L',zIT (A':=A.deeper env) cx.hn rfl hkeep fun a ha=>(List.mem_append.mp ha).elim (fun h=>.inr (hN a h).1) .inl⟩ hfw hne') (fun fl s' hq=>?_) fun e s' he=>?_
   ·obtain ⟨x,U',g,er,hg,kp,Lk',hfl⟩:=hq
    rw [er] at hne ⊢
    have hg0:Fresh g s:=fun a ha=>zu (fun a o e=>⟨o,hkeep a o e⟩) (hg a ha)
    have kp0:Kp f [] s s':=by
     obtain ⟨h0,tk,e0⟩:=ic.toInCall.same
     refine ⟨by rw [kp.rest,e0],fun a o e=>kp.live a o (hkeep a o e),fun a o e h1 _=>kp.kept a o (hkeep a o e) h1 fun h=>(by rw [(hN a h).1] at e; cases e),fun a o es n e hd h1=>kp.dicts a o es n (hkeep a o e) hd h1⟩
    have Lk0:Lk S X (f++g) U' s'.heap:=Lk'.less fun a ha=>List.mem_append_right _ ha
    cases x with
    | ret v =>
     obtain ⟨w,rfl,r⟩:=hfl
     exact ⟨v,U',g,rfl,hg0,kp0,Lk0,r.less fun a ha=>List.mem_append_right _ ha⟩
    | next J' =>
     obtain ⟨rfl,-⟩:=hfl
     exact ⟨.none,U',g,rfl,hg0,kp0,Lk0,rfl⟩
   ·obtain ⟨c,U',g,ea,rfl,e2,hg,kp,Lk',x⟩:=he
    rw [e2] at hne ⊢
    obtain ⟨en,l,h1,h2,h3⟩:=(hcx.keep kp hg).frs
    obtain ⟨_,L1,_,_,_,h4,_⟩:=h3 en List.mem_cons_self
    have hX:∀ a ∈ ya env++X,∃ o,s₁.heap.get? a=some o:=fun a ha=>(L'.hid a ha).2.2
    unfold leaving
    rw [ww (env':=en) h2]
    refine wpAny_bind (zB4 h1 h3 h4 x hX kp fun h' kp1 L'' x'=>?_)
    refine ⟨c,U',g,ea,rfl,rfl,fun a ha=>zu (fun a o e=>⟨o,hkeep a o e⟩) (hg a ha),?_,L''.less fun a ha=>List.mem_append_right _ ha,(x'.less fun a ha=>List.mem_append_right _ ha).back fun a h=>zu (fun a o e=>⟨o,hkeep a o e⟩) h⟩
    obtain ⟨h0,tk,e0⟩:=ic.toInCall.same
    exact ⟨by rw [kp1.rest,e0],fun a o e=>kp1.live a o (hkeep a o e),fun a o e h1 _=>kp1.kept a o (hkeep a o e) h1 fun h=>(by rw [(hN a h).1] at e; cases e),fun a o es n e hd h1=>kp1.dicts a o es n (hkeep a o e) hd h1⟩
end
end Mine
end

section
namespace Mine
open PySem PySem.W PyProof.Rows
noncomputable def zAr (a:Arguments):Bool:=a.posonlyargs.isEmpty&&a.vararg.isNone&&a.kwonlyargs.isEmpty&&a.kw_defaults.isEmpty&&a.kwarg.isNone&&a.defaults.isEmpty
noncomputable def zGR (params:Arguments) (scope:Scope):Bool:=zAr params&&!scope.isCoroutine&&!scope.isGenerator&&scope.kind==.function&&decide (params.args.map (·.arg)).Nodup&&((params.args.map (·.arg)).all fun p=>scope.names.lookup p==some .local||scope.names.lookup p==some .cell)
&&!scope.names.any (fun p=>p.2==.free)&&decide (scope.names.map (·.1)).Nodup
noncomputable def zHd (C:Ctx) (params:Arguments) (body:List Stmt) (scope:Scope):Option Fn:=
 if zGR params scope then some ⟨(params.args.map (·.arg)).length,(wA (params.args.map (·.arg)) scope).length,cSL C (wA (params.args.map (·.arg)) scope) scope body⟩ else none
noncomputable def zRn (C:Ctx) (ds:List DefRec):Option (List (Nat × Fn)):=ds.mapM fun d=>(C.fns.lookup d.name).bind fun k=>(zHd C d.params d.body d.scope).map fun f=>(k,f)
noncomputable def zRo (C:Ctx) (ms:List MethRec):Option (List (Nat × Fn)):=ms.mapM fun d=>(C.meths.lookup d.name).bind fun k=>(zHd C d.params d.body d.scope).map fun f=>(k,f)
theorem zBy {α β:Type} {g:α->Option β}:∀ {l:List α} {r:List β} {b:β},l.mapM g=some r->b ∈ r->∃ a ∈ l,g a=some b
 | [],r,b,h,hb=>by simp at h; subst h; cases hb
 | a :: l,r,b,h,hb=>by
  rw [List.mapM_cons] at h
  cases h1:g a with
  | none=>first | (rw [h1] at h; exact zB h) | simp [h1] at h
  | some x =>
   cases h2:l.mapM g with
   | none=>first | (rw [h1,h2] at h; exact zB h) | (rw [h1,Option.bind_some,h2] at h; exact zB h) | simp [h1,h2] at h
   | some xs =>
    simp [h1,h2] at h
    subst h
    rcases List.mem_cons.mp hb with rfl | hb
    ·exact ⟨a,List.mem_cons_self,h1⟩
    ·obtain ⟨a',h3,h4⟩:=zBy h2 hb
     exact ⟨a',List.mem_cons_of_mem _ h3,h4⟩
theorem zA3 {β:Type} {k:Nat} {y:β}:∀ {l:List (Nat × β)},l.lookup k=some y->(k,y) ∈ l
 | (k',y') :: l,h=>by
  rw [List.lookup_cons] at h
  split at h
  ·rename_i e; cases h; rw [eq_of_beq e]; exact List.mem_cons_self
  ·exact List.mem_cons_of_mem _ (zA3 h)
noncomputable def zFG:Option Value->Addr
 | some (.ref a)=>a
 | _=>0
noncomputable def xq (C:Ctx) (mg mN:Str->Option Value) (k:Nat):Addr:=match C.fns.find? (fun p=>p.2==k) with
 | some p=>zFG (mg p.1)
 | none=>(match C.meths.find? (fun p=>p.2==k) with
  | some p=>zFG (mN p.1)
  | none=>0)
theorem zCM {β:Type}:∀ {ps:List Str} {vs:List β} {n:Str},n ∈ ps->vs.length=ps.length->∃ v,(ps.zip vs).lookup n=some v
 | p :: ps,[],n,_,h=>by simp at h
 | p :: ps,v :: vs,n,hn,h=>by
  rw [List.zip_cons_cons,List.lookup_cons]
  split
  ·exact ⟨v,rfl⟩
  ·rename_i e
   rcases List.mem_cons.mp hn with rfl | hn
   ·simp at e
   ·exact zCM hn (by simpa using h)
theorem zFk {β:Type}:∀ {ps:List Str} {vs:List β},ps.Nodup->vs.length=ps.length->(ps.filterMap fun n=>((ps.zip vs).lookup n).map (n,·))=ps.zip vs
 | [],vs,_,_=>by simp
 | p :: ps,[],_,h=>by simp at h
 | p :: ps,v :: vs,hn,h=>by
  have hn':=List.nodup_cons.mp hn
  rw [List.zip_cons_cons,List.filterMap_cons]
  simp only [List.lookup_cons,beq_self_eq_true,Option.map_some]
  have key:∀ l:List Str,(∀ n ∈ l,n ≠ p)->(l.filterMap fun n=>(match n==p with | true=>some v | false=>(ps.zip vs).lookup n).map (n,·))=l.filterMap fun n=>((ps.zip vs).lookup n).map (n,·):=by
   intro l hl
   induction l with
   | nil=>rfl
   | cons n l ih =>
    have hne:(n==p)=false:=by simpa using hl n List.mem_cons_self
    rw [List.filterMap_cons,List.filterMap_cons,ih fun n hm=>hl n (List.mem_cons_of_mem _ hm),hne]
  exact congrArg _ ((key ps fun n hm e=>hn'.1 (e ▸ hm)).trans (zFk hn'.2 (by simpa using h)))
noncomputable def zNM (n:Nat):List Value:=List.drop (([]:List Value).length - n) []
theorem zHU (n:Nat):zNM n=[]:=List.drop_nil
theorem zMl {fd:FuncData} {as:List Arg} {ps:List Str} {vals:List Value} (hp:fd.params=⟨[],as,none,[],[],none,[]⟩) (h1:fd.defaults=.none) (h2:fd.kwdefaults=.none) (hps:as.map (·.arg)=ps) (hgt:¬ ((decide (vals.length > ps.length)&&true)=true))
  (hm:¬ ((!(List.filter (fun n=>((ps.zip vals).lookup n).isNone) (List.take (ps.length - (zNM ps.length).length) ps)).isEmpty)=true))
  (hz:(ps.drop (ps.length - (zNM ps.length).length)).zip (zNM ps.length)=[]) {r:List (Str × Value)} (hr:(ps++[]).filterMap (fun n=>((ps.zip vals).lookup n).map (n,·))=r) :
  bindArgs fd ⟨vals,[]⟩=pure r:=by
 cases hps
 cases fd
 cases hp
 cases h1
 cases h2
 refine (if_neg hgt).trans ((if_neg hm).trans ?_)
 exact Eq.trans (congrArg (fun l=>(forIn l _ _:Sem _) >>= _) hz) (congrArg (fun x=>(pure x:Sem (List (Str × Value)))) hr)
theorem zKV {fd:FuncData} {as:List Arg} (hp:fd.params=⟨[],as,none,[],[],none,[]⟩) (h1:fd.defaults=.none) (h2:fd.kwdefaults=.none) (hn:(as.map (·.arg)).Nodup) (vals:List Value) (hl:vals.length=(as.map (·.arg)).length) :
  bindArgs fd ⟨vals,[]⟩=pure ((as.map (·.arg)).zip vals):=by
 refine zMl hp h1 h2 rfl (by rw [hl,Bool.and_true,decide_eq_true_iff]; exact Nat.lt_irrefl _) ?_ (by rw [zHU]; exact List.zip_nil_right) (by rw [List.append_nil]; exact zFk hn hl)
 rw [zHU,List.length_nil,Nat.sub_zero,List.take_length]
 have:((as.map (·.arg)).filter fun n=>(((as.map (·.arg)).zip vals).lookup n).isNone)=[]:=by
  rw [List.filter_eq_nil_iff]
  intro n hm
  obtain ⟨v,e⟩:=zCM hm hl
  rw [e]; exact Bool.false_ne_true
 rw [this]; exact Bool.false_ne_true
noncomputable def zHI (C:Ctx) (ds:List DefRec):Bool:=C.fns.all fun q=>C.fns.find? (fun r=>r.2==q.2)==some q&&ds.any (fun d=>d.name==q.1)
noncomputable def zBQ (C:Ctx) (ms:List MethRec):Bool:=C.meths.all fun q=>C.fns.find? (fun r=>r.2==q.2)==none&&C.meths.find? (fun r=>r.2==q.2)==some q&&ms.any (fun d=>d.name==q.1)
theorem zD8 {a:Arguments} (h:zAr a=true):a=⟨[],a.args,none,[],[],none,[]⟩:=by
 obtain ⟨a1,a2,a3,a4,a5,a6,a7⟩:=a
 unfold zAr at h
 simp only [Bool.and_eq_true,List.isEmpty_iff,Option.isNone_iff_eq_none] at h
 obtain ⟨⟨⟨⟨⟨rfl,rfl⟩,rfl⟩,rfl⟩,rfl⟩,rfl⟩:=h
 rfl
theorem zGt {α:Type} (nm:α->Str) {d d':α} (hn:nm d'=nm d):∀ l:List α,(l.map nm).Nodup->d' ∈ l->d ∈ l->d'=d:=by
 intro l
 induction l with
 | nil=>intro _ h; cases h
 | cons x l ih =>
  intro hnd h1 h2
  have hnd':=List.nodup_cons.mp hnd
  rcases List.mem_cons.mp h1 with rfl | h1' <;> rcases List.mem_cons.mp h2 with rfl | h2'
  ·rfl
  ·exact (hnd'.1 (by rw [hn]; exact List.mem_map_of_mem (f:=nm) h2')).elim
  ·exact (hnd'.1 (by rw [<- hn]; exact List.mem_map_of_mem (f:=nm) h1')).elim
  ·exact ih hnd'.2 h1' h2'
section
variable {p:Program} {loose:List Str} {mean:ExcName->Option Value} {mg mb mN:Str->Option Value} {S:zR} {C:Ctx} {tab tF tM:List (Nat × Fn)} {c:ClsRec} {Cb N:Addr}
theorem zEp {k:Nat} {fn:Fn} {o:Obj} {fd:FuncData} {params:Arguments} {body:List Stmt} {scope:Scope} (hr:zHd C params body scope=some fn) (e2:S.hb.get? (S.fn k)=some o) (e3:o.data=.func fd)
  (h1:fd.params=params) (h2:fd.body=.stmts body) (h3:fd.scope=scope) (h4:fd.closure=[]) (h5:fd.globals=mainGlobals) (h6:fd.builtins=builtinsNs) (h7:fd.defaults=.none) (h8:fd.kwdefaults=.none) (e4:S.hb.CodeRec fd.code fd.qualname):zFl S C k fn:=by
 subst h1 h3
 unfold zHd at hr
 by_cases hc:zGR fd.params fd.scope=true
 case neg=>rw [if_neg hc] at hr; first | exact zB hr | exact zF hr | cases hr
 rw [if_pos hc] at hr
 cases hr
 unfold zGR at hc
 simp only [Bool.and_eq_true,Bool.not_eq_true',beq_iff_eq,decide_eq_true_eq] at hc
 obtain ⟨⟨⟨⟨⟨⟨⟨c0,c1⟩,c2⟩,c3⟩,c4⟩,c5⟩,c6⟩,c7⟩:=hc
 refine ⟨o,fd,body,fd.params.args.map (·.arg),e2,e3,h2,h4,h5,h6,e4,c1,c2,c3,fun vals hv=>zKV (zD8 c0) h7 h8 c4 vals hv,c4,fun q hq=>?_,fun q hq=>?_,c7,rfl,rfl,rfl⟩
 ·have:=List.all_eq_true.mp c5 q hq
  exact (Bool.or_eq_true_iff.mp this).imp eq_of_beq eq_of_beq
 ·intro e
  have:=List.any_eq_false.mp c6 q hq
  rw [e] at this
  exact this rfl
theorem zOA (T:Top p loose mean mg mb S.hb) (hf:zHI C (recsOf p)=true) (hS:S.fn=xq C mg mN) {x:Str} {k:Nat} (h:C.fns.lookup x=some k) :
  ∃ d ∈ recsOf p,d.name=x /\ ∃ o pm code doc,mg x=some (.ref (S.fn k)) /\ S.hb.get? (S.fn k)=some o /\ o.data=.func (Calls.docDef d.name d.params d.body d.scope pm code doc) /\ S.hb.CodeRec code d.name:=by
 have hm:=zS h
 have:=List.all_eq_true.mp hf _ hm
 simp only [Bool.and_eq_true,beq_iff_eq] at this
 obtain ⟨h1,h2⟩:=this
 obtain ⟨d,hd,hn⟩:=List.any_eq_true.mp h2
 obtain rfl:=eq_of_beq hn
 obtain ⟨a,o,pm,code,doc,e1,e2,e3,e4⟩:=T.fn d hd
 have ha:S.fn k=a:=by rw [hS,xq,h1]; show zFG _=_; rw [e1]; rfl
 rw [ha]
 exact ⟨d,hd,rfl,o,pm,code,doc,e1,e2,e3,e4⟩
theorem zM7 (T:Top p loose mean mg mb S.hb) (hf:zHI C (recsOf p)=true) (hS:S.fn=xq C mg mN) (hone:((recsOf p).map (·.name)).Nodup) (htab:zRn C (recsOf p)=some tF):∀ k fn,(k,fn) ∈ tF->zFl S C k fn:=by
 intro k fn hk
 obtain ⟨d,hd,e⟩:=zBy htab hk
 replace e:=bind_some e
 obtain ⟨k',hl,e⟩:=e
 replace e:=map_some e
 obtain ⟨f,hr,e⟩:=e
 cases e
 obtain ⟨d',hd',hn,o,pm,code,doc,-,e2,e3,e4⟩:=zOA T hf hS hl
 obtain rfl:=zGt (·.name) hn _ hone hd' hd
 exact zEp hr e2 e3 rfl rfl rfl rfl rfl rfl rfl rfl e4
theorem zBP (P:PlainAt S.hb c Cb N mN) (hf:zBQ C c.meths=true) (hS:S.fn=xq C mg mN) {x:Str} {k:Nat} (h:C.meths.lookup x=some k) :
  ∃ d ∈ c.meths,d.name=x /\ ∃ o pm code doc,mN x=some (.ref (S.fn k)) /\ S.hb.get? (S.fn k)=some o /\ o.cls=.type "function" /\ o.data=.func (methDef d.name (c.name++"."++d.name) d.params d.body d.scope pm code doc) /\ S.hb.CodeRec code (c.name++"."++d.name):=by
 have hm:=zS h
 have:=List.all_eq_true.mp hf _ hm
 simp only [Bool.and_eq_true,beq_iff_eq] at this
 obtain ⟨⟨h0,h1⟩,h2⟩:=this
 obtain ⟨d,hd,hn⟩:=List.any_eq_true.mp h2
 obtain rfl:=eq_of_beq hn
 obtain ⟨a,o,pm,code,doc,e1,e2,ec,e3,e4⟩:=P.meths d hd
 have ha:S.fn k=a:=by rw [hS,xq,h0,h1]; show zFG _=_; rw [e1]; rfl
 rw [ha]
 exact ⟨d,hd,rfl,o,pm,code,doc,e1,e2,ec,e3,e4⟩
theorem zIh (P:PlainAt S.hb c Cb N mN) (hf:zBQ C c.meths=true) (hS:S.fn=xq C mg mN) (hone:(c.meths.map (·.name)).Nodup) (htab:zRo C c.meths=some tM):∀ k fn,(k,fn) ∈ tM->zFl S C k fn:=by
 intro k fn hk
 obtain ⟨d,hd,e⟩:=zBy htab hk
 replace e:=bind_some e
 obtain ⟨k',hl,e⟩:=e
 replace e:=map_some e
 obtain ⟨f,hr,e⟩:=e
 cases e
 obtain ⟨d',hd',hn,o,pm,code,doc,-,e2,-,e3,e4⟩:=zBP P hf hS hl
 obtain rfl:=zGt (·.name) hn _ hone hd' hd
 exact zEp hr e2 e3 rfl rfl rfl rfl rfl rfl rfl rfl e4
theorem zMm (P:PlainAt S.hb c Cb N mN) (hC:S.book=Cb) (hf:zBQ C c.meths=true) (hS:S.fn=xq C mg mN) (hi:C.meths.lookup ("__init__" : Str)=some 0) (hq:zL 0 ∈ c.quiet /\ zL 1 ∈ c.quiet):zDg S C:=by
 subst hC
 obtain ⟨nm,q,bs,sn,sub,col,dd,k0,k1,k2,k3,k5,e⟩:=P.cls.obj
 have q3:∀ n ∈ (["__setattr__","__getattribute__","__getattr__"]:List Str),mN n=none:=fun n hn=>P.quiet n (List.mem_append_left _ hn)
 refine ⟨N,mN,nm,q,bs,sn,sub,col,dd,k0,k1,k2,k3,k5,e,P.cls.ns,⟨q3 _ (by simp),q3 _ (by simp),q3 _ (by simp),P.quiet _ hq.1,P.quiet _ hq.2⟩,?_,?_,fun m k h=>?_⟩
 ·obtain ⟨_,_,_,_,_,_,_,e1,_⟩:=zBP P hf hS hi; exact e1
 ·obtain ⟨_,_,_,o,_,_,_,_,e2,ec,_⟩:=zBP P hf hS hi; exact ⟨o,e2,ec⟩
 ·obtain ⟨_,_,_,o,_,_,_,e1,e2,ec,_⟩:=zBP P hf hS h; exact ⟨e1,o,e2,ec⟩
noncomputable def zK8 (p:Program) (loose:List Str) (C:Ctx):Bool:=(b1Names.map (·.1)++b2Names.map (·.1)++kindNames.map (·.1)++[("isinstance" : Str),"range"]).all fun x =>
 (C.fns.lookup x).isSome||(x != ("__name__" : Str)&&!(startupNames.contains x||loose.contains x||((recsOf p).map (·.name)).contains x||((litsOf p).map (·.1)).contains x||((clssOf p loose).map (·.name)).contains x))
theorem zK3 (T:Top p loose mean mg mb S.hb) (hf:zHI C (recsOf p)=true) (hS:S.fn=xq C mg mN) (hfree:zK8 p loose C=true)
  (hconst:∀ x v,C.consts.lookup x=some v->∃ w,mg x=some w /\ VR S [] [] S.hb v w) (hbook:C.book=true->mg "Book"=some (.ref S.book)) (hB:(C.book=false /\ C.meths=[] /\ C.attrs=[]) \/ (C.attrs=attrNames /\ zDg S C))
  (hexc:∀ x c,C.excs.lookup x=some c->(mg x=some (S.cl c)) \/ (mg x=none /\ mb x=some (S.cl c))) (hcl:∀ x c,C.excs.lookup x=some c->c ∈ S.kn /\ (x ≠ ("ValueError" : Str)->kj S c))
  (hparts:wn S S.hb) (hpn:S.parts ≠ .none) (fa:∀ k fn,tab.lookup k=some fn->zFl S C k fn):zZ S C (fun k=>tab.lookup k):=by
 refine ⟨⟨mg,mb,T.g,T.b,hconst,fun x k h=>?_,fun x hx hn=>?_,hbook,hexc⟩,T.nolimit,hB,hcl,hparts,hpn,fun k fn h=>?_⟩
 ·obtain ⟨_,_,_,_,_,_,_,e,_⟩:=zOA T hf hS h
  exact e
 ·have hm:x ∈ b1Names.map (·.1)++b2Names.map (·.1)++kindNames.map (·.1)++[("isinstance" : Str),"range"]:=by
   simp only [List.mem_append,List.mem_cons,List.not_mem_nil,or_false]
   rcases hx with h | h | h | h | h
   ·exact .inl (.inl (.inl h))
   ·exact .inl (.inl (.inr h))
   ·exact .inl (.inr h)
   ·exact .inr (.inl h)
   ·exact .inr (.inr h)
  have:=List.all_eq_true.mp hfree x hm
  rw [hn] at this
  simp only [Option.isSome_none,Bool.false_or,Bool.and_eq_true,bne_iff_ne,ne_eq,Bool.not_eq_true',Bool.or_eq_false_iff] at this
  obtain ⟨h0,⟨⟨⟨h1,h2⟩,h3⟩,h4⟩,h5⟩:=this
  have no:∀ {l:List Str},l.contains x=false->x ∉ l:=fun h hm=>by rw [List.contains_iff_mem.mpr hm] at h; cases h
  exact ⟨T.free x (no h1) (no h2) (no h3) (no h4) (no h5),T.builtins x h0⟩
 ·obtain ⟨o,fd,_,_,h1,h2,_⟩:=fa k fn h
  exact ⟨o,fd,h1,h2⟩
theorem zHz {P:Params} {a:Addr} {ns:List Int} (W:Well P S.hb (.ref a) (ofPy (.list (ns.map PyData.int)))) (hl:ns.length <= LIM):VR S [] [] S.hb (.lst (ns.map V.int)) (.ref a):=by
 have key:∀ {vs:List Value} {l:List Int},WellAll P S.hb vs (ofPys (l.map PyData.int))->VRs S [] [] S.hb (l.map V.int) vs:=by
  intro vs l
  induction l generalizing vs with
  | nil=>intro h; cases h; rw [List.map_nil]; exact True.intro
  | cons n l ih =>
   intro h
   cases h with
   | cons h1 h2 =>
    cases h1
    rw [List.map_cons]
    exact ⟨⟨_,rfl⟩,ih h2⟩
 cases W with
 | list h1 h2 =>
  exact ⟨a,_,_,rfl,⟨by simp [addrs],by simp⟩,h1,key h2,by simpa using hl⟩
theorem zLK (fs:zZ S C (fun k=>tab.lookup k)) (cl:Clean C) (fa:∀ k fn,tab.lookup k=some fn->zFl S C k fn) {s₁:Shared} (hS:S.hb=s₁.heap) {ns:List Int} {a:Addr} {k d:Nat} (hd:d <= 100)
  (hv:VR S [] [] S.hb (.lst (ns.map V.int)) (.ref a)) (hres:∃ U',zA (fun k=>tab.lookup k) d false k [.lst (ns.map V.int)] []=.ok (.bool true) U') :
  codeAny (model S.prog S.w) callerA (.call (.ref (S.fn k)) ⟨[.ref a],[]⟩) (fun r s'=>r=.ok (.ret (.bool true)) /\ (∀ b o,s₁.heap.get? b=some o->s'.heap.get? b=some o) /\ s'.os=s₁.os /\ s'.gens=s₁.gens) s₁:=by
 obtain ⟨U',hres⟩:=hres
 have L:Lk S [] [] [] s₁.heap:=⟨fun b o h=>hS ▸ h,rfl,.nil,(fun a h=>nomatch h),(fun a h=>nomatch h),fun i l o h=>by simp at h⟩
 have cx:CxC S callerA false d [] [] s₁.heap:=⟨by show 1+claimMargin+2 * d+2 <= 900; simp only [claimMargin]; omega,by show 4+5 * d+200 <= 9900; omega,fun _=>rfl,⟨[],rfl,fun _ h=>nomatch h⟩,fun _ h=>nomatch h⟩
 have:=(jB fs cl fa d false k [.lst (ns.map V.int)] [] [] [] callerA s₁ [.ref a] cx L (⟨hS ▸ hv,trivial⟩) (by rw [hres]; simp)).2
 refine codeAny_mono this fun r s' h=>?_
 match r,h with
 | .ok (.ret v),h =>
  obtain ⟨b,U'',g,e,hg,kp,L',p⟩:=h
  rw [hres] at e
  cases e
  have hv:v=.bool true:=by have:VR _ _ _ _ _ _:=p; exact this
  refine ⟨by rw [hv],fun b o h=>L'.base b o (hS ▸ h),?_,?_⟩
  ·rw [kp.rest]
  ·rw [kp.rest]
 | .error e,h =>
  obtain ⟨c,U'',g,ea,e1,e2,hgE,kE,LE,xE⟩:=h
  rw [hres] at e2
  cases e2
end
theorem zGA (l:OpenLaw) (args:List WData) (cls:ExcName):l.row.claim.raises args cls=false:=rfl
theorem zLL (l:OpenLaw) (args:List WData):l.row.claim.post args (.bool true) args=true:=
 postW_of (X:=true) (by rfl) (by wtm_val) rfl
theorem law_good (l:OpenLaw) {args:List WData} {c:Str->Option Addr} {mean:ExcName->Option Value} {s₁ s':Shared} (hk:∀ b o,s₁.heap.get? b=some o->s'.heap.get? b=some o) (hos:s'.os=s₁.os) (hg:s₁.gens=#[]) (hgs:s'.gens=s₁.gens) :
  GoodWG l.row.claim c mean args s₁ (.ok (.ret (.bool true))) s':=
 ⟨.inl ⟨_,.bool true,[],rfl,zGA l args,.bool true,zLL l args,fun _=>⟨.nil,fun _ h=>nomatch h⟩⟩,.of_keep hk,hos,fun y hy=>by rw [hgs,hg] at hy; simp at hy⟩
end Mine
end

section
namespace Mine
open PySem
section
variable {F Fq:Calls} {q:Bool} {J J':List V} {U U' U1 U2 U3:Sto} {rest A B:List CS} {r:R Fl} {v x y z:V} {c e a b:CE} {i:Nat}
@[simp] theorem zQT (v:V):zCe (.ret v) U=.ok v U:=rfl
@[simp] theorem zPV:zCe (.next J) U=.ok .none U:=rfl
noncomputable def zMN (F Fq:Calls) (q:Bool) (ss:List CS) (fl:Fl) (U:Sto):R Fl:=
 match fl with
 | .next J=>exL F Fq q ss J U
 | .ret v=>.ok (.ret v) U
theorem yl (s:CS):exL F Fq q (s :: rest) J U=(exS F Fq q s J U).bind (zMN F Fq q rest):=by
 rw [zHv]
 cases exS F Fq q s J U with
 | ok fl U=>cases fl <;> rfl
 | _=>rfl
theorem jH:∀ (A rest:List CS) (J:List V) (U:Sto),exL F Fq q (A++rest) J U=(exL F Fq q A J U).bind (zMN F Fq q rest)
 | [],_,_,_=>rfl
 | s :: A,rest,J,U=>by
  rw [List.cons_append,yl,yl]
  cases exS F Fq q s J U with
  | ok fl U =>
   cases fl with
   | next J=>exact jH A rest J U
   | ret v=>rfl
  | _=>rfl
theorem zJ (h:evE F q e J U=.ok v U') (k:exL F Fq q rest (J.set i v) U'=r):exL F Fq q (.asg i e :: rest) J U=r:=by
 rw [yl,zMS,h]; exact k
theorem yR (h:evE F q e J U=.ok v U') (k:exL F Fq q rest J U'=r):exL F Fq q (.exp e :: rest) J U=r:=by
 rw [yl,zMV,h]; exact k
theorem zB7 {c:Cls} (h:evE F q e J U=.exc c U'):exL F Fq q (.exp e :: rest) J U=.exc c U':=by
 rw [yl,zMV,h]; rfl
theorem zK (h:evE F q e J U=.ok v U'):exL F Fq q (.ret e :: rest) J U=.ok (.ret v) U':=by
 rw [yl,zOa,h]; rfl
theorem s_t (h:evC F q (some c) J U=.ok true U') (k:exL F Fq q (A++rest) J U'=r):exL F Fq q (.ite c A B :: rest) J U=r:=by
 rw [jH] at k
 rw [yl,zMW]
 rw [zBU] at h
 cases hc:evE F q c J U with
 | ok v U1 =>
  rw [hc,R.bind_ok] at h
  rw [R.bind_ok]
  cases ht:truthy U1 v with
  | none=>rw [ht] at h; cases h
  | some t=>rw [ht] at h; cases h; exact k
 | exc _ _=>rw [hc] at h; cases h
 | stuck=>rw [hc] at h; cases h
theorem s_f (h:evC F q (some c) J U=.ok false U') (k:exL F Fq q (B++rest) J U'=r):exL F Fq q (.ite c A B :: rest) J U=r:=by
 rw [jH] at k
 rw [yl,zMW]
 rw [zBU] at h
 cases hc:evE F q c J U with
 | ok v U1 =>
  rw [hc,R.bind_ok] at h
  rw [R.bind_ok]
  cases ht:truthy U1 v with
  | none=>rw [ht] at h; cases h
  | some t=>rw [ht] at h; cases h; exact k
 | exc _ _=>rw [hc] at h; cases h
 | stuck=>rw [hc] at h; cases h
theorem zNc {c:Cls}:exL F Fq false (.raise c :: rest) J U=.exc c U:=rfl
theorem wk:exL F Fq q [] J U=.ok (.next J) U:=rfl
theorem zq {o i v:CE} {a b x:V} (hv:evE F q v J U=.ok x U1) (ho:evE F q o J U1=.ok a U2) (hi:evE F q i J U2=.ok b U3) (h:xO U3 a b x=.ok () U') (k:exL F Fq q rest J U'=r):exL F Fq q (.setItem o i v :: rest) J U=r:=by
 rw [yl,zDe,hv,R.bind_ok,ho,R.bind_ok,hi,R.bind_ok,h]; exact k
theorem zSU {t:Bool} (h:evE F q c J U=.ok v U') (ht:truthy U' v=some t):evC F q (some c) J U=.ok t U':=by
 rw [zBU,h,R.bind_ok,ht]; rfl
theorem zE {t:Bool} (h:evE F q c J U=.ok (.bool t) U'):evC F q (some c) J U=.ok t U':=zSU h rfl
theorem zV {o:P1} (ha:evE F q a J U=.ok x U1) (h:ev1 o U1 x=some z) (hl:(vM o&&q)=false:=by rfl):evE F q (.p1 o a) J U=.ok z U1:=by
 rw [zKG,hl,ha,R.bind_ok,h]; rfl
theorem zD {o:P2} (ha:evE F q a J U=.ok x U1) (hb:evE F q b J U1=.ok y U2) (h:ev2 o U2 x y=some z) (hl:(wK o&&q)=false:=by rfl):evE F q (.p2 o a b) J U=.ok z U2:=by
 rw [zNn,hl,ha,R.bind_ok,hb,R.bind_ok,h]; rfl
theorem yn (ha:evE F q a J U=.ok x U1) (ht:truthy U1 x=some false):evE F q (.and a b) J U=.ok x U1:=by
 rw [zHp,ha,R.bind_ok,ht]; rfl
theorem zn {r:R V} (ha:evE F q a J U=.ok x U1) (ht:truthy U1 x=some true) (hb:evE F q b J U1=r):evE F q (.and a b) J U=r:=by
 rw [zHp,ha,R.bind_ok,ht]; exact hb
theorem zAE (ha:evE F q a J U=.ok x U1) (ht:truthy U1 x=some true):evE F q (.or a b) J U=.ok x U1:=by
 rw [zNm,ha,R.bind_ok,ht]; rfl
theorem zW {r:R V} (ha:evE F q a J U=.ok x U1) (ht:truthy U1 x=some false) (hb:evE F q b J U1=r):evE F q (.or a b) J U=r:=by
 rw [zNm,ha,R.bind_ok,ht]; exact hb
theorem zH {f:Nat} {args:List CE} {vs:List V} {r:R V} (ha:evL F q args J U=.ok vs U1) (h:F f vs U1=r):evE F q (.call f args) J U=r:=by
 rw [zMU,ha]; exact h
theorem zQ {f:Nat} {args:List CE} {vs:List V} {r:R V} (ho:evE F q a J U=.ok x U1) (hi:isInst U1 x=true) (ha:evL F q args J U1=.ok vs U2) (h:F f (x :: vs) U2=r):evE F q (.callm f a args) J U=r:=by
 rw [zHq,ho,R.bind_ok,if_pos hi,ha]; exact h
theorem zC {es:List CE} {vs:List V} (h:evE F q e J U=.ok v U1) (hs:evL F q es J U1=.ok vs U2):evL F q (e :: es) J U=.ok (v :: vs) U2:=by
 rw [zCJ,h,R.bind_ok,hs]; rfl
theorem yg {es:List CE} {vs:List V} (h:evL F q es J U=.ok vs U1):evE F q (.tup es) J U=.ok (.tup vs) U1:=by rw [zOb,h]; rfl
theorem jF {es:List CE} {vs:List V} (h:evL F q es J U=.ok vs U1):evE F q (.list es) J U=.ok (.lst vs) U1:=by rw [zMX,h]; rfl
theorem zKq {k:Nat} (h:evE F q a J U=.ok x U1) (hv:zAD U1 x k=some v):evE F q (.attr a k) J U=.ok v U1:=by
 rw [zMT,h,R.bind_ok,hv]; rfl
theorem yU (hl:evE F q a J U=.ok x U1) (hi:kR U1 x=true) (hx:evE F q b J U1=.ok y U2) (h:wG U2 x y=.ok v U'):evE F q (.append a b) J U=.ok v U':=by
 rw [zFj,hl,R.bind_ok,if_pos hi,hx]; exact h
end
section
variable {T:Nat->Option Fn} {d k:Nat} {q:Bool} {fn:Fn} {args:List V} {U U':Sto}
theorem zl {c:Cls} (h:T k=some fn) (hl:args.length=fn.params) (hx:exL (zA T d q) (zA T d true) q fn.body (args++List.replicate (fn.slots - fn.params) .undef) U=.exc c U'):zA T (d+1) q k args U=.exc c U':=by
 rw [vH,h]; simp only [hl,if_true,hx]; rfl
theorem xe {J:List V} (h:T k=some fn) (hl:args.length=fn.params) (hx:exL (zA T d q) (zA T d true) q fn.body (args++List.replicate (fn.slots - fn.params) .undef) U=.ok (.next J) U'):zA T (d+1) q k args U=.ok .none U':=by
 rw [vH,h]; simp only [hl,if_true,hx]; rfl
end
end Mine
end

section
namespace Mine
open PySem
noncomputable def tr (t:Bool) (e:CE):CE:=match t with
 | true=>.trk e
 | false=>e
noncomputable def zN5:Fn:={ params:=3,slots:=3,body:=[.ret (.p2 .fdiv (.p2 .mul (.var 0) (.var 1)) (.var 2))] }
noncomputable def zK2:Fn:={ params:=1,slots:=1,body:=[.ite (.or (.p1 .not (.p1 (.isInst .str) (.var 0))) (.p1 .not (.chain (.lit (.int 1)) [.le,.le] [.p1 .len (.var 0),.lit (.int 12)]))) [.ret (.lit (.bool false))] [],.ret (.p1 .all (.comp (.p2 .isIn (.var 1) (.lit (.str { cps:=#[97,98,99,100,101,102,103,104,105,106,107,108,109,110,111,112,113,114,115,116,117,118,119,120,121,122] }))) .val [.var 0] none))] }
noncomputable def fB_22:Fn:={ params:=1,slots:=2,body:=[.ite (.p1 .not (.chain (.lit (.int 1)) [.le,.le] [.p1 .len (.var 0),.lit (.int 20)])) [.raise (.NoLines)] [],.for 1 .val [.var 0] [.ite (.p1 .not (.call 21 [.p2 .index (.var 1) (.lit (.int 0))])) [.raise (.NoItem)] [],.ite (.or (.p1 .not (.chain (.lit (.int 1)) [.le,.le] [.p2 .index (.var 1) (.lit (.int 1)),.lit (.int 1000000)])) (.or (.p1 .not (.chain (.lit (.int 0)) [.le,.le] [.p2 .index (.var 1) (.lit (.int 2)),.lit (.int 1000000000)])) (.p1 .not (.chain (.lit (.int 1)) [.le,.le] [.p2 .index (.var 1) (.lit (.int 3)),.lit (.int 1000)])))) [.raise (.NoNumber)] []]] }
noncomputable def zN6:Fn:={ params:=1,slots:=1,body:=[.ret (.tup [.p2 .index (.var 0) (.lit (.int 0)),.p2 .index (.var 0) (.lit (.int 1)),.p2 .index (.var 0) (.lit (.int 2)),.p2 .index (.var 0) (.lit (.int 3)),.lit (.int 0),.lit (.int 0),.lit (.int 0),.lit (.int 0)])] }
noncomputable def zN7:Fn:={ params:=1,slots:=1,body:=[.ret (.p2 .sub (.call 20 [.p2 .sub (.p2 .index (.var 0) (.lit (.int 4))) (.p2 .index (.var 0) (.lit (.int 5))),.p2 .index (.var 0) (.lit (.int 2)),.p2 .index (.var 0) (.lit (.int 3))]) (.p2 .index (.var 0) (.lit (.int 7))))] }
noncomputable def zN8:Fn:={ params:=2,slots:=2,body:=[.ite (.p2 .eq (.var 0) (.lit (.str { cps:=#[100,101,108,105,118,101,114] }))) [.ret (.p2 .add (.p2 .sub (.p2 .index (.var 1) (.lit (.int 1))) (.p2 .index (.var 1) (.lit (.int 4)))) (.p2 .index (.var 1) (.lit (.int 6))))] [],.ite (.p2 .eq (.var 0) (.lit (.str { cps:=#[99,114,101,100,105,116] }))) [.ret (.call 24 [.var 1])] [],.ret (.p2 .sub (.p2 .index (.var 1) (.lit (.int 4))) (.p2 .index (.var 1) (.lit (.int 5))))] }
noncomputable def zN9:Fn:={ params:=3,slots:=7,body:=[.asg 3 (.p2 .index (.var 1) (.lit (.int 4))),.asg 4 (.p2 .index (.var 1) (.lit (.int 5))),.asg 5 (.p2 .index (.var 1) (.lit (.int 6))),.asg 6 (.p2 .index (.var 1) (.lit (.int 7))),.ite (.p2 .eq (.var 0) (.lit (.str { cps:=#[100,101,108,105,118,101,114] }))) [.asg 3 (.p2 .add (.var 3) (.var 2))] [.ite (.p2 .eq (.var 0) (.lit (.str { cps:=#[99,114,101,100,105,116] }))) [.asg 6 (.p2 .add (.var 6) (.var 2))] [.asg 4 (.p2 .add (.var 4) (.var 2)),.ite (.p2 .eq (.var 0) (.lit (.str { cps:=#[115,119,97,112] }))) [.asg 5 (.p2 .add (.var 5) (.var 2))] [],.asg 6 (.p2 .min (.var 6) (.call 20 [.p2 .sub (.var 3) (.var 4),.p2 .index (.var 1) (.lit (.int 2)),.p2 .index (.var 1) (.lit (.int 3))]))]],.ret (.p2 .add (.slice (.var 1) none (some (.lit (.int 4)))) (.tup [.var 3,.var 4,.var 5,.var 6]))] }
noncomputable def zQ4:Fn:={ params:=1,slots:=1,body:=[.setAttr (.var 0) 0 (.trk (.list [])),.setAttr (.var 0) 1 (.trk (.list []))] }
noncomputable def zQ5:Fn:={ params:=2,slots:=2,body:=[.ite (.p1 .not (.chain (.lit (.int 0)) [.le,.lt] [.var 1,.p1 .len (.attr (.var 0) 0)])) [.raise (.NoOrder)] []] }
noncomputable def fB_2:Fn:={ params:=2,slots:=2,body:=[.ite (.or (.p2 .eq (.p1 .len (.var 1)) (.lit (.int 0))) (.or (.p2 .notIn (.p2 .index (.var 1) (.lit (.int 0))) (.lit (.parts))) (.p2 .ne (.p1 .len (.var 1)) (.p2 .index (.lit (.parts)) (.p2 .index (.var 1) (.lit (.int 0))))))) [.raise (.NoDeed)] [],.ite (.p2 .eq (.p2 .index (.var 1) (.lit (.int 0))) (.lit (.str { cps:=#[111,114,100,101,114] }))) [.ret (.callm 3 (.var 0) [.p2 .index (.var 1) (.lit (.int 1))])] [],.exp (.callm 4 (.var 0) [.var 1]),.ret (.callm 6 (.var 0) [.var 1])] }
noncomputable def zM3 (t:Bool):Fn:={ params:=2,slots:=2,body:=[.exp (.call 22 [.var 1]),.ite (.p2 .ge (.p1 .len (.attr (.var 0) 0)) (.lit (.int 40))) [.raise (.FullBook)] [],.exp (.append (.attr (.var 0) 0) (.tup [.p1 .toTup (.comp (.call 23 [.var 2]) .val [.var 1] none),.lit (.int 0),.tup []])),.exp (.append (.attr (.var 0) 1) (.tup [.tup [.lit (.str { cps:=#[111,114,100,101,114] }),.p1 .toList (.var 1)],.dict0])),.ret (tr t (.list []))] }
noncomputable def fB_4:Fn:={ params:=2,slots:=2,body:=[.exp (.callm 1 (.var 0) [.p2 .index (.var 1) (.lit (.int 1))]),.ite (.p2 .eq (.p2 .index (.var 1) (.lit (.int 0))) (.lit (.str { cps:=#[109,111,118,101] }))) [.exp (.callm 1 (.var 0) [.p2 .index (.var 1) (.lit (.int 2))]),.ite (.p2 .eq (.p2 .index (.var 1) (.lit (.int 1))) (.p2 .index (.var 1) (.lit (.int 2)))) [.raise (.SameOrder)] []] [],.ite (.and (.p2 .isIn (.p2 .index (.var 1) (.lit (.int 0))) (.lit (.tup [.str { cps:=#[100,101,108,105,118,101,114] },.str { cps:=#[98,97,99,107] },.str { cps:=#[115,119,97,112] },.str { cps:=#[99,114,101,100,105,116] }]))) (.p1 .not (.chain (.lit (.int 0)) [.le,.lt] [.p2 .index (.var 1) (.lit (.int 2)),.p1 .len (.p2 .index (.p2 .index (.attr (.var 0) 0) (.p2 .index (.var 1) (.lit (.int 1)))) (.lit (.int 0)))]))) [.raise (.NoLine)] [],.ite (.p2 .lt (.p2 .index (.var 1) (.p1 .neg (.lit (.int 1)))) (.lit (.int 1))) [.raise (.NoNumber)] [],.ite (.and (.p2 .ne (.p2 .index (.var 1) (.lit (.int 0))) (.lit (.str { cps:=#[112,97,121] }))) (.p2 .gt (.p2 .index (.var 1) (.p1 .neg (.lit (.int 1)))) (.callm 5 (.var 0) [.var 1]))) [.raise (.TooMuch)] []] }
noncomputable def zQ6:Fn:={ params:=2,slots:=2,body:=[.ite (.p2 .isIn (.p2 .index (.var 1) (.lit (.int 0))) (.lit (.tup [.str { cps:=#[100,101,108,105,118,101,114] },.str { cps:=#[98,97,99,107] },.str { cps:=#[115,119,97,112] },.str { cps:=#[99,114,101,100,105,116] }]))) [.ret (.call 25 [.p2 .index (.var 1) (.lit (.int 0)),.p2 .index (.p2 .index (.p2 .index (.attr (.var 0) 0) (.p2 .index (.var 1) (.lit (.int 1)))) (.lit (.int 0))) (.p2 .index (.var 1) (.lit (.int 2)))])] [],.ret (.p2 .sub (.lit (.int 0)) (.callm 13 (.var 0) [.p2 .index (.var 1) (.lit (.int 1))]))] }
noncomputable def zQ7 (t:Bool):Fn:={ params:=2,slots:=5,body:=[.asg 2 (.p2 .index (.var 1) (.lit (.int 0))),.asg 3 (.p2 .index (.var 1) (.p1 .neg (.lit (.int 1)))),.asg 4 (.dict1 (.p2 .index (.var 1) (.lit (.int 1))) (.p2 .index (.attr (.var 0) 0) (.p2 .index (.var 1) (.lit (.int 1))))),.ite (.p2 .eq (.var 2) (.lit (.str { cps:=#[109,111,118,101] }))) [.setItem (.var 4) (.p2 .index (.var 1) (.lit (.int 2))) (.p2 .index (.attr (.var 0) 0) (.p2 .index (.var 1) (.lit (.int 2))))] [],.exp (.append (.attr (.var 0) 1) (.tup [.var 1,.var 4])),.ite (.p2 .eq (.var 2) (.lit (.str { cps:=#[109,111,118,101] }))) [.ret (tr t (.list [.callm 7 (.var 0) [.p2 .index (.var 1) (.lit (.int 1)),.var 2,.p2 .sub (.lit (.int 0)) (.var 3)],.callm 7 (.var 0) [.p2 .index (.var 1) (.lit (.int 2)),.var 2,.var 3]]))] [],.ite (.p2 .eq (.var 2) (.lit (.str { cps:=#[112,97,121] }))) [.ret (tr t (.list [.callm 7 (.var 0) [.p2 .index (.var 1) (.lit (.int 1)),.var 2,.var 3]]))] [],.ite (.p2 .eq (.var 2) (.lit (.str { cps:=#[114,101,102,117,110,100] }))) [.ret (tr t (.list [.callm 7 (.var 0) [.p2 .index (.var 1) (.lit (.int 1)),.var 2,.p2 .sub (.lit (.int 0)) (.var 3)]]))] [],.ret (tr t (.list [.callm 8 (.var 0) [.p2 .index (.var 1) (.lit (.int 1)),.p2 .index (.var 1) (.lit (.int 2)),.var 2,.var 3]]))] }
noncomputable def zQ8:Fn:={ params:=4,slots:=5,body:=[.asg 4 (.p2 .index (.attr (.var 0) 0) (.var 1)),.setItem (.attr (.var 0) 0) (.var 1) (.tup [.p2 .index (.var 4) (.lit (.int 0)),.p2 .add (.p2 .index (.var 4) (.lit (.int 1))) (.var 3),.p2 .add (.p2 .index (.var 4) (.lit (.int 2))) (.tup [.tup [.var 2,.p2 .sub (.lit (.int 0)) (.var 3)]])]),.ret (.tup [.var 1,.p2 .sub (.lit (.int 0)) (.var 3)])] }
noncomputable def zQ9:Fn:={ params:=5,slots:=10,body:=[.asg 5 (.p2 .index (.attr (.var 0) 0) (.var 1)),.asg 6 (.p2 .index (.p2 .index (.var 5) (.lit (.int 0))) (.var 2)),.asg 7 (.call 26 [.var 3,.var 6,.var 4]),.asg 8 (.p2 .sub (.call 24 [.var 7]) (.call 24 [.var 6])),.asg 9 (.p2 .add (.p2 .add (.slice (.p2 .index (.var 5) (.lit (.int 0))) none (some (.var 2))) (.tup [.var 7])) (.slice (.p2 .index (.var 5) (.lit (.int 0))) (some (.p2 .add (.var 2) (.lit (.int 1)))) none)),.setItem (.attr (.var 0) 0) (.var 1) (.tup [.var 9,.p2 .index (.var 5) (.lit (.int 1)),.p2 .add (.p2 .index (.var 5) (.lit (.int 2))) (.tup [.tup [.var 3,.var 8]])]),.ret (.tup [.var 1,.var 8])] }
noncomputable def zN0:Fn:={ params:=1,slots:=1,body:=[.ret (.p1 .len (.attr (.var 0) 0))] }
noncomputable def zN1:Fn:={ params:=2,slots:=2,body:=[.exp (.callm 1 (.var 0) [.var 1]),.ret (.comp (.tup [.p2 .index (.var 2) (.lit (.int 0)),.p2 .index (.var 2) (.lit (.int 1)),.p2 .index (.var 2) (.lit (.int 4)),.p2 .index (.var 2) (.lit (.int 5)),.p2 .index (.var 2) (.lit (.int 6)),.p2 .index (.var 2) (.lit (.int 7))]) .val [.p2 .index (.p2 .index (.attr (.var 0) 0) (.var 1)) (.lit (.int 0))] none)] }
noncomputable def zN2:Fn:={ params:=2,slots:=2,body:=[.exp (.callm 1 (.var 0) [.var 1]),.ret (.p2 .index (.p2 .index (.attr (.var 0) 0) (.var 1)) (.lit (.int 1)))] }
noncomputable def zN3:Fn:={ params:=2,slots:=2,body:=[.exp (.callm 1 (.var 0) [.var 1]),.ret (.p2 .sub (.p1 .sum (.comp (.call 24 [.var 2]) .val [.p2 .index (.p2 .index (.attr (.var 0) 0) (.var 1)) (.lit (.int 0))] none)) (.p2 .index (.p2 .index (.attr (.var 0) 0) (.var 1)) (.lit (.int 1))))] }
noncomputable def zN4:Fn:={ params:=2,slots:=2,body:=[.exp (.callm 1 (.var 0) [.var 1]),.ret (.p1 .toList (.p2 .index (.p2 .index (.attr (.var 0) 0) (.var 1)) (.lit (.int 2))))] }
structure zP (T:Nat->Option Fn) (t:Bool:=false):Prop where
 b0:T 0=some zQ4
 b1:T 1=some zQ5
 b2:T 2=some fB_2
 b3:T 3=some (zM3 t)
 b4:T 4=some fB_4
 b5:T 5=some zQ6
 b6:T 6=some (zQ7 t)
 b7:T 7=some zQ8
 b8:T 8=some zQ9
 b10:T 10=some zN0
 b12:T 12=some zN2
 b13:T 13=some zN3
 b20:T 20=some zN5
 b21:T 21=some zK2
 b22:T 22=some fB_22
 b23:T 23=some zN6
 b24:T 24=some zN7
 b25:T 25=some zN8
 b26:T 26=some zN9
end Mine
end

section
namespace Mine
open PySem
structure Ln where
 item:Str
 p:Int
 c:Int
 k:Int
 s:Int
 b:Int
 a:Int
 r:Int
noncomputable def Ln.v (l:Ln):V:=.tup [.str l.item,.int l.p,.int l.c,.int l.k,.int l.s,.int l.b,.int l.a,.int l.r]
structure Ln.ok (l:Ln):Prop where
 p1:1 <= l.p
 p2:l.p <= 1000000
 c1:0 <= l.c
 c2:l.c <= 1000000000
 k1:1 <= l.k
 k2:l.k <= 1000
noncomputable def Ln.worth (l:Ln):Int:=((l.s - l.b) * l.c).fdiv l.k
noncomputable def Ln.charge (l:Ln):Int:=l.worth - l.r
structure Or where
 lines:List Ln
 paid:Int
 rows:List (Str × Int)
noncomputable def xm (r:Str × Int):V:=.tup [.str r.1,.int r.2]
noncomputable def Or.v (o:Or):V:=.tup [.tup (o.lines.map Ln.v),.int o.paid,.tup (o.rows.map xm)]
noncomputable def Or.owed (o:Or):Int:=(o.lines.map Ln.charge).sum - o.paid
noncomputable def jy:Str:={ cps:=#[100,101,108,105,118,101,114] }
noncomputable def zFH:Str:={ cps:=#[98,97,99,107] }
noncomputable def zFJ:Str:={ cps:=#[115,119,97,112] }
noncomputable def zFI:Str:={ cps:=#[99,114,101,100,105,116] }
noncomputable def wM:Str:={ cps:=#[112,97,121] }
noncomputable def jz:Str:={ cps:=#[114,101,102,117,110,100] }
noncomputable def yb:Str:={ cps:=#[109,111,118,101] }
noncomputable def yC:Str:={ cps:=#[111,114,100,101,114] }
set_option genCtorIdx true in
inductive Wd where
 | del | back | swap | cred
noncomputable def Wd.s:Wd->Str
 | .del=>jy
 | .back=>zFH
 | .swap=>zFJ
 | .cred=>zFI
noncomputable def xX (w:Wd) (l:Ln):Int:=
 match w with
 | .del=>l.p - l.s+l.a
 | .cred=>l.charge
 | _=>l.s - l.b
noncomputable def zJ8 (x y:Int):Int:=if y < x then y else x
noncomputable def zb (w:Wd) (l:Ln) (n:Int):Ln:=
 match w with
 | .del=>{ l with s:=l.s+n }
 | .cred=>{ l with r:=l.r+n }
 | .back=>{ l with b:=l.b+n,r:=zJ8 l.r (((l.s - (l.b+n)) * l.c).fdiv l.k) }
 | .swap=>{ l with b:=l.b+n,a:=l.a+n,r:=zJ8 l.r (((l.s - (l.b+n)) * l.c).fdiv l.k) }
theorem zED {l:Ln} (h:l.ok):yA l.c=true:=decide_eq_true (Nat.lt_of_le_of_lt (zRd (B:=1000000000) h.c1 h.c2) (by decide))
theorem zFw {k:Int} (h1:1 <= k) (h2:k <= 1000):(k==0||decide (1073741824 <= k.natAbs))=false:=by
 have hk:k.natAbs <= 1000:=Int.ofNat_le.mp (by rw [Int.natAbs_of_nonneg (Int.le_trans (by decide) h1)]; exact h2)
 rw [Bool.or_eq_false_iff]
 exact ⟨beq_eq_false_iff_ne.mpr fun e=>absurd (e ▸ h1) (by decide),decide_eq_false fun q=>absurd (Nat.le_trans q hk) (by decide)⟩
noncomputable def rv (t:Bool) (U:Sto) (vs:List V):V:=match t with
 | true=>.ref U.length
 | false=>.lst vs
noncomputable def rs (t:Bool) (U:Sto) (vs:List V):Sto:=match t with
 | true=>U++[.list vs]
 | false=>U
theorem zCZ {F:Calls} {q:Bool} {J:List V} {U U1:Sto} {t:Bool} {es:List CE} {vs:List V} (h:evL F q es J U=.ok vs U1):evE F q (tr t (.list es)) J U=.ok (rv t U1 vs) (rs t U1 vs):=by
 cases t with
 | false=>exact jF h
 | true =>
  show evE F q (.trk (.list es)) J U=_
  rw [kO,jF h]; rfl
section
variable {T:Nat->Option Fn} {t:Bool} {d:Nat} {q:Bool} {U:Sto}
theorem zGo (HT:zP T t) {a c k:Int} (hc:yA c=true) (hk:(k==0||decide (1073741824 <= k.natAbs))=false):zA T (d+1) q 20 [.int a,.int c,.int k] U=.ok (.int ((a * c).fdiv k)) U:=
 zG HT.b20 rfl (zK (zD (zD rfl rfl (yc U a c (.inr hc))) rfl (wH U (a * c) k hk)))
theorem jQ (HT:zP T t) {l:Ln} (h:l.ok):zA T (d+2) q 24 [l.v] U=.ok (.int l.charge) U:=
 zG HT.b24 rfl (zK (zD (zH (vs:=[.int (l.s - l.b),.int l.c,.int l.k]) rfl (zGo HT (zED h) (zFw h.k1 h.k2))) rfl rfl))
theorem zH8 (HT:zP T t) {l:Ln} (h:l.ok) (w:Wd):zA T (d+3) q 25 [.str w.s,l.v] U=.ok (.int (xX w l)) U:=by
 refine zG HT.b25 rfl ?_
 cases w with
 | del=>exact s_t rfl (zK rfl)
 | cred=>exact s_f rfl (s_t rfl (zK (zH rfl (jQ HT h))))
 | back=>exact s_f rfl (s_f rfl (zK rfl))
 | swap=>exact s_f rfl (s_f rfl (zK rfl))
theorem zKQ (HT:zP T t) {l:Ln} (h:l.ok) (w:Wd) (n:Int):zA T (d+2) false 26 [.str w.s,l.v,.int n] U=.ok (zb w l n).v U:=by
 refine zG HT.b26 rfl ?_
 refine zJ (v:=.int l.s) rfl (zJ (v:=.int l.b) rfl (zJ (v:=.int l.a) rfl (zJ (v:=.int l.r) rfl ?_)))
 have w20:∀ a:Int,zA T (d+1) false 20 [.int a,.int l.c,.int l.k] U=.ok (.int ((a * l.c).fdiv l.k)) U:=fun a=>zGo HT (zED h) (zFw h.k1 h.k2)
 cases w with
 | del=>exact s_t rfl (zJ rfl (zK rfl))
 | cred=>exact s_f rfl (s_t rfl (zJ rfl (zK rfl)))
 | back=>exact s_f rfl (s_f rfl (zJ (v:=.int (l.b+n)) rfl (s_f rfl (zJ (zD rfl (zH rfl (w20 _)) rfl) (zK rfl)))))
 | swap=>exact s_f rfl (s_f rfl (zJ (v:=.int (l.b+n)) rfl (s_t rfl (zJ (v:=.int (l.a+n)) rfl (zJ (zD rfl (zH rfl (w20 _)) rfl) (zK rfl))))))
end
end Mine
end

section
namespace Mine
open PySem
structure BookIn (U:Sto) (b e h:Nat) (es hs:List V):Prop where
 inst:U[b]?=some (.inst [(1,.ref h),(0,.ref e)])
 ent:U[e]?=some (.list es)
 his:U[h]?=some (.list hs)
 ne:e ≠ h
theorem zPd {U:Sto} {n:Nat} {xs:List V} (h:U[n]?=some (.list xs)):ev1 .len U (.ref n)=some (.int xs.length):=wO U h
section
variable {T:Nat->Option Fn} {t:Bool} {F:Calls} {d:Nat} {q:Bool} {U:Sto} {b e h:Nat} {es hs:List V} {J:List V}
theorem BookIn.isInst (B:BookIn U b e h es hs):isInst U (.ref b)=true:=by
 show (match U[b]? with | some (.inst _)=>true | _=>false)=true
 rw [B.inst]
theorem BookIn.a0 (B:BookIn U b e h es hs):zAD U (.ref b) 0=some (.ref e):=by
 show zGn 0 U[b]?=_
 rw [B.inst]; rfl
theorem BookIn.a1 (B:BookIn U b e h es hs):zAD U (.ref b) 1=some (.ref h):=by
 show zGn 1 U[b]?=_
 rw [B.inst]; rfl
theorem zBm (h0:zN J 0=some (.ref b)):evE F q (.var 0) J U=.ok (.ref b) U:=by rw [zv,h0]; rfl
theorem zBk (B:BookIn U b e h es hs) (h0:zN J 0=some (.ref b)):evE F q (.attr (.var 0) 0) J U=.ok (.ref e) U:=zKq (zBm h0) B.a0
theorem jT (B:BookIn U b e h es hs) (h0:zN J 0=some (.ref b)):evE F q (.attr (.var 0) 1) J U=.ok (.ref h) U:=zKq (zBm h0) B.a1
theorem zBl (B:BookIn U b e h es hs) (h0:zN J 0=some (.ref b)):evE F q (.p1 .len (.attr (.var 0) 0)) J U=.ok (.int es.length) U:=zV (zBk B h0) (zPd B.ent)
theorem xI (B:BookIn U b e h es hs) (h0:zN J 0=some (.ref b)) {c:CE} {o:Nat} {v:V} (hc:evE F q c J U=.ok (.int o) U) (hv:es[o]?=some v):evE F q (.p2 .index (.attr (.var 0) 0) c) J U=.ok v U:=
 zD (zBk B h0) hc (zU U B.ent hv)
theorem yp {a b c:CE} {x y:Int} (ha:evE F q a J U=.ok (.int 0) U) (hb:evE F q b J U=.ok (.int x) U) (hc:evE F q c J U=.ok (.int y) U):evE F q (.chain a [.le,.lt] [b,c]) J U=.ok (.bool (decide (0 <= x)&&decide (x < y))) U:=by
 rw [zBT,ha,R.bind_ok,zHs,hb]
 show (if decide (0 <= x)=true then evChain F q [P2.lt] [c] (.int x) J U else .ok (.bool (decide (0 <= x))) U)=_
 cases decide (0 <= x) with
 | false=>rfl
 | true =>
  show evChain F q [P2.lt] [c] (.int x) J U=_
  rw [zHr,hc]; rfl
theorem in_iff {n:Nat} {o:Int}:(decide (0 <= o)&&decide (o < (n:Int)))=true ↔ ∃ k:Nat,o=k /\ k < n:=by
 rw [Bool.and_eq_true,decide_eq_true_eq,decide_eq_true_eq]
 constructor
 ·rintro ⟨h1,h2⟩; exact ⟨o.toNat,(Int.toNat_of_nonneg h1).symm,(Int.toNat_lt h1).mpr h2⟩
 ·rintro ⟨k,rfl,h⟩; exact ⟨Int.natCast_nonneg k,Int.ofNat_lt.mpr h⟩
theorem zOx (HT:zP T t) (B:BookIn U b e h es hs) {o:Nat} (ho:o < es.length):zA T (d+1) q 1 [.ref b,.int o] U=.ok .none U:=
 xe HT.b1 rfl (s_f (zE (zV (yp rfl rfl (zBl B rfl)) (by rw [in_iff.mpr ⟨o,rfl,ho⟩]; rfl))) rfl)
theorem zMi (HT:zP T t) (B:BookIn U b e h es hs) {o:Int} (ho:(decide (0 <= o)&&decide (o < (es.length:Int)))=false):zA T (d+1) false 1 [.ref b,.int o] U=.exc .NoOrder U:=
 zl HT.b1 rfl (s_t (zE (zV (yp rfl rfl (zBl B rfl)) (by rw [ho]; rfl))) rfl)
theorem xf (HT:zP T t) (B:BookIn U b e h es hs) (h0:zN J 0=some (.ref b)) {c:CE} {o:Nat} (hc:evE (zA T (d+1) q) q c J U=.ok (.int o) U) (ho:o < es.length) {rest:List CS} {Fq:Calls} {r:R Fl} (k:exL (zA T (d+1) q) Fq q rest J U=r) :
  exL (zA T (d+1) q) Fq q (.exp (.callm 1 (.var 0) [c]) :: rest) J U=r:=
 yR (zQ (zBm h0) B.isInst (zC hc rfl) (zOx HT B ho)) k
theorem zAA (HT:zP T t) (B:BookIn U b e h es hs) (h0:zN J 0=some (.ref b)) {c:CE} {o:Int} (hc:evE (zA T (d+1) false) false c J U=.ok (.int o) U) (ho:(decide (0 <= o)&&decide (o < (es.length:Int)))=false) {rest:List CS} {Fq:Calls} :
  exL (zA T (d+1) false) Fq false (.exp (.callm 1 (.var 0) [c]) :: rest) J U=.exc .NoOrder U:=
 zB7 (zQ (zBm h0) B.isInst (zC hc rfl) (zMi HT B ho))
theorem zEP (HT:zP T t) (B:BookIn U b e h es hs):zA T (d+1) q 10 [.ref b] U=.ok (.int es.length) U:=
 zG HT.b10 rfl (zK (zBl B rfl))
theorem zOy (HT:zP T t) (B:BookIn U b e h es hs) {o:Nat} {u:Or} (hu:es[o]?=some u.v):zA T (d+2) q 12 [.ref b,.int o] U=.ok (.int u.paid) U:=
 zG HT.b12 rfl (xf HT B rfl rfl (List.getElem?_eq_some_iff.mp hu).1 (zK (zD (xI B rfl rfl hu) rfl rfl)))
theorem zOz (HT:zP T t) (h14:T 14=some zN4) (B:BookIn U b e h es hs) {o:Nat} {u:Or} (hu:es[o]?=some u.v):zA T (d+2) q 14 [.ref b,.int o] U=.ok (.lst (u.rows.map xm)) U:=
 zG h14 rfl (xf HT B rfl rfl (List.getElem?_eq_some_iff.mp hu).1 (zK (zV (zD (xI B rfl rfl hu) (z:=.tup (u.rows.map xm)) rfl rfl) rfl)))
theorem zHA (B:BookIn U b e h es hs) (h0:zN J 0=some (.ref b)) {o:Nat} {u:Or} {ce:CE} {g:Ln->V} (h1:zN J 1=some (.int o)) (hu:es[o]?=some u.v) (hl:u.lines.length < LIM)
  (hg:∀ l ∈ u.lines,evE F false ce (J++[l.v]) U=.ok (g l) U) :
  evE F false (.comp ce .val [.p2 .index (.p2 .index (.attr (.var 0) 0) (.var 1)) (.lit (.int 0))] none) J U=.ok (.lst (u.lines.map g)) U:=by
 have:=yh (F:=F) (elt:=ce) (k:=.val) (src:=[.p2 .index (.p2 .index (.attr (.var 0) 0) (.var 1)) (.lit (.int 0))]) (cond:=none) (J:=J) (U:=U) (l:=u.lines) (φ:=Ln.v) (fun _=>true) g
  (zC (zD (o:=.index) (b:=.lit (.int 0)) (y:=.int 0) (z:=.tup (u.lines.map Ln.v)) (xI B h0 (by rw [zv,h1]; rfl) hu) rfl rfl) rfl) (zE1 U) (.inl rfl) hl (fun _ _=>rfl) (fun l hl _=>hg l hl)
 rwa [xA] at this
theorem zFq (HT:zP T t) (B:BookIn U b e h es hs) {o:Nat} {u:Or} (hu:es[o]?=some u.v) (hl:u.lines.length < LIM) (hok:∀ l ∈ u.lines,l.ok):zA T (d+3) false 13 [.ref b,.int o] U=.ok (.int u.owed) U:=
 zG HT.b13 rfl (xf HT B rfl rfl (List.getElem?_eq_some_iff.mp hu).1 (zK (zD
  (zV (zHA B rfl rfl hu hl (g:=fun l=>.int l.charge) fun l hm=>zH rfl (jQ HT (hok l hm)))
   (by rw [show u.lines.map (fun l=>V.int l.charge)=iv (u.lines.map Ln.charge) by rw [iv,List.map_map]; rfl]; exact xl U _))
  (zD (xI B rfl rfl hu) rfl rfl) rfl)))
noncomputable def zDb (l:Ln):V:=.tup [.str l.item,.int l.p,.int l.s,.int l.b,.int l.a,.int l.r]
theorem zO0 (HT:zP T t) (h11:T 11=some zN1) (B:BookIn U b e h es hs) {o:Nat} {u:Or} (hu:es[o]?=some u.v) (hl:u.lines.length < LIM):zA T (d+2) false 11 [.ref b,.int o] U=.ok (.lst (u.lines.map zDb)) U:=
 zG h11 rfl (xf HT B rfl rfl (List.getElem?_eq_some_iff.mp hu).1 (zK (zHA B rfl rfl hu hl (g:=zDb) fun l _=>rfl)))
end
end Mine
end

section
namespace Mine
open PySem
structure Or.ok (u:Or):Prop where
 few:u.lines.length <= 20
 ls:∀ l ∈ u.lines,l.ok
theorem Or.ok.lim {u:Or} (h:u.ok):u.lines.length < LIM:=Nat.lt_of_le_of_lt h.few (by decide)
noncomputable def dL (w:Wd) (o k n:Int):V:=.tup [.str w.s,.int o,.int k,.int n]
noncomputable def ym (U:Sto):Option Cls->R V
 | none=>.ok .none U
 | some c=>.exc c U
noncomputable def atI {α:Type} (l:List α) (i:Int):Option α:=if (decide (0 <= i)&&decide (i < (l.length:Int)))=true then l[i.toNat]? else none
noncomputable def wa (n m:Int):Option Cls:=if n < 1 then some .NoNumber else if n > m then some .TooMuch else none
noncomputable def zKu (w:Wd) (n:Int):Option Ln->Option Cls
 | none=>some .NoLine
 | some l=>wa n (xX w l)
noncomputable def zKw (w:Wd) (k n:Int):Option Or->Option Cls
 | none=>some .NoOrder
 | some u=>zKu w n (atI u.lines k)
noncomputable def zKv (us:List Or) (w:Wd) (o k n:Int):Option Cls:=zKw w k n (atI us o)
theorem zi {α:Type} {l:List α} {i:Int} {x:α} (h:atI l i=some x):∃ k:Nat,i=k /\ l[k]?=some x:=by
 unfold atI at h
 split at h
 ·rename_i hc
  obtain ⟨k,rfl,_⟩:=in_iff.mp hc
  exact ⟨k,rfl,h⟩
 ·cases h
theorem wE {α:Type} {l:List α} {i:Int} (h:atI l i=none):(decide (0 <= i)&&decide (i < (l.length:Int)))=false:=by
 unfold atI at h
 split at h
 ·rename_i hc
  obtain ⟨k,rfl,hk⟩:=in_iff.mp hc
  rw [show (k:Int).toNat=k from rfl,List.getElem?_eq_none_iff] at h
  exact absurd hk (Nat.not_lt.mpr h)
 ·rename_i hc; exact Bool.eq_false_iff.mpr hc
section
variable {T:Nat->Option Fn} {t:Bool} {F Fq:Calls} {d:Nat} {q:Bool} {U:Sto} {b e h:Nat} {us:List Or} {hs:List V} {J:List V}
theorem wb (w:Wd):ev2 .eq U (.str w.s) (.str yb)=some (.bool false):=by cases w <;> rfl
theorem zHn (w:Wd):ev2 .eq U (.str w.s) (.str wM)=some (.bool false):=by cases w <;> rfl
theorem zHo (w:Wd):ev2 .eq U (.str w.s) (.str jz)=some (.bool false):=by cases w <;> rfl
theorem zFe (w:Wd):ev2 .eq U (.str w.s) (.str yC)=some (.bool false):=by cases w <;> rfl
theorem zMR (w:Wd):ev2 .ne U (.str w.s) (.str wM)=some (.bool true):=by cases w <;> rfl
theorem zQM (w:Wd):ev2 .isIn U (.str w.s) (.tup [.str jy,.str zFH,.str zFJ,.str zFI])=some (.bool true):=by cases w <;> rfl
theorem zNi (w:Wd):ev2 .notIn U (.str w.s) .parts=some (.bool false):=by cases w <;> rfl
theorem zQL (w:Wd):ev2 .index U .parts (.str w.s)=some (.int 4):=by cases w <;> rfl
theorem xD {o:Nat} {u:Or} (hu:us[o]?=some u):(us.map Or.v)[o]?=some u.v:=by rw [List.getElem?_map,hu]; rfl
theorem zOw (HT:zP T t) (B:BookIn U b e h (us.map Or.v) hs) {w:Wd} {o k:Nat} {n:Int} {u:Or} {l:Ln} (hu:us[o]?=some u) (hl:u.lines[k]?=some l) (h1:l.ok) :
  zA T (d+4) q 5 [.ref b,dL w o k n] U=.ok (.int (xX w l)) U:=
 zG HT.b5 rfl (s_t (zE (zD rfl rfl (zQM w))) (zK (zH (zC rfl (zC (zD (zD (z:=.tup (u.lines.map Ln.v)) (xI B rfl rfl (xD hu)) rfl rfl) rfl (wg U (by rw [List.getElem?_map,hl]; rfl))) rfl)) (zH8 HT h1 w))))
theorem zEL (HT:zP T t) (B:BookIn U b e h (us.map Or.v) hs) (hok:∀ u ∈ us,u.ok) (w:Wd) (o k n:Int) :
  zA T (d+5) false 4 [.ref b,dL w o k n] U=ym U (zKv us w o k n):=by
 show _=ym U (zKw w k n (atI us o))
 cases ho:atI us o with
 | none=>exact zl HT.b4 rfl (zAA HT B rfl rfl (by rw [List.length_map]; exact wE ho))
 | some u =>
  obtain ⟨o,rfl,hu⟩:=zi ho
  have hi:o < (us.map Or.v).length:=by rw [List.length_map]; exact (List.getElem?_eq_some_iff.mp hu).1
  have hlen:∀ {F:Calls},evE F false (.p1 .len (.p2 .index (.p2 .index (.attr (.var 0) 0) (.p2 .index (.var 1) (.lit (.int 1)))) (.lit (.int 0)))) [.ref b,dL w o k n] U=.ok (.int u.lines.length) U:=
   zV (zD (z:=.tup (u.lines.map Ln.v)) (xI B rfl rfl (xD hu)) rfl rfl) (by rw [zEn,List.length_map])
  show _=ym U (zKu w n (atI u.lines k))
  cases hk:atI u.lines k with
  | none =>
   exact zl HT.b4 rfl (xf HT B rfl rfl hi (s_f (zE (zD rfl rfl (wb w)))
    (s_t (zE (zn (zD rfl rfl (zQM w)) rfl (zV (yp rfl rfl hlen) (by rw [wE hk]; rfl)))) rfl)))
  | some l =>
   obtain ⟨k,rfl,hl⟩:=zi hk
   have hm:=zOw (d:=d) (q:=false) (n:=n) (w:=w) HT B hu hl ((hok u (List.mem_of_getElem? hu)).ls l (List.mem_of_getElem? hl))
   have pre:∀ {r:R Fl} ,exL (zA T (d+4) false) (zA T (d+4) true) false (fB_4.body.drop 3) [.ref b,dL w o k n] U=r->exL (zA T (d+4) false) (zA T (d+4) true) false fB_4.body [.ref b,dL w o k n] U=r:=fun kk =>
    xf HT B rfl rfl hi (s_f (zE (zD rfl rfl (wb w)))
     (s_f (zE (zn (zD rfl rfl (zQM w)) rfl (zV (yp rfl rfl hlen) (by rw [in_iff.mpr ⟨k,rfl,(List.getElem?_eq_some_iff.mp hl).1⟩]; rfl)))) kk))
   have g:evE (zA T (d+4) false) false (.and (.p2 .ne (.p2 .index (.var 1) (.lit (.int 0))) (.lit (.str wM))) (.p2 .gt (.p2 .index (.var 1) (.p1 .neg (.lit (.int 1)))) (.callm 5 (.var 0) [.var 1]))) [.ref b,dL w o k n] U=.ok (.bool (decide (n > xX w l))) U:=
    zn (zD rfl rfl (zMR w)) rfl (zD rfl (zQ rfl B.isInst rfl hm) rfl)
   show _=ym U (wa n (xX w l))
   unfold wa
   by_cases h1:n < 1
   ·rw [if_pos h1]
    exact zl HT.b4 rfl (pre (s_t (zE (t:=true) (zD rfl rfl (show _=some (V.bool true) by rw [xN,decide_eq_true h1]))) rfl))
   ·rw [if_neg h1]
    have h1':evC (zA T (d+4) false) false (some (.p2 .lt (.p2 .index (.var 1) (.p1 .neg (.lit (.int 1)))) (.lit (.int 1)))) [.ref b,dL w o k n] U=.ok false U:=
     zE (zD rfl rfl (show ev2 .lt U (.int n) (.int 1)=some (V.bool false) by rw [xN,decide_eq_false h1]))
    by_cases h2:n > xX w l
    ·rw [if_pos h2]
     exact zl HT.b4 rfl (pre (s_f h1' (s_t (zE (by rw [decide_eq_true h2] at g; exact g)) rfl)))
    ·rw [if_neg h2]
     exact xe HT.b4 rfl (pre (s_f h1' (s_f (zE (by rw [decide_eq_false h2] at g; exact g)) rfl)))
end
end Mine
end

section
namespace Mine
open PySem
section
variable {T:Nat->Option Fn} {t:Bool} {F Fq:Calls} {d:Nat} {q:Bool} {U:Sto} {b e h:Nat} {es hs:List V} {J:List V}
theorem zDp {a:CE} {lo hi:Option CE} {x z:V} {i j:Option Int} (ha:evE F q a J U=.ok x U) (hl:evO F q lo J U=.ok i U) (hh:evO F q hi J U=.ok j U) (h:wQ U x i j=some z):evE F q (.slice a lo hi) J U=.ok z U:=by
 rw [zHx,ha,R.bind_ok,hl,R.bind_ok,hh,R.bind_ok,h]; rfl
theorem zX {x:O} {i:Nat} {y:O} (hi:U[i]?=some y):(U++[x])[i]?=some y:=by
 rw [List.getElem?_append_left (List.getElem?_eq_some_iff.mp hi).1]; exact hi
theorem zI {i j:Nat} {x y:O} (hi:U[i]?=some y) (hne:j ≠ i):(U.set j x)[i]?=some y:=by
 rw [List.getElem?_set_ne hne]; exact hi
theorem yO {i:Nat} {x y:O} (hi:U[i]?=some y):(U.set i x)[i]?=some x:=
 List.getElem?_set_self (List.getElem?_eq_some_iff.mp hi).1
theorem BookIn.bh (B:BookIn U b e h es hs):h ≠ b:=fun q=>by have:=B.inst; rw [<- q,B.his] at this; cases this
theorem BookIn.be (B:BookIn U b e h es hs):e ≠ b:=fun q=>by have:=B.inst; rw [<- q,B.ent] at this; cases this
theorem BookIn.push (B:BookIn U b e h es hs) (x:O):BookIn (U++[x]) b e h es hs:=⟨zX B.inst,zX B.ent,zX B.his,B.ne⟩
theorem BookIn.setH (B:BookIn U b e h es hs) (hs':List V):BookIn (U.set h (.list hs')) b e h es hs':=
 ⟨zI B.inst B.bh,zI B.ent B.ne.symm,yO B.his,B.ne⟩
theorem BookIn.setE (B:BookIn U b e h es hs) (es':List V):BookIn (U.set e (.list es')) b e h es' hs:=
 ⟨zI B.inst B.be,yO B.ent,zI B.his B.ne,B.ne⟩
theorem BookIn.keep {U':Sto} (B:BookIn U b e h es hs) (k:∀ (i:Nat) (o:O),U[i]?=some o->U'[i]?=some o):BookIn U' b e h es hs:=⟨k _ _ B.inst,k _ _ B.ent,k _ _ B.his,B.ne⟩
theorem zHf (B:BookIn U b e h es hs) (h0:zN J 0=some (.ref b)) {c v:CE} {o:Nat} {x:V} (hv:evE F q v J U=.ok x U) (hc:evE F q c J U=.ok (.int o) U) (ho:o < es.length) {rest:List CS} {r:R Fl} (k:exL F Fq q rest J (U.set e (.list (es.set o x)))=r) :
  exL F Fq q (.setItem (.attr (.var 0) 0) c v :: rest) J U=r:=
 zq hv (zBk B h0) hc (yQ U B.ent ho) k
theorem zMD {xs:List V} {k:Nat} (hk:k < xs.length):wQ U (.tup xs) none (some (k:Int))=some (.tup (xs.take k)):=by
 show some (V.tup ((xs.take (if (k:Int) < 0 then ((k:Int)+xs.length).toNat else min (k:Int).toNat xs.length)).drop 0))=_
 rw [if_neg (Int.not_lt.mpr (Int.natCast_nonneg k)),Int.toNat_natCast,Nat.min_eq_left (Nat.le_of_lt hk),List.drop_zero]
theorem zGV {xs:List V} {k:Nat} (hk:k < xs.length):wQ U (.tup xs) (some ((k:Int)+1)) none=some (.tup (xs.drop (k+1))):=by
 show some (V.tup ((xs.take xs.length).drop (if (k:Int)+1 < 0 then ((k:Int)+1+xs.length).toNat else min ((k:Int)+1).toNat xs.length)))=_
 rw [if_neg (show ¬ ((k:Int)+1 < 0) from Int.not_lt.mpr (Int.natCast_nonneg (k+1))),List.take_length,show ((k:Int)+1).toNat=k+1 from rfl,Nat.min_eq_left hk]
theorem zBF {xs ys:List V} (hl:xs.length+ys.length <= LIM):ev2 .add U (.tup xs) (.tup ys)=some (.tup (xs++ys)):=by
 show (if xs.length+ys.length <= LIM then some (V.tup (xs++ys)) else none)=_
 rw [if_pos hl]
theorem zFV {k n:Nat} (hk:k < n) (hl:n <= LIM):min k n+1 <= LIM /\ min k n+1+(n - (k+1)) <= LIM:=by
 rw [Nat.min_eq_left (Nat.le_of_lt hk),Nat.add_sub_of_le hk]
 exact ⟨Nat.le_trans hk hl,hl⟩
theorem zPP {a i x:CE} {xs:List V} {k:Nat} {v:V} (hx:evE F q a J U=.ok (.tup xs) U) (hi:evE F q i J U=.ok (.int k) U) (hv:evE F q x J U=.ok v U) (hk:k < xs.length) (hl:xs.length <= LIM) :
  evE F q (.p2 .add (.p2 .add (.slice a none (some i)) (.tup [x])) (.slice a (some (.p2 .add i (.lit (.int 1)))) none)) J U=.ok (.tup (xs.set k v)) U:=by
 have h1:evO F q (some i) J U=.ok (some (k:Int)) U:=by rw [zEJ,hi]; rfl
 have h2:evO F q (some (.p2 .add i (.lit (.int 1)))) J U=.ok (some ((k:Int)+1)) U:=by rw [zEJ,zD hi rfl (zDr U k 1)]; rfl
 have e:=zD (zD (zDp (lo:=none) hx rfl h1 (zMD hk)) (yg (es:=[x]) (vs:=[v]) (zC hv rfl)) (zBF (U:=U) (by rw [List.length_take]; exact (zFV hk hl).1))) (zDp (hi:=none) hx h2 rfl (zGV hk)) (zBF (U:=U) (by rw [List.length_append,List.length_take,List.length_drop]; exact (zFV hk hl).2))
 rw [e,List.set_eq_take_append_cons_drop,if_pos hk,List.append_assoc]; rfl
end
noncomputable def upL (w:Wd) (u:Or) (k:Nat) (l:Ln) (n:Int):Or:={ lines:=u.lines.set k (zb w l n),paid:=u.paid,rows:=u.rows++[(w.s,(zb w l n).charge - l.charge)] }
noncomputable def yi (U:Sto) (h:Nat) (hs:List V) (deed:V) (old:List (Int × V)):Sto:=List.set (U++[O.dict old]) h (O.list (hs++[V.tup [deed,V.ref U.length]]))
theorem xd {w:Wd} {l:Ln} {n:Int} (h:l.ok):(zb w l n).ok:=by cases w <;> exact ⟨h.1,h.2,h.3,h.4,h.5,h.6⟩
theorem zEC {α β:Type} (f:α->β) (l:List α) (i:Nat) (x:α):(l.map f).set i (f x)=(l.set i x).map f:=by rw [List.map_set]
theorem wL {U:Sto} {x y:O}:(U++[x]).set U.length y=U++[y]:=by
 rw [List.set_append_right _ _ (Nat.le_refl _),Nat.sub_self]; rfl
theorem zj {U:Sto} {x:O}:(U++[x])[U.length]?=some x:=by
 rw [List.getElem?_append_right (Nat.le_refl _),Nat.sub_self]; rfl
section
variable {T:Nat->Option Fn} {t:Bool} {d:Nat} {q:Bool} {U:Sto} {b e h:Nat} {us:List Or} {hs:List V} {w:Wd} {o k:Nat} {n:Int} {u:Or} {l:Ln}
theorem zO1 (HT:zP T t) (B:BookIn U b e h (us.map Or.v) hs) (hu:us[o]?=some u) (hl:u.lines[k]?=some l) (hok:u.ok) (hr:u.rows.length < LIM) :
  zA T (d+3) false 8 [.ref b,.int o,.int k,.str w.s,.int n] U=.ok (.tup [.int o,.int ((zb w l n).charge - l.charge)]) (U.set e (.list ((us.set o (upL w u k l n)).map Or.v))):=by
 have hl1:=hok.ls l (List.mem_of_getElem? hl)
 have hkl:k < (u.lines.map Ln.v).length:=by rw [List.length_map]; exact (List.getElem?_eq_some_iff.mp hl).1
 have hlm:(u.lines.map Ln.v).length <= LIM:=by rw [List.length_map]; exact Nat.le_of_lt hok.lim
 have ho:o < (us.map Or.v).length:=by rw [List.length_map]; exact (List.getElem?_eq_some_iff.mp hu).1
 refine zG HT.b8 rfl ?_
 refine zJ (v:=u.v) (xI B rfl rfl (xD hu)) ?_
 refine zJ (v:=l.v) (zD (x:=.tup (u.lines.map Ln.v)) rfl rfl (wg U (by rw [List.getElem?_map,hl]; rfl))) ?_
 refine zJ (v:=(zb w l n).v) (zH rfl (zKQ HT hl1 w n)) ?_
 refine zJ (v:=.int ((zb w l n).charge - l.charge)) (zD (zH rfl (jQ HT (xd hl1))) (zH rfl (jQ HT hl1)) rfl) ?_
 refine zJ (v:=.tup ((u.lines.set k (zb w l n)).map Ln.v)) (by rw [<- zEC]; exact zPP (xs:=u.lines.map Ln.v) rfl rfl rfl hkl hlm) ?_
 refine zHf B rfl (x:=(upL w u k l n).v) ?_ rfl ho (zK ?_)
 ·refine yg (zC rfl (zC rfl (zC ?_ rfl)))
  refine zD (x:=.tup (u.rows.map xm)) (y:=.tup [xm (w.s,(zb w l n).charge - l.charge)]) rfl rfl ?_
  rw [zBF (by rw [List.length_map]; exact hr)]
  show _=some (V.tup ((u.rows++[_]).map xm))
  rw [List.map_append]; rfl
 ·rw [zEC]; rfl
theorem zH4 (HT:zP T t) (B:BookIn U b e h (us.map Or.v) hs) (hu:us[o]?=some u) (hl:u.lines[k]?=some l) (hok:u.ok) (hr:u.rows.length < LIM) (hh:hs.length < LIM) :
  zA T (d+4) false 6 [.ref b,dL w o k n] U=.ok (rv t ((yi U h hs (dL w o k n) [((o:Int),u.v)]).set e (.list ((us.set o (upL w u k l n)).map Or.v))) [.tup [.int o,.int ((zb w l n).charge - l.charge)]]) (rs t ((yi U h hs (dL w o k n) [((o:Int),u.v)]).set e (.list ((us.set o (upL w u k l n)).map Or.v))) [.tup [.int o,.int ((zb w l n).charge - l.charge)]]):=by
 have B1:=B.push (.dict [])
 have B2:=B.push (.dict [((o:Int),u.v)])
 have B3:BookIn (yi U h hs (dL w o k n) [((o:Int),u.v)]) b e h (us.map Or.v) (hs++[.tup [dL w o k n,.ref U.length]]):=B2.setH _
 refine zG HT.b6 rfl ?_
 refine zJ (v:=.str w.s) rfl (zJ (v:=.int n) rfl ?_)
 refine zJ (v:=.ref U.length) (U':=U++[.dict [((o:Int),u.v)]]) ?_ ?_
 ·rw [zEI,show evE (zA T (d+3) false) false (.p2 .index (.var 1) (.lit (.int 1))) _ (U++[.dict []])=.ok (.int o) (U++[.dict []]) from rfl,R.bind_ok,xI B1 rfl rfl (xD hu),R.bind_ok]
  show zBi U.length (U++[.dict []]) o u.v (U++[.dict []])[U.length]?=_
  rw [zj]
  show R.ok (V.ref U.length) ((U++[O.dict []]).set U.length (O.dict [((o:Int),u.v)]))=_
  rw [wL]
 refine s_f (zE (zD rfl rfl (wb w))) ?_
 refine yR (U':=yi U h hs (dL w o k n) [((o:Int),u.v)]) (yU (jT B2 rfl) (by show (wT _).isSome=true; rw [B2.his]; rfl) (yg (zC rfl (zC rfl rfl))) (yB _ B2.his hh)) ?_
 refine s_f (zE (zD rfl rfl (wb w))) (s_f (zE (zD rfl rfl (zHn w))) (s_f (zE (zD rfl rfl (zHo w))) ?_))
 exact zK (zCZ (zC (zQ rfl B3.isInst rfl (zO1 HT B3 hu hl hok hr)) rfl))
theorem zG3 (HT:zP T t) {o k n:Int} {F Fq:Calls} {r:R Fl} (kk:exL F Fq false (fB_2.body.drop 2) [.ref b,dL w o k n] U=r):exL F Fq false fB_2.body [.ref b,dL w o k n] U=r:=
 s_f (zE (zW rfl rfl (zW (zD rfl rfl (zNi w)) rfl (zD rfl (zD rfl rfl (zQL w)) rfl)))) (s_f (zE (zD rfl rfl (zFe w))) kk)
theorem zQm (HT:zP T t) (B:BookIn U b e h (us.map Or.v) hs) (hok:∀ u ∈ us,u.ok) {o k n:Int} {c:Cls} (he:zKv us w o k n=some c):zA T (d+6) false 2 [.ref b,dL w o k n] U=.exc c U:=
 zl HT.b2 rfl (zG3 HT (zB7 (zQ rfl B.isInst rfl ((zEL HT B hok w o k n).trans (by rw [he]; rfl)))))
theorem zOo (HT:zP T t) (B:BookIn U b e h (us.map Or.v) hs) (hok:∀ u ∈ us,u.ok) (he:zKv us w o k n=none) (hu:us[o]?=some u) (hl:u.lines[k]?=some l) (hr:u.rows.length < LIM) (hh:hs.length < LIM) :
  zA T (d+6) false 2 [.ref b,dL w o k n] U=.ok (rv t ((yi U h hs (dL w o k n) [((o:Int),u.v)]).set e (.list ((us.set o (upL w u k l n)).map Or.v))) [.tup [.int o,.int ((zb w l n).charge - l.charge)]]) (rs t ((yi U h hs (dL w o k n) [((o:Int),u.v)]).set e (.list ((us.set o (upL w u k l n)).map Or.v))) [.tup [.int o,.int ((zb w l n).charge - l.charge)]]):=
 zG HT.b2 rfl (zG3 HT (yR (zQ rfl B.isInst rfl ((zEL HT B hok w o k n).trans (by rw [he]; rfl))) (zK (zQ rfl B.isInst rfl (zH4 HT B hu hl (hok u (List.mem_of_getElem? hu)) hr hh)))))
end
end Mine
end

section
namespace Mine
open PySem
noncomputable def xV:Str:={ cps:=#[97,98,99,100,101,102,103,104,105,106,107,108,109,110,111,112,113,114,115,116,117,118,119,120,121,122] }
noncomputable def xU (c:Nat):Bool:=(yI xV).contains c
noncomputable def wr (s:Str):Bool:=decide (1 <= s.length)&&decide (s.length <= 12)&&(yI s).all xU
noncomputable def Ln.raw (l:Ln):V:=.tup [.str l.item,.int l.p,.int l.c,.int l.k]
noncomputable def Ln.fresh (l:Ln):Ln:={ l with s:=0,b:=0,a:=0,r:=0 }
theorem Ln.ok.fresh {l:Ln} (h:l.ok):l.fresh.ok:=⟨h.1,h.2,h.3,h.4,h.5,h.6⟩
structure Ln.good (l:Ln):Prop where
 ok:l.ok
 item:wr l.item=true
 asc:l.item.cps.all (· < 128)=true
noncomputable def xZ (ls:List Ln):Or:={ lines:=ls.map Ln.fresh,paid:=0,rows:=[] }
section
variable {T:Nat->Option Fn} {t:Bool} {F Fq:Calls} {d:Nat} {q:Bool} {U:Sto} {b e h:Nat} {es hs:List V} {J:List V}
theorem zIN {a b c:CE} {lo x hi:Int} (ha:evE F q a J U=.ok (.int lo) U) (hb:evE F q b J U=.ok (.int x) U) (hc:evE F q c J U=.ok (.int hi) U):evE F q (.chain a [.le,.le] [b,c]) J U=.ok (.bool (decide (lo <= x)&&decide (x <= hi))) U:=by
 rw [zBT,ha,R.bind_ok,zHs,hb]
 show (if decide (lo <= x)=true then evChain F q [P2.le] [c] (.int x) J U else .ok (.bool (decide (lo <= x))) U)=_
 cases decide (lo <= x) with
 | false=>rfl
 | true =>
  show evChain F q [P2.le] [c] (.int x) J U=_
  rw [zHr,hc]; rfl
theorem zMn {lo x hi:Int} (h1:lo <= x) (h2:x <= hi):(decide (lo <= x)&&decide (x <= hi))=true:=by
 rw [decide_eq_true h1,decide_eq_true h2]; rfl
theorem wl {a b c:CE} {lo x hi:Int} (h1:lo <= x) (h2:x <= hi) (ha:evE F q a J U=.ok (.int lo) U) (hb:evE F q b J U=.ok (.int x) U) (hc:evE F q c J U=.ok (.int hi) U):evE F q (.p1 .not (.chain a [.le,.le] [b,c])) J U=.ok (.bool false) U:=
 zV (zIN ha hb hc) (by rw [zMn h1 h2]; rfl)
theorem zCX {α:Type} (g:α->Bool):∀ l:List α,bools? (l.map fun x=>V.bool (g x))=some (l.map g)
 | []=>rfl
 | x :: l=>by
  have:=zCX g l
  unfold bools? at this ⊢
  rw [List.map_cons,List.mapM_cons,this]; rfl
theorem zOv (HT:zP T t) {s:Str} (h1:wr s=true) (h2:s.cps.all (· < 128)=true):zA T (d+1) false 21 [.str s] U=.ok (.bool true) U:=by
 unfold wr at h1
 rw [Bool.and_eq_true,Bool.and_eq_true,decide_eq_true_eq,decide_eq_true_eq] at h1
 obtain ⟨⟨ha,hb⟩,hc⟩:=h1
 refine zG HT.b21 rfl (s_f (zE (zW rfl rfl (wl (x:=(s.length:Int)) (by omega) (by omega) rfl rfl rfl))) (zK ?_))
 have e:=yh (F:=zA T d false) (elt:=.p2 .isIn (.var 1) (.lit (.str xV))) (k:=.val) (src:=[.var 0]) (cond:=none) (J:=[.str s]) (U:=U) (l:=yI s) (φ:=fun c=>.str (mkS [c])) (fun _=>true) (fun c=>.bool (xU c))
  rfl (show yM U .val [.str s]=some (.now (xh s)) by show (if s.cps.all (· < 128)=true then some (Items.now (xh s)) else none)=_; rw [if_pos h2]) (.inl rfl)
  (by show (yI s).length < LIM; rw [show (yI s).length=s.length from rfl]; exact Nat.lt_of_le_of_lt hb (by decide)) (fun _ _=>rfl) (fun c _ _=>rfl)
 rw [xA] at e
 refine zV e ?_
 show ((bools? ((yI s).map fun c=>V.bool (xU c))).map fun l=>V.bool (l.all id))=_
 rw [zCX,show (some ((yI s).map xU)).map (fun l=>V.bool (l.all id))=some (V.bool (((yI s).map xU).all id)) from rfl,List.all_map]
 exact congrArg (fun b=>some (V.bool b)) hc
theorem zMf (HT:zP T t) {l:Ln}:zA T (d+1) q 23 [l.raw] U=.ok l.fresh.v U:=zG HT.b23 rfl (zK rfl)
noncomputable def dO (ls:List Ln):V:=.tup [.str yC,.lst (ls.map Ln.raw)]
theorem zDW {c v:CE} {k n:Nat} {x:V} {as:List (Nat × V)} {U1:Sto} (hv:evE F q v J U=.ok x U1) (ho:evE F q c J U1=.ok (.ref n) U1) (hn:U1[n]?=some (.inst as)) (hk:k < 2) {rest:List CS} {r:R Fl} (kk:exL F Fq q rest J (U1.set n (.inst ((k,x) :: as)))=r) :
  exL F Fq q (.setAttr c k v :: rest) J U=r:=by
 rw [yl,zDd,hv,R.bind_ok,ho,R.bind_ok,show wd U1 (.ref n) k x=kJ U1 n k x U1[n]? from rfl,hn,show kJ U1 n k x (some (.inst as))=if k < 2 then .ok () (U1.set n (.inst ((k,x) :: as))) else .stuck from rfl,if_pos hk]
 exact kk
noncomputable def wX (U:Sto):Sto:=U++[.inst [(1,.ref (U.length+2)),(0,.ref (U.length+1))],.list [],.list []]
theorem vG {l r:Sto} {x:O}:(l++x :: r)[l.length]?=some x:=by
 rw [List.getElem?_append_right (Nat.le_refl _),Nat.sub_self]; rfl
theorem zBR {l r:Sto} {x y:O}:(l++x :: r).set l.length y=l++y :: r:=by
 rw [List.set_append_right _ _ (Nat.le_refl _),Nat.sub_self]; rfl
theorem zNs (HT:zP T t):evE (zA T (d+1) q) q .new J U=.ok (.ref U.length) (wX U):=by
 have hc:zA T (d+1) q 0 [.ref U.length] (U++[.inst []])=.ok .none (wX U):=by
  refine xe (J:=[.ref U.length]) HT.b0 rfl (zDW (U1:=U++[.inst [],.list []]) (x:=.ref (U.length+1)) ?_ rfl vG (by decide) ?_)
  ·show R.ok (V.ref (U++[O.inst []]).length) ((U++[O.inst []])++[O.list []])=_
   rw [List.length_append,List.append_assoc]; rfl
  ·rw [zBR]
   refine zDW (U1:=U++[.inst [(0,.ref (U.length+1))],.list [],.list []]) (x:=.ref (U.length+2)) ?_ rfl vG (by decide) ?_
   ·show R.ok (V.ref (U++[O.inst [(0,.ref (U.length+1))],O.list []]).length) ((U++[O.inst [(0,.ref (U.length+1))],O.list []])++[O.list []])=_
    rw [List.length_append,List.append_assoc]; rfl
   ·rw [zBR]; rfl
 rw [zRt,hc]; rfl
end
end Mine
end

section
namespace Mine
open PySem
noncomputable def dP (o n:Int):V:=.tup [.str wM,.int o,.int n]
noncomputable def dR (o n:Int):V:=.tup [.str jz,.int o,.int n]
noncomputable def dM (o p n:Int):V:=.tup [.str yb,.int o,.int p,.int n]
noncomputable def zCd (n:Int):Option Or->Option Cls
 | none=>some .NoOrder
 | some _=>if n < 1 then some .NoNumber else none
noncomputable def zBo (us:List Or) (o n:Int):Option Cls:=zCd n (atI us o)
noncomputable def zEm (n:Int):Option Or->Option Cls
 | none=>some .NoOrder
 | some u=>wa n (0 - u.owed)
noncomputable def zBp (us:List Or) (o n:Int):Option Cls:=zEm n (atI us o)
noncomputable def zEl (u:Or) (o p n:Int):Option Or->Option Cls
 | none=>some .NoOrder
 | some _=>if o==p then some .SameOrder else wa n (0 - u.owed)
noncomputable def zEk (us:List Or) (o p n:Int):Option Or->Option Cls
 | none=>some .NoOrder
 | some u=>zEl u o p n (atI us p)
noncomputable def zBn (us:List Or) (o p n:Int):Option Cls:=zEk us o p n (atI us o)
noncomputable def xH (u:Or) (w:Str) (c:Int):Or:={ lines:=u.lines,paid:=u.paid+c,rows:=u.rows++[(w,0 - c)] }
section
variable {T:Nat->Option Fn} {t:Bool} {F Fq:Calls} {d:Nat} {q:Bool} {U:Sto} {b e h:Nat} {us:List Or} {hs:List V} {J:List V} {o p:Nat} {n:Int} {u u':Or}
theorem zBG {o:Int} (ho:atI us o=none):(decide (0 <= o)&&decide (o < ((us.map Or.v).length:Int)))=false:=by rw [List.length_map]; exact wE ho
theorem jL (hu:us[o]?=some u):o < (us.map Or.v).length:=by rw [List.length_map]; exact (List.getElem?_eq_some_iff.mp hu).1
theorem zBH (HT:zP T t) (B:BookIn U b e h (us.map Or.v) hs) (hu:us[o]?=some u) (w:Str) (c:Int) (hr:u.rows.length < LIM) :
  zA T (d+1) q 7 [.ref b,.int o,.str w,.int c] U=.ok (.tup [.int o,.int (0 - c)]) (U.set e (.list ((us.set o (xH u w c)).map Or.v))):=by
 refine zG HT.b7 rfl (zJ (v:=u.v) (xI B rfl rfl (xD hu)) (zHf B rfl (x:=(xH u w c).v) ?_ rfl (jL hu) (zK ?_)))
 ·refine yg (zC rfl (zC rfl (zC (zD (x:=.tup (u.rows.map xm)) (y:=.tup [xm (w,0 - c)]) rfl rfl ?_) rfl)))
  rw [zBF (by rw [List.length_map]; exact hr)]
  show _=some (V.tup ((u.rows++[_]).map xm))
  rw [List.map_append]; rfl
 ·rw [zEC]; rfl
theorem zCE {deed:V} {m n:Int} {w:Str} (hv:zN [.ref b,deed] 1=some deed) (hw:ev2 .index U deed (.int 0)=some (.str w)) (hl:ev2 .index U deed (.int (-1))=some (.int n)) (hp:ev2 .ne U (.str w) (.str wM)=some (.bool true))
  (hi:isInst U (.ref b)=true) (hm:F 5 [.ref b,deed] U=.ok (.int m) U):exL F Fq false (fB_4.body.drop 3) [.ref b,deed] U=(match wa n m with | none=>.ok (.next [.ref b,deed]) U | some c=>.exc c U):=by
 have v1:evE F false (.var 1) [.ref b,deed] U=.ok deed U:=by rw [zv,hv]; rfl
 have l1:evE F false (.p2 .index (.var 1) (.p1 .neg (.lit (.int 1)))) [.ref b,deed] U=.ok (.int n) U:=zD v1 (zV rfl rfl) hl
 have g:evE F false (.and (.p2 .ne (.p2 .index (.var 1) (.lit (.int 0))) (.lit (.str wM))) (.p2 .gt (.p2 .index (.var 1) (.p1 .neg (.lit (.int 1)))) (.callm 5 (.var 0) [.var 1]))) [.ref b,deed] U=.ok (.bool (decide (n > m))) U:=
  zn (zD (zD v1 rfl hw) rfl hp) rfl (zD l1 (zQ rfl hi (zC v1 rfl) hm) rfl)
 unfold wa
 by_cases h1:n < 1
 ·rw [if_pos h1]
  exact s_t (zE (zD l1 rfl (by rw [xN,decide_eq_true h1]))) rfl
 ·rw [if_neg h1]
  have h1':evC F false (some (.p2 .lt (.p2 .index (.var 1) (.p1 .neg (.lit (.int 1)))) (.lit (.int 1)))) [.ref b,deed] U=.ok false U:=zE (zD l1 rfl (by rw [xN,decide_eq_false h1]))
  by_cases h2:n > m
  ·rw [if_pos h2]; exact s_f h1' (s_t (zE (by rw [decide_eq_true h2] at g; exact g)) rfl)
  ·rw [if_neg h2]; exact s_f h1' (s_f (zE (by rw [decide_eq_false h2] at g; exact g)) rfl)
theorem zCb (HT:zP T t) {deed:V} {x:Option Cls} (h:exL (zA T d false) (zA T d true) false fB_4.body [.ref b,deed] U=(match x with | none=>.ok (.next [.ref b,deed]) U | some c=>.exc c U)):zA T (d+1) false 4 [.ref b,deed] U=ym U x:=by
 cases x with
 | none=>exact xe HT.b4 rfl h
 | some c=>exact zl HT.b4 rfl h
theorem zEN (HT:zP T t) (B:BookIn U b e h (us.map Or.v) hs) (o n:Int):zA T (d+2) false 4 [.ref b,dP o n] U=ym U (zBo us o n):=by
 show _=ym U (zCd n (atI us o))
 cases ho:atI us o with
 | none=>exact zl HT.b4 rfl (zAA HT B rfl rfl (zBG ho))
 | some u =>
  obtain ⟨o,rfl,hu⟩:=zi ho
  show _=ym U (if n < 1 then some .NoNumber else none)
  by_cases h1:n < 1
  ·rw [if_pos h1]
   exact zl HT.b4 rfl (xf HT B rfl rfl (jL hu) (s_f rfl (s_f rfl (s_t (zE (t:=true) (zD rfl rfl (show ev2 .lt U (.int n) (.int 1)=_ by rw [xN,decide_eq_true h1]))) rfl))))
  ·rw [if_neg h1]
   exact xe HT.b4 rfl (xf HT B rfl rfl (jL hu) (s_f rfl (s_f rfl (s_f (zE (t:=false) (zD rfl rfl (show ev2 .lt U (.int n) (.int 1)=_ by rw [xN,decide_eq_false h1]))) (s_f rfl rfl)))))
theorem zMh (HT:zP T t) (B:BookIn U b e h (us.map Or.v) hs) (hok:∀ u ∈ us,u.ok) (hu:us[o]?=some u):zA T (d+4) false 5 [.ref b,dR o n] U=.ok (.int (0 - u.owed)) U:=
 have k:=hok u (List.mem_of_getElem? hu)
 zG HT.b5 rfl (s_f rfl (zK (zD rfl (zQ rfl B.isInst rfl (zFq HT B (xD hu) k.lim k.ls)) rfl)))
theorem zMg (HT:zP T t) (B:BookIn U b e h (us.map Or.v) hs) (hok:∀ u ∈ us,u.ok) (hu:us[o]?=some u) {p:Int}:zA T (d+4) false 5 [.ref b,dM o p n] U=.ok (.int (0 - u.owed)) U:=
 have k:=hok u (List.mem_of_getElem? hu)
 zG HT.b5 rfl (s_f rfl (zK (zD rfl (zQ rfl B.isInst rfl (zFq HT B (xD hu) k.lim k.ls)) rfl)))
theorem zEO (HT:zP T t) (B:BookIn U b e h (us.map Or.v) hs) (hok:∀ u ∈ us,u.ok) (o n:Int):zA T (d+5) false 4 [.ref b,dR o n] U=ym U (zBp us o n):=by
 show _=ym U (zEm n (atI us o))
 cases ho:atI us o with
 | none=>exact zl HT.b4 rfl (zAA HT B rfl rfl (zBG ho))
 | some u =>
  obtain ⟨o,rfl,hu⟩:=zi ho
  exact zCb HT (xf HT B rfl rfl (jL hu) (s_f rfl (s_f rfl (zCE rfl rfl rfl rfl B.isInst (zMh HT B hok hu)))))
theorem zEM (HT:zP T t) (B:BookIn U b e h (us.map Or.v) hs) (hok:∀ u ∈ us,u.ok) (o p n:Int):zA T (d+5) false 4 [.ref b,dM o p n] U=ym U (zBn us o p n):=by
 show _=ym U (zEk us o p n (atI us o))
 cases ho:atI us o with
 | none=>exact zl HT.b4 rfl (zAA HT B rfl rfl (zBG ho))
 | some u =>
  obtain ⟨o,rfl,hu⟩:=zi ho
  show _=ym U (zEl u o p n (atI us p))
  cases hp:atI us p with
  | none=>exact zl HT.b4 rfl (xf HT B rfl rfl (jL hu) (s_t rfl (zAA HT B rfl rfl (zBG hp))))
  | some u' =>
   obtain ⟨p,rfl,hu'⟩:=zi hp
   show _=ym U (if (o:Int)==p then some .SameOrder else wa n (0 - u.owed))
   have pre:∀ {r:R Fl},exL (zA T (d+4) false) (zA T (d+4) true) false (.ite (.p2 .eq (.p2 .index (.var 1) (.lit (.int 1))) (.p2 .index (.var 1) (.lit (.int 2)))) [.raise .SameOrder] [] :: fB_4.body.drop 2) [.ref b,dM o p n] U=r->exL (zA T (d+4) false) (zA T (d+4) true) false fB_4.body [.ref b,dM o p n] U=r:=fun k =>
    xf HT B rfl rfl (jL hu) (s_t rfl (xf HT B rfl rfl (jL hu') k))
   cases hop:((o:Int)==p) with
   | true=>exact zl HT.b4 rfl (pre (s_t (zE (zD rfl rfl (show ev2 .eq U (.int o) (.int p)=_ by rw [xM,hop]))) rfl))
   | false=>exact zCb HT (pre (s_f (zE (zD rfl rfl (show ev2 .eq U (.int o) (.int p)=_ by rw [xM,hop]))) (s_f rfl (zCE rfl rfl rfl rfl B.isInst (zMg HT B hok hu)))))
end
end Mine
end

section
namespace Mine
open PySem
section
variable {T:Nat->Option Fn} {t:Bool} {F Fq:Calls} {d:Nat} {q:Bool} {U:Sto} {b e h:Nat} {us:List Or} {hs:List V} {J:List V} {o p:Nat} {n:Int} {u u':Or}
theorem zKs (B:BookIn U b e h (us.map Or.v) hs) (h0:zN J 0=some (.ref b)) {c:CE} (hc:∀ U,evE F q c J U=.ok (.int o) U) (hu:us[o]?=some u) :
  evE F q (.dict1 c (.p2 .index (.attr (.var 0) 0) c)) J U=.ok (.ref U.length) (U++[.dict [((o:Int),u.v)]]):=by
 rw [zEI,hc,R.bind_ok,xI (B.push (.dict [])) h0 (hc _) (xD hu),R.bind_ok]
 show zBi U.length (U++[.dict []]) o u.v (U++[.dict []])[U.length]?=_
 rw [zj]
 show R.ok (V.ref U.length) ((U++[O.dict []]).set U.length (O.dict [((o:Int),u.v)]))=_
 rw [wL]
theorem zGT {U0:Sto} {old:List (Int × V)} {deed:V} {rest:List CS} {r:R Fl} (B:BookIn (U0++[.dict old]) b e h (us.map Or.v) hs) (h0:zN J 0=some (.ref b)) (h1:zN J 1=some deed) (h4:zN J 4=some (.ref U0.length)) (hh:hs.length < LIM)
  (k:exL F Fq q rest J (yi U0 h hs deed old)=r):exL F Fq q (.exp (.append (.attr (.var 0) 1) (.tup [.var 1,.var 4])) :: rest) J (U0++[.dict old])=r:=
 yR (yU (jT B h0) (by show (wT _).isSome=true; rw [B.his]; rfl) (yg (zC (by rw [zv,h1]; rfl) (zC (by rw [zv,h4]; rfl) rfl))) (yB _ B.his hh)) k
theorem zH6 (HT:zP T t) (B:BookIn U b e h (us.map Or.v) hs) (hu:us[o]?=some u) (hr:u.rows.length < LIM) (hh:hs.length < LIM) :
  zA T (d+2) false 6 [.ref b,dP o n] U=.ok (rv t ((yi U h hs (dP o n) [((o:Int),u.v)]).set e (.list ((us.set o (xH u wM n)).map Or.v))) [.tup [.int o,.int (0 - n)]]) (rs t ((yi U h hs (dP o n) [((o:Int),u.v)]).set e (.list ((us.set o (xH u wM n)).map Or.v))) [.tup [.int o,.int (0 - n)]]):=by
 have B2:=B.push (.dict [((o:Int),u.v)])
 have B3:BookIn (yi U h hs (dP o n) [((o:Int),u.v)]) b e h (us.map Or.v) (hs++[.tup [dP o n,.ref U.length]]):=B2.setH _
 exact zG HT.b6 rfl (zJ (v:=.str wM) rfl (zJ (v:=.int n) rfl (zJ (zKs B rfl (fun _=>rfl) hu) (s_f rfl (zGT B2 rfl rfl rfl hh (s_f rfl (s_t rfl (zK (zCZ (zC (zQ rfl B3.isInst rfl (zBH HT B3 hu wM n hr)) rfl))))))))))
theorem zH7 (HT:zP T t) (B:BookIn U b e h (us.map Or.v) hs) (hu:us[o]?=some u) (hr:u.rows.length < LIM) (hh:hs.length < LIM) :
  zA T (d+2) false 6 [.ref b,dR o n] U=.ok (rv t ((yi U h hs (dR o n) [((o:Int),u.v)]).set e (.list ((us.set o (xH u jz (0 - n))).map Or.v))) [.tup [.int o,.int (0 - (0 - n))]]) (rs t ((yi U h hs (dR o n) [((o:Int),u.v)]).set e (.list ((us.set o (xH u jz (0 - n))).map Or.v))) [.tup [.int o,.int (0 - (0 - n))]]):=by
 have B2:=B.push (.dict [((o:Int),u.v)])
 have B3:BookIn (yi U h hs (dR o n) [((o:Int),u.v)]) b e h (us.map Or.v) (hs++[.tup [dR o n,.ref U.length]]):=B2.setH _
 exact zG HT.b6 rfl (zJ (v:=.str jz) rfl (zJ (v:=.int n) rfl (zJ (zKs B rfl (fun _=>rfl) hu) (s_f rfl (zGT B2 rfl rfl rfl hh (s_f rfl (s_f rfl (s_t rfl (zK (zCZ (zC (zQ rfl B3.isInst rfl (zBH HT B3 hu jz (0 - n) hr)) rfl)))))))))))
noncomputable def zA4 (us:List Or) (o p:Nat) (u u':Or) (n:Int):List Or:=(us.set o (xH u yb (0 - n))).set p (xH u' yb n)
theorem zKA {U:Sto} {i:Nat} {x y:O}:(U.set i x).set i y=U.set i y:=List.set_set ..
theorem zH5 (HT:zP T t) (B:BookIn U b e h (us.map Or.v) hs) (hu:us[o]?=some u) (hu':us[p]?=some u') (hop:o ≠ p) (hr:u.rows.length < LIM) (hr':u'.rows.length < LIM) (hh:hs.length < LIM) :
  zA T (d+2) false 6 [.ref b,dM o p n] U=.ok (rv t ((yi U h hs (dM o p n) [((o:Int),u.v),((p:Int),u'.v)]).set e (.list ((zA4 us o p u u' n).map Or.v))) [.tup [.int o,.int (0 - (0 - n))],.tup [.int p,.int (0 - n)]]) (rs t ((yi U h hs (dM o p n) [((o:Int),u.v),((p:Int),u'.v)]).set e (.list ((zA4 us o p u u' n).map Or.v))) [.tup [.int o,.int (0 - (0 - n))],.tup [.int p,.int (0 - n)]]):=by
 have B1:=B.push (.dict [((o:Int),u.v)])
 have B2:=B.push (.dict [((o:Int),u.v),((p:Int),u'.v)])
 have B3:BookIn (yi U h hs (dM o p n) [((o:Int),u.v),((p:Int),u'.v)]) b e h (us.map Or.v) (hs++[.tup [dM o p n,.ref U.length]]):=B2.setH _
 have B4:=B3.setE ((us.set o (xH u yb (0 - n))).map Or.v)
 have hp2:(us.set o (xH u yb (0 - n)))[p]?=some u':=by rw [List.getElem?_set_ne hop]; exact hu'
 refine zG HT.b6 rfl (zJ (v:=.str yb) rfl (zJ (v:=.int n) rfl (zJ (zKs B rfl (fun _=>rfl) hu) (s_t rfl ?_))))
 refine zq (U':=U++[.dict [((o:Int),u.v),((p:Int),u'.v)]]) (xI B1 rfl rfl (xD hu')) rfl rfl ?_ ?_
 ·show zAs (U++[.dict [((o:Int),u.v)]]) U.length p u'.v (U++[.dict [((o:Int),u.v)]])[U.length]?=_
  rw [zj]
  show (if 1 < LIM then R.ok () ((U++[O.dict [((o:Int),u.v)]]).set U.length (.dict (xz [((o:Int),u.v)] p u'.v))) else .stuck)=_
  rw [if_pos (by decide),wL]
  have hne:((o:Int)==(p:Int))=false:=by rw [beq_eq_false_iff_ne]; exact fun e=>hop (Int.ofNat_inj.mp e)
  unfold xz
  rw [show ([((o:Int),u.v)].any fun q=>q.1==(p:Int))=false by show (((o:Int)==(p:Int))||false)=false; rw [hne]; rfl]
  rfl
 ·refine zGT B2 rfl rfl rfl hh (s_t rfl (zK (zCZ (zC (zQ rfl B3.isInst rfl (zBH HT B3 hu yb (0 - n) hr)) (zC (zQ rfl B4.isInst rfl ?_) rfl)))))
  rw [zBH HT B4 hp2 yb n hr',zKA]; rfl
theorem zG5 {F Fq:Calls} {o n:Int} {r:R Fl} (kk:exL F Fq false (fB_2.body.drop 2) [.ref b,dP o n] U=r):exL F Fq false fB_2.body [.ref b,dP o n] U=r:=s_f rfl (s_f rfl kk)
theorem zG6 {F Fq:Calls} {o n:Int} {r:R Fl} (kk:exL F Fq false (fB_2.body.drop 2) [.ref b,dR o n] U=r):exL F Fq false fB_2.body [.ref b,dR o n] U=r:=s_f rfl (s_f rfl kk)
theorem zG4 {F Fq:Calls} {o p n:Int} {r:R Fl} (kk:exL F Fq false (fB_2.body.drop 2) [.ref b,dM o p n] U=r):exL F Fq false fB_2.body [.ref b,dM o p n] U=r:=s_f rfl (s_f rfl kk)
theorem zOs (HT:zP T t) (B:BookIn U b e h (us.map Or.v) hs) {o n:Int} {c:Cls} (he:zBo us o n=some c):zA T (d+3) false 2 [.ref b,dP o n] U=.exc c U:=
 zl HT.b2 rfl (zG5 (zB7 (zQ rfl B.isInst rfl ((zEN HT B o n).trans (by rw [he]; rfl)))))
theorem zOu (HT:zP T t) (B:BookIn U b e h (us.map Or.v) hs) (hok:∀ u ∈ us,u.ok) {o n:Int} {c:Cls} (he:zBp us o n=some c):zA T (d+6) false 2 [.ref b,dR o n] U=.exc c U:=
 zl HT.b2 rfl (zG6 (zB7 (zQ rfl B.isInst rfl ((zEO HT B hok o n).trans (by rw [he]; rfl)))))
theorem zOq (HT:zP T t) (B:BookIn U b e h (us.map Or.v) hs) (hok:∀ u ∈ us,u.ok) {o p n:Int} {c:Cls} (he:zBn us o p n=some c):zA T (d+6) false 2 [.ref b,dM o p n] U=.exc c U:=
 zl HT.b2 rfl (zG4 (zB7 (zQ rfl B.isInst rfl ((zEM HT B hok o p n).trans (by rw [he]; rfl)))))
theorem zOr (HT:zP T t) (B:BookIn U b e h (us.map Or.v) hs) (he:zBo us o n=none) (hu:us[o]?=some u) (hr:u.rows.length < LIM) (hh:hs.length < LIM) :
  zA T (d+3) false 2 [.ref b,dP o n] U=.ok (rv t ((yi U h hs (dP o n) [((o:Int),u.v)]).set e (.list ((us.set o (xH u wM n)).map Or.v))) [.tup [.int o,.int (0 - n)]]) (rs t ((yi U h hs (dP o n) [((o:Int),u.v)]).set e (.list ((us.set o (xH u wM n)).map Or.v))) [.tup [.int o,.int (0 - n)]]):=
 zG HT.b2 rfl (zG5 (yR (zQ rfl B.isInst rfl ((zEN HT B o n).trans (by rw [he]; rfl))) (zK (zQ rfl B.isInst rfl (zH6 HT B hu hr hh)))))
theorem zOt (HT:zP T t) (B:BookIn U b e h (us.map Or.v) hs) (hok:∀ u ∈ us,u.ok) (he:zBp us o n=none) (hu:us[o]?=some u) (hr:u.rows.length < LIM) (hh:hs.length < LIM) :
  zA T (d+6) false 2 [.ref b,dR o n] U=.ok (rv t ((yi U h hs (dR o n) [((o:Int),u.v)]).set e (.list ((us.set o (xH u jz (0 - n))).map Or.v))) [.tup [.int o,.int (0 - (0 - n))]]) (rs t ((yi U h hs (dR o n) [((o:Int),u.v)]).set e (.list ((us.set o (xH u jz (0 - n))).map Or.v))) [.tup [.int o,.int (0 - (0 - n))]]):=
 zG HT.b2 rfl (zG6 (yR (zQ rfl B.isInst rfl ((zEO HT B hok o n).trans (by rw [he]; rfl))) (zK (zQ rfl B.isInst rfl (zH7 HT B hu hr hh)))))
theorem zOp (HT:zP T t) (B:BookIn U b e h (us.map Or.v) hs) (hok:∀ u ∈ us,u.ok) (he:zBn us o p n=none) (hu:us[o]?=some u) (hu':us[p]?=some u') (hop:o ≠ p) (hr:u.rows.length < LIM) (hr':u'.rows.length < LIM) (hh:hs.length < LIM) :
  zA T (d+6) false 2 [.ref b,dM o p n] U=.ok (rv t ((yi U h hs (dM o p n) [((o:Int),u.v),((p:Int),u'.v)]).set e (.list ((zA4 us o p u u' n).map Or.v))) [.tup [.int o,.int (0 - (0 - n))],.tup [.int p,.int (0 - n)]]) (rs t ((yi U h hs (dM o p n) [((o:Int),u.v),((p:Int),u'.v)]).set e (.list ((zA4 us o p u u' n).map Or.v))) [.tup [.int o,.int (0 - (0 - n))],.tup [.int p,.int (0 - n)]]):=
 zG HT.b2 rfl (zG4 (yR (zQ rfl B.isInst rfl ((zEM HT B hok o p n).trans (by rw [he]; rfl))) (zK (zQ rfl B.isInst rfl (zH5 HT B hu hu' hop hr hr' hh)))))
end
end Mine
end

section
namespace Mine
open PySem
noncomputable def zF4:Fn:={ params:=1,slots:=1,body:=[.ret (.and (.p1 (.isInst .int) (.var 0)) (.p1 .not (.p1 (.isInst .bool) (.var 0))))] }
noncomputable def zF2:Fn:={ params:=3,slots:=4,body:=[.asg 3 (.p2 .mod (.p2 .mod (.p2 .mul (.var 0) (.lit (.int 48271))) (.var 1)) (.lit (.int 11))),.ite (.p2 .eq (.var 3) (.lit (.int 0))) [.ret (.p2 .sub (.p1 .neg (.lit (.int 1))) (.p2 .mod (.var 0) (.lit (.int 3))))] [],.ite (.p2 .eq (.var 3) (.lit (.int 1))) [.ret (.p2 .add (.var 2) (.p2 .mod (.var 0) (.lit (.int 2))))] [],.ret (.p2 .mod (.p2 .mod (.p2 .mul (.var 0) (.lit (.int 48271))) (.p2 .add (.var 1) (.lit (.int 2)))) (.p2 .max (.lit (.int 1)) (.var 2)))] }
noncomputable def zDu:Fn:={ params:=2,slots:=3,body:=[.asg 2 (.p2 .mod (.p2 .mod (.p2 .mul (.var 0) (.lit (.int 48271))) (.lit (.int 10061))) (.lit (.int 8))),.ite (.p2 .eq (.var 2) (.lit (.int 0))) [.ret (.p1 .neg (.p2 .mod (.var 0) (.lit (.int 3))))] [],.ite (.p2 .eq (.var 2) (.lit (.int 1))) [.ret (.p2 .add (.var 1) (.lit (.int 1)))] [],.ite (.or (.p2 .eq (.var 2) (.lit (.int 2))) (.p2 .eq (.var 2) (.lit (.int 3)))) [.ret (.var 1)] [],.ite (.p2 .eq (.var 2) (.lit (.int 4))) [.ret (.p2 .add (.lit (.int 1)) (.p2 .mod (.var 0) (.p2 .pow (.lit (.int 10)) (.lit (.int 13)))))] [],.ret (.p2 .add (.lit (.int 1)) (.p2 .mod (.var 0) (.p2 .max (.lit (.int 1)) (.var 1))))] }
noncomputable def zEu:Fn:={ params:=1,slots:=2,body:=[.asg 1 (.lit (.str { cps:=#[97,98,99,100,101,102,103,104,105,106,107,108,109,110,111,112,113,114,115,116,117,118,119,120,121,122] })),.ret (.sm .join (.lit (.str { cps:=#[] })) (.comp (.p2 .index (.var 1) (.p2 .mod (.p2 .add (.p2 .add (.p2 .fdiv (.var 0) (.lit (.int 26))) (.p2 .mul (.lit (.int 7)) (.var 2))) (.var 0)) (.lit (.int 26)))) .range1 [.p2 .add (.lit (.int 1)) (.p2 .mod (.p2 .mod (.p2 .mul (.var 0) (.lit (.int 48271))) (.lit (.int 10079))) (.lit (.int 12)))] none))] }
noncomputable def zF3:Fn:={ params:=2,slots:=2,body:=[.try .ret (.callm 2 (.var 0) [.var 1]) [{ cls:=.NoDeed,as:=none,tk:=.ret,e:=.lit (.str { cps:=#[78,111,68,101,101,100] }) },{ cls:=.NoLines,as:=none,tk:=.ret,e:=.lit (.str { cps:=#[78,111,76,105,110,101,115] }) },{ cls:=.NoItem,as:=none,tk:=.ret,e:=.lit (.str { cps:=#[78,111,73,116,101,109] }) },{ cls:=.NoNumber,as:=none,tk:=.ret,e:=.lit (.str { cps:=#[78,111,78,117,109,98,101,114] }) },{ cls:=.FullBook,as:=none,tk:=.ret,e:=.lit (.str { cps:=#[70,117,108,108,66,111,111,107] }) },{ cls:=.NoOrder,as:=none,tk:=.ret,e:=.lit (.str { cps:=#[78,111,79,114,100,101,114] }) },{ cls:=.SameOrder,as:=none,tk:=.ret,e:=.lit (.str { cps:=#[83,97,109,101,79,114,100,101,114] }) },{ cls:=.NoLine,as:=none,tk:=.ret,e:=.lit (.str { cps:=#[78,111,76,105,110,101] }) },{ cls:=.TooMuch,as:=none,tk:=.ret,e:=.lit (.str { cps:=#[84,111,111,77,117,99,104] }) }]] }
noncomputable def zAH (it:Nat):Fn:={ params:=1,slots:=6,body:=[.asg 1 (.trk (.list [])),.asg 2 (.p2 .add (.lit (.int 1)) (.p2 .mod (.p2 .mod (.p2 .mul (.var 0) (.lit (.int 48271))) (.lit (.int 10067))) (.lit (.int 3)))),.ite (.p2 .eq (.p2 .mod (.p2 .mod (.p2 .mul (.var 0) (.lit (.int 48271))) (.lit (.int 10111))) (.lit (.int 9))) (.lit (.int 1))) [.asg 2 (.p2 .add (.lit (.int 1)) (.p2 .mod (.var 0) (.lit (.int 20))))] [],.for 3 .range1 [.var 2] [.asg 4 (.p2 .add (.p2 .fdiv (.var 0) (.p2 .add (.var 3) (.lit (.int 1)))) (.p2 .mul (.lit (.int 5)) (.var 3))),.asg 5 (.call it [.var 4]),.ite (.p2 .eq (.p2 .mod (.p2 .mod (.p2 .mul (.var 0) (.lit (.int 48271))) (.lit (.int 10141))) (.lit (.int 3))) (.lit (.int 0))) [.asg 5 (.call it [.p2 .fdiv (.var 0) (.lit (.int 7))])] [],.ite (.p2 .eq (.p2 .mod (.p2 .mod (.p2 .mul (.var 0) (.lit (.int 48271))) (.lit (.int 10069))) (.lit (.int 5))) (.lit (.int 1))) [.exp (.append (.var 1) (.tup [.var 5,.p2 .add (.lit (.int 1)) (.p2 .mod (.var 4) (.lit (.int 1000000))),.p2 .mod (.p2 .mul (.var 4) (.lit (.int 48271))) (.lit (.int 1000000001)),.p2 .add (.lit (.int 1)) (.p2 .mod (.var 4) (.lit (.int 1000)))]))] [.exp (.append (.var 1) (.tup [.var 5,.p2 .add (.lit (.int 1)) (.p2 .mod (.var 4) (.lit (.int 9))),.p2 .mod (.p2 .mod (.p2 .mul (.var 4) (.lit (.int 48271))) (.lit (.int 10091))) (.lit (.int 200)),.p2 .add (.lit (.int 1)) (.p2 .mod (.p2 .fdiv (.var 4) (.lit (.int 9))) (.lit (.int 4)))]))]],.ret (.var 1)] }
end Mine
end

section
namespace Mine
open PySem
theorem xw (a:Int) {m:Int} (h:0 < m):0 <= a.fmod m /\ a.fmod m < m:=⟨Int.fmod_nonneg_of_pos a h,Int.fmod_lt_of_pos a h⟩
theorem zBs (a:Int) {m:Nat} (h:0 < m):∃ k:Nat,a.fmod (m:Int)=k /\ k < m:=by
 obtain ⟨h1,h2⟩:=xw a (m:=(m:Int)) (Int.natCast_pos.mpr h)
 exact ⟨(a.fmod (m:Int)).toNat,(Int.toNat_of_nonneg h1).symm,(Int.toNat_lt h1).mpr h2⟩
theorem zB6 (a:Int) {m:Nat} (hm:0 < m):∃ n:Nat,1+a.fmod (m:Int)=(n:Int) /\ 1 <= n /\ n <= m:=by
 obtain ⟨z,hz,hlt⟩:=zBs a hm
 exact ⟨1+z,by rw [hz]; rfl,Nat.le_add_right 1 z,Nat.add_comm 1 z ▸ hlt⟩
section
variable {F Fq:Calls} {q:Bool} {J:List V} {U:Sto}
noncomputable def GR (F Fq:Calls) (q:Bool) (ss:List CS) (J:List V) (U:Sto):Prop:=∃ n:Int,exL F Fq q ss J U=.ok (.ret (.int n)) U
noncomputable def GI (F:Calls) (q:Bool) (e:CE) (J:List V) (U:Sto):Prop:=∃ n:Int,evE F q e J U=.ok (.int n) U
theorem zLC {e:CE} {rest:List CS} (h:GI F q e J U):GR F Fq q (.ret e :: rest) J U:=by
 obtain ⟨n,h⟩:=h; exact ⟨n,zK h⟩
theorem zCf {c e:CE} {rest:List CS} {t:Bool} (hc:evC F q (some c) J U=.ok t U) (h1:t=true->GI F q e J U) (h2:t=false->GR F Fq q rest J U):GR F Fq q (.ite c [.ret e] [] :: rest) J U:=by
 cases t with
 | true=>obtain ⟨n,h⟩:=h1 rfl; exact ⟨n,s_t hc (zK h)⟩
 | false=>obtain ⟨n,h⟩:=h2 rfl; exact ⟨n,s_f hc h⟩
theorem zLB {e:CE} {i:Nat} {v:V} {rest:List CS} (h:evE F q e J U=.ok v U) (k:GR F Fq q rest (J.set i v) U):GR F Fq q (.asg i e :: rest) J U:=by
 obtain ⟨n,k⟩:=k; exact ⟨n,zJ h k⟩
theorem zHK {T:Nat->Option Fn} {d k:Nat} {fn:Fn} {args:List V} (h:T k=some fn) (hl:args.length=fn.params) (hx:GR (zA T d q) (zA T d true) q fn.body (args++List.replicate (fn.slots - fn.params) .undef) U):∃ n:Int,zA T (d+1) q k args U=.ok (.int n) U:=by
 obtain ⟨n,hx⟩:=hx; exact ⟨n,zG h hl hx⟩
theorem zSL {a b:CE} {s t:Bool} (ha:evE F q a J U=.ok (.bool s) U) (hb:evE F q b J U=.ok (.bool t) U):evE F q (.or a b) J U=.ok (.bool (s||t)) U:=by
 cases s with
 | true=>exact zAE ha rfl
 | false=>exact zW ha rfl hb
theorem zG8 {a b:CE} {s t:Bool} (ha:evE F q a J U=.ok (.bool s) U) (hb:evE F q b J U=.ok (.bool t) U):evE F q (.and a b) J U=.ok (.bool (s&&t)) U:=by
 cases s with
 | true=>exact zn ha rfl hb
 | false=>exact yn ha rfl
theorem xL {a b m:CE} {c p z:Int} (ha:evE F q a J U=.ok (.int c) U) (hb:evE F q b J U=.ok (.int p) U) (hm:evE F q m J U=.ok (.int z) U) (hp:(p==0)=false) (hz:(z==0)=false):evE F q (.p2 .mod (.p2 .mod (.p2 .mul a (.lit (.int 48271))) b) m) J U=.ok (.int (((c * 48271).fmod p).fmod z)) U:=
 zD (zD (zD ha rfl (yc U c 48271 (.inr rfl))) hb (wP U _ p hp)) hm (wP U _ z hz)
theorem zLT (m:Int):((if m > 1 then m else 1)==0)=false:=by
 rw [beq_eq_false_iff_ne]
 by_cases h:m > 1
 ·rw [if_pos h]; exact fun e=>absurd (e ▸ h) (by decide)
 ·rw [if_neg h]; decide
end
section
variable {T:Nat->Option Fn} {d k:Nat} {q:Bool} {U:Sto}
theorem kQ (h:T k=some zF4) (i:Int):zA T (d+1) q k [.int i] U=.ok (.bool true) U:=zG h rfl (zK rfl)
theorem zDv (h:T k=some zF2) (c p sz:Int) (hp:(p==0)=false) (hp2:(p+2==0)=false):∃ n:Int,zA T (d+1) false k [.int c,.int p,.int sz] U=.ok (.int n) U:=
 zHK h rfl (zLB (xL rfl rfl rfl hp rfl) (zCf (zE rfl) (fun _=>⟨_,zD rfl (zD rfl rfl rfl) rfl⟩) fun _=>zCf (zE rfl) (fun _=>⟨_,zD rfl (zD rfl rfl rfl) rfl⟩) fun _ =>
  zLC ⟨_,zD (zD (zD rfl rfl (yc U c 48271 (.inr rfl))) rfl (wP U _ (p+2) hp2)) (zD rfl rfl (zHB U 1 sz)) (wP U _ _ (zLT sz))⟩))
theorem zEv (h:T k=some zDu) (c m:Int):∃ n:Int,zA T (d+1) false k [.int c,.int m] U=.ok (.int n) U:=
 zHK h rfl (zLB (xL rfl rfl rfl rfl rfl) (zCf (zE rfl) (fun _=>⟨_,zV (zD rfl rfl rfl) rfl⟩) fun _=>zCf (zE rfl) (fun _=>⟨_,zD rfl rfl rfl⟩) fun _ =>
  zCf (zE (zSL rfl rfl)) (fun _=>⟨_,rfl⟩) fun _=>zCf (zE rfl) (fun _=>⟨_,zD rfl (zD rfl (zD rfl rfl (zM1 U 13 (by decide))) (wP U _ _ (by decide))) rfl⟩) fun _ =>
  zLC ⟨_,zD rfl (zD rfl (zD rfl rfl (zHB U 1 m)) (wP U _ _ (zLT m))) rfl⟩))
theorem zE2:∀ cs:List Nat,Str.join (mkS []) (cs.map fun c=>mkS [c])=mkS cs
 | []=>rfl
 | [c]=>rfl
 | c :: c' :: r=>by
  show mkS [c]++mkS []++Str.join (mkS []) ((c' :: r).map fun c=>mkS [c])=_
  rw [zE2 (c' :: r)]
  show (⟨(mkS [c]).cps++(mkS []).cps++(mkS (c' :: r)).cps⟩:Str)=_
  simp [mkS]
theorem zFU:∀ cs:List Nat,strs? (cs.map fun c=>V.str (mkS [c]))=some (cs.map fun c=>mkS [c])
 | []=>rfl
 | c :: r=>by
  have:=zFU r
  unfold strs? at this ⊢
  rw [List.map_cons,List.mapM_cons,this]; rfl
theorem zHO:∀ cs:List Nat,((cs.map fun c=>mkS [c]).map fun x:Str=>x.length).sum=cs.length
 | []=>rfl
 | c :: r=>by
  rw [List.map_cons,List.map_cons,List.sum_cons,zHO r,List.length_cons]
  exact Nat.add_comm 1 _
theorem zNG {cs:List Nat} (h:cs.length <= 100000):ev2 .join U (.str (mkS [])) (.lst (cs.map fun c=>.str (mkS [c])))=some (.str (mkS cs)):=by
 show ((strs? (cs.map fun c=>V.str (mkS [c]))).bind fun l=>if (l.map (·.length)).sum+l.length * (mkS []).length <= 100000 then some (V.str (Txt.join (mkS []) l)) else none)=_
 rw [zFU]
 show (if ((cs.map fun c=>mkS [c]).map fun x:Str=>x.length).sum+(cs.map fun c=>mkS [c]).length * 0 <= 100000 then some (V.str (Txt.join (mkS []) (cs.map fun c=>mkS [c]))) else none)=_
 rw [zHO,Nat.mul_zero,Nat.add_zero,if_pos h]
 show some (V.str (Builtin.Str.glued (mkS []) (cs.map fun c=>mkS [c])))=_
 rw [StrLaws.glued_eq_join,zE2]
noncomputable def yw (j:Nat):Nat:=(yI xV).getD j 97
theorem zE5 {j:Nat} (h:j < 26):xU (yw j)=true /\ yw j < 128:=by
 have:∀ j:Fin 26,xU (yw j)=true /\ yw j < 128:=by decide
 exact this ⟨j,h⟩
theorem zId {j:Nat} (h:j < 26):ev2 .index U (.str xV) (.int (j:Int))=some (.str (mkS [yw j])):=by
 show ((ze 26 (j:Int)).bind fun k=>(yI xV)[k]?.map fun c=>V.str (mkS [c]))=_
 rw [xy h]
 show ((yI xV)[j]?.map fun c=>V.str (mkS [c]))=_
 have:j < (yI xV).length:=h
 rw [List.getElem?_eq_getElem this]
 unfold yw
 rw [List.getD_eq_getElem?_getD,List.getElem?_eq_getElem this]; rfl
theorem zIY {cs:List Nat} (h1:1 <= cs.length) (h2:cs.length <= 12) (h:∀ c ∈ cs,xU c=true /\ c < 128):wr (mkS cs)=true /\ (mkS cs).cps.all (· < 128)=true:=by
 have hl:(mkS cs).length=cs.length:=by simp [mkS,Str.length]
 have hc:yI (mkS cs)=cs:=by simp [yI,mkS]
 refine ⟨?_,?_⟩
 ·unfold wr
  rw [hl,hc,decide_eq_true h1,decide_eq_true h2,List.all_eq_true.mpr fun c hm=>(h c hm).1]; rfl
 ·show cs.toArray.all _=true
  rw [List.all_toArray,List.all_eq_true]
  intro c hm
  exact decide_eq_true (h c hm).2
noncomputable def jK (c:Int) (k:Nat):Nat:=((c.fdiv 26+7 * (k:Int)+c).fmod 26).toNat
theorem zCi (c:Int) (k:Nat):jK c k < 26:=by
 obtain ⟨h1,h2⟩:=xw (c.fdiv 26+7 * (k:Int)+c) (m:=26) (by decide)
 exact (Int.toNat_lt h1).mpr h2
theorem zK9 (h:T k=some zEu) (c:Int):∃ s:Str,wr s=true /\ s.cps.all (· < 128)=true /\ zA T (d+1) false k [.int c] U=.ok (.str s) U:=by
 obtain ⟨n,hn,h1,h2⟩:=zB6 ((c * 48271).fmod 10079) (m:=12) (by decide)
 replace hn:1+((c * 48271).fmod 10079).fmod 12=(n:Int):=hn
 have hcs:∀ x ∈ (List.range n).map fun j=>yw (jK c j),xU x=true /\ x < 128:=fun x hx=>by
  obtain ⟨j,_,rfl⟩:=List.mem_map.mp hx
  exact zE5 (zCi c j)
 have hlen:((List.range n).map fun j=>yw (jK c j)).length=n:=by rw [List.length_map,List.length_range]
 obtain ⟨g1,g2⟩:=zIY (hlen.symm ▸ h1) (hlen.symm ▸ h2) hcs
 refine ⟨_,g1,g2,zG h rfl (zJ (v:=.str xV) rfl (zK ?_))⟩
 have e:=yh (F:=zA T d false) (elt:=.p2 .index (.var 1) (.p2 .mod (.p2 .add (.p2 .add (.p2 .fdiv (.var 0) (.lit (.int 26))) (.p2 .mul (.lit (.int 7)) (.var 2))) (.var 0)) (.lit (.int 26)))) (k:=.range1)
  (src:=[.p2 .add (.lit (.int 1)) (.p2 .mod (.p2 .mod (.p2 .mul (.var 0) (.lit (.int 48271))) (.lit (.int 10079))) (.lit (.int 12)))]) (cond:=none) (J:=[.int c,.str xV]) (vs:=[.int n]) (U:=U) (U1:=U) (it:=.now (zY 0 n)) (l:=List.range n) (φ:=fun j:Nat=>.int (0+(j:Int))) (fun _=>true) (fun j=>.str (mkS [yw (jK c j)]))
  (zC (by rw [zD rfl (xL (c:=c) (p:=10079) (z:=12) rfl rfl rfl rfl rfl) rfl,hn]) rfl) (zg U (by show n <= LIM; exact Nat.le_trans h2 (by decide)))
  (.inl (by unfold zY; rw [Int.sub_zero,Int.toNat_natCast])) (by rw [List.length_range]; exact Nat.lt_of_le_of_lt h2 (by decide)) (fun _ _=>rfl) fun j hj _=>by
   rw [Int.zero_add]
   refine zD rfl (zD (zD (zD (zD rfl rfl (wH U c 26 rfl)) (zD rfl rfl (yc U 7 j (.inl rfl))) rfl) rfl rfl) rfl (wP U _ 26 rfl)) ?_
   have hx:(c.fdiv 26+7 * (j:Int)+c).fmod 26=(jK c j:Int):=by
    exact (Int.toNat_of_nonneg (xw _ (by decide)).1).symm
   rw [hx]
   exact zId (zCi c j)
 rw [xA,show (List.range n).map (fun j=>V.str (mkS [yw (jK c j)]))=((List.range n).map fun j=>yw (jK c j)).map fun x=>V.str (mkS [x]) by rw [List.map_map]; rfl] at e
 rw [zQS]
 show R.bind (evE (zA T d false) false (.comp _ _ _ _) [.int c,.str xV] U) (fun b U=>R.lift U (ev2 .join U (.str (mkS [])) b))=_
 rw [e]
 show R.lift U _=_
 rw [zNG (hlen.symm ▸ Nat.le_trans h2 (by decide))]; rfl
end
end Mine
end

section
namespace Mine
open PySem
theorem zL6 {lo hi:Int} {j:Nat} {x:V} (h:(zY lo hi)[j]?=some x):x=.int (lo+(j:Int)) /\ j < (hi - lo).toNat:=by
 unfold zY at h
 rw [List.getElem?_map] at h
 obtain ⟨k,hk,rfl⟩:=map_some h
 obtain ⟨h1,h2⟩:=List.getElem?_eq_some_iff.mp hk
 rw [List.getElem_range] at h2
 rw [List.length_range] at h1
 exact ⟨by rw [h2],h1⟩
theorem zDV {n:Nat}:(zY 0 (n:Int)).length=n:=by
 unfold zY; rw [List.length_map,List.length_range,Int.sub_zero,Int.toNat_natCast]
theorem xR {n j:Nat} {x:V} (h:(zY 0 (n:Int))[j]?=some x):x=.int (j:Int) /\ j < n:=by
 obtain ⟨h1,h2⟩:=zL6 h
 rw [Int.zero_add] at h1
 rw [Int.sub_zero,Int.toNat_natCast] at h2
 exact ⟨h1,h2⟩
inductive Drawn (U:Sto) (c many:Int) (j:Nat):List V->Sto->Prop
 | mk (ls:List Ln) (x3 x4 x5:V) (hl:ls.length=j) (hg:∀ l ∈ ls,l.good):Drawn U c many j [.int c,.ref U.length,.int many,x3,x4,x5] (U++[.list (ls.map Ln.raw)])
noncomputable def wC (it:Nat):List CS:=match (zAH it).body with
 | [_,_,_,.for _ _ _ b,_]=>b
 | _=>[]
section
variable {T:Nat->Option Fn} {d k it:Nat} {q:Bool} {U:Sto}
theorem zOS {F Fq:Calls} {J:List V} {ls:List Ln} {l:Ln} {x:CE} {rest:List CS} {r:R Fl} (h1:zN J 1=some (.ref U.length)) (hl:ls.length < LIM) (hx:evE F q x J (U++[.list (ls.map Ln.raw)])=.ok l.raw (U++[.list (ls.map Ln.raw)])) (kk:exL F Fq q rest J (U++[.list ((ls++[l]).map Ln.raw)])=r) :
  exL F Fq q (.exp (.append (.var 1) x) :: rest) J (U++[.list (ls.map Ln.raw)])=r:=
 yR (yU (by rw [zv,h1]; rfl) (by show (wT _).isSome=true; rw [zj]; rfl) hx (yB _ zj (by rw [List.length_map]; exact hl))) (by rw [wL,show ls.map Ln.raw++[l.raw]=(ls++[l]).map Ln.raw by rw [List.map_append]; rfl]; exact kk)
theorem zBj {s:Str} {x y z:Int} (ha:wr s=true) (hb:s.cps.all (· < 128)=true) (x1:0 <= x) (x2:x < 1000000) (y1:0 <= y) (y2:y < 1000000001) (z1:0 <= z) (z2:z < 1000):({ item:=s,p:=1+x,c:=y,k:=1+z,s:=0,b:=0,a:=0,r:=0 }:Ln).good:=
 ⟨⟨Int.add_le_add_left x1 1,Int.add_comm x 1 ▸ x2,y1,Int.le_of_lt_add_one y2,Int.add_le_add_left z1 1,Int.add_comm z 1 ▸ z2⟩,ha,hb⟩
theorem zMx (j:Nat) (hj:j < 20):((j:Int)+1==0||decide (1073741824 <= ((j:Int)+1).natAbs))=false:=by
 rw [Bool.or_eq_false_iff,beq_eq_false_iff_ne,decide_eq_false_iff_not]
 exact ⟨fun h=>(nomatch (h:((j+1:Nat):Int)=((0:Nat):Int))),fun h=>absurd (Nat.le_trans h hj) (by decide)⟩
theorem zGB (hi:T it=some zEu) {c many:Int} {j:Nat} {J:List V} {U':Sto} (hj:j < 20) (I:Drawn U c many j J U') :
  ∃ J' U'',exL (zA T (d+1) false) (zA T (d+1) true) false (wC it) (J.set 3 (.int j)) U'=.ok (.next J') U'' /\ Drawn U c many (j+1) J' U'':=by
 cases I with
 | mk ls x3 x4 x5 hl hg =>
 have hdiv:=zMx j hj
 generalize hU:U++[O.list (ls.map Ln.raw)]=U1
 generalize hm:c.fdiv ((j:Int)+1)+5 * (j:Int)=m
 obtain ⟨s1,a1,b1,e1⟩:=zK9 (d:=d) (U:=U1) hi m
 obtain ⟨s2,a2,b2,e2⟩:=zK9 (d:=d) (U:=U1) hi (c.fdiv 7)
 have pre:∃ s:Str,wr s=true /\ s.cps.all (· < 128)=true /\ ∀ {r:R Fl},exL (zA T (d+1) false) (zA T (d+1) true) false ((wC it).drop 3) [.int c,.ref U.length,.int many,.int j,.int m,.str s] U1=r ->
   exL (zA T (d+1) false) (zA T (d+1) true) false (wC it) [.int c,.ref U.length,.int many,.int j,x4,x5] U1=r:=by
  have p2:∀ {r:R Fl},exL (zA T (d+1) false) (zA T (d+1) true) false ((wC it).drop 2) [.int c,.ref U.length,.int many,.int j,.int m,.str s1] U1=r ->
    exL (zA T (d+1) false) (zA T (d+1) true) false (wC it) [.int c,.ref U.length,.int many,.int j,x4,x5] U1=r:=fun kk =>
   zJ (v:=.int m) (by rw [<- hm]; exact zD (zD rfl rfl (wH U1 c _ hdiv)) (zD rfl rfl (yc U1 5 j (.inl rfl))) rfl) (zJ (zH rfl e1) kk)
  cases ht:(((c * 48271).fmod 10141).fmod 3==0) with
  | true=>exact ⟨s2,a2,b2,fun kk=>p2 (s_t (zE (t:=true) (zD (xL (c:=c) rfl rfl rfl rfl rfl) rfl (by rw [xM,ht]))) (zJ (zH (zC (zD rfl rfl (wH U1 c 7 rfl)) rfl) e2) kk))⟩
  | false=>exact ⟨s1,a1,b1,fun kk=>p2 (s_f (zE (t:=false) (zD (xL (c:=c) rfl rfl rfl rfl rfl) rfl (by rw [xM,ht]))) kk)⟩
 obtain ⟨s,ha,hb,pre⟩:=pre
 have hlim:ls.length < LIM:=Nat.lt_trans (hl.symm ▸ hj) (by decide)
 have add:∀ l:Ln,l.good->(∀ x ∈ ls++[l],x.good):=fun l hl x hx=>by
  rcases List.mem_append.mp hx with hx | hx
  ·exact hg x hx
  ·rw [List.mem_singleton.mp hx]; exact hl
 have hlen:∀ l:Ln,(ls++[l]).length=j+1:=fun l=>by rw [List.length_append,hl]; rfl
 have m48:ev2 .mul U1 (.int m) (.int 48271)=some (.int (m * 48271)):=yc U1 m 48271 (.inr rfl)
 cases ht:(((c * 48271).fmod 10069).fmod 5==1) with
 | true =>
  have hg':({ item:=s,p:=1+m.fmod 1000000,c:=(m * 48271).fmod 1000000001,k:=1+m.fmod 1000,s:=0,b:=0,a:=0,r:=0 }:Ln).good:=
   have p:=xw m (m:=1000000) (by decide)
   have q:=xw (m * 48271) (m:=1000000001) (by decide)
   have r:=xw m (m:=1000) (by decide)
   zBj ha hb p.1 p.2 q.1 q.2 r.1 r.2
  refine ⟨_,_,pre (s_t (zE (t:=true) (zD (xL (c:=c) rfl rfl rfl rfl rfl) rfl (by rw [xM,ht]))) (by rw [<- hU]; rw [<- hU] at m48; exact zOS (l:={ item:=s,p:=1+m.fmod 1000000,c:=(m * 48271).fmod 1000000001,k:=1+m.fmod 1000,s:=0,b:=0,a:=0,r:=0 }) rfl hlim (yg (zC rfl (zC (zD rfl (zD rfl rfl rfl) rfl) (zC (zD (zD rfl rfl m48) rfl rfl) (zC (zD rfl (zD rfl rfl rfl) rfl) rfl))))) rfl)),?_⟩
  exact .mk _ _ _ _ (hlen _) (add _ hg')
 | false =>
  have hg':({ item:=s,p:=1+m.fmod 9,c:=((m * 48271).fmod 10091).fmod 200,k:=1+(m.fdiv 9).fmod 4,s:=0,b:=0,a:=0,r:=0 }:Ln).good:=
   have p:=xw m (m:=9) (by decide)
   have q:=xw ((m * 48271).fmod 10091) (m:=200) (by decide)
   have r:=xw (m.fdiv 9) (m:=4) (by decide)
   zBj ha hb p.1 (Int.lt_trans p.2 (by decide)) q.1 (Int.lt_trans q.2 (by decide)) r.1 (Int.lt_trans r.2 (by decide))
  refine ⟨_,_,pre (s_f (zE (t:=false) (zD (xL (c:=c) rfl rfl rfl rfl rfl) rfl (by rw [xM,ht]))) (by rw [<- hU]; rw [<- hU] at m48; exact zOS (l:={ item:=s,p:=1+m.fmod 9,c:=((m * 48271).fmod 10091).fmod 200,k:=1+(m.fdiv 9).fmod 4,s:=0,b:=0,a:=0,r:=0 }) rfl hlim (yg (zC rfl (zC (zD rfl (zD rfl rfl rfl) rfl) (zC (zD (zD (zD rfl rfl m48) rfl rfl) rfl rfl) (zC (zD rfl (zD (zD rfl rfl rfl) rfl rfl) rfl) rfl))))) rfl)),?_⟩
  exact .mk _ _ _ _ (hlen _) (add _ hg')
theorem zM9 (h:T k=some (zAH it)) (hi:T it=some zEu) (c:Int):∃ ls:List Ln,1 <= ls.length /\ ls.length <= 20 /\ (∀ l ∈ ls,l.good) /\ zA T (d+2) false k [.int c] U=.ok (.ref U.length) (U++[.list (ls.map Ln.raw)]):=by
 have pre:∃ n:Nat,1 <= n /\ n <= 20 /\ ∀ {r:R Fl},exL (zA T (d+1) false) (zA T (d+1) true) false ((zAH it).body.drop 3) [.int c,.ref U.length,.int n,.undef,.undef,.undef] (U++[.list (([]:List Ln).map Ln.raw)])=r ->
   exL (zA T (d+1) false) (zA T (d+1) true) false (zAH it).body [.int c,.undef,.undef,.undef,.undef,.undef] U=r:=by
  cases ht:(((c * 48271).fmod 10111).fmod 9==1) with
  | true =>
   obtain ⟨n,hn,h1,h2⟩:=zB6 c (m:=20) (by decide)
   replace hn:1+c.fmod 20=(n:Int):=hn
   refine ⟨n,h1,h2,fun kk=>zJ rfl (zJ (zD rfl (xL (c:=c) rfl rfl rfl rfl rfl) rfl) (s_t (zE (t:=true) (zD (xL (c:=c) rfl rfl rfl rfl rfl) rfl (by rw [xM,ht]))) (zJ (v:=.int n) (by rw [<- hn]; exact zD rfl (zD rfl rfl rfl) rfl) kk)))⟩
  | false =>
   obtain ⟨n,hn,h1,h2⟩:=zB6 ((c * 48271).fmod 10067) (m:=3) (by decide)
   replace hn:1+((c * 48271).fmod 10067).fmod 3=(n:Int):=hn
   refine ⟨n,h1,Nat.le_trans h2 (by decide),fun kk=>zJ rfl (zJ (v:=.int n) (by rw [<- hn]; exact zD rfl (xL (c:=c) rfl rfl rfl rfl rfl) rfl) (s_f (zE (t:=false) (zD (xL (c:=c) rfl rfl rfl rfl rfl) rfl (by rw [xM,ht]))) kk))⟩
 obtain ⟨n,h1,h2,pre⟩:=pre
 obtain ⟨J',U',e,I⟩:=xt (F:=zA T (d+1) false) (Fq:=zA T (d+1) true) (i:=3) (k:=.range1) (src:=[.var 2]) (body:=wC it) (J:=[.int c,.ref U.length,.int n,.undef,.undef,.undef]) (vs:=[.int n]) (U:=U++[.list (([]:List Ln).map Ln.raw)]) (U1:=U++[.list (([]:List Ln).map Ln.raw)]) (it:=.now (zY 0 n)) (xs:=zY 0 n)
  (Drawn U c n) rfl (zg _ (by show n <= LIM; exact Nat.le_trans h2 (by decide))) (fun _ _ _ _=>.inl rfl) (.mk [] _ _ _ rfl (fun l hl=>nomatch hl)) fun j x J U' hx I=>by
   obtain ⟨rfl,hj⟩:=xR hx
   exact zGB hi (Nat.lt_of_lt_of_le hj h2) I
 rw [zDV] at I
 cases I with
 | mk ls x3 x4 x5 hl hg =>
 refine ⟨ls,hl ▸ h1,hl ▸ h2,hg,zG h rfl (pre ?_)⟩
 show exL _ _ false (_ :: _) _ _=_
 rw [yl]
 exact (congrArg (fun r=>R.bind r (zMN _ _ false _)) e).trans rfl
end
end Mine
end

section
namespace Mine
open PySem
set_option genCtorIdx true in
inductive Deed where
 | ord (ls:List Ln)
 | pay (o n:Int)
 | ref (o n:Int)
 | mov (o p n:Int)
 | lin (w:Wd) (o k n:Int)
noncomputable def Deed.v:Deed->V
 | .ord ls=>dO ls
 | .pay o n=>dP o n
 | .ref o n=>dR o n
 | .mov o p n=>dM o p n
 | .lin w o k n=>dL w o k n
noncomputable def Deed.err (us:List Or):Deed->Option Cls
 | .ord _=>none
 | .pay o n=>zBo us o n
 | .ref o n=>zBp us o n
 | .mov o p n=>zBn us o p n
 | .lin w o k n=>zKv us w o k n
noncomputable def Deed.fit (us:List Or):Deed->Prop
 | .ord ls=>1 <= ls.length /\ ls.length <= 20 /\ (∀ l ∈ ls,l.good) /\ us.length < 40
 | _=>True
inductive Step (us:List Or):Deed->List Or->List (Int × Int)->Prop
 | ord (ls:List Ln):Step us (.ord ls) (us++[xZ ls]) []
 | pay (o:Nat) (n:Int) (u:Or) (hu:us[o]?=some u) (h1:1 <= n):Step us (.pay o n) (us.set o (xH u wM n)) [((o:Int),-n)]
 | ref (o:Nat) (n:Int) (u:Or) (hu:us[o]?=some u) (h1:1 <= n) (h2:n <= 0 - u.owed):Step us (.ref o n) (us.set o (xH u jz (0 - n))) [((o:Int),n)]
 | mov (o p:Nat) (n:Int) (u u':Or) (hu:us[o]?=some u) (hu':us[p]?=some u') (hop:o ≠ p) (h1:1 <= n) (h2:n <= 0 - u.owed):Step us (.mov o p n) (zA4 us o p u u' n) [((o:Int),n),((p:Int),-n)]
 | lin (w:Wd) (o k:Nat) (n:Int) (u:Or) (l:Ln) (hu:us[o]?=some u) (hl:u.lines[k]?=some l) (h1:1 <= n) (h2:n <= xX w l):Step us (.lin w o k n) (us.set o (upL w u k l n)) [((o:Int),(zb w l n).charge - l.charge)]
noncomputable def chL (l:List (Int × Int)):List V:=l.map fun p=>.tup [.int p.1,.int p.2]
noncomputable def chV (l:List (Int × Int)):V:=.lst (l.map fun p=>.tup [.int p.1,.int p.2])
inductive Old (us us':List Or):List (Int × V)->Prop
 | one (o:Nat) (u u1:Or) (hu:us[o]?=some u) (e:us'=us.set o u1):Old us us' [((o:Int),u.v)]
 | two (o p:Nat) (u u' u1 u2:Or) (hu:us[o]?=some u) (hu':us[p]?=some u') (hop:o ≠ p) (e:us'=(us.set o u1).set p u2):Old us us' [((o:Int),u.v),((p:Int),u'.v)]
inductive zR1 (t:Bool) (U:Sto) (b e h:Nat) (us:List Or) (hs:List V) (D:Deed) (r:R V):Prop
 | no (c:Cls) (er:r=.exc c U) (he:D.err us=some c)
 | yes (U':Sto) (us':List Or) (out:List (Int × Int)) (old:List (Int × V)) (er:r=.ok (rv t U' (chL out)) (rs t U' (chL out))) (he:D.err us=none) (S:Step us D us' out) (B:BookIn U' b e h (us'.map Or.v) (hs++[.tup [D.v,.ref U.length]])) (hm:U'[U.length]?=some (.dict old)) (ho:Old us us' old) (hk:∀ (m:Nat) (o:O),m ≠ e->m ≠ h->U[m]?=some o->U'[m]?=some o)
theorem zAF {n m:Int} (h:wa n m=none):1 <= n /\ n <= m:=by
 unfold wa at h
 split at h
 ·cases h
 ·rename_i h1
  split at h
  ·cases h
  ·rename_i h2; exact ⟨Int.not_lt.mp h1,Int.not_lt.mp h2⟩
section
variable {T:Nat->Option Fn} {t:Bool} {d:Nat} {U:Sto} {b e h:Nat} {us:List Or} {hs:List V}
theorem zBO {deed:V} {old:List (Int × V)} {x:O} (m:Nat) (o:O) (me:m ≠ e) (mh:m ≠ h) (hm:U[m]?=some o):((yi U h hs deed old).set e x)[m]?=some o:=
 zI (zI (zX hm) mh.symm) me.symm
theorem jZ {es:List V} {deed:V} {old:List (Int × V)} {x:O} (B:BookIn U b e h es hs):((yi U h hs deed old).set e x)[U.length]?=some (.dict old):=
 zI (zI vG (Nat.ne_of_lt (List.getElem?_eq_some_iff.mp B.his).1)) (Nat.ne_of_lt (List.getElem?_eq_some_iff.mp B.ent).1)
theorem zRF (HT:zP T t) (B:BookIn U b e h (us.map Or.v) hs) (hok:∀ u ∈ us,u.ok) (hr:∀ u ∈ us,u.rows.length < LIM) (hh:hs.length < LIM) (D:Deed) (hf:∀ ls,D ≠ .ord ls):zR1 t U b e h us hs D (zA T (d+6) false 2 [.ref b,D.v] U):=by
 cases D with
 | ord ls=>exact absurd rfl (hf ls)
 | pay o n =>
  cases he:zBo us o n with
  | some c=>exact .no c (zOs (d:=d+3) HT B he) he
  | none =>
   have he':zCd n (atI us o)=none:=he
   cases ho:atI us o with
   | none=>rw [ho] at he'; cases he'
   | some u =>
    obtain ⟨o,rfl,hu⟩:=zi ho
    rw [ho] at he'
    have hn:1 <= n:=by
     have:(if n < 1 then some Cls.NoNumber else none)=none:=he'
     split at this
     ·cases this
     ·rename_i h1; exact Int.not_lt.mp h1
    have hd:=zOr (d:=d+3) (o:=o) (n:=n) HT B he hu (hr u (List.mem_of_getElem? hu)) hh
    rw [Int.zero_sub] at hd
    exact .yes _ _ [((o:Int),-n)] _ hd he (.pay o n u hu hn) (((B.push _).setH _).setE _) (jZ B) (.one o u _ hu rfl) zBO
 | ref o n =>
  cases he:zBp us o n with
  | some c=>exact .no c (zOu HT B hok he) he
  | none =>
   have he':zEm n (atI us o)=none:=he
   cases ho:atI us o with
   | none=>rw [ho] at he'; cases he'
   | some u =>
    obtain ⟨o,rfl,hu⟩:=zi ho
    rw [ho] at he'
    obtain ⟨h1,h2⟩:=zAF he'
    have hd:=zOt (d:=d) (o:=o) (n:=n) HT B hok he hu (hr u (List.mem_of_getElem? hu)) hh
    rw [show (0 - (0 - n))=n by rw [Int.zero_sub,Int.zero_sub,Int.neg_neg]] at hd
    exact .yes _ _ [((o:Int),n)] _ hd he (.ref o n u hu h1 h2) (((B.push _).setH _).setE _) (jZ B) (.one o u _ hu rfl) zBO
 | mov o p n =>
  cases he:zBn us o p n with
  | some c=>exact .no c (zOq HT B hok he) he
  | none =>
   have he':zEk us o p n (atI us o)=none:=he
   cases ho:atI us o with
   | none=>rw [ho] at he'; cases he'
   | some u =>
    obtain ⟨o,rfl,hu⟩:=zi ho
    rw [ho] at he'
    have he2:zEl u o p n (atI us p)=none:=he'
    cases hp:atI us p with
    | none=>rw [hp] at he2; cases he2
    | some u' =>
     obtain ⟨p,rfl,hu'⟩:=zi hp
     rw [hp] at he2
     have he3:(if ((o:Int)==(p:Int))=true then some Cls.SameOrder else wa n (0 - u.owed))=none:=he2
     split at he3
     ·cases he3
     ·rename_i hne
      obtain ⟨h1,h2⟩:=zAF he3
      have hop:o ≠ p:=fun q=>hne (by rw [q,beq_self_eq_true])
      have hd:=zOp (d:=d) (o:=o) (p:=p) (n:=n) HT B hok he hu hu' hop (hr u (List.mem_of_getElem? hu)) (hr u' (List.mem_of_getElem? hu')) hh
      rw [show (0 - (0 - n))=n by rw [Int.zero_sub,Int.zero_sub,Int.neg_neg],Int.zero_sub] at hd
      exact .yes _ _ [((o:Int),n),((p:Int),-n)] _ hd he (.mov o p n u u' hu hu' hop h1 h2) (((B.push _).setH _).setE _) (jZ B) (.two o p u u' _ _ hu hu' hop rfl) zBO
 | lin w o k n =>
  cases he:zKv us w o k n with
  | some c=>exact .no c (zQm HT B hok he) he
  | none =>
   have he':zKw w k n (atI us o)=none:=he
   cases ho:atI us o with
   | none=>rw [ho] at he'; cases he'
   | some u =>
    obtain ⟨o,rfl,hu⟩:=zi ho
    rw [ho] at he'
    have he2:zKu w n (atI u.lines k)=none:=he'
    cases hk:atI u.lines k with
    | none=>rw [hk] at he2; cases he2
    | some l =>
     obtain ⟨k,rfl,hl⟩:=zi hk
     rw [hk] at he2
     obtain ⟨h1,h2⟩:=zAF he2
     exact .yes _ _ [((o:Int),(zb w l n).charge - l.charge)] _ (zOo (d:=d) (o:=o) (k:=k) (n:=n) HT B hok he hu hl (hr u (List.mem_of_getElem? hu)) hh) he (.lin w o k n u l hu hl h1 h2) (((B.push _).setH _).setE _) (jZ B) (.one o u _ hu rfl) zBO
end
noncomputable def zBI:Cls->Str
 | .NoDeed=>{ cps:=#[78,111,68,101,101,100] }
 | .NoLines=>{ cps:=#[78,111,76,105,110,101,115] }
 | .NoItem=>{ cps:=#[78,111,73,116,101,109] }
 | .NoNumber=>{ cps:=#[78,111,78,117,109,98,101,114] }
 | .FullBook=>{ cps:=#[70,117,108,108,66,111,111,107] }
 | .NoOrder=>{ cps:=#[78,111,79,114,100,101,114] }
 | .SameOrder=>{ cps:=#[83,97,109,101,79,114,100,101,114] }
 | .NoLine=>{ cps:=#[78,111,76,105,110,101] }
 | .TooMuch=>{ cps:=#[84,111,111,77,117,99,104] }
 | _=>{ cps:=#[] }
noncomputable def zBS (c:Cls):Bool:=c != .FlowError&&c != .NothingDone&&c != .ValueError
theorem zAG {n m:Int} {c:Cls} (h:wa n m=some c):zBS c=true:=by
 unfold wa at h
 split at h
 ·cases h; rfl
 ·split at h
  ·cases h; rfl
  ·cases h
theorem Deed.told {us:List Or} {D:Deed} {c:Cls} (h:D.err us=some c):zBS c=true:=by
 cases D with
 | ord ls=>cases h
 | pay o n =>
  replace h:zCd n (atI us o)=some c:=h
  cases ho:atI us o with
  | none=>rw [ho] at h; cases h; rfl
  | some u =>
   rw [ho] at h
   replace h:(if n < 1 then some Cls.NoNumber else none)=some c:=h
   split at h
   ·cases h; rfl
   ·cases h
 | ref o n =>
  replace h:zEm n (atI us o)=some c:=h
  cases ho:atI us o with
  | none=>rw [ho] at h; cases h; rfl
  | some u=>rw [ho] at h; exact zAG h
 | mov o p n =>
  replace h:zEk us o p n (atI us o)=some c:=h
  cases ho:atI us o with
  | none=>rw [ho] at h; cases h; rfl
  | some u =>
   rw [ho] at h
   replace h:zEl u o p n (atI us p)=some c:=h
   cases hp:atI us p with
   | none=>rw [hp] at h; cases h; rfl
   | some u' =>
    rw [hp] at h
    replace h:(if (o==p)=true then some Cls.SameOrder else wa n (0 - u.owed))=some c:=h
    split at h
    ·cases h; rfl
    ·exact zAG h
 | lin w o k n =>
  replace h:zKw w k n (atI us o)=some c:=h
  cases ho:atI us o with
  | none=>rw [ho] at h; cases h; rfl
  | some u =>
   rw [ho] at h
   replace h:zKu w n (atI u.lines k)=some c:=h
   cases hk:atI u.lines k with
   | none=>rw [hk] at h; cases h; rfl
   | some l=>rw [hk] at h; exact zAG h
section
variable {T:Nat->Option Fn} {t:Bool} {d k:Nat} {U U':Sto} {b:Nat}
theorem zHJ {deed v:V} (h:T k=some zF3) (hi:isInst U (.ref b)=true) (hd:zA T d false 2 [.ref b,deed] U=.ok v U') (hv:zN [.ref b,deed] 1=some deed):zA T (d+1) false k [.ref b,deed] U=.ok v U':=by
 refine zG h rfl ?_
 show exL _ _ false [.try .ret (.callm 2 (.var 0) [.var 1]) _] [.ref b,deed] U=_
 rw [yl,zHy,if_neg (by decide),zQ (r:=.ok v U') rfl hi (zC (by rw [zv,hv]; rfl) rfl) hd]; rfl
theorem zLA {deed:V} {c:Cls} (h:T k=some zF3) (hi:isInst U (.ref b)=true) (hc:zBS c=true) (hd:zA T d false 2 [.ref b,deed] U=.exc c U') (hv:zN [.ref b,deed] 1=some deed):zA T (d+1) false k [.ref b,deed] U=.ok (.str (zBI c)) U':=by
 refine zG h rfl ?_
 show exL _ _ false [.try .ret (.callm 2 (.var 0) [.var 1]) _] [.ref b,deed] U=_
 rw [yl,zHy,if_neg (by decide),zQ (r:=.exc c U') rfl hi (zC (by rw [zv,hv]; rfl) rfl) hd]
 cases c <;> first | rfl | cases hc
noncomputable def Deed.raw (m:Nat):Deed->V
 | .ord ls=>.tup [.str yC,.ref m]
 | D=>D.v
theorem Deed.raw_of {D:Deed} {m:Nat} (hn:∀ ls,D ≠ .ord ls):D.raw m=D.v:=by
 cases D with
 | ord ls=>exact (hn ls rfl).elim
 | _=>rfl
theorem Deed.fit_of {D:Deed} {us:List Or} (hn:∀ ls,D ≠ .ord ls):D.fit us:=by
 cases D with
 | ord ls=>exact (hn ls rfl).elim
 | _=>exact trivial
theorem Deed.read {D:Deed} {x:V}:zN [x,D.v] 1=some D.v:=by cases D <;> rfl
end
end Mine
end

section
namespace Mine
open PySem
structure Ln.inv (l:Ln):Prop where
 ok:l.ok
 a0:0 <= l.a
 ab:l.a <= l.b
 bs:l.b <= l.s
 sp:l.s <= l.p+l.a
 r0:0 <= l.r
 rw:l.r <= l.worth
theorem zGg {x y c k:Int} (h:x <= y) (hc:0 <= c) (hk:1 <= k):(x * c).fdiv k <= (y * c).fdiv k:=by
 have k0:0 <= k:=Int.le_trans (by decide) hk
 rw [Int.fdiv_eq_ediv_of_nonneg _ k0,Int.fdiv_eq_ediv_of_nonneg _ k0]
 exact Int.ediv_le_ediv (Int.lt_of_lt_of_le (by decide) hk) (Int.mul_le_mul_of_nonneg_right h hc)
theorem vB {x c k:Int} (h:0 <= x) (hc:0 <= c) (hk:1 <= k):0 <= (x * c).fdiv k:=by
 have k0:0 <= k:=Int.le_trans (by decide) hk
 rw [Int.fdiv_eq_ediv_of_nonneg _ k0]
 exact Int.ediv_nonneg (Int.mul_nonneg h hc) k0
theorem Ln.inv.charge {l:Ln} (h:l.inv):0 <= l.charge:=Int.sub_nonneg_of_le h.rw
theorem zHb (x y:Int):zJ8 x y <= y /\ zJ8 x y <= x /\ (0 <= x->0 <= y->0 <= zJ8 x y):=by
 unfold zJ8; split
 ·rename_i h; exact ⟨Int.le_refl _,Int.le_of_lt h,fun _ hy=>hy⟩
 ·rename_i h; exact ⟨Int.not_lt.mp h,Int.le_refl _,fun hx _=>hx⟩
theorem zKB {p s a n:Int} (h:n <= p - s+a):s+n <= p+a:=by
 have:=Int.add_le_add_left h s; rwa [<- Int.add_assoc,Int.add_comm s (p - s),Int.sub_add_cancel] at this
theorem Ln.inv.behind {l:Ln} (h:l.inv) {w:Wd} {n:Int} (h1:1 <= n) (h2:n <= xX w l):(zb w l n).inv:=by
 have hn:0 <= n:=Int.le_trans (by decide) h1
 cases w with
 | del=>exact ⟨xd h.ok,h.a0,h.ab,Int.le_trans h.bs (Int.le_add_of_nonneg_right hn),zKB h2,h.r0,Int.le_trans h.rw (zGg (Int.sub_le_sub_right (Int.le_add_of_nonneg_right hn) l.b) h.ok.c1 h.ok.k1)⟩
 | cred=>exact ⟨xd h.ok,h.a0,h.ab,h.bs,h.sp,Int.add_nonneg h.r0 hn,Int.add_le_of_le_sub_left h2⟩
 | back =>
  have hp:=zHb l.r (((l.s - (l.b+n)) * l.c).fdiv l.k)
  have hb:l.b+n <= l.s:=Int.add_le_of_le_sub_left h2
  exact ⟨xd h.ok,h.a0,Int.le_trans h.ab (Int.le_add_of_nonneg_right hn),hb,h.sp,hp.2.2 h.r0 (vB (Int.sub_nonneg_of_le hb) h.ok.c1 h.ok.k1),hp.1⟩
 | swap =>
  have hp:=zHb l.r (((l.s - (l.b+n)) * l.c).fdiv l.k)
  have hb:l.b+n <= l.s:=Int.add_le_of_le_sub_left h2
  exact ⟨xd h.ok,Int.add_nonneg h.a0 hn,Int.add_le_add_right h.ab n,hb,Int.le_trans h.sp (Int.add_le_add_left (Int.le_add_of_nonneg_right hn) _),hp.2.2 h.r0 (vB (Int.sub_nonneg_of_le hb) h.ok.c1 h.ok.k1),hp.1⟩
theorem Ln.good.inv {l:Ln} (h:l.good):l.fresh.inv:=
 ⟨h.ok.fresh,Int.le_refl _,Int.le_refl _,Int.le_refl _,Int.add_nonneg (Int.le_trans (by decide) h.ok.p1) (Int.le_refl 0),Int.le_refl _,vB (Int.le_refl _) h.ok.c1 h.ok.k1⟩
structure Or.inv (u:Or):Prop where
 few:u.lines.length <= 20
 ls:∀ l ∈ u.lines,l.inv
 paid0:0 <= u.paid
 sum:(u.rows.map (·.2)).sum=u.owed
theorem Or.inv.ok {u:Or} (h:u.inv):u.ok:=⟨h.few,fun l hl=>(h.ls l hl).ok⟩
theorem zCD:∀ {l:List Int},(∀ x ∈ l,0 <= x)->0 <= l.sum
 | [],_=>Int.le_refl _
 | x :: l,h=>by
  rw [List.sum_cons]
  have h1:=h x List.mem_cons_self
  exact Int.add_nonneg h1 (zCD fun y hy=>h y (List.mem_cons_of_mem x hy))
theorem zHk:∀ {l:List Int} {k:Nat} {x y:Int},l[k]?=some y->(l.set k x).sum=l.sum+(x - y)
 | [],_,_,_,h=>by cases h
 | z :: l,0,x,y,h=>by
  obtain rfl:z=y:=by simpa using h
  rw [List.set_cons_zero,List.sum_cons,List.sum_cons,Int.add_comm z l.sum,Int.add_assoc,Int.add_comm x]; exact congrArg _ (by rw [Int.add_comm,Int.sub_add_cancel])
 | z :: l,k+1,x,y,h=>by
  rw [List.set_cons_succ,List.sum_cons,List.sum_cons,zHk (l:=l) (k:=k) (by simpa using h),Int.add_assoc]
theorem zCC (a b:List Int):(a++b).sum=a.sum+b.sum:=by
 induction a with
 | nil=>rw [List.nil_append,List.sum_nil,Int.zero_add]
 | cons x a ih=>rw [List.cons_append,List.sum_cons,List.sum_cons,ih,Int.add_assoc]
theorem zL0 (u:Or) (w:Str) (c:Int):(xH u w c).owed=u.owed - c:=(Int.sub_sub _ u.paid c).symm
theorem zHZ {u:Or} {k:Nat} {l:Ln} (hl:u.lines[k]?=some l) (w:Wd) (n:Int):(upL w u k l n).owed=u.owed+((zb w l n).charge - l.charge):=by
 show ((u.lines.set k (zb w l n)).map Ln.charge).sum - u.paid=(u.lines.map Ln.charge).sum - u.paid+_
 rw [List.map_set,zHk (y:=l.charge) (by rw [List.getElem?_map,hl]; rfl)]; exact Int.add_right_comm _ _ _
theorem zLz (ls:List Ln) (h:∀ l ∈ ls,l.good):(xZ ls).owed=0:=by
 show ((ls.map Ln.fresh).map Ln.charge).sum - 0=0
 rw [Int.sub_zero,List.map_map]
 have:∀ ls:List Ln,(∀ l ∈ ls,l.good)->(ls.map (Ln.charge ∘ Ln.fresh)).sum=0:=fun ls=>by
  induction ls with
  | nil=>intro _; rfl
  | cons l ls ih =>
   intro h
   rw [List.map_cons,List.sum_cons,ih fun l hl=>h l (List.mem_cons_of_mem _ hl)]
   show ((0 - 0) * l.c).fdiv l.k - 0+0=0
   rw [Int.sub_self,Int.zero_mul,Int.zero_fdiv]; rfl
 exact this ls h
theorem zd {α:Type} {l:List α} {k:Nat} {x y:α} (h:y ∈ l.set k x):y ∈ l \/ y=x:=List.mem_or_eq_of_mem_set h
theorem Or.inv.pay {u:Or} (h:u.inv) (w:Str) {c:Int} (hp:0 <= u.paid+c):(xH u w c).inv:=by
 refine ⟨h.few,h.ls,hp,?_⟩
 rw [zL0]
 show ((u.rows++[(w,0 - c)]).map (·.2)).sum=_
 rw [List.map_append,zCC,h.sum]
 show u.owed+(0 - c+0)=u.owed - c; rw [Int.add_zero,Int.zero_sub]; rfl
theorem Or.inv.up {u:Or} (h:u.inv) {k:Nat} {l:Ln} (hl:u.lines[k]?=some l) {w:Wd} {n:Int} (h1:1 <= n) (h2:n <= xX w l):(upL w u k l n).inv:=by
 refine ⟨?_,fun m hm=>?_,h.paid0,?_⟩
 ·show (u.lines.set k _).length <= 20; rw [List.length_set]; exact h.few
 ·rcases zd hm with hm | rfl
  ·exact h.ls m hm
  ·exact (h.ls l (List.mem_of_getElem? hl)).behind h1 h2
 ·rw [zHZ hl]
  show ((u.rows++[(w.s,(zb w l n).charge - l.charge)]).map (·.2)).sum=_
  rw [List.map_append,zCC,h.sum]
  show u.owed+((zb w l n).charge - l.charge+0)=_; rw [Int.add_zero]
theorem zMj {s p n:Int} (h:0 <= s) (h2:n <= 0 - (s - p)):0 <= p+(0 - n):=by
 rw [Int.zero_sub,Int.neg_sub] at h2
 rw [Int.zero_sub]
 exact Int.sub_nonneg_of_le (Int.le_trans h2 (Int.sub_le_self p h))
theorem Or.inv.back {u:Or} (h:u.inv) {n:Int} (h2:n <= 0 - u.owed):0 <= u.paid+(0 - n):=by
 have h3:0 <= (u.lines.map Ln.charge).sum:=zCD fun x hx=>by
  obtain ⟨l,hl,rfl⟩:=List.mem_map.mp hx
  exact (h.ls l hl).charge
 exact zMj h3 h2
theorem zIl {ls:List Ln} (h2:ls.length <= 20) (h:∀ l ∈ ls,l.good):(xZ ls).inv:=by
 refine ⟨by show (ls.map Ln.fresh).length <= 20; rw [List.length_map]; exact h2,fun m hm=>?_,Int.le_refl _,(zLz ls h).symm⟩
 obtain ⟨l,hl,rfl⟩:=List.mem_map.mp hm
 exact (h l hl).inv
section
variable {us us':List Or} {D:Deed} {out:List (Int × Int)}
theorem Step.inv (S:Step us D us' out) (hf:D.fit us) (h:∀ u ∈ us,u.inv):∀ u ∈ us',u.inv:=fun v hv=>by
 cases S with
 | ord ls =>
  rcases List.mem_append.mp hv with hv | hv
  ·exact h v hv
  ·rw [List.mem_singleton.mp hv]; exact zIl hf.2.1 hf.2.2.1
 | pay o n u hu h1 =>
  rcases zd hv with hv | rfl
  ·exact h v hv
  ·have:=h u (List.mem_of_getElem? hu)
   exact this.pay _ (Int.add_nonneg this.paid0 (Int.le_trans (by decide) h1))
 | ref o n u hu h1 h2 =>
  rcases zd hv with hv | rfl
  ·exact h v hv
  ·have:=h u (List.mem_of_getElem? hu)
   exact this.pay _ (this.back h2)
 | mov o p n u u' hu hu' hop h1 h2 =>
  have i1:=h u (List.mem_of_getElem? hu)
  have i2:=h u' (List.mem_of_getElem? hu')
  rcases zd hv with hv | rfl
  ·rcases zd hv with hv | rfl
   ·exact h v hv
   ·exact i1.pay _ (i1.back h2)
  ·exact i2.pay _ (Int.add_nonneg i2.paid0 (Int.le_trans (by decide) h1))
 | lin w o k n u l hu hl h1 h2 =>
  rcases zd hv with hv | rfl
  ·exact h v hv
  ·exact (h u (List.mem_of_getElem? hu)).up hl h1 h2
theorem Step.rows (S:Step us D us' out) {R:Nat} (h:∀ u ∈ us,u.rows.length <= R):∀ u ∈ us',u.rows.length <= R+1:=fun v hv=>by
 have pay:∀ {u:Or} {w:Str} {c:Int},u ∈ us->(xH u w c).rows.length <= R+1:=fun {u w c} hu=>by
  show (u.rows++[_]).length <= R+1
  rw [List.length_append]; exact Nat.succ_le_succ (h u hu)
 cases S with
 | ord ls =>
  rcases List.mem_append.mp hv with hv | hv
  ·exact Nat.le_succ_of_le (h v hv)
  ·rw [List.mem_singleton.mp hv]; exact Nat.zero_le _
 | pay o n u hu h1 =>
  rcases zd hv with hv | rfl
  ·exact Nat.le_succ_of_le (h v hv)
  ·exact pay (List.mem_of_getElem? hu)
 | ref o n u hu h1 h2 =>
  rcases zd hv with hv | rfl
  ·exact Nat.le_succ_of_le (h v hv)
  ·exact pay (List.mem_of_getElem? hu)
 | mov o p n u u' hu hu' hop h1 h2 =>
  rcases zd hv with hv | rfl
  ·rcases zd hv with hv | rfl
   ·exact Nat.le_succ_of_le (h v hv)
   ·exact pay (List.mem_of_getElem? hu)
  ·exact pay (List.mem_of_getElem? hu')
 | lin w o k n u l hu hl h1 h2 =>
  rcases zd hv with hv | rfl
  ·exact Nat.le_succ_of_le (h v hv)
  ·show (u.rows++[_]).length <= R+1
   rw [List.length_append]; exact Nat.succ_le_succ (h u (List.mem_of_getElem? hu))
theorem Step.few (S:Step us D us' out):out.length <= 2:=by
 cases S <;> first | exact (by decide:0 <= 2) | exact (by decide:1 <= 2) | exact (by decide:2 <= 2)
end
end Mine
end

section
namespace Mine
open PySem
theorem zCl {f:V->Option PyData} (h:∀ v x,f v=some x->PyData.eqv x x=true):∀ (xs:List V) (ys:List PyData),xs.mapM f=some ys->PyData.eqvAll ys ys=true
 | [],ys,e=>by
  rw [List.mapM_nil] at e
  cases e; rfl
 | x :: xs,ys,e=>by
  rw [List.mapM_cons] at e
  cases hx:f x with
  | none=>rw [hx] at e; cases e
  | some y =>
   rw [hx] at e
   cases hr:xs.mapM f with
   | none=>rw [hr] at e; cases e
   | some r =>
    rw [hr] at e
    cases e
    rw [PyData.eqvAll,h x y hx,zCl h xs r hr]; rfl
theorem zDa (U:Sto):∀ (d:Nat) (v:V) (x:PyData),xY U d v=some x->PyData.eqv x x=true
 | 0,v,x,h=>by cases h
 | d+1,v,x,h=>by
  have lst:∀ {o:Option PyData} {c:List PyData->PyData} {xs:List V},(∀ ys,PyData.eqv (c ys) (c ys)=PyData.eqvAll ys ys)->(xs.mapM (xY U d)).map c=some x->PyData.eqv x x=true:=fun {o c xs} hc h=>by
   obtain ⟨ys,hy,rfl⟩:=map_some h
   rw [hc]; exact zCl (zDa U d) xs ys hy
  cases v with
  | undef=>cases h
  | none=>cases h; rfl
  | bool b=>cases h; exact beq_self_eq_true b
  | int i=>cases h; exact beq_self_eq_true i
  | str s=>cases h; exact beq_self_eq_true s
  | tup xs=>exact lst (o:=none) (c:=.tuple) (fun _=>rfl) h
  | lst xs=>exact lst (o:=none) (c:=.list) (fun _=>rfl) h
  | ref n =>
   replace h:zDZ (xY U d) U[n]?=some x:=h
   cases ho:U[n]? with
   | none=>rw [ho] at h; cases h
   | some o =>
    rw [ho] at h
    cases o with
    | list xs=>exact lst (o:=none) (c:=.list) (fun _=>rfl) h
    | dict es=>cases h
    | inst as=>cases h
  | exc c=>cases h
  | parts=>cases h
noncomputable def Has (U:Sto) (d:Nat) (v:V):Prop:=∃ x,xY U d v=some x
theorem zDw {U:Sto} {d:Nat}:∀ {xs:List V},(∀ x ∈ xs,Has U d x)->∃ ys,xs.mapM (xY U d)=some ys
 | [],_=>⟨[],rfl⟩
 | x :: xs,h=>by
  obtain ⟨y,hy⟩:=h x List.mem_cons_self
  obtain ⟨ys,hys⟩:=zDw fun z hz=>h z (List.mem_cons_of_mem x hz)
  exact ⟨y :: ys,by rw [List.mapM_cons,hy,hys]; rfl⟩
theorem zND {U:Sto} {d n:Nat} {xs:List V} (hn:U[n]?=some (.list xs)) (h:∀ x ∈ xs,Has U d x):∃ x,xY U (d+1) (.ref n)=some x /\ zDZ (xY U d) (some (.list xs))=some x:=by
 obtain ⟨ys,hy⟩:=zDw h
 refine ⟨.list ys,?_,by show (xs.mapM (xY U d)).map PyData.list=_; rw [hy]; rfl⟩
 show zDZ (xY U d) U[n]?=_
 rw [hn]
 show (xs.mapM (xY U d)).map PyData.list=_; rw [hy]; rfl
theorem zKt {U:Sto} {a b:V} {x:PyData} (ha:xY U xJ a=some x) (hb:xY U xJ b=some x) (hl:∀ xs ys,listOf? U a=some xs->listOf? U b=some ys->xs.length=ys.length):eqV U a b=some true:=by
 have e:eqV.eqD U a b=some true:=by
  show ((xY U xJ a).bind fun x=>(xY U xJ b).map fun y=>PyData.eqv x y)=_
  rw [ha,hb]
  show some (PyData.eqv x x)=_
  rw [zDa U _ _ _ ha]
 unfold eqV
 split
 ·rename_i xs ys h1 h2
  rw [hl xs ys h1 h2,bne_self_eq_false]; exact e
 ·exact e
theorem zMz {U:Sto} {v:V} (h:Has U xJ v):eqV U v v=some true:=by
 obtain ⟨x,h⟩:=h
 exact zKt h h fun xs ys h1 h2=>by rw [h1] at h2; cases h2; rfl
theorem zHT {U:Sto} {v:V} (h:Has U xJ v):ev2 .ne U v v=some (.bool false):=by
 show (eqV U v v).map _=_
 rw [zMz h]; rfl
set_option genCtorIdx true in
inductive W8 where
 | lin (w:Wd) | pay | ref | mov | ord
noncomputable def W8.s:W8->Str
 | .lin w=>w.s
 | .pay=>wM
 | .ref=>jz
 | .mov=>yb
 | .ord=>yC
theorem zQO (U:Sto) (c:Int):∃ w:W8,ev2 .index U (.lst [.str jy,.str jy,.str jy,.str jy,.str zFH,.str zFJ,.str zFI,.str wM,.str wM,.str jz,.str yb,.str yC]) (.int (c.fmod 12))=some (.str w.s):=by
 obtain ⟨k,hk,h2⟩:=zBs c (m:=12) (by decide)
 rw [show ((12:Nat):Int)=12 from rfl] at hk
 rw [hk]
 match k,h2 with
 | 0,_=>exact ⟨.lin .del,rfl⟩
 | 1,_=>exact ⟨.lin .del,rfl⟩
 | 2,_=>exact ⟨.lin .del,rfl⟩
 | 3,_=>exact ⟨.lin .del,rfl⟩
 | 4,_=>exact ⟨.lin .back,rfl⟩
 | 5,_=>exact ⟨.lin .swap,rfl⟩
 | 6,_=>exact ⟨.lin .cred,rfl⟩
 | 7,_=>exact ⟨.pay,rfl⟩
 | 8,_=>exact ⟨.pay,rfl⟩
 | 9,_=>exact ⟨.ref,rfl⟩
 | 10,_=>exact ⟨.mov,rfl⟩
 | 11,_=>exact ⟨.ord,rfl⟩
 | k+12,h2=>omega
end Mine
end

section
namespace Mine
open PySem
noncomputable def zOC:Fn:={ params:=2,slots:=2,body:=[.ite (.p2 .lt (.var 1) (.p1 .len (.var 0))) [.ret (.p2 .index (.var 0) (.var 1))] [],.ret (.lit (.int 0))] }
noncomputable def zLD:Fn:={ params:=1,slots:=1,body:=[.ret (.p2 .fdiv (.p2 .mul (.p2 .sub (.p2 .index (.var 0) (.lit (.int 4))) (.p2 .index (.var 0) (.lit (.int 5)))) (.p2 .index (.var 0) (.lit (.int 2)))) (.p2 .index (.var 0) (.lit (.int 3))))] }
noncomputable def zOD:Fn:={ params:=1,slots:=1,body:=[.ret (.p2 .sub (.p1 .sum (.comp (.p2 .sub (.call 102 [.var 1]) (.p2 .index (.var 1) (.lit (.int 7)))) .val [.p2 .index (.var 0) (.lit (.int 0))] none)) (.p2 .index (.var 0) (.lit (.int 1))))] }
noncomputable def hMost:Fn:={ params:=4,slots:=6,body:=[.ite (.p1 .not (.chain (.lit (.int 0)) [.le,.lt] [.var 1,.p1 .len (.var 3)])) [.ret (.lit (.int 5))] [],.asg 4 (.call 103 [.p2 .index (.var 3) (.var 1)]),.ite (.p2 .eq (.var 0) (.lit (.str { cps:=#[112,97,121] }))) [.ret (.var 4)] [],.ite (.or (.p2 .eq (.var 0) (.lit (.str { cps:=#[114,101,102,117,110,100] }))) (.p2 .eq (.var 0) (.lit (.str { cps:=#[109,111,118,101] })))) [.ret (.p1 .neg (.var 4))] [],.ite (.p1 .not (.chain (.lit (.int 0)) [.le,.lt] [.var 2,.p1 .len (.p2 .index (.p2 .index (.var 3) (.var 1)) (.lit (.int 0)))])) [.ret (.lit (.int 5))] [],.asg 5 (.p2 .index (.p2 .index (.p2 .index (.var 3) (.var 1)) (.lit (.int 0))) (.var 2)),.ite (.p2 .eq (.var 0) (.lit (.str { cps:=#[100,101,108,105,118,101,114] }))) [.ret (.p2 .add (.p2 .sub (.p2 .index (.var 5) (.lit (.int 1))) (.p2 .index (.var 5) (.lit (.int 4)))) (.p2 .index (.var 5) (.lit (.int 6))))] [],.ite (.p2 .eq (.var 0) (.lit (.str { cps:=#[99,114,101,100,105,116] }))) [.ret (.p2 .sub (.call 102 [.var 5]) (.p2 .index (.var 5) (.lit (.int 7))))] [],.ret (.p2 .sub (.p2 .index (.var 5) (.lit (.int 4))) (.p2 .index (.var 5) (.lit (.int 5))))] }
noncomputable def hDeed:Fn:={ params:=3,slots:=9,body:=[.asg 3 (.list [.lit (.str { cps:=#[100,101,108,105,118,101,114] }),.lit (.str { cps:=#[100,101,108,105,118,101,114] }),.lit (.str { cps:=#[100,101,108,105,118,101,114] }),.lit (.str { cps:=#[100,101,108,105,118,101,114] }),.lit (.str { cps:=#[98,97,99,107] }),.lit (.str { cps:=#[115,119,97,112] }),.lit (.str { cps:=#[99,114,101,100,105,116] }),.lit (.str { cps:=#[112,97,121] }),.lit (.str { cps:=#[112,97,121] })]),.asg 3 (.p2 .add (.var 3) (.list [.lit (.str { cps:=#[114,101,102,117,110,100] }),.lit (.str { cps:=#[109,111,118,101] }),.lit (.str { cps:=#[111,114,100,101,114] })])),.asg 4 (.p2 .index (.var 3) (.p2 .mod (.p2 .mod (.p2 .mul (.var 0) (.lit (.int 48271))) (.lit (.int 10007))) (.lit (.int 12)))),.ite (.or (.p2 .eq (.var 2) (.list [])) (.and (.p2 .eq (.var 4) (.lit (.str { cps:=#[111,114,100,101,114] }))) (.p2 .lt (.p1 .len (.var 2)) (.lit (.int 4))))) [.ret (.tup [.lit (.str { cps:=#[111,114,100,101,114] }),.call 108 [.var 1]])] [],.ite (.p2 .eq (.var 4) (.lit (.str { cps:=#[111,114,100,101,114] }))) [.asg 4 (.lit (.str { cps:=#[109,111,118,101] }))] [],.asg 5 (.call 105 [.var 0,.lit (.int 10037),.p1 .len (.var 2)]),.ite (.or (.p2 .eq (.var 4) (.lit (.str { cps:=#[112,97,121] }))) (.p2 .eq (.var 4) (.lit (.str { cps:=#[114,101,102,117,110,100] })))) [.ret (.tup [.var 4,.var 5,.call 106 [.var 1,.call 104 [.var 4,.var 5,.lit (.int 0),.var 2]]])] [],.ite (.p2 .eq (.var 4) (.lit (.str { cps:=#[109,111,118,101] }))) [.asg 6 (.call 105 [.var 1,.lit (.int 10099),.p1 .len (.var 2)]),.ret (.tup [.var 4,.var 5,.var 6,.call 106 [.var 1,.call 104 [.var 4,.var 5,.lit (.int 0),.var 2]]])] [],.asg 7 (.lit (.int 1)),.ite (.chain (.lit (.int 0)) [.le,.lt] [.var 5,.p1 .len (.var 2)]) [.asg 7 (.p1 .len (.p2 .index (.p2 .index (.var 2) (.var 5)) (.lit (.int 0))))] [],.asg 8 (.call 105 [.var 0,.lit (.int 10091),.var 7]),.ret (.tup [.var 4,.var 5,.var 8,.call 106 [.var 1,.call 104 [.var 4,.var 5,.var 8,.var 2]]])] }
noncomputable def hRefusal:Fn:={ params:=2,slots:=4,body:=[.ite (.p2 .eq (.p2 .index (.var 0) (.lit (.int 0))) (.lit (.str { cps:=#[111,114,100,101,114] }))) [.ret (.lit (.str { cps:=#[] }))] [],.ite (.or (.p1 .not (.chain (.lit (.int 0)) [.le,.lt] [.p2 .index (.var 0) (.lit (.int 1)),.p1 .len (.var 1)])) (.and (.p2 .eq (.p2 .index (.var 0) (.lit (.int 0))) (.lit (.str { cps:=#[109,111,118,101] }))) (.p1 .not (.chain (.lit (.int 0)) [.le,.lt] [.p2 .index (.var 0) (.lit (.int 2)),.p1 .len (.var 1)])))) [.ret (.lit (.str { cps:=#[78,111,79,114,100,101,114] }))] [],.ite (.and (.p2 .eq (.p2 .index (.var 0) (.lit (.int 0))) (.lit (.str { cps:=#[109,111,118,101] }))) (.p2 .eq (.p2 .index (.var 0) (.lit (.int 1))) (.p2 .index (.var 0) (.lit (.int 2))))) [.ret (.lit (.str { cps:=#[83,97,109,101,79,114,100,101,114] }))] [],.asg 2 (.lit (.int 0)),.ite (.and (.p2 .eq (.p1 .len (.var 0)) (.lit (.int 4))) (.p2 .ne (.p2 .index (.var 0) (.lit (.int 0))) (.lit (.str { cps:=#[109,111,118,101] })))) [.asg 2 (.p2 .index (.var 0) (.lit (.int 2)))] [],.ite (.p1 .not (.chain (.lit (.int 0)) [.le,.lt] [.var 2,.p1 .len (.p2 .index (.p2 .index (.var 1) (.p2 .index (.var 0) (.lit (.int 1)))) (.lit (.int 0)))])) [.ret (.lit (.str { cps:=#[78,111,76,105,110,101] }))] [],.asg 3 (.p2 .index (.var 0) (.p2 .sub (.p1 .len (.var 0)) (.lit (.int 1)))),.ite (.p2 .lt (.var 3) (.lit (.int 1))) [.ret (.lit (.str { cps:=#[78,111,78,117,109,98,101,114] }))] [],.ite (.and (.p2 .ne (.p2 .index (.var 0) (.lit (.int 0))) (.lit (.str { cps:=#[112,97,121] }))) (.p2 .gt (.var 3) (.call 104 [.p2 .index (.var 0) (.lit (.int 0)),.p2 .index (.var 0) (.lit (.int 1)),.var 2,.var 1]))) [.ret (.lit (.str { cps:=#[84,111,111,77,117,99,104] }))] [],.ret (.lit (.str { cps:=#[] }))] }
noncomputable def hTurned:Fn:={ params:=2,slots:=5,body:=[.asg 2 (.p2 .index (.var 0) (.p2 .sub (.p1 .len (.var 0)) (.lit (.int 1)))),.ite (.or (.p2 .eq (.p2 .index (.var 0) (.lit (.int 0))) (.lit (.str { cps:=#[112,97,121] }))) (.or (.p2 .eq (.p2 .index (.var 0) (.lit (.int 0))) (.lit (.str { cps:=#[114,101,102,117,110,100] }))) (.p2 .eq (.p2 .index (.var 0) (.lit (.int 0))) (.lit (.str { cps:=#[109,111,118,101] }))))) [.asg 3 (.p2 .sub (.lit (.int 1)) (.p2 .mul (.lit (.int 2)) (.p1 .toInt (.p2 .ne (.p2 .index (.var 0) (.lit (.int 0))) (.lit (.str { cps:=#[112,97,121] })))))),.setItem (.p2 .index (.var 1) (.p2 .index (.var 0) (.lit (.int 1)))) (.lit (.int 1)) (.p2 .add (.p2 .index (.p2 .index (.var 1) (.p2 .index (.var 0) (.lit (.int 1)))) (.lit (.int 1))) (.p2 .mul (.var 3) (.var 2))),.ite (.p2 .eq (.p2 .index (.var 0) (.lit (.int 0))) (.lit (.str { cps:=#[109,111,118,101] }))) [.setItem (.p2 .index (.var 1) (.p2 .index (.var 0) (.lit (.int 2)))) (.lit (.int 1)) (.p2 .add (.p2 .index (.p2 .index (.var 1) (.p2 .index (.var 0) (.lit (.int 2)))) (.lit (.int 1))) (.var 2))] [],.ret (.var 0)] [],.asg 4 (.p2 .index (.p2 .index (.p2 .index (.var 1) (.p2 .index (.var 0) (.lit (.int 1)))) (.lit (.int 0))) (.p2 .index (.var 0) (.lit (.int 2)))),.ite (.p2 .eq (.p2 .index (.var 0) (.lit (.int 0))) (.lit (.str { cps:=#[100,101,108,105,118,101,114] }))) [.setItem (.var 4) (.lit (.int 4)) (.p2 .add (.p2 .index (.var 4) (.lit (.int 4))) (.var 2))] [.ite (.p2 .eq (.p2 .index (.var 0) (.lit (.int 0))) (.lit (.str { cps:=#[99,114,101,100,105,116] }))) [.setItem (.var 4) (.lit (.int 7)) (.p2 .add (.p2 .index (.var 4) (.lit (.int 7))) (.var 2))] [.setItem (.var 4) (.lit (.int 5)) (.p2 .add (.p2 .index (.var 4) (.lit (.int 5))) (.var 2)),.setItem (.var 4) (.lit (.int 6)) (.p2 .add (.p2 .index (.var 4) (.lit (.int 6))) (.p2 .mul (.var 2) (.p1 .toInt (.p2 .eq (.p2 .index (.var 0) (.lit (.int 0))) (.lit (.str { cps:=#[115,119,97,112] })))))),.setItem (.var 4) (.lit (.int 7)) (.p2 .min (.p2 .index (.var 4) (.lit (.int 7))) (.call 102 [.var 4]))]],.ret (.var 0)] }
noncomputable def zOE:Fn:={ params:=2,slots:=6,body:=[.ite (.p2 .eq (.p2 .index (.var 0) (.lit (.int 0))) (.lit (.str { cps:=#[111,114,100,101,114] }))) [.exp (.append (.var 1) (.trk (.list [.comp (.trk (.p2 .add (.p1 .toList (.var 6)) (.list [.lit (.int 0),.lit (.int 0),.lit (.int 0),.lit (.int 0)]))) .val [.p2 .index (.var 0) (.lit (.int 1))] none,.lit (.int 0),.trk (.list [])]))),.ret (.list [])] [],.asg 2 (.list [.p2 .index (.var 0) (.lit (.int 1))]),.ite (.p2 .eq (.p2 .index (.var 0) (.lit (.int 0))) (.lit (.str { cps:=#[109,111,118,101] }))) [.asg 2 (.list [.p2 .index (.var 0) (.lit (.int 1)),.p2 .index (.var 0) (.lit (.int 2))])] [],.asg 3 (.comp (.call 103 [.var 6]) .val [.var 1] none),.exp (.call 111 [.var 0,.var 1]),.asg 4 (.comp (.tup [.var 6,.p2 .sub (.call 103 [.p2 .index (.var 1) (.var 6)]) (.p2 .index (.var 3) (.var 6))]) .val [.var 2] none),.for 5 .val [.var 4] [.exp (.append (.p2 .index (.p2 .index (.var 1) (.p2 .index (.var 5) (.lit (.int 0)))) (.lit (.int 2))) (.tup [.p2 .index (.var 0) (.lit (.int 0)),.p2 .index (.var 5) (.lit (.int 1))]))],.ret (.var 4)] }
structure yN (T:Nat->Option Fn):Prop where
 t100:T 100=some zOC
 t102:T 102=some zLD
 t103:T 103=some zOD
 t104:T 104=some hMost
 t109:T 109=some hDeed
 t110:T 110=some hRefusal
 t111:T 111=some hTurned
 t112:T 112=some zOE
 t101:T 101=some zF4
 t105:T 105=some zF2
 t106:T 106=some zDu
 t107:T 107=some zEu
 t108:T 108=some (zAH 107)
end Mine
end

section
namespace Mine
open PySem
theorem zK7 {it:Items} {f:V->List V->Sto->R (List V)} {xs:List V} {acc:List V} {U:Sto} (I:Nat->List V->Sto->Prop) (hit:∀ i acc U,I i acc U->Gives U it xs) (h0:I 0 acc U)
  (hs:∀ i x acc U,xs[i]?=some x->I i acc U->∃ acc' U',f x acc U=.ok acc' U' /\ I (i+1) acc' U') :
  ∃ acc' U',zo it f acc U=.ok acc' U' /\ I xs.length acc' U':=by
 have key:∀ k i acc U,k+i=xs.length->I i acc U->∃ acc' U',xF it f (k+1) i acc U=.ok acc' U' /\ I xs.length acc' U':=by
  intro k
  induction k with
  | zero =>
   intro i acc U hi h
   obtain rfl:i=xs.length:=(Nat.zero_add i).symm.trans hi
   refine ⟨acc,U,?_,h⟩
   exact zHt (((hit _ _ _ h).next _).trans (by rw [List.getElem?_eq_none (Nat.le_refl _)]))
  | succ k ih =>
   intro i acc U hi h
   have hlt:i < xs.length:=Nat.lt_of_lt_of_eq (Nat.lt_add_of_pos_left (Nat.succ_pos k)) hi
   obtain ⟨acc',U',e,h'⟩:=hs i _ acc U (List.getElem?_eq_getElem hlt) h
   obtain ⟨acc'',U'',e',h''⟩:=ih (i+1) acc' U' ((Nat.succ_add_eq_add_succ k i).symm.trans hi) h'
   refine ⟨acc'',U'',?_,h''⟩
   rw [zHu (((hit _ _ _ h).next _).trans (by rw [List.getElem?_eq_getElem hlt]))]
   rw [e]; exact e'
 rw [zo,(hit _ _ _ h0).fuel]
 exact key xs.length 0 acc U rfl h0
theorem zEd {F:Calls} {elt:CE} {k:SK} {src:List CE} {J vs:List V} {U U1:Sto} {it:Items} {xs:List V} (I:Nat->List V->Sto->Prop)
  (hsrc:evL F false src J U=.ok vs U1) (hit:yM U1 k vs=some it) (hI:∀ j acc U,I j acc U->Gives U it xs /\ acc.length=j) (hl:xs.length <= LIM) (h0:I 0 [] U1)
  (hs:∀ j x acc U,xs[j]?=some x->I j acc U->∃ y U',evE F false elt (J++[x]) U=.ok y U' /\ I (j+1) (acc++[y]) U') :
  ∃ acc U',evE F false (.comp elt k src none) J U=.ok (.lst acc) U' /\ I xs.length acc U':=by
 obtain ⟨acc,U',e,h⟩:=zK7 (it:=it) (f:=fun x acc U=>(evC F false none (J++[x]) U).calm.bind fun t U=>if t then (evE F false elt (J++[x]) U).calmE.bind fun y U=>(if acc.length < LIM then .ok (acc++[y]) U else .stuck) else .ok acc U) I (fun j acc U h=>(hI j acc U h).1) h0 (fun j x acc U hx h=>by
  obtain ⟨y,U',e,h'⟩:=hs j x acc U hx h
  refine ⟨acc++[y],U',?_,h'⟩
  show R.bind (evE F false elt (J++[x]) U).calmE _=_
  rw [e]
  show (if acc.length < LIM then R.ok (acc++[y]) U' else .stuck)=_
  rw [if_pos (by rw [(hI j acc U h).2]; exact Nat.lt_of_lt_of_le (List.getElem?_eq_some_iff.mp hx).1 hl)])
 refine ⟨acc,U',?_,h⟩
 show ((evL F false src J U).bind fun vs U=>(R.lift U (yM U k vs)).bind fun it U =>
   (zo it (fun x acc U=>(evC F false none (J++[x]) U).calm.bind fun t U=>if t then (evE F false elt (J++[x]) U).calmE.bind fun y U=>(if acc.length < LIM then .ok (acc++[y]) U else .stuck) else .ok acc U) [] U).bind fun acc U=>R.ok (V.lst acc) U)=_
 rw [hsrc,R.bind_ok,hit,R.lift_some,R.bind_ok,e]; rfl
theorem jR {F:Calls} {elt:CE} {k:SK} {src:List CE} {J vs:List V} {U U1:Sto} {it:Items} {xs ys:List V} (hsrc:evL F false src J U=.ok vs U1) (hit:yM U1 k vs=some it) (hg:Gives U1 it xs) (hl:xs.length <= LIM) (hlen:xs.length=ys.length)
  (h:∀ (j:Nat) (x:V),xs[j]?=some x->∃ y,ys[j]?=some y /\ evE F false elt (J++[x]) U1=.ok y U1):evE F false (.comp elt k src none) J U=.ok (.lst ys) U1:=by
 obtain ⟨acc,U',e,h1,h2,h3⟩:=zEd (elt:=elt) (fun j acc U=>U=U1 /\ acc=ys.take j /\ j <= ys.length) hsrc hit (fun j acc U hI=>by obtain ⟨rfl,rfl,hj⟩:=hI; exact ⟨hg,by rw [List.length_take]; exact Nat.min_eq_left hj⟩) hl ⟨rfl,rfl,Nat.zero_le _⟩ fun j x acc U hx hI=>by
  obtain ⟨rfl,rfl,hj⟩:=hI
  obtain ⟨y,hy,e⟩:=h j x hx
  exact ⟨y,_,e,rfl,by rw [List.take_add_one,hy]; rfl,(List.getElem?_eq_some_iff.mp hy).1⟩
 rw [e,h2,h1,hlen,List.take_length]
set_option genCtorIdx true in
inductive Role where
 | bk (i:Nat) | en (i:Nat) | hi (i:Nat) | acc (i:Nat) | ord (i o:Nat) | row (i o:Nat) | lin (i o k:Nat) | kept | fresh | other
noncomputable def lnL (l:Ln):List V:=[.str l.item,.int l.p,.int l.c,.int l.k,.int l.s,.int l.b,.int l.a,.int l.r]
inductive OrdAt (U:Sto) (ro:Nat->Role) (i o r:Nat) (u:Or):Prop
 | mk (q:Nat) (ls:List V) (hr:U[r]?=some (.list [.lst ls,.int u.paid,.ref q])) (rr:ro r=.ord i o) (hq:U[q]?=some (.list (u.rows.map xm))) (rq:ro q=.row i o) (hl:ls.length=u.lines.length)
   (hls:∀ (k:Nat) (l:Ln),u.lines[k]?=some l->∃ n:Nat,ls[k]?=some (.ref n) /\ U[n]?=some (.list (lnL l)) /\ ro n=.lin i o k)
structure Acct (U:Sto) (ro:Nat->Role) (i a:Nat) (us:List Or) (rs:List V):Prop where
 ord:U[a]?=some (.list rs)
 ra:ro a=.acc i
 len:rs.length=us.length
 at_:∀ (o:Nat) (u:Or),us[o]?=some u->∃ r:Nat,rs[o]?=some (.ref r) /\ OrdAt U ro i o r u
section
variable {T:Nat->Option Fn} {d:Nat} {q:Bool} {U:Sto} {ro:Nat->Role} {i a o r n:Nat} {us:List Or} {rs:List V} {u:Or} {l:Ln}
theorem zPX (M:yN T) (l:List Int) (k:Nat):zA T (d+1) q 100 [.lst (iv l),.int k] U=.ok (.int (gI l k)) U:=by
 by_cases h:k < l.length
 ·exact zG M.t100 rfl (s_t (zE (t:=true) (zD rfl (zV rfl (zf U (iv l))) (by rw [xN,wJ,decide_eq_true (Int.ofNat_lt.mpr h)]))) (zK (zD rfl rfl (xP U h))))
 ·have hg:gI l k=0:=by simp [gI,List.getElem?_eq_none (Nat.le_of_not_lt h)]
  rw [hg]
  exact zG M.t100 rfl (s_f (zE (t:=false) (zD rfl (zV rfl (zf U (iv l))) (by rw [xN,wJ,decide_eq_false fun q=>h (Int.ofNat_lt.mp q)]))) (zK rfl))
theorem zk {F:Calls} {J:List V} {j k:Nat} {x:V} (hn:U[n]?=some (.list (lnL l))) (hv:zN J j=some (.ref n)) (hx:(lnL l)[k]?=some x):evE F q (.p2 .index (.var j) (.lit (.int k))) J U=.ok x U:=
 zD (by rw [zv,hv]; rfl) rfl (zU U hn hx)
theorem zBM (M:yN T) (hn:U[n]?=some (.list (lnL l))) (ok:l.ok):zA T (d+1) q 102 [.ref n] U=.ok (.int l.worth) U:=
 zG M.t102 rfl (zK (zD (zD (zD (zk (k:=4) hn rfl rfl) (zk (k:=5) hn rfl rfl) rfl) (zk (k:=2) hn rfl rfl) (yc U _ _ (.inr (zED ok)))) (zk (k:=3) hn rfl rfl) (wH U _ _ (zFw ok.k1 ok.k2))))
theorem OrdAt.index (A:OrdAt U ro i o r u):∃ ls:List V,ev2 .index U (.ref r) (.int 0)=some (.lst ls) /\ ev2 .index U (.ref r) (.int 1)=some (.int u.paid) /\ ls.length=u.lines.length /\ ∀ (k:Nat) (l:Ln),u.lines[k]?=some l->∃ n:Nat,ls[k]?=some (.ref n) /\ U[n]?=some (.list (lnL l)):=by
 cases A with
 | mk q ls hr rr hq rq hl hls=>exact ⟨ls,zU U (i:=0) hr rfl,zU U (i:=1) hr rfl,hl,fun k l h=>by obtain ⟨n,h1,h2,_⟩:=hls k l h; exact ⟨n,h1,h2⟩⟩
theorem zAI (M:yN T) (A:OrdAt U ro i o r u) (ok:u.ok):zA T (d+2) false 103 [.ref r] U=.ok (.int u.owed) U:=by
 obtain ⟨ls,h0,h1,hl,hls⟩:=A.index
 refine zG M.t103 rfl (zK (zD (x:=.int (u.lines.map Ln.charge).sum) (zV (x:=.lst (iv (u.lines.map Ln.charge))) (jR (vs:=[.lst ls]) (xs:=ls) (zC (zD rfl rfl h0) rfl) rfl (.inl rfl) (by rw [hl]; exact Nat.le_of_lt ok.lim) (by rw [wJ,List.length_map]; exact hl) fun j x hx=>?_) (xl U _)) (zD rfl rfl h1) rfl))
 have hj:j < u.lines.length:=by rw [<- hl]; exact (List.getElem?_eq_some_iff.mp hx).1
 have hlj:u.lines[j]?=some u.lines[j]:=List.getElem?_eq_getElem hj
 generalize u.lines[j]=l at hlj
 obtain ⟨n,hn,hnn⟩:=hls j l hlj
 rw [hn] at hx; cases hx
 refine ⟨.int l.charge,by unfold iv; rw [List.getElem?_map,List.getElem?_map,hlj]; rfl,zD (zH rfl (zBM M hnn (ok.ls l (List.mem_of_getElem? hlj)))) (zk (k:=7) hnn rfl rfl) rfl⟩
theorem Acct.index (A:Acct U ro i a us rs) (hu:us[o]?=some u):∃ r:Nat,ev2 .index U (.ref a) (.int o)=some (.ref r) /\ OrdAt U ro i o r u:=by
 obtain ⟨r,hr,h⟩:=A.at_ o u hu
 exact ⟨r,zU U A.ord hr,h⟩
theorem Acct.e_len {F:Calls} {J:List V} {j:Nat} (A:Acct U ro i a us rs) (h:zN J j=some (.ref a)):evE F q (.p1 .len (.var j)) J U=.ok (.int us.length) U:=
 zV (x:=.ref a) (by rw [zv,h]; rfl) (by rw [wO U A.ord,A.len])
noncomputable def wV (w:W8) (us:List Or) (at' place:Int):Int:=match atI us at' with
 | none=>5
 | some u=>match w with
  | .pay=>u.owed
  | .ref=>-u.owed
  | .mov=>-u.owed
  | .lin w=>(match atI u.lines place with
   | none=>5
   | some l=>xX w l)
  | .ord=>5
theorem zLU (M:yN T) (w:Wd) {x1 x2 x3 x4:V} (hnn:U[n]?=some (.list (lnL l))) (il:l.ok):exL (zA T (d+2) false) (zA T (d+2) true) false (hMost.body.drop 6) [.str w.s,x1,x2,x3,x4,.ref n] U=.ok (.ret (.int (xX w l))) U:=by
 cases w with
 | del=>exact s_t rfl (zK (zD (zD (zk (k:=1) hnn rfl rfl) (zk (k:=4) hnn rfl rfl) rfl) (zk (k:=6) hnn rfl rfl) rfl))
 | cred=>exact s_f rfl (s_t rfl (zK (zD (zH rfl (zBM M hnn il)) (zk (k:=7) hnn rfl rfl) rfl)))
 | back=>exact s_f rfl (s_f rfl (zK (zD (zk (k:=4) hnn rfl rfl) (zk (k:=5) hnn rfl rfl) rfl)))
 | swap=>exact s_f rfl (s_f rfl (zK (zD (zk (k:=4) hnn rfl rfl) (zk (k:=5) hnn rfl rfl) rfl)))
noncomputable def zRa (w:Wd):Option Ln->Int
 | none=>5
 | some l=>xX w l
theorem zLV (M:yN T) {x4:V} (hr:ev2 .index U (.ref a) (.int o)=some (.ref r)) (O:OrdAt U ro i o r u) (ok:u.ok) (w:Wd) (place:Int):exL (zA T (d+2) false) (zA T (d+2) true) false (hMost.body.drop 2) [.str w.s,.int o,.int place,.ref a,x4,.undef] U=.ok (.ret (.int (zRa w (atI u.lines place)))) U:=by
 obtain ⟨ls,h0,h1,hl,hls⟩:=O.index
 have i0:∀ {F:Calls},evE F false (.p2 .index (.p2 .index (.var 3) (.var 1)) (.lit (.int 0))) [.str w.s,.int o,.int place,.ref a,x4,.undef] U=.ok (.lst ls) U:=zD (zD rfl rfl hr) rfl h0
 have ti:evE (zA T (d+2) false) false (.p1 .not (.chain (.lit (.int 0)) [.le,.lt] [.var 2,.p1 .len (.p2 .index (.p2 .index (.var 3) (.var 1)) (.lit (.int 0)))])) [.str w.s,.int o,.int place,.ref a,x4,.undef] U=.ok (.bool !(decide (0 <= place)&&decide (place < (u.lines.length:Int)))) U:=zV (yp rfl rfl (zV i0 (by rw [zf,hl]))) rfl
 refine s_f (zE (zD rfl rfl (zHn w))) (s_f (zE (zW (zD rfl rfl (zHo w)) rfl (zD rfl rfl (wb w)))) ?_)
 cases hpl:atI u.lines place with
 | none=>exact s_t (zE (ti.trans (by rw [wE hpl]; rfl))) (zK rfl)
 | some l =>
  obtain ⟨k,rfl,hk⟩:=zi hpl
  obtain ⟨n,hn,hnn⟩:=hls k l hk
  exact s_f (zE (ti.trans (by rw [in_iff.mpr ⟨k,rfl,(List.getElem?_eq_some_iff.mp hk).1⟩]; rfl))) (zJ (zD i0 rfl (zr U hn)) (zLU M w hnn (ok.ls l (List.mem_of_getElem? hk))))
theorem zF6 (M:yN T) (A:Acct U ro i a us rs) (hok:∀ u ∈ us,u.ok) (w:W8) (hw:w ≠ .ord) (at' place:Int):zA T (d+3) false 104 [.str w.s,.int at',.int place,.ref a] U=.ok (.int (wV w us at' place)) U:=by
 refine zG M.t104 rfl ?_
 show exL (zA T (d+2) false) (zA T (d+2) true) false hMost.body [.str w.s,.int at',.int place,.ref a,.undef,.undef] U=_
 have ti:evE (zA T (d+2) false) false (.p1 .not (.chain (.lit (.int 0)) [.le,.lt] [.var 1,.p1 .len (.var 3)])) [.str w.s,.int at',.int place,.ref a,.undef,.undef] U=.ok (.bool !(decide (0 <= at')&&decide (at' < (us.length:Int)))) U:=zV (yp rfl rfl (A.e_len rfl)) rfl
 unfold wV
 cases hat:atI us at' with
 | none=>exact s_t (zE (ti.trans (by rw [wE hat]; rfl))) (zK rfl)
 | some u =>
  obtain ⟨o,rfl,hu⟩:=zi hat
  have ok:=hok u (List.mem_of_getElem? hu)
  obtain ⟨r,hr,O⟩:=A.index hu
  refine s_f (zE (ti.trans (by rw [in_iff.mpr ⟨o,rfl,(List.getElem?_eq_some_iff.mp hu).1⟩]; rfl))) (zJ (zH (zC (zD rfl rfl hr) rfl) (zAI M O ok)) ?_)
  clear ti hat
  cases w with
  | ord=>exact (hw rfl).elim
  | pay=>exact s_t rfl (zK rfl)
  | ref=>exact s_f rfl (s_t rfl (zK rfl))
  | mov=>exact s_f rfl (s_t rfl (zK rfl))
  | lin w=>exact zLV M hr O ok w place
end
end Mine
end

section
namespace Mine
open PySem
inductive zQY (U:Sto) (us:List Or) (r:R V):Prop
 | ord (ls:List Ln) (hf:(Deed.ord ls).fit us) (h4:us.length < 4) (er:r=.ok ((Deed.ord ls).raw U.length) (U++[.list (ls.map Ln.raw)]))
 | oth (D:Deed) (hn:∀ ls,D ≠ .ord ls) (er:r=.ok D.v U)
section
variable {T:Nat->Option Fn} {d:Nat} {q:Bool} {U:Sto} {ro:Nat->Role} {i a o r n:Nat} {us:List Or} {rs:List V} {u:Or} {l:Ln}
theorem zDq {m:Nat} (hm:U[m]?=some (.list rs)):ev2 .eq U (.ref m) (.lst [])=some (.bool (rs.length==0)):=by
 have h1:listOf? U (.ref m)=some rs:=by show wT U[m]?=_; rw [hm]; rfl
 show (eqV U (.ref m) (.lst [])).map V.bool=_
 cases rs with
 | cons x rs =>
  have:eqV U (.ref m) (.lst [])=some false:=by
   unfold eqV; rw [h1]; rfl
  rw [this]; rfl
 | nil =>
  have:eqV U (.ref m) (.lst [])=some true:=by
   unfold eqV; rw [h1]
   show ((zDZ (xY U 7) U[m]?).bind fun x=>some (PyData.eqv x (.list [])))=some true
   rw [hm]; rfl
  rw [this]; rfl
theorem zIJ {x0 x1 x3 x4 x6 x8:V} (A:Acct U ro i a us rs) (at':Int):∃ sz:Int,∀ {F Fq:Calls} {r:R Fl},exL F Fq false (hDeed.body.drop 10) [x0,x1,.ref a,x3,x4,.int at',x6,.int sz,x8] U=r->exL F Fq false (hDeed.body.drop 9) [x0,x1,.ref a,x3,x4,.int at',x6,.int 1,x8] U=r:=by
 have ti:∀ {F:Calls},evE F false (.chain (.lit (.int 0)) [.le,.lt] [.var 5,.p1 .len (.var 2)]) [x0,x1,.ref a,x3,x4,.int at',x6,.int 1,x8] U=.ok (.bool (decide (0 <= at')&&decide (at' < (us.length:Int)))) U:=fun {F}=>yp rfl rfl (A.e_len rfl)
 cases ht:(decide (0 <= at')&&decide (at' < (us.length:Int))) with
 | false=>exact ⟨1,fun kk=>s_f (zE (ti.trans (by rw [ht]))) kk⟩
 | true =>
  obtain ⟨o,rfl,ho⟩:=in_iff.mp ht
  obtain ⟨r,hr,O⟩:=A.index (List.getElem?_eq_getElem ho)
  obtain ⟨ls,h0,_⟩:=O.index
  exact ⟨_,fun kk=>s_t (zE (ti.trans (by rw [ht]))) (zJ (zV (zD (zD rfl rfl hr) rfl h0) (zf U ls)) kk)⟩
inductive zNp (F Fq:Calls) (J:List V) (U:Sto) (ss:List CS):Prop
 | mk (D:Deed) (hn:∀ ls,D ≠ .ord ls) (er:exL F Fq false ss J U=.ok (.ret D.v) U)
theorem zKm {ws:V} (M:yN T) (A:Acct U ro i a us rs) (hok:∀ u ∈ us,u.ok) (c c2 at':Int) (w:Wd):zNp (zA T (d+3) false) (zA T (d+3) true) [.int c,.int c2,.ref a,ws,.str w.s,.int at',.undef,.undef,.undef] U (hDeed.body.drop 6):=by
 obtain ⟨sz,kz⟩:=zIJ (x0:=.int c) (x1:=.int c2) (x3:=ws) (x4:=.str w.s) (x6:=.undef) (x8:=.undef) A at'
 obtain ⟨pl,hpl⟩:=zDv (T:=T) (d:=d+2) (k:=105) (U:=U) M.t105 c 10091 sz rfl rfl
 have hmo:=zF6 (d:=d) M A hok (.lin w) (fun h=>nomatch h) at' pl
 obtain ⟨n,hn⟩:=zEv (T:=T) (d:=d+2) (k:=106) (U:=U) M.t106 c2 (wV (.lin w) us at' pl)
 exact .mk (.lin w at' pl n) (fun _ h=>nomatch h) (s_f (zE (zW (zD rfl rfl (zHn w)) rfl (zD rfl rfl (zHo w)))) (s_f (zE (zD rfl rfl (wb w))) (zJ rfl (kz (zJ (zH rfl hpl) (zK (yg (zC rfl (zC rfl (zC rfl (zC (zH (zC rfl (zC (zH rfl hmo) rfl)) hn) rfl)))))))))))
theorem zKn {ws:V} (M:yN T) (A:Acct U ro i a us rs) (hok:∀ u ∈ us,u.ok) (c c2 at':Int) (w:W8) (hw:w ≠ .ord):zNp (zA T (d+3) false) (zA T (d+3) true) [.int c,.int c2,.ref a,ws,.str w.s,.int at',.undef,.undef,.undef] U (hDeed.body.drop 6):=by
 have hmo:=zF6 (d:=d) M A hok w hw at' 0
 obtain ⟨n,hn⟩:=zEv (T:=T) (d:=d+2) (k:=106) (U:=U) M.t106 c2 (wV w us at' 0)
 cases w with
 | ord=>exact (hw rfl).elim
 | pay=>exact .mk (.pay at' n) (fun _ h=>nomatch h) (s_t rfl (zK (yg (zC rfl (zC rfl (zC (zH (zC rfl (zC (zH rfl hmo) rfl)) hn) rfl))))))
 | ref=>exact .mk (.ref at' n) (fun _ h=>nomatch h) (s_t rfl (zK (yg (zC rfl (zC rfl (zC (zH (zC rfl (zC (zH rfl hmo) rfl)) hn) rfl))))))
 | mov =>
  obtain ⟨a2,ha2⟩:=zDv (T:=T) (d:=d+2) (k:=105) (U:=U) M.t105 c2 10099 us.length rfl rfl
  exact .mk (.mov at' a2 n) (fun _ h=>nomatch h) (s_f rfl (s_t rfl (zJ (zH (zC rfl (zC rfl (zC (A.e_len rfl) rfl))) ha2) (zK (yg (zC rfl (zC rfl (zC rfl (zC (zH (zC rfl (zC (zH rfl hmo) rfl)) hn) rfl)))))))))
 | lin w=>exact zKm M A hok c c2 at' w
theorem zIK {ws x0 x1:V} (A:Acct U ro i a us rs) (h0:(us.length==0)=false) (w:W8) (hwo:¬ (w=.ord /\ us.length < 4)):∃ w':W8,w' ≠ .ord /\ ∀ {F Fq:Calls} {r:R Fl},exL F Fq false (hDeed.body.drop 5) [x0,x1,.ref a,ws,.str w'.s,.undef,.undef,.undef,.undef] U=r->exL F Fq false (hDeed.body.drop 3) [x0,x1,.ref a,ws,.str w.s,.undef,.undef,.undef,.undef] U=r:=by
 have ht1:∀ {F:Calls} {x:V},evE F false (.p2 .eq (.var 2) (.list [])) [x0,x1,.ref a,ws,x,.undef,.undef,.undef,.undef] U=.ok (.bool false) U:=fun {F x}=>zD rfl rfl (by rw [zDq A.ord,A.len,h0])
 cases w with
 | ord =>
  have h4:¬ (us.length:Int) < 4:=fun h=>hwo ⟨rfl,Int.ofNat_lt.mp h⟩
  exact ⟨.mov,(fun h=>nomatch h),fun kk=>s_f (zE (zW ht1 rfl (zn rfl rfl (zD (A.e_len rfl) rfl (by rw [xN,decide_eq_false h4]))))) (s_t rfl (zJ rfl kk))⟩
 | pay=>exact ⟨.pay,(fun h=>nomatch h),fun kk=>s_f (zE (zW ht1 rfl (yn rfl rfl))) (s_f rfl kk)⟩
 | ref=>exact ⟨.ref,(fun h=>nomatch h),fun kk=>s_f (zE (zW ht1 rfl (yn rfl rfl))) (s_f rfl kk)⟩
 | mov=>exact ⟨.mov,(fun h=>nomatch h),fun kk=>s_f (zE (zW ht1 rfl (yn rfl rfl))) (s_f rfl kk)⟩
 | lin w=>exact ⟨.lin w,(fun h=>nomatch h),fun kk=>s_f (zE (zW ht1 rfl (yn (zD rfl rfl (zFe w)) rfl))) (s_f (zE (zD rfl rfl (zFe w))) kk)⟩
theorem zPM {ws x0 x1:V} {F:Calls} (A:Acct U ro i a us rs) (w:W8) (h4:us.length < 4) (ho:(us.length==0)=true \/ w=.ord):evC F false (some (.or (.p2 .eq (.var 2) (.list [])) (.and (.p2 .eq (.var 4) (.lit (.str yC))) (.p2 .lt (.p1 .len (.var 2)) (.lit (.int 4)))))) [x0,x1,.ref a,ws,.str w.s,.undef,.undef,.undef,.undef] U=.ok true U:=by
 have ht1:evE F false (.p2 .eq (.var 2) (.list [])) [x0,x1,.ref a,ws,.str w.s,.undef,.undef,.undef,.undef] U=.ok (.bool (us.length==0)) U:=zD rfl rfl (by rw [zDq A.ord,A.len])
 cases h0:(us.length==0) with
 | true=>rw [h0] at ht1; exact zE (zAE ht1 rfl)
 | false =>
  rw [h0] at ht1
  obtain rfl:=ho.resolve_left fun q=>nomatch h0.symm.trans q
  exact zE (zW ht1 rfl (zn rfl rfl (zD (A.e_len rfl) rfl (by rw [xN,decide_eq_true (show (us.length:Int) < 4 from Int.ofNat_lt.mpr h4)]))))
theorem zPY (M:yN T) (A:Acct U ro i a us rs) (hok:∀ u ∈ us,u.ok) (c c2:Int):zQY U us (zA T (d+4) false 109 [.int c,.int c2,.ref a] U):=by
 obtain ⟨w,hw⟩:=zQO U ((c * 48271).fmod 10007)
 have pre:∀ {v:V} {U':Sto},exL (zA T (d+3) false) (zA T (d+3) true) false (hDeed.body.drop 3) [.int c,.int c2,.ref a,.lst [.str jy,.str jy,.str jy,.str jy,.str zFH,.str zFJ,.str zFI,.str wM,.str wM,.str jz,.str yb,.str yC],.str w.s,.undef,.undef,.undef,.undef] U=.ok (.ret v) U'->zA T (d+4) false 109 [.int c,.int c2,.ref a] U=.ok v U':=fun kk =>
  zG M.t109 rfl (zJ rfl (zJ rfl (zJ (v:=.str w.s) (zD rfl (xL (c:=c) rfl rfl rfl rfl rfl) hw) kk)))
 generalize (V.lst [.str jy,.str jy,.str jy,.str jy,.str zFH,.str zFJ,.str zFI,.str wM,.str wM,.str jz,.str yb,.str yC])=ws at pre
 clear hw
 by_cases ho:us.length < 4 /\ ((us.length==0)=true \/ w=.ord)
 ·obtain ⟨ls,l1,l2,l3,hl⟩:=zM9 (T:=T) (d:=d+1) (k:=108) (it:=107) (U:=U) M.t108 M.t107 c2
  exact .ord ls ⟨l1,l2,l3,Nat.lt_trans ho.1 (by decide)⟩ ho.1 (pre (s_t (zPM A w ho.1 ho.2) (zK (yg (zC rfl (zC (zH rfl hl) rfl))))))
 ·have h0:(us.length==0)=false:=Bool.eq_false_iff.mpr fun q=>ho ⟨by rw [eq_of_beq q]; decide,.inl q⟩
  obtain ⟨w',hw',pre2⟩:=zIK (x0:=.int c) (x1:=.int c2) (ws:=ws) A h0 w fun q=>ho ⟨q.2,.inr q.1⟩
  obtain ⟨at',ha⟩:=zDv (T:=T) (d:=d+2) (k:=105) (U:=U) M.t105 c 10037 us.length rfl rfl
  cases zKn (d:=d) (ws:=ws) M A hok c c2 at' w' hw' with
  | mk D hn er=>exact .oth D hn (pre (pre2 (zJ (zH (zC rfl (zC rfl (zC (A.e_len rfl) rfl))) ha) er)))
noncomputable def yV:Option Cls->Str
 | none=>{ cps:=#[] }
 | some c=>zBI c
noncomputable def W8.isPay:W8->Bool
 | .pay=>true
 | _=>false
noncomputable def wY (w:W8) (n m:Int):Option Cls:=if n < 1 then some .NoNumber else if w.isPay=false /\ n > m then some .TooMuch else none
structure zQg (dv:V) (w:W8) (at' n:Int) (z:Nat):Prop where
 v:∀ J:List V,zN (dv :: J) 0=some dv
 w0:∀ U,ev2 .index U dv (.int 0)=some (.str w.s)
 a1:∀ U,ev2 .index U dv (.int 1)=some (.int at')
 len:∀ U,ev1 .len U dv=some (.int z)
 last:∀ U,ev2 .index U dv (.int ((z:Int) - 1))=some (.int n)
theorem W8.ne_pay (w:W8):ev2 .ne U (.str w.s) (.str wM)=some (.bool !w.isPay):=by
 cases w with
 | lin w=>exact zMR w
 | _=>rfl
theorem zL7 {F Fq:Calls} {C:CE} {J:List V} {p:Bool} {nn m:Int} (hc:evE F false C J U=.ok (.bool (!p&&decide (nn > m))) U):exL F Fq false [.ite C [.ret (.lit (.str (zBI .TooMuch)))] [],.ret (.lit (.str { cps:=#[] }))] J U=.ok (.ret (.str (yV (if p=false /\ nn > m then some .TooMuch else none)))) U:=by
 have iff:(!p&&decide (nn > m))=true ↔ p=false /\ nn > m:=by rw [Bool.and_eq_true,Bool.not_eq_true',decide_eq_true_eq]
 by_cases h:p=false /\ nn > m
 ·rw [if_pos h]; exact s_t (zE (hc.trans (by rw [iff.mpr h]))) (zK rfl)
 ·rw [if_neg h]; exact s_f (zE (hc.trans (by rw [Bool.eq_false_iff.mpr fun q=>h (iff.mp q)]))) (zK rfl)
theorem jx (M:yN T) (A:Acct U ro i a us rs) (hok:∀ u ∈ us,u.ok) {dv:V} {w:W8} (hw:w ≠ .ord) {nn pl:Int} {z:Nat} (P:zQg dv w o nn z) (hu:us[o]?=some u) :
  exL (zA T (d+3) false) (zA T (d+3) true) false (hRefusal.body.drop 5) [dv,.ref a,.int pl,.undef] U=.ok (.ret (.str (yV (match atI u.lines pl with | none=>some .NoLine | some _=>wY w nn (wV w us o pl))))) U:=by
 obtain ⟨r,hr,O⟩:=A.index hu
 obtain ⟨ls,h0,h1,hl,hls⟩:=O.index
 have v0:∀ {F:Calls} {J:List V},evE F false (.var 0) (dv :: J) U=.ok dv U:=fun {F J}=>by rw [zv,P.v]; rfl
 have hlen2:evE (zA T (d+3) false) false (.p1 .len (.p2 .index (.p2 .index (.var 1) (.p2 .index (.var 0) (.lit (.int 1)))) (.lit (.int 0)))) [dv,.ref a,.int pl,.undef] U=.ok (.int u.lines.length) U:=zV (x:=.lst ls) (zD (zD rfl (zD v0 rfl (P.a1 U)) hr) rfl h0) (by rw [zf,hl])
 cases hpl:atI u.lines pl with
 | none=>exact s_t (zE (zV (yp rfl rfl hlen2) (by rw [wE hpl]; rfl))) (zK rfl)
 | some l =>
  obtain ⟨k,rfl,hk⟩:=zi hpl
  refine s_f (zE (zV (yp rfl rfl hlen2) (by rw [in_iff.mpr ⟨k,rfl,(List.getElem?_eq_some_iff.mp hk).1⟩]; rfl))) (zJ (v:=.int nn) (zD v0 (zD (zV v0 (P.len U)) rfl (zBL U z 1)) (P.last U)) ?_)
  show _=R.ok (Fl.ret (V.str (yV (wY w nn (wV w us o k))))) U
  unfold wY
  by_cases h1:nn < 1
  ·rw [if_pos h1]
   exact s_t (zE (t:=true) (zD rfl rfl (by rw [xN,decide_eq_true h1]))) (zK rfl)
  ·rw [if_neg h1]
   exact s_f (zE (t:=false) (zD rfl rfl (by rw [xN,decide_eq_false h1]))) (zL7 (zG8 (zD (zD v0 rfl (P.w0 U)) rfl w.ne_pay) (zD rfl (zH (zC (zD v0 rfl (P.w0 U)) (zC (zD v0 rfl (P.a1 U)) (zC rfl (zC rfl rfl)))) (zF6 (d:=d) M A hok w hw o k)) rfl)))
theorem zGa {w:W8} {n m:Int} (h:w.isPay=false):wY w n m=wa n m:=by
 unfold wY wa
 rw [h]
 by_cases h1:n < 1
 ·rw [if_pos h1,if_pos h1]
 ·rw [if_neg h1,if_neg h1]
  by_cases h2:n > m
  ·rw [if_pos ⟨rfl,h2⟩,if_pos h2]
  ·rw [if_neg fun h=>h2 h.2,if_neg h2]
theorem jI {u:Or} (h:1 <= u.lines.length):∃ l,atI u.lines 0=some l:=⟨u.lines[0],atI_nat' (List.getElem?_eq_getElem h)⟩
where
 atI_nat' {α:Type} {l:List α} {x:α} (h:l[0]?=some x):atI l 0=some x:=by
  unfold atI
  rw [if_pos (by rw [Bool.and_eq_true,decide_eq_true_eq,decide_eq_true_eq]; have:=(List.getElem?_eq_some_iff.mp h).1; omega)]; exact h
theorem zCg (M:yN T) (A:Acct U ro i a us rs) (hok:∀ u ∈ us,u.ok) (hne:∀ u ∈ us,1 <= u.lines.length) (D:Deed) (k:Nat):zA T (d+4) false 110 [D.raw k,.ref a] U=.ok (.str (yV (D.err us))) U:=by
 refine zG M.t110 rfl ?_
 have ht:∀ {J:List V} {c:CE} {x:Int},zN J 1=some (.ref a)->evE (zA T (d+3) false) false c J U=.ok (.int x) U->evE (zA T (d+3) false) false (.p1 .not (.chain (.lit (.int 0)) [.le,.lt] [c,.p1 .len (.var 1)])) J U=.ok (.bool !(decide (0 <= x)&&decide (x < (us.length:Int)))) U:=fun h1 hc=>zV (yp rfl hc (A.e_len h1)) rfl
 have yes:∀ {o:Nat} {u:Or},us[o]?=some u->(!(decide (0 <= (o:Int))&&decide ((o:Int) < (us.length:Int))))=false:=fun hu=>by rw [in_iff.mpr ⟨_,rfl,(List.getElem?_eq_some_iff.mp hu).1⟩]; rfl
 have htN:∀ {J:List V} {c:CE} {x:Int},zN J 1=some (.ref a)->evE (zA T (d+3) false) false c J U=.ok (.int x) U->atI us x=none->evE (zA T (d+3) false) false (.p1 .not (.chain (.lit (.int 0)) [.le,.lt] [c,.p1 .len (.var 1)])) J U=.ok (.bool true) U:=fun h1 hc hx=>(ht h1 hc).trans (by rw [wE hx]; rfl)
 have htS:∀ {J:List V} {c:CE} {o:Nat} {u:Or},zN J 1=some (.ref a)->evE (zA T (d+3) false) false c J U=.ok (.int (o:Int)) U->us[o]?=some u->evE (zA T (d+3) false) false (.p1 .not (.chain (.lit (.int 0)) [.le,.lt] [c,.p1 .len (.var 1)])) J U=.ok (.bool false) U:=fun h1 hc hu=>(ht h1 hc).trans (by rw [yes hu])
 cases D with
 | ord ls=>exact s_t rfl (zK rfl)
 | pay at' n =>
  refine s_f rfl ?_
  show _=R.ok (Fl.ret (V.str (yV (zCd n (atI us at'))))) U
  cases hat:atI us at' with
  | none=>exact s_t (zE (t:=true) (zAE (htN rfl (x:=at') rfl hat) rfl)) (zK rfl)
  | some u =>
   obtain ⟨o,rfl,hu⟩:=zi hat
   obtain ⟨l,hl⟩:=jI (hne u (List.mem_of_getElem? hu))
   have e:=jx (d:=d) (w:=.pay) (pl:=0) (nn:=n) (dv:=dP o n) (z:=3) M A hok (fun h=>nomatch h) ⟨fun _=>rfl,fun _=>rfl,fun _=>rfl,fun _=>rfl,fun _=>rfl⟩ hu
   rw [hl] at e
   refine s_f (zE (t:=false) (zW (htS (o:=o) rfl rfl hu) rfl (yn rfl rfl))) (s_f (zE (yn rfl rfl)) (zJ rfl (s_f (zE (yn rfl rfl)) (e.trans ?_))))
   show R.ok (Fl.ret (V.str (yV (if n < 1 then some .NoNumber else if W8.isPay .pay=false /\ n > wV .pay us o 0 then some .TooMuch else none)))) U=R.ok (Fl.ret (V.str (yV (if n < 1 then some .NoNumber else none)))) U
   rw [if_neg (fun h:W8.isPay .pay=false /\ n > wV .pay us o 0=>nomatch h.1)]
 | ref at' n =>
  refine s_f rfl ?_
  show _=R.ok (Fl.ret (V.str (yV (zEm n (atI us at'))))) U
  cases hat:atI us at' with
  | none=>exact s_t (zE (t:=true) (zAE (htN rfl (x:=at') rfl hat) rfl)) (zK rfl)
  | some u =>
   obtain ⟨o,rfl,hu⟩:=zi hat
   obtain ⟨l,hl⟩:=jI (hne u (List.mem_of_getElem? hu))
   have e:=jx (d:=d) (w:=.ref) (pl:=0) (nn:=n) (dv:=dR o n) (z:=3) M A hok (fun h=>nomatch h) ⟨fun _=>rfl,fun _=>rfl,fun _=>rfl,fun _=>rfl,fun _=>rfl⟩ hu
   rw [hl] at e
   refine s_f (zE (t:=false) (zW (htS (o:=o) rfl rfl hu) rfl (yn rfl rfl))) (s_f (zE (yn rfl rfl)) (zJ rfl (s_f (zE (yn rfl rfl)) (e.trans ?_))))
   show R.ok (Fl.ret (V.str (yV (wY .ref n (wV .ref us o 0))))) U=R.ok (Fl.ret (V.str (yV (wa n (0 - u.owed))))) U
   rw [zGa rfl,Int.zero_sub]
   unfold wV
   rw [hat]
 | mov at' p n =>
  refine s_f rfl ?_
  show _=R.ok (Fl.ret (V.str (yV (zEk us at' p n (atI us at'))))) U
  cases hat:atI us at' with
  | none=>exact s_t (zE (t:=true) (zAE (htN rfl (x:=at') rfl hat) rfl)) (zK rfl)
  | some u =>
   obtain ⟨o,rfl,hu⟩:=zi hat
   show _=R.ok (Fl.ret (V.str (yV (zEl u o p n (atI us p))))) U
   cases hp:atI us p with
   | none=>exact s_t (zE (t:=true) (zW (htS (o:=o) rfl rfl hu) rfl (zn rfl rfl (htN rfl (x:=p) rfl hp)))) (zK rfl)
   | some u' =>
    obtain ⟨p,rfl,hu'⟩:=zi hp
    show _=R.ok (Fl.ret (V.str (yV (if ((o:Int)==(p:Int))=true then some .SameOrder else wa n (0 - u.owed))))) U
    refine s_f (zE (t:=false) (zW (htS (o:=o) rfl rfl hu) rfl (zn rfl rfl (htS (o:=p) rfl rfl hu'))) ) ?_
    cases hop:((o:Int)==(p:Int)) with
    | true=>exact s_t (zE (t:=true) (zn rfl rfl (zD rfl rfl (show ev2 .eq U (.int o) (.int p)=_ by rw [xM,hop])))) (zK rfl)
    | false =>
     obtain ⟨l,hl⟩:=jI (hne u (List.mem_of_getElem? hu))
     have e:=jx (d:=d) (w:=.mov) (pl:=0) (nn:=n) (dv:=dM o p n) (z:=4) M A hok (fun h=>nomatch h) ⟨fun _=>rfl,fun _=>rfl,fun _=>rfl,fun _=>rfl,fun _=>rfl⟩ hu
     rw [hl] at e
     refine s_f (zE (t:=false) (zn rfl rfl (zD rfl rfl (show ev2 .eq U (.int o) (.int p)=_ by rw [xM,hop])))) (zJ rfl (s_f (zE (t:=false) (zn rfl rfl rfl)) (e.trans ?_)))
     show R.ok (Fl.ret (V.str (yV (wY .mov n (wV .mov us o 0))))) U=R.ok (Fl.ret (V.str (yV (wa n (0 - u.owed))))) U
     rw [zGa rfl,Int.zero_sub]
     unfold wV
     rw [hat]
 | lin w at' pl n =>
  refine s_f (zE (zD rfl rfl (zFe w))) ?_
  show _=R.ok (Fl.ret (V.str (yV (zKw w pl n (atI us at'))))) U
  cases hat:atI us at' with
  | none=>exact s_t (zE (t:=true) (zAE (htN rfl (x:=at') rfl hat) rfl)) (zK rfl)
  | some u =>
   obtain ⟨o,rfl,hu⟩:=zi hat
   have e:=jx (d:=d) (w:=.lin w) (pl:=pl) (nn:=n) (dv:=dL w o pl n) (z:=4) M A hok (fun h=>nomatch h) ⟨fun _=>rfl,fun _=>rfl,fun _=>rfl,fun _=>rfl,fun _=>rfl⟩ hu
   refine s_f (zE (t:=false) (zW (htS (o:=o) rfl rfl hu) rfl (yn (zD rfl rfl (wb w)) rfl))) (s_f (zE (yn (zD rfl rfl (wb w)) rfl)) (zJ rfl (s_t (zE (t:=true) (zn rfl rfl (zD rfl rfl (show ev2 .ne U (.str w.s) (.str yb)=some (.bool true) by cases w <;> rfl)))) (zJ (v:=.int pl) rfl (e.trans ?_)))))
   show _=R.ok (Fl.ret (V.str (yV (zKu w n (atI u.lines pl))))) U
   cases hpl:atI u.lines pl with
   | none=>rfl
   | some l =>
    show R.ok (Fl.ret (V.str (yV (wY (.lin w) n (wV (.lin w) us o pl))))) U=R.ok (Fl.ret (V.str (yV (wa n (xX w l))))) U
    rw [zGa rfl]
    unfold wV
    rw [hat]
    show R.ok (Fl.ret (V.str (yV (wa n (match atI u.lines pl with | none=>5 | some l=>xX w l))))) U=_
    rw [hpl]
end
end Mine
end

section
namespace Mine
open PySem
noncomputable def kw (i o:Nat) (x:Role):Prop:=x=.ord i o \/ x=.row i o \/ ∃ k,x=.lin i o k
noncomputable def zA5 (i:Nat) (x:Role):Prop:=x=.acc i \/ ∃ o,kw i o x
theorem zLk {i o o':Nat} {x:Role} (h:kw i o x) (hne:o ≠ o'):¬ kw i o' x:=fun h'=>by
 rcases h with rfl | rfl | ⟨k,rfl⟩ <;> rcases h' with q | q | ⟨k',q⟩ <;> cases q <;> exact hne rfl
noncomputable def Role.tag:Role->Nat
 | .bk _=>0
 | .en _=>1
 | .hi _=>2
 | .acc _=>3
 | .ord _ _=>4
 | .row _ _=>5
 | .lin _ _ _=>6
 | .kept=>7
 | .fresh=>8
 | .other=>9
noncomputable def Role.ix:Role->Nat
 | .bk i=>i
 | .en i=>i
 | .hi i=>i
 | .acc i=>i
 | .ord i _=>i
 | .row i _=>i
 | .lin i _ _=>i
 | _=>0
theorem zDS {i o:Nat} {x:Role} (h:kw i o x):(4 <= x.tag /\ x.tag <= 6) /\ x.ix=i:=by
 rcases h with rfl | rfl | ⟨k,rfl⟩
 ·exact ⟨⟨show 4 <= 4 by decide,show 4 <= 6 by decide⟩,rfl⟩
 ·exact ⟨⟨show 4 <= 5 by decide,show 5 <= 6 by decide⟩,rfl⟩
 ·exact ⟨⟨show 4 <= 6 by decide,show 6 <= 6 by decide⟩,rfl⟩
theorem zDR {i:Nat} {x:Role} (h:zA5 i x):(3 <= x.tag /\ x.tag <= 6) /\ x.ix=i:=by
 rcases h with rfl | ⟨o,h⟩
 ·exact ⟨⟨show 3 <= 3 by decide,show 3 <= 6 by decide⟩,rfl⟩
 ·have:=zDS h; exact ⟨⟨Nat.le_trans (by decide) this.1.1,this.1.2⟩,this.2⟩
theorem zRc {i:Nat} {x:Role} (hx:x.tag < 3 \/ 6 < x.tag):¬ zA5 i x:=fun h=>by
 exact hx.elim (fun q=>Nat.lt_irrefl _ (Nat.lt_of_lt_of_le q (zDR h).1.1)) fun q=>Nat.lt_irrefl _ (Nat.lt_of_le_of_lt (zDR h).1.2 q)
section
variable {T:Nat->Option Fn} {d:Nat} {q:Bool} {U U':Sto} {ro ro':Nat->Role} {i a o r n:Nat} {us:List Or} {rs:List V} {u u':Or} {l:Ln}
theorem OrdAt.keep (Q:OrdAt U ro i o r u) (hk:∀ (n:Nat) (x:O),kw i o (ro n)->U[n]?=some x->U'[n]?=some x /\ ro' n=ro n):OrdAt U' ro' i o r u:=by
 cases Q with
 | mk q ls hr rr hq rq hl hls =>
  obtain ⟨a1,a2⟩:=hk r _ (.inl rr) hr
  obtain ⟨b1,b2⟩:=hk q _ (.inr (.inl rq)) hq
  refine .mk q ls a1 (a2.trans rr) b1 (b2.trans rq) hl fun k l h=>?_
  obtain ⟨n,h1,h2,h3⟩:=hls k l h
  obtain ⟨c1,c2⟩:=hk n _ (.inr (.inr ⟨k,h3⟩)) h2
  exact ⟨n,h1,c1,c2.trans h3⟩
theorem Acct.keep (A:Acct U ro i a us rs) (hk:∀ (n:Nat) (x:O),zA5 i (ro n)->U[n]?=some x->U'[n]?=some x /\ ro' n=ro n):Acct U' ro' i a us rs:=by
 obtain ⟨a1,a2⟩:=hk a _ (.inl A.ra) A.ord
 exact ⟨a1,a2.trans A.ra,A.len,fun o u hu=>by obtain ⟨r,hr,Q⟩:=A.at_ o u hu; exact ⟨r,hr,Q.keep fun n x hn hx=>hk n x (.inr ⟨o,hn⟩) hx⟩⟩
theorem Acct.change (A:Acct U ro i a us rs) (hu:us[o]?=some u) (hr:rs[o]?=some (.ref r)) (O':OrdAt U' ro i o r u') (hk:∀ (n:Nat) (x:O),¬ kw i o (ro n)->U[n]?=some x->U'[n]?=some x):Acct U' ro i a (us.set o u') rs:=by
 have ho:o < us.length:=(List.getElem?_eq_some_iff.mp hu).1
 refine ⟨hk a _ (by rw [A.ra]; exact fun h=>absurd (zDS h).1.1 (show ¬ 4 <= 3 by decide)) A.ord,A.ra,by rw [List.length_set]; exact A.len,fun p v hv=>?_⟩
 by_cases hp:o=p
 ·subst hp
  rw [List.getElem?_set_self ho] at hv
  cases hv
  exact ⟨r,hr,O'⟩
 ·rw [List.getElem?_set_ne hp] at hv
  obtain ⟨s,hs,Q⟩:=A.at_ p v hv
  exact ⟨s,hs,Q.keep fun n x hn hx=>⟨hk n x (zLk hn (fun q=>hp q.symm)) hx,rfl⟩⟩
theorem OrdAt.paid (Q:OrdAt U ro i o r u) (x:Int):∃ U',xO U (.ref r) (.int 1) (.int x)=.ok () U' /\ OrdAt U' ro i o r { u with paid:=x } /\ ∀ (n:Nat) (y:O),¬ kw i o (ro n)->U[n]?=some y->U'[n]?=some y:=by
 cases Q with
 | mk q ls hr rr hq rq hl hls =>
  refine ⟨_,yQ U (i:=1) hr (show 1 < 3 by decide),.mk q ls (yO hr) rr (zI hq fun e=>?_) rq hl fun k l h=>?_,fun n y hn hy=>zI hy fun e=>?_⟩
  ·rw [e,rq] at rr; cases rr
  ·obtain ⟨n,h1,h2,h3⟩:=hls k l h
   exact ⟨n,h1,zI h2 (fun e=>by rw [e,h3] at rr; cases rr),h3⟩
  ·exact hn (by rw [<- e]; exact .inl rr)
theorem OrdAt.addRow (Q:OrdAt U ro i o r u) (w:Str × Int) (hlim:u.rows.length < LIM):∃ (q:Nat) (U':Sto),ev2 .index U (.ref r) (.int 2)=some (.ref q) /\ kR U (.ref q)=true /\ wG U (.ref q) (xm w)=.ok .none U' /\ OrdAt U' ro i o r { u with rows:=u.rows++[w] } /\ ∀ (n:Nat) (y:O),¬ kw i o (ro n)->U[n]?=some y->U'[n]?=some y:=by
 cases Q with
 | mk q ls hr rr hq rq hl hls =>
  refine ⟨q,_,zU U (i:=2) hr rfl,by show (wT _).isSome=true; rw [hq]; rfl,yB U hq (by rw [List.length_map]; exact hlim),.mk q ls (zI hr fun e=>?_) rr ?_ rq hl fun k l h=>?_,fun n y hn hy=>zI hy fun e=>?_⟩
  ·rw [e,rr] at rq; cases rq
  ·rw [yO hq]
   show _=some (O.list ((u.rows++[w]).map xm))
   rw [List.map_append]; rfl
  ·obtain ⟨n,h1,h2,h3⟩:=hls k l h
   exact ⟨n,h1,zI h2 (fun e=>by rw [e,h3] at rq; cases rq),h3⟩
  ·exact hn (by rw [<- e]; exact .inr (.inl rq))
theorem OrdAt.line (Q:OrdAt U ro i o r u) {k:Nat} (hk:u.lines[k]?=some l):∃ (ls:List V) (n:Nat),ev2 .index U (.ref r) (.int 0)=some (.lst ls) /\ ls[k]?=some (.ref n) /\ U[n]?=some (.list (lnL l)) /\
  ∀ l':Ln,OrdAt (U.set n (.list (lnL l'))) ro i o r { u with lines:=u.lines.set k l' } /\ ∀ (m:Nat) (y:O),¬ kw i o (ro m)->U[m]?=some y->(U.set n (.list (lnL l')))[m]?=some y:=by
 cases Q with
 | mk q ls hr rr hq rq hl hls =>
  obtain ⟨n,h1,h2,h3⟩:=hls k l hk
  refine ⟨ls,n,zU U (i:=0) hr rfl,h1,h2,fun l'=>⟨.mk q ls (zI hr fun e=>?_) rr (zI hq fun e=>?_) rq (by rw [hl]; exact (List.length_set ..).symm) fun j m hm=>?_,fun m y hn hy=>zI hy fun e=>?_⟩⟩
  ·rw [e,rr] at h3; cases h3
  ·rw [e,rq] at h3; cases h3
  ·have hkl:k < u.lines.length:=(List.getElem?_eq_some_iff.mp hk).1
   by_cases hj:k=j
   ·subst hj
    replace hm:(u.lines.set k l')[k]?=some m:=hm
    rw [List.getElem?_set_self hkl] at hm
    cases hm
    exact ⟨n,h1,yO h2,h3⟩
   ·replace hm:(u.lines.set k l')[j]?=some m:=hm
    rw [List.getElem?_set_ne hj] at hm
    obtain ⟨p,g1,g2,g3⟩:=hls j m hm
    exact ⟨p,g1,zI g2 (fun e=>by rw [e,g3] at h3; cases h3; exact hj rfl),g3⟩
  ·exact hn (by rw [<- e]; exact .inr (.inr ⟨k,h3⟩))
inductive Moved (U:Sto) (ro:Nat->Role) (i a:Nat) (us':List Or) (rs:List V) (v:V) (r:R V):Prop
 | mk (U':Sto) (er:r=.ok v U') (A:Acct U' ro i a us' rs) (hk:∀ (n:Nat) (x:O),¬ zA5 i (ro n)->U[n]?=some x->U'[n]?=some x)
theorem kU {x:Role} (h:¬ zA5 i x) (o:Nat):¬ kw i o x:=fun q=>h (.inr ⟨o,q⟩)
end
section
variable {T:Nat->Option Fn} {d:Nat} {U:Sto} {ro:Nat->Role} {i a o r p:Nat} {us:List Or} {rs:List V} {u u':Or} {l:Ln} {n:Int}
theorem zGe (M:yN T) (A:Acct U ro i a us rs) (hu:us[o]?=some u):Moved U ro i a (us.set o { u with paid:=u.paid+n }) rs (dP o n) (zA T (d+2) false 111 [dP o n,.ref a] U):=by
 obtain ⟨r,hr,Q⟩:=A.at_ o u hu
 have key:∃ U',exL (zA T (d+1) false) (zA T (d+1) true) false hTurned.body [dP o n,.ref a,.undef,.undef,.undef] U=.ok (.ret (dP o n)) U' /\ Acct U' ro i a (us.set o { u with paid:=u.paid+n }) rs /\ ∀ (m:Nat) (x:O),¬ zA5 i (ro m)->U[m]?=some x->U'[m]?=some x:=by
  refine Classical.byContradiction fun hno=>hno ?_
  obtain ⟨ls,h0,hp,_⟩:=Q.index
  obtain ⟨U',e,O',hk⟩:=Q.paid (u.paid+n)
  have it:∀ {F:Calls},evE F false (.p2 .index (.var 1) (.p2 .index (.var 0) (.lit (.int 1)))) [dP o n,.ref a,.int n,.int 1,.undef] U=.ok (.ref r) U:=zD rfl rfl (zU U A.ord hr)
  refine ⟨U',zJ (v:=.int n) rfl (s_t rfl (zJ (v:=.int 1) rfl (zq (x:=.int (u.paid+n)) (zD (zD it rfl hp) (zD (x:=.int 1) (y:=.int n) rfl rfl (yc U 1 n (.inl rfl))) (by rw [Int.one_mul]; rfl)) it rfl e (s_f rfl (zK rfl))))),A.change hu hr O' hk,fun m x hm hx=>hk m x (kU hm o) hx⟩
 obtain ⟨U',e,A',hk⟩:=key
 exact .mk U' (zG M.t111 rfl e) A' hk
theorem zGf (M:yN T) (A:Acct U ro i a us rs) (hu:us[o]?=some u):Moved U ro i a (us.set o { u with paid:=u.paid+(0 - n) }) rs (dR o n) (zA T (d+2) false 111 [dR o n,.ref a] U):=by
 obtain ⟨r,hr,Q⟩:=A.at_ o u hu
 obtain ⟨ls,h0,hp,_⟩:=Q.index
 obtain ⟨U',e,O',hk⟩:=Q.paid (u.paid+(0 - n))
 have it:∀ {F:Calls},evE F false (.p2 .index (.var 1) (.p2 .index (.var 0) (.lit (.int 1)))) [dR o n,.ref a,.int n,.int (-1),.undef] U=.ok (.ref r) U:=zD rfl rfl (zU U A.ord hr)
 exact .mk U' (zG M.t111 rfl (zJ (v:=.int n) rfl (s_t rfl (zJ (v:=.int (-1)) rfl (zq (x:=.int (u.paid+(0 - n))) (zD (zD it rfl hp) (zD (x:=.int (-1)) (y:=.int n) rfl rfl (yc U (-1) n (.inl rfl))) (by rw [show (-1) * n=0 - n by omega]; rfl)) it rfl e (s_f rfl (zK rfl))))))) (A.change hu hr O' hk) fun m x hm hx=>hk m x (kU hm o) hx
theorem zGd (M:yN T) (A:Acct U ro i a us rs) (hu:us[o]?=some u) (hu':us[p]?=some u') (hop:o ≠ p):Moved U ro i a ((us.set o { u with paid:=u.paid+(0 - n) }).set p { u' with paid:=u'.paid+n }) rs (dM o p n) (zA T (d+2) false 111 [dM o p n,.ref a] U):=by
 obtain ⟨r,hr,Q⟩:=A.at_ o u hu
 obtain ⟨ls,h0,hp,_⟩:=Q.index
 obtain ⟨U1,e,O',hk⟩:=Q.paid (u.paid+(0 - n))
 have A1:=A.change hu hr O' hk
 have hu2:(us.set o { u with paid:=u.paid+(0 - n) })[p]?=some u':=by rw [List.getElem?_set_ne hop]; exact hu'
 obtain ⟨r2,hr2,O2⟩:=A1.at_ p u' hu2
 obtain ⟨ls2,h02,hp2,_⟩:=O2.index
 obtain ⟨U2,e2,O2',hk2⟩:=O2.paid (u'.paid+n)
 have it:∀ {F:Calls},evE F false (.p2 .index (.var 1) (.p2 .index (.var 0) (.lit (.int 1)))) [dM o p n,.ref a,.int n,.int (-1),.undef] U=.ok (.ref r) U:=zD rfl rfl (zU U A.ord hr)
 have it2:∀ {F:Calls},evE F false (.p2 .index (.var 1) (.p2 .index (.var 0) (.lit (.int 2)))) [dM o p n,.ref a,.int n,.int (-1),.undef] U1=.ok (.ref r2) U1:=zD rfl rfl (zU U1 A1.ord hr2)
 exact .mk U2 (zG M.t111 rfl (zJ (v:=.int n) rfl (s_t rfl (zJ (v:=.int (-1)) rfl (zq (x:=.int (u.paid+(0 - n))) (zD (zD it rfl hp) (zD (x:=.int (-1)) (y:=.int n) rfl rfl (yc U (-1) n (.inl rfl))) (by rw [show (-1) * n=0 - n by omega]; rfl)) it rfl e (s_t rfl (zq (x:=.int (u'.paid+n)) (zD (zD it2 rfl hp2) rfl rfl) it2 rfl e2 (zK rfl)))))))) (A1.change hu2 hr2 O2' hk2) fun m x hm hx=>hk2 m x (kU hm p) (hk m x (kU hm o) hx)
theorem xS {F Fq:Calls} {J:List V} {c:CE} {k m:Nat} {x:V} {l l':Ln} {rest:List CS} {R:R Fl} (h4:zN J 4=some (.ref m)) (hm:U[m]?=some (.list (lnL l))) (hc:evE F false c J U=.ok x U) (hk:k < 8) (hl:(lnL l).set k x=lnL l') (kk:exL F Fq false rest J (U.set m (.list (lnL l')))=R) :
  exL F Fq false (.setItem (.var 4) (.lit (.int k)) c :: rest) J U=R:=
 zq hc (by rw [zv,h4]; rfl) rfl ((yQ U hm hk).trans (by rw [hl])) kk
theorem zGc (M:yN T) (A:Acct U ro i a us rs) (hu:us[o]?=some u) {k:Nat} (hl:u.lines[k]?=some l) (ok:l.ok) (w:Wd):Moved U ro i a (us.set o { u with lines:=u.lines.set k (zb w l n) }) rs (dL w o k n) (zA T (d+2) false 111 [dL w o k n,.ref a] U):=by
 obtain ⟨r,hr,Q⟩:=A.at_ o u hu
 obtain ⟨ls,m,h0,hm,hmm,up⟩:=Q.line hl
 obtain ⟨O',hk⟩:=up (zb w l n)
 refine .mk _ (zG M.t111 rfl ?_) (A.change hu hr O' hk) fun m x hm hx=>hk m x (kU hm o) hx
 refine zJ (v:=.int n) rfl (s_f (zE (zW (zD rfl rfl (zHn w)) rfl (zW (zD rfl rfl (zHo w)) rfl (zD rfl rfl (wb w))))) (zJ (v:=.ref m) (zD (zD (zD rfl rfl (zU U A.ord hr)) rfl h0) rfl (zr U hm)) ?_))
 have pt:∀ {F:Calls} {k:Nat} {x:V},(lnL l)[k]?=some x->evE F false (.p2 .index (.var 4) (.lit (.int k))) [dL w o k n,.ref a,.int n,.undef,.ref m] U=.ok x U:=fun hx=>zk hmm rfl hx
 cases w with
 | del=>exact s_t rfl (xS (k:=4) (x:=.int (l.s+n)) rfl hmm (zD (zk (k:=4) hmm rfl rfl) rfl rfl) (by decide) rfl (zK rfl))
 | cred=>exact s_f rfl (s_t rfl (xS (k:=7) (x:=.int (l.r+n)) rfl hmm (zD (zk (k:=7) hmm rfl rfl) rfl rfl) (by decide) rfl (zK rfl)))
 | back =>
  have g1:∀ l':Ln,(U.set m (.list (lnL l')))[m]?=some (.list (lnL l')):=fun l'=>yO hmm
  refine s_f rfl (s_f rfl (xS (k:=5) (x:=.int (l.b+n)) (l':={ l with b:=l.b+n }) rfl hmm (zD (zk (k:=5) hmm rfl rfl) rfl rfl) (by decide) rfl ?_))
  refine xS (k:=6) (x:=.int (l.a+0)) (l:={ l with b:=l.b+n }) (l':={ l with b:=l.b+n }) rfl (g1 _) (zD (zk (k:=6) (l:={ l with b:=l.b+n }) (g1 _) rfl rfl) (zD (y:=.int 0) rfl rfl (by rw [yc _ n 0 (.inr rfl),Int.mul_zero])) rfl) (by decide) (by rw [Int.add_zero]; rfl) ?_
  rw [List.set_set]
  refine xS (k:=7) (l:={ l with b:=l.b+n }) (l':=zb .back l n) rfl (g1 _) (zD (zk (k:=7) (l:={ l with b:=l.b+n }) (g1 _) rfl rfl) (zH rfl (zBM (l:={ l with b:=l.b+n }) M (g1 _) ⟨ok.1,ok.2,ok.3,ok.4,ok.5,ok.6⟩)) (zBK _ _ _)) (by decide) rfl ?_
  rw [List.set_set]
  exact zK rfl
 | swap =>
  have g1:∀ l':Ln,(U.set m (.list (lnL l')))[m]?=some (.list (lnL l')):=fun l'=>yO hmm
  refine s_f rfl (s_f rfl (xS (k:=5) (x:=.int (l.b+n)) (l':={ l with b:=l.b+n }) rfl hmm (zD (zk (k:=5) hmm rfl rfl) rfl rfl) (by decide) rfl ?_))
  refine xS (k:=6) (x:=.int (l.a+n)) (l:={ l with b:=l.b+n }) (l':={ l with b:=l.b+n,a:=l.a+n }) rfl (g1 _) (zD (zk (k:=6) (l:={ l with b:=l.b+n }) (g1 _) rfl rfl) (zD (y:=.int 1) (z:=.int n) rfl rfl (by rw [yc _ n 1 (.inr rfl),Int.mul_one])) rfl) (by decide) rfl ?_
  rw [List.set_set]
  refine xS (k:=7) (l:={ l with b:=l.b+n,a:=l.a+n }) (l':=zb .swap l n) rfl (g1 _) (zD (zk (k:=7) (l:={ l with b:=l.b+n,a:=l.a+n }) (g1 _) rfl rfl) (zH rfl (zBM (l:={ l with b:=l.b+n,a:=l.a+n }) M (g1 _) ⟨ok.1,ok.2,ok.3,ok.4,ok.5,ok.6⟩)) (zBK _ _ _)) (by decide) rfl ?_
  rw [List.set_set]
  exact zK rfl
end
end Mine
end

section
namespace Mine
open PySem
section
variable {F Fq:Calls} {q:Bool} {U U1 U2:Sto} {J J1 J2:List V} {i v:Nat} {body rest:List CS} {x y:V} {r:R Fl}
theorem yX {s:CS} {rest:List CS} {J':List V} {U':Sto} {r:R Fl} (h:exS F Fq q s J U=.ok (.next J') U') (k:exL F Fq q rest J' U'=r):exL F Fq q (s :: rest) J U=r:=by
 rw [yl,h]; exact k
theorem zP2 (hv:zN J v=some (.lst [x])) (h:exL F Fq false body (J.set i x) U=.ok (.next J1) U1) (k:exL F Fq false rest J1 U1=r):exL F Fq false (.for i .val [.var v] body :: rest) J U=r:=by
 have e:exS F Fq false (.for i .val [.var v] body) J U=.ok (.next J1) U1:=by
  show ((evL F false [.var v] J U).bind fun vs U=>(R.lift U (yM U .val vs)).bind fun it U=>yr it (fun x J U=>(exL F Fq false body (J.set i x) U)) J U)=_
  rw [zC (vs:=[]) (show evE F false (.var v) J U=.ok (.lst [x]) U by rw [zv,hv]; rfl) rfl]
  show ((exL F Fq false body (J.set i x) U).bind fun fl U=>match fl with
   | .next J=>xB (.now [x]) (fun x J U=>(exL F Fq false body (J.set i x) U)) 1 1 J U
   | .ret v=>.ok (.ret v) U)=_
  rw [h]; rfl
 rw [yl,e]; exact k
theorem zP3 (hv:zN J v=some (.lst [x,y])) (h:exL F Fq false body (J.set i x) U=.ok (.next J1) U1) (h':exL F Fq false body (J1.set i y) U1=.ok (.next J2) U2) (k:exL F Fq false rest J2 U2=r):exL F Fq false (.for i .val [.var v] body :: rest) J U=r:=by
 have e:exS F Fq false (.for i .val [.var v] body) J U=.ok (.next J2) U2:=by
  show ((evL F false [.var v] J U).bind fun vs U=>(R.lift U (yM U .val vs)).bind fun it U=>yr it (fun x J U=>(exL F Fq false body (J.set i x) U)) J U)=_
  rw [zC (vs:=[]) (show evE F false (.var v) J U=.ok (.lst [x,y]) U by rw [zv,hv]; rfl) rfl]
  show ((exL F Fq false body (J.set i x) U).bind fun fl U=>match fl with
   | .next J=>xB (.now [x,y]) (fun x J U=>(exL F Fq false body (J.set i x) U)) 2 1 J U
   | .ret v=>.ok (.ret v) U)=_
  rw [h]
  show ((exL F Fq false body (J1.set i y) U1).bind fun fl U=>match fl with
   | .next J=>xB (.now [x,y]) (fun x J U=>(exL F Fq false body (J.set i x) U)) 1 2 J U
   | .ret v=>.ok (.ret v) U)=_
  rw [h']; rfl
 rw [yl,e]; exact k
end
section
variable {T:Nat->Option Fn} {d:Nat} {U:Sto} {ro:Nat->Role} {i a o r p:Nat} {us:List Or} {rs:List V} {u u' u1 u2:Or} {l:Ln} {n:Int}
theorem zBh (M:yN T) (A:Acct U ro i a us rs) (hok:∀ u ∈ us,u.ok) (hlim:us.length <= LIM) {J:List V} {j:Nat} {c:Nat} (hj:zN J j=some (.ref a)) (hlen:J.length=c):evE (zA T (d+2) false) false (.comp (.call 103 [.var c]) .val [.var j] none) J U=.ok (.lst (iv (us.map Or.owed))) U:=by
 refine jR (vs:=[.ref a]) (xs:=rs) (zC (by rw [zv,hj]; rfl) rfl) (yu U A.ord) (.inr ⟨a,rfl,A.ord⟩) (by rw [A.len]; exact hlim) (by rw [wJ,List.length_map]; exact A.len) fun k x hx=>?_
 have hk:k < us.length:=by rw [<- A.len]; exact (List.getElem?_eq_some_iff.mp hx).1
 have hu:us[k]?=some us[k]:=List.getElem?_eq_getElem hk
 generalize us[k]=u at hu
 obtain ⟨r,hr,Q⟩:=A.at_ k u hu
 rw [hr] at hx; cases hx
 have vc:evE (zA T (d+2) false) false (.var c) (J++[.ref r]) U=.ok (.ref r) U:=by
  rw [zv]; unfold zN; rw [List.getElem?_append_right (by omega),hlen,Nat.sub_self]; rfl
 exact ⟨.int u.owed,by unfold iv; rw [List.getElem?_map,List.getElem?_map,hu]; rfl,zH (zC vc rfl) (zAI M Q (hok u (List.mem_of_getElem? hu)))⟩
theorem zMA {F Fq:Calls} {dv x2 x3 x4:V} {w:Str} {c:Int} (A:Acct U ro i a us rs) (hv:∀ J:List V,zN (dv :: J) 0=some dv) (w0:∀ U,ev2 .index U dv (.int 0)=some (.str w)) (hu:us[o]?=some u) (hlim:u.rows.length < LIM) :
  ∃ U',exL F Fq false [.exp (.append (.p2 .index (.p2 .index (.var 1) (.p2 .index (.var 5) (.lit (.int 0)))) (.lit (.int 2))) (.tup [.p2 .index (.var 0) (.lit (.int 0)),.p2 .index (.var 5) (.lit (.int 1))]))] [dv,.ref a,x2,x3,x4,.tup [.int o,.int c]] U=.ok (.next [dv,.ref a,x2,x3,x4,.tup [.int o,.int c]]) U' /\
   Acct U' ro i a (us.set o { u with rows:=u.rows++[(w,c)] }) rs /\ ∀ (n:Nat) (x:O),¬ zA5 i (ro n)->U[n]?=some x->U'[n]?=some x:=by
 obtain ⟨r,hr,Q⟩:=A.at_ o u hu
 obtain ⟨q,U',h2,hl,ha,Q',hk⟩:=Q.addRow (w,c) hlim
 have v0:evE F false (.var 0) [dv,.ref a,x2,x3,x4,.tup [.int o,.int c]] U=.ok dv U:=by rw [zv,hv]; rfl
 exact ⟨U',yR (yU (zD (zD rfl rfl (zU U A.ord hr)) rfl h2) hl (yg (zC (zD v0 rfl (w0 U)) (zC rfl rfl))) ha) wk,A.change hu hr Q' hk,fun n x hn hx=>hk n x (kU hn o) hx⟩
theorem zB9 (M:yN T) (A:Acct U ro i a us rs) (hok:∀ u ∈ us,u.ok) (hlim:us.length <= LIM) {dv:V} {w:W8} (hv:∀ J:List V,zN (dv :: J) 0=some dv) (w0:∀ U,ev2 .index U dv (.int 0)=some (.str w.s)) (a1:∀ U,ev2 .index U dv (.int 1)=some (.int o)) (hno:∀ U,ev2 .eq U (.str w.s) (.str yC)=some (.bool false)) (hnm:∀ U,ev2 .eq U (.str w.s) (.str yb)=some (.bool false))
  (hu:us[o]?=some u) (ho1:u1.ok) (hr1:u1.rows=u.rows) (hrl:u.rows.length < LIM) (ht:Moved U ro i a (us.set o u1) rs dv (zA T (d+2) false 111 [dv,.ref a] U)) :
  Moved U ro i a (us.set o { u1 with rows:=u.rows++[(w.s,u1.owed - u.owed)] }) rs (chV [((o:Int),u1.owed - u.owed)]) (zA T (d+3) false 112 [dv,.ref a] U):=by
 cases ht with
 | mk U1 et A1 k1 =>
 have ho:o < us.length:=(List.getElem?_eq_some_iff.mp hu).1
 have hu1:(us.set o u1)[o]?=some u1:=List.getElem?_set_self ho
 obtain ⟨U2,es,A2,k2⟩:=zMA (F:=zA T (d+2) false) (Fq:=zA T (d+2) true) (x2:=.lst [.int o]) (x3:=.lst (iv (us.map Or.owed))) (x4:=chV [((o:Int),u1.owed - u.owed)]) (c:=u1.owed - u.owed) A1 hv w0 hu1 (by rw [hr1]; exact hrl)
 have v0:∀ {F:Calls} {U:Sto} {J:List V},evE F false (.var 0) (dv :: J) U=.ok dv U:=fun {F U J}=>by rw [zv,hv]; rfl
 have wo:∀ {F:Calls} {U:Sto} {J:List V},evC F false (some (.p2 .eq (.p2 .index (.var 0) (.lit (.int 0))) (.lit (.str yC)))) (dv :: J) U=.ok false U:=fun {F U J}=>zE (zD (zD v0 rfl (w0 U)) rfl (hno U))
 have wm:∀ {F:Calls} {U:Sto} {J:List V},evC F false (some (.p2 .eq (.p2 .index (.var 0) (.lit (.int 0))) (.lit (.str yb)))) (dv :: J) U=.ok false U:=fun {F U J}=>zE (zD (zD v0 rfl (w0 U)) rfl (hnm U))
 obtain ⟨r1,hr1',Q1⟩:=A1.at_ o u1 hu1
 have ec:evE (zA T (d+2) false) false (.comp (.tup [.var 6,.p2 .sub (.call 103 [.p2 .index (.var 1) (.var 6)]) (.p2 .index (.var 3) (.var 6))]) .val [.var 2] none) [dv,.ref a,.lst [.int o],.lst (iv (us.map Or.owed)),.undef,.undef] U1=.ok (chV [((o:Int),u1.owed - u.owed)]) U1:=by
  refine jR (vs:=[.lst [.int o]]) (xs:=[.int o]) (ys:=chL [((o:Int),u1.owed - u.owed)]) rfl rfl (.inl rfl) (by show 1 <= LIM; decide) rfl fun k x hx=>?_
  match k,hx with
  | 0,hx =>
   cases hx
   exact ⟨_,rfl,yg (zC rfl (zC (zD (zH (zC (zD rfl rfl (zU U1 A1.ord hr1')) rfl) (zAI M Q1 ho1)) (zD rfl rfl (zr U1 (v:=.int u.owed) (by unfold iv; rw [List.getElem?_map,List.getElem?_map,hu]; rfl))) rfl) rfl))⟩
  | k+1,hx=>cases hx
 refine .mk U2 (zG M.t112 rfl (s_f wo (zJ (v:=.lst [.int o]) (jF (zC (zD v0 rfl (a1 U)) rfl)) (s_f wm (zJ (zBh M A hok hlim rfl rfl) (yR (zH (zC v0 (zC rfl rfl)) et) (zJ ec (zP2 rfl es (zK rfl))))))))) ?_ fun n x hn hx=>k2 n x hn (k1 n x hn hx)
 rw [List.set_set,hr1] at A2; exact A2
theorem ar1 {L p n:Int}:L - (p+(0 - n))=L - p+n:=by rw [<- Int.sub_sub,Int.zero_sub,Int.sub_neg]
theorem ar2 {L p n:Int}:L - (p+n)=L - p + -n:=by rw [<- Int.sub_sub]; exact Int.sub_eq_add_neg
theorem ar3 {x n:Int}:x+n - x=n:=zNx x n
theorem ar4 {n:Int}:0 - (0 - n)=n:=by rw [Int.zero_sub,Int.zero_sub,Int.neg_neg]
theorem zMH (M:yN T) (A:Acct U ro i a us rs) (hok:∀ u ∈ us,u.ok) (hlim:us.length <= LIM) (hu:us[o]?=some u) (hu':us[p]?=some u') (hop:o ≠ p) (hrl:u.rows.length < LIM) (hrl':u'.rows.length < LIM) :
  Moved U ro i a (zA4 us o p u u' n) rs (chV [((o:Int),n),((p:Int),-n)]) (zA T (d+3) false 112 [dM o p n,.ref a] U):=by
 have ht:=zGd (d:=d) (n:=n) M A hu hu' hop
 have ok1:({ u with paid:=u.paid+(0 - n) }:Or).ok:=⟨(hok u (List.mem_of_getElem? hu)).few,(hok u (List.mem_of_getElem? hu)).ls⟩
 have ok2:({ u' with paid:=u'.paid+n }:Or).ok:=⟨(hok u' (List.mem_of_getElem? hu')).few,(hok u' (List.mem_of_getElem? hu')).ls⟩
 generalize hu1:({ u with paid:=u.paid+(0 - n) }:Or)=u1 at ht ok1
 generalize hu2:({ u' with paid:=u'.paid+n }:Or)=u2 at ht ok2
 have w1:u1.owed=u.owed+n:=by rw [<- hu1]; show (u.lines.map Ln.charge).sum - (u.paid+(0 - n))=(u.lines.map Ln.charge).sum - u.paid+n; exact ar1
 have w2:u2.owed=u'.owed + -n:=by rw [<- hu2]; show (u'.lines.map Ln.charge).sum - (u'.paid+n)=(u'.lines.map Ln.charge).sum - u'.paid + -n; exact ar2
 cases ht with
 | mk U1 et A1 k1 =>
 have ho:o < us.length:=(List.getElem?_eq_some_iff.mp hu).1
 have hp:p < us.length:=(List.getElem?_eq_some_iff.mp hu').1
 have h1:((us.set o u1).set p u2)[o]?=some u1:=by rw [List.getElem?_set_ne (fun q=>hop q.symm)]; exact List.getElem?_set_self ho
 have h2:((us.set o u1).set p u2)[p]?=some u2:=List.getElem?_set_self (by rw [List.length_set]; exact hp)
 obtain ⟨U2,es,A2,k2⟩:=zMA (F:=zA T (d+2) false) (Fq:=zA T (d+2) true) (dv:=dM o p n) (w:=yb) (x2:=.lst [.int o,.int p]) (x3:=.lst (iv (us.map Or.owed))) (x4:=chV [((o:Int),n),((p:Int),-n)]) (c:=n) A1 (fun _=>rfl) (fun _=>rfl) h1 (by rw [<- hu1]; exact hrl)
 have h2':(((us.set o u1).set p u2).set o { u1 with rows:=u1.rows++[(yb,n)] })[p]?=some u2:=by rw [List.getElem?_set_ne hop]; exact h2
 obtain ⟨U3,es2,A3,k3⟩:=zMA (F:=zA T (d+2) false) (Fq:=zA T (d+2) true) (dv:=dM o p n) (w:=yb) (x2:=.lst [.int o,.int p]) (x3:=.lst (iv (us.map Or.owed))) (x4:=chV [((o:Int),n),((p:Int),-n)]) (c:=-n) A2 (fun _=>rfl) (fun _=>rfl) h2' (by rw [<- hu2]; exact hrl')
 obtain ⟨r1,hr1,Q1⟩:=A1.at_ o u1 h1
 obtain ⟨r2,hr2,Q2⟩:=A1.at_ p u2 h2
 have ec:evE (zA T (d+2) false) false (.comp (.tup [.var 6,.p2 .sub (.call 103 [.p2 .index (.var 1) (.var 6)]) (.p2 .index (.var 3) (.var 6))]) .val [.var 2] none) [dM o p n,.ref a,.lst [.int o,.int p],.lst (iv (us.map Or.owed)),.undef,.undef] U1=.ok (chV [((o:Int),n),((p:Int),-n)]) U1:=by
  refine jR (vs:=[.lst [.int o,.int p]]) (xs:=[.int o,.int p]) (ys:=chL [((o:Int),n),((p:Int),-n)]) rfl rfl (.inl rfl) (by show 2 <= LIM; decide) rfl fun k x hx=>?_
  match k,hx with
  | 0,hx =>
   cases hx
   exact ⟨_,rfl,yg (zC rfl (zC (zD (zH (zC (zD rfl rfl (zU U1 A1.ord hr1)) rfl) (zAI M Q1 ok1)) (zD rfl rfl (zr U1 (v:=.int u.owed) (by unfold iv; rw [List.getElem?_map,List.getElem?_map,hu]; rfl))) (by rw [zBL,w1,ar3])) rfl))⟩
  | 1,hx =>
   cases hx
   exact ⟨_,rfl,yg (zC rfl (zC (zD (zH (zC (zD rfl rfl (zU U1 A1.ord hr2)) rfl) (zAI M Q2 ok2)) (zD rfl rfl (zr U1 (v:=.int u'.owed) (by unfold iv; rw [List.getElem?_map,List.getElem?_map,hu']; rfl))) (by rw [zBL,w2,ar3])) rfl))⟩
  | k+2,hx=>cases hx
 refine .mk U3 (zG M.t112 rfl (s_f rfl (zJ (v:=.lst [.int o]) rfl (s_t rfl (zJ (v:=.lst [.int o,.int p]) rfl (zJ (zBh M A hok hlim rfl rfl) (yR (zH rfl et) (zJ ec (zP3 rfl es es2 (zK rfl)))))))))) ?_ fun n x hn hx=>k3 n x hn (k2 n x hn (k1 n x hn hx))
 have e:(((us.set o u1).set p u2).set o { u1 with rows:=u1.rows++[(yb,n)] }).set p { u2 with rows:=u2.rows++[(yb,-n)] }=zA4 us o p u u' n:=by
  unfold zA4
  rw [List.set_comm u2 _ (fun q=>hop q.symm),List.set_set,List.set_set,<- hu1,<- hu2]
  show (us.set o { lines:=u.lines,paid:=u.paid+(0 - n),rows:=u.rows++[(yb,n)] }).set p { lines:=u'.lines,paid:=u'.paid+n,rows:=u'.rows++[(yb,-n)] }=(us.set o { lines:=u.lines,paid:=u.paid+(0 - n),rows:=u.rows++[(yb,0 - (0 - n))] }).set p { lines:=u'.lines,paid:=u'.paid+n,rows:=u'.rows++[(yb,0 - n)] }
  rw [ar4,Int.zero_sub]
 rw [<- e]; exact A3
end
end Mine
end

section
namespace Mine
open PySem
inductive LinesOf (U:Sto) (raws:List V):V->Prop
 | lst:LinesOf U raws (.lst raws)
 | ref (k:Nat) (h:U[k]?=some (.list raws)):LinesOf U raws (.ref k)
inductive DeedAt (U:Sto):Deed->V->Prop
 | ord (ls:List Ln) (lv:V) (h:LinesOf U (ls.map Ln.raw) lv):DeedAt U (.ord ls) (.tup [.str yC,lv])
 | oth (D:Deed) (hn:∀ ls,D ≠ .ord ls):DeedAt U D D.v
inductive zDh (U:Sto) (ro:Nat->Role) (i a:Nat) (us':List Or) (v:V) (r:R V):Prop
 | mk (U':Sto) (ro':Nat->Role) (rs':List V) (er:r=.ok v U') (A:Acct U' ro' i a us' rs') (hro:∀ (n:Nat) (x:O),U[n]?=some x->ro' n=ro n) (hk:∀ (n:Nat) (x:O),¬ zA5 i (ro n)->U[n]?=some x->U'[n]?=some x)
theorem Moved.stepped {U:Sto} {ro:Nat->Role} {i a:Nat} {us':List Or} {rs:List V} {v:V} {r:R V} (h:Moved U ro i a us' rs v r):zDh U ro i a us' v r:=by
 cases h with
 | mk U' er A hk=>exact .mk U' ro rs er A (fun _ _ _=>rfl) hk
section
variable {T:Nat->Option Fn} {d:Nat} {U:Sto} {ro:Nat->Role} {i a:Nat} {us:List Or} {rs:List V}
noncomputable def xQ (ls:List Ln):Sto:=ls.map fun l=>O.list (lnL l.fresh)
theorem zFv {F:Calls} {ls:List Ln} {lv:V} (hlim:ls.length <= LIM) (h:LinesOf U (ls.map Ln.raw) lv):evE F false (.comp (.trk (.p2 .add (.p1 .toList (.var 6)) (.list [.lit (.int 0),.lit (.int 0),.lit (.int 0),.lit (.int 0)]))) .val [.p2 .index (.var 0) (.lit (.int 1))] none) [.tup [.str yC,lv],.ref a,.undef,.undef,.undef,.undef] U=.ok (.lst ((List.range ls.length).map fun t=>.ref (U.length+t))) (U++xQ ls):=by
 have key:∀ {it:Items},yM U .val [lv]=some it->(∀ X:Sto,Gives (U++X) it (ls.map Ln.raw))->evE F false (.comp (.trk (.p2 .add (.p1 .toList (.var 6)) (.list [.lit (.int 0),.lit (.int 0),.lit (.int 0),.lit (.int 0)]))) .val [.p2 .index (.var 0) (.lit (.int 1))] none) [.tup [.str yC,lv],.ref a,.undef,.undef,.undef,.undef] U=.ok (.lst ((List.range ls.length).map fun t=>.ref (U.length+t))) (U++xQ ls):=fun {it} hit hg=>by
  obtain ⟨acc,U',e,h1,h2,_⟩:=zEd (F:=F) (elt:=.trk (.p2 .add (.p1 .toList (.var 6)) (.list [.lit (.int 0),.lit (.int 0),.lit (.int 0),.lit (.int 0)]))) (k:=.val) (src:=[.p2 .index (.var 0) (.lit (.int 1))]) (J:=[.tup [.str yC,lv],.ref a,.undef,.undef,.undef,.undef]) (vs:=[lv]) (U:=U) (U1:=U) (it:=it) (xs:=ls.map Ln.raw)
   (fun j acc U'=>acc=(List.range j).map (fun t=>V.ref (U.length+t)) /\ U'=U++xQ (ls.take j) /\ j <= ls.length) rfl hit (fun j acc U' hI=>by obtain ⟨rfl,rfl,_⟩:=hI; exact ⟨hg _,by rw [List.length_map,List.length_range]⟩) (by rw [List.length_map]; exact hlim) ⟨rfl,by rw [List.take_zero]; exact (List.append_nil U).symm,Nat.zero_le _⟩ fun j x acc U' hx hI=>by
    obtain ⟨rfl,rfl,hj⟩:=hI
    rw [List.getElem?_map] at hx
    obtain ⟨l,hl,rfl⟩:=map_some hx
    have hjl:j < ls.length:=(List.getElem?_eq_some_iff.mp hl).1
    refine ⟨.ref (U.length+j),U++xQ (ls.take (j+1)),?_,?_,rfl,hjl⟩
    ·rw [kO,zD (x:=.lst [.str l.item,.int l.p,.int l.c,.int l.k]) (y:=.lst [.int 0,.int 0,.int 0,.int 0]) (z:=.lst (lnL l.fresh)) (zV (x:=l.raw) rfl rfl) rfl rfl]
     show R.ok (V.ref (U++xQ (ls.take j)).length) (U++xQ (ls.take j)++[O.list (lnL l.fresh)])=_
     have hn:(xQ (ls.take j)).length=j:=by unfold xQ; rw [List.length_map,List.length_take]; exact Nat.min_eq_left hj
     rw [List.length_append,hn,List.append_assoc,List.take_add_one,hl]
     unfold xQ
     rw [List.map_append]; rfl
    ·rw [List.range_succ,List.map_append]; rfl
  rw [e,h1,h2,List.length_map,List.take_length]
 cases h with
 | lst=>exact key rfl fun _=>.inl rfl
 | ref k hk=>exact key (yu U hk) fun X=>.inr ⟨k,rfl,by rw [List.getElem?_append_left (List.getElem?_eq_some_iff.mp hk).1]; exact hk⟩
theorem zMG (M:yN T) (A:Acct U ro i a us rs) (hlim:us.length < LIM) {ls:List Ln} {lv:V} (hls:ls.length <= 20) (h:LinesOf U (ls.map Ln.raw) lv):zDh U ro i a (us++[xZ ls]) (.lst []) (zA T (d+3) false 112 [.tup [.str yC,lv],.ref a] U):=by
 have hn:(xQ ls).length=ls.length:=by unfold xQ; rw [List.length_map]
 have ha:a < U.length:=(List.getElem?_eq_some_iff.mp A.ord).1
 generalize hrf:(List.range ls.length).map (fun t=>V.ref (U.length+t))=rf
 have ec:=zFv (F:=zA T (d+2) false) (a:=a) (Nat.le_trans hls (by decide)) h
 rw [hrf] at ec
 generalize hS:U++xQ ls++[O.list []]++[O.list [.lst rf,.int 0,.ref (U.length+ls.length)]]=S
 have hlen1:(U++xQ ls).length=U.length+ls.length:=by rw [List.length_append,hn]
 have hlen2:(U++xQ ls++[O.list []]).length=U.length+ls.length+1:=by rw [List.length_append,hlen1]; rfl
 have ee:evE (zA T (d+2) false) false (.trk (.list [.comp (.trk (.p2 .add (.p1 .toList (.var 6)) (.list [.lit (.int 0),.lit (.int 0),.lit (.int 0),.lit (.int 0)]))) .val [.p2 .index (.var 0) (.lit (.int 1))] none,.lit (.int 0),.trk (.list [])])) [.tup [.str yC,lv],.ref a,.undef,.undef,.undef,.undef] U=.ok (.ref (U.length+ls.length+1)) S:=by
  rw [kO,jF (zC ec (zC (U2:=U++xQ ls++[O.list []]) (vs:=[.ref (U.length+ls.length)]) rfl (by
   rw [zCJ,kO]
   show R.ok [V.ref (U++xQ ls).length] (U++xQ ls++[O.list []])=_
   rw [hlen1])))]
  show R.ok (V.ref (U++xQ ls++[O.list []]).length) (U++xQ ls++[O.list []]++[O.list [.lst rf,.int 0,.ref (U.length+ls.length)]])=_
  rw [hlen2,hS]
 have old:∀ (n:Nat) (x:O),U[n]?=some x->S[n]?=some x:=fun n x hx=>by
  rw [<- hS,List.append_assoc,List.append_assoc,List.getElem?_append_left (List.getElem?_eq_some_iff.mp hx).1]; exact hx
 have hSa:=old a _ A.ord
 have atL:∀ (k:Nat) (l:Ln),ls[k]?=some l->S[U.length+k]?=some (.list (lnL l.fresh)):=fun k l hl=>by
  have hk:k < ls.length:=(List.getElem?_eq_some_iff.mp hl).1
  rw [<- hS,List.append_assoc,List.append_assoc,List.getElem?_append_right (Nat.le_add_right _ _),Nat.add_sub_cancel_left,List.getElem?_append_left (by rw [hn]; exact hk)]
  unfold xQ
  rw [List.getElem?_map,hl]; rfl
 have atQ:S[U.length+ls.length]?=some (.list []):=by
  rw [<- hS,List.getElem?_append_left (by rw [hlen2]; exact Nat.lt_succ_self _),<- hlen1]; exact zj
 have atR:S[U.length+ls.length+1]?=some (.list [.lst rf,.int 0,.ref (U.length+ls.length)]):=by
  rw [<- hS,<- hlen2]; exact zj
 let ro':Nat->Role:=fun n=>if n < U.length then ro n else if n < U.length+ls.length then .lin i us.length (n - U.length) else if n=U.length+ls.length then .row i us.length else .ord i us.length
 have hro:∀ n,n < U.length->ro' n=ro n:=fun n h=>if_pos h
 have nea:∀ {n:Nat},U.length <= n->a ≠ n:=fun h=>Nat.ne_of_lt (Nat.lt_of_lt_of_le ha h)
 refine .mk (S.set a (.list (rs++[.ref (U.length+ls.length+1)]))) ro' (rs++[.ref (U.length+ls.length+1)]) (zG M.t112 rfl (s_t rfl (yR (yU (x:=.ref a) rfl (by show (wT _).isSome=true; rw [A.ord]; rfl) ee (yB _ hSa (by rw [A.len]; exact hlim))) (zK rfl)))) ?_ (fun n x hx=>hro n (List.getElem?_eq_some_iff.mp hx).1) fun n x hn hx=>zI (old n x hx) fun q=>hn (by rw [<- q]; exact .inl A.ra)
 refine ⟨yO hSa,(hro a ha).trans A.ra,by rw [List.length_append,List.length_append,A.len]; rfl,fun o u hu=>?_⟩
 by_cases ho:o < us.length
 ·rw [List.getElem?_append_left ho] at hu
  obtain ⟨r,hr,Q⟩:=A.at_ o u hu
  refine ⟨r,by rw [List.getElem?_append_left (by rw [A.len]; exact ho)]; exact hr,Q.keep fun n x hn hx=>⟨zI (old n x hx) fun q=>?_,hro n (List.getElem?_eq_some_iff.mp hx).1⟩⟩
  rw [<- q,A.ra] at hn
  rcases hn with h | h | ⟨k,h⟩ <;> cases h
 ·have hl:o < us.length+1:=by have:=(List.getElem?_eq_some_iff.mp hu).1; rw [List.length_append] at this; exact this
  obtain rfl:o=us.length:=Nat.le_antisymm (Nat.lt_succ_iff.mp hl) (Nat.not_lt.mp ho)
  rw [List.getElem?_append_right (Nat.le_refl _),Nat.sub_self] at hu
  cases hu
  refine ⟨U.length+ls.length+1,by rw [<- A.len,List.getElem?_append_right (Nat.le_refl _),Nat.sub_self]; rfl,.mk (U.length+ls.length) rf (zI atR (nea (Nat.le_succ_of_le (Nat.le_add_right _ _)))) ?_ (zI atQ (nea (Nat.le_add_right _ _))) ?_ ?_ fun k l hk=>?_⟩
  ·show (if _ then _ else _)=_
   rw [if_neg (Nat.not_lt.mpr (Nat.le_succ_of_le (Nat.le_add_right _ _))),if_neg (Nat.not_lt.mpr (Nat.le_succ _)),if_neg (Nat.succ_ne_self _)]
  ·show (if _ then _ else _)=_
   rw [if_neg (Nat.not_lt.mpr (Nat.le_add_right _ _)),if_neg (Nat.lt_irrefl _),if_pos rfl]
  ·show rf.length=(ls.map Ln.fresh).length
   rw [<- hrf,List.length_map,List.length_map,List.length_range]
  ·replace hk:(ls.map Ln.fresh)[k]?=some l:=hk
   rw [List.getElem?_map] at hk
   obtain ⟨m,hm,rfl⟩:=map_some hk
   have hkl:k < ls.length:=(List.getElem?_eq_some_iff.mp hm).1
   refine ⟨U.length+k,by rw [<- hrf,List.getElem?_map,List.getElem?_range hkl]; rfl,zI (atL k m hm) (nea (Nat.le_add_right _ _)),?_⟩
   show (if _ then _ else _)=_
   rw [if_neg (Nat.not_lt.mpr (Nat.le_add_right _ _)),if_pos (Nat.add_lt_add_left hkl _),Nat.add_sub_cancel_left]
theorem zCk (s p n:Int):s - (p+n) - (s - p)=-n:=by rw [<- Int.sub_sub,zQ0]
theorem zPZ (M:yN T) (A:Acct U ro i a us rs) (hok:∀ u ∈ us,u.ok) (hrow:∀ u ∈ us,u.rows.length < LIM) (hlim:us.length < LIM) {D:Deed} {us':List Or} {out:List (Int × Int)} (S:Step us D us' out) (hf:D.fit us) {dv:V} (hd:DeedAt U D dv) :
  zDh U ro i a us' (chV out) (zA T (d+3) false 112 [dv,.ref a] U):=by
 have hl:=Nat.le_of_lt hlim
 cases S with
 | ord ls =>
  cases hd with
  | ord _ lv h=>exact zMG M A hlim hf.2.1 h
  | oth _ hn=>exact (hn ls rfl).elim
 | pay o n u hu h1 =>
  cases hd
  have k:=hok u (List.mem_of_getElem? hu)
  have w1:({ u with paid:=u.paid+n }:Or).owed - u.owed=-n:=zCk _ u.paid n
  have:=(zB9 (w:=.pay) (u1:={ u with paid:=u.paid+n }) M A hok hl (fun _=>rfl) (fun _=>rfl) (fun _=>rfl) (fun _=>rfl) (fun _=>rfl) hu ⟨k.few,k.ls⟩ rfl (hrow u (List.mem_of_getElem? hu)) (zGe (d:=d) (n:=n) M A hu)).stepped
  rw [w1] at this
  unfold xH
  rw [Int.zero_sub]; exact this
 | ref o n u hu h1 h2 =>
  cases hd
  have k:=hok u (List.mem_of_getElem? hu)
  have w1:({ u with paid:=u.paid+(0 - n) }:Or).owed - u.owed=n:=(zCk _ u.paid (0 - n)).trans (by rw [Int.zero_sub,Int.neg_neg])
  have:=(zB9 (w:=.ref) (u1:={ u with paid:=u.paid+(0 - n) }) M A hok hl (fun _=>rfl) (fun _=>rfl) (fun _=>rfl) (fun _=>rfl) (fun _=>rfl) hu ⟨k.few,k.ls⟩ rfl (hrow u (List.mem_of_getElem? hu)) (zGf (d:=d) (n:=n) M A hu)).stepped
  rw [w1] at this
  unfold xH
  rw [show (0 - (0 - n))=n from (Int.zero_sub _).trans ((congrArg _ (Int.zero_sub n)).trans (Int.neg_neg n))]; exact this
 | mov o p n u u' hu hu' hop h1 h2 =>
  cases hd
  exact (zMH M A hok hl hu hu' hop (hrow u (List.mem_of_getElem? hu)) (hrow u' (List.mem_of_getElem? hu'))).stepped
 | lin w o k n u l hu hl' h1 h2 =>
  cases hd
  have ku:=hok u (List.mem_of_getElem? hu)
  have okl:=ku.ls l (List.mem_of_getElem? hl')
  have ok1:({ u with lines:=u.lines.set k (zb w l n) }:Or).ok:=⟨by show (u.lines.set k _).length <= 20; rw [List.length_set]; exact ku.few,fun m hm=>by
   rcases zd hm with hm | rfl
   ·exact ku.ls m hm
   ·exact xd okl⟩
  have w1:({ u with lines:=u.lines.set k (zb w l n) }:Or).owed - u.owed=(zb w l n).charge - l.charge:=by
   have:=zHZ (u:=u) hl' w n
   have e:({ u with lines:=u.lines.set k (zb w l n) }:Or).owed=(upL w u k l n).owed:=rfl
   rw [e,this,Int.add_comm,Int.add_sub_cancel]
  have:=(zB9 (w:=.lin w) (u1:={ u with lines:=u.lines.set k (zb w l n) }) M A hok hl (fun _=>rfl) (fun _=>rfl) (fun _=>rfl) (fun _=>zFe w) (fun _=>wb w) hu ok1 rfl (hrow u (List.mem_of_getElem? hu)) (zGc (d:=d) (n:=n) M A hu hl' okl w)).stepped
  rw [w1] at this
  exact this
end
end Mine
end

section
namespace Mine
open PySem
noncomputable def zQG:List (Nat × Nat × Nat):=[(75,12,14),(78,11,24),(100,23,25),(101,23,25),(121,15,17),(149,19,91),(151,19,53),(153,19,57),(154,15,56),(176,29,45),(255,17,19),(326,27,98),(326,29,59),(326,95,97),(339,25,43),(404,17,46),(440,18,20),(496,17,83)]
noncomputable def zPT:Fn:={ params:=1,slots:=1,body:=[.while (.lit (.bool true)) [.pass]] }
noncomputable def f09_27:Fn:={ params:=1,slots:=10,body:=[.asg 1 (.trk (.list [])),.asg 2 (.comp (.var 10) .range1 [.p1 .len (.var 0)] (some (.p2 .gt (.p2 .index (.var 0) (.var 10)) (.lit (.int 0))))),.asg 3 (.comp (.var 10) .range1 [.p1 .len (.var 0)] (some (.p2 .lt (.p2 .index (.var 0) (.var 10)) (.lit (.int 0))))),.asg 4 (.trk (.p1 .toList (.var 0))),.asg 5 (.lit (.int 0)),.asg 6 (.lit (.int 0)),.while (.and (.p2 .lt (.var 5) (.p1 .len (.var 2))) (.p2 .lt (.var 6) (.p1 .len (.var 3)))) [.asg 7 (.p2 .index (.var 2) (.var 5)),.asg 8 (.p2 .index (.var 3) (.var 6)),.asg 9 (.p2 .min (.p2 .index (.var 4) (.var 7)) (.p2 .sub (.lit (.int 0)) (.p2 .index (.var 4) (.var 8)))),.exp (.append (.var 1) (.tup [.var 7,.var 8,.var 9])),.setItem (.var 4) (.var 7) (.p2 .sub (.p2 .index (.var 4) (.var 7)) (.var 9)),.setItem (.var 4) (.var 8) (.p2 .add (.p2 .index (.var 4) (.var 8)) (.var 9)),.ite (.p2 .eq (.p2 .index (.var 4) (.var 7)) (.lit (.int 0))) [.asg 5 (.p2 .add (.var 5) (.lit (.int 1)))] [],.ite (.p2 .eq (.p2 .index (.var 4) (.var 8)) (.lit (.int 0))) [.asg 6 (.p2 .add (.var 6) (.lit (.int 1)))] []],.ret (.var 1)] }
noncomputable def f09_9:Fn:={ params:=1,slots:=3,body:=[.ite (.p2 .eq (.attr (.var 0) 1) (.list [])) [.raise (.NothingDone)] [],.asg 1 (.pop (.attr (.var 0) 1)),.ite (.p2 .eq (.p2 .index (.p2 .index (.var 1) (.lit (.int 0))) (.lit (.int 0))) (.lit (.str { cps:=#[111,114,100,101,114] }))) [.exp (.pop (.attr (.var 0) 0)),.ret (.tup [.lit (.str { cps:=#[111,114,100,101,114] }),.trk (.p1 .toList (.p2 .index (.p2 .index (.var 1) (.lit (.int 0))) (.lit (.int 1))))])] [],.for 2 .val [.p2 .index (.var 1) (.lit (.int 1))] [.setItem (.attr (.var 0) 0) (.var 2) (.p2 .index (.p2 .index (.var 1) (.lit (.int 1))) (.var 2))],.ret (.p2 .index (.var 1) (.lit (.int 0)))] }
noncomputable def zK1:Fn:={ params:=2,slots:=2,body:=[.exp (.callm 1 (.var 0) [.var 1]),.ret (.call 27 [.comp (.p2 .index (.var 2) (.lit (.int 1))) .val [.p2 .index (.p2 .index (.attr (.var 0) 0) (.var 1)) (.lit (.int 2))] none])] }
noncomputable def zPS:Fn:={ params:=1,slots:=1,body:=[.exp (.call 33 [.lit (.int 0)])] }
noncomputable def zHD:Fn:={ params:=1,slots:=1,body:=[.ite (.p2 .eq (.p2 .index (.var 0) (.lit (.int 0))) (.lit (.str { cps:=#[111,114,100,101,114] }))) [.ret (.tup [.lit (.str { cps:=#[111,114,100,101,114] }),.trk (.p1 .toList (.p2 .index (.var 0) (.lit (.int 1))))])] [],.ret (.var 0)] }
noncomputable def f09_115:Fn:={ params:=2,slots:=4,body:=[.ite (.or (.p1 .not (.p1 (.isInst .list) (.var 0))) (.p2 .ne (.p1 .len (.var 0)) (.p1 .len (.var 1)))) [.ret (.lit (.bool false))] [],.for 2 .range1 [.p1 .len (.var 1)] [.ite (.or (.p1 .not (.p1 (.isInst .tuple) (.p2 .index (.var 0) (.var 2)))) (.p2 .ne (.p2 .index (.var 0) (.var 2)) (.p2 .index (.var 1) (.var 2)))) [.ret (.lit (.bool false))] [],.for 3 .val [.p2 .index (.var 0) (.var 2)] [.ite (.and (.p1 .not (.p1 (.isInst .str) (.var 3))) (.p1 .not (.call 101 [.var 3]))) [.ret (.lit (.bool false))] []]],.ret (.lit (.bool true))] }
noncomputable def zHE:Fn:={ params:=2,slots:=3,body:=[.ite (.or (.p1 .not (.p1 (.isInst .tuple) (.var 0))) (.p2 .ne (.var 0) (.var 1))) [.ret (.lit (.bool false))] [],.for 2 .val [.var 0] [.ite (.and (.p1 .not (.p1 (.isInst .str) (.var 2))) (.p1 .not (.call 101 [.var 2]))) [.ret (.lit (.bool false))] []],.ret (.lit (.bool true))] }
noncomputable def f09_117:Fn:={ params:=2,slots:=3,body:=[.ite (.p2 .ne (.p2 .index (.var 1) (.lit (.int 0))) (.lit (.str { cps:=#[111,114,100,101,114] }))) [.ret (.call 116 [.var 0,.var 1])] [],.ite (.or (.p1 .not (.p1 (.isInst .tuple) (.var 0))) (.or (.p2 .ne (.p1 .len (.var 0)) (.lit (.int 2))) (.p2 .ne (.p2 .index (.var 0) (.lit (.int 0))) (.lit (.str { cps:=#[111,114,100,101,114] }))))) [.ret (.lit (.bool false))] [],.ite (.or (.p1 .not (.p1 (.isInst .list) (.p2 .index (.var 0) (.lit (.int 1))))) (.p2 .ne (.p1 .len (.p2 .index (.var 0) (.lit (.int 1)))) (.p1 .len (.p2 .index (.var 1) (.lit (.int 1)))))) [.ret (.lit (.bool false))] [],.for 2 .range1 [.p1 .len (.p2 .index (.var 1) (.lit (.int 1)))] [.ite (.p1 .not (.call 116 [.p2 .index (.p2 .index (.var 0) (.lit (.int 1))) (.var 2),.p2 .index (.p2 .index (.var 1) (.lit (.int 1))) (.var 2)])) [.ret (.lit (.bool false))] []],.ret (.lit (.bool true))] }
noncomputable def f09_118:Fn:={ params:=4,slots:=5,body:=[.for 4 .range1 [.var 2] [.ite (.and (.p2 .gt (.p2 .mul (.p2 .index (.var 0) (.var 4)) (.var 3)) (.lit (.int 0))) (.p2 .ne (.p2 .index (.var 1) (.var 4)) (.p2 .mul (.p2 .index (.var 0) (.var 4)) (.var 3)))) [.ret (.lit (.bool false))] []],.ret (.lit (.bool true))] }
noncomputable def zHF:Fn:={ params:=2,slots:=2,body:=[.ite (.or (.p1 .not (.p1 (.isInst .tuple) (.var 1))) (.p2 .ne (.p1 .len (.var 1)) (.lit (.int 3)))) [.ret (.lit (.bool false))] [],.ite (.or (.p1 .not (.call 101 [.p2 .index (.var 1) (.lit (.int 0))])) (.or (.p1 .not (.call 101 [.p2 .index (.var 1) (.lit (.int 1))])) (.p1 .not (.call 101 [.p2 .index (.var 1) (.lit (.int 2))])))) [.ret (.lit (.bool false))] [],.ite (.or (.p1 .not (.chain (.lit (.int 0)) [.le,.lt] [.p2 .index (.var 1) (.lit (.int 0)),.p1 .len (.var 0)])) (.p1 .not (.chain (.lit (.int 0)) [.le,.lt] [.p2 .index (.var 1) (.lit (.int 1)),.p1 .len (.var 0)]))) [.ret (.lit (.bool false))] [],.ret (.and (.p2 .gt (.p2 .index (.var 0) (.p2 .index (.var 1) (.lit (.int 0)))) (.lit (.int 0))) (.and (.p2 .lt (.p2 .index (.var 0) (.p2 .index (.var 1) (.lit (.int 1)))) (.lit (.int 0))) (.p2 .gt (.p2 .index (.var 1) (.lit (.int 2))) (.lit (.int 0)))))] }
noncomputable def f09_120:Fn:={ params:=2,slots:=7,body:=[.asg 2 (.trk (.comp (.lit (.int 0)) .val [.var 0] none)),.asg 3 (.tup [.p1 .neg (.lit (.int 1)),.p1 .neg (.lit (.int 1))]),.for 4 .val [.var 1] [.ite (.or (.p1 .not (.call 119 [.var 0,.var 4])) (.p2 .eq (.tup [.p2 .index (.var 4) (.lit (.int 0)),.p2 .index (.var 4) (.lit (.int 1))]) (.var 3))) [.ret (.lit (.bool false))] [],.ite (.or (.p1 .not (.call 118 [.var 0,.var 2,.p2 .index (.var 4) (.lit (.int 0)),.lit (.int 1)])) (.p1 .not (.call 118 [.var 0,.var 2,.p2 .index (.var 4) (.lit (.int 1)),.p1 .neg (.lit (.int 1))]))) [.ret (.lit (.bool false))] [],.setItem (.var 2) (.p2 .index (.var 4) (.lit (.int 0))) (.p2 .add (.p2 .index (.var 2) (.p2 .index (.var 4) (.lit (.int 0)))) (.p2 .index (.var 4) (.lit (.int 2)))),.setItem (.var 2) (.p2 .index (.var 4) (.lit (.int 1))) (.p2 .add (.p2 .index (.var 2) (.p2 .index (.var 4) (.lit (.int 1)))) (.p2 .index (.var 4) (.lit (.int 2)))),.ite (.or (.p2 .gt (.p2 .index (.var 2) (.p2 .index (.var 4) (.lit (.int 0)))) (.p2 .index (.var 0) (.p2 .index (.var 4) (.lit (.int 0))))) (.p2 .gt (.p2 .index (.var 2) (.p2 .index (.var 4) (.lit (.int 1)))) (.p1 .neg (.p2 .index (.var 0) (.p2 .index (.var 4) (.lit (.int 1))))))) [.ret (.lit (.bool false))] [],.asg 3 (.tup [.p2 .index (.var 4) (.lit (.int 0)),.p2 .index (.var 4) (.lit (.int 1))])],.asg 5 (.p1 .sum (.comp (.var 7) .val [.var 0] (some (.p2 .gt (.var 7) (.lit (.int 0)))))),.asg 6 (.p1 .sum (.comp (.p1 .neg (.var 7)) .val [.var 0] (some (.p2 .lt (.var 7) (.lit (.int 0)))))),.ret (.p2 .eq (.p1 .sum (.comp (.p2 .index (.var 7) (.lit (.int 2))) .val [.var 1] none)) (.p2 .min (.var 5) (.var 6)))] }
noncomputable def f09_121:Fn:={ params:=2,slots:=3,body:=[.ite (.or (.p1 .not (.p1 (.isInst .list) (.var 0))) (.p2 .ne (.var 0) (.var 1))) [.ret (.lit (.bool false))] [],.for 2 .val [.var 0] [.ite (.or (.p1 .not (.p1 (.isInst .tuple) (.var 2))) (.or (.p1 .not (.p1 (.isInst .str) (.p2 .index (.var 2) (.lit (.int 0))))) (.p1 .not (.call 101 [.p2 .index (.var 2) (.lit (.int 1))])))) [.ret (.lit (.bool false))] []],.ret (.lit (.bool true))] }
noncomputable def zHG:Fn:={ params:=1,slots:=1,body:=[.ret (.comp (.tup [.p2 .index (.var 1) (.lit (.int 0)),.p2 .index (.var 1) (.lit (.int 1)),.p2 .index (.var 1) (.lit (.int 4)),.p2 .index (.var 1) (.lit (.int 5)),.p2 .index (.var 1) (.lit (.int 6)),.p2 .index (.var 1) (.lit (.int 7))]) .val [.p2 .index (.var 0) (.lit (.int 0))] none)] }
noncomputable def f09_123:Fn:={ params:=2,slots:=3,body:=[.ite (.or (.p1 .not (.call 101 [.callm 10 (.var 0) []])) (.p2 .ne (.callm 10 (.var 0) []) (.p1 .len (.var 1)))) [.ret (.lit (.bool false))] [],.for 2 .range1 [.p1 .len (.var 1)] [.ite (.p1 .not (.call 115 [.callm 11 (.var 0) [.var 2],.call 122 [.p2 .index (.var 1) (.var 2)]])) [.ret (.lit (.bool false))] [],.ite (.or (.p1 .not (.call 101 [.callm 12 (.var 0) [.var 2]])) (.p2 .ne (.callm 12 (.var 0) [.var 2]) (.p2 .index (.p2 .index (.var 1) (.var 2)) (.lit (.int 1))))) [.ret (.lit (.bool false))] [],.ite (.or (.p1 .not (.call 101 [.callm 13 (.var 0) [.var 2]])) (.p2 .ne (.callm 13 (.var 0) [.var 2]) (.call 103 [.p2 .index (.var 1) (.var 2)]))) [.ret (.lit (.bool false))] []],.ret (.lit (.bool true))] }
noncomputable def zHH:Fn:={ params:=1,slots:=3,body:=[.asg 1 (.trk (.list [])),.for 2 .val [.var 0] [.exp (.call 112 [.var 2,.var 1])],.ret (.var 1)] }
noncomputable def f09_125:Fn:={ params:=2,slots:=5,body:=[.asg 2 (.call 124 [.var 1]),.ite (.p1 .not (.call 123 [.var 0,.var 2])) [.ret (.lit (.bool false))] [],.for 3 .range1 [.p1 .len (.var 2)] [.ite (.p1 .not (.call 121 [.callm 14 (.var 0) [.var 3],.p2 .index (.p2 .index (.var 2) (.var 3)) (.lit (.int 2))])) [.ret (.lit (.bool false))] [],.asg 4 (.callm 15 (.var 0) [.var 3]),.ite (.or (.p1 .not (.p1 (.isInst .list) (.var 4))) (.p1 .not (.call 120 [.comp (.p2 .index (.var 5) (.lit (.int 1))) .val [.p2 .index (.p2 .index (.var 2) (.var 3)) (.lit (.int 2))] none,.var 4]))) [.ret (.lit (.bool false))] []],.ret (.lit (.bool true))] }
noncomputable def f09_126:Fn:={ params:=2,slots:=3,body:=[.asg 2 (.callm 9 (.var 0) []),.ite (.p1 .not (.call 117 [.var 2,.p2 .index (.var 1) (.p2 .sub (.p1 .len (.var 1)) (.lit (.int 1)))])) [.ret (.lit (.bool false))] [],.ite (.p2 .eq (.p2 .index (.var 2) (.lit (.int 0))) (.lit (.str { cps:=#[111,114,100,101,114] }))) [.exp (.append (.p2 .index (.var 2) (.lit (.int 1))) (.tup [.lit (.str { cps:=#[99,117,112] }),.lit (.int 1),.lit (.int 1),.lit (.int 1)]))] [],.ret (.call 125 [.var 0,.slice (.var 1) none (some (.p1 .neg (.lit (.int 1))))])] }
noncomputable def zM2:Fn:={ params:=1,slots:=2,body:=[.asg 1 (.list [.p1 (.isInst (.exc (.NoDeed))) (.var 0),.p1 (.isInst (.exc (.NoLines))) (.var 0),.p1 (.isInst (.exc (.NoItem))) (.var 0),.p1 (.isInst (.exc (.NoNumber))) (.var 0)]),.asg 1 (.p2 .add (.var 1) (.list [.p1 (.isInst (.exc (.FullBook))) (.var 0),.p1 (.isInst (.exc (.NoOrder))) (.var 0),.p1 (.isInst (.exc (.SameOrder))) (.var 0)])),.asg 1 (.p2 .add (.var 1) (.list [.p1 (.isInst (.exc (.NoLine))) (.var 0),.p1 (.isInst (.exc (.TooMuch))) (.var 0),.p1 (.isInst (.exc (.NothingDone))) (.var 0)])),.ret (.and (.p1 (.isInst (.exc (.ValueError))) (.var 0)) (.p2 .eq (.sm .count (.var 1) (.lit (.bool true))) (.lit (.int 1))))] }
noncomputable def f09_128:Fn:={ params:=1,slots:=3,body:=[.asg 1 (.lit (.bool false)),.try .exp (.callm 9 (.var 0) []) [{ cls:=.NothingDone,as:=none,tk:=.asg 1,e:=.lit (.bool true) }],.try .exp (.callm 9 (.var 0) []) [{ cls:=.FlowError,as:=some 2,tk:=.ret,e:=.p2 .index (.tup [.callm 2 (.var 0) [.tup [.lit (.str { cps:=#[111,114,100,101,114] }),.list [.tup [.lit (.str { cps:=#[112,101,110] }),.lit (.int 1),.lit (.int 1),.lit (.int 1)]]]],.and (.var 1) (.and (.call 127 [.var 2]) (.and (.p2 .eq (.p2 .index (.callm 9 (.var 0) []) (.lit (.int 0))) (.lit (.str { cps:=#[111,114,100,101,114] }))) (.p2 .eq (.callm 10 (.var 0) []) (.lit (.int 0)))))]) (.lit (.int 1)) }],.ret (.lit (.bool false))] }
noncomputable def f09_129:Fn:={ params:=2,slots:=4,body:=[.asg 2 (.call 113 [.var 1]),.asg 3 (.call 114 [.var 0,.var 2]),.ite (.p1 (.isInst .list) (.var 3)) [.exp (.append (.var 3) (.tup [.lit (.int 0),.lit (.int 9)]))] [],.ite (.p2 .eq (.p2 .index (.var 1) (.lit (.int 0))) (.lit (.str { cps:=#[111,114,100,101,114] }))) [.exp (.append (.p2 .index (.var 2) (.lit (.int 1))) (.tup [.lit (.str { cps:=#[99,117,112] }),.lit (.int 1),.lit (.int 1),.lit (.int 1)]))] [],.ret (.var 2)] }
noncomputable def zDt:Fn:={ params:=2,slots:=4,body:=[.asg 2 (.list []),.ite (.p2 .eq (.p2 .mod (.p2 .mod (.p2 .mul (.var 1) (.lit (.int 48271))) (.lit (.int 10151))) (.lit (.int 16))) (.lit (.int 1))) [.asg 2 (.p2 .add (.list [.tup [.lit (.str { cps:=#[111,114,100,101,114] }),.list [.tup [.lit (.str { cps:=#[112,101,110] }),.lit (.int 1),.lit (.int 1),.lit (.int 1)]]]]) (.comp (.tup [.lit (.str { cps:=#[112,97,121] }),.lit (.int 0),.lit (.int 1)]) .range1 [.p2 .add (.lit (.int 20)) (.p2 .mod (.p2 .fdiv (.var 1) (.lit (.int 16))) (.lit (.int 25)))] none))] [],.for 3 .val [.var 2] [.exp (.callm 2 (.var 0) [.call 113 [.var 3]])],.ret (.var 2)] }
noncomputable def f09_131:Fn:={ params:=1,slots:=7,body:=[.asg 1 (.list [.new,.new]),.asg 2 (.trk (.list [.call 130 [.p2 .index (.var 1) (.lit (.int 0)),.call 100 [.var 0,.lit (.int 0)]],.list []])),.for 3 .range1 [.p2 .fdiv (.p1 .len (.var 0)) (.lit (.int 2))] [.asg 4 (.p1 .toInt (.p2 .eq (.p2 .mod (.p2 .mod (.p2 .mul (.p2 .index (.var 0) (.p2 .mul (.lit (.int 2)) (.var 3))) (.lit (.int 48271))) (.lit (.int 10103))) (.lit (.int 4))) (.lit (.int 0)))),.asg 5 (.call 124 [.p2 .index (.var 2) (.var 4)]),.asg 6 (.call 109 [.p2 .index (.var 0) (.p2 .mul (.lit (.int 2)) (.var 3)),.p2 .index (.var 0) (.p2 .add (.p2 .mul (.lit (.int 2)) (.var 3)) (.lit (.int 1))),.var 5]),.ite (.and (.p2 .ne (.p2 .index (.var 2) (.var 4)) (.list [])) (.p2 .eq (.p2 .mod (.p2 .mod (.p2 .mul (.p2 .index (.var 0) (.p2 .mul (.lit (.int 2)) (.var 3))) (.lit (.int 48271))) (.lit (.int 10111))) (.lit (.int 8))) (.lit (.int 0)))) [.ite (.p1 .not (.call 126 [.p2 .index (.var 1) (.var 4),.p2 .index (.var 2) (.var 4)])) [.ret (.lit (.bool false))] [],.setItem (.var 2) (.var 4) (.slice (.p2 .index (.var 2) (.var 4)) none (some (.p1 .neg (.lit (.int 1)))))] [.exp (.call 129 [.p2 .index (.var 1) (.var 4),.var 6]),.ite (.p2 .eq (.call 110 [.var 6,.var 5]) (.lit (.str { cps:=#[] }))) [.setItem (.var 2) (.var 4) (.p2 .add (.p2 .index (.var 2) (.var 4)) (.list [.var 6]))] [],.ite (.p1 .not (.call 125 [.p2 .index (.var 1) (.var 4),.p2 .index (.var 2) (.var 4)])) [.ret (.lit (.bool false))] []]],.for 4 .range1 [.lit (.int 2)] [.while (.p2 .ne (.p2 .index (.var 2) (.var 4)) (.list [])) [.ite (.p1 .not (.call 126 [.p2 .index (.var 1) (.var 4),.p2 .index (.var 2) (.var 4)])) [.ret (.lit (.bool false))] [],.setItem (.var 2) (.var 4) (.slice (.p2 .index (.var 2) (.var 4)) none (some (.p1 .neg (.lit (.int 1)))))]],.ret (.and (.call 128 [.p2 .index (.var 1) (.lit (.int 0))]) (.call 128 [.p2 .index (.var 1) (.lit (.int 1))]))] }
noncomputable def zMK:List (Nat × Fn):=[(0,zQ4),(1,zQ5),(2,fB_2),(3,zM3 true),(4,fB_4),(5,zQ6),(6,zQ7 true),(7,zQ8),(8,zQ9),(9,f09_9),(10,zN0),(11,zN1),(12,zN2),(13,zN3),(14,zN4),(15,zK1),(16,zPS)]
noncomputable def zMJ:List (Nat × Fn):=[(33,zPT),(20,zN5),(21,zK2),(22,fB_22),(23,zN6),(24,zN7),(25,zN8),(26,zN9),(27,f09_27),(100,zOC),(101,zF4),(102,zLD),(103,zOD),(104,hMost),(105,zF2),(106,zDu),(107,zEu),(108,zAH 107),(109,hDeed),(110,hRefusal),(111,hTurned),(112,zOE),(113,zHD),(114,zF3),(115,f09_115),(116,zHE),(117,f09_117),(118,f09_118),(119,zHF),(120,f09_120),(121,f09_121),(122,zHG),(123,f09_123),(124,zHH),(125,f09_125),(126,f09_126),(127,zM2),(128,f09_128),(129,f09_129),(130,zDt),(131,f09_131)]
noncomputable def tab09:List (Nat × Fn):=zMK++zMJ
noncomputable def T09 (n:Nat):Option Fn:=tab09.lookup n
end Mine
end

section
namespace Mine
open PySem
inductive Go:List (Nat × Int)->List (Nat × Int)->List (Nat × Nat × Int)->Prop where
 | nilD (cs:List (Nat × Int)):Go [] cs []
 | nilC (ds:List (Nat × Int)):Go ds [] []
 | step {d c:Nat} {a b:Int} {ds cs:List (Nat × Int)} {r:List (Nat × Nat × Int)} :
   Go (if a <= b then ds else (d,a - b) :: ds) (if b <= a then cs else (c,b - a) :: cs) r->Go ((d,a) :: ds) ((c,b) :: cs) ((d,c,min a b) :: r)
noncomputable def tot (l:List (Nat × Int)):Int:=(l.map (·.2)).sum
theorem kL (p:Nat × Int) (l:List (Nat × Int)):tot (p :: l)=p.2+tot l:=by simp [tot]
theorem zHl {l:List (Nat × Int)} (h:∀ p ∈ l,0 < p.2):0 <= tot l:=by
 induction l with
 | nil=>simp [tot]
 | cons p l ih =>
  rw [kL]
  have:=h p (List.mem_cons_self)
  have:=ih fun p hp=>h p (List.mem_cons_of_mem _ hp)
  omega
theorem kF {p:Nat × Int} {l:List (Nat × Int)} (h:∀ q ∈ p :: l,0 < q.2):∀ q ∈ l,0 < q.2:=fun q hq=>h q (List.mem_cons_of_mem _ hq)
theorem zHc {k:Nat} {x:Int} {p:Nat × Int} {l:List (Nat × Int)} (h:∀ q ∈ p :: l,0 < q.2) (hx:0 < x):∀ q ∈ (k,x) :: l,0 < q.2:=fun q hq=>(List.mem_cons.mp hq).elim (fun e=>by rw [e]; exact hx) (kF h q)
theorem zHP {a b D C S:Int} (h:S <= D /\ S <= (b - a)+C /\ (S=D \/ S=(b - a)+C)):a+S <= a+D /\ a+S <= b+C /\ (a+S=a+D \/ a+S=b+C):=
 have e:a+((b - a)+C)=b+C:=by rw [<- Int.add_assoc,Int.add_comm a,Int.sub_add_cancel]
 ⟨Int.add_le_add_left h.1 a,e ▸ Int.add_le_add_left h.2.1 a,h.2.2.imp (fun q=>by rw [q]) fun q=>by rw [q,e]⟩
theorem Go.part {ds cs:List (Nat × Int)} {r:List (Nat × Nat × Int)} (g:Go ds cs r) (hd:∀ p ∈ ds,0 < p.2) (hc:∀ p ∈ cs,0 < p.2):(r.map (·.2.2)).sum <= tot ds /\ (r.map (·.2.2)).sum <= tot cs /\ ((r.map (·.2.2)).sum=tot ds \/ (r.map (·.2.2)).sum=tot cs):=by
 induction g with
 | nilD cs=>exact ⟨Int.le_refl _,zHl hc,.inl rfl⟩
 | nilC ds=>exact ⟨zHl hd,Int.le_refl _,.inr rfl⟩
 | @step d c a b ds cs r _ ih =>
  rw [kL,kL,List.map_cons,List.sum_cons]
  show min a b+_ <= a+_ /\ min a b+_ <= b+_ /\ (min a b+_=a+_ \/ min a b+_=b+_)
  rcases Int.lt_trichotomy a b with h | h | h
  ·rw [if_pos (Int.le_of_lt h),if_neg (Int.not_le.mpr h)] at ih
   have:=ih (kF hd) (zHc hc (Int.sub_pos_of_lt h))
   rw [kL] at this
   rw [Int.min_eq_left (Int.le_of_lt h)]; exact zHP this
  ·subst h
   rw [if_pos (Int.le_refl a),if_pos (Int.le_refl a)] at ih
   have:=ih (kF hd) (kF hc)
   rw [Int.min_self]
   exact ⟨Int.add_le_add_left this.1 a,Int.add_le_add_left this.2.1 a,this.2.2.imp (fun q=>by rw [q]) fun q=>by rw [q]⟩
  ·rw [if_neg (Int.not_le.mpr h),if_pos (Int.le_of_lt h)] at ih
   have:=ih (zHc hd (Int.sub_pos_of_lt h)) (kF hc)
   rw [kL] at this
   rw [Int.min_eq_right (Int.le_of_lt h)]
   have:=zHP ⟨this.2.1,this.1,this.2.2.symm⟩
   exact ⟨this.2.1,this.1,this.2.2.symm⟩
theorem Go.sum {ds cs:List (Nat × Int)} {r:List (Nat × Nat × Int)} (g:Go ds cs r) (hd:∀ p ∈ ds,0 < p.2) (hc:∀ p ∈ cs,0 < p.2):(r.map (·.2.2)).sum=min (tot ds) (tot cs):=by
 obtain ⟨h1,h2,h | h⟩:=g.part hd hc
 ·rw [h] at h2 ⊢; exact (Int.min_eq_left h2).symm
 ·rw [h] at h1 ⊢; exact (Int.min_eq_right h1).symm
theorem yt {l:List Int} {i:Nat} {v:Int} (h:i < l.length):gI (l.set i v) i=v:=by simp [gI,h]
theorem yL {l:List Int} {i j:Nat} {v:Int} (h:i ≠ j):gI (l.set i v) j=gI l j:=by simp [gI,List.getElem?_set_ne h]
noncomputable def xC (row:List Int):List Nat:=(List.range row.length).filter fun k=>decide (0 < gI row k)
noncomputable def xG (row:List Int):List Nat:=(List.range row.length).filter fun k=>decide (gI row k < 0)
noncomputable def nv (l:List Nat):List V:=l.map fun (k:Nat)=>V.int (k:Int)
noncomputable def xg (t:Nat × Nat × Int):V:=.tup [.int t.1,.int t.2.1,.int t.2.2]
noncomputable def yZ (row left:List Int) (one:Nat):List (Nat × Int):=((xC row).drop one).map fun k=>(k,gI left k)
noncomputable def yY (row left:List Int) (other:Nat):List (Nat × Int):=((xG row).drop other).map fun k=>(k,-gI left k)
theorem zDT (row:List Int):(xC row).Pairwise (· < ·):=List.Pairwise.filter _ List.pairwise_lt_range
theorem zCn (row:List Int):(xG row).Pairwise (· < ·):=List.Pairwise.filter _ List.pairwise_lt_range
theorem jw {row:List Int} {k:Nat} (h:k ∈ xC row):k < row.length /\ 0 < gI row k:=by simpa [xC] using h
theorem jY {row:List Int} {k:Nat} (h:k ∈ xG row):k < row.length /\ gI row k < 0:=by simpa [xG] using h
theorem zEi (row left:List Int) (one:Nat):(yZ row left one).length=(xC row).length - one:=by simp [yZ]
theorem zEe (row left:List Int) (one:Nat):(yY row left one).length=(xG row).length - one:=by simp [yY]
theorem zDU (row:List Int):(xC row).length <= row.length:=by have:=List.length_filter_le (fun k=>decide (0 < gI row k)) (List.range row.length); simpa [xC] using this
theorem zCo (row:List Int):(xG row).length <= row.length:=by have:=List.length_filter_le (fun k=>decide (gI row k < 0)) (List.range row.length); simpa [xG] using this
theorem zLb {l:List Nat} {i:Nat} (h:i < l.length):(nv l)[i]?=some (V.int (l[i]:Int)):=by simp [nv,h]
theorem zKp {row left:List Int} {one d:Nat} {v:Int} (h:d ∉ (xC row).drop one):yZ row (left.set d v) one=yZ row left one:=by
 refine List.map_congr_left fun k hk=>?_
 rw [yL (i:=d) (j:=k) fun e=>h (e ▸ hk)]
theorem zKl {row left:List Int} {one d:Nat} {v:Int} (h:d ∉ (xG row).drop one):yY row (left.set d v) one=yY row left one:=by
 refine List.map_congr_left fun k hk=>?_
 rw [yL (i:=d) (j:=k) fun e=>h (e ▸ hk)]
theorem jE {l:List Nat} {i:Nat} (h:i < l.length):l.drop i=l[i] :: l.drop (i+1):=List.drop_eq_getElem_cons h
theorem zCt {l:List Nat} (hl:l.Pairwise (· < ·)) {i:Nat} (h:i < l.length):l[i] ∉ l.drop (i+1):=by
 have h2:=hl.sublist (List.drop_sublist i l)
 rw [jE h] at h2
 intro hm
 exact absurd ((List.pairwise_cons.mp h2).1 _ hm) (by omega)
structure Side (row parts:List Int) (sg:Int) (ds:List (Nat × Int)):Prop where
 inc:ds.Pairwise (fun p q=>p.1 < q.1)
 mem:∀ p ∈ ds,p.1 < row.length /\ 0 < gI row p.1 * sg /\ 0 < p.2 /\ gI parts p.1=gI row p.1 * sg - p.2
 out:∀ k,k < row.length->0 < gI row k * sg->(∀ p ∈ ds,p.1 ≠ k)->gI parts k=gI row k * sg
theorem Side.head {row parts:List Int} {sg:Int} {d:Nat} {a:Int} {ds:List (Nat × Int)} (s:Side row parts sg ((d,a) :: ds)):∀ k,k < d->0 < gI row k * sg->gI parts k=gI row k * sg:=by
 have hm:=s.mem _ (List.mem_cons_self)
 intro k hk h
 refine s.out k (Nat.lt_trans hk hm.1) h fun p hp e=>?_
 rcases List.mem_cons.mp hp with rfl | hp
 ·exact absurd e (Nat.ne_of_gt hk)
 ·have:=(List.pairwise_cons.mp s.inc).1 p hp
  exact absurd (e ▸ this:d < k) (Nat.lt_asymm hk)
theorem zQA {X a b:Int}:X - a+b=X - (a - b):=by omega
theorem Side.pay {row parts:List Int} {sg:Int} {d:Nat} {a b:Int} {ds:List (Nat × Int)} (hl:parts.length=row.length) (s:Side row parts sg ((d,a) :: ds)) :
  Side row (parts.set d (gI parts d+min a b)) sg (if a <= b then ds else (d,a - b) :: ds):=by
 have hm:=s.mem _ (List.mem_cons_self)
 have hi:=List.pairwise_cons.mp s.inc
 have hdl:d < parts.length:=hl ▸ hm.1
 have self:=yt (v:=gI parts d+min a b) hdl
 have hne:∀ p ∈ ds,d ≠ p.1:=fun p hp e=>absurd (hi.1 p hp) (by show ¬ d < p.1; rw [<- e]; exact Nat.lt_irrefl _)
 refine ⟨?_,?_,?_⟩
 ·split
  ·exact hi.2
  ·exact List.pairwise_cons.mpr ⟨hi.1,hi.2⟩
 ·intro p hp
  have old:p ∈ ds->p.1 < row.length /\ 0 < gI row p.1 * sg /\ 0 < p.2 /\ gI (parts.set d (gI parts d+min a b)) p.1=gI row p.1 * sg - p.2:=fun hp=>by
   have:=s.mem p (List.mem_cons_of_mem _ hp)
   rw [yL (hne p hp)]; exact this
  split at hp
  ·exact old hp
  ·rename_i hab
   have hab:=Int.not_le.mp hab
   rcases List.mem_cons.mp hp with rfl | hp
   ·refine ⟨hm.1,hm.2.1,Int.sub_pos_of_lt hab,?_⟩
    show gI _ d=_
    rw [self,hm.2.2.2,Int.min_eq_right (Int.le_of_lt hab)]; exact zQA
   ·exact old hp
 ·intro k hk h hout
  by_cases e:k=d
  ·subst e
   rw [self]
   have hab:a <= b:=by
    by_cases hab:a <= b
    ·exact hab
    ·rw [if_neg hab] at hout
     exact absurd rfl (hout _ (List.mem_cons_self))
   rw [hm.2.2.2,Int.min_eq_left hab]; exact Int.sub_add_cancel _ _
  ·rw [yL fun h=>e h.symm]
   refine s.out k hk h fun p hp=>?_
   rcases List.mem_cons.mp hp with rfl | hp
   ·simp; exact fun h=>e h.symm
   ·split at hout
    ·exact hout p hp
    ·exact hout p (List.mem_cons_of_mem _ hp)
theorem Side.other {row parts:List Int} {sg:Int} {c:Nat} {v:Int} {ds:List (Nat × Int)} (s:Side row parts sg ds) (h:¬ 0 < gI row c * sg):Side row (parts.set c v) sg ds:=by
 refine ⟨s.inc,fun p hp=>?_,fun k hk hr ho=>?_⟩
 ·have:=s.mem p hp
  rw [yL (i:=c) (j:=p.1) fun e=>h (e ▸ this.2.1)]; exact this
 ·rw [yL (i:=c) (j:=k) fun e=>h (e ▸ hr)]; exact s.out k hk hr ho
theorem zKH (row:List Int):(row.map fun _=>(0:Int)).length=row.length:=by simp
theorem zEt (row:List Int) (k:Nat):gI (row.map fun _=>(0:Int)) k=0:=by
 simp only [gI,List.getD_eq_getElem?_getD,List.getElem?_map]
 cases row[k]? <;> rfl
theorem zFP (row:List Int):Side row (row.map fun _=>(0:Int)) 1 (yZ row row 0):=by
 refine ⟨?_,?_,?_⟩
 ·rw [yZ,List.drop_zero,List.pairwise_map]; exact zDT row
 ·intro p hp
  obtain ⟨k,hk,rfl⟩:=List.mem_map.mp hp
  have:=jw (List.mem_of_mem_drop hk)
  rw [zEt]; simp; omega
 ·intro k hk h ho
  have:(k,gI row k) ∈ yZ row row 0:=List.mem_map.mpr ⟨k,by simp [xC,hk]; omega,rfl⟩
  exact absurd rfl (ho _ this)
theorem zFO (row:List Int):Side row (row.map fun _=>(0:Int)) (-1) (yY row row 0):=by
 refine ⟨?_,?_,?_⟩
 ·rw [yY,List.drop_zero,List.pairwise_map]; exact zCn row
 ·intro p hp
  obtain ⟨k,hk,rfl⟩:=List.mem_map.mp hp
  have:=jY (List.mem_of_mem_drop hk)
  rw [zEt]; simp; omega
 ·intro k hk h ho
  have:(k,-gI row k) ∈ yY row row 0:=List.mem_map.mpr ⟨k,by simp [xG,hk]; omega,rfl⟩
  exact absurd rfl (ho _ this)
theorem zFF (row:List Int):(List.range row.length).map (gI row)=row:=by
 refine List.ext_getElem (by simp) fun i h1 h2=>?_
 simp [gI,h2]
theorem zFa (row:List Int):tot (yZ row row 0)=(row.filter fun c=>decide (0 < c)).sum:=by
 have:row.filter (fun c=>decide (0 < c))=(xC row).map (gI row):=by
  conv=>lhs; rw [<- zFF row]
  rw [List.filter_map]; rfl
 rw [this,tot,yZ,List.drop_zero,List.map_map]; rfl
theorem zFZ (row:List Int):tot (yY row row 0)=((row.filter fun c=>decide (c < 0)).map fun c=>-c).sum:=by
 have:row.filter (fun c=>decide (c < 0))=(xG row).map (gI row):=by
  conv=>lhs; rw [<- zFF row]
  rw [List.filter_map]; rfl
 rw [this,tot,yY,List.drop_zero,List.map_map,List.map_map]; rfl
theorem zMy (U:Sto) (a b c d:Int):ev2 .eq U (.tup [.int a,.int b]) (.tup [.int c,.int d])=some (.bool (a==c&&b==d)):=by
 show some (V.bool (a==c&&(b==d&&true)))=_
 rw [Bool.and_true]
theorem Go.len {ds cs:List (Nat × Int)} {r:List (Nat × Nat × Int)} (g:Go ds cs r):r.length <= ds.length+cs.length:=by
 induction g with
 | nilD cs=>exact Nat.zero_le _
 | nilC ds=>exact Nat.zero_le _
 | @step d c a b ds cs r _ ih =>
  rw [List.length_cons,List.length_cons,List.length_cons]
  rcases Int.lt_trichotomy a b with h | h | h
  ·rw [if_pos (Int.le_of_lt h),if_neg (Int.not_le.mpr h),List.length_cons] at ih
   rw [Nat.add_right_comm]; exact Nat.succ_le_succ ih
  ·subst h
   rw [if_pos (Int.le_refl a),if_pos (Int.le_refl a)] at ih
   rw [Nat.add_right_comm]; exact Nat.succ_le_succ (Nat.le_trans ih (Nat.add_le_add_left (Nat.le_succ _) _))
  ·rw [if_neg (Int.not_le.mpr h),if_pos (Int.le_of_lt h),List.length_cons] at ih
   exact Nat.succ_le_succ ih
end Mine
end

section
namespace Mine
open PySem
theorem yK:zP T09 true:=⟨rfl,rfl,rfl,rfl,rfl,rfl,rfl,rfl,rfl,rfl,rfl,rfl,rfl,rfl,rfl,rfl,rfl,rfl,rfl⟩
theorem modTab09:yN T09:=⟨rfl,rfl,rfl,rfl,rfl,rfl,rfl,rfl,rfl,rfl,rfl,rfl,rfl⟩
section
variable {d:Nat} {U:Sto} {F Fq:Calls}
theorem zQH {x y:O}:(U++[x,y])[U.length]?=some x:=vG
theorem zQI {x y:O}:(U++[x,y])[U.length+1]?=some y:=by rw [List.getElem?_append_right (Nat.le_add_right _ 1),Nat.add_sub_cancel_left]; rfl
theorem zRr {x y z:O}:(U++[x,y]).set U.length z=U++[z,y]:=zBR
theorem zOV {x y z:O}:(U++[x,y]).set (U.length+1) z=U++[x,z]:=by rw [List.set_append_right _ _ (Nat.le_add_right _ 1),Nat.add_sub_cancel_left]; rfl
theorem zD2 {l:List Int} {k:Nat} {v:Int}:(iv l).set k (.int v)=iv (l.set k v):=by unfold iv; rw [List.map_set]
theorem isL {n:Nat} {xs:List V} (h:U[n]?=some (.list xs)):kR U (.ref n)=true:=by show (wT _).isSome=true; rw [h]; rfl
theorem zRm {c:CE} {J:List V} {A:Int} {i n:Nat} {rest:List CS} {r:R Fl} (hx:evE F false c J U=.ok (.int A) U) (hi:zN J i=some (.int (n:Int))) (hs:J.set i (.int (n:Int))=J) (kk:exL F Fq false rest (J.set i (.int ((if A=0 then n+1 else n:Nat):Int))) U=r) :
  exL F Fq false (.ite (.p2 .eq c (.lit (.int 0))) [.asg i (.p2 .add (.var i) (.lit (.int 1)))] [] :: rest) J U=r:=by
 by_cases h:A=0
 ·rw [if_pos h] at kk
  exact s_t (zE (zD hx rfl (by rw [h]; rfl))) (zJ (v:=.int ((n+1:Nat):Int)) (zD (by rw [zv,hi]; rfl) rfl rfl) kk)
 ·rw [if_neg h,hs] at kk
  exact s_f (zE (zD hx rfl (by rw [xM,beq_false_of_ne h]))) kk
noncomputable def zHQ:List CS:=match f09_27.body with
 | [_,_,_,_,_,_,.while _ b,_]=>b
 | _=>[]
noncomputable def zHR:CE:=match f09_27.body with
 | [_,_,_,_,_,_,.while c _,_]=>c
 | _=>.lit .none
theorem zPh {row left:List Int} {xs:List V} {D C:List V} {one other dp cp:Nat} {va vb vc:V} {part:Int} (iD:D[one]?=some (.int dp)) (iC:C[other]?=some (.int cp)) (hdl:dp < left.length) (hcl:cp < left.length) (hne:dp ≠ cp)
  (hX:xs.length < LIM) (hp:(if 0 - gI left cp < gI left dp then 0 - gI left cp else gI left dp)=part) :
  exL F Fq false zHQ [.lst (iv row),.ref U.length,.lst D,.lst C,.ref (U.length+1),.int one,.int other,va,vb,vc] (U++[.list xs,.list (iv left)]) =
   .ok (.next [.lst (iv row),.ref U.length,.lst D,.lst C,.ref (U.length+1),.int ((if gI left dp - part=0 then one+1 else one:Nat):Int),.int ((if gI left cp+part=0 then other+1 else other:Nat):Int),.int dp,.int cp,.int part])
    (U++[.list (xs++[xg (dp,cp,part)]),.list (iv ((left.set dp (gI left dp - part)).set cp (gI left cp+part)))]):=by
 have ix:∀ {J ys:List V} {l:List Int} {k j:Nat},zN J 4=some (.ref (U.length+1))->zN J j=some (.int k)->k < l.length->evE F false (.p2 .index (.var 4) (.var j)) J (U++[.list ys,.list (iv l)])=.ok (.int (gI l k)) (U++[.list ys,.list (iv l)]):=fun h4 hj hk=>zD (by rw [zv,h4]; rfl) (by rw [zv,hj]; rfl) (zAJ _ zQI hk)
 have l1:∀ v:Int,cp < (left.set dp v).length:=fun v=>by rw [List.length_set]; exact hcl
 have l2:∀ v w:Int,cp < ((left.set dp v).set cp w).length:=fun v w=>by rw [List.length_set]; exact l1 v
 have l3:∀ v w:Int,dp < ((left.set dp v).set cp w).length:=fun v w=>by rw [List.length_set,List.length_set]; exact hdl
 refine zJ (zD rfl rfl (zr _ iD)) (zJ (zD rfl rfl (zr _ iC)) (zJ (v:=.int part) (zD (ix rfl rfl hdl) (zD rfl (ix rfl rfl hcl) rfl) (by rw [zBK,hp])) (yR (yU (x:=.ref U.length) rfl (isL zQH) rfl (yB _ zQH hX)) ?_)))
 rw [zRr]
 refine zq (x:=.int (gI left dp - part)) (zD (ix rfl rfl hdl) rfl rfl) rfl rfl (yQ _ zQI (by rw [wJ]; exact hdl)) ?_
 rw [zOV,zD2]
 refine zq (x:=.int (gI left cp+part)) (zD (ix rfl rfl (l1 _)) rfl (by rw [yL hne]; rfl)) rfl rfl (yQ _ zQI (by rw [wJ]; exact l1 _)) ?_
 rw [zOV,zD2]
 have gd:∀ v w:Int,gI ((left.set dp v).set cp w) dp=v:=fun v w=>by rw [yL hne.symm,yt hdl]
 have gc:∀ v w:Int,gI ((left.set dp v).set cp w) cp=w:=fun v w=>yt (l1 v)
 refine zRm (ix rfl rfl (l3 _ _)) rfl rfl (zRm (ix rfl rfl (l2 _ _)) rfl rfl ?_)
 rw [gd,gc]; rfl
inductive MI (row:List Int) (U:Sto) (m:Nat):List V->Sto->Prop
 | mk (one other:Nat) (acc:List (Nat × Nat × Int)) (left:List Int) (a b c:V) (hlen:left.length=row.length) (hm:m=(yZ row left one).length+(yY row left other).length) (hd:∀ p ∈ yZ row left one,0 < p.2) (hc:∀ p ∈ yY row left other,0 < p.2)
  (hacc:acc.length+m <= 2 * row.length) (hgo:∀ r,Go (yZ row left one) (yY row left other) r->Go (yZ row row 0) (yY row row 0) (acc++r)) :
  MI row U m [.lst (iv row),.ref U.length,.lst (nv (xC row)),.lst (nv (xG row)),.ref (U.length+1),.int one,.int other,a,b,c] (U++[.list (acc.map xg),.list (iv left)])
inductive MP (row:List Int) (U:Sto) (J:List V) (U':Sto):Prop
 | mk (acc:List (Nat × Nat × Int)) (left:List Int) (g:Go (yZ row row 0) (yY row row 0) acc) (h1:zN J 1=some (.ref U.length)) (hs:U'=U++[.list (acc.map xg),.list (iv left)])
inductive MN (row:List Int) (U:Sto) (F Fq:Calls) (m:Nat) (J:List V) (U1:Sto):Prop
 | mk (m':Nat) (J':List V) (U':Sto) (hm:m' < m) (he:exL F Fq false zHQ J U1=.ok (.next J') U') (I:MI row U m' J' U')
theorem zGL {x y p:Int} (hp:(if 0 - y < x then 0 - y else x)=p):(x <= -y->x - p=0) /\ (¬ x <= -y->x - p ≠ 0 /\ x - p=x - -y):=by
 rw [Int.zero_sub] at hp
 refine ⟨fun h=>?_,fun h=>?_⟩
 ·rw [if_neg (Int.not_lt.mpr h)] at hp; rw [<- hp,Int.sub_self]
 ·have h:=Int.not_le.mp h
  rw [if_pos h] at hp; rw [<- hp]
  exact ⟨fun q=>absurd (Int.sub_eq_zero.mp q) (Int.ne_of_gt h),rfl⟩
theorem zGK {x y p:Int} (hp:(if 0 - y < x then 0 - y else x)=p):(-y <= x->y+p=0) /\ (¬ -y <= x->y+p ≠ 0 /\ -(y+p)=-y - x):=by
 rw [Int.zero_sub] at hp
 refine ⟨fun h=>?_,fun h=>?_⟩
 ·by_cases h1:-y < x
  ·rw [if_pos h1] at hp; rw [<- hp,Int.add_right_neg]
  ·rw [if_neg h1,Int.le_antisymm (Int.not_lt.mp h1) h] at hp; rw [<- hp,Int.add_right_neg]
 ·have h:=Int.not_le.mp h
  rw [if_neg (Int.not_lt.mpr (Int.le_of_lt h))] at hp; rw [<- hp]
  exact ⟨fun q=>absurd h (by rw [Int.neg_eq_of_add_eq_zero q]; exact Int.lt_irrefl _),by rw [Int.neg_add,Int.sub_eq_add_neg]⟩
theorem zL2 {x y p:Int} (hp:(if 0 - y < x then 0 - y else x)=p):min x (-y)=p:=by
 rw [Int.zero_sub] at hp
 rw [<- hp]
 split
 ·rename_i h; exact Int.min_eq_right (Int.le_of_lt h)
 ·rename_i h; exact Int.min_eq_left (Int.not_lt.mp h)
theorem zLN {α:Type} {P Q:Prop} [Decidable P] [Decidable Q] (h:P \/ Q) (xs ys:List α) (x y:α):(if P then xs else x :: xs).length+(if Q then ys else y :: ys).length < xs.length+1+(ys.length+1):=by
 have l1:∀ (R:Prop) [Decidable R] (zs:List α) (z:α),(if R then zs else z :: zs).length <= zs.length+1:=fun R _ zs z=>by
  by_cases hr:R
  ·rw [if_pos hr]; exact Nat.le_succ _
  ·rw [if_neg hr]; exact Nat.le_refl _
 rcases h with h | h
 ·rw [if_pos h]; exact Nat.add_lt_add_of_lt_of_le (Nat.lt_succ_self _) (l1 Q ys y)
 ·rw [if_pos h]; exact Nat.add_lt_add_of_le_of_lt (l1 P xs x) (Nat.lt_succ_self _)
theorem zLc (l:List Nat):(nv l).length=l.length:=List.length_map _
theorem zPi {row left:List Int} (hl:row.length <= 1000) {one other:Nat} {acc:List (Nat × Nat × Int)} {va vb vc:V} (h1:one < (xC row).length) (h2:other < (xG row).length) (hlen:left.length=row.length) (hd:∀ p ∈ yZ row left one,0 < p.2) (hc:∀ p ∈ yY row left other,0 < p.2)
  (hacc:acc.length+((yZ row left one).length+(yY row left other).length) <= 2 * row.length) (hgo:∀ r,Go (yZ row left one) (yY row left other) r->Go (yZ row row 0) (yY row row 0) (acc++r)) :
  MN row U F Fq ((yZ row left one).length+(yY row left other).length) [.lst (iv row),.ref U.length,.lst (nv (xC row)),.lst (nv (xG row)),.ref (U.length+1),.int one,.int other,va,vb,vc] (U++[.list (acc.map xg),.list (iv left)]):=by
 have eD:=jE h1
 have eC:=jE h2
 have nD:=zCt (zDT row) h1
 have nC:=zCt (zCn row) h2
 have mD:=jw (List.getElem_mem h1)
 have mC:=jY (List.getElem_mem h2)
 have iD:=zLb h1
 have iC:=zLb h2
 generalize (xC row)[one]=dp at eD nD mD iD
 generalize (xG row)[other]=cp at eC nC mC iC
 have eds:yZ row left one=(dp,gI left dp) :: yZ row left (one+1):=by unfold yZ; rw [eD]; rfl
 have ecs:yY row left other=(cp,-gI left cp) :: yY row left (other+1):=by unfold yY; rw [eC]; rfl
 have ha:0 < gI left dp:=hd (dp,gI left dp) (by rw [eds]; exact List.mem_cons_self)
 have hb:0 < -gI left cp:=hc (cp,-gI left cp) (by rw [ecs]; exact List.mem_cons_self)
 have hne:dp ≠ cp:=fun e=>by rw [e] at ha; exact Int.lt_asymm ha (Int.neg_pos.mp hb)
 have ndC:dp ∉ (xG row).drop other:=fun hm=>Int.lt_asymm mD.2 (jY (List.mem_of_mem_drop hm)).2
 have ncD:cp ∉ (xC row).drop one:=fun hm=>Int.lt_asymm mC.2 (jw (List.mem_of_mem_drop hm)).2
 have hdl:dp < left.length:=hlen ▸ mD.1
 have hcl:cp < left.length:=hlen ▸ mC.1
 have hLIM:(acc.map xg).length < LIM:=by rw [List.length_map]; exact Nat.lt_of_le_of_lt (Nat.le_trans (Nat.le_trans (Nat.le_add_right _ _) hacc) (Nat.mul_le_mul_left 2 hl)) (by decide)
 have gd:∀ v w:Int,gI ((left.set dp v).set cp w) dp=v:=fun v w=>by rw [yL hne.symm,yt hdl]
 have gc:∀ v w:Int,gI ((left.set dp v).set cp w) cp=w:=fun v w=>yt (by rw [List.length_set]; exact hcl)
 have dset:∀ v w:Int,yZ row ((left.set dp v).set cp w) (one+1)=yZ row left (one+1):=fun v w=>by
  rw [zKp fun hm=>ncD (by rw [eD]; exact List.mem_cons_of_mem _ hm),zKp nD]
 have cset:∀ v w:Int,yY row ((left.set dp v).set cp w) (other+1)=yY row left (other+1):=fun v w=>by
  rw [zKl nC,zKl fun hm=>ndC (by rw [eC]; exact List.mem_cons_of_mem _ hm)]
 have dset0:∀ v w:Int,yZ row ((left.set dp v).set cp w) one=(dp,v) :: yZ row left (one+1):=fun v w=>by
  rw [<- dset v w]; unfold yZ; rw [eD,List.map_cons,gd]
 have cset0:∀ v w:Int,yY row ((left.set dp v).set cp w) other=(cp,-w) :: yY row left (other+1):=fun v w=>by
  rw [<- cset v w]; unfold yY; rw [eC,List.map_cons,gc]
 have hd':∀ p ∈ yZ row left (one+1),0 < p.2:=fun p hp=>hd p (by rw [eds]; exact List.mem_cons_of_mem _ hp)
 have hc':∀ p ∈ yY row left (other+1),0 < p.2:=fun p hp=>hc p (by rw [ecs]; exact List.mem_cons_of_mem _ hp)
 have e1:(yZ row left one).length=(yZ row left (one+1)).length+1:=by rw [eds]; rfl
 have e2:(yY row left other).length=(yY row left (other+1)).length+1:=by rw [ecs]; rfl
 generalize hpart:(if 0 - gI left cp < gI left dp then 0 - gI left cp else gI left dp)=part
 have hmin:=zL2 hpart
 have ex:=zPh (U:=U) (F:=F) (Fq:=Fq) (row:=row) (va:=va) (vb:=vb) (vc:=vc) iD iC hdl hcl hne hLIM hpart
 have eds':yZ row ((left.set dp (gI left dp - part)).set cp (gI left cp+part)) (if gI left dp - part=0 then one+1 else one)=(if gI left dp <= -gI left cp then yZ row left (one+1) else (dp,gI left dp - -gI left cp) :: yZ row left (one+1)):=by
  by_cases h:gI left dp <= -gI left cp
  ·rw [if_pos ((zGL hpart).1 h),if_pos h,dset]
  ·rw [if_neg ((zGL hpart).2 h).1,if_neg h,dset0,((zGL hpart).2 h).2]
 have ecs':yY row ((left.set dp (gI left dp - part)).set cp (gI left cp+part)) (if gI left cp+part=0 then other+1 else other)=(if -gI left cp <= gI left dp then yY row left (other+1) else (cp,-gI left cp - gI left dp) :: yY row left (other+1)):=by
  by_cases h:-gI left cp <= gI left dp
  ·rw [if_pos ((zGK hpart).1 h),if_pos h,cset]
  ·rw [if_neg ((zGK hpart).2 h).1,if_neg h,cset0,((zGK hpart).2 h).2]
 have hlen':(yZ row ((left.set dp (gI left dp - part)).set cp (gI left cp+part)) (if gI left dp - part=0 then one+1 else one)).length+(yY row ((left.set dp (gI left dp - part)).set cp (gI left cp+part)) (if gI left cp+part=0 then other+1 else other)).length < (yZ row left one).length+(yY row left other).length:=by
  rw [eds',ecs',e1,e2]; exact zLN (Int.le_total _ _) _ _ _ _
 refine .mk _ _ _ hlen' (ex.trans (by rw [show acc.map xg++[xg (dp,cp,part)]=(acc++[(dp,cp,part)]).map xg by rw [List.map_append]; rfl])) (.mk _ _ (acc++[(dp,cp,part)]) _ _ _ _ (by rw [List.length_set,List.length_set]; exact hlen) rfl ?_ ?_ ?_ ?_)
 ·rw [eds']
  split
  ·exact hd'
  ·rename_i h
   intro p hp
   rcases List.mem_cons.mp hp with rfl | hp
   ·exact Int.sub_pos_of_lt (Int.not_le.mp h)
   ·exact hd' p hp
 ·rw [ecs']
  split
  ·exact hc'
  ·rename_i h
   intro p hp
   rcases List.mem_cons.mp hp with rfl | hp
   ·exact Int.sub_pos_of_lt (Int.not_le.mp h)
   ·exact hc' p hp
 ·rw [List.length_append,List.length_singleton,Nat.add_assoc,Nat.add_comm 1]; exact Nat.le_trans (Nat.add_le_add_left hlen' _) hacc
 ·intro r hr
  rw [eds',ecs'] at hr
  have:=hgo _ (by rw [eds,ecs]; exact .step hr)
  rw [hmin] at this
  rw [List.append_assoc]; exact this
theorem zPg {D C:List V} {one other:Nat} {x0 x1 x4 va vb vc:V} {U:Sto}:evC F false (some zHR) [x0,x1,.lst D,.lst C,x4,.int one,.int other,va,vb,vc] U=.ok (decide (one < D.length)&&decide (other < C.length)) U:=
 zE ((zG8 (zD rfl (zV rfl (zf U D)) (xN U _ _)) (zD rfl (zV rfl (zf U C)) (xN U _ _))).trans (by
  rw [show decide ((one:Int) < (D.length:Int))=decide (one < D.length) from decide_eq_decide.mpr Int.ofNat_lt,show decide ((other:Int) < (C.length:Int))=decide (other < C.length) from decide_eq_decide.mpr Int.ofNat_lt]))
theorem zPj {row:List Int} (hl:row.length <= 1000) (m:Nat) (J:List V) (U1:Sto) (h:MI row U m J U1) :
  ((evE F false zHR J U1).bind fun v U=>R.lift U (truthy U v))=.ok false U1 /\ MP row U J U1 \/
  ((evE F false zHR J U1).bind fun v U=>R.lift U (truthy U v))=.ok true U1 /\ ∃ m' J' U',m' < m /\ exL F Fq false zHQ J U1=.ok (.next J') U' /\ MI row U m' J' U':=by
 cases h with
 | mk one other acc left va vb vc hlen hm hd hc hacc hgo =>
 subst hm
 have ec:=zPg (F:=F) (D:=nv (xC row)) (C:=nv (xG row)) (one:=one) (other:=other) (x0:=.lst (iv row)) (x1:=.ref U.length) (x4:=.ref (U.length+1)) (va:=va) (vb:=vb) (vc:=vc) (U:=U++[.list (acc.map xg),.list (iv left)])
 rw [zLc,zLc] at ec
 by_cases h1:one < (xC row).length
 ·by_cases h2:other < (xG row).length
  ·rw [decide_eq_true h1,decide_eq_true h2] at ec
   cases zPi (U:=U) (F:=F) (Fq:=Fq) (va:=va) (vb:=vb) (vc:=vc) hl h1 h2 hlen hd hc hacc hgo with
   | mk m' J' U' hm he I=>exact .inr ⟨ec,m',J',U',hm,he,I⟩
  ·rw [decide_eq_false h2,Bool.and_false] at ec
   have:=hgo [] (by rw [show yY row left other=[] by unfold yY; rw [List.drop_eq_nil_of_le (Nat.le_of_not_lt h2)]; rfl]; exact .nilC _)
   rw [List.append_nil] at this
   exact .inl ⟨ec,.mk acc left this rfl rfl⟩
 ·rw [decide_eq_false h1,Bool.false_and] at ec
  have:=hgo [] (by rw [show yZ row left one=[] by unfold yZ; rw [List.drop_eq_nil_of_le (Nat.le_of_not_lt h1)]; rfl]; exact .nilD _)
  rw [List.append_nil] at this
  exact .inl ⟨ec,.mk acc left this rfl rfl⟩
inductive zGi (row:List Int) (U:Sto) (r:R V):Prop
 | mk (acc:List (Nat × Nat × Int)) (left:List Int) (g:Go (yZ row row 0) (yY row row 0) acc) (er:r=.ok (.ref U.length) (U++[.list (acc.map xg),.list (iv left)]))
theorem zEZ {row:List Int} {op:P2} {p:Nat->Bool} {J:List V} (hl:row.length < LIM) (h0:zN J 0=some (.lst (iv row))) (hlen:J.length=10) (hop:∀ k:Nat,ev2 op U (.int (gI row k)) (.int 0)=some (.bool (p k))) (hq:(wK op&&false)=false) :
  evE F false (.comp (.var 10) .range1 [.p1 .len (.var 0)] (some (.p2 op (.p2 .index (.var 0) (.var 10)) (.lit (.int 0))))) J U=.ok (.lst (nv ((List.range row.length).filter p))) U:=by
 have v0:∀ {x:List V},evE F false (.var 0) (J++x) U=.ok (.lst (iv row)) U:=fun {x}=>by
  rw [zv]; unfold zN at h0 ⊢; rw [List.getElem?_append_left (by omega)]; rw [h0]; rfl
 have v10:∀ {x:Nat},evE F false (.var 10) (J++[V.int (x:Int)]) U=.ok (.int x) U:=fun {x}=>by
  rw [zv]; unfold zN; rw [List.getElem?_append_right (by omega),hlen]; rfl
 refine yh (l:=List.range row.length) (φ:=fun k:Nat=>V.int (k:Int)) (U1:=U) (vs:=[.int row.length]) (it:=.now (zY 0 row.length)) p (fun k:Nat=>V.int (k:Int)) (zC (zV (by rw [zv,h0]; rfl) ((zf U _).trans (by rw [wJ]))) rfl) (zg U (by rw [Int.natAbs_natCast]; exact Nat.le_of_lt hl)) (.inl (by unfold zY; rw [Int.sub_zero,Int.toNat_natCast]; exact congrArg Items.now (List.map_congr_left fun o _=>by rw [Int.zero_add]))) (by rw [List.length_range]; exact hl) (fun k hk=>?_) fun k _ _=>v10
 exact zE (zD (zD v0 v10 (xP U (List.mem_range.mp hk))) rfl (hop k) hq)
theorem c27 {row:List Int} (hl:row.length <= 1000):zGi row U (zA T09 (d+1) false 27 [.lst (iv row)] U):=by
 have hL:row.length < LIM:=Nat.lt_of_le_of_lt hl (by decide)
 have hm2:(yZ row row 0).length+(yY row row 0).length <= 2 * row.length:=by rw [zEi,zEe,Nat.two_mul]; exact Nat.add_le_add (zDU row) (zCo row)
 have hm:=Nat.le_trans hm2 (Nat.mul_le_mul_left 2 hl)
 obtain ⟨J',U',ew,P⟩:=zFi (F:=zA T09 d false) (Fq:=zA T09 d true) (c:=zHR) (body:=zHQ) (J:=[.lst (iv row),.ref U.length,.lst (nv (xC row)),.lst (nv (xG row)),.ref (U.length+1),.int 0,.int 0,.undef,.undef,.undef]) (U:=U++[.list [],.list (iv row)]) (P:=MP row U)
  (MI row U) _ (Nat.lt_of_le_of_lt hm (by decide)) (.mk 0 0 [] row _ _ _ rfl rfl (fun p hp=>by
   obtain ⟨k,hk,rfl⟩:=List.mem_map.mp hp
   exact (jw (List.mem_of_mem_drop hk)).2) (fun p hp=>by
   obtain ⟨k,hk,rfl⟩:=List.mem_map.mp hp
   have:=(jY (List.mem_of_mem_drop hk)).2
   exact Int.neg_pos.mpr this) (by rw [List.length_nil,Nat.zero_add]; exact hm2) fun r hr=>hr) (zPj hl)
 cases P with
 | mk acc left g h1 hs =>
 subst hs
 have cD:evE (zA T09 d false) false (.comp (.var 10) .range1 [.p1 .len (.var 0)] (some (.p2 .gt (.p2 .index (.var 0) (.var 10)) (.lit (.int 0))))) [.lst (iv row),.ref U.length,.undef,.undef,.undef,.undef,.undef,.undef,.undef,.undef] (U++[.list []])=.ok (.lst (nv (xC row))) (U++[.list []]):=
  zEZ (p:=fun k=>decide (0 < gI row k)) hL rfl rfl (fun k=>rfl) rfl
 have cC:evE (zA T09 d false) false (.comp (.var 10) .range1 [.p1 .len (.var 0)] (some (.p2 .lt (.p2 .index (.var 0) (.var 10)) (.lit (.int 0))))) [.lst (iv row),.ref U.length,.lst (nv (xC row)),.undef,.undef,.undef,.undef,.undef,.undef,.undef] (U++[.list []])=.ok (.lst (nv (xG row))) (U++[.list []]):=
  zEZ (p:=fun k=>decide (gI row k < 0)) hL rfl rfl (fun k=>rfl) rfl
 have cL:evE (zA T09 d false) false (.trk (.p1 .toList (.var 0))) [.lst (iv row),.ref U.length,.lst (nv (xC row)),.lst (nv (xG row)),.undef,.undef,.undef,.undef,.undef,.undef] (U++[.list []])=.ok (.ref (U.length+1)) (U++[.list [],.list (iv row)]):=by
  show R.ok (V.ref (U++[O.list []]).length) ((U++[O.list []])++[O.list (iv row)])=_
  rw [List.length_append,List.append_assoc]; rfl
 generalize xC row=D at cD cC cL ew
 generalize xG row=C at cC cL ew
 refine .mk acc left g (zG (fn:=f09_27) rfl rfl (zJ (v:=V.ref U.length) (U':=U++[O.list []]) rfl (zJ cD (zJ cC (zJ cL (zJ (v:=.int 0) rfl (zJ (v:=.int 0) rfl (yX ew (zK (v:=.ref U.length) ?_)))))))))
 rw [zv,h1]; rfl
end
end Mine
end

section
namespace Mine
open PySem
theorem zB2 {U:Sto} {i:Int}:ev2 .ne U (.int i) (.int i)=some (.bool false):=by rw [zKz,bne_self_eq_false]
section
variable {d:Nat} {U:Sto} {F Fq:Calls}
theorem zQs {row parts:List Int} {n place:Nat} {sign:Int} (hsg:yA sign=true) (hU:U[n]?=some (.list (iv parts))) (hl:row.length <= 1000) (hp:parts.length=row.length) (hpl:place <= row.length)
  (h:∀ k,k < place->0 < gI row k * sign->gI parts k=gI row k * sign):zA T09 (d+1) false 118 [.lst (iv row),.ref n,.int place,.int sign] U=.ok (.bool true) U:=by
 obtain ⟨J',U',ef,v,rfl,rfl⟩:=xt (F:=zA T09 d false) (Fq:=zA T09 d true) (i:=4) (k:=.range1) (src:=[.var 2]) (body:=match f09_118.body with
   | .for _ _ _ b :: _=>b
   | _=>[]) (J:=[.lst (iv row),.ref n,.int place,.int sign,.undef]) (vs:=[.int place]) (U:=U) (U1:=U) (it:=.now (zY 0 place)) (xs:=zY 0 place)
  (fun _ J U'=>∃ v,J=[.lst (iv row),.ref n,.int place,.int sign,v] /\ U'=U) rfl (zg U (by rw [Int.natAbs_natCast]; exact Nat.le_trans hpl (Nat.le_trans hl (by decide)))) (fun _ _ _ _=>.inl rfl) ⟨_,rfl,rfl⟩ fun j x J U' hx hI=>by
   obtain ⟨v,rfl,rfl⟩:=hI
   obtain ⟨rfl,hj⟩:=xR hx
   have hr:j < row.length:=Nat.lt_of_lt_of_le hj hpl
   have e1:evE (zA T09 d false) false (.p2 .mul (.p2 .index (.var 0) (.var 4)) (.var 3)) [.lst (iv row),.ref n,.int place,.int sign,.int j] U'=.ok (.int (gI row j * sign)) U':=zD (zD rfl rfl (xP U' hr)) rfl (yc U' _ _ (.inr hsg))
   refine ⟨_,U',s_f (zE ((zG8 (zD e1 rfl (zBq U' _ _)) (zD (zD rfl rfl (zAJ U' hU (hp ▸ hr))) e1 (zKz U' _ _))).trans ?_)) wk,.int j,rfl,rfl⟩
   by_cases h0:0 < gI row j * sign
   ·rw [h j hj h0,bne_self_eq_false,Bool.and_false]
   ·rw [show decide (gI row j * sign > 0)=false from decide_eq_false h0,Bool.false_and]
 exact zG (fn:=f09_118) rfl rfl (yX ef rfl)
theorem zR9 {row:List Int} {dd c:Nat} {p:Int} (hd:dd < row.length) (hc:c < row.length) (h1:0 < gI row dd) (h2:gI row c < 0) (hp:0 < p) :
  zA T09 (d+2) false 119 [.lst (iv row),xg (dd,c,p)] U=.ok (.bool true) U:=by
 have wh:∀ {k:Nat} {i:Int},ev2 .index U (xg (dd,c,p)) (.int k)=some (.int i)->evE (zA T09 (d+1) false) false (.p1 .not (.call 101 [.p2 .index (.var 1) (.lit (.int k))])) [.lst (iv row),xg (dd,c,p)] U=.ok (.bool false) U:=fun h=>zV (zH (zC (zD rfl rfl h) rfl) (kQ modTab09.t101 _)) rfl
 have wi:∀ {k j:Nat},ev2 .index U (xg (dd,c,p)) (.int k)=some (.int j)->j < row.length->evE (zA T09 (d+1) false) false (.p1 .not (.chain (.lit (.int 0)) [.le,.lt] [.p2 .index (.var 1) (.lit (.int k)),.p1 .len (.var 0)])) [.lst (iv row),xg (dd,c,p)] U=.ok (.bool false) U:=fun h hj=>zV (yp rfl (zD rfl rfl h) (zV rfl ((zf U _).trans (by rw [wJ])))) (by rw [in_iff.mpr ⟨_,rfl,hj⟩]; rfl)
 refine zG (fn:=zHF) rfl rfl (s_f (zE (zW (x:=.bool false) rfl rfl rfl)) (s_f (zE (zW (wh (k:=0) rfl) rfl (zW (wh (k:=1) rfl) rfl (wh (k:=2) rfl)))) (s_f (zE (zW (wi (k:=0) rfl hd) rfl (wi (k:=1) rfl hc))) (zK ?_))))
 exact zn (x:=.bool true) (zD (zD rfl (zD rfl rfl rfl) (xP U hd)) rfl (by rw [zBq,decide_eq_true h1])) rfl (zn (x:=.bool true) (zD (zD rfl (zD rfl rfl rfl) (xP U hc)) rfl (by rw [xN,decide_eq_true h2])) rfl (zD (zD rfl rfl rfl) rfl (by rw [zBq,decide_eq_true hp])))
theorem zPQ {a b c e:Int} (h:a ≠ c \/ b ≠ e):ev2 .eq U (.tup [.int a,.int b]) (.tup [.int c,.int e])=some (.bool false):=by
 rw [zMy]
 rcases h with h | h
 ·rw [beq_false_of_ne h,Bool.false_and]
 ·rw [beq_false_of_ne h,Bool.and_false]
noncomputable def zKW:List CS:=match f09_120.body with
 | [_,_,.for _ _ _ b,_,_,_]=>b
 | _=>[]
theorem zPH {row parts:List Int} {f dp cp:Nat} {l1 l2 part:Int} (hl:row.length <= 1000) (hp:parts.length=row.length) (hd:dp < row.length) (hc:cp < row.length) (h1:0 < gI row dp) (h2:gI row cp < 0) (h3:0 < part)
  (hlast:(dp:Int) ≠ l1 \/ (cp:Int) ≠ l2) (a1:∀ k,k < dp->0 < gI row k * 1->gI parts k=gI row k * 1) (a2:∀ k,k < cp->0 < gI row k * (-1)->gI parts k=gI row k * (-1))
  (b1:gI parts dp+part <= gI row dp) (b2:gI parts cp+part <= -gI row cp) :
  exL (zA T09 (d+2) false) (zA T09 (d+2) true) false zKW [.lst (iv row),.ref f,.ref U.length,.tup [.int l1,.int l2],xg (dp,cp,part),.undef,.undef] (U++[.list (iv parts)]) =
   .ok (.next [.lst (iv row),.ref f,.ref U.length,.tup [.int dp,.int cp],xg (dp,cp,part),.undef,.undef]) (U++[.list (iv ((parts.set dp (gI parts dp+part)).set cp (gI parts cp+part)))]):=by
 have hne:dp ≠ cp:=fun e=>by rw [e] at h1; omega
 have hdl:dp < parts.length:=hp ▸ hd
 have hcl:cp < parts.length:=hp ▸ hc
 have q1:∀ v:Int,cp < (parts.set dp v).length:=fun v=>by rw [List.length_set]; exact hcl
 have q2:∀ v w:Int,cp < ((parts.set dp v).set cp w).length:=fun v w=>by rw [List.length_set]; exact q1 v
 have q3:∀ v w:Int,dp < ((parts.set dp v).set cp w).length:=fun v w=>by rw [List.length_set,List.length_set]; exact hdl
 have k1:=zR9 (d:=d) (U:=U++[.list (iv parts)]) hd hc h1 h2 h3
 have k2:=zQs (d:=d+1) (n:=U.length) (U:=U++[.list (iv parts)]) (sign:=1) (by decide) zj hl hp (Nat.le_of_lt hd) a1
 have k3:=zQs (d:=d+1) (n:=U.length) (U:=U++[.list (iv parts)]) (sign:=-1) (by decide) zj hl hp (Nat.le_of_lt hc) a2
 have pix:∀ {l:List Int} {k j:Nat} {l1 l2:V},ev2 .index (U++[O.list (iv l)]) (xg (dp,cp,part)) (.int j)=some (.int k)->k < l.length->evE (zA T09 (d+2) false) false (.p2 .index (.var 2) (.p2 .index (.var 4) (.lit (.int j)))) [.lst (iv row),.ref f,.ref U.length,.tup [l1,l2],xg (dp,cp,part),.undef,.undef] (U++[.list (iv l)])=.ok (.int (gI l k)) (U++[.list (iv l)]):=fun h hk=>zD rfl (zD rfl rfl h) (zAJ _ zj hk)
 have rix:∀ {l:List Int} {k j:Nat} {l1 l2:V},ev2 .index (U++[O.list (iv l)]) (xg (dp,cp,part)) (.int j)=some (.int k)->k < row.length->evE (zA T09 (d+2) false) false (.p2 .index (.var 0) (.p2 .index (.var 4) (.lit (.int j)))) [.lst (iv row),.ref f,.ref U.length,.tup [l1,l2],xg (dp,cp,part),.undef,.undef] (U++[.list (iv l)])=.ok (.int (gI row k)) (U++[.list (iv l)]):=fun h hk=>zD rfl (zD rfl rfl h) (xP _ hk)
 refine s_f (zE (zW (x:=.bool false) (zV (zH rfl k1) rfl) rfl (zD (x:=.tup [.int dp,.int cp]) rfl rfl (zPQ hlast)))) (s_f (zE (zW (x:=.bool false) (zV (zH rfl k2) rfl) rfl (zV (zH rfl k3) rfl))) (zq (x:=.int (gI parts dp+part)) (zD (pix (j:=0) rfl hdl) rfl rfl) rfl (zD (z:=.int dp) rfl rfl rfl) (yQ _ zj (by rw [wJ]; exact hdl)) ?_))
 rw [wL,zD2]
 refine zq (x:=.int (gI parts cp+part)) (zD (pix (j:=1) rfl (q1 _)) rfl (by rw [yL hne]; rfl)) rfl (zD (z:=.int cp) rfl rfl rfl) (yQ _ zj (by rw [wJ]; exact q1 _)) ?_
 rw [wL,zD2]
 refine s_f (zE (zW (x:=.bool false) (zD (pix (j:=0) rfl (q3 _ _)) (rix (j:=0) rfl hd) ?_) rfl (zD (pix (j:=1) rfl (q2 _ _)) (zV (rix (j:=1) rfl hc) rfl) ?_))) rfl
 ·rw [yL hne.symm,yt hdl,zBq,show decide (gI parts dp+part > gI row dp)=false from decide_eq_false (Int.not_lt.mpr b1)]
 ·rw [yt (q1 _),zBq,show decide (gI parts cp+part > -gI row cp)=false from decide_eq_false (Int.not_lt.mpr b2)]
inductive CI (row:List Int) (found:List (Nat × Nat × Int)) (f:Nat) (U:Sto) (i:Nat):List V->Sto->Prop
 | mk (ds cs:List (Nat × Int)) (parts:List Int) (l1 l2:Int) (v:V) (hp:parts.length=row.length) (hgo:Go ds cs (found.drop i)) (hD:Side row parts 1 ds) (hC:Side row parts (-1) cs) (hlast:(∀ p ∈ ds,(p.1:Int) ≠ l1) \/ (∀ p ∈ cs,(p.1:Int) ≠ l2)) :
  CI row found f U i [.lst (iv row),.ref f,.ref U.length,.tup [.int l1,.int l2],v,.undef,.undef] (U++[.list (iv parts)])
theorem zHN {R a m:Int} (h:m <= a):R - a+m <= R:=by omega
theorem zLY {x:Int} (h:x < 0):¬ 0 < x * 1:=by rw [Int.mul_one]; exact Int.not_lt.mpr (Int.le_of_lt h)
theorem zLZ {x:Int} (h:0 < x):¬ 0 < x * -1:=by rw [Int.mul_neg,Int.mul_one]; exact Int.not_lt.mpr (Int.neg_nonpos_of_nonneg (Int.le_of_lt h))
theorem zPI {row:List Int} {found:List (Nat × Nat × Int)} {f:Nat} (hl:row.length <= 1000) (i:Nat) (x:V) (J:List V) (U1:Sto) (hx:(found.map xg)[i]?=some x) (h:CI row found f U i J U1) :
  ∃ J' U',exL (zA T09 (d+2) false) (zA T09 (d+2) true) false zKW (J.set 4 x) U1=.ok (.next J') U' /\ CI row found f U (i+1) J' U':=by
 cases h with
 | mk ds cs parts l1 l2 v hp hgo hD hC hlast =>
 rw [List.getElem?_map] at hx
 obtain ⟨t,ht,rfl⟩:=Option.map_eq_some_iff.mp hx
 have e:found.drop i=t :: found.drop (i+1):=by rw [List.drop_eq_getElem_cons (List.getElem?_eq_some_iff.mp ht).1,(List.getElem?_eq_some_iff.mp ht).2]
 rw [e] at hgo
 generalize hr:found.drop (i+1)=r at hgo
 cases hgo with
 | @step dp cp a b ds cs _ hgo =>
  have mD:=hD.mem _ (List.mem_cons_self)
  have mC:=hC.mem _ (List.mem_cons_self)
  simp only at mD mC
  have hl1:(dp:Int) ≠ l1 \/ (cp:Int) ≠ l2:=hlast.imp (fun h=>h (dp,a) List.mem_cons_self) fun h=>h (cp,b) List.mem_cons_self
  have m1:0 < gI row dp:=by have:=mD.2.1; rw [Int.mul_one] at this; exact this
  have m2:gI row cp < 0:=by have:=mC.2.1; rw [Int.mul_neg,Int.mul_one] at this; exact Int.neg_pos.mp this
  have hne:dp ≠ cp:=fun e=>by rw [e] at m1; exact Int.lt_asymm m1 m2
  have ex:=zPH (d:=d) (U:=U) (f:=f) (part:=min a b) hl hp mD.1 mC.1 m1 m2 (Int.lt_min.mpr ⟨mD.2.2.1,mC.2.2.1⟩) hl1 hD.head hC.head (by rw [mD.2.2.2,Int.mul_one]; exact zHN (Int.min_le_left a b)) (by rw [mC.2.2.2,Int.mul_neg,Int.mul_one]; exact zHN (Int.min_le_right a b))
  refine ⟨_,_,ex,.mk _ _ _ _ _ _ (by rw [List.length_set,List.length_set]; exact hp) (hr ▸ hgo) ((hD.pay (b:=b) hp).other (zLY m2)) ?_ ?_⟩
  ·have h1:=(hC.other (c:=dp) (v:=gI parts dp+min a b) (zLZ m1)).pay (b:=a) (by rw [List.length_set]; exact hp)
   rw [yL hne,Int.min_comm b a] at h1
   exact h1
  ·by_cases hab:a <= b
   ·left
    rw [if_pos hab]
    intro p hp
    have:dp < p.1:=(List.pairwise_cons.mp hD.inc).1 p hp
    exact fun q=>Nat.ne_of_gt this (Int.ofNat.inj q)
   ·right
    rw [if_pos (Int.le_of_lt (Int.not_le.mp hab))]
    intro p hp
    have:cp < p.1:=(List.pairwise_cons.mp hC.inc).1 p hp
    exact fun q=>Nat.ne_of_gt this (Int.ofNat.inj q)
inductive zQl (U:Sto) (r:R V):Prop
 | mk (parts:List Int) (er:r=.ok (.bool true) (U++[.list (iv parts)]))
theorem zSA {row:List Int} {found:List (Nat × Nat × Int)} {f:Nat} (hl:row.length <= 1000) (hf:U[f]?=some (.list (found.map xg))) (hgo:Go (yZ row row 0) (yY row row 0) found) :
  zQl U (zA T09 (d+3) false 120 [.lst (iv row),.ref f] U):=by
 have hL:row.length < LIM:=Nat.lt_of_le_of_lt hl (by decide)
 have hfl:found.length < LIM:=by
  have:=hgo.len
  rw [zEi,zEe] at this
  exact Nat.lt_of_le_of_lt (Nat.le_trans this (Nat.add_le_add (Nat.le_trans (zDU row) hl) (Nat.le_trans (zCo row) hl))) (by decide)
 have hz:((row.filter fun _=>true).map fun _=>V.int 0)=iv (row.map fun _=>(0:Int)):=by rw [xA]; unfold iv; rw [List.map_map]; rfl
 obtain ⟨J',U',ew,I⟩:=xt (F:=zA T09 (d+2) false) (Fq:=zA T09 (d+2) true) (i:=4) (k:=.val) (src:=[.var 1]) (body:=zKW) (J:=[.lst (iv row),.ref f,.ref U.length,.tup [.int (-1),.int (-1)],.undef,.undef,.undef])
  (it:=.live f) (xs:=found.map xg) (vs:=[.ref f]) (U:=U++[.list (iv (row.map fun _=>(0:Int)))]) (U1:=U++[.list (iv (row.map fun _=>(0:Int)))]) (CI row found f U) rfl (yu _ (zX hf))
   (fun j J U' h=>.inr ⟨f,rfl,by cases h; exact zX hf⟩) (.mk _ _ _ (-1) (-1) _ (zKH row) (by rw [List.drop_zero]; exact hgo) (zFP row) (zFO row) (.inl fun p _=>by omega)) (zPI hl)
 cases I with
 | mk ds cs parts l1 l2 v hp _ _ _ _ =>
 have hs:=hgo.sum (fun p hp=>((zFP row).mem p hp).2.2.1) (fun p hp=>((zFO row).mem p hp).2.2.1)
 rw [zFa,zFZ] at hs
 have e0:evE (zA T09 (d+2) false) false (.trk (.comp (.lit (.int 0)) .val [.var 0] none)) [.lst (iv row),.ref f,.undef,.undef,.undef,.undef,.undef] U=.ok (.ref U.length) (U++[.list (iv (row.map fun _=>(0:Int)))]):=by
  rw [kO,yh (l:=row) (φ:=V.int) (U1:=U) (vs:=[.lst (iv row)]) (it:=.now (iv row)) (fun _=>true) (fun _=>V.int 0) rfl rfl (.inl rfl) hL (fun _ _=>rfl) (fun _ _ _=>rfl),hz]; rfl
 have e1:evE (zA T09 (d+2) false) false (.p1 .sum (.comp (.var 7) .val [.var 0] (some (.p2 .gt (.var 7) (.lit (.int 0)))))) [.lst (iv row),.ref f,.ref U.length,.tup [.int l1,.int l2],v,.undef,.undef] (U++[.list (iv parts)])=.ok (.int (row.filter fun c=>decide (0 < c)).sum) (U++[.list (iv parts)]):=
  zV (yh (l:=row) (φ:=V.int) (U1:=U++[.list (iv parts)]) (vs:=[.lst (iv row)]) (it:=.now (iv row)) (fun c=>decide (0 < c)) V.int rfl rfl (.inl rfl) hL (fun _ _=>rfl) (fun _ _ _=>rfl)) (xl _ _)
 have e2:evE (zA T09 (d+2) false) false (.p1 .sum (.comp (.p1 .neg (.var 7)) .val [.var 0] (some (.p2 .lt (.var 7) (.lit (.int 0)))))) [.lst (iv row),.ref f,.ref U.length,.tup [.int l1,.int l2],v,.int (row.filter fun c=>decide (0 < c)).sum,.undef] (U++[.list (iv parts)])=.ok (.int ((row.filter fun c=>decide (c < 0)).map fun c=>-c).sum) (U++[.list (iv parts)]):=
  zV ((yh (l:=row) (φ:=V.int) (U1:=U++[.list (iv parts)]) (vs:=[.lst (iv row)]) (it:=.now (iv row)) (fun c=>decide (c < 0)) (fun c=>V.int (-c)) rfl rfl (.inl rfl) hL (fun _ _=>rfl) (fun _ _ _=>rfl)).trans (by rw [show ((row.filter fun c=>decide (c < 0)).map fun c=>V.int (-c))=iv ((row.filter fun c=>decide (c < 0)).map fun c=>-c) by unfold iv; rw [List.map_map]; rfl])) (xl _ _)
 generalize (row.filter fun c=>decide (0 < c)).sum=A at hs e1 e2
 generalize ((row.filter fun c=>decide (c < 0)).map fun c=>-c).sum=B at hs e2
 have e3:evE (zA T09 (d+2) false) false (.p1 .sum (.comp (.p2 .index (.var 7) (.lit (.int 2))) .val [.var 1] none)) [.lst (iv row),.ref f,.ref U.length,.tup [.int l1,.int l2],v,.int A,.int B] (U++[.list (iv parts)])=.ok (.int (found.map (·.2.2)).sum) (U++[.list (iv parts)]):=
  zV ((yh (l:=found) (φ:=xg) (U1:=U++[.list (iv parts)]) (vs:=[.ref f]) (it:=.live f) (fun _=>true) (fun t=>V.int t.2.2) rfl (yu _ (zX hf)) (.inr ⟨f,rfl,zX hf⟩) hfl (fun _ _=>rfl) (fun _ _ _=>rfl)).trans (by rw [xA,show (found.map fun t=>V.int t.2.2)=iv (found.map (·.2.2)) by unfold iv; rw [List.map_map]; rfl])) (xl _ _)
 refine .mk parts (zG (fn:=f09_120) rfl rfl (zJ e0 (zJ (v:=.tup [.int (-1),.int (-1)]) rfl (yX ew (zJ e1 (zJ e2 (zK (zD e3 (zD rfl rfl (zBK _ _ _)) ?_))))))))
 rw [xM,hs,show min A B=(if B < A then B else A) by
  by_cases h:B < A
  ·rw [if_pos h]; exact Int.min_eq_right (Int.le_of_lt h)
  ·rw [if_neg h]; exact Int.min_eq_left (Int.not_lt.mp h),beq_self_eq_true]
end
end Mine
end

section
namespace Mine
open PySem
noncomputable def zA9 (v:V):Prop:=∃ ys,v=.tup ys /\ ∀ y ∈ ys,(∃ s,y=.str s) \/ ∃ i,y=.int i
theorem zBt {U:Sto} {d:Nat} {v:V} (h:zA9 v):Has U (d+2) v:=by
 obtain ⟨ys,rfl,h⟩:=h
 obtain ⟨zs,hz⟩:=zDw (U:=U) (d:=d+1) (xs:=ys) fun y hy=>by
  rcases h y hy with ⟨s,rfl⟩ | ⟨i,rfl⟩
  ·exact ⟨_,rfl⟩
  ·exact ⟨_,rfl⟩
 exact ⟨.tuple zs,by show (ys.mapM (xY U (d+1))).map PyData.tuple=_; rw [hz]; rfl⟩
theorem zT {y:V} {ys:List V} (h:(∃ s,y=.str s) \/ ∃ i,y=.int i) (hs:∀ y ∈ ys,(∃ s,y=.str s) \/ ∃ i,y=.int i):∀ z ∈ y :: ys,(∃ s,z=.str s) \/ ∃ i,z=.int i:=fun z hz =>
 (List.mem_cons.mp hz).elim (fun e=>e ▸ h) (hs z)
theorem fI (i:Int):(∃ s,V.int i=.str s) \/ ∃ j,V.int i=.int j:=.inr ⟨i,rfl⟩
theorem fS (s:Str):(∃ t,V.str s=.str t) \/ ∃ j,V.str s=.int j:=.inl ⟨s,rfl⟩
theorem fN:∀ y ∈ ([]:List V),(∃ s,y=.str s) \/ ∃ i,y=.int i:=fun _ h=>nomatch h
theorem zIQ (l:Ln):zA9 (zDb l):=⟨_,rfl,zT (fS _) (zT (fI _) (zT (fI _) (zT (fI _) (zT (fI _) (zT (fI _) fN)))))⟩
theorem zK5 (l:Ln):zA9 l.raw:=⟨_,rfl,zT (fS _) (zT (fI _) (zT (fI _) (zT (fI _) fN)))⟩
theorem zK6 (r:Str × Int):zA9 (xm r):=⟨_,rfl,zT (fS _) (zT (fI _) fN)⟩
theorem zIO {D:Deed} (hn:∀ ls,D ≠ .ord ls):zA9 D.v:=by
 cases D with
 | ord ls=>exact absurd rfl (hn ls)
 | pay o n=>exact ⟨_,rfl,zT (fS _) (zT (fI _) (zT (fI _) fN))⟩
 | ref o n=>exact ⟨_,rfl,zT (fS _) (zT (fI _) (zT (fI _) fN))⟩
 | mov o p n=>exact ⟨_,rfl,zT (fS _) (zT (fI _) (zT (fI _) (zT (fI _) fN)))⟩
 | lin w o k n=>exact ⟨_,rfl,zT (fS _) (zT (fI _) (zT (fI _) (zT (fI _) fN)))⟩
section
variable {d:Nat} {U U':Sto} {ro ro':Nat->Role} {i a b e h o r m:Nat} {us:List Or} {hs rs xs:List V} {u:Or} {fv:V} {F Fq:Calls}
theorem LinesOf.len (h:LinesOf U xs fv):ev1 .len U fv=some (.int xs.length):=by
 cases h with
 | lst=>rfl
 | ref k hk=>exact wO U hk
theorem LinesOf.inst (h:LinesOf U xs fv):ev1 (.isInst .list) U fv=some (.bool true):=by
 cases h with
 | lst=>rfl
 | ref k hk=>rw [jG,zBv U hk]; rfl
theorem LinesOf.index (h:LinesOf U xs fv) {j:Nat} {v:V} (hj:xs[j]?=some v):ev2 .index U fv (.int j)=some v:=by
 cases h with
 | lst=>exact zr U hj
 | ref k hk=>exact zU U hk hj
theorem LinesOf.list (h:LinesOf U xs fv):ev1 .toList U fv=some (.lst xs):=by
 cases h with
 | lst=>rfl
 | ref n h=>show (match U[n]? with | some (.list xs)=>some xs | _=>none).map V.lst=_; rw [h]; rfl
noncomputable def zOM (j:Nat):List CS:=[.ite (.and (.p1 .not (.p1 (.isInst .str) (.var j))) (.p1 .not (.call 101 [.var j]))) [.ret (.lit (.bool false))] []]
theorem zCa {j:Nat} {ys J:List V} {src:List CE} (hsrc:evL (zA T09 (d+1) false) false src J U=.ok [.tup ys] U) (hv:∀ x,(∃ s,x=.str s) \/ (∃ i,x=.int i)->zN (J.set j x) j=some x) (hy:∀ y ∈ ys,(∃ s,y=.str s) \/ ∃ i,y=.int i) :
  ∃ J',exS (zA T09 (d+1) false) Fq false (.for j .val src (zOM j)) J U=.ok (.next J') U /\ (J'=J \/ ∃ x,J'=J.set j x):=by
 obtain ⟨J',U',ef,hr,rfl⟩:=xt (F:=zA T09 (d+1) false) (Fq:=Fq) (i:=j) (k:=.val) (src:=src) (body:=zOM j) (J:=J) (vs:=[.tup ys]) (U:=U) (U1:=U) (it:=.now ys) (xs:=ys)
  (fun _ J' U'=>(J'=J \/ ∃ x,J'=J.set j x) /\ U'=U) hsrc rfl (fun _ _ _ _=>.inl rfl) ⟨.inl rfl,rfl⟩ fun k x J' U' hk hI=>by
   obtain ⟨hJ,rfl⟩:=hI
   have e:J'.set j x=J.set j x:=by
    rcases hJ with rfl | ⟨z,rfl⟩
    ·rfl
    ·rw [List.set_set]
   rw [e]
   have hx:=hy x (List.mem_of_getElem? hk)
   have ev:evE (zA T09 (d+1) false) false (.var j) (J.set j x) U'=.ok x U':=by rw [zv,hv x hx]; rfl
   rcases hx with ⟨s,rfl⟩ | ⟨n,rfl⟩
   ·exact ⟨_,_,s_f (zE (yn (zV (zV ev rfl) rfl) rfl)) rfl,.inr ⟨_,rfl⟩,rfl⟩
   ·exact ⟨_,_,s_f (zE (zn (zV (zV ev rfl) rfl) rfl (zV (zH (zC ev rfl) (kQ modTab09.t101 n)) rfl))) rfl,.inr ⟨_,rfl⟩,rfl⟩
 exact ⟨J',ef,hr⟩
theorem zR7 (hx:∀ v ∈ xs,zA9 v) (hl:xs.length <= LIM):zA T09 (d+2) false 115 [.lst xs,.lst xs] U=.ok (.bool true) U:=by
 obtain ⟨J',U',ef,x2,x3,rfl,rfl⟩:=xt (F:=zA T09 (d+1) false) (Fq:=zA T09 (d+1) true) (i:=2) (k:=.range1) (src:=[.p1 .len (.var 1)]) (body:=match f09_115.body with
   | [_,.for _ _ _ b,_]=>b
   | _=>[]) (J:=[.lst xs,.lst xs,.undef,.undef]) (vs:=[.int xs.length]) (U:=U) (U1:=U) (it:=.now (zY 0 xs.length)) (xs:=zY 0 xs.length)
  (fun j J U'=>∃ x2 x3,J=[.lst xs,.lst xs,x2,x3] /\ U'=U) (zC (zV rfl (zf U xs)) rfl) (zg U (by rw [Int.natAbs_natCast]; exact hl)) (fun _ _ _ _=>.inl rfl) ⟨_,_,rfl,rfl⟩ fun j x J U' hjj hI=>by
   obtain ⟨y2,y3,rfl,rfl⟩:=hI
   obtain ⟨rfl,hj⟩:=xR hjj
   have hv:xs[j]?=some xs[j]:=List.getElem?_eq_getElem hj
   have fl:=hx _ (List.mem_of_getElem? hv)
   generalize xs[j]=v at hv fl
   have hv3:Has U' xJ v:=zBt fl
   obtain ⟨ys,rfl,hy⟩:=fl
   have i0:∀ {F:Calls} {z:V},evE F false (.p2 .index (.var 0) (.var 2)) [.lst xs,.lst xs,.int j,z] U'=.ok (.tup ys) U':=zD rfl rfl (zr _ hv)
   obtain ⟨J',ef2,hr⟩:=zCa (d:=d) (Fq:=zA T09 (d+1) true) (j:=3) (J:=[.lst xs,.lst xs,.int j,y3]) (src:=[.p2 .index (.var 0) (.var 2)]) (zC i0 rfl) (fun x hx=>by rcases hx with ⟨s,rfl⟩ | ⟨n,rfl⟩ <;> rfl) hy
   refine ⟨J',_,s_f (zE (zW (x:=.bool false) (zV (zV i0 rfl) rfl) rfl (zD i0 (zD rfl rfl (zr _ hv)) (zHT hv3)))) (yX ef2 rfl),?_⟩
   rcases hr with rfl | ⟨x,rfl⟩ <;> exact ⟨_,_,rfl,rfl⟩
 exact zG (fn:=f09_115) rfl rfl (s_f (zE (zW (x:=.bool false) rfl rfl (zD (zV rfl (zf _ xs)) (zV rfl (zf _ xs)) zB2))) (yX ef rfl))
theorem zQq {v:V} (hf:zA9 v):zA T09 (d+2) false 116 [v,v] U=.ok (.bool true) U:=by
 have hv:Has U xJ v:=zBt hf
 obtain ⟨ys,rfl,hy⟩:=hf
 obtain ⟨J',ef,hr⟩:=zCa (d:=d) (U:=U) (Fq:=zA T09 (d+1) true) (j:=2) (J:=[.tup ys,.tup ys,.undef]) (src:=[.var 0]) rfl (fun x hx=>by rcases hx with ⟨s,rfl⟩ | ⟨n,rfl⟩ <;> rfl) hy
 exact zG (fn:=zHE) rfl rfl (s_f (zE (zW (x:=.bool false) rfl rfl (zD rfl rfl (zHT hv)))) (yX ef rfl))
theorem zSC (Q:OrdAt U ro i o r u) (ok:u.ok):zA T09 (d+1) false 122 [.ref r] U=.ok (.lst (u.lines.map zDb)) U:=by
 obtain ⟨ls,h0,h1,hl,hls⟩:=Q.index
 refine zG (fn:=zHG) rfl rfl (zK (jR (vs:=[.lst ls]) (xs:=ls) (zC (zD rfl rfl h0) rfl) rfl (.inl rfl) (by rw [hl]; exact Nat.le_of_lt ok.lim) (by rw [List.length_map]; exact hl) fun j x hx=>?_))
 have hj:j < u.lines.length:=by rw [<- hl]; exact (List.getElem?_eq_some_iff.mp hx).1
 have hlj:u.lines[j]?=some u.lines[j]:=List.getElem?_eq_getElem hj
 generalize u.lines[j]=l at hlj
 obtain ⟨n,hn,hnn⟩:=hls j l hlj
 rw [hn] at hx; cases hx
 exact ⟨zDb l,by rw [List.getElem?_map,hlj]; rfl,yg (zC (zk (k:=0) hnn rfl rfl) (zC (zk (k:=1) hnn rfl rfl) (zC (zk (k:=4) hnn rfl rfl) (zC (zk (k:=5) hnn rfl rfl) (zC (zk (k:=6) hnn rfl rfl) (zC (zk (k:=7) hnn rfl rfl) rfl))))))⟩
theorem zHM (rs:List (Str × Int)):(rs.map fun r=>V.int r.2)=iv (rs.map (·.2)):=by unfold iv; rw [List.map_map]; rfl
theorem c15 (B:BookIn U b e h (us.map Or.v) hs) (hu:us[o]?=some u) (hl:u.rows.length <= 1000):zGi (u.rows.map (·.2)) U (zA T09 (d+2) false 15 [.ref b,.int o] U):=by
 have hm:=c27 (d:=d) (U:=U) (row:=u.rows.map (·.2)) (by rw [List.length_map]; exact hl)
 cases hm with
 | mk acc left g er =>
 have ec:=yh (F:=zA T09 (d+1) false) (elt:=.p2 .index (.var 2) (.lit (.int 1))) (k:=.val) (src:=[.p2 .index (.p2 .index (.attr (.var 0) 0) (.var 1)) (.lit (.int 2))]) (cond:=none) (J:=[.ref b,.int o]) (U:=U) (U1:=U) (vs:=[.tup (u.rows.map xm)]) (it:=.now (u.rows.map xm)) (l:=u.rows) (φ:=xm) (fun _=>true) (fun r=>V.int r.2)
  (zC (zD (xI B rfl rfl (xD hu)) (z:=.tup (u.rows.map xm)) rfl rfl) rfl) rfl (.inl rfl) (Nat.lt_of_le_of_lt hl (by decide)) (fun _ _=>rfl) (fun _ _ _=>rfl)
 rw [xA,zHM] at ec
 exact .mk acc left g (zG (fn:=zK1) rfl rfl (xf yK B rfl rfl (List.getElem?_eq_some_iff.mp (xD hu)).1 (zK (zH (zC ec rfl) er))))
theorem zNL {n:Nat} (hn:U[n]?=some (.list xs)) (h:∀ x ∈ xs,zA9 x):ev2 .ne U (.lst xs) (.ref n)=some (.bool false):=by
 obtain ⟨x,h1,h2⟩:=zND (d:=7) hn fun x hx=>zBt (d:=5) (h x hx)
 show (eqV U (.lst xs) (.ref n)).map _=_
 rw [zKt (a:=.lst xs) h2 h1 fun ys zs g1 g2=>by
  replace g2:wT U[n]?=some zs:=g2
  rw [hn] at g2; cases g1; cases g2; rfl]; rfl
theorem zSB {q:Nat} {rows:List (Str × Int)} (hq:U[q]?=some (.list (rows.map xm))):zA T09 (d+2) false 121 [.lst (rows.map xm),.ref q] U=.ok (.bool true) U:=by
 have hfl:∀ x ∈ rows.map xm,zA9 x:=fun x hx=>by obtain ⟨l,_,rfl⟩:=List.mem_map.mp hx; exact zK6 l
 obtain ⟨J',U',ef,v,rfl,rfl⟩:=xt (F:=zA T09 (d+1) false) (Fq:=zA T09 (d+1) true) (i:=2) (k:=.val) (src:=[.var 0]) (body:=match f09_121.body with
   | [_,.for _ _ _ b,_]=>b
   | _=>[]) (J:=[.lst (rows.map xm),.ref q,.undef]) (vs:=[.lst (rows.map xm)]) (U:=U) (U1:=U) (it:=.now (rows.map xm)) (xs:=rows.map xm)
  (fun _ J U'=>∃ v,J=[.lst (rows.map xm),.ref q,v] /\ U'=U) rfl rfl (fun _ _ _ _=>.inl rfl) ⟨_,rfl,rfl⟩ fun j x J U' hx hI=>by
   obtain ⟨v,rfl,rfl⟩:=hI
   rw [List.getElem?_map] at hx
   obtain ⟨w,_,rfl⟩:=Option.map_eq_some_iff.mp hx
   exact ⟨_,_,s_f (zE (zW (x:=.bool false) rfl rfl (zW (x:=.bool false) rfl rfl (zV (zH (zC (v:=.int w.2) rfl rfl) (kQ modTab09.t101 _)) rfl)))) wk,_,rfl,rfl⟩
 exact zG (fn:=f09_121) rfl rfl (s_f (zE (zW (x:=.bool false) rfl rfl (zD rfl rfl (zNL hq hfl)))) (yX ef rfl))
theorem zR8 {D:Deed} (hn:∀ ls,D ≠ .ord ls):zA T09 (d+3) false 117 [D.v,D.v] U=.ok (.bool true) U:=by
 have hw:∀ {F:Calls},evC F false (some (.p2 .ne (.p2 .index (.var 1) (.lit (.int 0))) (.lit (.str yC)))) [D.v,D.v,.undef] U=.ok true U:=by
  intro F
  cases D with
  | ord ls=>exact absurd rfl (hn ls)
  | lin w o k n=>cases w <;> rfl
  | _=>rfl
 have hv:∀ {F:Calls},evL F false [.var 0,.var 1] [D.v,D.v,.undef] U=.ok [D.v,D.v] U:=by
  intro F
  cases D <;> rfl
 exact zG (fn:=f09_117) rfl rfl (s_t hw (zK (zH hv (zQq (zIO hn)))))
theorem zQr {xs:List V} {fv gv:V} (hf:LinesOf U xs fv) (hg:LinesOf U xs gv) (hx:∀ v ∈ xs,zA9 v) (hl:xs.length <= LIM):zA T09 (d+3) false 117 [.tup [.str yC,fv],.tup [.str yC,gv]] U=.ok (.bool true) U:=by
 have a0:∀ {F:Calls} {z:V},evE F false (.p2 .index (.var 0) (.lit (.int 1))) [.tup [.str yC,fv],.tup [.str yC,gv],z] U=.ok fv U:=rfl
 have a1:∀ {F:Calls} {z:V},evE F false (.p2 .index (.var 1) (.lit (.int 1))) [.tup [.str yC,fv],.tup [.str yC,gv],z] U=.ok gv U:=rfl
 obtain ⟨J',U',ef,x2,rfl,rfl⟩:=xt (F:=zA T09 (d+2) false) (Fq:=zA T09 (d+2) true) (i:=2) (k:=.range1) (src:=[.p1 .len (.p2 .index (.var 1) (.lit (.int 1)))]) (body:=match f09_117.body with
   | [_,_,_,.for _ _ _ b,_]=>b
   | _=>[]) (J:=[.tup [.str yC,fv],.tup [.str yC,gv],.undef]) (vs:=[.int xs.length]) (U:=U) (U1:=U) (it:=.now (zY 0 xs.length)) (xs:=zY 0 xs.length)
  (fun j J U'=>∃ x2,J=[.tup [.str yC,fv],.tup [.str yC,gv],x2] /\ U'=U) (zC (zV a1 hg.len) rfl) (zg U (by rw [Int.natAbs_natCast]; exact hl)) (fun _ _ _ _=>.inl rfl) ⟨_,rfl,rfl⟩ fun j x J U' hjj hI=>by
   obtain ⟨y2,rfl,rfl⟩:=hI
   obtain ⟨rfl,hj⟩:=xR hjj
   have hv:xs[j]?=some xs[j]:=List.getElem?_eq_getElem hj
   have fl:=hx _ (List.mem_of_getElem? hv)
   generalize xs[j]=v at hv fl
   exact ⟨_,_,s_f (zE (zV (zH (zC (zD a0 rfl (hf.index hv)) (zC (zD a1 rfl (hg.index hv)) rfl)) (zQq fl)) rfl)) rfl,_,rfl,rfl⟩
 exact zG (fn:=f09_117) rfl rfl (s_f rfl (s_f rfl (s_f (zE (zW (x:=.bool false) (zV (zV a0 hf.inst) rfl) rfl (zD (zV a0 hf.len) (zV a1 hg.len) zB2))) (yX ef rfl))))
end
end Mine
end

section
namespace Mine
open PySem
section
variable {d:Nat} {q:Bool} {U:Sto} {b e h k o p m:Nat} {us us':List Or} {hs es xs:List V} {u u':Or} {n:Int} {F Fq:Calls}
theorem zGN {m:Nat} {xs:List V} {x:V} (hm:U[m]?=some (.list (xs++[x]))):zG2 U (.ref m)=.ok x (U.set m (.list xs)):=by
 show (match U[m]? with
  | some (.list xs)=>match xs[xs.length - 1]? with
   | some x=>R.ok x (U.set m (.list (xs.eraseIdx (xs.length - 1))))
   | none=>.stuck
  | _=>.stuck)=_
 rw [hm]
 have hl:(xs++[x]).length - 1=xs.length:=by rw [List.length_append]; rfl
 show (match (xs++[x])[(xs++[x]).length - 1]? with
   | some y=>R.ok y (U.set m (.list ((xs++[x]).eraseIdx ((xs++[x]).length - 1))))
   | none=>.stuck)=_
 rw [hl,List.getElem?_append_right (Nat.le_refl _),Nat.sub_self,List.eraseIdx_append_of_length_le (Nat.le_refl _),Nat.sub_self,show ([x]:List V).eraseIdx 0=[] from rfl,List.append_nil]; rfl
theorem zLW {x:V} (hm:U[m]?=some (.list (xs++[x]))):ev2 .eq U (.ref m) (.lst [])=some (.bool false):=by
 rw [zDq hm,List.length_append]; rfl
noncomputable def back (U:Sto) (e h:Nat) (es hs:List V):Sto:=(U.set h (.list hs)).set e (.list es)
theorem zDj {w:V} {es':List V} (B:BookIn U b e h es (hs++[w])):BookIn (back U e h es' hs) b e h es' hs:=(B.setH hs).setE es'
theorem zEQ {x:O} {i:Nat} {es':List V} (hn:U[i]?=some x) (h1:i ≠ e) (h2:i ≠ h):(back U e h es' hs)[i]?=some x:=zI (zI hn h2.symm) h1.symm
theorem zQJ (B:BookIn U b e h es []):zA T09 (d+1) false 9 [.ref b] U=.exc .NothingDone U:=
 zl (fn:=f09_9) rfl rfl (s_t (zE (zD (jT B rfl) rfl (zDq B.his))) zNc)
theorem zOW {x w:V} {ys:List V} (B:BookIn U b e h (es++[x]) (hs++[.tup [.tup [.str yC,.lst ys],w]])):zA T09 (d+1) q 9 [.ref b] U=.ok (.tup [.str yC,.ref (back U e h es hs).length]) (back U e h es hs++[.list ys]):=by
 have B1:=B.setH hs
 refine zG (fn:=f09_9) rfl rfl (s_f (zE (zD (jT B rfl) rfl (zLW B.his))) (zJ (v:=.tup [.tup [.str yC,.lst ys],w]) (U':=U.set h (.list hs)) ?_ (s_t (zE rfl) (yR (v:=x) (U':=back U e h es hs) ?_ (zK (yg (zC rfl (zC (v:=.ref (back U e h es hs).length) ?_ rfl))))))))
 ·rw [zHw,jT B rfl,R.bind_ok]; exact zGN B.his
 ·rw [zHw,zBk B1 rfl,R.bind_ok]; exact zGN B1.ent
 ·rw [kO,zV (x:=.lst ys) (z:=.lst ys) rfl rfl]; rfl
noncomputable def zCG:List CS:=match f09_9.body with
 | [_,_,_,.for _ _ _ b,_]=>b
 | _=>[]
theorem zLF {D:Deed} (hn:∀ ls,D ≠ .ord ls) {r w:V}:evC F q (some (.p2 .eq (.p2 .index (.p2 .index (.var 1) (.lit (.int 0))) (.lit (.int 0))) (.lit (.str yC)))) [r,.tup [D.v,w],.undef] U=.ok false U:=by
 cases D with
 | ord ls=>exact absurd rfl (hn ls)
 | lin w o k n=>cases w <;> cases q <;> rfl
 | _=>cases q <;> rfl
theorem zMw {old:List (Int × V)} {x:V} {i:Int} (hk:U[k]?=some (.dict old)) (h:(old.find? fun p=>p.1==i).map (fun p=>p.2)=some x):ev2 .index U (.ref k) (.int i)=some x:=by
 show (match U[k]? with | some (.list xs)=>(ze xs.length i).bind fun k=>xs[k]? | some (.dict es)=>(es.find? fun p=>p.1==i).map fun p=>p.2 | _=>none)=some x
 rw [hk]; exact h
theorem zBx {old:List (Int × V)} {i:Nat} (hk:U[k]?=some (.dict old)):zt U (.keys k (old.map fun q=>q.1)) i=some ((old.map fun q=>q.1)[i]?.map .int):=by
 show (match U[k]? with | some (.dict es)=>if es.map (fun q:Int × V=>q.1)=old.map (fun q:Int × V=>q.1) then some ((old.map fun q:Int × V=>q.1)[i]?.map V.int) else none | _=>none)=_
 rw [hk]
 exact if_pos rfl
theorem zAv {D:Deed} {old:List (Int × V)} {x y:V} (B:BookIn U b e h es hs) (hk:U[k]?=some (.dict old)) (h1:(old.find? fun p=>p.1==(o:Int)).map (fun p=>p.2)=some x) (ho:o < es.length) :
  exL F Fq false zCG [.ref b,.tup [D.v,.ref k],.int o] U=.ok (.next [.ref b,.tup [D.v,.ref k],.int o]) (U.set e (.list (es.set o x))):=
 zq (x:=x) (zD (zD (z:=.ref k) rfl rfl rfl) rfl (zMw hk h1)) (zBk B rfl) rfl (yQ _ B.ent ho) rfl
theorem zFb {D:Deed} {old:List (Int × V)} {J:List V} {U':Sto} (B:BookIn U b e h es (hs++[.tup [D.v,.ref k]])) (hn:∀ ls,D ≠ .ord ls) (hk:(U.set h (.list hs))[k]?=some (.dict old))
  (hf:xB (.keys k (old.map fun q=>q.1)) (fun x J U=>exL (zA T09 d false) (zA T09 d true) false zCG (J.set 2 x) U) (old.length+1) 0 [.ref b,.tup [D.v,.ref k],.undef] (U.set h (.list hs))=.ok (.next J) U') (hr:evE (zA T09 d false) false (.p2 .index (.var 1) (.lit (.int 0))) J U'=.ok D.v U') :
  zA T09 (d+1) false 9 [.ref b] U=.ok D.v U':=by
 have hs1:exS (zA T09 d false) (zA T09 d true) false (.for 2 .val [.p2 .index (.var 1) (.lit (.int 1))] zCG) [.ref b,.tup [D.v,.ref k],.undef] (U.set h (.list hs))=.ok (.next J) U':=by
  rw [zOY,zC (v:=.ref k) (vs:=[]) (zD rfl rfl rfl) rfl,R.bind_ok]
  have hi:yd false (U.set h (.list hs)) .val [.ref k]=some (.keys k (old.map fun q=>q.1)):=by
   show kG k (U.set h (.list hs))[k]?=_
   rw [hk]; rfl
  rw [hi,R.lift_some,R.bind_ok]
  show xB _ _ ((old.map fun q=>q.1).length+1) 0 _ _=_
  rw [List.length_map]; exact hf
 refine zG (fn:=f09_9) rfl rfl (s_f (zE (zD (jT B rfl) rfl (zLW B.his))) (zJ (v:=.tup [D.v,.ref k]) (U':=U.set h (.list hs)) ?_ (s_f (zLF hn) (yX hs1 (zK hr)))))
 rw [zHw,jT B rfl,R.bind_ok]; exact zGN B.his
theorem kK {α:Type} {l:List α} {i:Nat} {x:α} (h:l[i]?=some x):l.set i x=l:=by
 obtain ⟨hl,e⟩:=List.getElem?_eq_some_iff.mp h
 rw [<- e]; exact List.set_getElem_self hl
theorem zEo {o:Nat} {x:V} {r:List (Int × V)}:((((o:Int),x) :: r).find? fun p=>p.1==(o:Int)).map (fun p=>p.2)=some x:=by
 rw [List.find?_cons_of_pos (by exact beq_self_eq_true _)]; rfl
theorem zK4 {o p:Nat} {x y:V} (hop:o ≠ p):([((o:Int),x),((p:Int),y)].find? fun q=>q.1==(p:Int)).map (fun p=>p.2)=some y:=by
 rw [List.find?_cons_of_neg (by rw [beq_iff_eq]; exact fun q=>hop (Int.ofNat.inj q)),List.find?_cons_of_pos (by exact beq_self_eq_true _)]; rfl
theorem zRs {D:Deed} {old:List (Int × V)} (B:BookIn U b e h (us'.map Or.v) (hs++[.tup [D.v,.ref k]])) (hn:∀ ls,D ≠ .ord ls) (hk:U[k]?=some (.dict old)) (ho:Old us us' old) (he:k ≠ e) (hh:k ≠ h) :
  zA T09 (d+1) false 9 [.ref b] U=.ok D.v (back U e h (us.map Or.v) hs):=by
 have B1:=B.setH hs
 have k1:(U.set h (.list hs))[k]?=some (.dict old):=zI hk hh.symm
 cases ho with
 | one o u u1 hu e1 =>
  have hlt:=(List.getElem?_eq_some_iff.mp hu).1
  have ee:(us'.map Or.v).set o u.v=us.map Or.v:=by rw [e1,List.map_set,List.set_set]; exact kK (xD hu)
  have k2:((U.set h (.list hs)).set e (.list (us.map Or.v)))[k]?=some (.dict [((o:Int),u.v)]):=zI k1 he.symm
  have b1:=zAv (F:=zA T09 d false) (Fq:=zA T09 d true) (D:=D) (y:=.none) B1 k1 zEo (o:=o) (by rw [List.length_map,e1,List.length_set]; exact hlt)
  rw [ee] at b1
  refine zFb (J:=[.ref b,.tup [D.v,.ref k],.int o]) B hn k1 ?_ rfl
  exact (zAw (x:=.int o) ((zBx k1).trans rfl) b1).trans (zCK ((zBx k2).trans rfl))
 | two o p u u' u1 u2 hu hu' hop e1 =>
  have hlt:=(List.getElem?_eq_some_iff.mp hu).1
  have hlt':=(List.getElem?_eq_some_iff.mp hu').1
  have ee:((us'.map Or.v).set o u.v).set p u'.v=us.map Or.v:=by
   rw [e1,List.map_set,List.map_set,List.set_comm _ _ hop.symm,List.set_set,List.set_set,List.set_comm _ _ hop,kK (xD hu'),kK (xD hu)]
  have B2:=B1.setE ((us'.map Or.v).set o u.v)
  have k2:((U.set h (.list hs)).set e (.list ((us'.map Or.v).set o u.v)))[k]?=some (.dict [((o:Int),u.v),((p:Int),u'.v)]):=zI k1 he.symm
  have k3:((U.set h (.list hs)).set e (.list (us.map Or.v)))[k]?=some (.dict [((o:Int),u.v),((p:Int),u'.v)]):=zI k1 he.symm
  have b1:=zAv (F:=zA T09 d false) (Fq:=zA T09 d true) (D:=D) (y:=.none) B1 k1 zEo (o:=o) (by rw [List.length_map,e1,List.length_set,List.length_set]; exact hlt)
  have b2:=zAv (F:=zA T09 d false) (Fq:=zA T09 d true) (D:=D) (y:=.none) B2 k2 (zK4 hop) (o:=p) (by rw [List.length_set,List.length_map,e1,List.length_set,List.length_set]; exact hlt')
  rw [ee,List.set_set] at b2
  refine zFb (J:=[.ref b,.tup [D.v,.ref k],.int p]) B hn k1 ?_ rfl
  exact (zAw (x:=.int o) ((zBx k1).trans rfl) b1).trans ((zAw (x:=.int p) ((zBx k2).trans rfl) b2).trans (zCK ((zBx k3).trans rfl)))
end
end Mine
end

section
namespace Mine
open PySem
section
variable {d:Nat} {q:Bool} {U U':Sto} {b e h k o p m:Nat} {us us':List Or} {hs es xs:List V} {u u':Or} {n:Int} {F Fq:Calls} {ls:List Ln} {lv:V}
theorem zQp {D:Deed} (hn:∀ ls,D ≠ .ord ls):zA T09 (d+1) false 113 [D.v] U=.ok D.v U:=by
 cases D with
 | ord ls=>exact absurd rfl (hn ls)
 | lin w o k n=>cases w <;> rfl
 | _=>rfl
theorem zNt (h:LinesOf U xs lv):zA T09 (d+1) false 113 [.tup [.str yC,lv]] U=.ok (.tup [.str yC,.ref U.length]) (U++[.list xs]):=by
 refine zG (fn:=zHD) rfl rfl (s_t rfl (zK (yg (zC rfl (zC (v:=.ref U.length) ?_ rfl)))))
 rw [kO,zV (x:=lv) (z:=.lst xs) rfl h.list]; rfl
noncomputable def zD4:List CS:=match fB_22.body with
 | [_,.for _ _ _ b]=>b
 | _=>[]
theorem c22 (hm:U[m]?=some (.list (ls.map Ln.raw))) (h1:1 <= ls.length) (h2:ls.length <= 20) (hg:∀ l ∈ ls,l.good):zA T09 (d+2) false 22 [.ref m] U=.ok .none U:=by
 obtain ⟨J',U',e,x,rfl,rfl⟩:=xt (F:=zA T09 (d+1) false) (Fq:=zA T09 (d+1) true) (i:=1) (k:=.val) (src:=[.var 0]) (J:=[.ref m,.undef]) (vs:=[.ref m]) (U:=U) (U1:=U) (it:=.live m) (xs:=ls.map Ln.raw) (body:=zD4)
  (fun _ J U'=>∃ x,J=[.ref m,x] /\ U'=U) rfl (yu U hm) (fun _ _ _ hI=>by obtain ⟨_,_,rfl⟩:=hI; exact .inr ⟨m,rfl,hm⟩) ⟨_,rfl,rfl⟩ fun j x J U' hx hI=>by
   obtain ⟨y,rfl,rfl⟩:=hI
   rw [List.getElem?_map] at hx
   obtain ⟨l,hl,rfl⟩:=map_some hx
   have g:=hg l (List.mem_of_getElem? hl)
   refine ⟨[.ref m,l.raw],U',?_,_,rfl,rfl⟩
   exact s_f (zE (zV (zH rfl (zOv yK g.item g.asc)) rfl)) (s_f (zE (zW (wl g.ok.p1 g.ok.p2 rfl rfl rfl) rfl (zW (wl g.ok.c1 g.ok.c2 rfl rfl rfl) rfl (wl g.ok.k1 g.ok.k2 rfl rfl rfl)))) rfl)
 exact xe (fn:=fB_22) (J:=[.ref m,x]) rfl rfl (s_f (zE (wl (x:=(ls.length:Int)) (Int.ofNat_le.mpr h1) (Int.ofNat_le.mpr h2) rfl (zV rfl (by rw [wO _ hm,List.length_map])) rfl)) (yX e rfl))
noncomputable def ye (U:Sto) (e h:Nat) (es hs:List V) (ls:List Ln):Sto:=yi (U.set e (.list (es++[(xZ ls).v]))) h hs (dO ls) []
theorem c3 (B:BookIn U b e h es hs) (hm:U[m]?=some (.list (ls.map Ln.raw))) (hne:e ≠ m) (h1:1 <= ls.length) (h2:ls.length <= 20) (hg:∀ l ∈ ls,l.good) (he:es.length < 40) (hh:hs.length < LIM) :
  zA T09 (d+3) false 3 [.ref b,.ref m] U=.ok (.ref (ye U e h es hs ls).length) (ye U e h es hs ls++[.list []]):=by
 have B1:=B.setE (es++[(xZ ls).v])
 have m1:(U.set e (.list (es++[(xZ ls).v])))[m]?=some (.list (ls.map Ln.raw)):=zI hm hne
 refine zG (fn:=zM3 true) rfl rfl ?_
 refine yR (zH rfl (c22 hm h1 h2 hg)) ?_
 refine s_f (zE (t:=false) (zD (zBl B rfl) rfl (by rw [zPR,decide_eq_false (show ¬ ((es.length:Int) >= 40) from Int.not_le.mpr (Int.ofNat_lt.mpr he))]))) ?_
 have ec:=yh (F:=zA T09 (d+2) false) (elt:=.call 23 [.var 2]) (k:=.val) (src:=[.var 1]) (cond:=none) (J:=[.ref b,.ref m]) (U:=U) (l:=ls) (φ:=Ln.raw) (fun _=>true) (fun l=>l.fresh.v) rfl (yu U hm) (.inr ⟨m,rfl,hm⟩) (Nat.lt_of_le_of_lt h2 (by decide)) (fun _ _=>rfl) (fun l _ _=>zH rfl (zMf yK))
 rw [xA,show ls.map (fun l=>l.fresh.v)=(ls.map Ln.fresh).map Ln.v by rw [List.map_map]; rfl] at ec
 refine yR (U':=U.set e (.list (es++[(xZ ls).v]))) (yU (zBk B rfl) (isL B.ent) (yg (zC (zV (z:=.tup ((ls.map Ln.fresh).map Ln.v)) ec rfl) rfl)) (yB _ B.ent (Nat.lt_trans he (by decide)))) ?_
 exact yR (yU (jT B1 rfl) (isL B1.his) (yg (zC (v:=dO ls) (yg (zC rfl (zC (zV (x:=.ref m) rfl (LinesOf.ref m m1).list) rfl))) (zC rfl rfl))) (yB _ (B1.push _).his hh)) (zK (zCZ (t:=true) (vs:=[]) rfl))
theorem c2o (B:BookIn U b e h es hs) (hm:U[m]?=some (.list (ls.map Ln.raw))) (hne:e ≠ m) (h1:1 <= ls.length) (h2:ls.length <= 20) (hg:∀ l ∈ ls,l.good) (he:es.length < 40) (hh:hs.length < LIM) :
  zA T09 (d+4) false 2 [.ref b,.tup [.str yC,.ref m]] U=.ok (.ref (ye U e h es hs ls).length) (ye U e h es hs ls++[.list []]):=
 zG (fn:=fB_2) rfl rfl (s_f rfl (s_t rfl (zK (zQ rfl B.isInst rfl (c3 B hm hne h1 h2 hg he hh)))))
noncomputable def Kept (P:List Nat) (U U':Sto):Prop:=∀ (n:Nat) (x:O),n ∉ P->U[n]?=some x->U'[n]?=some x
theorem Kept.refl {P:List Nat} (U:Sto):Kept P U U:=fun _ _ _ h=>h
theorem Kept.trans {P:List Nat} {U1 U2 U3:Sto} (a:Kept P U1 U2) (b:Kept P U2 U3):Kept P U1 U3:=fun n x hn h=>b n x hn (a n x hn h)
theorem Kept.mono {P Q:List Nat} (a:Kept P U U') (h:∀ n ∈ P,n ∈ Q):Kept Q U U':=fun n x hn hx=>a n x (fun m=>hn (h n m)) hx
theorem Kept.push {P:List Nat} (a:Kept P U U') (x:Sto):Kept P U (U'++x):=fun n y hn h=>by
 have:=a n y hn h
 rw [List.getElem?_append_left (List.getElem?_eq_some_iff.mp this).1]; exact this
inductive LinesP (P:List Nat) (U:Sto) (raws:List V):V->Prop
 | lst:LinesP P U raws (.lst raws)
 | ref (k:Nat) (h:U[k]?=some (.list raws)) (hp:k ∉ P):LinesP P U raws (.ref k)
theorem LinesP.of {P:List Nat} (L:LinesP P U xs lv):LinesOf U xs lv:=by
 cases L with
 | lst=>exact .lst
 | ref k h hp=>exact .ref k h
noncomputable def zBX (P Q:List Nat) (U U':Sto):Prop:=∀ (n:Nat) (x:O),n ∉ P->U[n]?=some x->n ∉ Q /\ U'[n]?=some x
theorem Kept.two {P:List Nat} (k:Kept P U U'):zBX P P U U':=fun n x hn h=>⟨hn,k n x hn h⟩
theorem LinesP.keep {P Q:List Nat} (L:LinesP P U xs lv) (k:zBX P Q U U'):LinesP Q U' xs lv:=by
 cases L with
 | lst=>exact .lst
 | ref n h hp=>exact .ref n (k n _ hp h).2 (k n _ hp h).1
inductive DeedP (P:List Nat) (U:Sto):Deed->V->Prop
 | ord (ls:List Ln) (lv:V) (h:LinesP P U (ls.map Ln.raw) lv):DeedP P U (.ord ls) (.tup [.str yC,lv])
 | oth (D:Deed) (hn:∀ ls,D ≠ .ord ls):DeedP P U D D.v
theorem DeedP.keep {P Q:List Nat} {D:Deed} {dv:V} (L:DeedP P U D dv) (k:zBX P Q U U'):DeedP Q U' D dv:=by
 cases L with
 | ord ls lv h=>exact .ord ls lv (h.keep k)
 | oth D hn=>exact .oth D hn
theorem DeedP.at {P:List Nat} {D:Deed} {dv:V} (L:DeedP P U D dv):DeedAt U D dv:=by
 cases L with
 | ord ls lv h=>exact .ord ls lv h.of
 | oth D hn=>exact .oth D hn
inductive Chain (P:List Nat) (U:Sto):List Deed->List V->List V->List Or->Prop
 | nil:Chain P U [] [] [] []
 | ord (ls:List Ln) (m:Nat) (dv:V) (Dr:List Deed) (hr vr:List V) (us:List Or) (C:Chain P U Dr hr vr us) (hf:(Deed.ord ls).fit us) (hd:DeedP P U (.ord ls) dv):Chain P U (.ord ls :: Dr) (.tup [dO ls,.ref m] :: hr) (dv :: vr) (us++[xZ ls])
 | oth (D:Deed) (m:Nat) (dv:V) (Dr:List Deed) (hr vr:List V) (us us':List Or) (out:List (Int × Int)) (old:List (Int × V)) (C:Chain P U Dr hr vr us) (hn:∀ ls,D ≠ .ord ls) (S:Step us D us' out) (ho:Old us us' old) (hm:U[m]?=some (.dict old)) (hp:m ∉ P) (hd:DeedP P U D dv):Chain P U (D :: Dr) (.tup [D.v,.ref m] :: hr) (dv :: vr) us'
inductive ChI (P:List Nat) (U:Sto) (D:Deed) (Dr:List Deed) (hr:List V) (dv:V) (vr:List V) (us':List Or):Prop
 | ord (ls:List Ln) (m:Nat) (hr':List V) (us:List Or) (hD:D=.ord ls) (eh:hr=.tup [dO ls,.ref m] :: hr') (C:Chain P U Dr hr' vr us) (eu:us'=us++[xZ ls]) (hl:ls.length <= 20) (hd:DeedP P U D dv)
 | oth (m:Nat) (hr':List V) (us:List Or) (old:List (Int × V)) (eh:hr=.tup [D.v,.ref m] :: hr') (C:Chain P U Dr hr' vr us) (hn:∀ ls,D ≠ .ord ls) (ho:Old us us' old) (hm:U[m]?=some (.dict old)) (hp:m ∉ P) (hd:DeedP P U D dv)
noncomputable def ChP (P:List Nat) (U:Sto):List Deed->List V->List V->List Or->Prop
 | D :: Dr,hr,dv :: vr,us=>ChI P U D Dr hr dv vr us
 | _,_,_,_=>True
theorem Chain.inv {P:List Nat} {Dr:List Deed} {hr vr:List V} (C:Chain P U Dr hr vr us):ChP P U Dr hr vr us:=by
 cases C with
 | nil=>exact trivial
 | ord ls m dv Dr hr vr us C hf hd=>exact .ord ls m hr us rfl rfl C rfl hf.2.1 hd
 | oth D m dv Dr hr vr us us' out old C hn S ho hm hp hd=>exact .oth m hr us old rfl C hn ho hm hp hd
theorem Chain.keep {P Q:List Nat} {Dr:List Deed} {hr vr:List V} (C:Chain P U Dr hr vr us) (k:zBX P Q U U'):Chain Q U' Dr hr vr us:=by
 induction C with
 | nil=>exact .nil
 | ord ls m dv Dr hr vr us C hf hd ih=>exact .ord ls m dv Dr hr vr us ih hf (hd.keep k)
 | oth D m dv Dr hr vr us us' out old C hn S ho hm hp hd ih=>exact .oth D m dv Dr hr vr us us' out old ih hn S ho (k m _ hp hm).2 (k m _ hp hm).1 (hd.keep k)
theorem Step.nonempty {us us':List Or} {D:Deed} {out:List (Int × Int)} (S:Step us D us' out) (hf:D.fit us) (h:∀ u ∈ us,1 <= u.lines.length):∀ u ∈ us',1 <= u.lines.length:=fun v hv=>by
 cases S with
 | ord ls =>
  rcases List.mem_append.mp hv with hv | hv
  ·exact h v hv
  ·rw [List.mem_singleton.mp hv]; show 1 <= (ls.map Ln.fresh).length; rw [List.length_map]; exact hf.1
 | pay o n u hu h1 =>
  rcases zd hv with hv | rfl
  ·exact h v hv
  ·exact h u (List.mem_of_getElem? hu)
 | ref o n u hu h1 h2 =>
  rcases zd hv with hv | rfl
  ·exact h v hv
  ·exact h u (List.mem_of_getElem? hu)
 | mov o p n u u' hu hu' hop h1 h2 =>
  rcases zd hv with hv | rfl
  ·rcases zd hv with hv | rfl
   ·exact h v hv
   ·exact h u (List.mem_of_getElem? hu)
  ·exact h u' (List.mem_of_getElem? hu')
 | lin w o k n u l hu hl h1 h2 =>
  rcases zd hv with hv | rfl
  ·exact h v hv
  ·show 1 <= (u.lines.set k _).length; rw [List.length_set]; exact h u (List.mem_of_getElem? hu)
theorem Old.len {old:List (Int × V)} (x:Old us us' old):us'.length=us.length:=by
 cases x with
 | one o u u1 hu e=>rw [e,List.length_set]
 | two o p u u' u1 u2 hu hu' hop e=>rw [e,List.length_set,List.length_set]
structure Sure (us:List Or) (n:Nat):Prop where
 inv:∀ u ∈ us,u.inv
 one:∀ u ∈ us,1 <= u.lines.length
 rows:∀ u ∈ us,u.rows.length <= n
 len:us.length <= n
theorem Sure.ok {n:Nat} (x:Sure us n):∀ u ∈ us,u.ok:=fun u hu=>(x.inv u hu).ok
theorem Sure.step {n:Nat} {D:Deed} {out:List (Int × Int)} (x:Sure us n) (S:Step us D us' out) (hf:D.fit us) (hl:us'.length <= n+1):Sure us' (n+1):=
 ⟨S.inv hf x.inv,S.nonempty hf x.one,S.rows x.rows,hl⟩
theorem Chain.sure {P:List Nat} {Dr:List Deed} {hr vr:List V} (C:Chain P U Dr hr vr us):Sure us Dr.length /\ hr.length=Dr.length /\ vr.length=Dr.length:=by
 induction C with
 | nil=>exact ⟨⟨fun _ h=>(nomatch h),fun _ h=>(nomatch h),fun _ h=>(nomatch h),Nat.le_refl 0⟩,rfl,rfl⟩
 | ord ls m dv Dr hr vr us C hf hd ih=>exact ⟨ih.1.step (.ord ls) hf (by rw [List.length_append]; exact Nat.succ_le_succ ih.1.len),congrArg Nat.succ ih.2.1,congrArg Nat.succ ih.2.2⟩
 | oth D m dv Dr hr vr us us' out old C hn S ho hm hp hd ih=>exact ⟨ih.1.step S (Deed.fit_of hn) (by rw [ho.len]; exact Nat.le_succ_of_le ih.1.len),congrArg Nat.succ ih.2.1,congrArg Nat.succ ih.2.2⟩
end
end Mine
end

section
namespace Mine
open PySem
inductive BkI (P:List Nat) (U:Sto) (b e h:Nat) (Dr:List Deed) (vr:List V) (us:List Or):Prop
 | mk (hr:List V) (B:BookIn U b e h (us.map Or.v) hr.reverse) (C:Chain P U Dr hr vr us)
inductive zKJ (U:Sto) (e:Nat):Deed->V->Prop
 | ord (ls:List Ln) (m:Nat) (hm:U[m]?=some (.list (ls.map Ln.raw))) (hne:e ≠ m):zKJ U e (.ord ls) (.tup [.str yC,.ref m])
 | oth (D:Deed) (hn:∀ ls,D ≠ .ord ls):zKJ U e D D.v
inductive zQX (P:List Nat) (U:Sto) (b e h:Nat) (Dr:List Deed) (vr:List V) (us:List Or) (D:Deed) (r:R V):Prop
 | no (c:Cls) (er:r=.exc c U) (he:D.err us=some c)
 | yes (U':Sto) (us':List Or) (out:List (Int × Int)) (er:r=.ok (.ref U'.length) (U'++[.list (chL out)])) (he:D.err us=none) (I:∀ dv,DeedP P U' D dv->BkI P U' b e h (D :: Dr) (dv :: vr) us') (kp:Kept [e,h] U U') (hf:out.length <= 2)
inductive zOl (P:List Nat) (U:Sto) (b e h:Nat) (D:Deed) (Dr:List Deed) (vr:List V) (r:R V):Prop
 | ord (U':Sto) (us:List Or) (ls:List Ln) (hD:D=.ord ls) (er:r=.ok (.tup [.str yC,.ref U'.length]) (U'++[.list (ls.map Ln.raw)])) (I:BkI P U' b e h Dr vr us) (kp:Kept [e,h] U U') (hl:ls.length <= 20)
 | oth (U':Sto) (us:List Or) (hn:∀ ls,D ≠ .ord ls) (er:r=.ok D.v U') (I:BkI P U' b e h Dr vr us) (kp:Kept [e,h] U U')
section
variable {d:Nat} {U U':Sto} {b e h m:Nat} {us us':List Or} {P Q:List Nat} {Dr:List Deed} {vr:List V} {D:Deed} {dv hv:V}
theorem BkI.keep (I:BkI P U b e h Dr vr us) (k:zBX P Q U U') (kb:∀ (n:Nat) (x:O),n=b \/ n=e \/ n=h->U[n]?=some x->U'[n]?=some x):BkI Q U' b e h Dr vr us:=by
 obtain ⟨hr,B,C⟩:=I
 exact ⟨hr,⟨kb b _ (.inl rfl) B.inst,kb e _ (.inr (.inl rfl)) B.ent,kb h _ (.inr (.inr rfl)) B.his,B.ne⟩,C.keep k⟩
theorem zAu {e h:Nat} (he:e ∈ P) (hh:h ∈ P):∀ n ∈ [e,h],n ∈ P:=fun n hn=>(List.mem_cons.mp hn).elim (fun q=>q ▸ he) fun q=>List.mem_singleton.mp q ▸ hh
theorem zMt (I:BkI P U b e h Dr vr us) (heP:e ∈ P) (hhP:h ∈ P) (hP:∀ n ∈ P,n < U.length) (hl:Dr.length < LIM) (hf:D.fit us) (H:zKJ U e D hv):zQX P U b e h Dr vr us D (zA T09 (d+6) false 2 [.ref b,hv] U):=by
 obtain ⟨hr,B,C⟩:=I
 obtain ⟨x,lh,_⟩:=C.sure
 have hh:hr.reverse.length < LIM:=by rw [List.length_reverse,lh]; exact hl
 cases H with
 | ord ls m hm hne =>
  have hfit:=hf
  obtain ⟨h1,h2,h3,h4⟩:=hf
  have kp:Kept [e,h] U (ye U e h (us.map Or.v) hr.reverse ls):=fun n x hn hx=>by
   have he:n ≠ e:=fun q=>hn (q ▸ List.mem_cons_self)
   have hh:n ≠ h:=fun q=>hn (q ▸ List.mem_cons_of_mem _ (List.mem_singleton.mpr rfl))
   exact zI (zX (zI hx he.symm)) hh.symm
  refine .yes _ (us++[xZ ls]) [] (c2o (d:=d+2) B hm hne h1 h2 h3 (by rw [List.length_map]; exact h4) hh) rfl (fun dv hd=>?_) kp (by simp)
  refine ⟨_ :: hr,?_,.ord ls (U.set e (.list (us.map Or.v++[(xZ ls).v]))).length dv Dr hr vr us (C.keep (kp.mono (zAu heP hhP)).two) hfit hd⟩
  rw [List.reverse_cons,List.map_append]
  exact ((B.setE _).push _).setH _
 | oth _ hn =>
  cases zRF (d:=d) yK B x.ok (fun u hu=>Nat.lt_of_le_of_lt (x.rows u hu) hl) hh D hn with
  | no c er he=>exact .no c er he
  | yes U' us' out old er he S B' hm ho hk =>
   have kp:Kept [e,h] U U':=fun n x hn hx=>hk n x (fun q=>hn (q ▸ List.mem_cons_self)) (fun q=>hn (q ▸ List.mem_cons_of_mem _ (List.mem_singleton.mpr rfl))) hx
   refine .yes U' us' out er he (fun dv hd=>⟨_ :: hr,?_,.oth D U.length dv Dr hr vr us us' out old (C.keep (kp.mono (zAu heP hhP)).two) hn S ho hm (fun q=>absurd (hP _ q) (Nat.lt_irrefl _)) hd⟩) kp S.few
   rw [List.reverse_cons]; exact B'
theorem kept_back {es hs:List V}:Kept [e,h] U (back U e h es hs):=fun n x hn hx=>zEQ hx (fun q=>hn (q ▸ List.mem_cons_self)) (fun q=>hn (q ▸ List.mem_cons_of_mem _ (List.mem_singleton.mpr rfl)))
theorem zPJ (I:BkI P U b e h (D :: Dr) (dv :: vr) us') (heP:e ∈ P) (hhP:h ∈ P):zOl P U b e h D Dr vr (zA T09 (d+1) false 9 [.ref b] U):=by
 obtain ⟨hr,B,C⟩:=I
 cases C.inv with
 | ord ls m hr us hD eh C eu hl hd =>
  rw [eh,eu,List.reverse_cons,List.map_append] at B
  exact .ord _ us ls hD (zOW B) ⟨hr,zDj (es:=us.map Or.v++[(xZ ls).v]) B,C.keep (kept_back.mono (zAu heP hhP)).two⟩ kept_back hl
 | oth m hr us old eh C hn ho hm hp hd =>
  rw [eh,List.reverse_cons] at B
  exact .oth _ us hn (zRs B hn hm ho (fun q=>hp (q ▸ heP)) fun q=>hp (q ▸ hhP)) ⟨hr,zDj B,C.keep (kept_back.mono (zAu heP hhP)).two⟩ kept_back
end
noncomputable def Deed.w:Deed->Str
 | .ord _=>yC
 | .pay _ _=>wM
 | .ref _ _=>jz
 | .mov _ _ _=>yb
 | .lin w _ _ _=>w.s
noncomputable def zQ1:V:=.tup [.str { cps:=#[99,117,112] },.int 1,.int 1,.int 1]
inductive zKI (P:List Nat) (U:Sto) (b e h:Nat) (Dr:List Deed) (vr:List V) (us:List Or) (D:Deed) (dv:V) (r:R V):Prop
 | no (v:V) (er:r=.ok v U) (c:Cls) (he:D.err us=some c)
 | yes (U':Sto) (us':List Or) (v:V) (er:r=.ok v U') (he:D.err us=none) (I:BkI P U' b e h (D :: Dr) (dv :: vr) us') (kp:Kept [e,h] U U')
section
variable {d:Nat} {U U':Sto} {b e h m:Nat} {us us':List Or} {P Q:List Nat} {Dr:List Deed} {vr:List V} {D:Deed} {dv hv:V}
theorem BkI.lt (I:BkI P U b e h Dr vr us):b < U.length /\ e < U.length /\ h < U.length:=by
 obtain ⟨hr,B,C⟩:=I
 exact ⟨(List.getElem?_eq_some_iff.mp B.inst).1,(List.getElem?_eq_some_iff.mp B.ent).1,(List.getElem?_eq_some_iff.mp B.his).1⟩
theorem BkI.isInst (I:BkI P U b e h Dr vr us):isInst U (.ref b)=true:=by
 obtain ⟨hr,B,C⟩:=I
 exact B.isInst
theorem alive {n:Nat} {x:O} (h:U[n]?=some x):n < U.length:=(List.getElem?_eq_some_iff.mp h).1
noncomputable def done3:List CS:=f09_129.body.drop 2
theorem zG7 {F Fq:Calls} {out:List V} {r:R Fl} (hl:out.length < LIM) (k:exL F Fq false (done3.drop 1) [.ref b,dv,hv,.ref U.length] (U++[.list (out++[.tup [.int 0,.int 9]])])=r) :
  exL F Fq false done3 [.ref b,dv,hv,.ref U.length] (U++[.list out])=r:=by
 refine s_t (zE (zV (x:=.ref U.length) rfl (by rw [jG,zBv _ vG]; rfl))) (yR (yU (x:=.ref U.length) rfl (isL vG) rfl (yB _ vG hl)) ?_)
 rw [zBR]; exact k
theorem Deed.varV {F:Calls} {J:List V} {i:Nat} (h:J[i]?=some D.v):evE F false (.var i) J U=.ok D.v U:=by
 rw [zv]; unfold zN; rw [h]; cases D <;> rfl
theorem Deed.notO {F:Calls} {J:List V} {i:Nat} (hn:∀ ls,D ≠ .ord ls) (h:J[i]?=some D.v):evC F false (some (.p2 .eq (.p2 .index (.var i) (.lit (.int 0))) (.lit (.str yC)))) J U=.ok false U:=by
 have e:ev2 .index U D.v (.int 0)=some (.str D.w):=by cases D <;> rfl
 refine zE (zD (zD (Deed.varV h) rfl e) rfl ?_)
 cases D with
 | ord ls=>exact absurd rfl (hn ls)
 | lin w o k n=>cases w <;> rfl
 | _=>rfl
theorem zM5 {F Fq:Calls} {S:Sto} {xs:List V} {lv v3:V} (m3:S[m]?=some (.list xs)) (ll:xs.length < LIM):exL F Fq false (done3.drop 1) [.ref b,.tup [.str yC,lv],.tup [.str yC,.ref m],v3] S=.ok (.ret (.tup [.str yC,.ref m])) (S.set m (.list (xs++[zQ1]))):=
 s_t rfl (yR (yU (x:=.ref m) rfl (isL m3) rfl (yB _ m3 ll)) (zK rfl))
theorem BkI.free (I:BkI (m :: P) U b e h Dr vr us) (nb:b ≠ m) (ne:e ≠ m) (nh:h ≠ m) (x:O):BkI P (U.set m x) b e h Dr vr us:=
 I.keep (fun n y hn hy=>⟨fun q=>hn (List.mem_cons_of_mem _ q),zI hy fun q=>hn (q ▸ List.mem_cons_self)⟩) fun n y hn hy=>zI hy fun q=>hn.elim (fun z=>nb (z.symm.trans q.symm)) fun hn=>hn.elim (fun z=>ne (z.symm.trans q.symm)) fun z=>nh (z.symm.trans q.symm)
theorem zQw {ls:List Ln} {lv:V} (I:BkI P U b e h Dr vr us) (heP:e ∈ P) (hhP:h ∈ P) (hP:∀ n ∈ P,n < U.length) (hl:Dr.length < LIM) (hf:(Deed.ord ls).fit us) (L:LinesP P U (ls.map Ln.raw) lv):zKI P U b e h Dr vr us (.ord ls) (.tup [.str yC,lv]) (zA T09 (d+8) false 129 [.ref b,.tup [.str yC,lv]] U):=by
 obtain ⟨lb,le,lh⟩:=I.lt
 have e1:=zNt (d:=d+6) L.of
 have hm:(U++[.list (ls.map Ln.raw)])[U.length]?=some (.list (ls.map Ln.raw)):=vG
 have k1:zBX P (U.length :: P) U (U++[.list (ls.map Ln.raw)]):=fun n x hn hx=>⟨fun q=>(List.mem_cons.mp q).elim (fun q=>absurd (alive hx) (q ▸ Nat.lt_irrefl _)) hn,zX hx⟩
 have I1:=I.keep k1 fun n x _ hx=>zX hx
 have d1:=(DeedP.ord ls lv L).keep k1
 have hP1:∀ n ∈ U.length :: P,n < (U++[O.list (ls.map Ln.raw)]).length:=fun n hn=>by
  rw [List.length_append]
  exact (List.mem_cons.mp hn).elim (fun q=>q ▸ Nat.lt_succ_self _) fun q=>Nat.lt_succ_of_lt (hP n q)
 have kk:∀ (n:Nat) (x:O),U[n]?=some x->(U++[.list (ls.map Ln.raw)])[n]?=some x:=fun n x hx=>zX hx
 generalize U++[O.list (ls.map Ln.raw)]=U1 at e1 hm k1 I1 d1 hP1 kk
 have hp2:=zAu (P:=U.length :: P) (List.mem_cons_of_mem _ heP) (List.mem_cons_of_mem _ hhP)
 cases zMt (d:=d) I1 (List.mem_cons_of_mem _ heP) (List.mem_cons_of_mem _ hhP) hP1 hl hf (.ord ls U.length hm (Nat.ne_of_lt le)) with
 | no c er he=>cases he
 | yes U2 us' out er he I2 kp hf2 =>
  have m2:=kp _ _ (fun q=>(List.mem_cons.mp q).elim (fun q=>Nat.ne_of_lt le q.symm) fun q=>Nat.ne_of_lt lh (List.mem_singleton.mp q).symm) hm
  have I3:=(I2 _ (d1.keep (kp.mono hp2).two)).keep (U':=U2++[.list (chL out++[.tup [.int 0,.int 9]])]) (fun n x hn hx=>⟨hn,zX hx⟩) fun n x _ hx=>zX hx
  have lo:(chL out).length < LIM:=by rw [show (chL out).length=out.length from List.length_map _]; exact Nat.lt_of_le_of_lt hf2 (by decide)
  have ll:(ls.map Ln.raw).length < LIM:=by rw [List.length_map]; exact Nat.lt_of_le_of_lt hf.2.1 (by decide)
  refine .yes _ us' _ (zG (fn:=f09_129) rfl rfl (zJ (zH rfl e1) (zJ (zH rfl (zHJ (d:=d+6) (k:=114) (T:=T09) rfl I1.isInst er rfl)) (zG7 lo (zM5 (zX m2) ll))))) he (I3.free (Nat.ne_of_lt lb) (Nat.ne_of_lt le) (Nat.ne_of_lt lh) _) fun n x hn hx=>zI (zX (kp n x hn (kk n x hx))) fun q=>absurd (alive hx) (q ▸ Nat.lt_irrefl _)
theorem zQv (I:BkI P U b e h Dr vr us) (heP:e ∈ P) (hhP:h ∈ P) (hP:∀ n ∈ P,n < U.length) (hl:Dr.length < LIM) (hn:∀ ls,D ≠ .ord ls):zKI P U b e h Dr vr us D D.v (zA T09 (d+8) false 129 [.ref b,D.v] U):=by
 have e1:=zQp (d:=d+6) (U:=U) hn
 have hi:=I.isInst
 cases zMt (d:=d) I heP hhP hP hl (Deed.fit_of hn) (.oth D hn) with
 | no c er he=>exact .no D.v (zG (fn:=f09_129) rfl rfl (zJ (zH (zC (Deed.varV rfl) rfl) e1) (zJ (zH (zC rfl (zC (Deed.varV rfl) rfl)) (zLA (d:=d+6) (k:=114) (T:=T09) rfl hi (Deed.told he) er Deed.read)) (s_f rfl (s_f (Deed.notO hn rfl) (zK (Deed.varV rfl))))))) c he
 | yes U2 us' out er he I2 kp hf2 =>
  refine .yes (U2++[O.list (chL out++[V.tup [.int 0,.int 9]])]) us' _ (zG (fn:=f09_129) rfl rfl (zJ (zH (zC (Deed.varV rfl) rfl) e1) (zJ (zH (zC rfl (zC (Deed.varV rfl) rfl)) (zHJ (d:=d+6) (k:=114) (T:=T09) rfl hi er Deed.read)) (zG7 ?_ (s_f (Deed.notO hn rfl) (zK (Deed.varV rfl))))))) he ((I2 _ (.oth D hn)).keep (fun n x hn hx=>⟨hn,zX hx⟩) fun n x _ hx=>zX hx) (kp.push _)
  rw [show (chL out).length=out.length from List.length_map _]; exact Nat.lt_of_le_of_lt hf2 (by decide)
theorem zSF (I:BkI P U b e h Dr vr us) (heP:e ∈ P) (hhP:h ∈ P) (hP:∀ n ∈ P,n < U.length) (hl:Dr.length < LIM) (hf:D.fit us) (hd:DeedP P U D dv):zKI P U b e h Dr vr us D dv (zA T09 (d+8) false 129 [.ref b,dv] U):=by
 cases hd with
 | ord ls lv L=>exact zQw I heP hhP hP hl hf L
 | oth _ hn=>exact zQv I heP hhP hP hl hn
end
end Mine
end

section
namespace Mine
open PySem
noncomputable def Grow (U U':Sto):Prop:=∀ (n:Nat) (x:O),U[n]?=some x->U'[n]?=some x
inductive Runs (f:V->List V->Sto->R Fl) (J:List V) (U:Sto):List V->List V->Sto->Prop
 | nil:Runs f J U [] J U
 | snoc (xs:List V) (x:V) (J1 J2:List V) (U1 U2:Sto) (r:Runs f J U xs J1 U1) (e:f x J1 U1=.ok (.next J2) U2):Runs f J U (xs++[x]) J2 U2
theorem Runs.it {f:V->List V->Sto->R Fl} {J J':List V} {U U':Sto} {xs:List V} (r:Runs f J U xs J' U'):∀ (zs:List V) (k:Nat),xB (.now (xs++zs)) f (k+1+xs.length) 0 J U=xB (.now (xs++zs)) f (k+1) xs.length J' U':=by
 induction r with
 | nil=>exact fun _ _=>rfl
 | snoc xs x J1 J2 U1 U2 r e ih =>
  intro zs k
  have h1:=ih ([x]++zs) (k+1)
  rw [List.append_assoc,List.length_append,show k+1+(xs.length + [x].length)=k+1+1+xs.length by rw [Nat.add_comm xs.length]; exact (Nat.add_assoc _ _ _).symm,h1]
  exact zAw (by show some (xs++([x]++zs))[xs.length]?=_; rw [List.getElem?_append_right (Nat.le_refl _),Nat.sub_self]; rfl) e
theorem Runs.all {f:V->List V->Sto->R Fl} {J J':List V} {U U':Sto} {xs:List V} (r:Runs f J U xs J' U'):yr (.now xs) f J U=.ok (.next J') U':=by
 have h:=r.it [] 0
 rw [List.append_nil,Nat.zero_add,Nat.add_comm] at h
 exact h.trans (zCK (by show some xs[xs.length]?=_; rw [List.getElem?_eq_none (Nat.le_refl _)]))
section
variable {d:Nat} {U U':Sto} {ro:Nat->Role} {a b e h o n:Nat} {us us':List Or} {P Q:List Nat} {Dr:List Deed} {hr hs vr rs xs:List V} {F Fq:Calls} {L dv:V} {D:Deed} {out:List (Int × Int)}
theorem Grow.refl (U:Sto):Grow U U:=fun _ _ h=>h
theorem Grow.trans {U1 U2 U3:Sto} (a:Grow U1 U2) (b:Grow U2 U3):Grow U1 U3:=fun n x h=>b n x (a n x h)
theorem Grow.push (x:Sto):Grow U (U++x):=fun n y h=>by
 rw [List.getElem?_append_left (alive h)]; exact h
theorem Grow.kept (k:Grow U U'):Kept P U U':=fun n x _ h=>k n x h
theorem BkI.ext (I:BkI P U b e h Dr vr us) (k:Grow U U'):BkI P U' b e h Dr vr us:=I.keep (fun n x hn hx=>⟨hn,k n x hx⟩) fun n x _ hx=>k n x hx
theorem DeedAt.ext (h:DeedAt U D dv) (k:Grow U U'):DeedAt U' D dv:=by
 cases h with
 | ord ls lv h =>
  cases h with
  | lst=>exact .ord ls _ .lst
  | ref n h=>exact .ord ls _ (.ref n (k n _ h))
 | oth D hn=>exact .oth D hn
theorem DeedAt.var {x y:V} {U':Sto} (h:DeedAt U D dv):evE F false (.var 2) [x,y,dv] U'=.ok dv U':=by
 cases h with
 | ord ls lv h=>rfl
 | oth D hn=>cases D <;> rfl
noncomputable def zHg:List CS:=[.exp (.call 112 [.var 2,.var 1])]
inductive MdI (U:Sto) (L:V) (us:List Or):List V->Sto->Prop
 | mk (U':Sto) (ro:Nat->Role) (rs:List V) (x:V) (A:Acct U' ro 0 U.length us rs) (k:∀ (n:Nat) (y:O),U[n]?=some y->U'[n]?=some y /\ ro n=.other):MdI U L us [L,.ref U.length,x] U'
inductive MdR (U:Sto) (L:V) (us:List Or) (f:V->List V->Sto->R Fl) (xs:List V):Prop
 | mk (J':List V) (U':Sto) (r:Runs f [L,.ref U.length,.undef] (U++[.list []]) xs J' U') (I:MdI U L us J' U')
theorem zHS (M:MdR U L us (fun x J U=>exL (zA T09 (d+3) false) Fq false zHg (J.set 2 x) U) xs) (x:Sure us n) (hl:n < LIM) (S:Step us D us' out) (hf:D.fit us) (hd:DeedAt U D dv):MdR U L us' (fun x J U=>exL (zA T09 (d+3) false) Fq false zHg (J.set 2 x) U) (xs++[dv]):=by
 cases M with
 | mk J1 U1 r I =>
 cases I with
 | mk _ ro rs y A k =>
 cases zPZ (d:=d) modTab09 A x.ok (fun u hu=>Nat.lt_of_le_of_lt (x.rows u hu) hl) (Nat.lt_of_le_of_lt x.len hl) S hf (hd.ext fun n y h=>(k n y h).1) with
 | mk U2 ro2 rs₂ er A₂ hro hk =>
 refine .mk _ U2 (.snoc xs dv _ [L,.ref U.length,dv] U1 U2 r ?_) (.mk U2 ro2 rs₂ dv A₂ fun n y h=>?_)
 ·exact yR (zH (zC hd.var (zC rfl rfl)) er) wk
 ·obtain ⟨h1,h2⟩:=k n y h
  exact ⟨hk n y (by rw [h2]; exact zRc (.inr (show 6 < 9 by decide))) h1,(hro n y h1).trans h2⟩
noncomputable def zR4 (a n:Nat):Role:=if n=a then .acc 0 else .other
theorem zPk (C:Chain P U Dr hr vr us) (hl:Dr.length < LIM):MdR U L us (fun x J U=>exL (zA T09 (d+3) false) Fq false zHg (J.set 2 x) U) vr.reverse:=by
 induction C with
 | nil=>exact .mk _ _ .nil (.mk _ (zR4 U.length) [] _ ⟨zj,if_pos rfl,rfl,fun o u h=>nomatch h⟩ fun n y h=>⟨zX h,if_neg (Nat.ne_of_lt (alive h))⟩)
 | ord ls m dv Dr hr vr us C hf hd ih =>
  rw [List.reverse_cons]
  exact zHS (ih (Nat.lt_of_succ_lt hl)) C.sure.1 (Nat.lt_of_succ_lt hl) (.ord ls) hf hd.at
 | oth D m dv Dr hr vr us us' out old C hn S ho hm hp hd ih =>
  rw [List.reverse_cons]
  exact zHS (ih (Nat.lt_of_succ_lt hl)) C.sure.1 (Nat.lt_of_succ_lt hl) S (Deed.fit_of hn) hd.at
inductive zMZ (U:Sto) (us:List Or) (r:R V):Prop
 | mk (U':Sto) (ro:Nat->Role) (rs:List V) (er:r=.ok (.ref U.length) U') (A:Acct U' ro 0 U.length us rs) (k:Grow U U') (kr:∀ (n:Nat) (y:O),U[n]?=some y->ro n=.other)
theorem zQt (C:Chain P U Dr hr vr us) (hl:Dr.length < LIM):zMZ U us (zA T09 (d+4) false 124 [.lst vr.reverse] U):=by
 cases zPk (d:=d) (L:=.lst vr.reverse) (Fq:=zA T09 (d+3) true) C hl with
 | mk J' U' r I =>
 have ef:exS (zA T09 (d+3) false) (zA T09 (d+3) true) false (.for 2 .val [.var 0] zHg) [.lst vr.reverse,.ref U.length,.undef] (U++[.list []])=.ok (.next J') U':=r.all
 cases I with
 | mk _ ro rs x A k =>
 exact .mk U' ro rs (zG (fn:=zHH) rfl rfl (zJ (v:=.ref U.length) (U':=U++[O.list []]) rfl (yX ef (zK (v:=.ref U.length) rfl)))) A (fun n y h=>(k n y h).1) fun n y h=>(k n y h).2
noncomputable def zGr:List CS:=match f09_123.body with
 | [_,.for _ _ _ b,_]=>b
 | _=>[]
theorem zP8 (B:BookIn U b e h (us.map Or.v) hs) (A:Acct U ro 0 a us rs) (ok:∀ u ∈ us,u.ok) (ho:o < us.length):exL (zA T09 (d+3) false) (zA T09 (d+3) true) false zGr [.ref b,.ref a,.int o] U=.ok (.next [.ref b,.ref a,.int o]) U:=by
 have hu:us[o]?=some us[o]:=List.getElem?_eq_getElem ho
 generalize us[o]=u at hu
 have iu:=ok u (List.mem_of_getElem? hu)
 have he:=xD hu
 obtain ⟨r,hr,Q⟩:=A.index hu
 obtain ⟨_,_,hp,_⟩:=Q.index
 have e11:=zO0 (d:=d+1) yK rfl B he iu.lim
 have e122:=zSC (d:=d+2) Q iu
 have ai:∀ {F:Calls},evE F false (.p2 .index (.var 1) (.var 2)) [.ref b,.ref a,.int o] U=.ok (.ref r) U:=zD rfl rfl hr
 have ap:evE (zA T09 (d+3) false) false (.callm 12 (.var 0) [.var 2]) [.ref b,.ref a,.int o] U=.ok (.int u.paid) U:=zQ rfl B.isInst rfl (zOy (d:=d+1) (q:=false) yK B he)
 have ao:evE (zA T09 (d+3) false) false (.callm 13 (.var 0) [.var 2]) [.ref b,.ref a,.int o] U=.ok (.int u.owed) U:=zQ rfl B.isInst rfl (zFq (d:=d) yK B he iu.lim iu.ls)
 have eo:=zAI (d:=d+1) modTab09 Q iu
 have fl:∀ x ∈ u.lines.map zDb,zA9 x:=fun x hx=>by obtain ⟨l,_,rfl⟩:=List.mem_map.mp hx; exact zIQ l
 have e115:=zR7 (d:=d+1) (U:=U) fl (by rw [List.length_map]; exact Nat.le_of_lt iu.lim)
 exact s_f (zE (zV (zH (zC (zQ rfl B.isInst rfl e11) (zC (zH (zC ai rfl) e122) rfl)) e115) rfl)) (s_f (zE (zW (x:=.bool false) (zV (zH (zC ap rfl) (kQ modTab09.t101 _)) rfl) rfl (zD ap (zD ai rfl hp) zB2))) (s_f (zE (zW (x:=.bool false) (zV (zH (zC ao rfl) (kQ modTab09.t101 _)) rfl) rfl (zD ao (zH (zC ai rfl) eo) zB2))) wk))
theorem zSD (B:BookIn U b e h (us.map Or.v) hs) (A:Acct U ro 0 a us rs) (ok:∀ u ∈ us,u.ok) (hl:us.length <= LIM):zA T09 (d+4) false 123 [.ref b,.ref a] U=.ok (.bool true) U:=by
 obtain ⟨J',U',ef,x,rfl,rfl⟩:=xt (F:=zA T09 (d+3) false) (Fq:=zA T09 (d+3) true) (i:=2) (k:=.range1) (src:=[.p1 .len (.var 1)]) (body:=zGr) (J:=[.ref b,.ref a,.undef]) (vs:=[.int us.length]) (U:=U) (U1:=U) (it:=.now (zY 0 us.length)) (xs:=zY 0 us.length)
  (fun _ J U'=>∃ x,J=[.ref b,.ref a,x] /\ U'=U) (zC (A.e_len rfl) rfl) (zg U (by rw [Int.natAbs_natCast]; exact hl)) (fun _ _ _ _=>.inl rfl) ⟨_,rfl,rfl⟩ fun j x J U' hx hI=>by
   obtain ⟨y,rfl,rfl⟩:=hI
   obtain ⟨rfl,hj⟩:=xR hx
   exact ⟨_,_,zP8 B A ok hj,_,rfl,rfl⟩
 have eo:evE (zA T09 (d+3) false) false (.callm 10 (.var 0) []) [.ref b,.ref a,.undef] U'=.ok (.int us.length) U':=(zQ rfl B.isInst rfl (zEP (d:=d+2) (q:=false) yK B)).trans (by rw [List.length_map])
 exact zG (fn:=f09_123) rfl rfl (s_f (zE (zW (x:=.bool false) (zV (zH (zC eo rfl) (kQ modTab09.t101 _)) rfl) rfl (zD eo (A.e_len rfl) zB2))) (yX ef rfl))
noncomputable def zGs:List CS:=match f09_125.body with
 | [_,_,.for _ _ _ b,_]=>b
 | _=>[]
inductive SbI (U:Sto) (b a:Nat) (L:V):List V->Sto->Prop
 | mk (U':Sto) (x3 x4:V) (k:Grow U U'):SbI U b a L [.ref b,L,.ref a,x3,x4] U'
inductive SbT (U:Sto) (b a:Nat) (L:V) (F Fq:Calls) (J:List V) (U1:Sto):Prop
 | mk (J':List V) (U':Sto) (er:exL F Fq false zGs J U1=.ok (.next J') U') (I:SbI U b a L J' U')
theorem zMB {x4:V} {U0:Sto} (B:BookIn U b e h (us.map Or.v) hs) (A:Acct U ro 0 a us rs) (hrow:∀ u ∈ us,u.rows.length <= 1000) (k0:Grow U0 U) (ho:o < us.length):SbT U0 b a L (zA T09 (d+4) false) (zA T09 (d+4) true) [.ref b,L,.ref a,.int o,x4] U:=by
 have hu:us[o]?=some us[o]:=List.getElem?_eq_getElem ho
 generalize us[o]=u at hu
 have hl:=hrow u (List.mem_of_getElem? hu)
 have he:=xD hu
 obtain ⟨r,hr,Q⟩:=A.index hu
 have e14:=zOz (d:=d+2) (q:=false) yK rfl B he
 have hi:=B.isInst
 cases Q with
 | mk q ls hrr rr hq rq _ hls =>
 cases c15 (d:=d+2) B hu hl with
 | mk acc left g e15 =>
 generalize hS:U++[O.list (acc.map xg),O.list (iv left)]=S at e15
 have kS:Grow U S:=hS ▸ Grow.push _
 have hf:S[U.length]?=some (.list (acc.map xg)):=hS ▸ zQH
 cases zSA (d:=d+1) (row:=u.rows.map (·.2)) (by rw [List.length_map]; exact hl) hf g with
 | mk parts e120 =>
 have kS':Grow S (S++[O.list (iv parts)]):=Grow.push _
 have iq:∀ {F:Calls} {U:Sto} {y:V},U[r]?=some (.list [.lst ls,.int u.paid,.ref q])->ev2 .index U (.ref a) (.int o)=some (.ref r)->evE F false (.p2 .index (.p2 .index (.var 2) (.var 3)) (.lit (.int 2))) [.ref b,L,.ref a,.int o,y] U=.ok (.ref q) U:=fun h1 h2=>zD (zD rfl rfl h2) rfl (zU _ (i:=2) h1 rfl)
 obtain ⟨r',hr',Q'⟩:=(A.keep (U':=S) (ro':=ro) fun n x _ hx=>⟨kS n x hx,rfl⟩).index hu
 have hrS:ev2 .index S (.ref a) (.int o)=some (.ref r):=by
  obtain ⟨r2,h2,_⟩:=A.at_ o u hu
  have e1:=zU U A.ord h2
  rw [hr] at e1; cases e1
  exact zU S (kS _ _ A.ord) h2
 have ec:=yh (F:=zA T09 (d+4) false) (elt:=.p2 .index (.var 5) (.lit (.int 1))) (k:=.val) (src:=[.p2 .index (.p2 .index (.var 2) (.var 3)) (.lit (.int 2))]) (cond:=none) (J:=[.ref b,L,.ref a,.int o,.ref U.length]) (U:=S) (U1:=S) (vs:=[.ref q]) (it:=.live q) (l:=u.rows) (φ:=xm) (fun _=>true) (fun r=>V.int r.2)
  (zC (iq (kS _ _ hrr) hrS) rfl) (yu S (kS _ _ hq)) (.inr ⟨q,rfl,kS _ _ hq⟩) (Nat.lt_of_le_of_lt hl (by decide)) (fun _ _=>rfl) (fun _ _ _=>rfl)
 rw [xA,zHM] at ec
 refine .mk [.ref b,L,.ref a,.int o,.ref U.length] (S++[O.list (iv parts)]) ?_ (.mk _ _ _ (k0.trans (kS.trans kS')))
 exact s_f (zE (zV (zH (zC (zQ rfl hi rfl e14) (zC (iq hrr hr) rfl)) (zSB (d:=d+2) hq)) rfl)) (zJ (v:=.ref U.length) (U':=S) (zQ rfl hi rfl e15) (s_f (zE (zW (x:=.bool false) (zV (zV (x:=.ref U.length) rfl (by rw [jG,zBv S hf]; rfl)) rfl) rfl (zV (zH (zC ec (zC rfl rfl)) e120) rfl))) wk))
inductive zOi (U:Sto) (r:R V):Prop
 | mk (U':Sto) (er:r=.ok (.bool true) U') (k:Grow U U')
theorem zO9 (I:BkI P U b e h Dr vr us) (hl:Dr.length <= 1000):zOi U (zA T09 (d+5) false 125 [.ref b,.lst vr.reverse] U):=by
 obtain ⟨hr,B,C⟩:=I
 obtain ⟨x,_,_⟩:=C.sure
 cases zQt (d:=d) C (Nat.lt_of_le_of_lt hl (by decide)) with
 | mk U1 ro rs e1 A k1 _ =>
 have B1:=B.keep k1
 have hul:us.length <= LIM:=Nat.le_trans x.len (Nat.le_trans hl (by decide))
 have e2:=zSD (d:=d) B1 A x.ok hul
 obtain ⟨J',U',ef,I⟩:=xt (F:=zA T09 (d+4) false) (Fq:=zA T09 (d+4) true) (i:=3) (k:=.range1) (src:=[.p1 .len (.var 2)]) (body:=zGs) (J:=[.ref b,.lst vr.reverse,.ref U.length,.undef,.undef]) (vs:=[.int us.length]) (U:=U1) (U1:=U1) (it:=.now (zY 0 us.length)) (xs:=zY 0 us.length)
  (fun _=>SbI U1 b U.length (.lst vr.reverse)) (zC (A.e_len rfl) rfl) (zg U1 (by rw [Int.natAbs_natCast]; exact hul)) (fun _ _ _ _=>.inl rfl) (.mk _ _ _ (.refl _)) fun j y J U2 hx I=>by
   obtain ⟨rfl,hj⟩:=xR hx
   cases I with
   | mk _ x3 x4 k2 =>
   cases zMB (d:=d) (L:=.lst vr.reverse) (x4:=x4) (B1.keep k2) (A.keep (U':=U2) (ro':=ro) fun n x _ hx=>⟨k2 n x hx,rfl⟩) (fun u hu=>Nat.le_trans (x.rows u hu) hl) k2 hj with
   | mk J3 U3 er I3=>exact ⟨J3,U3,er,I3⟩
 cases I with
 | mk _ x3 x4 k2 =>
 exact .mk U' (zG (fn:=f09_125) rfl rfl (zJ (zH rfl e1) (s_f (zE (zV (zH rfl e2) rfl)) (yX ef rfl)))) (k1.trans k2)
end
end Mine
end

section
namespace Mine
open PySem
section
variable {d:Nat} {q:Bool} {U U':Sto} {b e h o n:Nat} {us us':List Or} {P Q:List Nat} {Dr:List Deed} {hr hs vr rs xs es:List V} {F Fq:Calls} {L dv:V} {D:Deed}
theorem BkI.deed (I:BkI P U b e h (D :: Dr) (dv :: vr) us):DeedP P U D dv:=by
 obtain ⟨hr,B,C⟩:=I
 cases C.inv with
 | ord ls m hr us hD eh C eu hl hd=>exact hd
 | oth m hr us old eh C hn ho hm hp hd=>exact hd
theorem zGW {x:V}:wQ U (.lst (xs++[x])) none (some (-1))=some (.lst xs):=by
 have e:yJ (xs++[x]) none (some (-1))=xs:=by
  show ((xs++[x]).take (-1+((xs++[x]).length:Int)).toNat).drop 0=xs
  rw [List.drop_zero,List.length_append,show (-1+((xs.length + [x].length:Nat):Int)).toNat=xs.length by show (-1+((xs.length:Int)+1)).toNat=_; rw [Int.add_comm,Int.add_neg_cancel_right,Int.toNat_natCast],List.take_left']
  rfl
 show some (V.lst (yJ (xs++[x]) none (some (-1))))=_
 rw [e]
theorem zG9 {J:List V} {x:V} (h1:zN J 1=some (.lst (xs++[x]))):evE F false (.p2 .index (.var 1) (.p2 .sub (.p1 .len (.var 1)) (.lit (.int 1)))) J U=.ok x U:=by
 have e1:evE F false (.var 1) J U=.ok (.lst (xs++[x])) U:=by rw [zv,h1]; rfl
 refine zD e1 (zD (zV e1 (zf U _)) rfl (z:=.int (xs.length:Int)) ?_) (zr U (i:=xs.length) ?_)
 ·rw [zBL,List.length_append,show (((xs.length + [x].length:Nat):Int) - 1)=(xs.length:Int) by exact Int.add_sub_cancel (xs.length:Int) 1]
 ·rw [List.getElem?_append_right (Nat.le_refl _),Nat.sub_self]; rfl
theorem zCY {J:List V} {x:V} {L':CE} (h1:evE F false L' J U=.ok (.lst (xs++[x])) U):evE F false (.slice L' none (some (.p1 .neg (.lit (.int 1))))) J U=.ok (.lst xs) U:=zDp h1 rfl rfl zGW
inductive zDf (P:List Nat) (U:Sto) (b e h:Nat) (Dr:List Deed) (vr:List V) (r:R V):Prop
 | mk (U':Sto) (us:List Or) (er:r=.ok (.bool true) U') (I:BkI P U' b e h Dr vr us) (k:Kept [e,h] U U')
theorem Kept.ext {U2:Sto} (a:Kept P U U') (b:Grow U' U2):Kept P U U2:=fun n x hn hx=>b n x (a n x hn hx)
theorem zIP {ls:List Ln}:∀ v ∈ ls.map Ln.raw,zA9 v:=fun v hv=>by obtain ⟨l,_,rfl⟩:=List.mem_map.mp hv; exact zK5 l
theorem LinesOf.push {x:O} (hg:LinesOf U xs L):LinesOf (U++[x]) xs L:=by
 cases hg with
 | lst=>exact .lst
 | ref n h=>exact .ref n (zX h)
theorem zCU {S:Sto} {x:V} (hl:Dr.length <= 1000) (I:BkI P S b e h Dr vr us) (k:Kept [e,h] U S) (pre:∀ {r:R Fl},exL (zA T09 (d+5) false) (zA T09 (d+5) true) false [.ret (.call 125 [.var 0,.slice (.var 1) none (some (.p1 .neg (.lit (.int 1))))])] [.ref b,.lst (vr.reverse++[dv]),x] S=r->exL (zA T09 (d+5) false) (zA T09 (d+5) true) false f09_126.body [.ref b,.lst (vr.reverse++[dv]),.undef] U=r):zDf P U b e h Dr vr (zA T09 (d+6) false 126 [.ref b,.lst (vr.reverse++[dv])] U):=by
 cases zO9 (d:=d) I hl with
 | mk S' er k'=>exact .mk S' us (zG (fn:=f09_126) rfl rfl (pre (zK (zH (zC rfl (zC (zCY rfl) rfl)) er)))) (I.ext k') (k.ext k')
theorem zKR {S:Sto} {ls:List Ln} {lv:V} (hl:Dr.length <= 1000) (hi:isInst U (.ref b)=true) (H:LinesOf S (ls.map Ln.raw) lv) (er:zA T09 (d+5) false 9 [.ref b] U=.ok (.tup [.str yC,.ref S.length]) (S++[.list (ls.map Ln.raw)])) (I:BkI P S b e h Dr vr us) (kp:Kept [e,h] U S) (ll:ls.length <= 20):zDf P U b e h Dr vr (zA T09 (d+6) false 126 [.ref b,.lst (vr.reverse++[.tup [.str yC,lv]])] U):=by
 have hlen:(ls.map Ln.raw).length <= 20:=by rw [List.length_map]; exact ll
 have ea:=zQr (d:=d+2) (.ref S.length zj) (H.push (x:=.list (ls.map Ln.raw))) zIP (Nat.le_trans hlen (by decide))
 refine zCU (S:=S++[.list (ls.map Ln.raw++[zQ1])]) (x:=.tup [.str yC,.ref S.length]) hl (I.ext (Grow.push _)) (kp.push _) fun kk=>?_
 refine zJ (zQ rfl hi rfl er) (s_f (zE (zV (zH (zC rfl (zC (zG9 rfl) rfl)) ea) rfl)) (s_t rfl (yR (yU (x:=.ref S.length) rfl (isL zj) rfl (yB _ zj (Nat.lt_of_le_of_lt hlen (by decide)))) ?_)))
 rw [wL]; exact kk
theorem zKS {S:Sto} (hl:Dr.length <= 1000) (hi:isInst U (.ref b)=true) (hn:∀ ls,D ≠ .ord ls) (er:zA T09 (d+5) false 9 [.ref b] U=.ok D.v S) (I:BkI P S b e h Dr vr us) (kp:Kept [e,h] U S):zDf P U b e h Dr vr (zA T09 (d+6) false 126 [.ref b,.lst (vr.reverse++[D.v])] U):=
 zCU hl I kp fun kk=>zJ (zQ rfl hi rfl er) (s_f (zE (zV (zH (zC (Deed.varV rfl) (zC (zG9 rfl) rfl)) (zR8 (d:=d+2) hn)) rfl)) (s_f (Deed.notO hn rfl) kk))
theorem DeedP.ofO {ls:List Ln} (hd:DeedP P U D dv) (hD:D=.ord ls):∃ lv,dv=.tup [.str yC,lv] /\ LinesP P U (ls.map Ln.raw) lv:=by
 cases hd with
 | ord ls' lv H=>cases hD; exact ⟨lv,rfl,H⟩
 | oth _ hn=>exact absurd hD (hn ls)
theorem DeedP.ofN (hd:DeedP P U D dv) (hn:∀ ls,D ≠ .ord ls):dv=D.v:=by
 cases hd with
 | ord ls lv H=>exact absurd rfl (hn ls)
 | oth _ _=>rfl
theorem zSE (I:BkI P U b e h (D :: Dr) (dv :: vr) us') (heP:e ∈ P) (hhP:h ∈ P) (hl:Dr.length <= 1000):zDf P U b e h Dr vr (zA T09 (d+6) false 126 [.ref b,.lst (dv :: vr).reverse] U):=by
 have hd:=I.deed
 have hi:=I.isInst
 rw [List.reverse_cons]
 cases zPJ (d:=d+4) I heP hhP with
 | ord S us ls hD er I2 kp ll =>
  obtain ⟨lv,e1,H⟩:=hd.ofO hD
  rw [e1]
  exact zKR hl hi (H.keep (kp.mono (zAu heP hhP)).two).of er I2 kp ll
 | oth S us hn er I2 kp =>
  rw [hd.ofN hn]
  exact zKS hl hi hn er I2 kp
noncomputable def penN:Ln:={ item:={ cps:=#[112,101,110] },p:=1,c:=1,k:=1,s:=0,b:=0,a:=0,r:=0 }
theorem q21:zA T09 (d+1) true 21 [.str penN.item] U=.ok (.bool true) U:=by
 refine zG (fn:=zK2) rfl rfl (s_f rfl (zK (zV (x:=.lst [.bool true,.bool true,.bool true]) ?_ rfl)))
 show (R.lift U (if (penN.item.cps.all fun x=>decide (x < 128))=true then some (Items.now (xh penN.item)) else none)).bind _=_
 rw [if_pos (by decide +kernel)]; rfl
theorem q22:zA T09 (d+2) true 22 [.lst [penN.raw]] U=.ok .none U:=by
 have eb:exL (zA T09 (d+1) true) (zA T09 (d+1) true) true zD4 [.lst [penN.raw],penN.raw] U=.ok (.next [.lst [penN.raw],penN.raw]) U:=s_f (zE (zV (zH rfl q21) rfl)) (s_f rfl rfl)
 have ef:exS (zA T09 (d+1) true) (zA T09 (d+1) true) true (.for 1 .val [.var 0] zD4) [.lst [penN.raw],.undef] U=.ok (.next [.lst [penN.raw],penN.raw]) U:=by
  show xB (.now [penN.raw]) (fun x J U=>exL (zA T09 (d+1) true) (zA T09 (d+1) true) true zD4 (J.set 1 x) U) 2 0 [.lst [penN.raw],.undef] U=_
  exact (zAw (x:=penN.raw) rfl eb).trans (zCK rfl)
 exact xe (fn:=fB_22) rfl rfl (s_f rfl (yX ef rfl))
theorem zST:zA T09 (d+1) true 127 [.exc .NothingDone] U=.ok (.bool true) U:=rfl
theorem zRj:evE (zA T09 (d+1) true) true (.comp (.call 23 [.var 2]) .val [.var 1] none) [.ref b,.lst [penN.raw]] U=.ok (.lst [penN.fresh.v]) U:=rfl
theorem q3 (B:BookIn U b e h [] []):zA T09 (d+3) true 3 [.ref b,.lst [penN.raw]] U=.ok (.ref (ye U e h [] [] [penN]).length) (ye U e h [] [] [penN]++[.list []]):=by
 have B1:=B.setE ([]++[(xZ [penN]).v])
 refine zG (fn:=zM3 true) rfl rfl (yR (zH rfl q22) (s_f (zE (t:=false) (zD (zBl B rfl) rfl rfl)) ?_))
 refine yR (U':=U.set e (.list ([]++[(xZ [penN]).v]))) (yU (zBk B rfl) (isL B.ent) (yg (zC (zV (z:=.tup [penN.fresh.v]) (zRj (d:=d+1)) rfl) rfl)) (yB _ B.ent (show 0 < LIM by decide))) ?_
 exact yR (yU (jT B1 rfl) (isL B1.his) (yg (zC (v:=dO [penN]) rfl (zC rfl rfl))) (yB _ (B1.push _).his (show 0 < LIM by decide))) (zK (zCZ (t:=true) (vs:=[]) rfl))
theorem q2 (B:BookIn U b e h [] []):zA T09 (d+4) true 2 [.ref b,dO [penN]] U=.ok (.ref (ye U e h [] [] [penN]).length) (ye U e h [] [] [penN]++[.list []]):=
 zG (fn:=fB_2) rfl rfl (s_f rfl (s_t rfl (zK (zQ rfl B.isInst rfl (q3 B)))))
noncomputable def zNh:CE:=match f09_128.body with
 | [_,_,.try _ _ [⟨_,_,_,e⟩],_]=>e
 | _=>.lit .none
inductive zMa (U:Sto) (e h:Nat) (r:R V):Prop
 | mk (U':Sto) (er:r=.ok (.bool true) U') (k:Kept [e,h] U U')
theorem zRM {x:O} {n:Nat} (hn:n ∉ [e,h]):n ≠ e /\ n ≠ h:=⟨fun q=>hn (q ▸ List.mem_cons_self),fun q=>hn (q ▸ List.mem_cons_of_mem _ (List.mem_singleton.mpr rfl))⟩
theorem zQu (B:BookIn U b e h [] []):zMa U e h (zA T09 (d+5) false 128 [.ref b] U):=by
 have hi:=B.isInst
 have B1:BookIn (ye U e h [] [] [penN]) b e h ([]++[(xZ [penN]).v]) ([]++[.tup [dO [penN],.ref (U.set e (.list ([]++[(xZ [penN]).v]))).length]]):=((B.setE _).push _).setH _
 have B2:=B1.push (.list [])
 have B3:BookIn (back (ye U e h [] [] [penN]++[.list []]) e h [] []++[.list [penN.raw]]) b e h [] []:=(zDj (es:=[]++[(xZ [penN]).v]) B2).push _
 have u1:zA T09 (d+4) true 9 [.ref b] (ye U e h [] [] [penN]++[.list []])=_:=zOW (d:=d+3) (q:=true) B2
 have eh:evE (zA T09 (d+4) true) true zNh [.ref b,.bool true,.exc .NothingDone] U=.ok (.bool true) (back (ye U e h [] [] [penN]++[.list []]) e h [] []++[.list [penN.raw]]):=by
  refine zD (x:=.tup [.ref (ye U e h [] [] [penN]).length,.bool true]) (yg (zC (zQ rfl hi rfl (q2 B)) (zC (v:=.bool true) ?_ rfl))) rfl rfl
  refine zn rfl rfl (zn (zH rfl (zST (d:=d+3))) rfl (zn (zD (zD (zQ rfl B2.isInst rfl u1) rfl rfl) rfl rfl) rfl (zD (zQ rfl B3.isInst rfl (zEP (d:=d+3) (q:=true) yK B3)) rfl rfl)))
 have eu:∀ {J:List V},zN J 0=some (.ref b)->evE (zA T09 (d+4) false) false (.callm 9 (.var 0) []) J U=.exc .NothingDone U:=fun h0=>zQ (zBm h0) hi rfl (zQJ (d:=d+3) B)
 refine .mk (back (ye U e h [] [] [penN]++[.list []]) e h [] []++[.list [penN.raw]]) (zG (fn:=f09_128) rfl rfl (zJ (v:=.bool false) rfl ?_)) ?_
 ·show exL _ _ false [.try .exp (.callm 9 (.var 0) []) [⟨.NothingDone,none,.asg 1,.lit (.bool true)⟩],.try .exp (.callm 9 (.var 0) []) [⟨.FlowError,some 2,.ret,zNh⟩],.ret (.lit (.bool false))] [.ref b,.bool false,.undef] U=_
  rw [yl,zHy,if_neg (by decide),eu rfl]
  show exL _ _ false [.try .exp (.callm 9 (.var 0) []) [⟨.FlowError,some 2,.ret,zNh⟩],.ret (.lit (.bool false))] [.ref b,.bool true,.undef] U=_
  rw [yl,zHy,if_neg (by decide),eu rfl]
  show R.bind (R.bind (R.calm (evE (zA T09 (d+4) true) true zNh [.ref b,.bool true,.exc .NothingDone] U)) _) _=_
  rw [eh]; rfl
 ·refine fun n x hn hx=>?_
  obtain ⟨h1,h2⟩:=zRM (x:=x) hn
  exact zX (zEQ (zX (zI (zX (zI hx h1.symm)) h2.symm)) h1 h2)
end
end Mine
end

section
namespace Mine
open PySem
noncomputable def zJ4:List Deed->Nat
 | []=>0
 | .ord _ :: r=>zJ4 r+1
 | _ :: r=>zJ4 r
theorem zFD {D:Deed} {r:List Deed} (hn:∀ ls,D ≠ .ord ls):zJ4 (D :: r)=zJ4 r:=by
 cases D with
 | ord ls=>exact absurd rfl (hn ls)
 | _=>rfl
section
variable {d:Nat} {q:Bool} {U U':Sto} {b e h o n:Nat} {us us':List Or} {P Q:List Nat} {Dr:List Deed} {hr hs vr rs xs es:List V} {F Fq:Calls} {L dv:V} {D:Deed} {c:Int}
theorem Chain.cnt (C:Chain P U Dr hr vr us):us.length=zJ4 Dr:=by
 induction C with
 | nil=>rfl
 | ord ls m dv Dr hr vr us C hf hd ih=>rw [List.length_append,ih]; rfl
 | oth D m dv Dr hr vr us us' out old C hn S ho hm hp hd ih=>rw [ho.len,ih,zFD hn]
theorem zGl (h:xs.length+es.length <= LIM):ev2 .add U (.lst xs) (.lst es)=some (.lst (xs++es)):=if_pos h
noncomputable def zL3:List CS:=[.exp (.callm 2 (.var 0) [.call 113 [.var 3]])]
noncomputable def payD:Deed:=.pay 0 1
theorem zPz (h:1 <= us.length):payD.err us=none:=by
 show zCd 1 (atI us 0)=none
 have e:atI us 0=some us[0]:=(if_pos (in_iff.mpr ⟨0,rfl,h⟩)).trans (List.getElem?_eq_getElem h)
 rw [e]; rfl
theorem zJ7:penN.good:=⟨⟨by decide,by decide,by decide,by decide,by decide,by decide⟩,show wr penN.item=true by decide,show (penN.item.cps.all fun x=>decide (x < 128))=true by decide +kernel⟩
inductive PfR (P:List Nat) (U:Sto) (b e h:Nat) (f:V->List V->Sto->R Fl) (c L:V) (n:Nat) (xs:List V):Prop
 | mk (x:V) (U':Sto) (us:List Or) (Dr:List Deed) (vr:List V) (r:Runs f [.ref b,c,L,.undef] U xs [.ref b,c,L,x] U') (I:BkI P U' b e h Dr vr us) (hv:vr.reverse=xs) (hl:Dr.length=n) (ho:1 <= n->1 <= zJ4 Dr) (k:Kept [e,h] U U')
theorem Kept.lt (k:Kept [e,h] U U') (he:e < U'.length) (hh:h < U'.length) {m:Nat} (hm:m < U.length):m < U'.length:=by
 by_cases h1:m=e
 ·exact h1 ▸ he
 ·by_cases h2:m=h
  ·exact h2 ▸ hh
  ·exact alive (k m _ (fun q=>(List.mem_cons.mp q).elim h1 fun q=>h2 (List.mem_singleton.mp q)) (List.getElem?_eq_getElem hm))
theorem zL4 (I:BkI P U b e h [] [] []) (heP:e ∈ P) (hhP:h ∈ P) (hP:∀ n ∈ P,n < U.length) {c:V}:PfR P U b e h (fun x J U=>exL (zA T09 (d+6) false) Fq false zL3 (J.set 3 x) U) c L 1 [dO [penN]]:=by
 obtain ⟨lb,le,lh⟩:=I.lt
 have e1:=zNt (d:=d+5) (U:=U) (xs:=[penN.raw]) .lst
 have kx:Grow U (U++[.list [penN.raw]]):=Grow.push _
 have hm:(U++[O.list [penN.raw]])[U.length]?=some (.list ([penN].map Ln.raw)):=zj
 have I1:=I.ext kx
 have hf:(Deed.ord [penN]).fit []:=⟨Nat.le_refl 1,by show 1 <= 20; decide,fun l hl=>by rw [List.mem_singleton.mp hl]; exact zJ7,by show 0 < 40; decide⟩
 cases zMt (d:=d) I1 heP hhP (fun n hn=>by rw [List.length_append]; exact Nat.lt_succ_of_lt (hP n hn)) (by show 0 < LIM; decide) hf (.ord [penN] U.length hm (Nat.ne_of_lt le)) with
 | no c er he=>cases he
 | yes U2 us' out er he I2 kp hf2 =>
  have I3:=(I2 (dO [penN]) (.ord _ _ .lst)).ext (Grow.push [.list (chL out)])
  refine .mk (dO [penN]) (U2++[.list (chL out)]) us' [.ord [penN]] [dO [penN]] (.snoc [] _ _ _ _ _ .nil ?_) I3 rfl rfl (fun _=>Nat.le_refl 1) ((kx.kept.trans kp).push _)
  exact yR (zQ rfl I.isInst (zC (zH rfl e1) rfl) er) wk
theorem zNa {c:V} (R:PfR P U b e h (fun x J U=>exL (zA T09 (d+6) false) Fq false zL3 (J.set 3 x) U) c L n xs) (heP:e ∈ P) (hhP:h ∈ P) (hP:∀ n ∈ P,n < U.length) (hn:1 <= n) (hl:n < LIM):PfR P U b e h (fun x J U=>exL (zA T09 (d+6) false) Fq false zL3 (J.set 3 x) U) c L (n+1) (xs++[payD.v]):=by
 cases R with
 | mk x U' us Dr vr r I hv hd ho k =>
 obtain ⟨lb,le,lh⟩:=I.lt
 have hno:∀ ls,payD ≠ .ord ls:=fun _ q=>nomatch q
 have hu:1 <= us.length:=by
  obtain ⟨hr,B,C⟩:=I
  rw [C.cnt]; exact ho hn
 cases zMt (d:=d) (D:=payD) I heP hhP (fun n hn=>k.lt le lh (hP n hn)) (hd.symm ▸ hl) trivial (.oth payD hno) with
 | no c er he=>rw [zPz hu] at he; cases he
 | yes U2 us' out er he I2 kp hf2 =>
  have I3:=(I2 payD.v (.oth payD hno)).ext (Grow.push [.list (chL out)])
  refine .mk payD.v (U2++[.list (chL out)]) us' (payD :: Dr) (payD.v :: vr) (.snoc xs _ _ _ _ _ r ?_) I3 (by rw [List.reverse_cons,hv]) (congrArg Nat.succ hd) (fun _=>by rw [zFD hno]; exact ho hn) ((k.trans kp).push _)
  exact yR (zQ rfl I.isInst (zC (zH rfl (zQp (d:=d+5) hno)) rfl) er) wk
theorem zL5 (I:BkI P U b e h [] [] []) (heP:e ∈ P) (hhP:h ∈ P) (hP:∀ n ∈ P,n < U.length) {c:V}:∀ n:Nat,n <= 100->PfR P U b e h (fun x J U=>exL (zA T09 (d+6) false) Fq false zL3 (J.set 3 x) U) c L (n+1) (dO [penN] :: List.replicate n payD.v)
 | 0,_=>zL4 I heP hhP hP
 | n+1,hn=>by
  rw [List.replicate_succ']
  exact zNa (zL5 I heP hhP hP n (Nat.le_of_succ_le hn)) heP hhP hP (Nat.le_add_left 1 n) (Nat.lt_of_le_of_lt hn (by decide))
inductive zQf (P:List Nat) (U:Sto) (b e h:Nat) (r:R V):Prop
 | mk (U':Sto) (Dr:List Deed) (vr:List V) (us:List Or) (er:r=.ok (.lst vr.reverse) U') (I:BkI P U' b e h Dr vr us) (hl:Dr.length <= 45) (k:Kept [e,h] U U')
theorem zSG (I:BkI P U b e h [] [] []) (heP:e ∈ P) (hhP:h ∈ P) (hP:∀ n ∈ P,n < U.length) (c:Int):zQf P U b e h (zA T09 (d+7) false 130 [.ref b,.int c] U):=by
 have et:evE (zA T09 (d+6) false) false (.p2 .eq (.p2 .mod (.p2 .mod (.p2 .mul (.var 1) (.lit (.int 48271))) (.lit (.int 10151))) (.lit (.int 16))) (.lit (.int 1))) [.ref b,.int c,.lst [],.undef] U=.ok (.bool (((c * 48271).fmod 10151).fmod 16==1)) U:=zD (xL (c:=c) rfl rfl rfl rfl rfl) rfl (xM _ _ _)
 cases ht:(((c * 48271).fmod 10151).fmod 16==1) with
 | false =>
  rw [ht] at et
  exact .mk U [] [] [] (zG (fn:=zDt) rfl rfl (zJ (v:=.lst []) rfl (s_f (zE et) (yX (J':=[.ref b,.int c,.lst [],.undef]) (U':=U) rfl (zK rfl))))) I (Nat.zero_le _) (.refl U)
 | true =>
  rw [ht] at et
  obtain ⟨k,hk,hk2⟩:=zBs (c.fdiv 16) (m:=25) (by decide)
  replace hk:(c.fdiv 16).fmod 25=(k:Int):=hk
  have hn:20+k <= 44:=Nat.add_le_add_left (Nat.le_of_lt_succ hk2) 20
  have ec:=yh (F:=zA T09 (d+6) false) (elt:=.tup [.lit (.str wM),.lit (.int 0),.lit (.int 1)]) (k:=.range1) (src:=[.p2 .add (.lit (.int 20)) (.p2 .mod (.p2 .fdiv (.var 1) (.lit (.int 16))) (.lit (.int 25)))]) (cond:=none) (J:=[.ref b,.int c,.lst [],.undef]) (U:=U) (U1:=U) (vs:=[.int ((20+k:Nat):Int)]) (it:=.now (zY 0 ((20+k:Nat):Int))) (l:=List.range (20+k)) (φ:=fun k:Nat=>V.int (k:Int)) (fun _=>true) (fun _=>payD.v)
   (zC (zD rfl (zD (zD rfl rfl (wH _ _ 16 rfl)) rfl (by rw [wP _ _ 25 rfl,hk])) (by rw [zDr]; rfl)) rfl) (zg U (by rw [Int.natAbs_natCast]; exact Nat.le_trans hn (by decide))) (.inl (by unfold zY; rw [Int.sub_zero,Int.toNat_natCast]; exact congrArg Items.now (List.map_congr_left fun o _=>by rw [Int.zero_add]))) (by rw [List.length_range]; exact Nat.lt_of_le_of_lt hn (by decide)) (fun _ _=>rfl) (fun _ _ _=>rfl)
  rw [xA,List.map_const',List.length_range] at ec
  cases zL5 (d:=d) (Fq:=zA T09 (d+6) true) (L:=.lst (dO [penN] :: List.replicate (20+k) payD.v)) (c:=.int c) I heP hhP hP (20+k) (Nat.le_trans hn (by decide)) with
  | mk x U' us Dr vr r I' hv hd ho kp =>
  have ef:exS (zA T09 (d+6) false) (zA T09 (d+6) true) false (.for 3 .val [.var 2] zL3) [.ref b,.int c,.lst (dO [penN] :: List.replicate (20+k) payD.v),.undef] U=.ok (.next [.ref b,.int c,.lst (dO [penN] :: List.replicate (20+k) payD.v),x]) U':=r.all
  refine .mk U' Dr vr us ?_ I' (by rw [hd]; exact Nat.succ_le_succ hn) kp
  rw [hv]
  exact zG (fn:=zDt) rfl rfl (zJ (v:=.lst []) rfl (s_t (zE et) (zJ (v:=.lst (dO [penN] :: List.replicate (20+k) payD.v)) (zD (x:=.lst [dO [penN]]) rfl ec (zGl (by rw [List.length_replicate]; exact Nat.le_trans (Nat.add_le_add_left hn 1) (by decide)))) (yX ef (zK rfl)))))
end
end Mine
end

section
namespace Mine
open PySem
noncomputable def bks:V:=.lst [.ref 0,.ref 3]
noncomputable def body9:List CS:=match f09_131.body with
 | [_,_,.for _ _ _ b,_,_]=>b
 | _=>[]
noncomputable def zCT:List CS:=match f09_131.body with
 | [_,_,_,.for _ _ _ [.while _ b],_]=>b
 | _=>[]
noncomputable def zB0:CE:=.p2 .ne (.p2 .index (.var 2) (.var 4)) (.list [])
structure Pl (P:List Nat) (i b e h dl:Nat):Prop where
 hb:∀ U,ev2 .index U bks (.int i)=some (.ref b)
 pe:e ∈ P
 ph:h ∈ P
 pd:dl ∈ P
 ne:dl ≠ e
 nh:dl ≠ h
 nb:dl ≠ b
section
variable {d:Nat} {q:Bool} {U U':Sto} {i b e h dl o n:Nat} {us us':List Or} {P Q:List Nat} {Dr:List Deed} {hr hs vr rs xs es L:List V} {F Fq:Calls} {s x3 x4 x5 x6 v dv:V} {D:Deed} {c:Int} {l:List Int}
theorem zKr (pl:Pl P i b e h dl):evE F false (.p2 .index (.var 1) (.var 4)) [s,bks,.ref dl,x3,.int i,x5,x6] U=.ok (.ref b) U:=zD rfl rfl (pl.hb U)
theorem zFx (hd:U[dl]?=some (.list L)) (hL:L[i]?=some v):evE F false (.p2 .index (.var 2) (.var 4)) [s,bks,.ref dl,x3,.int i,x5,x6] U=.ok v U:=zD rfl rfl (zU U hd hL)
theorem zPm:ev2 .ne U (.lst xs) (.lst [])=some (.bool (xs.length != 0)):=by cases xs <;> rfl
theorem zFy (hd:U[dl]?=some (.list L)) (hL:L[i]?=some (.lst xs)):evE F false zB0 [s,bks,.ref dl,x3,.int i,x5,x6] U=.ok (.bool (xs.length != 0)) U:=zD (zFx hd hL) rfl zPm
theorem BkI.setD (I:BkI P U b e h Dr vr us) (pl:Pl P i b e h dl) (x:O):BkI P (U.set dl x) b e h Dr vr us:=
 I.keep (fun n y hn hy=>⟨hn,zI hy fun q=>hn (q ▸ pl.pd)⟩) fun n y hn hy=>zI hy fun q=>by
  rcases hn with rfl | rfl | rfl
  ·exact pl.nb q
  ·exact pl.ne q
  ·exact pl.nh q
theorem zCm {n:Nat} (hn:n ∉ [e,h,dl]):n ≠ e /\ n ≠ h /\ n ≠ dl:=⟨fun q=>hn (q ▸ List.mem_cons_self),fun q=>hn (q ▸ List.mem_cons_of_mem _ List.mem_cons_self),fun q=>hn (q ▸ List.mem_cons_of_mem _ (List.mem_cons_of_mem _ (List.mem_singleton.mpr rfl)))⟩
theorem Kept.three (k:Kept [e,h] U U'):Kept [e,h,dl] U U':=fun n x hn hx=>by
 obtain ⟨h1,h2,_⟩:=zCm hn
 exact k n x (fun q=>(List.mem_cons.mp q).elim h1 fun q=>h2 (List.mem_singleton.mp q)) hx
theorem Kept.setD (k:Kept [e,h,dl] U U') (x:O):Kept [e,h,dl] U (U'.set dl x):=fun n y hn hy=>zI (k n y hn hy) fun q=>(zCm hn).2.2 q.symm
theorem Pl.keep (pl:Pl P i b e h dl) (k:Kept [e,h] U U') {x:O} (hd:U[dl]?=some x):U'[dl]?=some x:=k dl x (fun q=>(List.mem_cons.mp q).elim pl.ne fun q=>pl.nh (List.mem_singleton.mp q)) hd
inductive zQW (P:List Nat) (U:Sto) (b e h dl i:Nat) (L:List V) (Dr:List Deed) (vr:List V) (F Fq:Calls) (J:List V):Prop
 | mk (U':Sto) (us:List Or) (er:exL F Fq false zCT J U=.ok (.next J) U') (I:BkI P U' b e h Dr vr us) (hd:U'[dl]?=some (.list (L.set i (.lst vr.reverse)))) (k:Kept [e,h,dl] U U')
theorem zCV (I:BkI P U b e h (D :: Dr) (dv :: vr) us) (pl:Pl P i b e h dl) (hl:Dr.length <= 1000) (hd:U[dl]?=some (.list L)) (hL:L[i]?=some (.lst (dv :: vr).reverse)):zQW P U b e h dl i L Dr vr (zA T09 (d+8) false) (zA T09 (d+8) true) [s,bks,.ref dl,x3,.int i,x5,x6]:=by
 have hi:i < L.length:=(List.getElem?_eq_some_iff.mp hL).1
 cases zSE (d:=d+2) I pl.pe pl.ph hl with
 | mk U1 us1 er I1 k1 =>
 have d1:=pl.keep k1 hd
 rw [List.reverse_cons] at hL er
 exact .mk (U1.set dl (.list (L.set i (.lst vr.reverse)))) us1 (s_f (zE (zV (zH (zC (zKr pl) (zC (zFx hd hL) rfl)) er) rfl)) (zq (x:=.lst vr.reverse) (zCY (zFx d1 hL)) rfl rfl (yQ _ d1 hi) wk)) (I1.setD pl _) (yO d1) (k1.three.setD _)
inductive Drw (P:List Nat) (U:Sto) (us:List Or) (r:R V):Prop
 | mk (D:Deed) (U':Sto) (hf:D.fit us) (hd:DeedP P U' D (D.raw U.length)) (er:r=.ok (D.raw U.length) U') (k:Grow U U')
theorem drw {r:R V} (hP:∀ n ∈ P,n < U.length) (x:zQY U us r):Drw P U us r:=by
 cases x with
 | ord ls hf h4 er=>exact .mk (.ord ls) _ hf (.ord ls _ (.ref _ zj fun q=>absurd (hP _ q) (Nat.lt_irrefl _))) er (Grow.push _)
 | oth D hn er=>exact .mk D U (Deed.fit_of hn) ((Deed.raw_of (m:=U.length) hn).symm ▸ .oth D hn) (er.trans (by rw [Deed.raw_of hn])) (.refl U)
theorem Grow.lt (k:Grow U U') {m:Nat} (hm:m < U.length):m < U'.length:=alive (k m _ (List.getElem?_eq_getElem hm))
theorem zPL {c:Cls} (hc:zBS c=true):ev2 .eq U (.str (zBI c)) (.str { cps:=#[] })=some (.bool false):=by
 cases c <;> first | rfl | cases hc
theorem Deed.var6 {k:Nat} {a0 a1 a2 a3 a4 a5:V}:evE F false (.var 6) [a0,a1,a2,a3,a4,a5,D.raw k] U=.ok (D.raw k) U:=by cases D <;> rfl
theorem zPO {J:List V} {k:Nat} (h0:zN J 0=some (.lst (iv l))) (h3:zN J 3=some (.int (k:Int))) (hk:2 * k < l.length):evE F false (.p2 .index (.var 0) (.p2 .mul (.lit (.int 2)) (.var 3))) J U=.ok (.int (gI l (2 * k))) U:=
 zD (by rw [zv,h0]; rfl) (zD rfl (by rw [zv,h3]; rfl) (by rw [yc U 2 k (.inl rfl),show (2 * (k:Int))=((2 * k:Nat):Int) from rfl])) (xP U hk)
theorem zQ3 {J:List V} {k:Nat} (h0:zN J 0=some (.lst (iv l))) (h3:zN J 3=some (.int (k:Int))) (hk:2 * k+1 < l.length):evE F false (.p2 .index (.var 0) (.p2 .add (.p2 .mul (.lit (.int 2)) (.var 3)) (.lit (.int 1)))) J U=.ok (.int (gI l (2 * k+1))) U:=
 zD (by rw [zv,h0]; rfl) (zD (zD rfl (by rw [zv,h3]; rfl) (yc U 2 k (.inl rfl))) rfl (by rw [zDr,show (2 * (k:Int)+1)=((2 * k+1:Nat):Int) from rfl])) (xP U hk)
inductive zGj:List Deed->List V->Prop
 | nil:zGj [] []
 | cons (D:Deed) (Dr:List Deed) (dv:V) (vr:List V):zGj (D :: Dr) (dv :: vr)
theorem zMC:∀ {Dr:List Deed} {vr:List V},vr.length=Dr.length->zGj Dr vr
 | [],[],_=>.nil
 | D :: Dr,v :: vr,_=>.cons D Dr v vr
theorem BkI.shape (I:BkI P U b e h Dr vr us):zGj Dr vr:=by
 obtain ⟨_,_,C⟩:=I
 exact zMC C.sure.2.2
inductive zKM (P:List Nat) (U:Sto) (b e h dl i:Nat) (L:List V) (s x3 x4:V) (n:Nat) (F Fq:Calls) (body:List CS) (J:List V) (U2:Sto):Prop
 | mk (U':Sto) (Dr:List Deed) (vr:List V) (us:List Or) (x5 x6:V) (er:exL F Fq false body J U2=.ok (.next [s,bks,.ref dl,x3,x4,x5,x6]) U') (I:BkI P U' b e h Dr vr us) (hl:Dr.length <= n) (hd:U'[dl]?=some (.list (L.set i (.lst vr.reverse)))) (k:Kept [e,h,dl] U U')
noncomputable def zQ2:List CS:=match body9 with
 | [_,_,_,.ite _ _ b]=>b
 | _=>[]
theorem zIM {ro:Nat->Role} {a k:Nat} {us:List Or} {U0:Sto} (I:BkI P U b e h Dr vr us) (A:Acct U ro 0 a us rs) (x:Sure us Dr.length) (kr:∀ n,n=e \/ n=h->ro n=.other) (pl:Pl P i b e h dl) (hP:∀ n ∈ P,n < U.length) (hl:Dr.length < 1000) (hf:D.fit us) (hdp:DeedP P U D (D.raw k)) (hd:U[dl]?=some (.list L)) (hL:L[i]?=some (.lst vr.reverse)) (k0:Grow U0 U):zKM P U0 b e h dl i L s x3 (.int i) (Dr.length+1) (zA T09 (d+8) false) (zA T09 (d+8) true) zQ2 [s,bks,.ref dl,x3,.int i,.ref a,D.raw k] U:=by
 have hi:i < L.length:=(List.getElem?_eq_some_iff.mp hL).1
 cases zSF (d:=d) I pl.pe pl.ph hP (Nat.lt_trans hl (by decide)) hf hdp with
 | no v er c he =>
  have e3:=zCg (d:=d+4) modTab09 A x.ok x.one D k
  rw [he] at e3
  cases zO9 (d:=d+3) I (Nat.le_of_lt hl) with
  | mk U1 e4 k1 =>
  exact .mk U1 Dr vr us _ _ (yR (zH (zC (zKr pl) (zC Deed.var6 rfl)) er) (s_f (zE (zD (zH (zC Deed.var6 (zC rfl rfl)) e3) rfl (zPL (Deed.told he)))) (s_f (zE (zV (zH (zC (zKr pl) (zC (zFx hd hL) rfl)) e4) rfl)) wk))) (I.ext k1) (Nat.le_succ _) (by rw [kK hL]; exact k1 _ _ hd) (k0.trans k1).kept
 | yes U1 us' v er he I1 kp =>
  have A1:Acct U1 ro 0 a us rs:=A.keep fun n y hn hy=>⟨kp n y (fun q=>by
   have:n=e \/ n=h:=(List.mem_cons.mp q).imp (fun q=>q) fun q=>List.mem_singleton.mp q
   rw [kr n this] at hn
   exact zRc (x:=.other) (.inr (show 6 < 9 by decide)) hn) hy,rfl⟩
  have e3:=zCg (d:=d+4) modTab09 A1 x.ok x.one D k
  rw [he] at e3
  have d1:=pl.keep kp hd
  have I2:=I1.setD pl (.list (L.set i (.lst (vr.reverse++[D.raw k]))))
  have d2:(U1.set dl (.list (L.set i (.lst (vr.reverse++[D.raw k])))))[dl]?=some (.list (L.set i (.lst (vr.reverse++[D.raw k])))):=yO d1
  have hL2:(L.set i (.lst (vr.reverse++[D.raw k])))[i]?=some (.lst (vr.reverse++[D.raw k])):=List.getElem?_set_self hi
  cases zO9 (d:=d+3) I2 (show Dr.length+1 <= 1000 from hl) with
  | mk U3 e4 k1 =>
  rw [List.reverse_cons] at e4
  have hll:vr.reverse.length + [D.raw k].length <= LIM:=by
   obtain ⟨_,_,C⟩:=I
   rw [List.length_reverse,C.sure.2.2]; exact Nat.le_trans (show Dr.length+1 <= 1000 from hl) (by decide)
  exact .mk U3 (D :: Dr) (D.raw k :: vr) us' _ _ (yR (zH (zC (zKr pl) (zC Deed.var6 rfl)) er) (s_t (zE (zD (zH (zC Deed.var6 (zC rfl rfl)) e3) rfl rfl)) (zq (x:=.lst (vr.reverse++[D.raw k])) (zD (zFx d1 hL) (jF (zC Deed.var6 rfl)) (zGl hll)) rfl rfl (yQ _ d1 hi) (s_f (zE (zV (zH (zC (zKr pl) (zC (zFx d2 hL2) rfl)) e4) rfl)) wk)))) (I2.ext k1) (Nat.le_refl _) (by rw [List.reverse_cons]; exact k1 _ _ d2) (((k0.kept.trans kp).three.setD _).ext k1)
theorem zNK {x y:Bool} (h:(x&&y)=true):x=true:=by cases x; cases h; rfl
theorem zH9 {U0 U1:Sto} {body:List CS} {J:List V} (h1:(vr.reverse.length != 0)=true) (I:BkI P U b e h Dr vr us) (pl:Pl P i b e h dl) (hl:Dr.length < 1000) (hd:U[dl]?=some (.list L)) (hL:L[i]?=some (.lst vr.reverse)) (k0:Grow U0 U)
  (pre:∀ {r:R Fl},exL (zA T09 (d+8) false) (zA T09 (d+8) true) false zCT [s,bks,.ref dl,x3,.int i,x5,x6] U=r->exL (zA T09 (d+8) false) (zA T09 (d+8) true) false body J U1=r):zKM P U0 b e h dl i L s x3 (.int i) (Dr.length+1) (zA T09 (d+8) false) (zA T09 (d+8) true) body J U1:=by
 cases I.shape with
 | nil=>cases h1
 | cons D Dr dv vr =>
  cases zCV (d:=d) (s:=s) (x3:=x3) (x5:=x5) (x6:=x6) I pl (Nat.le_of_lt (Nat.lt_of_succ_lt hl)) hd hL with
  | mk U3 us3 er I3 d3 k3=>exact .mk U3 Dr vr us3 _ _ (pre er) I3 (Nat.le_succ_of_le (Nat.le_succ _)) d3 (k0.kept.trans k3)
theorem zHm {t:Nat} (hj:2 * t+1 < l.length) (hi:(((gI l (2 * t) * 48271).fmod 10103).fmod 4==0)=(i==1)) (hii:ev1 .toInt U (.bool (i==1))=some (.int i)) (pl:Pl P i b e h dl) (I:BkI P U b e h Dr vr us) (hP:∀ n ∈ P,n < U.length) (hl:Dr.length < 1000) (hd:U[dl]?=some (.list L)) (hL:L[i]?=some (.lst vr.reverse)) :
  zKM P U b e h dl i L (.lst (iv l)) (.int t) (.int i) (Dr.length+1) (zA T09 (d+8) false) (zA T09 (d+8) true) body9 [.lst (iv l),bks,.ref dl,.int t,x4,x5,x6] U:=by
 obtain ⟨lb,le,lh⟩:=I.lt
 have hC:=I
 obtain ⟨hr,B,C⟩:=hC
 obtain ⟨x,lhr,lvr⟩:=C.sure
 cases zQt (d:=d+4) C (Nat.lt_trans hl (by decide)) with
 | mk U1 ro rs e1 A k1 kr =>
 cases drw (P:=P) (fun n hn=>k1.lt (hP n hn)) (zPY (d:=d+4) modTab09 A x.ok (gI l (2 * t)) (gI l (2 * t+1))) with
 | mk D U2 hf hdp e2 k2 =>
 have k12:=k1.trans k2
 have I2:=I.ext k12
 have d2:=k12 _ _ hd
 have e4:∀ {F:Calls} {U:Sto} {y3 y4 y5 y6:V},evE F false (.p2 .index (.var 0) (.p2 .mul (.lit (.int 2)) (.var 3))) [.lst (iv l),bks,.ref dl,.int t,y4,y5,y6] U=.ok (.int (gI l (2 * t))) U:=fun {F U y3 y4 y5 y6}=>zPO rfl rfl (Nat.lt_of_succ_lt hj)
 have pre:∀ {r:R Fl},exL (zA T09 (d+8) false) (zA T09 (d+8) true) false (body9.drop 3) [.lst (iv l),bks,.ref dl,.int t,.int i,.ref U.length,D.raw U1.length] U2=r->exL (zA T09 (d+8) false) (zA T09 (d+8) true) false body9 [.lst (iv l),bks,.ref dl,.int t,x4,x5,x6] U=r:=fun kk =>
  zJ (v:=.int i) (zV (zD (z:=.bool (i==1)) (xL (c:=gI l (2 * t)) (e4 (y3:=.none)) rfl rfl rfl rfl) rfl (by rw [xM,hi])) hii) (zJ (zH (zC (zFx hd hL) rfl) e1) (zJ (zH (zC (e4 (y3:=.none)) (zC (zQ3 rfl rfl hj) (zC rfl rfl))) e2) kk))
 have et:evE (zA T09 (d+8) false) false (.and zB0 (.p2 .eq (.p2 .mod (.p2 .mod (.p2 .mul (.p2 .index (.var 0) (.p2 .mul (.lit (.int 2)) (.var 3))) (.lit (.int 48271))) (.lit (.int 10111))) (.lit (.int 8))) (.lit (.int 0)))) [.lst (iv l),bks,.ref dl,.int t,.int i,.ref U.length,D.raw U1.length] U2=.ok (.bool ((vr.reverse.length != 0)&&(((gI l (2 * t) * 48271).fmod 10111).fmod 8==0))) U2:=
  zG8 (zFy d2 hL) (zD (xL (c:=gI l (2 * t)) (e4 (y3:=.none)) rfl rfl rfl rfl) rfl (xM _ _ _))
 cases hc:((vr.reverse.length != 0)&&(((gI l (2 * t) * 48271).fmod 10111).fmod 8==0)) with
 | true =>
  rw [hc] at et
  exact zH9 (d:=d) (zNK hc) I2 pl hl d2 hL k12 fun er=>pre (s_t (zE et) er)
 | false =>
  rw [hc] at et
  cases zIM (d:=d) (s:=.lst (iv l)) (x3:=.int t) I2 (A.keep (U':=U2) (ro':=ro) fun n y _ hy=>⟨k2 n y hy,rfl⟩) x (fun n hn=>by
   have:n < U.length:=hn.elim (fun q=>q ▸ le) fun q=>q ▸ lh
   exact kr n _ (List.getElem?_eq_getElem this)) pl (fun n hn=>k12.lt (hP n hn)) hl hf hdp d2 hL k12 with
  | mk U3 Dr3 vr3 us3 y5 y6 er I3 hl3 d3 k3=>exact .mk U3 Dr3 vr3 us3 _ _ (pre (s_f (zE et) er)) I3 hl3 d3 k3
end
end Mine
end

section
namespace Mine
open PySem
section
variable {d:Nat} {U U':Sto} {i b e h dl n t:Nat} {us us':List Or} {P:List Nat} {Dr:List Deed} {vr L J:List V} {F Fq:Calls} {s x3 x4 x5 x6:V} {l:List Int}
theorem zNB {j n:Nat} (h:j < n / 2):2 * j+1 < n:=Nat.lt_of_lt_of_le (show 2 * j+1 < 2 * (j+1) from Nat.lt_succ_self _) (Nat.le_trans (Nat.mul_le_mul_left 2 h) (Nat.mul_div_le n 2))
theorem BkI.by (I:BkI P U b e h Dr vr us) {e' h':Nat} (k:Kept [e',h',dl] U U') (pl:∀ n ∈ [e',h',dl],n ∈ P) (nb:b ∉ [e',h',dl]) (ne:e ∉ [e',h',dl]) (nh:h ∉ [e',h',dl]):BkI P U' b e h Dr vr us:=
 I.keep (k.mono pl).two fun n y hn hy=>k n y (hn.elim (fun q=>q ▸ nb) fun hn=>hn.elim (fun q=>q ▸ ne) fun q=>q ▸ nh) hy
inductive WI (P:List Nat) (U:Sto) (b e h dl i:Nat) (L:List V) (J0:List V) (m:Nat):List V->Sto->Prop
 | mk (U':Sto) (Dr:List Deed) (vr:List V) (us:List Or) (I:BkI P U' b e h Dr vr us) (hm:Dr.length=m) (hl:m <= 1000) (hd:U'[dl]?=some (.list (L.set i (.lst vr.reverse)))) (k:Kept [e,h,dl] U U'):WI P U b e h dl i L J0 m J0 U'
inductive WE (P:List Nat) (U:Sto) (b e h dl i:Nat) (L:List V) (J0:List V):List V->Sto->Prop
 | mk (U':Sto) (us:List Or) (I:BkI P U' b e h [] [] us) (hd:U'[dl]?=some (.list (L.set i (.lst [])))) (k:Kept [e,h,dl] U U'):WE P U b e h dl i L J0 J0 U'
inductive WT (P:List Nat) (U:Sto) (b e h dl i:Nat) (L:List V) (J0:List V) (F Fq:Calls) (m:Nat) (J:List V) (U1:Sto):Prop
 | no (ec:evC F false (some zB0) J U1=.ok false U1) (W:WE P U b e h dl i L J0 J U1)
 | yes (ec:evC F false (some zB0) J U1=.ok true U1) (m':Nat) (U':Sto) (hm:m' < m) (er:exL F Fq false zCT J U1=.ok (.next J) U') (W:WI P U b e h dl i L J0 m' J U')
theorem zQN {m:Nat} {U1:Sto} (pl:Pl P i b e h dl) (hi:i < L.length) (W:WI P U b e h dl i L [s,bks,.ref dl,x3,.int i,x5,x6] m J U1):WT P U b e h dl i L [s,bks,.ref dl,x3,.int i,x5,x6] (zA T09 (d+8) false) (zA T09 (d+8) true) m J U1:=by
 cases W with
 | mk _ Dr vr us I hm hl hd k =>
 have hL2:∀ {v:V},(L.set i v)[i]?=some v:=fun {v}=>List.getElem?_set_self hi
 cases I.shape with
 | nil=>exact .no (zE (zFy hd hL2)) (.mk U1 us I hd k)
 | cons D Dr dv vr =>
  have hlt:Dr.length < m:=hm ▸ Nat.lt_succ_self _
  have hle:Dr.length <= 1000:=Nat.le_trans (Nat.le_of_lt hlt) hl
  cases zCV (d:=d) (s:=s) (x3:=x3) (x5:=x5) (x6:=x6) I pl hle hd hL2 with
  | mk U2 us2 er I2 d2 k2 =>
  rw [List.set_set] at d2
  exact .yes ((zE (zFy hd hL2)).trans (by rw [List.length_reverse]; rfl)) Dr.length U2 hlt er (.mk U2 Dr vr us2 I2 rfl hle d2 (k.trans k2))
theorem zOX (I:BkI P U b e h Dr vr us) (pl:Pl P i b e h dl) (hl:Dr.length <= 1000) (hd:U[dl]?=some (.list L)) (hL:L[i]?=some (.lst vr.reverse)) :
  ∃ J' U',exS (zA T09 (d+8) false) (zA T09 (d+8) true) false (.while zB0 zCT) [s,bks,.ref dl,x3,.int i,x5,x6] U=.ok (.next J') U' /\ WE P U b e h dl i L [s,bks,.ref dl,x3,.int i,x5,x6] J' U':=
 zFi (WI P U b e h dl i L [s,bks,.ref dl,x3,.int i,x5,x6]) Dr.length (Nat.lt_of_le_of_lt hl (by decide)) (.mk U Dr vr us I rfl hl (by rw [kK hL]; exact hd) (.refl U)) fun m J U1 W =>
  match zQN (d:=d) pl (List.getElem?_eq_some_iff.mp hL).1 W with
  | .no e W=>.inl ⟨e,W⟩
  | .yes e m' U' hm er W=>.inr ⟨e,m',J,U',hm,er,W⟩
theorem zOm {Q:Nat->Prop} {a b c:Nat} (ha:Q a) (hb:Q b) (hc:Q c):∀ n ∈ [a,b,c],Q n:=fun n hn=>(List.mem_cons.mp hn).elim (fun q=>q ▸ ha) (two_of hb hc n)
where two_of {Q:Nat->Prop} {b c:Nat} (hb:Q b) (hc:Q c):∀ n ∈ [b,c],Q n:=fun n hn=>(List.mem_cons.mp hn).elim (fun q=>q ▸ hb) fun q=>List.mem_singleton.mp q ▸ hc
theorem zR6 {Q:Nat->Prop} {a b c d e:Nat} (ha:Q a) (hb:Q b) (hc:Q c) (hd:Q d) (he:Q e):∀ n ∈ [a,b,c,d,e],Q n:=fun n hn=>(List.mem_cons.mp hn).elim (fun q=>q ▸ ha) fun hn=>(List.mem_cons.mp hn).elim (fun q=>q ▸ hb) (zOm hc hd he n)
noncomputable def pls (dl:Nat):List Nat:=[1,2,4,5,dl]
theorem m1:1 ∈ pls dl:=List.mem_cons_self
theorem m2:2 ∈ pls dl:=List.mem_cons_of_mem _ List.mem_cons_self
theorem m4:4 ∈ pls dl:=List.mem_cons_of_mem _ (List.mem_cons_of_mem _ List.mem_cons_self)
theorem m5:5 ∈ pls dl:=List.mem_cons_of_mem _ (List.mem_cons_of_mem _ (List.mem_cons_of_mem _ List.mem_cons_self))
theorem mD:dl ∈ pls dl:=List.mem_cons_of_mem _ (List.mem_cons_of_mem _ (List.mem_cons_of_mem _ (List.mem_cons_of_mem _ (List.mem_singleton.mpr rfl))))
theorem big {n:Nat} (h6:6 <= dl) (hn:n < 6):dl ≠ n:=fun q=>absurd h6 (Nat.not_le.mpr (q ▸ hn))
theorem pl0 (h6:6 <= dl):Pl (pls dl) 0 0 1 2 dl:=⟨fun _=>rfl,m1,m2,mD,big h6 (by decide),big h6 (by decide),big h6 (by decide)⟩
theorem pl1 (h6:6 <= dl):Pl (pls dl) 1 3 4 5 dl:=⟨fun _=>rfl,m4,m5,mD,big h6 (by decide),big h6 (by decide),big h6 (by decide)⟩
theorem zIm {n a b:Nat} (h6:6 <= dl) (hn:n < 6) (h1:n ≠ a) (h2:n ≠ b):n ∉ [a,b,dl]:=fun q=>(List.mem_cons.mp q).elim h1 fun q=>(List.mem_cons.mp q).elim h2 fun q=>big h6 hn (List.mem_singleton.mp q).symm
theorem BkI.by0 (h6:6 <= dl) (I:BkI (pls dl) U 3 4 5 Dr vr us) (k:Kept [1,2,dl] U U'):BkI (pls dl) U' 3 4 5 Dr vr us:=I.by k (zOm m1 m2 mD) (zIm h6 (by decide) (by decide) (by decide)) (zIm h6 (by decide) (by decide) (by decide)) (zIm h6 (by decide) (by decide) (by decide))
theorem BkI.by1 (h6:6 <= dl) (I:BkI (pls dl) U 0 1 2 Dr vr us) (k:Kept [4,5,dl] U U'):BkI (pls dl) U' 0 1 2 Dr vr us:=I.by k (zOm m4 m5 mD) (zIm h6 (by decide) (by decide) (by decide)) (zIm h6 (by decide) (by decide) (by decide)) (zIm h6 (by decide) (by decide) (by decide))
inductive I09 (s:V) (dl t:Nat):List V->Sto->Prop
 | mk (U:Sto) (D0 D1:List Deed) (v0 v1:List V) (u0 u1:List Or) (x3 x4 x5 x6:V) (hd:U[dl]?=some (.list [.lst v0.reverse,.lst v1.reverse])) (B0:BkI (pls dl) U 0 1 2 D0 v0 u0) (B1:BkI (pls dl) U 3 4 5 D1 v1 u1) (h0:D0.length <= 45+t) (h1:D1.length <= 45+t):I09 s dl t [s,bks,.ref dl,x3,x4,x5,x6] U
theorem zOn {D0 D1:List Deed} {v0 v1:List V} {u0 u1:List Or} {x:O} (B0:BkI P U 0 1 2 D0 v0 u0) (B1:BkI P U 3 4 5 D1 v1 u1) (hd:U[dl]?=some x):∀ n ∈ pls dl,n < U.length:=zR6 B0.lt.2.1 B0.lt.2.2 B1.lt.2.1 B1.lt.2.2 (alive hd)
theorem zRq (h6:6 <= dl) (hj:2 * t+1 < l.length) (ht:45+t < 1000) (I:I09 (.lst (iv l)) dl t J U):∃ J' U',exL (zA T09 (d+8) false) (zA T09 (d+8) true) false body9 (J.set 3 (.int t)) U=.ok (.next J') U' /\ I09 (.lst (iv l)) dl (t+1) J' U':=by
 cases I with
 | mk _ D0 D1 v0 v1 u0 u1 x3 x4 x5 x6 hd B0 B1 h0 h1 =>
 have hP:=zOn B0 B1 hd
 cases hc:(((gI l (2 * t) * 48271).fmod 10103).fmod 4==0) with
 | false =>
  cases zHm (d:=d) (i:=0) (x4:=x4) (x5:=x5) (x6:=x6) hj hc rfl (pl0 h6) B0 hP (Nat.lt_of_le_of_lt h0 ht) hd rfl with
  | mk U' D v u y5 y6 er I hl hd k=>exact ⟨_,U',er,.mk U' D D1 v v1 u u1 _ _ _ _ hd I (B1.by0 h6 k) (Nat.le_trans hl (Nat.succ_le_succ h0)) (Nat.le_succ_of_le h1)⟩
 | true =>
  cases zHm (d:=d) (i:=1) (x4:=x4) (x5:=x5) (x6:=x6) hj hc rfl (pl1 h6) B1 hP (Nat.lt_of_le_of_lt h1 ht) hd rfl with
  | mk U' D v u y5 y6 er I hl hd k=>exact ⟨_,U',er,.mk U' D0 D v0 v u0 u _ _ _ _ hd (B0.by1 h6 k) I (Nat.le_succ_of_le h0) (Nat.le_trans hl (Nat.succ_le_succ h1))⟩
inductive E09 (s:V) (dl j:Nat):List V->Sto->Prop
 | mk (U:Sto) (D0 D1:List Deed) (v0 v1:List V) (u0 u1:List Or) (x3 x4 x5 x6:V) (hd:U[dl]?=some (.list [.lst v0.reverse,.lst v1.reverse])) (B0:BkI (pls dl) U 0 1 2 D0 v0 u0) (B1:BkI (pls dl) U 3 4 5 D1 v1 u1) (h0:D0.length <= 1000) (h1:D1.length <= 1000) (e0:1 <= j->D0=[]) (e1:2 <= j->D1=[]):E09 s dl j [s,bks,.ref dl,x3,x4,x5,x6] U
theorem zSM {j:Nat} (h6:6 <= dl) (hj:j < 2) (I:E09 s dl j J U):∃ J' U',exL (zA T09 (d+8) false) (zA T09 (d+8) true) false [.while zB0 zCT] (J.set 4 (.int j)) U=.ok (.next J') U' /\ E09 s dl (j+1) J' U':=by
 cases I with
 | mk _ D0 D1 v0 v1 u0 u1 x3 x4 x5 x6 hd B0 B1 h0 h1 e0 e1 =>
 cases j with
 | zero =>
  obtain ⟨J',U',er,W⟩:=zOX (d:=d) (s:=s) (x3:=x3) (x5:=x5) (x6:=x6) B0 (pl0 h6) h0 hd rfl
  cases W with
  | mk _ us I hd k=>exact ⟨_,U',yX er wk,.mk U' [] D1 [] v1 us u1 _ _ _ _ hd I (B1.by0 h6 k) (Nat.zero_le _) h1 (fun _=>rfl) fun h=>absurd h (by decide)⟩
 | succ j =>
  obtain rfl:j=0:=Nat.le_zero.mp (Nat.le_of_lt_succ (Nat.lt_of_succ_lt_succ hj))
  obtain ⟨J',U',er,W⟩:=zOX (d:=d) (s:=s) (x3:=x3) (x5:=x5) (x6:=x6) B1 (pl1 h6) h1 hd rfl
  cases W with
  | mk _ us I hd k=>exact ⟨_,U',yX er wk,.mk U' D0 [] v0 [] u0 us _ _ _ _ hd (B0.by1 h6 k) I h0 (Nat.zero_le _) (fun _=>e0 (by decide)) fun _=>rfl⟩
theorem BkI.none (I:BkI P U b e h [] vr us):BookIn U b e h [] []:=by
 obtain ⟨hr,B,C⟩:=I
 have h1:=C.sure.2.1
 have h2:=C.cnt
 rw [List.length_eq_zero_iff.mp h1,List.length_eq_zero_iff.mp h2] at B
 exact B
theorem BookIn.by {hs es:List V} {e' h':Nat} (B:BookIn U b e h es hs) (k:Kept [e',h'] U U') (nb:b ∉ [e',h']) (ne:e ∉ [e',h']) (nh:h ∉ [e',h']):BookIn U' b e h es hs:=⟨k _ _ nb B.inst,k _ _ ne B.ent,k _ _ nh B.his,B.ne⟩
theorem zSP (E:E09 s dl 2 J U):∃ U',evE (zA T09 (d+8) false) false (.and (.call 128 [.p2 .index (.var 1) (.lit (.int 0))]) (.call 128 [.p2 .index (.var 1) (.lit (.int 1))])) J U=.ok (.bool true) U':=by
 cases E with
 | mk _ D0 D1 v0 v1 u0 u1 y3 y4 y5 y6 hd B0 B1 h0 h1 e0 e1 =>
 have n0:=(e0 (by decide) ▸ B0).none
 have n1:=(e1 (by decide) ▸ B1).none
 cases zQu (d:=d+3) n0 with
 | mk U3 en0 k3 =>
 cases zQu (d:=d+3) (n1.by k3 (by decide) (by decide) (by decide)) with
 | mk U4 en1 k4=>exact ⟨U4,zn (zH rfl en0) rfl (zH rfl en1)⟩
theorem zRZ (h6:6 <= dl) (ht:45+t <= 1000) (I:I09 s dl t J U):∃ J' U',exS (zA T09 (d+8) false) (zA T09 (d+8) true) false (.for 4 .range1 [.lit (.int 2)] [.while zB0 zCT]) J U=.ok (.next J') U' /\ E09 s dl 2 J' U':=
 xt (vs:=[.int 2]) (U1:=U) (it:=.now (zY 0 2)) (xs:=zY 0 2) (E09 s dl) rfl rfl (fun _ _ _ _=>.inl rfl) (by
  cases I with
  | mk _ D0 D1 v0 v1 u0 u1 x3 x4 x5 x6 hd B0 B1 h0 h1=>exact .mk U D0 D1 v0 v1 u0 u1 _ _ _ _ hd B0 B1 (Nat.le_trans h0 ht) (Nat.le_trans h1 ht) (fun h=>absurd h (by decide)) fun h=>absurd h (by decide)) fun j x J U hx E=>by
   obtain ⟨rfl,hj⟩:=xR (n:=2) hx
   exact zSM h6 hj E
theorem zRY (h6:6 <= dl) (hl:l.length <= 63) (I:I09 (.lst (iv l)) dl 0 J U):∃ J' U',exS (zA T09 (d+8) false) (zA T09 (d+8) true) false (.for 3 .range1 [.p2 .fdiv (.p1 .len (.var 0)) (.lit (.int 2))] body9) J U=.ok (.next J') U' /\ I09 (.lst (iv l)) dl (l.length / 2) J' U':=by
 have hl2:l.length / 2 <= 63:=Nat.le_trans (Nat.div_le_self _ _) hl
 have hn:(l.length:Int).fdiv 2=((l.length / 2:Nat):Int):=by rw [Int.fdiv_eq_ediv_of_nonneg _ (by decide)]; rfl
 have h0:evE (zA T09 (d+8) false) false (.var 0) J U=.ok (.lst (iv l)) U:=by cases I; rfl
 have h:=xt (F:=zA T09 (d+8) false) (Fq:=zA T09 (d+8) true) (i:=3) (k:=.range1) (src:=[.p2 .fdiv (.p1 .len (.var 0)) (.lit (.int 2))]) (body:=body9) (J:=J) (vs:=[.int ((l.length / 2:Nat):Int)]) (U:=U) (U1:=U) (it:=.now (zY 0 ((l.length / 2:Nat):Int))) (xs:=zY 0 ((l.length / 2:Nat):Int))
  (I09 (.lst (iv l)) dl) (zC (zD (zV h0 (zf _ (iv l))) rfl (by rw [wJ,wH _ _ 2 rfl,hn])) rfl) (zg _ (by rw [Int.natAbs_natCast]; exact Nat.le_trans hl2 (by decide))) (fun _ _ _ _=>.inl rfl) I fun j x J U hx I=>by
   obtain ⟨rfl,hj⟩:=xR hx
   exact zRq h6 (zNB hj) (Nat.lt_of_le_of_lt (Nat.add_le_add_left (Nat.le_trans (Nat.le_of_lt hj) hl2) 45) (by decide)) I
 rw [zDV] at h; exact h
inductive zOc (l:List Int) (F Fq:Calls):Prop
 | mk (dl:Nat) (J:List V) (U:Sto) (h6:6 <= dl) (I:I09 (.lst (iv l)) dl 0 J U) (er:∀ {r:R Fl},exL F Fq false (f09_131.body.drop 2) J U=r->exL F Fq false f09_131.body [.lst (iv l),.undef,.undef,.undef,.undef,.undef,.undef] []=r)
theorem zO8 (l:List Int):zOc l (zA T09 (d+8) false) (zA T09 (d+8) true):=by
 have b0:BkI [1,2,4,5] (wX (wX [])) 0 1 2 [] [] []:=⟨[],⟨rfl,rfl,rfl,by decide⟩,.nil⟩
 have b1:BookIn (wX (wX [])) 3 4 5 [] []:=⟨rfl,rfl,rfl,by decide⟩
 cases zSG (d:=d+1) b0 (by decide) (by decide) (by decide) (gI l 0) with
 | mk U1 Dr vr us e1 I1 hl1 k1 =>
 have B1:=b1.by k1 (by decide) (by decide) (by decide)
 have kx:zBX [1,2,4,5] (pls U1.length) U1 (U1++[.list [.lst vr.reverse,.lst []]]):=fun n x hn hx=>⟨fun q=>(List.mem_append.mp (show n ∈ [1,2,4,5]++[U1.length] from q)).elim hn fun q=>absurd (alive hx) (List.mem_singleton.mp q ▸ Nat.lt_irrefl _),zX hx⟩
 refine .mk U1.length [.lst (iv l),bks,.ref U1.length,.undef,.undef,.undef,.undef] (U1++[.list [.lst vr.reverse,.lst []]]) (alive B1.his) (.mk _ Dr [] vr [] us [] _ _ _ _ zj (I1.keep kx fun _ _ _ hx=>zX hx) ⟨[],B1.push _,.nil⟩ hl1 (Nat.zero_le _)) fun kk=>?_
 refine zJ (v:=bks) (U':=wX (wX [])) (jF (zC (zNs yK) (zC (zNs yK) rfl))) (zJ (v:=.ref U1.length) (U':=U1++[O.list [.lst vr.reverse,.lst []]]) ?_ kk)
 rw [kO,jF (zC (zH (zC rfl (zC (zH rfl (zPX modTab09 l 0)) rfl)) e1) (zC (v:=.lst []) rfl rfl))]; rfl
theorem law09 (l:List Int) (hl:l.length <= 63):∃ U,zA T09 (d+9) false 131 [.lst (iv l)] []=.ok (.bool true) U:=by
 cases zO8 (d:=d) l with
 | mk dl J U h6 I er =>
 obtain ⟨J1,U1,e1,I1⟩:=zRY (d:=d) h6 hl I
 obtain ⟨J2,U2,e2,E⟩:=zRZ (d:=d) h6 (Nat.le_trans (Nat.add_le_add_left (Nat.le_trans (Nat.div_le_self _ _) hl) 45) (by decide)) I1
 obtain ⟨U3,e3⟩:=zSP (d:=d) E
 exact ⟨U3,zG (fn:=f09_131) rfl rfl (er (yX e1 (yX e2 (zK e3))))⟩
end
end Mine
end

section
open PySem PySem.W PyProof.Rows
namespace Mine
noncomputable def pRows:List (Str × Int):=[("order",2),("deliver",4),("back",4),("swap",4),("credit",4),("pay",3),("refund",3),("move",4)]
noncomputable def zJ5 (P:Params) (ts:List (Nat × Nat)):List DictEntry:=(pRows.zip ts).map fun q=>⟨PyData.keyHash P q.1.1,.str q.1.1 q.2.1,.int q.1.2 q.2.2⟩
noncomputable def zHa (P:Params) (ts:List (Nat × Nat)):Obj:={ cls:=.type "dict",data:=.dict (zJ5 P ts).toArray 8 }
noncomputable def linedRows:List Str:=["deliver","back","swap","credit"]
noncomputable def jV (ts:List Nat):Obj:={ cls:=.type "tuple",data:=.seq ((linedRows.zip ts).map fun q=>Value.str q.1 q.2).toArray }
noncomputable def wW (h:Heap) (x:Str):Option (Addr × List Value):=match h.nsMap mainGlobals x with
 | some (.ref a)=>(h.get? a).bind fun o=>match o.data with
  | .cls cd=>if h.isNs cd.ns&&(h.nsMap cd.ns "__class__").isNone then some (a,cd.mro) else none
  | _=>none
 | _=>none
theorem zE4 {p q:Program} {loose:List Str} {Xt:Shared->Bool} {α:Type} {Yf:Shared->α} {Ya:World->α} {N:Nat} {m0:Nat} {ann:Option Value} {n M:Nat} {sc:World->OsState->Shared} {th:Thread}
  (e:opening p=plainProg p.main.scope.names) (hN:Nat.ble 600 N=true) (f:∀ s,fenceModules? p s=some s)
  (size:∀ w:World,((boot_heap w.params).isNs mainGlobals&&(Array.mk []:Array GenState).size==0,(boot_heap w.params).objs.size,(boot_heap w.params).nsMap mainGlobals "__annotations__")=(true,m0,ann))
  (run:∀ (w:World) (os:OsState) (r:Shared),topRun treeTable p w m0 ann M (sc w os) th=some r->topRun treeTable p w m0 ann (n+M) ⟨boot_heap w.params,Array.mk [],boot_drawn,boot_toks,os⟩ (topStub p)=some r) (le:Nat.ble (n+M) N=true)
  (looks:∀ w:World,(fun os=>(topRun treeTable p w m0 ann M (sc w os) th).map fun s₁=>((staticsOk (importedModules p.main.body) (boot_heap w.params) s₁.heap&&namesBound p s₁.heap&&gensDone s₁&&laidKept (boot_heap w.params) s₁.heap),
    openSeen q loose (importedModules p.main.body) Xt true s₁,Yf s₁))=fun _=>some (true,openGood q loose,Ya w)):LeftO p q loose Xt Yf Ya N:=fun w=>by
 obtain ⟨⟨h,gs,d,k,os⟩,e1,e'⟩:=Option.map_eq_some_iff.mp (boot_open e hN f w)
 obtain ⟨rfl,rfl,rfl,rfl⟩:h=boot_heap w.params /\ gs=Array.mk [] /\ d=boot_drawn /\ k=boot_toks:=by simpa using e'
 obtain ⟨z1,z2,z3⟩:_ /\ _ /\ _:=by simpa only [Prod.mk.injEq] using size w
 obtain ⟨s₁,r0,l0⟩:=Option.map_eq_some_iff.mp (congrFun (looks w) os)
 obtain ⟨l1,l2,l3⟩:_ /\ _ /\ _:=by simpa only [Prod.mk.injEq] using l0
 have r:=topRun_mono (N - (n+M)) _ _ _ _ (run w os s₁ r0)
 rw [show n+M+(N - (n+M))=N from Nat.add_sub_of_le (Nat.le_of_ble_eq_true le)] at r
 have t:topFrom treeTable p w N ⟨boot_heap w.params,Array.mk [],boot_drawn,boot_toks,os⟩=some s₁:=by
  unfold topFrom
  dsimp only
  rw [z1,z2,z3,r]
  show (match staticsOk (importedModules p.main.body) (boot_heap w.params) s₁.heap&&namesBound p s₁.heap&&gensDone s₁&&laidKept (boot_heap w.params) s₁.heap with | true=>_ | false=>_)=_
  rw [l1]
 unfold openEnds
 rw [e1]
 show (topFrom treeTable p w N ⟨boot_heap w.params,Array.mk [],boot_drawn,boot_toks,os⟩).map _=_
 rw [t]
 show some (openSeen q loose (importedModules p.main.body) Xt true s₁,Yf s₁)=_
 rw [l2,l3]
section
variable {p:Program} {w:World} {m0:Nat} {ann:Option Value} {env:Env} {q:Pos} {b:List Stmt}
theorem zII {n₀ nb n N i:Nat} {s0 s' r:Shared} {c:Code} {pos pb p':Pos} (hc:c=.body b env)
  (pre:(topGo treeTable p w m0 ann n₀ s0 (topStub p)).map (·.2)=some ⟨denote treeTable c,c,pos,[topFrame q]⟩)
  (blk:((topGo treeTable p w m0 ann n₀ s0 (topStub p)).bind fun x=>segRun treeTable p w m0 ann 1 nb x.1 (blockOf b env c pos [topFrame q])).map (fun y=>(y.1,y.2.2))=some (.next,c,pb))
  (g:(((topGo treeTable p w m0 ann n₀ s0 (topStub p)).bind fun x=>segRun treeTable p w m0 ann 1 nb x.1 (blockOf b env c pos [topFrame q])).bind fun y=>segRun treeTable p w m0 ann 1 n y.2.1 (piecesOf ((b.take i).drop 0) env c pb [topFrame q]))=some (.next,s',c,p'))
  (k:topRun treeTable p w m0 ann N s' (restOf (b.drop i) env c p' [topFrame q])=some r):topRun treeTable p w m0 ann (n₀+(nb+(n+N))) s0 (topStub p)=some r:=by
 obtain ⟨⟨sa,ta⟩,a1,a2⟩:=Option.map_eq_some_iff.mp pre
 replace a2:ta=_:=a2
 subst a2
 rw [a1] at blk g
 obtain ⟨⟨f1,sb,cb,pb'⟩,b1,b2⟩:=Option.map_eq_some_iff.mp blk
 cases b2
 replace b1:segRun treeTable p w m0 ann 1 nb sa (blockOf b env c pos [topFrame q])=some (.next,sb,c,pb):=b1
 replace g:((segRun treeTable p w m0 ann 1 nb sa (blockOf b env c pos [topFrame q])).bind fun y=>segRun treeTable p w m0 ann 1 n y.2.1 (piecesOf ((b.take i).drop 0) env c pb [topFrame q]))=_:=g
 rw [b1] at g
 replace g:segRun treeTable p w m0 ann 1 n sb (piecesOf (b.take i) env c pb [topFrame q])=some (.next,s',c,p'):=g
 refine go_top a1 ?_
 have:=piece_block b1 (k:=by
  have:=piece_app g k
  rwa [List.take_append_drop] at this)
 rwa [hc] at this ⊢
theorem jS {n N i j:Nat} {s s' r:Shared} {c:Code} {pos p':Pos} (hij:i <= j) (g:segRun treeTable p w m0 ann 1 n s (piecesOf ((b.take j).drop i) env c pos [topFrame q])=some (.next,s',c,p'))
  (k:topRun treeTable p w m0 ann N s' (restOf (b.drop j) env c p' [topFrame q])=some r):topRun treeTable p w m0 ann (n+N) s (restOf (b.drop i) env c pos [topFrame q])=some r:=by
 have e:b.drop i=(b.take j).drop i++b.drop j:=by
  rw [List.drop_take]
  have:b.drop j=(b.drop i).drop (j - i):=by rw [List.drop_drop,Nat.add_sub_of_le hij]
  rw [this,List.take_append_drop]
 rw [e]
 exact piece_app g k
end
end Mine
end

section
namespace Mine
open PySem PySem.W PyProof.Rows
inductive Says (P:Params) (pa la:Addr) (pt:List (Nat × Nat)) (lt:List Nat) (ms:List (Str × Addr × List Value)) (h:Heap):Prop
 | mk (mg:Str->Option Value) (N:h.Ns mainGlobals mg) (e1:mg ("PARTS" : Str)=some (.ref pa)) (e2:h.get? pa=some (zHa P pt)) (e3:mg ("LINED" : Str)=some (.ref la)) (e4:h.get? la=some (jV lt))
   (e5:∀ q ∈ ms,mg q.1=some (.ref q.2.1) /\ ∃ o cd,h.get? q.2.1=some o /\ o.data=.cls cd /\ cd.mro=q.2.2 /\ ∃ m,h.Ns cd.ns m /\ m "__class__"=none)
theorem zGE {h:Heap} {x:Str} {a:Addr} {m:List Value} (e:wW h x=some (a,m)):h.nsMap mainGlobals x=some (.ref a) /\ ∃ o cd,h.get? a=some o /\ o.data=.cls cd /\ cd.mro=m /\ ∃ m,h.Ns cd.ns m /\ m "__class__"=none:=by
 unfold wW at e
 split at e
 ·rename_i a' ha
  replace e:=bind_some e
  obtain ⟨o,ho,e⟩:=e
  split at e
  ·rename_i cd hd
   split at e
   ·rename_i hn
    cases e
    rw [Bool.and_eq_true] at hn
    exact ⟨ha,o,cd,ho,hd,rfl,_,.of_isNs hn.1,Option.isNone_iff_eq_none.mp hn.2⟩
   ·cases e
  ·cases e
 ·cases e
theorem zNd {P:Params} {pa la:Addr} {pt:List (Nat × Nat)} {lt:List Nat} {ms:List (Str × Addr × List Value)} {h:Heap}
  (e:(h.isNs mainGlobals,h.nsMap mainGlobals "PARTS",h.get? pa,h.nsMap mainGlobals "LINED",h.get? la,ms.map fun q=>wW h q.1)=(true,some (.ref pa),some (zHa P pt),some (.ref la),some (jV lt),ms.map fun q=>some q.2)):Says P pa la pt lt ms h:=by
 simp only [Prod.mk.injEq] at e
 obtain ⟨h0,h1,h2,h3,h4,h5⟩:=e
 refine .mk _ (.of_isNs h0) h1 h2 h3 h4 fun q hq=>?_
 obtain ⟨x,a,m⟩:=q
 exact zGE (List.map_inj_left.mp h5 _ hq)
theorem Says.keeps {P:Params} {pa la:Addr} {pt:List (Nat × Nat)} {lt:List Nat} {ms:List (Str × Addr × List Value)} {h h':Heap} (s:Says P pa la pt lt ms h) (k:∀ b o,h.get? b=some o->h'.get? b=some o):Says P pa la pt lt ms h':=by
 obtain ⟨mg,⟨o,es,ep,a,b⟩,e1,e2,e3,e4,e5⟩:=s
 exact .mk mg ⟨o,es,ep,k _ _ a,b⟩ e1 (k _ _ e2) e3 (k _ _ e4) fun q hq=>by
  obtain ⟨h1,o,cd,h2,h3,h4,m,hN,hm⟩:=e5 q hq
  exact ⟨h1,o,cd,k _ _ h2,h3,h4,m,hN.keeps k,hm⟩
theorem zFE (P:Params) (x:Str) (ts:List (Nat × Nat)) (hl:ts.length=8):∃ t,((zJ5 P ts).find? fun e=>Value.isStrOf x e.key).map (·.val)=((partsTable.find? fun p=>p.1==x).map fun p=>Value.int p.2 t):=by
 have key:∀ (l:List ((Str × Int) × (Nat × Nat))),∃ t,((l.map fun q=>(⟨PyData.keyHash P q.1.1,.str q.1.1 q.2.1,.int q.1.2 q.2.2⟩:DictEntry)).find? fun e=>Value.isStrOf x e.key).map (·.val)=(((l.map fun q=>q.1).find? fun p=>p.1==x).map fun p=>Value.int p.2 t):=by
  intro l
  induction l with
  | nil=>exact ⟨0,rfl⟩
  | cons q l ih =>
   rw [List.map_cons,List.map_cons,List.find?_cons,List.find?_cons]
   have hq:Value.isStrOf x (Value.str q.1.1 q.2.1)=(q.1.1==x):=rfl
   simp only [hq]
   cases h:(q.1.1==x) with
   | true=>exact ⟨q.2.2,rfl⟩
   | false=>exact ih
 have:=key (pRows.zip ts)
 rwa [show ((pRows.zip ts).map fun q=>q.1)=partsTable from List.map_fst_zip (by rw [hl]; decide)] at this
theorem zJ6 {S:zR} {dA:Addr} {ts:List (Nat × Nat)} (hl:ts.length=8) (hp:S.parts=.ref dA) (hd:(dA==sysModules)=false) (ho:S.hb.get? dA=some (zHa S.w.params ts)):wn S S.hb:=fun _=>by
 refine ⟨dA,fun x=>((zJ5 S.w.params ts).find? fun e=>Value.isStrOf x e.key).map (·.val),hp,hd,⟨_,(zJ5 S.w.params ts).toArray,8,ho,⟨rfl,rfl,rfl⟩,rfl,fun e he=>?_,fun k=>?_⟩,fun x=>zFE _ x ts hl⟩
 ·have he:e ∈ zJ5 S.w.params ts:=by simpa using he
  obtain ⟨q,_,rfl⟩:=List.mem_map.mp he
  exact ⟨_,beq_self_eq_true _,rfl⟩
 ·show ((zJ5 S.w.params ts).toArray.find? _).map _=_
  rw [List.find?_toArray]; rfl
section
variable {p:Program} {loose:List Str} {mean:ExcName->Option Value} {mg mb:Str->Option Value} {S:zR}
theorem zDY {h:Heap} {a:Addr} {c0:Value} {dd:Option Addr} {cd:ClassData} {sl:Array (Option Value)} {mA:Str->Option Value} {tl:List Value} (hA:h.get? a=some { cls:=c0,dict:=dd,data:=.cls cd,slots:=sl }) (hN:h.Ns cd.ns mA) (hq:∀ n ∈ quietNames,mA n=none) (hm:∃ m,h.Ns cd.ns m /\ m "__class__"=none) (T:TailC h tl):TailC h (.ref a :: tl):=by
 obtain ⟨m,h1,h2⟩:=hm
 obtain rfl:m=mA:=by rw [h1.eq_nsMap,hN.eq_nsMap]
 refine .own hA hN (fun n hn=>?_) T
 simp only [wF,List.mem_cons,List.not_mem_nil,or_false] at hn
 rcases hn with rfl | rfl | rfl
 ·exact hq _ (.tail _ (.head _))
 ·exact hq _ (.tail _ (.tail _ (.head _)))
 ·exact h2
noncomputable def zKi:Option Obj->Option ClassData
 | some o=>match o.data with
  | .cls cd=>some cd
  | _=>none
 | none=>none
theorem zNy {h:Heap} {a:Addr} {o:Obj} {cd:ClassData} (h1:h.get? a=some o) (h2:o.data=.cls cd):zKi (h.get? a)=some cd:=by
 rw [h1]
 show (match o.data with | .cls cd=>some cd | _=>none)=_
 rw [h2]
theorem zK0 (T:Top p loose mean mg mb S.hb) {x:Str} {c:Cls} {a:Addr} {bm:List Value} (hs:specOf p x=some ("ValueError.__new__",bmV)) (hg:mg x=some (.ref a)) (hm:∃ o cd,S.hb.get? a=some o /\ o.data=.cls cd /\ cd.mro=.ref a :: bm /\ ∃ m,S.hb.Ns cd.ns m /\ m "__class__"=none)
  (ht:bm=bmV \/ ∃ b,bm=.ref b :: bmV /\ ∃ o cd,S.hb.get? b=some o /\ o.data=.cls cd /\ ∃ m,S.hb.Ns cd.ns m /\ m "__class__"=none)
  (hcl:S.cl c=.ref a) (hkn:∀ d ∈ S.kn,(Value.ref a :: bm).contains (S.cl d)=c.sub d):kj S c:=by
 obtain ⟨C,O,_⟩:=T.ownAt hs
 obtain ⟨hb',bm'',N',nm',q',bs',hdct',sn',sub',ab',col',dd',k0',k1',k2',k3',k5',mN',hC',hN',hi',OTQ⟩:=id O
 obtain ⟨hb,bm',N,nm,q,bs,hdct,sn,sub,ab,col,dd,k0,k1,k2,k3,k5,mN,hC,hN,hi,OT⟩:=O.own
 obtain rfl:C=a:=by rw [hg] at hb; exact (Value.ref.inj (Option.some.inj hb)).symm
 obtain ⟨o,cd,h1,h2,h3,m,h4,h5⟩:=hm
 have e:some _=some cd:=(congrArg zKi hC).symm.trans (zNy h1 h2)
 have e:=Option.some.inj e
 have hbm:bm'=bm:=(List.cons.inj ((congrArg ClassData.mro e).trans h3)).2
 rw [<- congrArg ClassData.ns e] at h4
 subst hbm
 refine .mk C bm' N nm q bs hdct sn sub ab col dd k0 k1 k2 k3 k5 mN hcl hC hN hi OT hkn
  ?_
 have e':some _=some _:=(congrArg zKi hC).symm.trans (congrArg zKi hC')
 have e':=Option.some.inj e'
 have eN:N=N':=congrArg ClassData.ns e'
 have eB:bm'=bm'':=(List.cons.inj (congrArg ClassData.mro e')).2
 rw [<- eN] at hN'
 rw [<- eB] at OTQ
 refine zDY hC hN' hi' ⟨m,h4,h5⟩ ?_
 rcases ht with ht | ⟨b,ht,o,cd,g1,g2,g3⟩
 ·rw [ht]; exact .base
 ·rw [ht] at OTQ ⊢
  cases OTQ with
  | own hA hM hq _ =>
   have e2:some _=some cd:=(congrArg zKi hA).symm.trans (zNy g1 g2)
   rw [<- Option.some.inj e2] at g3
   exact zDY hA hM hq g3 .base
theorem zLP {la:Addr} {lt:List Nat} (hl:lt.length=4) (ho:S.hb.get? la=some (jV lt)):VR S [] [] S.hb (.tup [.str { cps:=#[100,101,108,105,118,101,114] },.str { cps:=#[98,97,99,107] },.str { cps:=#[115,119,97,112] },.str { cps:=#[99,114,101,100,105,116] }]) (.ref la):=by
 match lt,hl with
 | [a,b,c,d],_ =>
  refine ⟨la,_,_,rfl,⟨(fun h=>nomatch h),(fun h=>nomatch h)⟩,ho,?_,by decide⟩
  have s:∀ {x:Str} {t:Nat},x.length <= LIM->PyData.strOk x=true->VR S [] [] S.hb (.str x) (.str x t):=fun h1 h2=>⟨⟨_,rfl⟩,h1,h2⟩
  show VRs S [] [] S.hb _ [_,_,_,_]
  exact ⟨s (by decide) (by decide +kernel),s (by decide) (by decide +kernel),s (by decide) (by decide +kernel),s (by decide) (by decide +kernel),trivial⟩
end
end Mine
end

section
namespace Mine
open PySem PySem.W PyProof.Rows
noncomputable def zLO:V:=.tup [.str { cps:=#[100,101,108,105,118,101,114] },.str { cps:=#[98,97,99,107] },.str { cps:=#[115,119,97,112] },.str { cps:=#[99,114,101,100,105,116] }]
inductive zBD (v:Program) (x:Str):V->Prop
 | int (i:Int) (h:valOf v x=some (.int i)):zBD v x (.int i)
 | str (y:Str) (h:valOf v x=some (.str y)) (hl:y.length <= LIM) (hk:PyData.strOk y=true):zBD v x (.str y)
structure Ex where
 name:Str
 c:Cls
 a:Addr
 bm:List Value
structure zGh (v:Program) (loose:List Str) (C:Ctx) (tM tF:List (Nat × Fn)) (base:List (Str × V)) (ex:List Ex) (cl:Cls->Value) (kn:List Cls) (cb:ClsRec):Prop where
 k1:zRn C (recsOf v)=some tF
 k2:zHI C (recsOf v)=true
 k3:((recsOf v).map (·.name)).Nodup
 k4:zK8 v loose C=true
 hc:C.consts=base++[(("PARTS" : Str),.parts),(("LINED" : Str),zLO)]
 hb:∀ q ∈ base,zBD v q.1 q.2
 hx:C.excs=ex.map fun q=>(q.name,q.c)
 hs:∀ q ∈ ex,specOf v q.name=some ("ValueError.__new__",bmV)
 hcl:∀ q ∈ ex,cl q.c=.ref q.a
 hbm:∀ q ∈ ex,q.bm=bmV \/ ∃ q' ∈ ex,q.bm=.ref q'.a :: bmV
 hkn:∀ q ∈ ex,q.c ∈ kn /\ ∀ d ∈ kn,(Value.ref q.a :: q.bm).contains (cl d)=q.c.sub d
 m1:cb ∈ plainsOf v loose
 m2:cb.name=("Book" : Str)
 m3:zBQ C cb.meths=true
 m4:(cb.meths.map (·.name)).Nodup
 m5:zRo C cb.meths=some tM
 m6:C.meths.lookup ("__init__" : Str)=some 0
 m7:zL 0 ∈ cb.withCmp.quiet /\ zL 1 ∈ cb.withCmp.quiet
 at0:C.attrs=attrNames
 cln:Clean C
theorem book_walk {v p:Program} {loose:List Str} {w:World} {s₁:Shared} {mean:ExcName->Option Value} {mg mb:Str->Option Value} {C:Ctx} {tM tF:List (Nat × Fn)} {base:List (Str × V)} {ex:List Ex} {cl:Cls->Value} {kn:List Cls} {cb:ClsRec} {pa la:Addr} {pt:List (Nat × Nat)} {lt:List Nat} {a fa:Addr} {ns:List Int} {d k:Nat}
  (BL:zGh v loose C tM tF base ex cl kn cb) (T:Top v loose mean mg mb s₁.heap) (TE:TopE v loose mg s₁.heap) (Y:Says w.params pa la pt lt (ex.map fun q=>(q.name,q.a,.ref q.a :: q.bm)) s₁.heap) (hpt:pt.length=8) (hlt:lt.length=4) (hd:(pa==sysModules)=false)
  (hk:C.fns.find? (fun r=>r.2==k)=some (("law" : Str),k)) (hmg:mg ("law" : Str)=some (.ref fa)) (W:Well w.params s₁.heap (.ref a) (ofPy (.list (ns.map PyData.int)))) (hlen:ns.length <= 63) (hd1:d <= 100)
  (hres:∃ U',zA (fun k=>(tM++tF).lookup k) d false k [.lst (ns.map V.int)] []=.ok (.bool true) U') :
  codeAny (model p w) callerA (.call (.ref fa) ⟨[.ref a],[]⟩) (fun r s'=>r=.ok (.ret (.bool true)) /\ (∀ b o,s₁.heap.get? b=some o->s'.heap.get? b=some o) /\ s'.os=s₁.os /\ s'.gens=s₁.gens) s₁:=by
 obtain ⟨mg',N',e1,e2,e3,e4,e5⟩:=Y
 obtain rfl:mg'=mg:=by rw [N'.eq_nsMap,T.g.eq_nsMap]
 obtain ⟨Cb,N,mN,hCb,P⟩:=TE cb BL.m1
 rw [BL.m2] at hCb
 have key:∀ S:zR,S.hb=s₁.heap->S.fn=xq C mg' mN->S.hasParts=true->S.parts=.ref pa->S.prog=p->S.w=w->S.cl=cl->S.kn=kn->S.book=Cb->codeAny (model S.prog S.w) callerA (.call (.ref (S.fn k)) ⟨[.ref a],[]⟩) (fun r s'=>r=.ok (.ret (.bool true)) /\ (∀ b o,s₁.heap.get? b=some o->s'.heap.get? b=some o) /\ s'.os=s₁.os /\ s'.gens=s₁.gens) s₁:=by
  intro S h1 h2 h3 h4 h5 h6 h7 h8 h9
  have TS:Top v loose mean mg' mb S.hb:=h1 ▸ T
  have PS:PlainAt S.hb cb.withCmp Cb N mN:=h1 ▸ P
  have hc:∀ x u,C.consts.lookup x=some u->∃ w,mg' x=some w /\ VR S [] [] S.hb u w:=fun x u h=>by
   have hm:=zS h
   rw [BL.hc] at hm
   rcases List.mem_append.mp hm with hm | hm
   ·have:=BL.hb _ hm
    cases this with
    | int i hv =>
     obtain ⟨u,e,r⟩:=T.const _ _ hv
     have:=r S.hb
     cases this
     exact ⟨_,e,⟨_,rfl⟩⟩
    | str y hv hl hk =>
     obtain ⟨u,e,r⟩:=T.const _ _ hv
     have:=r S.hb
     cases this
     exact ⟨_,e,⟨⟨_,rfl⟩,hl,hk⟩⟩
   ·rcases List.mem_cons.mp hm with e | hm
    ·cases e; exact ⟨_,e1,⟨h3,h4.symm⟩⟩
    ·cases List.mem_singleton.mp hm
     exact ⟨_,e3,zLP hlt (h1 ▸ e4)⟩
  have hex:∀ x c,C.excs.lookup x=some c->∃ q ∈ ex,q.name=x /\ q.c=c:=fun x c h=>by
   have hm:=zS h
   rw [BL.hx] at hm
   obtain ⟨q,hq,e⟩:=List.mem_map.mp hm
   cases e
   exact ⟨q,hq,rfl,rfl⟩
  have fa0:∀ k fn,(tM++tF).lookup k=some fn->zFl S C k fn:=fun k fn h=>by
   rcases List.mem_append.mp (zA3 h) with hm | hm
   ·exact zIh PS BL.m3 h2 BL.m4 BL.m5 k fn hm
   ·exact zM7 TS BL.k2 h2 BL.k3 BL.k1 k fn hm
  have fs:=zK3 (tab:=tM++tF) TS BL.k2 h2 BL.k4 hc (fun _=>by rw [h9]; exact hCb) (.inr ⟨BL.at0,zMm PS h9 BL.m3 h2 BL.m6 BL.m7⟩)
   (fun x c h=>by obtain ⟨q,hq,rfl,rfl⟩:=hex x c h; rw [h7,BL.hcl q hq]; exact .inl (e5 _ (List.mem_map_of_mem hq)).1)
   (fun x c h=>by
    obtain ⟨q,hq,rfl,rfl⟩:=hex x c h
    have h5:=e5 _ (List.mem_map_of_mem hq)
    refine ⟨by rw [h8]; exact (BL.hkn q hq).1,fun _=>zK0 TS (BL.hs q hq) h5.1 (h1 ▸ h5.2)
     ((BL.hbm q hq).imp id fun ⟨q',hq',e⟩=>⟨q'.a,e,by obtain ⟨_,o,cd,g1,g2,_,g3⟩:=e5 _ (List.mem_map_of_mem hq'); exact ⟨o,cd,h1 ▸ g1,g2,h1 ▸ g3⟩⟩)
     (by rw [h7]; exact BL.hcl q hq) (by rw [h7,h8]; exact (BL.hkn q hq).2)⟩)
   (zJ6 hpt h4 hd (by rw [h1,h6]; exact e2)) (by rw [h4]; simp) fa0
  exact zLK fs BL.cln fa0 h1 hd1 (zHz (P:=w.params) (h1 ▸ W) (by simp only [LIM]; omega)) hres
 have:=key ⟨p,w,s₁.heap,cl,Cb,.ref pa,true,xq C mg' mN,kn⟩ rfl rfl rfl rfl rfl rfl rfl rfl rfl
 have ha:xq C mg' mN k=fa:=by unfold xq; rw [hk]; show zFG _=_; rw [hmg]; rfl
 simp only [ha] at this
 exact this
end Mine
end

section
open PySem PySem.W PyProof.Rows
set_option maxRecDepth 100000
namespace Mine
noncomputable def pw09:Program:=PySem.Challenge.pw_uf040020_09
noncomputable def wy (i:Nat):Stmt:=(pw09.main.body)[i]?.getD (.Pass ⟨0,0,0,0⟩)
noncomputable def zp (i j:Nat):Stmt:=match wy i with
 | .ClassDef _ _ _ b _ _ _ _ _ _ _=>b[j]?.getD (.Pass ⟨0,0,0,0⟩)
 | s=>s
noncomputable def zNb:Stmt->Arguments
 | .FunctionDef _ a _ _ _ _ _ _ _ _=>a
 | _=>⟨[],[],none,[],[],none,[]⟩
noncomputable def zRl:Stmt->List Stmt
 | .FunctionDef _ _ b _ _ _ _ _ _ _=>b
 | _=>[]
noncomputable def zP1:Stmt->Scope
 | .FunctionDef _ _ _ _ _ _ sc _ _ _=>sc
 | _=>pw09.main.scope
noncomputable def ky (P:Params) (c:Array Nat) (t:Nat) (v:Value):DictEntry:=⟨PyData.keyHash P ⟨c⟩,.str ⟨c⟩ t,v⟩
noncomputable def fo (c:Value) (a b:Array Nat) (S:Stmt) (g:Addr) (pm cd:Value):Obj:={ cls:=c,dict:=none,data:=.func { name:=⟨a⟩,qualname:=⟨b⟩,params:=zNb S,body:=.stmts (zRl S),scope:=zP1 S,globals:=g,closure:=[],defaults:=.none,kwdefaults:=.none,doc:=.none,pyModule:=pm,annotations:=none,code:=cd,closureTuple:=.none,builtins:=0 },slots:=#[] }
noncomputable def ob (c:Value) (d:Data):Obj:={ cls:=c,dict:=none,data:=d,slots:=#[] }
noncomputable def cd (a b:Array Nat) (n:Nat) (l c e:Int) (r:Nat) (t:Bool) (g:Nat) (x y z u:Value) (m:Nat):Obj:=ob (.type "code") (.fields #[.str ⟨a⟩ n,.str ⟨b⟩ (n+1),.str ⟨#[47,99,108,97,105,109,47,99,117,116,46,112,121]⟩ (n+2),.int l 0,.int c 0,.int 0 0,.int 0 0,.int e 0,.ref r,.bool t,.int 181 0,.ref g,x,y,z,u,.int m 0,.int l 0,.str ⟨#[47,99,108,97,105,109,47,99,117,116,46,112,121]⟩ (m+1)])
noncomputable def fm (a b c:Nat) (s:Array Nat) (n:Nat):Obj:={ cls:=.type "frame",dict:=none,data:=.plain,slots:=#[some (.ref a),some (.ref b),some (.ref c),none,some (.str ⟨s⟩ n),none,some (.ref 0)] }
noncomputable def tx (a:Array Nat) (k n s i j:Nat):Obj:={ cls:=.type "type",dict:=none,data:=.cls { name:=⟨a⟩,bases:=[.ref 31],mro:=[.ref k,.ref 31,.type "ValueError",.type "Exception",.type "BaseException",.type "object"],ns:=n,qualname:=⟨a⟩,hasDict:=true,slotNames:=[],subclasses:=[],abstract:=false,collection:=none,hasDel:=false },slots:=#[some (.ref s),none,some (.str ⟨a⟩ i),some (.str ⟨a⟩ j),some (.builtin "ValueError.__new__"),some (.bool true)] }
noncomputable def t3 (l:List (Int × Int × Nat)):Array Value:=(l.flatMap fun x=>[.int x.1 0,.int x.2.1 0,.ref x.2.2]).toArray
noncomputable def q0:Array Nat:=#[111,114,100,101,114,102,108,111,119,46,101,114,114,111,114,115]
noncomputable def q7:Array Nat:=#[95,95,115,116,97,116,105,99,95,97,116,116,114,105,98,117,116,101,115,95,95]
noncomputable def q8:Array Nat:=#[95,95,102,105,114,115,116,108,105,110,101,110,111,95,95]
noncomputable def q9:Array Nat:=#[111,114,100,101,114,102,108,111,119,46,98,111,111,107]
noncomputable def q10:Array Nat:=#[95,95,109,111,100,117,108,101,95,95]
noncomputable def q11:Array Nat:=#[70,108,111,119,69,114,114,111,114]
noncomputable def q12:Array Nat:=#[95,95,113,117,97,108,110,97,109,101,95,95]
noncomputable def q13:Array Nat:=#[111,114,100,101,114,102,108,111,119,46,108,105,110,101,115]
noncomputable def q14:Array Nat:=#[95,95,100,111,99,95,95]
noncomputable def q15:Array Nat:=#[99,104,101,99,107,95,108,105,110,101,115]
noncomputable def q16:Array Nat:=#[78,111,116,104,105,110,103,68,111,110,101]
noncomputable def q17:Array Nat:=#[95,95,97,110,110,111,116,97,116,105,111,110,115,95,95]
noncomputable def q18:Array Nat:=#[70,117,108,108,66,111,111,107]
noncomputable def q19:Array Nat:=#[78,111,76,105,110,101,115]
noncomputable def q20:Array Nat:=#[78,111,78,117,109,98,101,114]
noncomputable def q23:Array Nat:=#[83,97,109,101,79,114,100,101,114]
noncomputable def q24:Array Nat:=#[47,99,108,97,105,109,47,99,117,116,46,112,121]
noncomputable def q25:Array Nat:=#[115,101,108,102]
noncomputable def q26:Array Nat:=#[105,115,95,105,116,101,109]
noncomputable def q27:Array Nat:=#[109,111,115,116,95,111,102]
noncomputable def q28:Array Nat:=#[95,95,98,117,105,108,116,105,110,115,95,95]
noncomputable def q29:Array Nat:=#[78,111,79,114,100,101,114]
noncomputable def q30:Array Nat:=#[109,97,116,99,104,101,100]
noncomputable def q31:Array Nat:=#[95,119,97,108,108]
noncomputable def q32:Array Nat:=#[78,111,68,101,101,100]
noncomputable def q33:Array Nat:=#[97,98,99,100,101,102,103,104,105,106,107,108,109,110,111,112,113,114,115,116,117,118,119,120,121,122]
noncomputable def q34:Array Nat:=#[98,101,104,105,110,100]
noncomputable def q35:Array Nat:=#[95,95,112,97,99,107,97,103,101,95,95]
noncomputable def q36:Array Nat:=#[78,111,73,116,101,109]
noncomputable def q37:Array Nat:=#[99,104,97,114,103,101]
noncomputable def q38:Array Nat:=#[84,111,111,77,117,99,104]
noncomputable def q39:Array Nat:=#[95,95,108,111,97,100,101,114,95,95]
noncomputable def q40:Array Nat:=#[119,111,114,116,104]
noncomputable def q41:Array Nat:=#[95,95,99,97,99,104,101,100,95,95]
noncomputable def q42:Array Nat:=#[78,111,76,105,110,101]
noncomputable def q43:Array Nat:=#[98,101,103,117,110]
noncomputable def q44:Array Nat:=#[95,95,119,101,97,107,114,101,102,95,95]
noncomputable def q45:Array Nat:=#[111,114,100,101,114]
noncomputable def q46:Array Nat:=#[95,95,102,105,108,101,95,95]
noncomputable def q47:Array Nat:=#[95,95,105,110,105,116,95,95]
noncomputable def q48:Array Nat:=#[115,101,116,116,108,101,100]
noncomputable def q49:Array Nat:=#[95,95,110,97,109,101,95,95]
noncomputable def q50:Array Nat:=#[95,95,115,112,101,99,95,95]
noncomputable def q51:Array Nat:=#[66,111,111,107,46,95,95,105,110,105,116,95,95]
noncomputable def q52:Array Nat:=#[66,111,111,107,46,115,101,116,116,108,101,100]
noncomputable def q53:Array Nat:=#[66,111,111,107]
noncomputable def q54:Array Nat:=#[66,111,111,107,46,111,114,100,101,114,115]
noncomputable def q55:Array Nat:=#[111,114,100,101,114,115]
noncomputable def q56:Array Nat:=#[66,111,111,107,46,99,104,97,110,103,101]
noncomputable def q57:Array Nat:=#[66,111,111,107,46,112,97,121,95,105,110]
noncomputable def q58:Array Nat:=#[99,104,97,110,103,101]
noncomputable def q59:Array Nat:=#[112,97,121,95,105,110]
noncomputable def q60:Array Nat:=#[66,111,111,107,46,98,101,103,105,110]
noncomputable def q61:Array Nat:=#[66,111,111,107,46,99,104,101,99,107]
noncomputable def q62:Array Nat:=#[108,105,110,101]
noncomputable def q63:Array Nat:=#[66,111,111,107,46,110,101,101,100]
noncomputable def q64:Array Nat:=#[66,111,111,107,46,109,111,115,116]
noncomputable def q65:Array Nat:=#[66,111,111,107,46,116,117,114,110]
noncomputable def q66:Array Nat:=#[66,111,111,107,46,117,110,100,111]
noncomputable def q67:Array Nat:=#[66,111,111,107,46,116,111,108,100]
noncomputable def q68:Array Nat:=#[66,111,111,107,46,111,119,101,100]
noncomputable def q69:Array Nat:=#[66,111,111,107,46,114,111,119,115]
noncomputable def q70:Array Nat:=#[98,101,103,105,110]
noncomputable def q71:Array Nat:=#[66,111,111,107,46,112,97,105,100]
noncomputable def q72:Array Nat:=#[99,104,101,99,107]
noncomputable def q73:Array Nat:=#[66,111,111,107,46,110,101,116]
noncomputable def q74:Array Nat:=#[119,111,114,100]
noncomputable def q75:Array Nat:=#[110,101,101,100]
noncomputable def q76:Array Nat:=#[109,111,115,116]
noncomputable def q77:Array Nat:=#[116,117,114,110]
noncomputable def q78:Array Nat:=#[117,110,100,111]
noncomputable def q79:Array Nat:=#[116,111,108,100]
noncomputable def q80:Array Nat:=#[111,119,101,100]
noncomputable def q81:Array Nat:=#[114,111,119,115]
noncomputable def q82:Array Nat:=#[112,97,105,100]
noncomputable def q83:Array Nat:=#[66,111,111,107,46,100,111]
noncomputable def q84:Array Nat:=#[100,101,101,100]
noncomputable def q85:Array Nat:=#[110,101,116]
noncomputable def zNN (P:Params):Obj:=ob (.type "dict") (.dict #[(ky P q49 165 (.str ⟨q0⟩ 194)),(ky P q14 166 .none),(ky P q35 167 .none),(ky P q39 168 (.builtin "__main__.__loader__#opaque")),(ky P q50 169 .none),(ky P q17 170 (.ref 6)),(ky P q28 171 (.ref 4)),(ky P q46 173 (.str ⟨q24⟩ 172)),(ky P q41 174 .none),(ky P q31 193 (.ref 21)),(ky P q11 213 (.ref 31)),(ky P q32 229 (.ref 44)),(ky P q19 245 (.ref 56))] 13)
noncomputable def zLd (P:Params):Obj:=ob .none (.fields (t3 [(1,0,20),(5,0,27),(7,0,40),(9,0,52)]))
noncomputable def vO (P:Params):Obj:=cd #[60,109,111,100,117,108,101,62] #[60,109,111,100,117,108,101,62] 182 1 0 0 11 false 12 .none .none .none .none 185
noncomputable def vP (P:Params):Obj:=fm 13 3 3 #[95,95,109,97,105,110,95,95] 164
noncomputable def vQ (P:Params):Obj:=ob (.type "tuple") (.seq #[(.str ⟨#[107]⟩ 190)] 0)
noncomputable def vR (P:Params):Obj:=fo .none q31 q31 (wy 0) 0 .none .none
noncomputable def vS (P:Params):Obj:=cd q31 q31 187 1 1 3 15 true 16 .none (.ref 17) (.ref 18) (.ref 19) 191
noncomputable def vT (P:Params):Obj:=fo (.type "function") q31 q31 (wy 0) 3 (.str ⟨#[95,95,109,97,105,110,95,95]⟩ 164) (.ref 20)
noncomputable def vU (P:Params):Obj:=ob (.type "tuple") (.seq #[(.type "ValueError")] 0)
noncomputable def zM (P:Params):Obj:=ob (.type "builtin_function_or_method") (.fields #[(.builtin "type.__prepare__"),(.type "type")])
noncomputable def vV (P:Params):Obj:=ob (.type "dict") (.dict #[(ky P q10 203 (.str ⟨q0⟩ 194)),(ky P q12 205 (.str ⟨q11⟩ 204)),(ky P q8 207 (.int (5) 206)),(ky P q7 208 (.ref 29))] 4)
noncomputable def vW (P:Params):Obj:=cd q11 q11 198 5 0 0 25 false 26 .none .none .none .none 201
noncomputable def vX (P:Params):Obj:=fm 27 3 24 q0 194
noncomputable def vY (P:Params):Obj:=ob (.type "dict") (.dict #[(ky P q10 203 (.str ⟨q0⟩ 194)),(ky P q8 207 (.int (5) 206)),(ky P q7 208 (.ref 29)),(ky P q44 210 (.ref 32)),(ky P q14 211 .none)] 3)
noncomputable def zLi (P:Params):Obj:={ cls:=(.type "type"),dict:=none,data:=(.cls { name:=⟨q11⟩,bases:=[(.type "ValueError")],mro:=[(.ref 31),(.type "ValueError"),(.type "Exception"),(.type "BaseException"),(.type "object")],ns:=30,qualname:=⟨q11⟩,hasDict:=true,slotNames:=[],subclasses:=[(.ref 44),(.ref 56)],abstract:=false,collection:=none,hasDel:=false }),slots:=#[(some (.ref 22)),none,(some (.str ⟨q11⟩ 196)),(some (.str ⟨q11⟩ 204)),(some (.builtin "ValueError.__new__")),(some (.bool true))] }
noncomputable def vZ (P:Params):Obj:=ob (.type "getset_descriptor") (.fields #[(.str ⟨q44⟩ 209),(.ref 31),(.builtin "ExceptionGroup.__weakref__"),.none])
noncomputable def vd (P:Params):Obj:=ob (.type "super") (.fields #[(.ref 31),(.ref 31),(.ref 31)])
noncomputable def vf (P:Params):Obj:=ob (.type "builtin_function_or_method") (.fields #[(.builtin "object.__init_subclass__"),(.ref 31)])
noncomputable def zO (P:Params):Obj:=ob (.type "tuple") (.seq #[(.ref 31)] 0)
noncomputable def vg (P:Params):Obj:=ob (.type "dict") (.dict #[(ky P q10 221 (.str ⟨q0⟩ 194)),(ky P q12 223 (.str ⟨q32⟩ 222)),(ky P q8 225 (.int (7) 224)),(ky P q7 226 (.ref 42))] 4)
noncomputable def vj (P:Params):Obj:=cd q32 q32 216 7 0 0 38 false 39 .none .none .none .none 219
noncomputable def vm (P:Params):Obj:=fm 40 3 37 q0 194
noncomputable def vn (P:Params):Obj:=ob (.type "dict") (.dict #[(ky P q10 221 (.str ⟨q0⟩ 194)),(ky P q8 225 (.int (7) 224)),(ky P q7 226 (.ref 42)),(ky P q14 227 .none)] 2)
noncomputable def vp (P:Params):Obj:=tx q32 44 43 35 214 222
noncomputable def vq (P:Params):Obj:=ob (.type "super") (.fields #[(.ref 44),(.ref 44),(.ref 44)])
noncomputable def vt (P:Params):Obj:=ob (.type "builtin_function_or_method") (.fields #[(.builtin "object.__init_subclass__"),(.ref 44)])
noncomputable def vw (P:Params):Obj:=ob (.type "dict") (.dict #[(ky P q10 237 (.str ⟨q0⟩ 194)),(ky P q12 239 (.str ⟨q19⟩ 238)),(ky P q8 241 (.int (9) 240)),(ky P q7 242 (.ref 54))] 4)
noncomputable def vy (P:Params):Obj:=cd q19 q19 232 9 0 0 50 false 51 .none .none .none .none 235
noncomputable def vz (P:Params):Obj:=fm 52 3 49 q0 194
noncomputable def kA (P:Params):Obj:=ob (.type "dict") (.dict #[(ky P q10 237 (.str ⟨q0⟩ 194)),(ky P q8 241 (.int (9) 240)),(ky P q7 242 (.ref 54)),(ky P q14 243 .none)] 2)
noncomputable def kB (P:Params):Obj:=tx q19 56 55 47 230 238
noncomputable def kC (P:Params):Obj:=ob (.type "super") (.fields #[(.ref 56),(.ref 56),(.ref 56)])
noncomputable def kD (P:Params):Obj:=ob (.type "builtin_function_or_method") (.fields #[(.builtin "object.__init_subclass__"),(.ref 56)])
noncomputable def zRG (P:Params):Heap:=⟨⟨[boot_o_0 P,boot_o_1 P,boot_o_2 P,zNN P,boot_o_4 P,boot_o_5 P,boot_o_6 P,boot_o_7 P,boot_o_8 P,boot_o_9 P,boot_o_10 P,boot_o_7 P,zLd P,vO P,vP P,boot_o_7 P,boot_o_8 P,vQ P,boot_o_7 P,vR P,vS P,vT P,vU P,zM P,vV P,boot_o_7 P,boot_o_8 P,vW P,vX P,boot_o_7 P,vY P,zLi P,vZ P,vd P,vf P,zO P,zM P,vg P,boot_o_7 P,boot_o_8 P,vj P,vm P,boot_o_7 P,vn P,vp P,vq P,vt P,zO P,zM P,vw P,boot_o_7 P,boot_o_8 P,vy P,vz P,boot_o_7 P,kA P,kB P,kC P,kD P]⟩,{ registered:=[],finalised:=[],alive:=[],known:=0,ids:=[],orphanDicts:=[],counting:=false,cnt:=#[],zero:=[],soft:=0,below:=false,collecting:=false }⟩
noncomputable def zOO (w:World) (os:OsState):Shared:=⟨zRG w.params,#[],⟨0,0,0,0⟩,246,os⟩
noncomputable def zNO (P:Params):Obj:=ob (.type "dict") (.dict #[(ky P q49 165 (.str ⟨q0⟩ 194)),(ky P q14 166 .none),(ky P q35 167 .none),(ky P q39 168 (.builtin "__main__.__loader__#opaque")),(ky P q50 169 .none),(ky P q17 170 (.ref 6)),(ky P q28 171 (.ref 4)),(ky P q46 173 (.str ⟨q24⟩ 172)),(ky P q41 174 .none),(ky P q31 193 (.ref 21)),(ky P q11 213 (.ref 31)),(ky P q32 229 (.ref 44)),(ky P q19 245 (.ref 56)),(ky P q36 261 (.ref 68)),(ky P q20 277 (.ref 80)),(ky P q18 293 (.ref 92)),(ky P q29 309 (.ref 104))] 17)
noncomputable def zLe (P:Params):Obj:=ob .none (.fields (t3 [(1,0,20),(5,0,27),(7,0,40),(9,0,52),(11,0,64),(13,0,76),(15,0,88),(17,0,100)]))
noncomputable def zLj (P:Params):Obj:={ cls:=(.type "type"),dict:=none,data:=(.cls { name:=⟨q11⟩,bases:=[(.type "ValueError")],mro:=[(.ref 31),(.type "ValueError"),(.type "Exception"),(.type "BaseException"),(.type "object")],ns:=30,qualname:=⟨q11⟩,hasDict:=true,slotNames:=[],subclasses:=[(.ref 44),(.ref 56),(.ref 68),(.ref 80),(.ref 92),(.ref 104)],abstract:=false,collection:=none,hasDel:=false }),slots:=#[(some (.ref 22)),none,(some (.str ⟨q11⟩ 196)),(some (.str ⟨q11⟩ 204)),(some (.builtin "ValueError.__new__")),(some (.bool true))] }
noncomputable def ja (P:Params):Obj:=ob (.type "dict") (.dict #[(ky P q10 253 (.str ⟨q0⟩ 194)),(ky P q12 255 (.str ⟨q36⟩ 254)),(ky P q8 257 (.int (11) 256)),(ky P q7 258 (.ref 66))] 4)
noncomputable def jb (P:Params):Obj:=cd q36 q36 248 11 0 0 62 false 63 .none .none .none .none 251
noncomputable def jc (P:Params):Obj:=fm 64 3 61 q0 194
noncomputable def jd (P:Params):Obj:=ob (.type "dict") (.dict #[(ky P q10 253 (.str ⟨q0⟩ 194)),(ky P q8 257 (.int (11) 256)),(ky P q7 258 (.ref 66)),(ky P q14 259 .none)] 2)
noncomputable def je (P:Params):Obj:=tx q36 68 67 59 246 254
noncomputable def jf (P:Params):Obj:=ob (.type "super") (.fields #[(.ref 68),(.ref 68),(.ref 68)])
noncomputable def jg (P:Params):Obj:=ob (.type "builtin_function_or_method") (.fields #[(.builtin "object.__init_subclass__"),(.ref 68)])
noncomputable def jh (P:Params):Obj:=ob (.type "dict") (.dict #[(ky P q10 269 (.str ⟨q0⟩ 194)),(ky P q12 271 (.str ⟨q20⟩ 270)),(ky P q8 273 (.int (13) 272)),(ky P q7 274 (.ref 78))] 4)
noncomputable def ji (P:Params):Obj:=cd q20 q20 264 13 0 0 74 false 75 .none .none .none .none 267
noncomputable def jj (P:Params):Obj:=fm 76 3 73 q0 194
noncomputable def jk (P:Params):Obj:=ob (.type "dict") (.dict #[(ky P q10 269 (.str ⟨q0⟩ 194)),(ky P q8 273 (.int (13) 272)),(ky P q7 274 (.ref 78)),(ky P q14 275 .none)] 2)
noncomputable def jl (P:Params):Obj:=tx q20 80 79 71 262 270
noncomputable def jm (P:Params):Obj:=ob (.type "super") (.fields #[(.ref 80),(.ref 80),(.ref 80)])
noncomputable def jn (P:Params):Obj:=ob (.type "builtin_function_or_method") (.fields #[(.builtin "object.__init_subclass__"),(.ref 80)])
noncomputable def jo (P:Params):Obj:=ob (.type "dict") (.dict #[(ky P q10 285 (.str ⟨q0⟩ 194)),(ky P q12 287 (.str ⟨q18⟩ 286)),(ky P q8 289 (.int (15) 288)),(ky P q7 290 (.ref 90))] 4)
noncomputable def jp (P:Params):Obj:=cd q18 q18 280 15 0 0 86 false 87 .none .none .none .none 283
noncomputable def jq (P:Params):Obj:=fm 88 3 85 q0 194
noncomputable def jr (P:Params):Obj:=ob (.type "dict") (.dict #[(ky P q10 285 (.str ⟨q0⟩ 194)),(ky P q8 289 (.int (15) 288)),(ky P q7 290 (.ref 90)),(ky P q14 291 .none)] 2)
noncomputable def js (P:Params):Obj:=tx q18 92 91 83 278 286
noncomputable def jt (P:Params):Obj:=ob (.type "super") (.fields #[(.ref 92),(.ref 92),(.ref 92)])
noncomputable def ju (P:Params):Obj:=ob (.type "builtin_function_or_method") (.fields #[(.builtin "object.__init_subclass__"),(.ref 92)])
noncomputable def jv (P:Params):Obj:=ob (.type "dict") (.dict #[(ky P q10 301 (.str ⟨q0⟩ 194)),(ky P q12 303 (.str ⟨q29⟩ 302)),(ky P q8 305 (.int (17) 304)),(ky P q7 306 (.ref 102))] 4)
noncomputable def kW (P:Params):Obj:=cd q29 q29 296 17 0 0 98 false 99 .none .none .none .none 299
noncomputable def kX (P:Params):Obj:=fm 100 3 97 q0 194
noncomputable def kY (P:Params):Obj:=ob (.type "dict") (.dict #[(ky P q10 301 (.str ⟨q0⟩ 194)),(ky P q8 305 (.int (17) 304)),(ky P q7 306 (.ref 102)),(ky P q14 307 .none)] 2)
noncomputable def kZ (P:Params):Obj:=tx q29 104 103 95 294 302
noncomputable def ka (P:Params):Obj:=ob (.type "super") (.fields #[(.ref 104),(.ref 104),(.ref 104)])
noncomputable def kg (P:Params):Obj:=ob (.type "builtin_function_or_method") (.fields #[(.builtin "object.__init_subclass__"),(.ref 104)])
noncomputable def zRH (P:Params):Heap:=⟨⟨[boot_o_0 P,boot_o_1 P,boot_o_2 P,zNO P,boot_o_4 P,boot_o_5 P,boot_o_6 P,boot_o_7 P,boot_o_8 P,boot_o_9 P,boot_o_10 P,boot_o_7 P,zLe P,vO P,vP P,boot_o_7 P,boot_o_8 P,vQ P,boot_o_7 P,vR P,vS P,vT P,vU P,zM P,vV P,boot_o_7 P,boot_o_8 P,vW P,vX P,boot_o_7 P,vY P,zLj P,vZ P,vd P,vf P,zO P,zM P,vg P,boot_o_7 P,boot_o_8 P,vj P,vm P,boot_o_7 P,vn P,vp P,vq P,vt P,zO P,zM P,vw P,boot_o_7 P,boot_o_8 P,vy P,vz P,boot_o_7 P,kA P,kB P,kC P,kD P,zO P,zM P,ja P,boot_o_7 P,boot_o_8 P,jb P,jc P,boot_o_7 P,jd P,je P,jf P,jg P,zO P,zM P,jh P,boot_o_7 P,boot_o_8 P,ji P,jj P,boot_o_7 P,jk P,jl P,jm P,jn P,zO P,zM P,jo P,boot_o_7 P,boot_o_8 P,jp P,jq P,boot_o_7 P,jr P,js P,jt P,ju P,zO P,zM P,jv P,boot_o_7 P,boot_o_8 P,kW P,kX P,boot_o_7 P,kY P,kZ P,ka P,kg P]⟩,{ registered:=[],finalised:=[],alive:=[],known:=0,ids:=[],orphanDicts:=[],counting:=false,cnt:=#[],zero:=[],soft:=0,below:=false,collecting:=false }⟩
noncomputable def zOP (w:World) (os:OsState):Shared:=⟨zRH w.params,#[],⟨0,0,0,0⟩,310,os⟩
noncomputable def zNP (P:Params):Obj:=ob (.type "dict") (.dict #[(ky P q49 165 (.str ⟨q0⟩ 194)),(ky P q14 166 .none),(ky P q35 167 .none),(ky P q39 168 (.builtin "__main__.__loader__#opaque")),(ky P q50 169 .none),(ky P q17 170 (.ref 6)),(ky P q28 171 (.ref 4)),(ky P q46 173 (.str ⟨q24⟩ 172)),(ky P q41 174 .none),(ky P q31 193 (.ref 21)),(ky P q11 213 (.ref 31)),(ky P q32 229 (.ref 44)),(ky P q19 245 (.ref 56)),(ky P q36 261 (.ref 68)),(ky P q20 277 (.ref 80)),(ky P q18 293 (.ref 92)),(ky P q29 309 (.ref 104)),(ky P q23 325 (.ref 116)),(ky P q42 341 (.ref 128)),(ky P q38 357 (.ref 140)),(ky P q16 373 (.ref 152))] 21)
noncomputable def zLf (P:Params):Obj:=ob .none (.fields (t3 [(1,0,20),(5,0,27),(7,0,40),(9,0,52),(11,0,64),(13,0,76),(15,0,88),(17,0,100),(19,0,112),(21,0,124),(23,0,136),(25,0,148)]))
noncomputable def zB5 (P:Params):Obj:={ cls:=(.type "type"),dict:=none,data:=(.cls { name:=⟨q11⟩,bases:=[(.type "ValueError")],mro:=[(.ref 31),(.type "ValueError"),(.type "Exception"),(.type "BaseException"),(.type "object")],ns:=30,qualname:=⟨q11⟩,hasDict:=true,slotNames:=[],subclasses:=[(.ref 44),(.ref 56),(.ref 68),(.ref 80),(.ref 92),(.ref 104),(.ref 116),(.ref 128),(.ref 140),(.ref 152)],abstract:=false,collection:=none,hasDel:=false }),slots:=#[(some (.ref 22)),none,(some (.str ⟨q11⟩ 196)),(some (.str ⟨q11⟩ 204)),(some (.builtin "ValueError.__new__")),(some (.bool true))] }
noncomputable def zAP (P:Params):Obj:=ob (.type "dict") (.dict #[(ky P q10 317 (.str ⟨q0⟩ 194)),(ky P q12 319 (.str ⟨q23⟩ 318)),(ky P q8 321 (.int (19) 320)),(ky P q7 322 (.ref 114))] 4)
noncomputable def zAQ (P:Params):Obj:=cd q23 q23 312 19 0 0 110 false 111 .none .none .none .none 315
noncomputable def zAR (P:Params):Obj:=fm 112 3 109 q0 194
noncomputable def zAS (P:Params):Obj:=ob (.type "dict") (.dict #[(ky P q10 317 (.str ⟨q0⟩ 194)),(ky P q8 321 (.int (19) 320)),(ky P q7 322 (.ref 114)),(ky P q14 323 .none)] 2)
noncomputable def zAT (P:Params):Obj:=tx q23 116 115 107 310 318
noncomputable def zAU (P:Params):Obj:=ob (.type "super") (.fields #[(.ref 116),(.ref 116),(.ref 116)])
noncomputable def zAV (P:Params):Obj:=ob (.type "builtin_function_or_method") (.fields #[(.builtin "object.__init_subclass__"),(.ref 116)])
noncomputable def zAW (P:Params):Obj:=ob (.type "dict") (.dict #[(ky P q10 333 (.str ⟨q0⟩ 194)),(ky P q12 335 (.str ⟨q42⟩ 334)),(ky P q8 337 (.int (21) 336)),(ky P q7 338 (.ref 126))] 4)
noncomputable def zAX (P:Params):Obj:=cd q42 q42 328 21 0 0 122 false 123 .none .none .none .none 331
noncomputable def zAY (P:Params):Obj:=fm 124 3 121 q0 194
noncomputable def zAZ (P:Params):Obj:=ob (.type "dict") (.dict #[(ky P q10 333 (.str ⟨q0⟩ 194)),(ky P q8 337 (.int (21) 336)),(ky P q7 338 (.ref 126)),(ky P q14 339 .none)] 2)
noncomputable def zAa (P:Params):Obj:=tx q42 128 127 119 326 334
noncomputable def zAb (P:Params):Obj:=ob (.type "super") (.fields #[(.ref 128),(.ref 128),(.ref 128)])
noncomputable def zAc (P:Params):Obj:=ob (.type "builtin_function_or_method") (.fields #[(.builtin "object.__init_subclass__"),(.ref 128)])
noncomputable def zAd (P:Params):Obj:=ob (.type "dict") (.dict #[(ky P q10 349 (.str ⟨q0⟩ 194)),(ky P q12 351 (.str ⟨q38⟩ 350)),(ky P q8 353 (.int (23) 352)),(ky P q7 354 (.ref 138))] 4)
noncomputable def zAe (P:Params):Obj:=cd q38 q38 344 23 0 0 134 false 135 .none .none .none .none 347
noncomputable def zAf (P:Params):Obj:=fm 136 3 133 q0 194
noncomputable def zAg (P:Params):Obj:=ob (.type "dict") (.dict #[(ky P q10 349 (.str ⟨q0⟩ 194)),(ky P q8 353 (.int (23) 352)),(ky P q7 354 (.ref 138)),(ky P q14 355 .none)] 2)
noncomputable def zAh (P:Params):Obj:=tx q38 140 139 131 342 350
noncomputable def zAi (P:Params):Obj:=ob (.type "super") (.fields #[(.ref 140),(.ref 140),(.ref 140)])
noncomputable def zAj (P:Params):Obj:=ob (.type "builtin_function_or_method") (.fields #[(.builtin "object.__init_subclass__"),(.ref 140)])
noncomputable def zAk (P:Params):Obj:=ob (.type "dict") (.dict #[(ky P q10 365 (.str ⟨q0⟩ 194)),(ky P q12 367 (.str ⟨q16⟩ 366)),(ky P q8 369 (.int (25) 368)),(ky P q7 370 (.ref 150))] 4)
noncomputable def zAl (P:Params):Obj:=cd q16 q16 360 25 0 0 146 false 147 .none .none .none .none 363
noncomputable def zAm (P:Params):Obj:=fm 148 3 145 q0 194
noncomputable def zAn (P:Params):Obj:=ob (.type "dict") (.dict #[(ky P q10 365 (.str ⟨q0⟩ 194)),(ky P q8 369 (.int (25) 368)),(ky P q7 370 (.ref 150)),(ky P q14 371 .none)] 2)
noncomputable def zAo (P:Params):Obj:=tx q16 152 151 143 358 366
noncomputable def zAp (P:Params):Obj:=ob (.type "super") (.fields #[(.ref 152),(.ref 152),(.ref 152)])
noncomputable def zAq (P:Params):Obj:=ob (.type "builtin_function_or_method") (.fields #[(.builtin "object.__init_subclass__"),(.ref 152)])
noncomputable def zRI (P:Params):Heap:=⟨⟨[boot_o_0 P,boot_o_1 P,boot_o_2 P,zNP P,boot_o_4 P,boot_o_5 P,boot_o_6 P,boot_o_7 P,boot_o_8 P,boot_o_9 P,boot_o_10 P,boot_o_7 P,zLf P,vO P,vP P,boot_o_7 P,boot_o_8 P,vQ P,boot_o_7 P,vR P,vS P,vT P,vU P,zM P,vV P,boot_o_7 P,boot_o_8 P,vW P,vX P,boot_o_7 P,vY P,zB5 P,vZ P,vd P,vf P,zO P,zM P,vg P,boot_o_7 P,boot_o_8 P,vj P,vm P,boot_o_7 P,vn P,vp P,vq P,vt P,zO P,zM P,vw P,boot_o_7 P,boot_o_8 P,vy P,vz P,boot_o_7 P,kA P,kB P,kC P,kD P,zO P,zM P,ja P,boot_o_7 P,boot_o_8 P,jb P,jc P,boot_o_7 P,jd P,je P,jf P,jg P,zO P,zM P,jh P,boot_o_7 P,boot_o_8 P,ji P,jj P,boot_o_7 P,jk P,jl P,jm P,jn P,zO P,zM P,jo P,boot_o_7 P,boot_o_8 P,jp P,jq P,boot_o_7 P,jr P,js P,jt P,ju P,zO P,zM P,jv P,boot_o_7 P,boot_o_8 P,kW P,kX P,boot_o_7 P,kY P,kZ P,ka P,kg P,zO P,zM P,zAP P,boot_o_7 P,boot_o_8 P,zAQ P,zAR P,boot_o_7 P,zAS P,zAT P,zAU P,zAV P,zO P,zM P,zAW P,boot_o_7 P,boot_o_8 P,zAX P,zAY P,boot_o_7 P,zAZ P,zAa P,zAb P,zAc P,zO P,zM P,zAd P,boot_o_7 P,boot_o_8 P,zAe P,zAf P,boot_o_7 P,zAg P,zAh P,zAi P,zAj P,zO P,zM P,zAk P,boot_o_7 P,boot_o_8 P,zAl P,zAm P,boot_o_7 P,zAn P,zAo P,zAp P,zAq P]⟩,{ registered:=[],finalised:=[],alive:=[],known:=0,ids:=[],orphanDicts:=[],counting:=false,cnt:=#[],zero:=[],soft:=0,below:=false,collecting:=false }⟩
noncomputable def zOQ (w:World) (os:OsState):Shared:=⟨zRI w.params,#[],⟨0,0,0,0⟩,374,os⟩
noncomputable def zNQ (P:Params):Obj:=ob (.type "dict") (.dict #[(ky P q49 165 (.str ⟨q9⟩ 454)),(ky P q14 166 .none),(ky P q35 167 .none),(ky P q39 168 (.builtin "__main__.__loader__#opaque")),(ky P q50 169 .none),(ky P q17 170 (.ref 6)),(ky P q28 171 (.ref 4)),(ky P q46 173 (.str ⟨q24⟩ 172)),(ky P q41 174 .none),(ky P q31 193 (.ref 21)),(ky P q11 213 (.ref 31)),(ky P q32 229 (.ref 44)),(ky P q19 245 (.ref 56)),(ky P q36 261 (.ref 68)),(ky P q20 277 (.ref 80)),(ky P q18 293 (.ref 92)),(ky P q29 309 (.ref 104)),(ky P q23 325 (.ref 116)),(ky P q42 341 (.ref 128)),(ky P q38 357 (.ref 140)),(ky P q16 373 (.ref 152)),(ky P #[76,69,84,84,69,82,83] 377 (.str ⟨q33⟩ 376)),(ky P #[77,79,83,84,95,83,73,71,78,83] 379 (.int (12) 378)),(ky P #[77,79,83,84,95,76,73,78,69,83] 381 (.int (20) 380)),(ky P #[77,79,83,84,95,80,73,69,67,69,83] 383 (.int (1000000) 382)),(ky P #[77,79,83,84,95,67,69,78,84,83] 385 (.int (1000000000) 384)),(ky P #[77,79,83,84,95,80,65,67,75] 387 (.int (1000) 386)),(ky P q40 396 (.ref 161)),(ky P q26 402 (.ref 166)),(ky P q15 410 (.ref 173)),(ky P q43 417 (.ref 180)),(ky P q37 424 (.ref 187)),(ky P q27 432 (.ref 194)),(ky P q34 445 (.ref 201)),(ky P q30 453 (.ref 206)),(ky P #[77,79,83,84,95,79,82,68,69,82,83] 457 (.int (40) 456)),(ky P #[80,65,82,84,83] 482 (.ref 207))] 37)
noncomputable def zLg (P:Params):Obj:=ob .none (.fields (t3 [(1,0,20),(5,0,27),(7,0,40),(9,0,52),(11,0,64),(13,0,76),(15,0,88),(17,0,100),(19,0,112),(21,0,124),(23,0,136),(25,0,148),(34,0,160),(36,0,165),(40,0,172),(48,0,179),(50,0,186),(52,0,193),(58,0,200),(74,0,205)]))
noncomputable def zCu (P:Params):Obj:=ob (.type "tuple") (.seq #[(.str ⟨#[112,105,101,99,101,115]⟩ 391),(.str ⟨#[99,101,110,116,115]⟩ 392),(.str ⟨#[112,97,99,107]⟩ 393)] 0)
noncomputable def zCv (P:Params):Obj:=fo .none q40 q40 (wy 20) 0 .none .none
noncomputable def zCw (P:Params):Obj:=cd q40 q40 388 34 3 3 155 true 156 .none (.ref 157) (.ref 158) (.ref 159) 394
noncomputable def zCx (P:Params):Obj:=fo (.type "function") q40 q40 (wy 20) 3 (.str ⟨q13⟩ 374) (.ref 160)
noncomputable def zCy (P:Params):Obj:=fo .none q26 q26 (wy 21) 0 .none .none
noncomputable def zCz (P:Params):Obj:=cd q26 q26 397 36 1 3 162 true 163 .none .none .none (.ref 164) 400
noncomputable def zC0 (P:Params):Obj:=fo (.type "function") q26 q26 (wy 21) 3 (.str ⟨q13⟩ 374) (.ref 165)
noncomputable def zC1 (P:Params):Obj:=ob (.type "tuple") (.seq #[(.str ⟨#[108,105,110,101,115]⟩ 406),(.str ⟨q62⟩ 407)] 0)
noncomputable def zC2 (P:Params):Obj:=fo .none q15 q15 (wy 22) 0 .none .none
noncomputable def zC3 (P:Params):Obj:=cd q15 q15 403 40 1 3 167 true 168 .none (.ref 169) (.ref 170) (.ref 171) 408
noncomputable def zC4 (P:Params):Obj:=fo (.type "function") q15 q15 (wy 22) 3 (.str ⟨q13⟩ 374) (.ref 172)
noncomputable def zC5 (P:Params):Obj:=ob (.type "tuple") (.seq #[(.str ⟨q62⟩ 414)] 0)
noncomputable def zC6 (P:Params):Obj:=fo .none q43 q43 (wy 23) 0 .none .none
noncomputable def zC7 (P:Params):Obj:=cd q43 q43 411 48 1 3 174 true 175 .none (.ref 176) (.ref 177) (.ref 178) 415
noncomputable def zC8 (P:Params):Obj:=fo (.type "function") q43 q43 (wy 23) 3 (.str ⟨q13⟩ 374) (.ref 179)
noncomputable def zC9 (P:Params):Obj:=ob (.type "tuple") (.seq #[(.str ⟨q62⟩ 421)] 0)
noncomputable def zDA (P:Params):Obj:=fo .none q37 q37 (wy 24) 0 .none .none
noncomputable def zDB (P:Params):Obj:=cd q37 q37 418 50 1 3 181 true 182 .none (.ref 183) (.ref 184) (.ref 185) 422
noncomputable def zDC (P:Params):Obj:=fo (.type "function") q37 q37 (wy 24) 3 (.str ⟨q13⟩ 374) (.ref 186)
noncomputable def zDD (P:Params):Obj:=ob (.type "tuple") (.seq #[(.str ⟨q74⟩ 428),(.str ⟨q62⟩ 429)] 0)
noncomputable def zDE (P:Params):Obj:=fo .none q27 q27 (wy 25) 0 .none .none
noncomputable def zDF (P:Params):Obj:=cd q27 q27 425 52 2 3 188 true 189 .none (.ref 190) (.ref 191) (.ref 192) 430
noncomputable def zDG (P:Params):Obj:=fo (.type "function") q27 q27 (wy 25) 3 (.str ⟨q13⟩ 374) (.ref 193)
noncomputable def zDH (P:Params):Obj:=ob (.type "tuple") (.seq #[(.str ⟨q74⟩ 436),(.str ⟨q62⟩ 437),(.str ⟨#[109,97,110,121]⟩ 438),(.str ⟨#[115,101,110,116]⟩ 439),(.str ⟨#[104,111,109,101]⟩ 440),(.str ⟨#[97,103,97,105,110]⟩ 441),(.str ⟨#[99,114,101,100,105,116,101,100]⟩ 442)] 0)
noncomputable def zDI (P:Params):Obj:=fo .none q34 q34 (wy 26) 0 .none .none
noncomputable def zDJ (P:Params):Obj:=cd q34 q34 433 58 3 3 195 true 196 .none (.ref 197) (.ref 198) (.ref 199) 443
noncomputable def zDK (P:Params):Obj:=fo (.type "function") q34 q34 (wy 26) 3 (.str ⟨q13⟩ 374) (.ref 200)
noncomputable def zDL (P:Params):Obj:=fo .none q30 q30 (wy 28) 0 .none .none
noncomputable def zDM (P:Params):Obj:=cd q30 q30 448 74 1 3 202 true 203 .none .none .none (.ref 204) 451
noncomputable def zDN (P:Params):Obj:=fo (.type "function") q30 q30 (wy 28) 3 (.str ⟨#[111,114,100,101,114,102,108,111,119,46,109,97,116,99,104,105,110,103]⟩ 446) (.ref 205)
noncomputable def zDO (P:Params):Obj:=ob (.type "dict") (.dict #[(ky P q45 458 (.int (2) 459)),(ky P #[100,101,108,105,118,101,114] 460 (.int (4) 461)),(ky P #[98,97,99,107] 462 (.int (4) 463)),(ky P #[115,119,97,112] 464 (.int (4) 465)),(ky P #[99,114,101,100,105,116] 466 (.int (4) 467)),(ky P #[112,97,121] 468 (.int (3) 469)),(ky P #[114,101,102,117,110,100] 470 (.int (3) 471)),(ky P #[109,111,118,101] 472 (.int (4) 473))] 8)
noncomputable def zRJ (P:Params):Heap:=⟨⟨[boot_o_0 P,boot_o_1 P,boot_o_2 P,zNQ P,boot_o_4 P,boot_o_5 P,boot_o_6 P,boot_o_7 P,boot_o_8 P,boot_o_9 P,boot_o_10 P,boot_o_7 P,zLg P,vO P,vP P,boot_o_7 P,boot_o_8 P,vQ P,boot_o_7 P,vR P,vS P,vT P,vU P,zM P,vV P,boot_o_7 P,boot_o_8 P,vW P,vX P,boot_o_7 P,vY P,zB5 P,vZ P,vd P,vf P,zO P,zM P,vg P,boot_o_7 P,boot_o_8 P,vj P,vm P,boot_o_7 P,vn P,vp P,vq P,vt P,zO P,zM P,vw P,boot_o_7 P,boot_o_8 P,vy P,vz P,boot_o_7 P,kA P,kB P,kC P,kD P,zO P,zM P,ja P,boot_o_7 P,boot_o_8 P,jb P,jc P,boot_o_7 P,jd P,je P,jf P,jg P,zO P,zM P,jh P,boot_o_7 P,boot_o_8 P,ji P,jj P,boot_o_7 P,jk P,jl P,jm P,jn P,zO P,zM P,jo P,boot_o_7 P,boot_o_8 P,jp P,jq P,boot_o_7 P,jr P,js P,jt P,ju P,zO P,zM P,jv P,boot_o_7 P,boot_o_8 P,kW P,kX P,boot_o_7 P,kY P,kZ P,ka P,kg P,zO P,zM P,zAP P,boot_o_7 P,boot_o_8 P,zAQ P,zAR P,boot_o_7 P,zAS P,zAT P,zAU P,zAV P,zO P,zM P,zAW P,boot_o_7 P,boot_o_8 P,zAX P,zAY P,boot_o_7 P,zAZ P,zAa P,zAb P,zAc P,zO P,zM P,zAd P,boot_o_7 P,boot_o_8 P,zAe P,zAf P,boot_o_7 P,zAg P,zAh P,zAi P,zAj P,zO P,zM P,zAk P,boot_o_7 P,boot_o_8 P,zAl P,zAm P,boot_o_7 P,zAn P,zAo P,zAp P,zAq P,boot_o_7 P,boot_o_8 P,zCu P,boot_o_7 P,zCv P,zCw P,zCx P,boot_o_7 P,boot_o_8 P,zCy P,zCz P,zC0 P,boot_o_7 P,boot_o_8 P,zC1 P,boot_o_7 P,zC2 P,zC3 P,zC4 P,boot_o_7 P,boot_o_8 P,zC5 P,boot_o_7 P,zC6 P,zC7 P,zC8 P,boot_o_7 P,boot_o_8 P,zC9 P,boot_o_7 P,zDA P,zDB P,zDC P,boot_o_7 P,boot_o_8 P,zDD P,boot_o_7 P,zDE P,zDF P,zDG P,boot_o_7 P,boot_o_8 P,zDH P,boot_o_7 P,zDI P,zDJ P,zDK P,boot_o_7 P,boot_o_8 P,zDL P,zDM P,zDN P,zDO P]⟩,{ registered:=[],finalised:=[],alive:=[],known:=0,ids:=[],orphanDicts:=[],counting:=false,cnt:=#[],zero:=[],soft:=0,below:=false,collecting:=false }⟩
noncomputable def zOR (w:World) (os:OsState):Shared:=⟨zRJ w.params,#[],⟨0,0,0,0⟩,483,os⟩
noncomputable def zNR (P:Params):Obj:=ob (.type "dict") (.dict #[(ky P q49 165 (.str ⟨q9⟩ 454)),(ky P q14 166 .none),(ky P q35 167 .none),(ky P q39 168 (.builtin "__main__.__loader__#opaque")),(ky P q50 169 .none),(ky P q17 170 (.ref 6)),(ky P q28 171 (.ref 4)),(ky P q46 173 (.str ⟨q24⟩ 172)),(ky P q41 174 .none),(ky P q31 193 (.ref 21)),(ky P q11 213 (.ref 31)),(ky P q32 229 (.ref 44)),(ky P q19 245 (.ref 56)),(ky P q36 261 (.ref 68)),(ky P q20 277 (.ref 80)),(ky P q18 293 (.ref 92)),(ky P q29 309 (.ref 104)),(ky P q23 325 (.ref 116)),(ky P q42 341 (.ref 128)),(ky P q38 357 (.ref 140)),(ky P q16 373 (.ref 152)),(ky P #[76,69,84,84,69,82,83] 377 (.str ⟨q33⟩ 376)),(ky P #[77,79,83,84,95,83,73,71,78,83] 379 (.int (12) 378)),(ky P #[77,79,83,84,95,76,73,78,69,83] 381 (.int (20) 380)),(ky P #[77,79,83,84,95,80,73,69,67,69,83] 383 (.int (1000000) 382)),(ky P #[77,79,83,84,95,67,69,78,84,83] 385 (.int (1000000000) 384)),(ky P #[77,79,83,84,95,80,65,67,75] 387 (.int (1000) 386)),(ky P q40 396 (.ref 161)),(ky P q26 402 (.ref 166)),(ky P q15 410 (.ref 173)),(ky P q43 417 (.ref 180)),(ky P q37 424 (.ref 187)),(ky P q27 432 (.ref 194)),(ky P q34 445 (.ref 201)),(ky P q30 453 (.ref 206)),(ky P #[77,79,83,84,95,79,82,68,69,82,83] 457 (.int (40) 456)),(ky P #[80,65,82,84,83] 482 (.ref 207)),(ky P #[76,73,78,69,68] 487 (.ref 208)),(ky P q53 649 (.ref 329))] 39)
noncomputable def zLh (P:Params):Obj:=ob .none (.fields (t3 [(1,0,20),(5,0,27),(7,0,40),(9,0,52),(11,0,64),(13,0,76),(15,0,88),(17,0,100),(19,0,112),(21,0,124),(23,0,136),(25,0,148),(34,0,160),(36,0,165),(40,0,172),(48,0,179),(50,0,186),(52,0,193),(58,0,200),(74,0,205),(97,0,214)]))
noncomputable def zIo (P:Params):Obj:=ob (.type "tuple") (.seq #[(.str ⟨#[100,101,108,105,118,101,114]⟩ 483),(.str ⟨#[98,97,99,107]⟩ 484),(.str ⟨#[115,119,97,112]⟩ 485),(.str ⟨#[99,114,101,100,105,116]⟩ 486)] 0)
noncomputable def zIp (P:Params):Obj:=ob (.type "dict") (.dict #[(ky P q10 495 (.str ⟨q9⟩ 454)),(ky P q12 497 (.str ⟨q53⟩ 496)),(ky P q8 499 (.int (97) 498)),(ky P q47 506 (.ref 222)),(ky P q75 514 (.ref 229)),(ky P #[100,111] 522 (.ref 236)),(ky P q70 528 (.ref 241)),(ky P q72 536 (.ref 248)),(ky P q76 544 (.ref 255)),(ky P q58 555 (.ref 262)),(ky P q59 566 (.ref 269)),(ky P q77 582 (.ref 276)),(ky P q78 591 (.ref 283)),(ky P q55 598 (.ref 290)),(ky P q79 604 (.ref 295)),(ky P q82 612 (.ref 302)),(ky P q80 618 (.ref 307)),(ky P q81 626 (.ref 314)),(ky P q48 632 (.ref 319)),(ky P q85 639 (.ref 326)),(ky P q7 642 (.ref 327))] 21)
noncomputable def zIq (P:Params):Obj:=ob .none (.fields (t3 [(99,4,221),(103,4,228),(107,4,235),(115,4,240),(123,4,247),(136,4,254),(141,4,261),(156,4,268),(161,4,275),(170,4,282),(181,4,289),(184,4,294),(188,4,301),(192,4,306),(196,4,313),(200,4,318),(204,4,325)]))
noncomputable def zIr (P:Params):Obj:=cd q53 q53 490 97 0 0 212 false 213 .none .none .none .none 493
noncomputable def zIs (P:Params):Obj:=fm 214 3 211 q9 454
noncomputable def zIt (P:Params):Obj:=ob (.type "tuple") (.seq #[(.str ⟨q25⟩ 503)] 0)
noncomputable def zIu (P:Params):Obj:=fo .none q47 q51 (zp 33 0) 0 .none .none
noncomputable def zIv (P:Params):Obj:=cd q47 q51 500 99 1 3 216 true 217 .none (.ref 218) (.ref 219) (.ref 220) 504
noncomputable def zIw (P:Params):Obj:=fo (.type "function") q47 q51 (zp 33 0) 3 (.str ⟨q9⟩ 454) (.ref 221)
noncomputable def zIx (P:Params):Obj:=ob (.type "tuple") (.seq #[(.str ⟨q25⟩ 510),(.str ⟨q45⟩ 511)] 0)
noncomputable def zIy (P:Params):Obj:=fo .none q75 q63 (zp 33 1) 0 .none .none
noncomputable def zIz (P:Params):Obj:=cd q75 q63 507 103 2 3 223 true 224 .none (.ref 225) (.ref 226) (.ref 227) 512
noncomputable def zI0 (P:Params):Obj:=fo (.type "function") q75 q63 (zp 33 1) 3 (.str ⟨q9⟩ 454) (.ref 228)
noncomputable def zI1 (P:Params):Obj:=ob (.type "tuple") (.seq #[(.str ⟨q25⟩ 518),(.str ⟨q84⟩ 519)] 0)
noncomputable def zI2 (P:Params):Obj:=fo .none #[100,111] q83 (zp 33 2) 0 .none .none
noncomputable def zI3 (P:Params):Obj:=cd #[100,111] q83 515 107 2 3 230 true 231 .none (.ref 232) (.ref 233) (.ref 234) 520
noncomputable def zI4 (P:Params):Obj:=fo (.type "function") #[100,111] q83 (zp 33 2) 3 (.str ⟨q9⟩ 454) (.ref 235)
noncomputable def zI5 (P:Params):Obj:=fo .none q70 q60 (zp 33 3) 0 .none .none
noncomputable def zI6 (P:Params):Obj:=cd q70 q60 523 115 2 3 237 true 238 .none .none .none (.ref 239) 526
noncomputable def zI7 (P:Params):Obj:=fo (.type "function") q70 q60 (zp 33 3) 3 (.str ⟨q9⟩ 454) (.ref 240)
noncomputable def zI8 (P:Params):Obj:=ob (.type "tuple") (.seq #[(.str ⟨q25⟩ 532),(.str ⟨q84⟩ 533)] 0)
noncomputable def zI9 (P:Params):Obj:=fo .none q72 q61 (zp 33 4) 0 .none .none
noncomputable def zJA (P:Params):Obj:=cd q72 q61 529 123 2 3 242 true 243 .none (.ref 244) (.ref 245) (.ref 246) 534
noncomputable def zJB (P:Params):Obj:=fo (.type "function") q72 q61 (zp 33 4) 3 (.str ⟨q9⟩ 454) (.ref 247)
noncomputable def zJC (P:Params):Obj:=ob (.type "tuple") (.seq #[(.str ⟨q25⟩ 540),(.str ⟨q84⟩ 541)] 0)
noncomputable def zJD (P:Params):Obj:=fo .none q76 q64 (zp 33 5) 0 .none .none
noncomputable def zJE (P:Params):Obj:=cd q76 q64 537 136 2 3 249 true 250 .none (.ref 251) (.ref 252) (.ref 253) 542
noncomputable def zJF (P:Params):Obj:=fo (.type "function") q76 q64 (zp 33 5) 3 (.str ⟨q9⟩ 454) (.ref 254)
noncomputable def zJG (P:Params):Obj:=ob (.type "tuple") (.seq #[(.str ⟨q25⟩ 548),(.str ⟨q84⟩ 549),(.str ⟨q74⟩ 550),(.str ⟨#[109,97,110,121]⟩ 551),(.str ⟨#[111,108,100]⟩ 552)] 0)
noncomputable def zJH (P:Params):Obj:=fo .none q58 q56 (zp 33 6) 0 .none .none
noncomputable def zJI (P:Params):Obj:=cd q58 q56 545 141 2 3 256 true 257 .none (.ref 258) (.ref 259) (.ref 260) 553
noncomputable def zJJ (P:Params):Obj:=fo (.type "function") q58 q56 (zp 33 6) 3 (.str ⟨q9⟩ 454) (.ref 261)
noncomputable def zJK (P:Params):Obj:=ob (.type "tuple") (.seq #[(.str ⟨q25⟩ 559),(.str ⟨q45⟩ 560),(.str ⟨q74⟩ 561),(.str ⟨#[99,101,110,116,115]⟩ 562),(.str ⟨#[101,110,116,114,121]⟩ 563)] 0)
noncomputable def zJL (P:Params):Obj:=fo .none q59 q57 (zp 33 7) 0 .none .none
noncomputable def zJM (P:Params):Obj:=cd q59 q57 556 156 4 3 263 true 264 .none (.ref 265) (.ref 266) (.ref 267) 564
noncomputable def zJN (P:Params):Obj:=fo (.type "function") q59 q57 (zp 33 7) 3 (.str ⟨q9⟩ 454) (.ref 268)
noncomputable def zJO (P:Params):Obj:=ob (.type "tuple") (.seq #[(.str ⟨q25⟩ 570),(.str ⟨q45⟩ 571),(.str ⟨#[112,108,97,99,101]⟩ 572),(.str ⟨q74⟩ 573),(.str ⟨#[109,97,110,121]⟩ 574),(.str ⟨#[101,110,116,114,121]⟩ 575),(.str ⟨q62⟩ 576),(.str ⟨#[111,116,104,101,114]⟩ 577),(.str ⟨#[99,101,110,116,115]⟩ 578),(.str ⟨#[108,105,110,101,115]⟩ 579)] 0)
noncomputable def zJP (P:Params):Obj:=fo .none q77 q65 (zp 33 8) 0 .none .none
noncomputable def zJQ (P:Params):Obj:=cd q77 q65 567 161 5 3 270 true 271 .none (.ref 272) (.ref 273) (.ref 274) 580
noncomputable def zJR (P:Params):Obj:=fo (.type "function") q77 q65 (zp 33 8) 3 (.str ⟨q9⟩ 454) (.ref 275)
noncomputable def zJS (P:Params):Obj:=ob (.type "tuple") (.seq #[(.str ⟨q25⟩ 586),(.str ⟨#[108,97,115,116]⟩ 587),(.str ⟨q45⟩ 588)] 0)
noncomputable def zJT (P:Params):Obj:=fo .none q78 q66 (zp 33 9) 0 .none .none
noncomputable def zJU (P:Params):Obj:=cd q78 q66 583 170 1 3 277 true 278 .none (.ref 279) (.ref 280) (.ref 281) 589
noncomputable def zJV (P:Params):Obj:=fo (.type "function") q78 q66 (zp 33 9) 3 (.str ⟨q9⟩ 454) (.ref 282)
noncomputable def zJW (P:Params):Obj:=ob (.type "tuple") (.seq #[(.str ⟨q25⟩ 595)] 0)
noncomputable def zJX (P:Params):Obj:=fo .none q55 q54 (zp 33 10) 0 .none .none
noncomputable def zJY (P:Params):Obj:=cd q55 q54 592 181 1 3 284 true 285 .none (.ref 286) (.ref 287) (.ref 288) 596
noncomputable def zJZ (P:Params):Obj:=fo (.type "function") q55 q54 (zp 33 10) 3 (.str ⟨q9⟩ 454) (.ref 289)
noncomputable def zJa (P:Params):Obj:=fo .none q79 q67 (zp 33 11) 0 .none .none
noncomputable def zJb (P:Params):Obj:=cd q79 q67 599 184 2 3 291 true 292 .none .none .none (.ref 293) 602
noncomputable def zJc (P:Params):Obj:=fo (.type "function") q79 q67 (zp 33 11) 3 (.str ⟨q9⟩ 454) (.ref 294)
noncomputable def zJd (P:Params):Obj:=ob (.type "tuple") (.seq #[(.str ⟨q25⟩ 608),(.str ⟨q45⟩ 609)] 0)
noncomputable def zJe (P:Params):Obj:=fo .none q82 q71 (zp 33 12) 0 .none .none
noncomputable def zJf (P:Params):Obj:=cd q82 q71 605 188 2 3 296 true 297 .none (.ref 298) (.ref 299) (.ref 300) 610
noncomputable def zJg (P:Params):Obj:=fo (.type "function") q82 q71 (zp 33 12) 3 (.str ⟨q9⟩ 454) (.ref 301)
noncomputable def zJh (P:Params):Obj:=fo .none q80 q68 (zp 33 13) 0 .none .none
noncomputable def zJi (P:Params):Obj:=cd q80 q68 613 192 2 3 303 true 304 .none .none .none (.ref 305) 616
noncomputable def zJj (P:Params):Obj:=fo (.type "function") q80 q68 (zp 33 13) 3 (.str ⟨q9⟩ 454) (.ref 306)
noncomputable def zJk (P:Params):Obj:=ob (.type "tuple") (.seq #[(.str ⟨q25⟩ 622),(.str ⟨q45⟩ 623)] 0)
noncomputable def zJl (P:Params):Obj:=fo .none q81 q69 (zp 33 14) 0 .none .none
noncomputable def zJm (P:Params):Obj:=cd q81 q69 619 196 2 3 308 true 309 .none (.ref 310) (.ref 311) (.ref 312) 624
noncomputable def zJn (P:Params):Obj:=fo (.type "function") q81 q69 (zp 33 14) 3 (.str ⟨q9⟩ 454) (.ref 313)
noncomputable def zJo (P:Params):Obj:=fo .none q48 q52 (zp 33 15) 0 .none .none
noncomputable def zJp (P:Params):Obj:=cd q48 q52 627 200 2 3 315 true 316 .none .none .none (.ref 317) 630
noncomputable def zJq (P:Params):Obj:=fo (.type "function") q48 q52 (zp 33 15) 3 (.str ⟨q9⟩ 454) (.ref 318)
noncomputable def zJr (P:Params):Obj:=ob (.type "tuple") (.seq #[(.str ⟨q25⟩ 636)] 0)
noncomputable def zJs (P:Params):Obj:=fo .none q85 q73 (zp 33 16) 0 .none .none
noncomputable def zJt (P:Params):Obj:=cd q85 q73 633 204 1 3 320 true 321 .none (.ref 322) (.ref 323) (.ref 324) 637
noncomputable def zJu (P:Params):Obj:=fo (.type "function") q85 q73 (zp 33 16) 3 (.str ⟨q9⟩ 454) (.ref 325)
noncomputable def zJv (P:Params):Obj:=ob (.type "tuple") (.seq #[(.str ⟨#[101,110,116,114,105,101,115]⟩ 640),(.str ⟨#[104,105,115,116,111,114,121]⟩ 641)] 0)
noncomputable def zJw (P:Params):Obj:=ob (.type "dict") (.dict #[(ky P q10 495 (.str ⟨q9⟩ 454)),(ky P q8 499 (.int (97) 498)),(ky P q47 506 (.ref 222)),(ky P q75 514 (.ref 229)),(ky P #[100,111] 522 (.ref 236)),(ky P q70 528 (.ref 241)),(ky P q72 536 (.ref 248)),(ky P q76 544 (.ref 255)),(ky P q58 555 (.ref 262)),(ky P q59 566 (.ref 269)),(ky P q77 582 (.ref 276)),(ky P q78 591 (.ref 283)),(ky P q55 598 (.ref 290)),(ky P q79 604 (.ref 295)),(ky P q82 612 (.ref 302)),(ky P q80 618 (.ref 307)),(ky P q81 626 (.ref 314)),(ky P q48 632 (.ref 319)),(ky P q85 639 (.ref 326)),(ky P q7 642 (.ref 327)),(ky P #[95,95,100,105,99,116,95,95] 644 (.ref 330)),(ky P q44 646 (.ref 331)),(ky P q14 647 .none)] 4)
noncomputable def zJx (P:Params):Obj:={ cls:=(.type "type"),dict:=none,data:=(.cls { name:=⟨q53⟩,bases:=[(.type "object")],mro:=[(.ref 329),(.type "object")],ns:=328,qualname:=⟨q53⟩,hasDict:=true,slotNames:=[],subclasses:=[],abstract:=false,collection:=none,hasDel:=false }),slots:=#[none,none,(some (.str ⟨q53⟩ 488)),(some (.str ⟨q53⟩ 496)),(some (.builtin "object.__new__")),(some (.bool true))] }
noncomputable def zJy (P:Params):Obj:=ob (.type "getset_descriptor") (.fields #[(.str ⟨#[95,95,100,105,99,116,95,95]⟩ 643),(.ref 329),(.builtin "function.__dict__"),(.builtin "function.__dict__#set")])
noncomputable def zJz (P:Params):Obj:=ob (.type "getset_descriptor") (.fields #[(.str ⟨q44⟩ 645),(.ref 329),(.builtin "ExceptionGroup.__weakref__"),.none])
noncomputable def zJ0 (P:Params):Obj:=ob (.type "super") (.fields #[(.ref 329),(.ref 329),(.ref 329)])
noncomputable def zJ1 (P:Params):Obj:=ob (.type "builtin_function_or_method") (.fields #[(.builtin "object.__init_subclass__"),(.ref 329)])
noncomputable def zRK (P:Params):Heap:=⟨⟨[boot_o_0 P,boot_o_1 P,boot_o_2 P,zNR P,boot_o_4 P,boot_o_5 P,boot_o_6 P,boot_o_7 P,boot_o_8 P,boot_o_9 P,boot_o_10 P,boot_o_7 P,zLh P,vO P,vP P,boot_o_7 P,boot_o_8 P,vQ P,boot_o_7 P,vR P,vS P,vT P,vU P,zM P,vV P,boot_o_7 P,boot_o_8 P,vW P,vX P,boot_o_7 P,vY P,zB5 P,vZ P,vd P,vf P,zO P,zM P,vg P,boot_o_7 P,boot_o_8 P,vj P,vm P,boot_o_7 P,vn P,vp P,vq P,vt P,zO P,zM P,vw P,boot_o_7 P,boot_o_8 P,vy P,vz P,boot_o_7 P,kA P,kB P,kC P,kD P,zO P,zM P,ja P,boot_o_7 P,boot_o_8 P,jb P,jc P,boot_o_7 P,jd P,je P,jf P,jg P,zO P,zM P,jh P,boot_o_7 P,boot_o_8 P,ji P,jj P,boot_o_7 P,jk P,jl P,jm P,jn P,zO P,zM P,jo P,boot_o_7 P,boot_o_8 P,jp P,jq P,boot_o_7 P,jr P,js P,jt P,ju P,zO P,zM P,jv P,boot_o_7 P,boot_o_8 P,kW P,kX P,boot_o_7 P,kY P,kZ P,ka P,kg P,zO P,zM P,zAP P,boot_o_7 P,boot_o_8 P,zAQ P,zAR P,boot_o_7 P,zAS P,zAT P,zAU P,zAV P,zO P,zM P,zAW P,boot_o_7 P,boot_o_8 P,zAX P,zAY P,boot_o_7 P,zAZ P,zAa P,zAb P,zAc P,zO P,zM P,zAd P,boot_o_7 P,boot_o_8 P,zAe P,zAf P,boot_o_7 P,zAg P,zAh P,zAi P,zAj P,zO P,zM P,zAk P,boot_o_7 P,boot_o_8 P,zAl P,zAm P,boot_o_7 P,zAn P,zAo P,zAp P,zAq P,boot_o_7 P,boot_o_8 P,zCu P,boot_o_7 P,zCv P,zCw P,zCx P,boot_o_7 P,boot_o_8 P,zCy P,zCz P,zC0 P,boot_o_7 P,boot_o_8 P,zC1 P,boot_o_7 P,zC2 P,zC3 P,zC4 P,boot_o_7 P,boot_o_8 P,zC5 P,boot_o_7 P,zC6 P,zC7 P,zC8 P,boot_o_7 P,boot_o_8 P,zC9 P,boot_o_7 P,zDA P,zDB P,zDC P,boot_o_7 P,boot_o_8 P,zDD P,boot_o_7 P,zDE P,zDF P,zDG P,boot_o_7 P,boot_o_8 P,zDH P,boot_o_7 P,zDI P,zDJ P,zDK P,boot_o_7 P,boot_o_8 P,zDL P,zDM P,zDN P,zDO P,zIo P,boot_o_7 P,zM P,zIp P,boot_o_7 P,zIq P,zIr P,zIs P,boot_o_7 P,boot_o_8 P,zIt P,boot_o_7 P,zIu P,zIv P,zIw P,boot_o_7 P,boot_o_8 P,zIx P,boot_o_7 P,zIy P,zIz P,zI0 P,boot_o_7 P,boot_o_8 P,zI1 P,boot_o_7 P,zI2 P,zI3 P,zI4 P,boot_o_7 P,boot_o_8 P,zI5 P,zI6 P,zI7 P,boot_o_7 P,boot_o_8 P,zI8 P,boot_o_7 P,zI9 P,zJA P,zJB P,boot_o_7 P,boot_o_8 P,zJC P,boot_o_7 P,zJD P,zJE P,zJF P,boot_o_7 P,boot_o_8 P,zJG P,boot_o_7 P,zJH P,zJI P,zJJ P,boot_o_7 P,boot_o_8 P,zJK P,boot_o_7 P,zJL P,zJM P,zJN P,boot_o_7 P,boot_o_8 P,zJO P,boot_o_7 P,zJP P,zJQ P,zJR P,boot_o_7 P,boot_o_8 P,zJS P,boot_o_7 P,zJT P,zJU P,zJV P,boot_o_7 P,boot_o_8 P,zJW P,boot_o_7 P,zJX P,zJY P,zJZ P,boot_o_7 P,boot_o_8 P,zJa P,zJb P,zJc P,boot_o_7 P,boot_o_8 P,zJd P,boot_o_7 P,zJe P,zJf P,zJg P,boot_o_7 P,boot_o_8 P,zJh P,zJi P,zJj P,boot_o_7 P,boot_o_8 P,zJk P,boot_o_7 P,zJl P,zJm P,zJn P,boot_o_7 P,boot_o_8 P,zJo P,zJp P,zJq P,boot_o_7 P,boot_o_8 P,zJr P,boot_o_7 P,zJs P,zJt P,zJu P,zJv P,zJw P,zJx P,zJy P,zJz P,zJ0 P,zJ1 P]⟩,{ registered:=[],finalised:=[],alive:=[],known:=0,ids:=[],orphanDicts:=[],counting:=false,cnt:=#[],zero:=[],soft:=0,below:=false,collecting:=false }⟩
noncomputable def zHe (w:World) (os:OsState):Shared:=⟨zRK w.params,#[],⟨0,0,0,0⟩,650,os⟩
noncomputable def zA0:Env:={ scope:=pw09.main.scope,locals:=mainNs,globals:=mainNs,cells:=[],code:=(.ref 13),frame:=some 14 }
noncomputable def b09:List Stmt:=behindTheImports pw09
noncomputable def c09:Code:=.body b09 zA0
noncomputable def z09 (w:World) (os:OsState):Shared:=⟨boot_heap w.params,Array.mk [],boot_drawn,boot_toks,os⟩
noncomputable def zMO (w:World) (os:OsState):=topGo treeTable pw09 w 11 (some (.ref 6)) 12 (z09 w os) (topStub pw09)
noncomputable def zML (w:World) (os:OsState):=(zMO w os).bind fun x=>segRun treeTable pw09 w 11 (some (.ref 6)) 1 1 x.1 (blockOf b09 zA0 c09 ⟨0,0,0,0⟩ [topFrame ⟨0,0,0,0⟩])
theorem zRi:∀ (w:World),(fun os=>(zMO w os).map (·.2))=fun _=>some ⟨denote treeTable c09,c09,⟨0,0,0,0⟩,[topFrame ⟨0,0,0,0⟩]⟩:=by
 intro w; kernel_rfl
theorem zQo:∀ (w:World),(fun os=>(zML w os).map fun y=>(y.1,y.2.2))=fun _=>some (.next,c09,⟨0,0,0,0⟩):=by
 intro w; kernel_rfl
noncomputable def zQa (w:World) (os:OsState):=(zML w os).bind fun y=>segRun treeTable pw09 w 11 (some (.ref 6)) 1 651 y.2.1 (piecesOf ((b09.take 5).drop 0) zA0 c09 ⟨0,0,0,0⟩ [topFrame ⟨0,0,0,0⟩])
noncomputable def zQh (w:World) (os:OsState):Option (Flow × Shared × Code × Pos):=some (.next,zOO w os,c09,⟨9,0,10,8⟩)
theorem zRA:∀ w:World,zQa w=zQh w:=by
 intro w; kernel_rfl
noncomputable def zQb (w:World) (os:OsState):=segRun treeTable pw09 w 11 (some (.ref 6)) 1 853 (zOO w os) (piecesOf ((b09.take 9).drop 5) zA0 c09 ⟨9,0,10,8⟩ [topFrame ⟨0,0,0,0⟩])
noncomputable def zQi (w:World) (os:OsState):Option (Flow × Shared × Code × Pos):=some (.next,zOP w os,c09,⟨17,0,18,8⟩)
theorem zRB:∀ w:World,zQb w=zQi w:=by
 intro w; kernel_rfl
noncomputable def zQc (w:World) (os:OsState):=segRun treeTable pw09 w 11 (some (.ref 6)) 1 853 (zOP w os) (piecesOf ((b09.take 13).drop 9) zA0 c09 ⟨17,0,18,8⟩ [topFrame ⟨0,0,0,0⟩])
noncomputable def zQj (w:World) (os:OsState):Option (Flow × Shared × Code × Pos):=some (.next,zOQ w os,c09,⟨25,0,26,8⟩)
theorem zRC:∀ w:World,zQc w=zQj w:=by
 intro w; kernel_rfl
noncomputable def zKK (w:World) (os:OsState):=segRun treeTable pw09 w 11 (some (.ref 6)) 1 457 (zOQ w os) (piecesOf ((b09.take 32).drop 13) zA0 c09 ⟨25,0,26,8⟩ [topFrame ⟨0,0,0,0⟩])
noncomputable def zKL (w:World) (os:OsState):Option (Flow × Shared × Code × Pos):=some (.next,zOR w os,c09,⟨95,0,95,5⟩)
theorem zEs:∀ w:World,zKK (w.withFollow "special-get-raises" false)=zKL (w.withFollow "special-get-raises" false):=by
 intro w; kernel_rfl
theorem zF1:∀ w:World,zKK (w.withFollow "special-get-raises" true)=zKL (w.withFollow "special-get-raises" true):=by
 intro w; kernel_rfl
theorem zRD:∀ w:World,zKK w=zKL w:=byRow2 "special-get-raises" zEs zF1
noncomputable def zQd (w:World) (os:OsState):=segRun treeTable pw09 w 11 (some (.ref 6)) 1 746 (zOR w os) (piecesOf ((b09.take 34).drop 32) zA0 c09 ⟨95,0,95,5⟩ [topFrame ⟨0,0,0,0⟩])
noncomputable def zQk (w:World) (os:OsState):Option (Flow × Shared × Code × Pos):=some (.next,zHe w os,c09,⟨97,0,205,16⟩)
theorem zRE:∀ w:World,zQd w=zQk w:=by
 intro w; kernel_rfl
noncomputable def v09:Program:=view pw09 [0,2,3,4,5,6,7,8,9,10,11,12,14,15,16,17,18,19,20,21,22,23,24,25,26,28,30,31,32,33,35,36,37,38,39,40,41,42,43,44,45,46,47,48,49,50,51,52,53,54,55,56,57,58,59,60,61,62,63,64,65,66]
noncomputable def x09 (s:Shared):Bool:=xlAt v09 [] s&&recOk [] s
noncomputable def zA6:List (Nat × Nat):=[(458,459),(460,461),(462,463),(464,465),(466,467),(468,469),(470,471),(472,473)]
noncomputable def zA2:List Nat:=[483,484,485,486]
noncomputable def y09 (s:Shared):Bool × Option Value × Option Obj × Option Value × Option Obj × List (Option (Addr × List Value)):=(s.heap.isNs mainGlobals,s.heap.nsMap mainGlobals "PARTS",s.heap.get? 207,s.heap.nsMap mainGlobals "LINED",s.heap.get? 208,[wW s.heap "FlowError",wW s.heap "NoDeed",wW s.heap "NoLines",wW s.heap "NoItem",wW s.heap "NoNumber",wW s.heap "FullBook",wW s.heap "NoOrder",wW s.heap "SameOrder",wW s.heap "NoLine",wW s.heap "TooMuch",wW s.heap "NothingDone"])
noncomputable def a09 (w:World):Bool × Option Value × Option Obj × Option Value × Option Obj × List (Option (Addr × List Value)):=(true,some (.ref 207),some (zHa w.params zA6),some (.ref 208),some (jV zA2),[some (31,[.ref 31,.type "ValueError",.type "Exception",.type "BaseException",.type "object"]),some (44,[.ref 44,.ref 31,.type "ValueError",.type "Exception",.type "BaseException",.type "object"]),some (56,[.ref 56,.ref 31,.type "ValueError",.type "Exception",.type "BaseException",.type "object"]),some (68,[.ref 68,.ref 31,.type "ValueError",.type "Exception",.type "BaseException",.type "object"]),some (80,[.ref 80,.ref 31,.type "ValueError",.type "Exception",.type "BaseException",.type "object"]),some (92,[.ref 92,.ref 31,.type "ValueError",.type "Exception",.type "BaseException",.type "object"]),some (104,[.ref 104,.ref 31,.type "ValueError",.type "Exception",.type "BaseException",.type "object"]),some (116,[.ref 116,.ref 31,.type "ValueError",.type "Exception",.type "BaseException",.type "object"]),some (128,[.ref 128,.ref 31,.type "ValueError",.type "Exception",.type "BaseException",.type "object"]),some (140,[.ref 140,.ref 31,.type "ValueError",.type "Exception",.type "BaseException",.type "object"]),some (152,[.ref 152,.ref 31,.type "ValueError",.type "Exception",.type "BaseException",.type "object"])])
noncomputable def zQC:Thread:=(restOf (b09.drop 34) zA0 c09 ⟨97,0,205,16⟩ [topFrame ⟨0,0,0,0⟩])
noncomputable def zPf (w:World) (os:OsState):=(topRun treeTable pw09 w 11 (some (.ref 6)) 982 (zHe w os) zQC).map fun s₁=>((staticsOk (importedModules pw09.main.body) (boot_heap w.params) s₁.heap&&namesBound pw09 s₁.heap&&gensDone s₁&&laidKept (boot_heap w.params) s₁.heap),
    openSeen v09 [("PARTS" : Str)] (importedModules pw09.main.body) x09 true s₁,y09 s₁)
theorem zNJ:∀ w:World,zPf w=fun _=>some (true,openGood v09 [("PARTS" : Str)],a09 w):=by
 intro w; kernel_rfl
theorem zP5:∀ w:World,((boot_heap w.params).isNs mainGlobals&&(Array.mk []:Array GenState).size==0,(boot_heap w.params).objs.size,(boot_heap w.params).nsMap mainGlobals "__annotations__")=(true,11,(some (.ref 6))):=by
 intro w; kernel_rfl
theorem zRk (w:World) (os:OsState) (r:Shared) (k:topRun treeTable pw09 w 11 (some (.ref 6)) 982 (zHe w os) zQC=some r):topRun treeTable pw09 w 11 (some (.ref 6)) (12+(1+(651+(853+(853+(457+(746+982))))))) (z09 w os) (topStub pw09)=some r:=
 zII (i:=5) (hc:=rfl) (congrFun (zRi w) os) (congrFun (zQo w) os) (congrFun (zRA w) os) (jS (i:=5) (j:=9) (by decide) (congrFun (zRB w) os) (jS (i:=9) (j:=13) (by decide) (congrFun (zRC w) os) (jS (i:=13) (j:=32) (by decide) (congrFun (zRD w) os) (jS (i:=32) (j:=34) (by decide) (congrFun (zRE w) os) k))))
theorem left09:LeftO pw09 v09 [("PARTS" : Str)] x09 y09 a09 5300:=
 zE4 (n:=3573) (M:=982) (sc:=zHe) (th:=zQC) (by kernel_rfl) (by decide) (fun s=>by kernel_rfl) zP5 (fun w os r k=>zRk w os r k) (by decide) zNJ
theorem well09:PySem.Challenge.rw_uf040020_09.wellSaid=true:=by kernel_rfl
end Mine
end

section
open PySem PySem.W PyProof.Rows
set_option maxRecDepth 100000
namespace Mine
noncomputable def zDk:List (Str × V):=[("LETTERS",.str xV),("MOST_SIGNS",.int 12),("MOST_LINES",.int 20),("MOST_PIECES",.int 1000000),("MOST_CENTS",.int 1000000000),("MOST_PACK",.int 1000),("MOST_ORDERS",.int 40)]
noncomputable def ex09:List Ex:=[⟨"FlowError",.FlowError,31,bmV⟩,⟨"NoDeed",.NoDeed,44,.ref 31 :: bmV⟩,⟨"NoLines",.NoLines,56,.ref 31 :: bmV⟩,⟨"NoItem",.NoItem,68,.ref 31 :: bmV⟩,⟨"NoNumber",.NoNumber,80,.ref 31 :: bmV⟩,⟨"FullBook",.FullBook,92,.ref 31 :: bmV⟩,⟨"NoOrder",.NoOrder,104,.ref 31 :: bmV⟩,⟨"SameOrder",.SameOrder,116,.ref 31 :: bmV⟩,⟨"NoLine",.NoLine,128,.ref 31 :: bmV⟩,⟨"TooMuch",.TooMuch,140,.ref 31 :: bmV⟩,⟨"NothingDone",.NothingDone,152,.ref 31 :: bmV⟩]
noncomputable def zPK (c:Cls):Value:=match ex09.find? fun q=>q.c==c with
 | some q=>.ref q.a
 | none=>.none
noncomputable def kn09:List Cls:=ex09.map (·.c)
noncomputable def C09:Ctx:={ fns:=[(("_wall" : Str),33),(("worth" : Str),20),(("is_item" : Str),21),(("check_lines" : Str),22),(("begun" : Str),23),(("charge" : Str),24),(("most_of" : Str),25),(("behind" : Str),26),(("matched" : Str),27),(("_law_cell_at" : Str),100),(("_law_whole" : Str),101),(("_law_line_worth" : Str),102),(("_law_owed_by" : Str),103),(("_law_most" : Str),104),(("_law_place_by" : Str),105),(("_law_number_by" : Str),106),(("_law_item_by" : Str),107),(("_law_lines_by" : Str),108),(("_law_deed_by" : Str),109),(("_law_refusal" : Str),110),(("_law_turned" : Str),111),(("_law_step" : Str),112),(("_law_handed" : Str),113),(("_law_tried" : Str),114),(("_law_pairs_alike" : Str),115),(("_law_parts_alike" : Str),116),(("_law_deed_alike" : Str),117),(("_law_ahead_whole" : Str),118),(("_law_is_triple" : Str),119),(("_law_matched_well" : Str),120),(("_law_rows_alike" : Str),121),(("_law_lines_told" : Str),122),(("_law_stands" : Str),123),(("_law_model_of" : Str),124),(("_law_stands_by" : Str),125),(("_law_back" : Str),126),(("_law_of_one_class" : Str),127),(("_law_nothing" : Str),128),(("_law_done" : Str),129),(("_law_paid_first" : Str),130),(("law" : Str),131)],meths:=[("__init__",0),("need",1),("do",2),("begin",3),("check",4),("most",5),("change",6),("pay_in",7),("turn",8),("undo",9),("orders",10),("told",11),("paid",12),("owed",13),("rows",14),("settled",15),("net",16)],consts:=zDk++[(("PARTS" : Str),.parts),(("LINED" : Str),zLO)],excs:=(ex09.map fun q=>(q.name,q.c)),attrs:=attrNames,book:=true,trks:=zQG }
noncomputable def zPe:List Str:=looseW v09 [("PARTS" : Str)]
theorem zRL:0 < (plainsOf v09 zPe).length:=by decide +kernel
theorem zIA:∀ q ∈ zDk,zBD v09 q.1 q.2:=fun q hq=>by
 simp only [zDk,List.mem_cons,List.not_mem_nil,or_false] at hq
 rcases hq with rfl | rfl | rfl | rfl | rfl | rfl | rfl
 all_goals first
  | exact .int _ (by kernel_rfl)
  | exact .str _ (by kernel_rfl) (by decide) (by decide +kernel)
theorem zP6:(ex09.map fun q=>specOf v09 q.name)=ex09.map fun _=>some ("ValueError.__new__",bmV):=by kernel_rfl
theorem zNH:(ex09.all fun q=>kn09.contains q.c&&(kn09.all fun d=>(Value.ref q.a :: q.bm).contains (zPK d)==q.c.sub d)&&zPK q.c==.ref q.a)=true:=by decide +kernel
set_option maxHeartbeats 8000000 in
theorem law09_text:zGh v09 zPe C09 zMK zMJ zDk ex09 zPK kn09 ((plainsOf v09 zPe)[0]'zRL) where
 k1:=by kernel_rfl
 k2:=by decide +kernel
 k3:=by decide +kernel
 k4:=by decide +kernel
 hc:=rfl
 hb:=zIA
 hx:=rfl
 hs:=fun q hq=>List.map_inj_left.mp zP6 q hq
 hcl:=fun q hq=>by
  simp only [ex09,List.mem_cons,List.not_mem_nil,or_false] at hq
  rcases hq with rfl | rfl | rfl | rfl | rfl | rfl | rfl | rfl | rfl | rfl | rfl <;> rfl
 hbm:=fun q hq=>by
  simp only [ex09,List.mem_cons,List.not_mem_nil,or_false] at hq
  rcases hq with rfl | rfl | rfl | rfl | rfl | rfl | rfl | rfl | rfl | rfl | rfl
  ·exact .inl rfl
  all_goals exact .inr ⟨_,.head _,rfl⟩
 hkn:=fun q hq=>by
  have:=List.all_eq_true.mp zNH q hq
  simp only [Bool.and_eq_true] at this
  exact ⟨List.contains_iff_mem.mp this.1.1,fun d hd=>eq_of_beq (List.all_eq_true.mp this.1.2 d hd)⟩
 m1:=List.getElem_mem _
 m2:=by kernel_rfl
 m3:=by decide +kernel
 m4:=by decide +kernel
 m5:=by kernel_rfl
 m6:=by kernel_rfl
 m7:=⟨by decide +kernel,by decide +kernel⟩
 at0:=rfl
 cln:=⟨by kernel_rfl,by kernel_rfl,by kernel_rfl⟩
noncomputable def zSS:List (Str × Addr × List Value):=ex09.map fun q=>(q.name,q.a,.ref q.a :: q.bm)
noncomputable def says09 (w:World) (h:Heap):Prop:=Says w.params 207 208 zA6 zA2 zSS h
theorem of09 (w:World) (s:Shared) (h:y09 s=a09 w):says09 w s.heap:=zNd h
theorem keeps09 (w:World) (h h':Heap) (x:says09 w h) (k:∀ b o,h.get? b=some o->h'.get? b=some o):says09 w h':=Says.keeps x k
end Mine
set_option maxHeartbeats 8000000 in
theorem PySem.Challenge.cw_uf040020_09_holds : PySem.Challenge.rw_uf040020_09.Holds := by
 w_on
 refine holds_law Mine.well09 fun said=>?_
 refine holds_open (q:=Mine.v09) (loose:=[("PARTS" : Str)]) (Xt:=Mine.x09) (XP:=XL Mine.v09 []) (Yf:=Mine.y09) (Ya:=Mine.a09) (YP:=Mine.says09) (N:=5300) Mine.left09 Mine.of09 Mine.keeps09 (fun s e=>xl_of s (Bool.and_eq_true_iff.mp e).1) XL.keeps (by rfl) (by rfl) (by rfl) (fun s e=>recFacts_of (Bool.and_eq_true_iff.mp e).2) (by rfl) (by first | assumption | decide +kernel) (by decide +kernel) ⟨rfl,rfl,rfl,rfl,rfl,by decide +kernel⟩ ?hw ?hc
 case hw=>w_witness2
 intro w s0 s₁ mg mb G Y fa o pm cd doc dV kV ho hd hcd hD hmg hg args vals as hpre hlay hrd hwl hlo
 have hmg':mg ("law" : Str)=some (.ref fa):=hmg
 clear hd hcd hD hmg
 refine Ground.open G ?_
 intro T B D TE TW
 wrow_args hpre hlay hrd hwl hlo
 refine enter_call ?_
 rename_i ns _ _ _ _ _ _ _ a _ _ _ _ W _ _ _ hlen _
 refine codeAny_mono (Mine.book_walk (d:=9) (k:=131) Mine.law09_text T TE Y (by rfl) (by rfl) (by rfl) (by rfl) hmg' W (by omega) (by decide) (Mine.law09 (d:=0) ns (by omega))) fun r s' h=>?_
 obtain ⟨rfl,hk,hos,hgs⟩:=h
 exact Mine.law_good PySem.Challenge.rw_uf040020_09 hk hos hg hgs
end

