import PyProof.Rows.All
import PyProof.ExcArgsOwn
import PyProof.IsInstance
import PyProof.DictRoads
import PyProof.DictDisplay
import PyProof.DictWalks
import PyProof.P3Statements
import PyProof.StrBlockL
import PyProof.StrBlock2
import PyProof.Rows.StrNews2
import KE.KIntText
import PyProof.Cells
import PyProof.CompFree
import PyProof.RulesTry
import PyProof.RulesAs
import PyProof.StationsW
import PyProof.DictList
import PyProof.TupleOps
import PyProof.ListOps
import PyProof.DictKinds
import PyProof.ExcClass2
import PyProof.ObjNew
import PyProof.InstLoad
import PyProof.InstStoreFacts
import PyProof.EqLayable
import PyProof.Rows.StrJoin2
import PyProof.Rows.StrJoinMade
import PyProof.CallStr
import PyProof.Rows.StrSplitAre
import PyProof.RaisesMany
import PyProof.Rows.PlainStore
import PyProof.StrLoop
import PyProof.StrWalks
import PyProof.Rows.TupAssign
import PyProof.ExcBaseAll.ValueError
import PyProof.NsDelKeeps
import PyProof.CallRoads
import PyProof.AssignAttr
import PyProof.Rows.Own
import Wide.All
import OpenK.KLine
import PyProof.StrLawsTight
import Open.Line
import Open.Seg
import Open.Boot
import Wide.FinOn
import Lean
import PySem.Challenge.RW_uf040020_14
set_option Elab.async false
set_option autoImplicit false
set_option genSizeOf false
set_option genInjectivity false
set_option linter.all false
set_option backward.match.sparseCases false
set_option bootstrap.genMatcherCode false
set_option backward.eqns.nonrecursive false
set_option genCtorIdx false

section
set_option maxRecDepth 100000
namespace Mine
open PySem
section
variable {prog:Program} {w:World} {A:Around} {E:Value->Shared->Prop} {h:Heap} {g:Array GenState} {d:Drawn} {t:Nat} {os:OsState} {a:Addr} {o:Obj}
 {nm q:Str} {C N:Addr} {bs bm:List Value} {hdct:Bool} {sn:List Str} {sub:List Value} {ab:Bool} {col:Option Bool} {dd:Option Addr} {k0 k1 k2 k3 k5:Option Value} {newId:String}
variable {nm' q':Str} {K N':Addr} {bs' bm':List Value} {hdct':Bool} {sn':List Str} {sub':List Value} {ab':Bool} {col':Option Bool} {dd':Option Addr} {k0' k1' k2' k3' k5':Option Value} {newId':String}
end
end Mine
end

section
namespace Mine
open PySem
section
variable {prog:Program} {w:World} {K:Type} [DecidableEq K] {knd:KeyKind prog w K} {A:Around} {E:Value->Shared->Prop} {s:Shared} {d:Addr} {kvs:List (K × Value)} {k:K} {key v:Value}
noncomputable def Even (knd:KeyKind prog w K) (h:Heap) (d:Addr) (kvs:List (K × Value)):Prop:=h.DictOf knd d kvs
theorem zEF {Q:Unit->Shared->Prop} (hkey:knd.is k key=true) (hm:Even knd s.heap d kvs) (hQ:∀ h',Even knd h' d (stored kvs k v)->Heap.SameBut d s.heap h'->Q () { s with heap:=h',toks:=s.toks+1 })
  (hsz:kvs.length <= sizeLine):wpAny (model prog w) A (setItem (.ref d) key v) Q E s:=wpAny_setItem_pairs hkey hm hQ hsz
theorem zKx {env:Env} {ke ve:Expr} {pos:Pos} {Q:Value->Shared->Prop}
  (h:wpAny (model prog w) A (evalPairs [(eval ke env,do let x <- eval ve env; standAt pos; pure x)]) (fun vs s₁=>∃ (key vv:Value) (k:K),vs=[(key,vv)] /\ knd.is k key=true /\ Even knd s₁.heap s.heap.objs.size [] /\
   ∀ h',Even knd h' s.heap.objs.size [(k,vv)]->Heap.SameBut s.heap.objs.size s₁.heap h'->Q (.ref s.heap.objs.size) { s₁ with heap:=h',toks:=s₁.toks+1 }) E { s with heap:=s.heap.push { cls:=.type "dict",data:=.dict #[] } }) :
  wpAny (model prog w) A (eval (.Dict [some ke] [ve] pos) env) Q E s:=
 wpAny_Dict_pairs (knd:=knd) (pairs:=[(eval ke env,do let x <- eval ve env; standAt pos; pure x)]) rfl (List.cons_ne_nil _ _) (by show 1 <= 15; decide) (wpAny_mono h (fun vs s₁ q=>by
  obtain ⟨key,vv,k,rfl,hkey,hm,hQ⟩:=q
  exact ⟨[(k,vv)],⟨hkey,rfl,trivial⟩,hm,hQ⟩) fun _ _ e=>e)
theorem Even.dictOf {h:Heap} (x:Even knd h d kvs):h.DictOf knd d kvs:=x
theorem Even.at {h h':Heap} (e:h'.get? d=h.get? d) (x:Even knd h d kvs):Even knd h' d kvs:=by
 obtain ⟨o,es,ep,ho,r⟩:=x
 exact ⟨o,es,ep,e.trans ho,r⟩
theorem Even.new {h:Heap}:Even knd (h.push { cls:=.type "dict",data:=.dict #[] }) h.objs.size []:=Heap.DictOf.new _
theorem Even.live {h:Heap} (x:Even knd h d kvs):∃ o,h.get? d=some o:=by
 obtain ⟨o,_,_,e,_⟩:=x.dictOf
 exact ⟨o,e⟩
end
end Mine
end

section
namespace Mine
open PySem
set_option genCtorIdx true in
inductive Cls where
 | FlowError | NoDeed | NoLines | NoItem | NoNumber | FullBook | NoOrder | SameOrder | NoLine | TooMuch | NothingDone | ValueError
 deriving DecidableEq
noncomputable def Cls.sub (c d:Cls):Bool:=c==d||d==.ValueError||(d==.FlowError&&c != .ValueError)
set_option genCtorIdx true in
inductive V where
 | undef
 | none
 | bool (b:Bool)
 | int (i:Int)
 | str (s:Str)
 | tup (xs:List V)
 | lst (xs:List V)
 | ref (n:Nat)
 | exc (c:Cls)
 | parts
set_option genCtorIdx true in
inductive O where
 | list (xs:List V)
 | dict (es:List (Int × V))
 | inst (attrs:List (Nat × V))
noncomputable abbrev Sto:=List O
set_option genCtorIdx true in
inductive R (α:Type) where
 | ok (a:α) (J:Sto)
 | exc (c:Cls) (J:Sto)
 | stuck
noncomputable def R.bind {α β:Type}:R α->(α->Sto->R β)->R β
 | .ok a J,f=>f a J
 | .exc c J,_=>.exc c J
 | .stuck,_=>.stuck
@[simp] theorem R.bind_ok {α β:Type} (a:α) (J:Sto) (f:α->Sto->R β):(R.ok a J).bind f=f a J:=rfl
@[simp] theorem R.bind_exc {α β:Type} (c:Cls) (J:Sto) (f:α->Sto->R β):(R.exc c J:R α).bind f=.exc c J:=rfl
@[simp] theorem R.bind_stuck {α β:Type} (f:α->Sto->R β):(R.stuck:R α).bind f=.stuck:=rfl
noncomputable def R.lift {α:Type} (J:Sto):Option α->R α
 | some a=>.ok a J
 | none=>.stuck
@[simp] theorem R.lift_some {α:Type} (J:Sto) (a:α):R.lift J (some a)=.ok a J:=rfl
@[simp] theorem R.lift_none {α:Type} (J:Sto):R.lift J (none:Option α)=.stuck:=rfl
set_option genCtorIdx true in
inductive Kd where
 | int | bool | str | list | tuple | exc (c:Cls)
 deriving DecidableEq
inductive P1 where
 | not | neg | abs | len | toList | toTup | toInt | toStr | sum | min | max | all | isNone | isNotNone | isInst (k:Kd) | count
set_option genCtorIdx true in
inductive P2 where
 | add | sub | mul | fdiv | mod | pow
 | eq | ne | lt | le | gt | ge | isIn | notIn
 | index | min | max | join | split | partition | startswith | count
noncomputable def xL (J:Sto):V->Option (List V)
 | .tup xs=>some xs
 | .lst xs=>some xs
 | .ref n=>match J[n]? with
  | some (.list xs)=>some xs
  | _=>none
 | _=>none
noncomputable def xI:Option O->Option (List V)
 | some (.list xs)=>some xs
 | _=>none
noncomputable def listOf? (J:Sto):V->Option (List V)
 | .lst xs=>some xs
 | .ref n=>xI J[n]?
 | _=>none
noncomputable def intOf?:V->Option Int
 | .int i=>some i
 | _=>none
noncomputable def strOf?:V->Option Str
 | .str s=>some s
 | _=>none
noncomputable def boolOf?:V->Option Bool
 | .bool b=>some b
 | _=>none
noncomputable def ints? (xs:List V):Option (List Int):=xs.mapM intOf?
noncomputable def strs? (xs:List V):Option (List Str):=xs.mapM strOf?
noncomputable def bools? (xs:List V):Option (List Bool):=xs.mapM boolOf?
noncomputable def truthy (J:Sto):V->Option Bool
 | .none=>some false
 | .bool b=>some b
 | .int i=>some (i != 0)
 | .str s=>some (s.length != 0)
 | .tup xs=>some (!xs.isEmpty)
 | .lst xs=>some (!xs.isEmpty)
 | .ref n=>match J[n]? with
  | some (.list xs)=>some (!xs.isEmpty)
  | _=>none
 | _=>none
noncomputable def LIM:Nat:=1048576
noncomputable def zDd (g:V->Option PyData):Option O->Option PyData
 | some (.list xs)=>(xs.mapM g).map .list
 | _=>none
noncomputable def xN (J:Sto):Nat->V->Option PyData
 | 0,_=>none
 | d+1,v=>match v with
  | .none=>some .none
  | .bool b=>some (.bool b)
  | .int i=>some (.int i)
  | .str s=>some (.str s)
  | .tup xs=>(xs.mapM (xN J d)).map .tuple
  | .lst xs=>(xs.mapM (xN J d)).map .list
  | .ref n=>zDd (xN J d) J[n]?
  | _=>none
noncomputable def yo:Nat:=8
noncomputable def eqV (J:Sto) (a b:V):Option Bool:=
 match listOf? J a,listOf? J b with
 | some xs,some ys=>if xs.length != ys.length then some false else eqD a b
 | _,_=>eqD a b
where
 eqD (a b:V):Option Bool:=(xN J yo a).bind fun x=>(xN J yo b).map fun y=>PyData.eqv x y
noncomputable def mkS (l:List Nat):Str:=⟨l.toArray⟩
noncomputable def zR (s:Str):List Nat:=s.cps.toList
noncomputable def partsTable:List (Str × Int):=[("order",2),("deliver",4),("back",4),("swap",4),("credit",4),("pay",3),("refund",3),("move",4)]
noncomputable def yR (a:Int):Bool:=a.natAbs < 2 ^ 64
noncomputable def ze (n:Nat) (i:Int):Option Nat:=
 if 0 <= i then (if i.toNat < n then some i.toNat else none)
 else if 0 <= i+n then some (i+n).toNat else none
noncomputable def zZ (n:Nat):Option Int->Nat
 | none=>0
 | some i=>if i < 0 then (i+n).toNat else min i.toNat n
noncomputable def yO (n:Nat):Option Int->Nat
 | none=>n
 | some i=>if i < 0 then (i+n).toNat else min i.toNat n
noncomputable def yC {α:Type} (xs:List α) (lo hi:Option Int):List α:=
 (xs.take (yO xs.length hi)).drop (zZ xs.length lo)
noncomputable def zIn:List Int->Option Int
 | []=>none
 | x :: xs=>some (xs.foldl (fun m y=>if y < m then y else m) x)
noncomputable def zLa:List Int->Option Int
 | []=>none
 | x :: xs=>some (xs.foldl (fun m y=>if y > m then y else m) x)
noncomputable def zKJ:Option O->Kd->Option Bool
 | some (.list _),k=>(match k with
  | .list=>some true
  | .tuple=>some false
  | .str=>some false
  | .int=>some false
  | _=>none)
 | _,_=>none
noncomputable def jd (J:Sto) (k:Kd):V->Option Bool
 | .undef=>none
 | .parts=>none
 | .none=>(match k with | .exc _=>none | _=>some false)
 | .int _=>(match k with | .int=>some true | .exc _=>none | _=>some false)
 | .bool _=>(match k with | .int=>some true | .bool=>some true | .exc _=>none | _=>some false)
 | .str _=>(match k with | .str=>some true | .exc _=>none | _=>some false)
 | .tup _=>(match k with | .tuple=>some true | .exc _=>none | _=>some false)
 | .lst _=>(match k with | .list=>some true | .exc _=>none | _=>some false)
 | .exc c=>(match k with | .exc d=>some (c.sub d) | _=>none)
 | .ref n=>zKJ J[n]? k
noncomputable def ev1 (o:P1) (J:Sto) (a:V):Option V:=
 match o with
 | .not=>(truthy J a).map fun b=>.bool !b
 | .neg=>match a with | .int i=>some (.int (-i)) | _=>none
 | .abs=>match a with | .int i=>some (.int i.natAbs) | _=>none
 | .len=>match a with
  | .str s=>some (.int s.length)
  | .ref n=>match J[n]? with
   | some (.list xs)=>some (.int xs.length)
   | _=>none
  | a=>(xL J a).map fun xs=>.int xs.length
 | .toList=>(xL J a).map .lst
 | .toTup=>(listOf? J a).map .tup
 | .toInt=>match a with
  | .bool b=>some (.int (if b then 1 else 0))
  | .int i=>some (.int i)
  | .str x=>if x.length <= 640 then (intText? x).map .int else none
  | _=>none
 | .toStr=>match a with | .int i=>if i.natAbs < 10 ^ 100 then some (.str (Str.ofString (toString i))) else none | _=>none
 | .sum=>(listOf? J a).bind fun xs=>(ints? xs).map fun l=>.int l.sum
 | .min=>(listOf? J a).bind fun xs=>(ints? xs).bind fun l=>(zIn l).map .int
 | .max=>(listOf? J a).bind fun xs=>(ints? xs).bind fun l=>(zLa l).map .int
 | .all=>(listOf? J a).bind fun xs=>(bools? xs).map fun l=>.bool (l.all id)
 | .isNone=>match a with | .undef=>none | .none=>some (.bool true) | _=>some (.bool false)
 | .isNotNone=>match a with | .undef=>none | .none=>some (.bool false) | _=>some (.bool true)
 | .isInst k=>(jd J k a).map .bool
 | .count=>(listOf? J a).bind fun xs=>(bools? xs).map fun l=>.int (l.count true)
noncomputable def inV (J:Sto) (a b:V):Option Bool:=
 match a,b with
 | .str x,.str y=>match zR x with
  | [c]=>some ((zR y).contains c)
  | _=>none
 | .str x,.parts=>some (partsTable.any fun p=>p.1==x)
 | .str x,b=>(xL J b).bind fun xs=>(strs? xs).map fun l=>l.contains x
 | _,_=>none
noncomputable def zLR (J:Sto) (a b:V):Option V:=(strOf? a).bind fun sep=>(listOf? J b).bind fun xs=>(strs? xs).bind fun l =>
 if (l.map (·.length)).sum+l.length * sep.length <= 100000 then some (.str (Txt.join sep l)) else none
noncomputable def zGn (a b:V):Option V:=(strOf? a).bind fun s=>(strOf? b).bind fun sep =>
 if (sep.length==0)||decide (10000 < s.length) then none else some (.lst ((Txt.split s sep).map .str))
noncomputable def zL3 (a b:V):Option V:=(strOf? a).bind fun s=>(strOf? b).bind fun sep =>
 if (sep.length==0)||decide (10000 < s.length) then none else some (.tup [.str (Txt.partition s sep).1,.str (Txt.partition s sep).2.1,.str (Txt.partition s sep).2.2])
noncomputable def zGp (a b:V):Option V:=(strOf? a).bind fun x=>(strOf? b).map fun y=>.bool (Txt.startswith x y)
noncomputable def zGK (k:Bool):V->Bool
 | .bool b=>b==k
 | _=>false
noncomputable def zPM (J:Sto) (a b:V):Option V:=
 match b with
 | .bool k=>(listOf? J a).bind fun xs=>if xs.all fun x=>zGK true x||zGK false x then some (.int (xs.countP (zGK k):Nat)) else none
 | _=>none
noncomputable def ev2 (o:P2) (J:Sto) (a b:V):Option V:=
 match o with
 | .add=>match a,b with
  | .int x,.int y=>some (.int (x+y))
  | .str x,.str y=>if x.length+y.length <= 10000 then some (.str (x++y)) else none
  | .tup xs,.tup ys=>if xs.length+ys.length <= LIM then some (.tup (xs++ys)) else none
  | a,b=>(listOf? J a).bind fun xs=>(listOf? J b).bind fun ys=>if xs.length+ys.length <= LIM then some (.lst (xs++ys)) else none
 | .sub=>match a,b with | .int x,.int y=>some (.int (x - y)) | _,_=>none
 | .mul=>(match a with
  | a=>match a,b with
   | .int x,.int y=>if yR x||yR y then some (.int (x * y)) else none
   | _,_=>none)
 | .fdiv=>match a,b with | .int x,.int y=>if y==0||1073741824 <= y.natAbs then none else some (.int (x.fdiv y)) | _,_=>none
 | .mod=>match a,b with | .int x,.int y=>if y==0 then none else some (.int (x.fmod y)) | _,_=>none
 | .pow=>match a,b with | .int x,.int y=>if x==10&&0 <= y&&y <= 40 then some (.int (x ^ y.toNat)) else none | _,_=>none
 | .eq=>(eqV J a b).map .bool
 | .ne=>(eqV J a b).map fun r=>.bool !r
 | .lt=>match a,b with | .int x,.int y=>some (.bool (x < y)) | _,_=>none
 | .le=>match a,b with | .int x,.int y=>some (.bool (x <= y)) | _,_=>none
 | .gt=>match a,b with | .int x,.int y=>some (.bool (x > y)) | _,_=>none
 | .ge=>match a,b with | .int x,.int y=>some (.bool (x >= y)) | _,_=>none
 | .isIn=>(inV J a b).map .bool
 | .notIn=>(inV J a b).map fun r=>.bool !r
 | .index=>match a,b with
  | .str s,.int i=>(ze s.length i).bind fun k=>(zR s)[k]?.map fun c=>.str (mkS [c])
  | .parts,.str x=>(partsTable.find? fun p=>p.1==x).map fun p=>.int p.2
  | .ref n,.int i=>match J[n]? with
   | some (.list xs)=>(ze xs.length i).bind fun k=>xs[k]?
   | some (.dict es)=>(es.find? fun p=>p.1==i).map fun p=>p.2
   | _=>none
  | a,.int i=>(xL J a).bind fun xs=>(ze xs.length i).bind fun k=>xs[k]?
  | _,_=>none
 | .min=>match a,b with | .int x,.int y=>some (.int (if y < x then y else x)) | _,_=>none
 | .max=>match a,b with | .int x,.int y=>some (.int (if y > x then y else x)) | _,_=>none
 | .join=>zLR J a b
 | .split=>zGn a b
 | .partition=>zL3 a b
 | .count=>zPM J a b
 | .startswith=>zGp a b
noncomputable def vB (J:Sto) (a:V) (lo hi:Option Int):Option V:=
 match a with
 | .tup xs=>some (.tup (yC xs lo hi))
 | .str x=>if PyData.strOk (Txt.slice x lo hi) then some (.str (Txt.slice x lo hi)) else none
 | a=>(listOf? J a).map fun xs=>.lst (yC xs lo hi)
set_option genCtorIdx true in
inductive SK where
 | val | range1 | range2
 deriving DecidableEq
inductive CE where
 | lit (v:V)
 | var (i:Nat)
 | p1 (o:P1) (a:CE)
 | p2 (o:P2) (a b:CE)
 | chain (a:CE) (ops:List P2) (es:List CE)
 | slice (a:CE) (lo hi:Option CE)
 | and (a b:CE)
 | or (a b:CE)
 | tup (es:List CE)
 | list (es:List CE)
 | dict0
 | dict1 (k v:CE)
 | comp (elt:CE) (k:SK) (src:List CE) (cond:Option CE)
 | call (f:Nat) (args:List CE)
 | callm (f:Nat) (o:CE) (args:List CE)
 | new
 | attr (e:CE) (a:Nat)
 | append (l x:CE)
 | sm (o:P2) (a b:CE)
 | pop (l:CE)
 | clear (l:CE)
 | trk (e:CE)
set_option genCtorIdx true in
inductive TK where
 | ret
 | asg (i:Nat)
 | exp
structure Hd where
 cls:Cls
 as:Option Nat
 tk:TK
 e:CE
inductive CS where
 | asg (i:Nat) (e:CE)
 | setItem (o i v:CE)
 | setAttr (o:CE) (a:Nat) (v:CE)
 | unpack3 (i j k:Nat) (e:CE)
 | ite (c:CE) (a b:List CS)
 | for (i:Nat) (k:SK) (src:List CE) (body:List CS)
 | while (c:CE) (body:List CS)
 | ret (e:CE)
 | exp (e:CE)
 | raise (c:Cls)
 | try (k:TK) (e:CE) (hs:List Hd)
 | pass
 | stuck
set_option genCtorIdx true in
inductive Fl where
 | next (H:List V)
 | ret (v:V)
structure Fn where
 params:Nat
 slots:Nat
 body:List CS
noncomputable def zK (H:List V) (i:Nat):Option V:=
 match H[i]? with
 | none | some .undef=>none
 | some v=>some v
noncomputable def zl (lo hi:Int):List V:=(List.range (hi - lo).toNat).map fun (k:Nat)=>V.int (lo+(k:Int))
set_option genCtorIdx true in
inductive Items where
 | now (xs:List V)
 | live (n:Nat)
 | keys (n:Nat) (ks:List Int)
noncomputable def yV (x:Str):List V:=(zR x).map fun c=>.str (mkS [c])
noncomputable def zAI (n:Nat):Option O->Option Items
 | some (.list _)=>some (.live n)
 | _=>none
noncomputable def zMS (J:Sto):V->Option Items
 | .tup xs=>some (.now xs)
 | .lst xs=>some (.now xs)
 | .ref n=>zAI n J[n]?
 | .str x=>if x.cps.all (· < 128) then some (.now (yV x)) else none
 | _=>none
noncomputable def zPe (g:Int->Option Items):V->Option Items
 | .int i=>g i
 | _=>none
noncomputable def zT (J:Sto) (k:SK):List V->Option Items
 | []=>none
 | [v]=>(match k with
  | .range1=>zPe (fun n=>if n.natAbs <= LIM then some (.now (zl 0 n)) else none) v
  | .val=>zMS J v
  | .range2=>none)
 | [v,w]=>(match k with
  | .range2=>zPe (fun a=>zPe (fun b=>if 0 <= a&&a <= LIM&&b.natAbs <= LIM then some (.now (zl a b)) else none) w) v
  | _=>none)
 | _=>none
noncomputable def yL (J:Sto) (it:Items) (i:Nat):Option (Option V):=
 match it with
 | .now xs=>some xs[i]?
 | .live n=>match J[n]? with
  | some (.list xs)=>some xs[i]?
  | _=>none
 | .keys n ks=>match J[n]? with
  | some (.dict es)=>if es.map (·.1)=ks then some (ks[i]?.map .int) else none
  | _=>none
noncomputable def zAa (J:Sto) (it:Items):Nat:=
 match it with
 | .now xs=>xs.length+1
 | .live n=>match J[n]? with
  | some (.list xs)=>xs.length+1
  | _=>0
 | .keys _ ks=>ks.length+1
noncomputable def yb {β:Type} (it:Items) (f:V->β->Sto->R β):Nat->Nat->β->Sto->R β
 | 0,_,_,_=>.stuck
 | fuel+1,i,b,J=>match yL J it i with
  | none=>.stuck
  | some none=>.ok b J
  | some (some x)=>(f x b J).bind fun b J=>yb it f fuel (i+1) b J
noncomputable def zn {β:Type} (it:Items) (f:V->β->Sto->R β) (b:β) (J:Sto):R β:=yb it f (zAa J it) 0 b J
noncomputable def R.calm {α:Type}:R α->R α
 | .ok a J=>.ok a J
 | _=>.stuck
noncomputable abbrev R.calmE {α:Type} (r:R α):R α:=r
noncomputable def isInst (J:Sto):V->Bool
 | .ref n=>match J[n]? with
  | some (.inst _)=>true
  | _=>false
 | _=>false
noncomputable def xx (J:Sto) (v:V):Bool:=(listOf? J v).isSome
noncomputable def wA (es:List (Int × V)) (k:Int) (v:V):List (Int × V):=
 if es.any (fun p=>p.1==k) then es.map fun p=>if p.1==k then (k,v) else p else es++[(k,v)]
noncomputable def zA5 (J:Sto) (n:Nat) (k:Int) (v:V):Option O->R Unit
 | some (.list xs)=>if 0 <= k /\ k.toNat < xs.length then .ok () (J.set n (.list (xs.set k.toNat v))) else .stuck
 | some (.dict es)=>if es.length < LIM then .ok () (J.set n (.dict (wA es k v))) else .stuck
 | _=>.stuck
noncomputable def xP (J:Sto) (o i v:V):R Unit:=
 match o,i with
 | .ref n,.int k=>zA5 J n k v J[n]?
 | _,_=>.stuck
noncomputable def kQ (J:Sto) (n a:Nat) (v:V):Option O->R Unit
 | some (.inst es)=>if a < 2 then .ok () (J.set n (.inst ((a,v) :: es))) else .stuck
 | _=>.stuck
noncomputable def wf (J:Sto) (o:V) (a:Nat) (v:V):R Unit:=
 match o with
 | .ref n=>kQ J n a v J[n]?
 | _=>.stuck
noncomputable def zG3 (a:Nat):Option O->Option V
 | some (.inst es)=>es.lookup a
 | _=>none
noncomputable def zAS (J:Sto) (o:V) (a:Nat):Option V:=
 match o with
 | .ref n=>zG3 a J[n]?
 | _=>none
noncomputable def wI (J:Sto) (o x:V):R V:=
 match o with
 | .ref n=>match J[n]? with
  | some (.list xs)=>if xs.length < LIM then .ok .none (J.set n (.list (xs++[x]))) else .stuck
  | _=>.stuck
 | _=>.stuck
noncomputable def zN9 (J:Sto) (o:V):R V:=
 match o with
 | .ref n=>match J[n]? with
  | some (.list xs)=>match xs[xs.length - 1]? with
   | some x=>.ok x (J.set n (.list (xs.eraseIdx (xs.length - 1))))
   | none=>.stuck
  | _=>.stuck
 | _=>.stuck
noncomputable def zHI (J:Sto) (o:V):R V:=
 match o with
 | .ref n=>match J[n]? with
  | some (.list _)=>.ok .none (J.set n (.list []))
  | _=>.stuck
 | _=>.stuck
noncomputable def zEj (J:Sto):V->R V
 | .lst xs=>.ok (.ref J.length) (J++[.list xs])
 | _=>.stuck
noncomputable def zBx (n:Nat) (J:Sto) (k:Int) (v:V):Option O->R V
 | some (.dict [])=>.ok (.ref n) (J.set n (.dict [(k,v)]))
 | _=>.stuck
noncomputable def zBY (n:Nat) (J:Sto) (k v:V):R V:=
 match k with
 | .int k=>zBx n J k v J[n]?
 | _=>.stuck
noncomputable def zCD (n:Nat):V->Sto->R V
 | .none,J=>.ok (.ref n) J
 | _,_=>.stuck
noncomputable abbrev Calls:=Nat->List V->Sto->R V
noncomputable def zEE (o:P2) (J:Sto) (a:V):Bool:=
 match o with
 | .count=>(listOf? J a).isSome
 | _=>(strOf? a).isSome
noncomputable def jB:P1->Bool
 | .sum | .min | .max | .all=>true
 | _=>false
noncomputable def vK:P2->Bool
 | .min | .max | .join=>true
 | _=>false
mutual
noncomputable def evE (F:Calls) (q:Bool):CE->List V->Sto->R V
 | .lit v,_,J=>.ok v J
 | .var i,H,J=>R.lift J (zK H i)
 | .p1 o a,H,J=>if jB o&&q then .stuck else (evE F q a H J).bind fun a J=>R.lift J (ev1 o J a)
 | .p2 o a b,H,J=>if vK o&&q then .stuck else (evE F q a H J).bind fun a J=>(evE F q b H J).bind fun b J=>R.lift J (ev2 o J a b)
 | .chain a ops es,H,J=>(evE F q a H J).bind fun a J=>evChain F q ops es a H J
 | .slice a lo hi,H,J=>(evE F q a H J).bind fun a J=>(evO F q lo H J).bind fun lo J=>(evO F q hi H J).bind fun hi J=>R.lift J (vB J a lo hi)
 | .and a b,H,J=>(evE F q a H J).bind fun a J=>(R.lift J (truthy J a)).bind fun t J=>if t then evE F q b H J else .ok a J
 | .or a b,H,J=>(evE F q a H J).bind fun a J=>(R.lift J (truthy J a)).bind fun t J=>if t then .ok a J else evE F q b H J
 | .tup es,H,J=>(evL F q es H J).bind fun vs J=>.ok (.tup vs) J
 | .list es,H,J=>(evL F q es H J).bind fun vs J=>.ok (.lst vs) J
 | .dict0,_,J=>.ok (.ref J.length) (J++[.dict []])
 | .dict1 k v,H,J=>(evE F q k H (J++[.dict []])).bind fun a J1=>(evE F q v H J1).bind fun b J2=>zBY J.length J2 a b
 | .comp elt k src cond,H,J=>if q then .stuck else (evL F q src H J).bind fun vs J=>(R.lift J (zT J k vs)).bind fun it J =>
   (zn it (fun x acc J=>(evC F q cond (H++[x]) J).calm.bind fun t J=>if t then (evE F q elt (H++[x]) J).calmE.bind fun y J=>(if acc.length < LIM then .ok (acc++[y]) J else .stuck) else .ok acc J) [] J).bind fun acc J=>.ok (.lst acc) J
 | .call f args,H,J=>(evL F q args H J).bind fun vs J=>F f vs J
 | .callm f o args,H,J=>(evE F q o H J).bind fun o J=>if isInst J o then (evL F q args H J).bind fun vs J=>F f (o :: vs) J else .stuck
 | .new,_,J=>(F 0 [.ref J.length] (J++[.inst []])).bind (zCD J.length)
 | .attr e a,H,J=>(evE F q e H J).bind fun o J=>R.lift J (zAS J o a)
 | .sm o a b,H,J=>(evE F q a H J).bind fun a J=>if zEE o J a then (evE F q b H J).bind fun b J=>R.lift J (ev2 o J a b) else .stuck
 | .append l x,H,J=>(evE F q l H J).bind fun o J=>if xx J o then (evE F q x H J).bind fun x J=>wI J o x else .stuck
 | .pop l,H,J=>(evE F q l H J).bind fun o J=>zN9 J o
 | .clear l,H,J=>(evE F q l H J).bind fun o J=>zHI J o
 | .trk e,H,J=>(evE F q e H J).bind fun v J=>zEj J v
noncomputable def evL (F:Calls) (q:Bool):List CE->List V->Sto->R (List V)
 | [],_,J=>.ok [] J
 | e :: es,H,J=>(evE F q e H J).bind fun v J=>(evL F q es H J).bind fun vs J=>.ok (v :: vs) J
noncomputable def evO (F:Calls) (q:Bool):Option CE->List V->Sto->R (Option Int)
 | none,_,J=>.ok none J
 | some e,H,J=>(evE F q e H J).bind fun v J=>match v with
  | .int i=>.ok (some i) J
  | _=>.stuck
noncomputable def evC (F:Calls) (q:Bool):Option CE->List V->Sto->R Bool
 | none,_,J=>.ok true J
 | some e,H,J=>(evE F q e H J).bind fun v J=>R.lift J (truthy J v)
noncomputable def evChain (F:Calls) (q:Bool):List P2->List CE->V->List V->Sto->R V
 | [op],[e],a,H,J=>if vK op&&q then .stuck else (evE F q e H J).bind fun b J=>R.lift J (ev2 op J a b)
 | op :: ops,e :: es,a,H,J=>if vK op&&q then .stuck else (evE F q e H J).bind fun b J=>(R.lift J (ev2 op J a b)).bind fun c J=>(R.lift J (truthy J c)).bind fun t J=>if t then evChain F q ops es b H J else .ok c J
 | _,_,_,_,_=>.stuck
end
noncomputable def zMU (c:List V->Sto->R Bool) (b:List V->Sto->R Fl):Nat->List V->Sto->R Fl
 | 0,_,_=>.stuck
 | n+1,H,J=>(c H J).bind fun t J=>if t then (b H J).bind fun fl J=>match fl with
   | .next H=>zMU c b n H J
   | .ret v=>.ok (.ret v) J
  else .ok (.next H) J
noncomputable def yp (it:Items) (f:V->List V->Sto->R Fl):Nat->Nat->List V->Sto->R Fl
 | 0,_,_,_=>.stuck
 | fuel+1,i,H,J=>match yL J it i with
  | none=>.stuck
  | some none=>.ok (.next H) J
  | some (some x)=>(f x H J).bind fun fl J=>match fl with
   | .next H=>yp it f fuel (i+1) H J
   | .ret v=>.ok (.ret v) J
noncomputable def yl (it:Items) (f:V->List V->Sto->R Fl) (H:List V) (J:Sto):R Fl:=yp it f (zAa J it) 0 H J
noncomputable def R.orElse {α β:Type} (r:R α) (f:α->Sto->R β) (g:Cls->Sto->R β):R β:=
 match r with
 | .ok a J=>f a J
 | .exc c J=>g c J
 | .stuck=>.stuck
noncomputable def zFe (k:TK) (v:V) (H:List V):Fl:=
 match k with
 | .ret=>.ret v
 | .asg i=>.next (H.set i v)
 | .exp=>.next H
noncomputable def Fl.unset (i:Nat):Fl->Fl
 | .next H=>.next (H.set i .undef)
 | .ret v=>.ret v
noncomputable def zE2 (as:Option Nat) (c:Cls) (H:List V):List V:=
 match as with
 | none=>H
 | some i=>H.set i (.exc c)
noncomputable def zLO (as:Option Nat) (fl:Fl):Fl:=
 match as with
 | none=>fl
 | some i=>fl.unset i
noncomputable def exH (Fq:Calls):List Hd->List V->Cls->Sto->R Fl
 | [],_,_,_=>.stuck
 | h :: hs,H,c,J=>if c.sub h.cls then ((evE Fq true h.e (zE2 h.as c H) J).calm.bind fun v J=>.ok (zLO h.as (zFe h.tk v (zE2 h.as c H))) J) else exH Fq hs H c J
noncomputable def zRj:Nat:=100000
mutual
noncomputable def exS (F Fq:Calls) (q:Bool):CS->List V->Sto->R Fl
 | .asg i e,H,J=>(evE F q e H J).bind fun v J=>.ok (.next (H.set i v)) J
 | .setItem o i v,H,J=>(evE F q v H J).bind fun v J=>(evE F q o H J).bind fun o J=>(evE F q i H J).bind fun i J=>(xP J o i v).bind fun _ J=>.ok (.next H) J
 | .setAttr o a v,H,J=>(evE F q v H J).bind fun v J=>(evE F q o H J).bind fun o J=>(wf J o a v).bind fun _ J=>.ok (.next H) J
 | .unpack3 i j k e,H,J=>if q then .stuck else (evE F q e H J).bind fun v J=>match v with
  | .tup [x,y,z]=>.ok (.next (((H.set i x).set j y).set k z)) J
  | _=>.stuck
 | .ite c a b,H,J=>(evE F q c H J).bind fun v J=>(R.lift J (truthy J v)).bind fun t J=>if t then exL F Fq q a H J else exL F Fq q b H J
 | .for i k src body,H,J=>if q then .stuck else (evL F q src H J).bind fun vs J=>(R.lift J (zT J k vs)).bind fun it J =>
   yl it (fun x H J=>exL F Fq q body (H.set i x) J) H J
 | .while c body,H,J=>if q then .stuck else zMU (fun H J=>((evE F q c H J).bind fun v J=>R.lift J (truthy J v)).calm) (fun H J=>(exL F Fq q body H J).calm) zRj H J
 | .ret e,H,J=>(evE F q e H J).bind fun v J=>.ok (.ret v) J
 | .exp e,H,J=>(evE F q e H J).bind fun _ J=>.ok (.next H) J
 | .raise c,_,J=>if q then .stuck else .exc c J
 | .try k e hs,H,J=>if q then .stuck else (evE F q e H J).orElse (fun v J=>.ok (zFe k v H) J) (exH Fq hs H)
 | .pass,H,J=>.ok (.next H) J
 | .stuck,_,_=>.stuck
noncomputable def exL (F Fq:Calls) (q:Bool):List CS->List V->Sto->R Fl
 | [],H,J=>.ok (.next H) J
 | s :: ss,H,J=>(exS F Fq q s H J).bind fun fl J=>match fl with
  | .next H=>exL F Fq q ss H J
  | .ret v=>.ok (.ret v) J
end
noncomputable def zCq:Fl->Sto->R V
 | .ret v,J=>.ok v J
 | .next _,J=>.ok .none J
noncomputable def zA (T:Nat->Option Fn):Nat->Bool->Calls
 | 0,_,_,_,_=>.stuck
 | d+1,q,f,args,J=>match T f with
  | none=>.stuck
  | some fn=>if args.length=fn.params then
    (exL (zA T d q) (zA T d true) q fn.body (args++List.replicate (fn.slots - fn.params) .undef) J).bind zCq
   else .stuck
end Mine
end

section
namespace Mine
theorem zB {α:Type} {x:α} {P:Prop} (h:none=some x):P:=nomatch h
theorem zF {P:Prop} (h:false=true):P:=nomatch h
theorem bind_some {α β:Type} {x:Option α} {f:α->Option β} {b:β} (h:x.bind f=some b):∃ a,x=some a /\ f a=some b:=Option.bind_eq_some_iff.mp h
theorem map_some {α β:Type} {x:Option α} {f:α->β} {b:β} (h:x.map f=some b):∃ a,x=some a /\ f a=b:=Option.map_eq_some_iff.mp h
theorem by2 {P:Nat->Prop} (h0:P 0) (h1:P 1) {k:Nat} (hk:k < 2):P k:=by
 cases k with
 | zero=>exact h0
 | succ k =>
  cases k with
  | zero=>exact h1
  | succ k=>exact absurd (Nat.lt_of_succ_lt_succ (Nat.lt_of_succ_lt_succ hk)) (Nat.not_lt_zero k)
theorem zN8 (a b:Int):a+b - a=b:=by rw [Int.add_comm,Int.add_sub_cancel]
theorem zQo (a n:Int):a - n - a=-n:=by rw [Int.sub_eq_add_neg (a:=a) (b:=n),zN8]
theorem zLd {c:Int} {B:Nat} (h1:0 <= c) (h2:c <= (B:Int)):c.natAbs <= B:=Int.ofNat_le.mp (by rw [Int.natAbs_of_nonneg h1]; exact h2)
open PySem
structure Ctx where
 fns:List (Str × Nat)
 meths:List (Str × Nat)
 consts:List (Str × V)
 excs:List (Str × Cls)
 attrs:List (Str × Nat)
 book:Bool
 trks:List (Nat × Nat × Nat)
noncomputable def kindNames:List (Str × Kd):=[("int",.int),("bool",.bool),("str",.str),("list",.list),("tuple",.tuple)
 ]
noncomputable def kindOf? (C:Ctx) (x:Str):Option Kd:=if (C.fns.lookup x).isSome then none else kindNames.lookup x
noncomputable def attrNames:List (Str × Nat):=[("entries",0),("history",1)]
noncomputable def yB (x:Str):List Str->Option Nat
 | []=>none
 | y :: ys=>match yB x ys with
  | some i=>some (i+1)
  | none=>if y==x then some 0 else none
noncomputable def zBH (sc:Scope) (x:Str):Bool:=match sc.names.lookup x with
 | some .local | some .cell | some .free=>true
 | _=>false
noncomputable def isGlob (sc:Scope) (x:Str):Bool:=sc.names.lookup x==some .globalImplicit
noncomputable def xj:CmpOp->Option P2
 | .Eq=>some .eq | .NotEq=>some .ne | .Lt=>some .lt | .LtE=>some .le | .Gt=>some .gt | .GtE=>some .ge
 | .In=>some .isIn | .NotIn=>some .notIn | _=>none
noncomputable def zCg:Operator->Option P2
 | .Add=>some .add | .Sub=>some .sub | .Mult=>some .mul | .FloorDiv=>some .fdiv | .Mod=>some .mod
 | .Pow=>some .pow
 | _=>none
noncomputable def b1Names:List (Str × P1):=[("len",.len),
 ("int",.toInt),
 ("str",.toStr),
 ("min",.min),("max",.max),
 ("all",.all),("list",.toList),("tuple",.toTup),("sum",.sum)]
noncomputable def b2Names:List (Str × P2):=[("min",.min),("max",.max)]
noncomputable def m1Names:List (Str × P2):=[("join",.join)
 ,("split",.split),("partition",.partition)
 ,("startswith",.startswith)
 ]
noncomputable def vM (C:Ctx) (p:Pos) (e:CE):CE:=if C.trks.contains (p.line,p.col,p.endCol) then .trk e else e
noncomputable def vQ (isAnd:Bool):List CE->Option CE
 | []=>none
 | [e]=>some e
 | e :: es=>(vQ isAnd es).map fun r=>if isAnd then .and e r else .or e r
noncomputable def zHC (C:Ctx) (Γ:List Str) (sc:Scope) (x:Str):Option CE:=
 if x==("__debug__" : Str)||x==("__classdict__" : Str) then none else if zBH sc x then (yB x Γ).map .var else if isGlob sc x then (C.consts.lookup x).map .lit else none
noncomputable def zPO:Str:=".0"
noncomputable def zF5 (Γ:List Str) (sc scope:Scope) (x:Str):Bool:=
 scope.kind==.function&&scope.names.lookup x==some .local&&!Γ.contains zPO&&x != zPO &&
  scope.names.all fun p=>match p.2 with
   | .cell=>false
   | .local=>(p.1==x||p.1==zPO)&&scope.names.lookup p.1==some .local
   | .free=>sc.names.lookup p.1==some .cell||sc.names.lookup p.1==some .free
   | _=>true
inductive EV where
 | non
 | str (s:Str)
 | name (x:Str)
 | call (f:Expr) (a:List Expr) (k:List Keyword)
 | slice (lo hi:Option Expr)
 | attr (o:Expr) (m:Str) (p:Pos)
 | sub (o i:Expr)
 | star
 | lcomp
 | other
noncomputable def yd:Expr->EV
 | .Constant .none _ _=>.non
 | .Constant (.str s) _ _=>.str s
 | .Name x _=>.name x
 | .Call f a k _=>.call f a k
 | .Slice lo hi none _=>.slice lo hi
 | .Attribute o m p=>.attr o m p
 | .Subscript o i _=>.sub o i
 | .Starred ..=>.star
 | .ListComp ..=>.lcomp
 | _=>.other
noncomputable def zRt (e:Expr):EV->Prop
 | .non=>∃ k p,e=.Constant .none k p
 | .str s=>∃ k p,e=.Constant (.str s) k p
 | .name x=>∃ p,e=.Name x p
 | .call f a k=>∃ p,e=.Call f a k p
 | .slice lo hi=>∃ p,e=.Slice lo hi none p
 | .attr o m p=>e=.Attribute o m p
 | .sub o i=>∃ p,e=.Subscript o i p
 | _=>True
theorem wJ (e:Expr):zRt e (yd e):=by
 cases e with
 | Constant k n p =>
  cases k with
  | none=>exact ⟨_,_,rfl⟩
  | str s=>exact ⟨_,_,rfl⟩
  | _=>exact True.intro
 | Name x p=>exact ⟨_,rfl⟩
 | Call f a k p=>exact ⟨_,rfl⟩
 | Slice lo hi st p =>
  cases st with
  | none=>exact ⟨_,rfl⟩
  | some _=>exact True.intro
 | Attribute o m p=>exact (rfl:Expr.Attribute o m p=.Attribute o m p)
 | Subscript o i p=>exact ⟨_,rfl⟩
 | _=>exact True.intro
noncomputable def EV.isNon:EV->Bool
 | .non=>true
 | _=>false
noncomputable def EV.str?:EV->Option Str
 | .str s=>some s
 | _=>none
noncomputable def EV.name?:EV->Option Str
 | .name x=>some x
 | _=>none
noncomputable def EV.call?:EV->Option (Expr × List Expr × List Keyword)
 | .call f a k=>some (f,a,k)
 | _=>none
noncomputable def EV.slice?:EV->Option (Option Expr × Option Expr)
 | .slice l h=>some (l,h)
 | _=>none
noncomputable def EV.attr?:EV->Option (Expr × Str × Pos)
 | .attr o m p=>some (o,m,p)
 | _=>none
noncomputable def EV.sub?:EV->Option (Expr × Expr)
 | .sub o i=>some (o,i)
 | _=>none
noncomputable def EV.isStar:EV->Bool
 | .star=>true
 | _=>false
noncomputable def EV.isComp:EV->Bool
 | .lcomp=>true
 | _=>false
noncomputable def EV.noSuper:EV->Bool
 | .call f [] []=>(yd f).name?.isNone
 | _=>true
noncomputable def isStar (e:Expr):Bool:=(yd e).isStar
noncomputable def isComp (e:Expr):Bool:=(yd e).isComp
noncomputable def noSuper (e:Expr):Bool:=(yd e).noSuper
noncomputable def vE (e:Expr):Bool:=(yd e).isNon
noncomputable def nameOf? (e:Expr):Option Str:=(yd e).name?
noncomputable def callParts? (e:Expr):Option (Expr × List Expr × List Keyword):=(yd e).call?
noncomputable def sliceParts? (e:Expr):Option (Option Expr × Option Expr):=(yd e).slice?
noncomputable def attrParts? (e:Expr):Option (Expr × Str × Pos):=(yd e).attr?
noncomputable def subParts? (e:Expr):Option (Expr × Expr):=(yd e).sub?
noncomputable def strC? (e:Expr):Option Str:=(yd e).str?
theorem zB8 {e:Expr} (h:vE e=true):∃ k p,e=.Constant .none k p:=by
 have hv:=wJ e
 replace h:(yd e).isNon=true:=h
 generalize yd e=v at hv h
 cases v with
 | non=>exact hv
 | _=>exact zF h
theorem nameOf?_eq {e:Expr} {x:Str} (h:nameOf? e=some x):∃ p,e=.Name x p:=by
 have hv:=wJ e
 replace h:(yd e).name?=some x:=h
 generalize yd e=v at hv h
 cases v with
 | name=>cases h; exact hv
 | _=>exact zB h
theorem callParts?_eq {e fn:Expr} {args:List Expr} {kws:List Keyword} (h:callParts? e=some (fn,args,kws)):∃ p,e=.Call fn args kws p:=by
 have hv:=wJ e
 replace h:(yd e).call?=some _:=h
 generalize yd e=v at hv h
 cases v with
 | call=>cases h; exact hv
 | _=>exact zB h
theorem sliceParts?_eq {e:Expr} {lo hi:Option Expr} (h:sliceParts? e=some (lo,hi)):∃ p,e=.Slice lo hi none p:=by
 have hv:=wJ e
 replace h:(yd e).slice?=some _:=h
 generalize yd e=v at hv h
 cases v with
 | slice=>cases h; exact hv
 | _=>exact zB h
theorem attrParts?_eq {e o:Expr} {m:Str} {p:Pos} (h:attrParts? e=some (o,m,p)):e=.Attribute o m p:=by
 have hv:=wJ e
 replace h:(yd e).attr?=some _:=h
 generalize yd e=v at hv h
 cases v with
 | attr=>cases h; exact hv
 | _=>exact zB h
theorem subParts?_eq {e:Expr} {p:Expr × Expr} (h:subParts? e=some p):∃ q,e=.Subscript p.1 p.2 q:=by
 have hv:=wJ e
 replace h:(yd e).sub?=some _:=h
 generalize yd e=v at hv h
 cases v with
 | sub=>cases h; exact hv
 | _=>exact zB h
theorem strC?_eq {e:Expr} {s:Str} (h:strC? e=some s):∃ k p,e=.Constant (.str s) k p:=by
 have hv:=wJ e
 replace h:(yd e).str?=some _:=h
 generalize yd e=v at hv h
 cases v with
 | str=>cases h; exact hv
 | _=>exact zB h
section
variable (C:Ctx) (rec:List Str->Scope->Expr->Option CE)
noncomputable def cL (Γ:List Str) (sc:Scope):List Expr->Option (List CE)
 | []=>some []
 | e :: es=>if isStar e then none else (rec Γ sc e).bind fun a=>(cL Γ sc es).map fun as=>a :: as
noncomputable def zPI (Γ:List Str) (sc:Scope):Option Expr->Option (Option CE)
 | none=>some none
 | some e=>(rec Γ sc e).map some
noncomputable def cIf (Γ:List Str) (sc:Scope):List Expr->Option (Option CE)
 | []=>some none
 | [e]=>(rec Γ sc e).map some
 | _=>none
noncomputable def zKm:Const->Option CE
 | .none=>some (.lit .none)
 | .bool b=>some (.lit (.bool b))
 | .int i=>some (.lit (.int i))
 | .str s=>if s.length <= 1000&&PyData.strOk s then some (.lit (.str s)) else none
 | _=>none
noncomputable def zPE (Γ:List Str) (sc:Scope) (a:Expr) (ops:List CmpOp) (cs:List Expr):Option CE:=
 if ops.length != cs.length then none else match cs,ops with
  | [b],[op] =>
   if op==.Is&&vE b then (rec Γ sc a).map (.p1 .isNone)
   else if op==.IsNot&&vE b then (rec Γ sc a).map (.p1 .isNotNone) else
   (xj op).bind fun o=>(rec Γ sc a).bind fun x=>(rec Γ sc b).map fun y=>.p2 o x y
  | cs,ops=>(ops.mapM xj).bind fun os=>(rec Γ sc a).bind fun x=>(cL rec Γ sc cs).map fun ys=>.chain x os ys
noncomputable def zKs (Γ:List Str) (sc:Scope) (e:Expr):Option (SK × List CE):=
 match callParts? e with
 | some (fn,args,kws)=>(match nameOf? fn with
  | some f=>if f==("range" : Str) then (if isGlob sc f&&kws.isEmpty then (cL rec Γ sc args).bind fun es=>(match es with
    | [a]=>some (.range1,[a])
    | _=>none) else none)
   else (rec Γ sc e).map fun a=>(.val,[a])
  | none=>(rec Γ sc e).map fun a=>(.val,[a]))
 | none=>(rec Γ sc e).map fun a=>(.val,[a])
noncomputable def zEY (Γ:List Str) (sc:Scope) (elt:Expr) (gens:List Comprehension) (scope:Scope):Option CE:=
 match gens with
 | [g]=>(nameOf? g.target).bind fun x =>
   if g.is_async != 0||!zF5 Γ sc scope x then none else (zKs rec Γ sc g.iter).bind fun s=>(cIf rec (Γ++[x]) scope g.ifs).bind fun c=>(rec (Γ++[x]) scope elt).map fun e=>.comp e s.1 s.2 c
 | _=>none
noncomputable def zPJ (Γ:List Str) (sc:Scope) (o i:Expr) (pos:Pos):Option CE:=
 match sliceParts? i with
 | some (lo,hi)=>(rec Γ sc o).bind fun a=>(zPI rec Γ sc lo).bind fun l=>(zPI rec Γ sc hi).map fun h=>vM C pos (.slice a l h)
 | none=>(rec Γ sc o).bind fun a=>(rec Γ sc i).map fun b=>.p2 .index a b
noncomputable def zF2 (Γ:List Str) (sc:Scope) (o:Expr) (m:Str) (args:List Expr):Option CE:=
 match args with
 | [x]=>if isStar x then none else if m==("append" : Str) then (rec Γ sc o).bind fun a=>(rec Γ sc x).map fun b=>.append a b
  else (m1Names.lookup m).bind fun p=>(rec Γ sc o).bind fun a=>(rec Γ sc x).map fun b=>.sm p a b
 | _=>none
noncomputable def zKp (Γ:List Str) (sc:Scope) (o:Expr) (m:Str) (apos:Pos) (args:List Expr) (pos:Pos):Option CE:=
 if !noSuper o||apos.endLine != pos.line then none else
  match C.meths.lookup m with
  | some n=>(rec Γ sc o).bind fun a=>(cL rec Γ sc args).map fun es=>.callm n a es
  | none =>
  zF2 rec Γ sc o m args
noncomputable def zBG (sc:Scope) (x:Str):Option Cls:=if isGlob sc x&&x != ("__debug__" : Str)&&x != ("ValueError" : Str) then C.excs.lookup x else none
noncomputable def zHB (Γ:List Str) (sc:Scope) (args:List Expr):Option CE:=
 match args with
 | [x,k]=>if isStar x then none else (nameOf? k).bind fun kn=>if isGlob sc kn then (match kindOf? C kn with
  | some kd=>(rec Γ sc x).map fun a=>.p1 (.isInst kd) a
  | none=>none) else none
 | _=>none
noncomputable def zPG (Γ:List Str) (sc:Scope) (f:Str) (args:List Expr) (pos:Pos):Option CE:=
 if !isGlob sc f then none
 else if f==("isinstance" : Str) then zHB C rec Γ sc args
 else (cL rec Γ sc args).bind fun es=>match C.fns.lookup f with
  | some n=>some (.call n es)
  | none =>
   if C.book&&f==("Book" : Str) then (if es.isEmpty then some .new else none) else
   (match es with
   | [a]=>(b1Names.lookup f).map fun o=>if f==("list" : Str) then vM C pos (.p1 o a) else .p1 o a
   | [a,b]=>(b2Names.lookup f).map fun o=>.p2 o a b
   | _=>none)
noncomputable def zKk (Γ:List Str) (sc:Scope) (fn:Expr) (args:List Expr) (kws:List Keyword) (pos:Pos):Option CE:=
 if !kws.isEmpty||20 < args.length then none else match attrParts? fn with
  | some (o,m,apos)=>zKp C rec Γ sc o m apos args pos
  | none=>(nameOf? fn).bind fun f=>zPG C rec Γ sc f args pos
noncomputable def zPF (Γ:List Str) (sc:Scope) (v:Expr):Option Expr->Option CE
 | some k=>(rec Γ sc k).bind fun a=>(rec Γ sc v).map fun b=>.dict1 a b
 | none=>none
noncomputable def zN6 (Γ:List Str) (sc:Scope) (ks:List (Option Expr)):List Expr->Option CE
 | []=>if ks.isEmpty then some .dict0 else none
 | v :: vs=>if vs.isEmpty then (match ks with
  | [k]=>zPF rec Γ sc v k
  | _=>none) else none
noncomputable def zOf (Γ:List Str) (sc:Scope):Expr->Option CE
 | .Constant k _ _=>zKm k
 | .Name x _=>zHC C Γ sc x
 | .BoolOp op vs _=>(cL rec Γ sc vs).bind fun es=>vQ (op==.And) es
 | .BinOp l op r pos=>(zCg op).bind fun o=>(rec Γ sc l).bind fun a=>(rec Γ sc r).map fun b=>vM C pos (.p2 o a b)
 | .UnaryOp .Not x _=>(rec Γ sc x).map (.p1 .not)
 | .UnaryOp .USub x _=>(rec Γ sc x).map (.p1 .neg)
 | .Compare a ops cs _=>zPE rec Γ sc a ops cs
 | .List es pos=>if es.length <= 1000 then (cL rec Γ sc es).map fun es=>vM C pos (.list es) else none
 | .Tuple es _ _=>if es.length <= 1000 then (cL rec Γ sc es).map .tup else none
 | .ListComp elt gens scope pos=>(zEY rec Γ sc elt gens scope).map fun e=>vM C pos e
 | .Subscript o i pos=>zPJ C rec Γ sc o i pos
 | .Call fn args kws pos=>zKk C rec Γ sc fn args kws pos
 | .Attribute o m _=>(C.attrs.lookup m).bind fun k=>if noSuper o then (rec Γ sc o).map fun a=>.attr a k else none
 | .Dict ks vs _=>zN6 rec Γ sc ks vs
 | _=>none
end
noncomputable def cE (C:Ctx):Nat->List Str->Scope->Expr->Option CE
 | 0=>fun _ _ _=>none
 | n+1=>zOf C (cE C n)
noncomputable def xo:Nat:=30
noncomputable def yN (Γ:List Str) (sc:Scope) (x:Str):Option Nat:=if sc.names.lookup x==some .local||sc.names.lookup x==some .cell then yB x Γ else none
section
variable (C:Ctx) (Γ:List Str) (sc:Scope) (rec:Stmt->CS)
noncomputable def tupleOf?:Expr->Option (List Expr)
 | .Tuple es _ _=>some es
 | _=>none
theorem tupleOf?_eq {e:Expr} {es:List Expr} (h:tupleOf? e=some es):∃ n tp,e=.Tuple es n tp:=by
 cases e with
 | Tuple _ n tp=>cases h; exact ⟨n,tp,rfl⟩
 | _=>exact zB h
noncomputable def zRf:List Expr->Option (Str × Str × Str)
 | [a,b,c]=>(nameOf? a).bind fun x=>(nameOf? b).bind fun y=>(nameOf? c).map fun z=>(x,y,z)
 | _=>none
noncomputable def tup3? (t:Expr):Option (Str × Str × Str):=(tupleOf? t).bind zRf
noncomputable def zN4 (t e:Expr):Option CS:=(tup3? t).bind fun p=>if (callParts? e).isNone then none else (yN Γ sc p.1).bind fun i=>(yN Γ sc p.2.1).bind fun j=>(yN Γ sc p.2.2).bind fun k=>(cE C xo Γ sc e).map fun c=>.unpack3 i j k c
noncomputable def zN5 (t e:Expr):Option CS:=
 match attrParts? t with
 | some p=>(C.attrs.lookup p.2.1).bind fun k=>if isComp e then none else (cE C xo Γ sc e).bind fun v=>(cE C xo Γ sc p.1).map fun b=>.setAttr b k v
 | none=>zN4 C Γ sc t e
noncomputable def zPD (t e:Expr):Option CS:=
 match nameOf? t with
 | some x=>(yN Γ sc x).bind fun i=>(cE C xo Γ sc e).map (.asg i)
 | none=>(match subParts? t with
  | some p=>if isComp e then none else (cE C xo Γ sc e).bind fun v=>(cE C xo Γ sc p.1).bind fun a=>(cE C xo Γ sc p.2).map fun b=>.setItem a b v
  | none=>zN5 C Γ sc t e)
noncomputable def zRy:Option Expr->Option (TK × CE)
 | some e=>(cE C xo Γ sc e).map fun c=>(.ret,c)
 | none=>none
noncomputable def zRx (e:Expr):List Expr->Option (TK × CE)
 | [t]=>if isComp e then none else (nameOf? t).bind fun x=>(yN Γ sc x).bind fun i=>(cE C xo Γ sc e).map fun c=>(.asg i,c)
 | _=>none
noncomputable def zQn:Stmt->Option (TK × CE)
 | .Return v _=>zRy C Γ sc v
 | .Assign ts e _=>zRx C Γ sc e ts
 | .Expr e _=>if isComp e then none else (cE C xo Γ sc e).map fun c=>(.exp,c)
 | _=>none
noncomputable def cTK:List Stmt->Option (TK × CE)
 | [s]=>zQn C Γ sc s
 | _=>none
noncomputable def cAs:Option Str->Option (Option Nat)
 | none=>some none
 | some n=>if sc.names.lookup n==some .local then (yN Γ sc n).bind fun _=>none else none
noncomputable def cHd:ExceptHandler->Option Hd
 | .ExceptHandler (some t) n body _=>(nameOf? t).bind fun x=>(zBG C sc x).bind fun k=>(cAs Γ sc n).bind fun as=>(cTK C Γ sc body).map fun p=>⟨k,as,p.1,p.2⟩
 | _=>none
noncomputable def zKo:List ExceptHandler->Option (List Hd)
 | []=>some []
 | h :: hs=>(cHd C Γ sc h).bind fun a=>(zKo hs).map fun as=>a :: as
noncomputable def zMy (fn:Expr) (kws:List Keyword):List Expr->Option CS
 | [x]=>if kws.isEmpty then (strC? x).bind fun s=>(nameOf? fn).bind fun f=>if s.length <= 1000&&PyData.strOk s then (zBG C sc f).map .raise else none else none
 | _=>none
noncomputable def zKr (e:Expr):Option CS:=(callParts? e).bind fun p=>zMy C sc p.1 p.2.2 p.2.1
noncomputable def zHv:Stmt->Option CS
 | .Return (some e) _=>(cE C xo Γ sc e).map .ret
 | .Assign [t] e _=>zPD C Γ sc t e
 | .If t a b _=>(cE C xo Γ sc t).map fun t=>.ite t (a.map rec) (b.map rec)
 | .For x iter body [] _=>(nameOf? x).bind fun x=>(yN Γ sc x).bind fun i=>(zKs (cE C xo) Γ sc iter).map fun s=>.for i s.1 s.2 (body.map rec)
 | .Expr e _=>if isComp e then none else (cE C xo Γ sc e).map .exp
 | .Pass _=>some .pass
 | .Raise (some e) none _=>zKr C sc e
 | .Try body (h :: hs) [] [] _=>(cTK C Γ sc body).bind fun p=>(zKo C Γ sc (h :: hs)).map fun hs=>.try p.1 p.2 hs
 | _=>none
end
noncomputable def cS (C:Ctx) (Γ:List Str) (sc:Scope):Nat->Stmt->CS
 | 0=>fun _=>.stuck
 | n+1=>fun s=>(zHv C Γ sc (cS C Γ sc n) s).getD .stuck
noncomputable def cSL (C:Ctx) (Γ:List Str) (sc:Scope) (l:List Stmt):List CS:=l.map (cS C Γ sc xo)
noncomputable def wB (params:List Str) (sc:Scope):List Str:=
 params++(sc.names.filter fun p=>(p.2==.local||p.2==.cell)&&!params.contains p.1).map (·.1)
end Mine
end

section
namespace Mine
open PySem
noncomputable def zRi (H:List V) (i j k:Nat) (v:V) (J:Sto):R Fl:=match v with
 | .tup [x,y,z]=>.ok (.next (((H.set i x).set j y).set k z)) J
 | _=>.stuck
theorem un3 {H:List V} {i j k:Nat} {v:V} {J:Sto} (h:zRi H i j k v J ≠ .stuck):∃ v1 v2 v3,v=.tup [v1,v2,v3]:=by
 cases v with
 | tup xs =>
  rcases xs with _ | ⟨x,_ | ⟨y,_ | ⟨z,_ | ⟨w,r⟩⟩⟩⟩
  ·exact absurd rfl h
  ·exact absurd rfl h
  ·exact absurd rfl h
  ·exact ⟨_,_,_,rfl⟩
  ·exact absurd rfl h
 | _=>exact absurd rfl h
noncomputable def zOW (v:V) (J:Sto):R (Option Int):=match v with
 | .int i=>.ok (some i) J
 | _=>.stuck
theorem zL4 {v:V} {J:Sto} (h:zOW v J ≠ .stuck):∃ i,v=.int i:=by
 cases v with
 | int i=>exact ⟨i,rfl⟩
 | _=>exact absurd rfl h
theorem zKO {v:V} {y:Str} (h:strOf? v=some y):v=.str y:=by
 cases v with
 | str _=>cases h; rfl
 | _=>exact zB h
theorem zLP {J:Sto} {v:V} (h:isInst J v=true):∃ n as,v=.ref n /\ J[n]?=some (.inst as):=by
 cases v with
 | ref n =>
  replace h:(match J[n]? with | some (.inst _)=>true | _=>false)=true:=h
  cases hJ:J[n]? with
  | none=>rw [hJ] at h; exact zF h
  | some o =>
   rw [hJ] at h
   cases o with
   | inst as=>exact ⟨n,as,rfl,hJ⟩
   | _=>exact zF h
 | _=>exact zF h
theorem zKY {J:Sto} {v x:V} {k:Nat} (h:zAS J v k=some x):∃ n as,v=.ref n /\ J[n]?=some (.inst as) /\ as.lookup k=some x:=by
 cases v with
 | ref n =>
  replace h:zG3 k J[n]?=some x:=h
  cases hJ:J[n]? with
  | none=>rw [hJ] at h; exact zB h
  | some o =>
   rw [hJ] at h
   cases o with
   | inst as=>exact ⟨n,as,rfl,hJ,h⟩
   | _=>exact zB h
 | _=>exact zB h
theorem zFQ {J:Sto} {o v:V} {k:Nat} (h:wf J o k v ≠ .stuck):∃ n as,o=.ref n /\ J[n]?=some (.inst as):=by
 cases o with
 | ref n =>
  replace h:kQ J n k v J[n]? ≠ .stuck:=h
  cases hJ:J[n]? with
  | none=>rw [hJ] at h; exact absurd rfl h
  | some o =>
   rw [hJ] at h
   cases o with
   | inst as=>exact ⟨n,as,rfl,hJ⟩
   | _=>exact absurd rfl h
 | _=>exact absurd rfl h
theorem zIS {n:Nat} {J:Sto} {k v:V} (h:zBY n J k v ≠ .stuck):∃ ki,k=.int ki /\ J[n]?=some (.dict []):=by
 cases k with
 | int ki =>
  replace h:zBx n J ki v J[n]? ≠ .stuck:=h
  cases hJ:J[n]? with
  | none=>rw [hJ] at h; exact absurd rfl h
  | some o =>
   rw [hJ] at h
   cases o with
   | dict es =>
    cases es with
    | nil=>exact ⟨ki,rfl,rfl⟩
    | cons _ _=>exact absurd rfl h
   | _=>exact absurd rfl h
 | _=>exact absurd rfl h
theorem zFw {J:Sto} {o v:V} (h:wI J o v ≠ .stuck):∃ n xs,o=.ref n /\ J[n]?=some (.list xs) /\ xs.length < LIM:=by
 cases o with
 | ref n =>
  replace h:(match J[n]? with | some (.list xs)=>if xs.length < LIM then R.ok V.none (J.set n (.list (xs++[v]))) else .stuck | _=>.stuck) ≠ .stuck:=h
  cases hJ:J[n]? with
  | none=>rw [hJ] at h; exact absurd rfl h
  | some o =>
   rw [hJ] at h
   cases o with
   | list xs =>
    replace h:(if xs.length < LIM then R.ok V.none (J.set n (.list (xs++[v]))) else .stuck) ≠ .stuck:=h
    by_cases hl:xs.length < LIM
    ·exact ⟨n,xs,rfl,hJ,hl⟩
    ·rw [if_neg hl] at h; exact absurd rfl h
   | _=>exact absurd rfl h
 | _=>exact absurd rfl h
section
variable (F Fq:Calls) (q:Bool) (H:List V) (J:Sto)
@[simp] theorem zBO (v:V):evE F q (.lit v) H J=.ok v J:=id rfl
@[simp] theorem zu (i:Nat):evE F q (.var i) H J=R.lift J (zK H i):=id rfl
@[simp] theorem zKS (o:P1) (a:CE):evE F q (.p1 o a) H J=if jB o&&q then .stuck else (evE F q a H J).bind fun a J=>R.lift J (ev1 o J a):=id rfl
@[simp] theorem zMc (o:P2) (a b:CE):evE F q (.p2 o a b) H J=if vK o&&q then .stuck else (evE F q a H J).bind fun a J=>(evE F q b H J).bind fun b J=>R.lift J (ev2 o J a b):=id rfl
@[simp] theorem zAQ (a:CE) (ops:List P2) (es:List CE):evE F q (.chain a ops es) H J=(evE F q a H J).bind fun a J=>evChain F q ops es a H J:=id rfl
@[simp] theorem zH7 (a:CE) (lo hi:Option CE):evE F q (.slice a lo hi) H J=(evE F q a H J).bind fun a J=>(evO F q lo H J).bind fun lo J=>(evO F q hi H J).bind fun hi J=>R.lift J (vB J a lo hi):=id rfl
@[simp] theorem zH3 (a b:CE):evE F q (.and a b) H J=(evE F q a H J).bind fun a J=>(R.lift J (truthy J a)).bind fun t J=>if t then evE F q b H J else .ok a J:=id rfl
@[simp] theorem zNy (a b:CE):evE F q (.or a b) H J=(evE F q a H J).bind fun a J=>(R.lift J (truthy J a)).bind fun t J=>if t then .ok a J else evE F q b H J:=id rfl
@[simp] theorem zMe (es:List CE):evE F q (.tup es) H J=(evL F q es H J).bind fun vs J=>.ok (.tup vs) J:=id rfl
@[simp] theorem zMb (es:List CE):evE F q (.list es) H J=(evL F q es H J).bind fun vs J=>.ok (.lst vs) J:=id rfl
@[simp] theorem zMY (f:Nat) (args:List CE):evE F q (.call f args) H J=(evL F q args H J).bind fun vs J=>F f vs J:=id rfl
@[simp] theorem zQS (o:P2) (a b:CE):evE F q (.sm o a b) H J=(evE F q a H J).bind fun a J=>if zEE o J a then (evE F q b H J).bind fun b J=>R.lift J (ev2 o J a b) else .stuck:=id rfl
@[simp] theorem zCX (l x:CE):evE F q (.append l x) H J=(evE F q l H J).bind fun o J=>if xx J o then (evE F q x H J).bind fun x J=>wI J o x else .stuck:=id rfl
@[simp] theorem zR4 (l:CE):evE F q (.pop l) H J=(evE F q l H J).bind fun o J=>zN9 J o:=id rfl
@[simp] theorem zRo (l:CE):evE F q (.clear l) H J=(evE F q l H J).bind fun o J=>zHI J o:=id rfl
@[simp] theorem zCY (e:CE):evE F q (.trk e) H J=(evE F q e H J).bind fun v J=>zEj J v:=id rfl
@[simp] theorem zOj:evL F q [] H J=.ok [] J:=id rfl
@[simp] theorem jT (e:CE) (es:List CE):evL F q (e :: es) H J=(evE F q e H J).bind fun v J=>(evL F q es H J).bind fun vs J=>.ok (v :: vs) J:=id rfl
@[simp] theorem zNx:evO F q none H J=.ok none J:=id rfl
@[simp] theorem zEN (e:CE):evO F q (some e) H J=(evE F q e H J).bind fun v J=>zOW v J:=id rfl
@[simp] theorem zNv:evC F q none H J=.ok true J:=id rfl
@[simp] theorem zBk (e:CE):evC F q (some e) H J=(evE F q e H J).bind fun v J=>R.lift J (truthy J v):=id rfl
@[simp] theorem zMW (i:Nat) (e:CE):exS F Fq q (.asg i e) H J=(evE F q e H J).bind fun v J=>.ok (.next (H.set i v)) J:=id rfl
@[simp] theorem zDj (o i v:CE):exS F Fq q (.setItem o i v) H J=(evE F q v H J).bind fun v J=>(evE F q o H J).bind fun o J=>(evE F q i H J).bind fun i J=>(xP J o i v).bind fun _ J=>.ok (.next H) J:=id rfl
@[simp] theorem zMa (c:CE) (a b:List CS):exS F Fq q (.ite c a b) H J=(evE F q c H J).bind fun v J=>(R.lift J (truthy J v)).bind fun t J=>if t then exL F Fq q a H J else exL F Fq q b H J:=id rfl
@[simp] theorem zMd (e:CE):exS F Fq q (.ret e) H J=(evE F q e H J).bind fun v J=>.ok (.ret v) J:=id rfl
@[simp] theorem zMZ (e:CE):exS F Fq q (.exp e) H J=(evE F q e H J).bind fun _ J=>.ok (.next H) J:=id rfl
@[simp] theorem zDk (i j k:Nat) (e:CE):exS F Fq q (.unpack3 i j k e) H J=if q then .stuck else (evE F q e H J).bind fun v J=>zRi H i j k v J:=id rfl
@[simp] theorem zOk (k:TK) (e:CE) (hs:List Hd):exS F Fq q (.try k e hs) H J=if q then .stuck else (evE F q e H J).orElse (fun v J=>.ok (zFe k v H) J) (exH Fq hs H):=id rfl
@[simp] theorem zQR:exS F Fq q .pass H J=.ok (.next H) J:=id rfl
@[simp] theorem zQQ:exL F Fq q [] H J=.ok (.next H) J:=id rfl
@[simp] theorem zH6 (s:CS) (ss:List CS):exL F Fq q (s :: ss) H J=(exS F Fq q s H J).bind fun fl J=>match fl with | .next H=>exL F Fq q ss H J | .ret v=>.ok (.ret v) J:=id rfl
@[simp] theorem zMX (e:CE) (a:Nat):evE F q (.attr e a) H J=(evE F q e H J).bind fun o J=>R.lift J (zAS J o a):=id rfl
@[simp] theorem zEL (f:Nat) (o:CE) (args:List CE):evE F q (.callm f o args) H J=(evE F q o H J).bind fun o J=>if isInst J o then (evL F q args H J).bind fun vs J=>F f (o :: vs) J else .stuck:=id rfl
@[simp] theorem zRk:evE F q .new H J=(F 0 [.ref J.length] (J++[.inst []])).bind (zCD J.length):=id rfl
@[simp] theorem zNw:evE F q .dict0 H J=.ok (.ref J.length) (J++[.dict []]):=id rfl
@[simp] theorem zEM (k v:CE):evE F q (.dict1 k v) H J=(evE F q k H (J++[.dict []])).bind fun a J1=>(evE F q v H J1).bind fun b J2=>zBY J.length J2 a b:=id rfl
@[simp] theorem zDi (o:CE) (a:Nat) (v:CE):exS F Fq q (.setAttr o a v) H J=(evE F q v H J).bind fun v J=>(evE F q o H J).bind fun o J=>(wf J o a v).bind fun _ J=>.ok (.next H) J:=id rfl
@[simp] theorem zRp (c:Cls):exS F Fq q (.raise c) H J=if q then .stuck else .exc c J:=id rfl
@[simp] theorem zFr (op:P2) (e:CE) (a:V):evChain F q [op] [e] a H J=if vK op&&q then .stuck else (evE F q e H J).bind fun b J=>R.lift J (ev2 op J a b):=id rfl
@[simp] theorem zFs (op op':P2) (ops:List P2) (e e':CE) (es:List CE) (a:V):evChain F q (op :: op' :: ops) (e :: e' :: es) a H J=if vK op&&q then .stuck else (evE F q e H J).bind fun b J=>(R.lift J (ev2 op J a b)).bind fun c J=>(R.lift J (truthy J c)).bind fun t J=>if t then evChain F q (op' :: ops) (e' :: es) b H J else .ok c J:=id rfl
@[simp] theorem zGw (elt:CE) (k:SK) (src:List CE) (cond:Option CE):evE F q (.comp elt k src cond) H J=if q then .stuck else (evL F q src H J).bind fun vs J=>(R.lift J (zT J k vs)).bind fun it J =>
   (zn it (fun x acc J=>(evC F q cond (H++[x]) J).calm.bind fun t J=>if t then (evE F q elt (H++[x]) J).calmE.bind fun y J=>(if acc.length < LIM then .ok (acc++[y]) J else .stuck) else .ok acc J) [] J).bind fun acc J=>.ok (.lst acc) J:=id rfl
theorem zOi (i:Nat) (k:SK) (src:List CE) (body:List CS):exS F Fq q (.for i k src body) H J=if q then .stuck else (evL F q src H J).bind fun vs J=>(R.lift J (zT J k vs)).bind fun it J =>
   yl it (fun x H J=>exL F Fq q body (H.set i x) J) H J:=id rfl
theorem zH4 {β:Type} {it:Items} {f:V->β->Sto->R β} {k i:Nat} {b:β} {J:Sto} (h:yL J it i=some none):yb it f (k+1) i b J=.ok b J:=by
 show (match yL J it i with | none=>R.stuck | some none=>.ok b J | some (some x)=>(f x b J).bind fun b J=>yb it f k (i+1) b J)=_
 rw [h]
theorem zH5 {β:Type} {it:Items} {f:V->β->Sto->R β} {k i:Nat} {b:β} {J:Sto} {x:V} (h:yL J it i=some (some x)):yb it f (k+1) i b J=(f x b J).bind fun b J=>yb it f k (i+1) b J:=by
 show (match yL J it i with | none=>R.stuck | some none=>.ok b J | some (some x)=>(f x b J).bind fun b J=>yb it f k (i+1) b J)=_
 rw [h]
theorem zQO {it:Items} {f:V->List V->Sto->R Fl} {k i:Nat} {H:List V} {J:Sto} (h:yL J it i=some none):yp it f (k+1) i H J=.ok (.next H) J:=by
 show (match yL J it i with | none=>R.stuck | some none=>R.ok (Fl.next H) J | some (some x)=>(f x H J).bind fun fl J=>match fl with | Fl.next H=>yp it f k (i+1) H J | Fl.ret v=>R.ok (Fl.ret v) J)=_
 rw [h]
theorem zQP {it:Items} {f:V->List V->Sto->R Fl} {k i:Nat} {H H':List V} {J J':Sto} {x:V} (h:yL J it i=some (some x)) (e:f x H J=.ok (.next H') J'):yp it f (k+1) i H J=yp it f k (i+1) H' J':=by
 show (match yL J it i with | none=>R.stuck | some none=>R.ok (Fl.next H) J | some (some x)=>(f x H J).bind fun fl J=>match fl with | Fl.next H=>yp it f k (i+1) H J | Fl.ret v=>R.ok (Fl.ret v) J)=_
 rw [h]
 show R.bind (f x H J) _=_
 rw [e]; rfl
end
theorem zGD {it:Items} {f:V->List V->Sto->R Fl} {i:Nat} {H:List V} {J:Sto}:yp it f 0 i H J=.stuck:=rfl
theorem jL {it:Items} {f:V->List V->Sto->R Fl} {n i:Nat} {H:List V} {J:Sto}:yp it f (n+1) i H J=match yL J it i with
  | none=>.stuck
  | some none=>.ok (.next H) J
  | some (some x)=>(f x H J).bind fun fl J=>match fl with
   | .next H=>yp it f n (i+1) H J
   | .ret v=>.ok (.ret v) J:=rfl
theorem zEw {β:Type} {it:Items} {f:V->β->Sto->R β} {i:Nat} {b:β} {J:Sto}:yb it f 0 i b J=.stuck:=rfl
theorem vR {β:Type} {it:Items} {f:V->β->Sto->R β} {n i:Nat} {b:β} {J:Sto}:yb it f (n+1) i b J=match yL J it i with
  | none=>.stuck
  | some none=>.ok b J
  | some (some x)=>(f x b J).bind fun b J=>yb it f n (i+1) b J:=rfl
theorem vO {T:Nat->Option Fn} {d:Nat} {q:Bool} {k:Nat} {vs:List V} {J:Sto}:zA T (d+1) q k vs J=match T k with
  | none=>.stuck
  | some fn=>if vs.length=fn.params then
    (exL (zA T d q) (zA T d true) q fn.body (vs++List.replicate (fn.slots - fn.params) .undef) J).bind zCq
   else .stuck:=rfl
end Mine
end

section
namespace Mine
open PySem
noncomputable def Gives (J:Sto) (it:Items) (xs:List V):Prop:=it=.now xs \/ ∃ n,it=.live n /\ J[n]?=some (.list xs)
theorem Gives.next {J:Sto} {it:Items} {xs:List V} (h:Gives J it xs) (i:Nat):yL J it i=some xs[i]?:=by
 rcases h with rfl | ⟨n,rfl,h⟩
 ·rfl
 ·simp [yL,h]
theorem Gives.fuel {J:Sto} {it:Items} {xs:List V} (h:Gives J it xs):zAa J it=xs.length+1:=by
 rcases h with rfl | ⟨n,rfl,h⟩
 ·rfl
 ·simp [zAa,h]
theorem zIW {β:Type} {it:Items} {f:V->β->Sto->R β} {xs:List V} {J:Sto} (g:Nat->β) (hit:Gives J it xs)
  (h:∀ i x,xs[i]?=some x->f x (g i) J=.ok (g (i+1)) J):zn it f (g 0) J=.ok (g xs.length) J:=by
 have key:∀ k i,k+i=xs.length->yb it f (k+1) i (g i) J=.ok (g xs.length) J:=by
  intro k
  induction k with
  | zero =>
   intro i hi
   obtain rfl:i=xs.length:=(Nat.zero_add i).symm.trans hi
   exact zH4 ((hit.next _).trans (by rw [List.getElem?_eq_none (Nat.le_refl _)]))
  | succ k ih =>
   intro i hi
   have hlt:i < xs.length:=Nat.lt_of_lt_of_eq (Nat.lt_add_of_pos_left (Nat.succ_pos k)) hi
   rw [zH5 ((hit.next _).trans (by rw [List.getElem?_eq_getElem hlt]))]
   rw [h i _ (List.getElem?_eq_getElem hlt)]
   exact ih (i+1) ((Nat.succ_add_eq_add_succ k i).symm.trans hi)
 have:=key xs.length 0 rfl
 rw [zn,hit.fuel]
 exact this
theorem R.calm_ok {α:Type} {a:α} {J:Sto}:(R.ok a J).calm=.ok a J:=rfl
theorem yw {F:Calls} {elt:CE} {k:SK} {src:List CE} {cond:Option CE} {H vs:List V} {J J1:Sto} {it:Items} {α:Type} {l:List α} {φ:α->V}
  (p:α->Bool) (g:α->V) (hsrc:evL F false src H J=.ok vs J1) (hit:zT J1 k vs=some it) (hg:Gives J1 it (l.map φ)) (hl:l.length < LIM)
  (hc:∀ x ∈ l,evC F false cond (H++[φ x]) J1=.ok (p x) J1) (he:∀ x ∈ l,p x=true->evE F false elt (H++[φ x]) J1=.ok (g x) J1) :
  evE F false (.comp elt k src cond) H J=.ok (.lst ((l.filter p).map g)) J1:=by
 show ((evL F false src H J).bind fun vs J=>(R.lift J (zT J k vs)).bind fun it J =>
   (zn it (fun x acc J=>(evC F false cond (H++[x]) J).calm.bind fun t J=>if t then (evE F false elt (H++[x]) J).calmE.bind fun y J=>(if acc.length < LIM then .ok (acc++[y]) J else .stuck) else .ok acc J) [] J).bind fun acc J=>R.ok (V.lst acc) J)=_
 simp only [hsrc,R.bind_ok,hit,R.lift_some]
 have:=zIW (f:=fun x acc J=>(evC F false cond (H++[x]) J).calm.bind fun t J=>if t then (evE F false elt (H++[x]) J).calmE.bind fun y J=>(if acc.length < LIM then .ok (acc++[y]) J else .stuck) else .ok acc J)
  (fun i=>((l.take i).filter p).map g) hg (fun i x hx=>by
   rw [List.getElem?_map] at hx
   cases hi:l[i]? with
   | none=>rw [hi] at hx; cases hx
   | some a =>
    rw [hi] at hx
    obtain rfl:φ a=x:=by simpa using hx
    have ha:a ∈ l:=List.mem_of_getElem? hi
    have hlt:i < l.length:=(List.getElem?_eq_some_iff.mp hi).1
    have ht:l.take (i+1)=l.take i++[a]:=by rw [List.take_add_one,hi]; rfl
    simp only [hc a ha,R.calm_ok,R.bind_ok,ht,List.filter_append,List.map_append]
    cases hp:p a with
    | false=>simp [hp]
    | true =>
     have hle:(((l.take i).filter p).map g).length < LIM:=by
      have:=List.length_filter_le p (l.take i)
      rw [List.length_map]
      exact Nat.lt_of_le_of_lt this (Nat.lt_of_le_of_lt (List.length_take_le' i l) hl)
     simp [he a ha hp,R.calmE,R.calm_ok,hp,List.length_map] at hle ⊢
     exact hle)
 simp only [List.take_zero,List.filter_nil,List.map_nil,List.length_map,List.take_length] at this
 rw [this]
 rfl
theorem zNC {it:Items} {f:V->List V->Sto->R Fl} {xs:List V} {H:List V} {J:Sto} (I:Nat->List V->Sto->Prop) (hit:∀ i H J,I i H J->Gives J it xs) (h0:I 0 H J)
  (hs:∀ i x H J,xs[i]?=some x->I i H J->∃ H' J',f x H J=.ok (.next H') J' /\ I (i+1) H' J') :
  ∃ H' J',yl it f H J=.ok (.next H') J' /\ I xs.length H' J':=by
 have key:∀ k i H J,k+i=xs.length->I i H J->∃ H' J',yp it f (k+1) i H J=.ok (.next H') J' /\ I xs.length H' J':=by
  intro k
  induction k with
  | zero =>
   intro i H J hi h
   obtain rfl:i=xs.length:=(Nat.zero_add i).symm.trans hi
   exact ⟨H,J,zQO (((hit _ _ _ h).next _).trans (by rw [List.getElem?_eq_none (Nat.le_refl _)])),h⟩
  | succ k ih =>
   intro i H J hi h
   have hlt:i < xs.length:=Nat.lt_of_lt_of_eq (Nat.lt_add_of_pos_left (Nat.succ_pos k)) hi
   obtain ⟨H',J',e,h'⟩:=hs i _ H J (List.getElem?_eq_getElem hlt) h
   obtain ⟨H'',J'',e',h''⟩:=ih (i+1) H' J' ((Nat.succ_add_eq_add_succ k i).symm.trans hi) h'
   refine ⟨H'',J'',?_,h''⟩
   rw [zQP (((hit _ _ _ h).next _).trans (by rw [List.getElem?_eq_getElem hlt])) e]
   exact e'
 rw [yl,(hit _ _ _ h0).fuel]
 exact key xs.length 0 H J rfl h0
section
variable (J:Sto)
@[simp] theorem zHQ (x y:Int):ev2 .add J (.int x) (.int y)=some (.int (x+y)):=rfl
@[simp] theorem zBZ (x y:Int):ev2 .sub J (.int x) (.int y)=some (.int (x - y)):=rfl
@[simp] theorem xY (x y:Int):ev2 .lt J (.int x) (.int y)=some (.bool (x < y)):=rfl
@[simp] theorem zR1 (x y:Int):ev2 .le J (.int x) (.int y)=some (.bool (x <= y)):=rfl
@[simp] theorem zDw (x y:Int):ev2 .gt J (.int x) (.int y)=some (.bool (x > y)):=rfl
@[simp] theorem zGC (x y:Int):ev2 .ge J (.int x) (.int y)=some (.bool (x >= y)):=rfl
@[simp] theorem zHS (x y:Int):ev2 .min J (.int x) (.int y)=some (.int (if y < x then y else x)):=rfl
@[simp] theorem zHR (x y:Int):ev2 .max J (.int x) (.int y)=some (.int (if y > x then y else x)):=rfl
theorem zM6 (y:Nat) (h:y <= 40):ev2 .pow J (.int 10) (.int y)=some (.int (10 ^ y)):=by
 show (if ((10:Int)==10&&decide (0 <= (y:Int))&&decide ((y:Int) <= 40))=true then some (V.int (10 ^ (y:Int).toNat)) else none)=_
 rw [if_pos (by simp; omega),Int.toNat_natCast]
theorem yW (x y:Int) (h:yR x=true \/ yR y=true):ev2 .mul J (.int x) (.int y)=some (.int (x * y)):=by
 show (if (yR x||yR y)=true then some (V.int (x * y)) else none)=_
 rw [<- Bool.or_eq_true] at h; rw [if_pos h]
theorem wh (x y:Int) (h:(y==0||decide (1073741824 <= y.natAbs))=false):ev2 .fdiv J (.int x) (.int y)=some (.int (x.fdiv y)):=by
 show (if (y==0||decide (1073741824 <= y.natAbs))=true then none else some (V.int (x.fdiv y)))=_
 rw [h]; rfl
theorem wO (x y:Int) (h:(y==0)=false):ev2 .mod J (.int x) (.int y)=some (.int (x.fmod y)):=by
 show (if (y==0)=true then none else some (V.int (x.fmod y)))=_
 rw [h]; rfl
@[simp] theorem zRl (a b:Int):eqV J (.int a) (.int b)=some (a==b):=rfl
@[simp] theorem wY (x y:Int):ev2 .eq J (.int x) (.int y)=some (.bool (x==y)):=rfl
@[simp] theorem zLB (x y:Int):ev2 .ne J (.int x) (.int y)=some (.bool (x != y)):=rfl
@[simp] theorem zRn (x:Int):ev1 .neg J (.int x)=some (.int (-x)):=rfl
@[simp] theorem zRm (x:Int):ev1 .abs J (.int x)=some (.int x.natAbs):=rfl
@[simp] theorem zi (xs:List V):ev1 .len J (.lst xs)=some (.int xs.length):=rfl
@[simp] theorem zEs (xs:List V):ev1 .len J (.tup xs)=some (.int xs.length):=rfl
theorem xQ {n:Nat} {xs:List V} (h:J[n]?=some (.list xs)):ev1 .len J (.ref n)=some (.int xs.length):=by
 show (match J[n]? with | some (.list xs)=>some (V.int xs.length) | _=>none)=_
 rw [h]
@[simp] theorem zM5 (b:Bool):ev1 .not J (.bool b)=some (.bool !b):=rfl
@[simp] theorem zK9 (xs:List V):ev1 .toList J (.lst xs)=some (.lst xs):=rfl
@[simp] theorem zLA (xs:List V):ev1 .toList J (.tup xs)=some (.lst xs):=rfl
@[simp] theorem zBE (x:Str):ev1 .len J (.str x)=some (.int x.length):=rfl
@[simp] theorem zRP (x:Str):jd J .str (.str x)=some true:=rfl
@[simp] theorem zRO (i:Int):jd J .str (.int i)=some false:=rfl
@[simp] theorem zQV (x:Str):strOf? (.str x)=some x:=rfl
@[simp] theorem zOh (b:Bool):truthy J (.bool b)=some b:=rfl
@[simp] theorem truthy_int (b:Int):truthy J (.int b)=some (b != 0):=rfl
noncomputable def iv (l:List Int):List V:=l.map V.int
@[simp] theorem vT (l:List Int):(iv l).length=l.length:=by simp [iv]
noncomputable def gI (l:List Int) (k:Nat):Int:=l.getD k 0
theorem zHa (l:List Int):ints? (iv l)=some l:=by
 induction l with
 | nil=>rfl
 | cons x l ih =>
  simp only [ints?,iv,List.map_cons,List.mapM_cons] at ih ⊢
  simp [ih,intOf?]
@[simp] theorem zBF (l:List Int):ev1 .sum J (.lst (iv l))=some (.int l.sum):=by
 show (ints? (iv l)).map (fun l=>V.int l.sum)=_
 rw [zHa]; rfl
theorem xH {n i:Nat} (h:i < n):ze n (i:Int)=some i:=by
 unfold ze
 rw [if_pos (Int.natCast_nonneg i),Int.toNat_natCast,if_pos h]
theorem yy {l:List V} {i:Nat} {v:V} (h:l[i]?=some v):ev2 .index J (.lst l) (.int i)=some v:=by
 show ((ze l.length i).bind fun k=>l[k]?)=some v
 rw [xH (List.getElem?_eq_some_iff.mp h).1]; exact h
theorem wi {l:List V} {i:Nat} {v:V} (h:l[i]?=some v):ev2 .index J (.tup l) (.int i)=some v:=by
 show ((ze l.length i).bind fun k=>l[k]?)=some v
 rw [xH (List.getElem?_eq_some_iff.mp h).1]; exact h
theorem za {l:List V} {i n:Nat} {v:V} (hn:J[n]?=some (.list l)) (h:l[i]?=some v):ev2 .index J (.ref n) (.int i)=some v:=by
 show (match J[n]? with | some (.list xs)=>(ze xs.length i).bind fun k=>xs[k]? | some (.dict es)=>(es.find? fun p=>p.1==(i:Int)).map fun p=>p.2 | _=>none)=some v
 rw [hn]
 show ((ze l.length i).bind fun k=>l[k]?)=some v
 rw [xH (List.getElem?_eq_some_iff.mp h).1]; exact h
theorem zPf {l:List Int} {i:Nat} (h:i < l.length):(iv l)[i]?=some (.int (gI l i)):=by simp [iv,gI,h]
theorem zAY {l:List Int} {i:Nat} (h:i < l.length):ev2 .index J (.lst (iv l)) (.int i)=some (.int (gI l i)):=yy J (zPf h)
theorem yG {n:Int} (h:n.natAbs <= LIM):zT J .range1 [.int n]=some (.now (zl 0 n)):=by
 show (if n.natAbs <= LIM then some (Items.now (zl 0 n)) else none)=_
 rw [if_pos h]
theorem zE9 {xs:List V}:zT J .val [.tup xs]=some (.now xs):=rfl
theorem wQ {n:Nat} {xs:List V} (h:J[n]?=some (.list xs)):zT J .val [.ref n]=some (.live n):=by
 show zAI n J[n]?=_
 rw [h]; rfl
@[simp] theorem zB3 (k:Kd) (v:V):ev1 (.isInst k) J v=(jd J k v).map .bool:=rfl
@[simp] theorem zRM (i:Int):jd J .int (.int i)=some true:=rfl
@[simp] theorem zRL (i:Int):jd J .bool (.int i)=some false:=rfl
@[simp] theorem zRQ (xs:List V):jd J .tuple (.tup xs)=some true:=rfl
@[simp] theorem zRN (xs:List V):jd J .list (.lst xs)=some true:=rfl
theorem zE6 {n:Nat} {xs:List V} (h:J[n]?=some (.list xs)):jd J .list (.ref n)=some true:=by
 show zKJ J[n]? .list=_
 rw [h]; rfl
theorem vG {n i:Nat} {xs:List V} {v:V} (hn:J[n]?=some (.list xs)) (h:i < xs.length):xP J (.ref n) (.int i) v=.ok () (J.set n (.list (xs.set i v))):=by
 show zA5 J n i v J[n]?=_
 rw [hn]
 show (if 0 <= (i:Int) /\ (i:Int).toNat < xs.length then R.ok () (J.set n (.list (xs.set (i:Int).toNat v))) else .stuck)=_
 rw [if_pos ⟨Int.natCast_nonneg i,by rwa [Int.toNat_natCast]⟩,Int.toNat_natCast]
theorem zk {n:Nat} {xs:List V} {x:V} (hn:J[n]?=some (.list xs)) (h:xs.length < LIM):wI J (.ref n) x=.ok .none (J.set n (.list (xs++[x]))):=by
 show (match J[n]? with | some (.list xs)=>if xs.length < LIM then R.ok V.none (J.set n (.list (xs++[x]))) else .stuck | _=>.stuck)=_
 rw [hn]
 show (if xs.length < LIM then R.ok V.none (J.set n (.list (xs++[x]))) else .stuck)=_
 rw [if_pos h]
@[simp] theorem zE5 (a:V) (l:List V):ev2 .index J (.tup (a :: l)) (.int 0)=some a:=wi J (i:=0) rfl
@[simp] theorem zRJ (a b:V) (l:List V):ev2 .index J (.tup (a :: b :: l)) (.int 1)=some b:=wi J (i:=1) rfl
@[simp] theorem zRK (a b c:V) (l:List V):ev2 .index J (.tup (a :: b :: c :: l)) (.int 2)=some c:=wi J (i:=2) rfl
end
theorem zG {T:Nat->Option Fn} {d:Nat} {q:Bool} {f:Nat} {fn:Fn} {args:List V} {J J':Sto} {v:V} (hT:T f=some fn) (hl:args.length=fn.params)
  (h:exL (zA T d q) (zA T d true) q fn.body (args++List.replicate (fn.slots - fn.params) .undef) J=.ok (.ret v) J'):zA T (d+1) q f args J=.ok v J':=by
 show (match T f with | none=>R.stuck | some fn=>if args.length=fn.params then (exL (zA T d q) (zA T d true) q fn.body (args++List.replicate (fn.slots - fn.params) V.undef) J).bind zCq else .stuck)=_
 rw [hT]
 show (if args.length=fn.params then (exL (zA T d q) (zA T d true) q fn.body (args++List.replicate (fn.slots - fn.params) V.undef) J).bind zCq else .stuck)=_
 rw [if_pos hl,h]; rfl
theorem wZ {F Fq:Calls} {i:Nat} {k:SK} {src:List CE} {body:List CS} {H vs:List V} {J J1:Sto} {it:Items} {xs:List V} (I:Nat->List V->Sto->Prop)
  (hsrc:evL F false src H J=.ok vs J1) (hit:zT J1 k vs=some it) (hI:∀ j H J,I j H J->Gives J it xs) (h0:I 0 H J1)
  (hs:∀ j x H J,xs[j]?=some x->I j H J->∃ H' J',exL F Fq false body (H.set i x) J=.ok (.next H') J' /\ I (j+1) H' J') :
  ∃ H' J',exS F Fq false (.for i k src body) H J=.ok (.next H') J' /\ I xs.length H' J':=by
 have e:exS F Fq false (.for i k src body) H J=yl it (fun x H J=>(exL F Fq false body (H.set i x) J)) H J1:=by
  show ((evL F false src H J).bind fun vs J=>(R.lift J (zT J k vs)).bind fun it J=>yl it (fun x H J=>(exL F Fq false body (H.set i x) J)) H J)=_
  simp only [hsrc,R.bind_ok,hit,R.lift_some]
 rw [e]
 exact zNC (it:=it) (f:=fun x H J=>(exL F Fq false body (H.set i x) J)) I hI h0 (fun j x H J hx h=>by
  exact hs j x H J hx h)
theorem yZ {α:Type} (l:List α):l.filter (fun _=>true)=l:=by simp
end Mine
end

section
namespace Mine
open PySem
noncomputable abbrev Loc:=Addr × Option Addr
noncomputable def Loc.addrs:Loc->List Addr
 | (a,none)=>[a]
 | (a,some d)=>[a,d]
noncomputable def addrs (f:List Loc):List Addr:=f.flatMap Loc.addrs
theorem jU (f g:List Loc):addrs (f++g)=addrs f++addrs g:=by simp [addrs]
theorem mem_addrs_append {f g:List Loc} {a:Addr}:a ∈ addrs (f++g) ↔ a ∈ addrs f \/ a ∈ addrs g:=by rw [jU,List.mem_append]
structure zQ where
 prog:Program
 w:World
 hb:Heap
 cl:Cls->Value
 book:Addr
 parts:Value
 hasParts:Bool
 fn:Nat->Addr
 kn:List Cls
noncomputable def bmV:List Value:=[.type "ValueError",.type "Exception",.type "BaseException",.type "object"]
inductive zBm (S:zQ) (c:Cls):Prop where
 | mk (Ca:Addr) (bm:List Value) (N:Addr) (nm q:Str) (bs:List Value) (hdct:Bool) (sn:List Str) (sub:List Value) (ab:Bool) (col:Option Bool) (dd:Option Addr) (k0 k1 k2 k3 k5:Option Value) (mN:Str->Option Value)
   (hcl:S.cl c=.ref Ca) (hC:S.hb.get? Ca=some (excClassObj nm q Ca N bs bm hdct sn sub ab col dd k0 k1 k2 k3 k5 "ValueError.__new__")) (hN:S.hb.Ns N mN) (hni:mN "__init__"=none) (OT:OwnTail S.hb bmV bm)
   (hm:∀ d ∈ S.kn,(Value.ref Ca :: bm).contains (S.cl d)=c.sub d)
inductive SeqAt (X:List Addr) (f:List Loc) (I:Addr->Array Value->Nat->Prop) (P:List Value->Prop) (k:Nat) (v:Value):Prop
 | mk (a:Addr) (vs:Array Value) (n:Nat) (e:v=.ref a) (ha:a ∉ addrs f /\ a ∉ X) (i:I a vs n) (p:P vs.toList) (hl:k <= LIM)
mutual
noncomputable def VR (S:zQ) (X:List Addr) (f:List Loc) (h:Heap):V->Value->Prop
 | .undef,_=>False
 | .none,v=>v=.none
 | .bool b,v=>v=.bool b
 | .int i,v=>∃ t,v=.int i t
 | .str x,v=>(∃ t,v=.str x t) /\ x.length <= LIM /\ PyData.strOk x=true
 | .tup xs,v=>SeqAt X f (IsT h) (VRs S X f h xs) xs.length v
 | .lst xs,v=>SeqAt X f (IsL h) (VRs S X f h xs) xs.length v
 | .ref n,v=>∃ l,f[n]?=some l /\ v=.ref l.1
 | .exc c,v=>∃ a o,v=.ref a /\ (a ∉ addrs f /\ a ∉ X) /\ h.get? a=some o /\ o.cls=S.cl c /\ zBm S c
 | .parts,v=>S.hasParts=true /\ v=S.parts
noncomputable def VRs (S:zQ) (X:List Addr) (f:List Loc) (h:Heap):List V->List Value->Prop
 | [],[]=>True
 | x :: xs,v :: vs=>VR S X f h x v /\ VRs S X f h xs vs
 | [],_ :: _=>False
 | _ :: _,[]=>False
end
theorem wG {S:zQ} {X:List Addr} {f:List Loc} {h:Heap}:∀ {xs:List V} {vs:List Value},VRs S X f h xs vs->xs.length=vs.length
 | [],[],_=>rfl
 | _ :: _,_ :: _,e=>by simp [wG e.2]
 | [],_ :: _,e=>False.elim e
 | _ :: _,[],e=>False.elim e
noncomputable def SameObj (o o':Obj):Prop:=o'=o \/ ((∃ es n,o.data=.dict es n) /\ o'.cls=o.cls /\ o'.dict=o.dict /\ o'.data=o.data)
theorem SameObj.refl (o:Obj):SameObj o o:=.inl rfl
theorem SameObj.data {o o':Obj} (x:SameObj o o'):o'.data=o.data:=x.elim (fun e=>by rw [e]) fun e=>e.2.2.2
theorem SameObj.cls {o o':Obj} (x:SameObj o o'):o'.cls=o.cls:=x.elim (fun e=>by rw [e]) fun e=>e.2.1
theorem SameObj.dict {o o':Obj} (x:SameObj o o'):o'.dict=o.dict:=x.elim (fun e=>by rw [e]) fun e=>e.2.2.1
theorem SameObj.exact {o o':Obj} (x:SameObj o o') (h:∀ es n,o.data ≠ .dict es n):o'=o:=x.elim id fun e=>by obtain ⟨⟨es,n,q⟩,_⟩:=e; exact absurd q (h es n)
theorem SameObj.trans {a b c:Obj} (x:SameObj a b) (y:SameObj b c):SameObj a c:=by
 rcases x with rfl | ⟨x1,x2,x3,x4⟩
 ·exact y
 ·exact .inr ⟨x1,y.cls.trans x2,y.dict.trans x3,y.data.trans x4⟩
structure Kp (f:List Loc) (Y:List Addr) (s s':Shared):Prop where
 rest:s'={ s with heap:=s'.heap,toks:=s'.toks }
 live:∀ a o,s.heap.get? a=some o->∃ o',s'.heap.get? a=some o'
 kept:∀ a o,s.heap.get? a=some o->a ∉ addrs f->a ∉ Y->∃ o',s'.heap.get? a=some o' /\ SameObj o o'
 dicts:∀ a o es n,s.heap.get? a=some o->o.data=.dict es n->a ∉ addrs f->∃ o' es' n',s'.heap.get? a=some o' /\ o'.data=.dict es' n'
noncomputable def Fresh (g:List Loc) (s:Shared):Prop:=∀ a ∈ addrs g,s.heap.get? a=none
theorem Fresh.nil (s:Shared):Fresh [] s:=fun _ h=>nomatch h
theorem Kp.refl (f:List Loc) (Y:List Addr) (s:Shared):Kp f Y s s:=
 ⟨rfl,fun _ o e=>⟨o,e⟩,fun _ o e _ _=>⟨o,e,.refl o⟩,fun _ o es n e d _=>⟨o,es,n,e,d⟩⟩
theorem Kp.mono {f:List Loc} {Y Z:List Addr} {s s':Shared} (k:Kp f Y s s') (h:∀ a ∈ Y,a ∈ Z):Kp f Z s s':=
 ⟨k.rest,k.live,fun a o e h1 h2=>k.kept a o e h1 fun h3=>h2 (h a h3),k.dicts⟩
theorem yT {g:List Loc} {s:Shared} (hg:Fresh g s) {a:Addr} {o:Obj} (e:s.heap.get? a=some o):a ∉ addrs g:=
 fun h=>by rw [hg a h] at e; cases e
theorem Kp.trans {f g:List Loc} {Y:List Addr} {s s₁ s₂:Shared} (k:Kp f Y s s₁) (hg:Fresh g s) (k':Kp (f++g) Y s₁ s₂):Kp f Y s s₂ where
 rest:=by rw [k'.rest,k.rest]
 live a o e:=let ⟨o₁,e₁⟩:=k.live a o e; k'.live a o₁ e₁
 kept a o e h1 h2:=by
  obtain ⟨o₁,e₁,q₁⟩:=k.kept a o e h1 h2
  obtain ⟨o₂,e₂,q₂⟩:=k'.kept a o₁ e₁ (fun h=>(mem_addrs_append.mp h).elim h1 (yT hg e)) h2
  exact ⟨o₂,e₂,q₁.trans q₂⟩
 dicts a o es n e d h1:=by
  obtain ⟨o₁,es1,n₁,e₁,d₁⟩:=k.dicts a o es n e d h1
  exact k'.dicts a o₁ es1 n₁ e₁ d₁ (fun h=>(mem_addrs_append.mp h).elim h1 (yT hg e))
theorem zo {s s₁:Shared} (hs:∀ a o,s.heap.get? a=some o->∃ o',s₁.heap.get? a=some o') {a:Addr} (h:s₁.heap.get? a=none):s.heap.get? a=none:=by
 cases e:s.heap.get? a with
 | none=>rfl
 | some o=>obtain ⟨o',e'⟩:=hs a o e; rw [h] at e'; cases e'
theorem Fresh.trans {g g':List Loc} {s s₁:Shared} (hg:Fresh g s) (hs:∀ a o,s.heap.get? a=some o->∃ o',s₁.heap.get? a=some o') (hg':Fresh g' s₁):Fresh (g++g') s:=
 fun a h=>(mem_addrs_append.mp h).elim (hg a) fun h=>zo hs (hg' a h)
mutual
theorem VR.keep {S:zQ} {X X':List Addr} {f f':List Loc} {h h':Heap}
  (kf:∀ (i:Nat) (l:Loc),f[i]?=some l->f'[i]?=some l)
  (kh:∀ a o,h.get? a=some o->a ∉ addrs f->a ∉ X->(a ∉ addrs f' /\ a ∉ X') /\ ∃ o',h'.get? a=some o' /\ SameObj o o') :
  ∀ (x:V) (v:Value),VR S X f h x v->VR S X' f' h' x v
 | .undef,_,e=>False.elim e
 | .none,_,e=>e
 | .bool _,_,e=>e
 | .int _,_,e=>e
 | .str _,_,e=>e
 | .ref n,_,e=>by
  obtain ⟨l,e1,e2⟩:=e
  exact ⟨l,kf _ _ e1,e2⟩
 | .exc c,_,e=>by
  obtain ⟨a,o,e1,e2,e3,e4,e5⟩:=e
  obtain ⟨q1,o',q2,q3⟩:=kh a o e3 e2.1 e2.2
  exact ⟨a,o',e1,q1,q2,q3.cls.trans e4,e5⟩
 | .parts,_,e=>e
 | .tup xs,_,e=>by
  obtain ⟨a,vs,n,e1,e2,e3,e7,e8⟩:=e
  obtain ⟨q1,o',q2,q3⟩:=kh a _ e3 e2.1 e2.2
  exact ⟨a,vs,n,e1,q1,q2.trans (congrArg some (q3.exact fun _ _ q=>by cases q)),VRs.keep kf kh xs vs.toList e7,e8⟩
 | .lst xs,_,e=>by
  obtain ⟨a,vs,n,e1,e2,e3,e7,e8⟩:=e
  obtain ⟨q1,o',q2,q3⟩:=kh a _ e3 e2.1 e2.2
  exact ⟨a,vs,n,e1,q1,q2.trans (congrArg some (q3.exact fun _ _ q=>by cases q)),VRs.keep kf kh xs vs.toList e7,e8⟩
theorem VRs.keep {S:zQ} {X X':List Addr} {f f':List Loc} {h h':Heap}
  (kf:∀ (i:Nat) (l:Loc),f[i]?=some l->f'[i]?=some l)
  (kh:∀ a o,h.get? a=some o->a ∉ addrs f->a ∉ X->(a ∉ addrs f' /\ a ∉ X') /\ ∃ o',h'.get? a=some o' /\ SameObj o o') :
  ∀ (xs:List V) (vs:List Value),VRs S X f h xs vs->VRs S X' f' h' xs vs
 | [],[],e=>e
 | x :: xs,v :: vs,e=>by
  exact ⟨VR.keep kf kh x v e.1,VRs.keep kf kh xs vs e.2⟩
 | [],_ :: _,e=>False.elim e
 | _ :: _,[],e=>False.elim e
end
theorem VR.keepK {S:zQ} {X:List Addr} {f g:List Loc} {Y:List Addr} {s s':Shared} (k:Kp f Y s s') (hg:Fresh g s) (hY:∀ a ∈ Y,a ∈ X)
  {x:V} {v:Value} (e:VR S X f s.heap x v):VR S X (f++g) s'.heap x v:=
 VR.keep (fun _ _ e=>List.getElem?_append_left (List.getElem?_eq_some_iff.mp e).1 ▸ e)
  (fun a o ho h1 h2=>⟨⟨fun h=>(mem_addrs_append.mp h).elim h1 (yT hg ho),h2⟩,k.kept a o ho h1 fun h=>h2 (hY a h)⟩) x v e
theorem VRs.keepK {S:zQ} {X:List Addr} {f g:List Loc} {Y:List Addr} {s s':Shared} (k:Kp f Y s s') (hg:Fresh g s) (hY:∀ a ∈ Y,a ∈ X)
  {x:List V} {v:List Value} (e:VRs S X f s.heap x v):VRs S X (f++g) s'.heap x v:=
 VRs.keep (fun _ _ e=>List.getElem?_append_left (List.getElem?_eq_some_iff.mp e).1 ▸ e)
  (fun a o ho h1 h2=>⟨⟨fun h=>(mem_addrs_append.mp h).elim h1 (yT hg ho),h2⟩,k.kept a o ho h1 fun h=>h2 (hY a h)⟩) x v e
theorem VR.less {S:zQ} {X X':List Addr} {f:List Loc} {h:Heap} (hX:∀ a ∈ X',a ∈ X) {x:V} {v:Value} (e:VR S X f h x v):VR S X' f h x v:=
 VR.keep (fun _ _ e=>e) (fun _ o ho h1 h2=>⟨⟨h1,fun h=>h2 (hX _ h)⟩,o,ho,.refl o⟩) x v e
theorem VRs.less {S:zQ} {X X':List Addr} {f:List Loc} {h:Heap} (hX:∀ a ∈ X',a ∈ X) {x:List V} {v:List Value} (e:VRs S X f h x v):VRs S X' f h x v:=
 VRs.keep (fun _ _ e=>e) (fun _ o ho h1 h2=>⟨⟨h1,fun h=>h2 (hX _ h)⟩,o,ho,.refl o⟩) x v e
theorem VR.more {S:zQ} {X X':List Addr} {f:List Loc} {h:Heap} (hX:∀ a ∈ X',a ∈ X \/ h.get? a=none) {x:V} {v:Value} (e:VR S X f h x v):VR S X' f h x v:=
 VR.keep (fun _ _ e=>e) (fun a o ho h1 h2=>⟨⟨h1,fun h=>(hX _ h).elim h2 fun q=>by rw [q] at ho; cases ho⟩,o,ho,.refl o⟩) x v e
noncomputable def zM (k:Nat):Str:=if k=0 then "entries" else "history"
noncomputable def OR (S:zQ) (X:List Addr) (f:List Loc) (h:Heap):Loc->O->Prop
 | (a,none),.list xs=>∃ vs n,IsL h a vs n /\ VRs S X f h xs vs.toList /\ xs.length <= LIM
 | (a,none),.dict es=>∃ kvs,Even (intKind S.prog S.w) h a kvs /\ kvs.map (·.1)=es.map (·.1) /\ VRs S X f h (es.map (·.2)) (kvs.map (·.2)) /\ es.length <= LIM /\ (a==sysModules)=false
 | (a,some d),.inst as=>∃ ob mA,h.get? a=some ob /\ (ob.cls=.ref S.book /\ ob.dict=some d /\ (∀ c,ob.data ≠ .cls c) /\ d ≠ a) /\ h.Ns1 d mA /\ (∀ k x,as.lookup k=some x->∃ v,mA (zM k)=some v /\ VR S X f h x v) /\ (∀ x v,mA x=some v->x=zM 0 \/ x=zM 1) /\ ∀ k,k ∈ as.map (·.1)->k < 2
 | _,_=>False
theorem OR.keep {S:zQ} {X X':List Addr} {f f':List Loc} {h h':Heap} (k:∀ x v,VR S X f h x v->VR S X' f' h' x v) (ks:∀ x v,VRs S X f h x v->VRs S X' f' h' x v) {l:Loc} {o:O}
  (hl:∀ a ∈ l.addrs,h'.get? a=h.get? a) (e:OR S X f h l o):OR S X' f' h' l o:=by
 obtain ⟨a,d⟩:=l
 cases d with
 | none =>
  have ha:=hl a (List.mem_singleton.mpr rfl)
  cases o with
  | list xs =>
   obtain ⟨vs,n,e1,e5,e6⟩:=e
   exact ⟨vs,n,ha.trans e1,ks _ _ e5,e6⟩
  | dict es =>
   obtain ⟨kvs,e1,e2,e3,e4⟩:=e
   exact ⟨kvs,e1.at ha,e2,ks _ _ e3,e4⟩
  | inst as=>exact e.elim
 | some d =>
  have ha:=hl a (List.mem_cons_self)
  have hd:=hl d (List.mem_cons_of_mem _ (List.mem_singleton.mpr rfl))
  cases o with
  | list xs=>exact e.elim
  | dict es=>exact e.elim
  | inst as =>
   obtain ⟨ob,mA,e1,e0,⟨o,es,ep,e2,r⟩,e3,e4⟩:=e
   exact ⟨ob,mA,ha.trans e1,e0,⟨o,es,ep,hd.trans e2,r⟩,fun i x q=>let ⟨v,q1,q2⟩:=e3 i x q; ⟨v,q1,k _ _ q2⟩,e4⟩
structure Lk (S:zQ) (X:List Addr) (f:List Loc) (J:Sto) (h:Heap):Prop where
 base:∀ b o,S.hb.get? b=some o->h.get? b=some o
 len:f.length=J.length
 nodup:(addrs f).Nodup
 fresh:∀ a ∈ addrs f,S.hb.get? a=none
 hid:∀ a ∈ X,S.hb.get? a=none /\ a ∉ addrs f /\ ∃ o,h.get? a=some o
 obj:∀ (i:Nat) (l:Loc) (o:O),f[i]?=some l->J[i]?=some o->OR S X f h l o
theorem OR.live {S:zQ} {X:List Addr} {f:List Loc} {h:Heap} {l:Loc} {o:O} (e:OR S X f h l o):∀ a ∈ l.addrs,∃ ob,h.get? a=some ob:=by
 obtain ⟨a,d⟩:=l
 intro b hb
 cases d with
 | none =>
  obtain rfl:=List.mem_singleton.mp hb
  cases o with
  | list xs=>obtain ⟨vs,n,e1,_⟩:=e; exact ⟨_,e1⟩
  | dict es=>obtain ⟨kvs,e1,_⟩:=e; exact e1.live
  | inst as=>exact e.elim
 | some d =>
  cases o with
  | list xs=>exact e.elim
  | dict es=>exact e.elim
  | inst as =>
   obtain ⟨ob,mA,e1,e0,⟨o,es,ep,e2,r⟩,_⟩:=e
   rcases List.mem_cons.mp hb with rfl | hb
   ·exact ⟨_,e1⟩
   ·obtain rfl:=List.mem_singleton.mp hb; exact ⟨_,e2⟩
theorem zIk {f:List Loc} {a:Addr} (h:a ∈ addrs f):∃ (i:Nat) (l:Loc),f[i]?=some l /\ a ∈ l.addrs:=by
 obtain ⟨l,hl,ha⟩:=List.mem_flatMap.mp h
 obtain ⟨i,hi⟩:=List.getElem?_of_mem hl
 exact ⟨i,l,hi,ha⟩
theorem yD {f:List Loc} {i:Nat} {l:Loc} {a:Addr} (h:f[i]?=some l) (ha:a ∈ l.addrs):a ∈ addrs f:=
 List.mem_flatMap.mpr ⟨l,List.mem_of_getElem? h,ha⟩
theorem Lk.live {S:zQ} {X:List Addr} {f:List Loc} {J:Sto} {h:Heap} (L:Lk S X f J h) {a:Addr} (ha:a ∈ addrs f):∃ ob,h.get? a=some ob:=by
 obtain ⟨i,l,hi,hl⟩:=zIk ha
 have hlt:i < J.length:=L.len ▸ (List.getElem?_eq_some_iff.mp hi).1
 exact (L.obj i l _ hi (List.getElem?_eq_getElem hlt)).live a hl
inductive ExcR (S:zQ) (X:List Addr) (f:List Loc) (J:Sto) (h h₀:Heap) (ea:Addr) (k:Cls):Prop where
 | mk (e1:h₀.get? ea=none) (ec:zBm S k) (hs:List Addr) (oe:Obj) (vs:Array Value) (L:Lk S (hs++X) f J h) (e4:h.get? ea=some oe) (e5:oe.cls=S.cl k) (e6:oe.data=.fields vs) (e8:(hs=[ea] /\ vs[1]?=some .none) \/
   ∃ T oT ts,hs=[ea,T] /\ h₀.get? T=none /\ T ≠ ea /\ vs[1]?=some (.ref T) /\ h.get? T=some oT /\ oT.data=.fields ts /\ 3 < ts.size)
theorem ExcR.back {S:zQ} {X:List Addr} {f:List Loc} {J:Sto} {h h₀ h₁:Heap} {ea:Addr} {k:Cls} (e:ExcR S X f J h h₁ ea k) (hl:∀ a,h₁.get? a=none->h₀.get? a=none):ExcR S X f J h h₀ ea k:=by
 obtain ⟨e1,ec,hs,oe,vs,L,e4,e5,e6,e8⟩:=e
 refine ⟨hl _ e1,ec,hs,oe,vs,L,e4,e5,e6,e8.imp id ?_⟩
 rintro ⟨T,oT,ts,t0,t1,t2⟩
 exact ⟨T,oT,ts,t0,hl _ t1,t2⟩
section
variable {α β γ δ:Type}
inductive QS (S:zQ) (X Y:List Addr) (f:List Loc) (P:α->β->List Loc->Shared->Prop) (s:Shared) (r:R β) (a:α) (s':Shared):Prop where
 | mk (b:β) (J':Sto) (g:List Loc) (e:r=.ok b J') (hg:Fresh g s) (k:Kp f Y s s') (L:Lk S X (f++g) J' s'.heap) (p:P a b (f++g) s')
inductive ES (S:zQ) (X Y:List Addr) (f:List Loc) (tr:Bool) (s:Shared) (r:R β) (e:Value) (s':Shared):Prop where
 | mk (k:Cls) (J':Sto) (g:List Loc) (ea:Addr) (e1:e=.ref ea) (e2:r=.exc k J') (hg:Fresh g s) (kp:Kp f Y s s') (L:Lk S X (f++g) J' s'.heap) (x:ExcR S X (f++g) J' s'.heap s.heap ea k)
noncomputable def Sim (S:zQ) (A:Around) (X Y:List Addr) (f:List Loc) (P:α->β->List Loc->Shared->Prop) (t:Sem α) (r:R β) (s:Shared):Prop:=
 r ≠ .stuck->wpAny (model S.prog S.w) A t (QS S X Y f P s r) (ES S X Y f false s r) s
variable {S:zQ} {A:Around} {X Y:List Addr} {f:List Loc} {P:α->β->List Loc->Shared->Prop} {P':γ->δ->List Loc->Shared->Prop}
theorem QS.here {s:Shared} {J:Sto} {a:α} {b:β} (L:Lk S X f J s.heap) (p:P a b f s):QS S X Y f P s (.ok b J) a s:=
 ⟨b,J,[],rfl,.nil s,.refl f Y s,by rwa [List.append_nil],by rwa [List.append_nil]⟩
end
end Mine
end

section
namespace Mine
open PySem PyProof.Rows
structure Ext (s s':Shared):Prop where
 rest:s'={ s with heap:=s'.heap,toks:=s'.toks }
 keep:∀ b o,s.heap.get? b=some o->s'.heap.get? b=some o
theorem Ext.refl (s:Shared):Ext s s:=⟨rfl,fun _ _ e=>e⟩
theorem Ext.toks (s:Shared) (t:Nat):Ext s { s with toks:=t }:=⟨rfl,fun _ _ e=>e⟩
theorem Ext.heap {s:Shared} {h:Heap} {t:Nat} (k:∀ b o,s.heap.get? b=some o->h.get? b=some o):Ext s { s with heap:=h,toks:=t }:=⟨rfl,k⟩
theorem Ext.push (s:Shared) (o:Obj):Ext s { s with heap:=s.heap.push o }:=⟨rfl,fun _ _ e=>Heap.get?_push_of_some _ e⟩
theorem Ext.trans {a b c:Shared} (x:Ext a b) (y:Ext b c):Ext a c:=⟨by rw [y.rest,x.rest],fun d o e=>y.keep d o (x.keep d o e)⟩
theorem Ext.kp {s s':Shared} (e:Ext s s') (f:List Loc) (Y:List Addr):Kp f Y s s':=
 ⟨e.rest,fun a o h=>⟨o,e.keep a o h⟩,fun a o h _ _=>⟨o,e.keep a o h,.refl o⟩,fun a o es n h d _=>⟨o,es,n,e.keep a o h,d⟩⟩
section
variable {S:zQ} {X Y:List Addr} {f:List Loc} {J:Sto} {s s':Shared}
theorem Ext.vr (e:Ext s s') {x:V} {v:Value} (h:VR S X f s.heap x v):VR S X f s'.heap x v:=
 VR.keep (fun _ _ e=>e) (fun a o h h1 h2=>⟨⟨h1,h2⟩,o,e.keep a o h,.refl o⟩) x v h
theorem Ext.vrs (e:Ext s s') {x:List V} {v:List Value} (h:VRs S X f s.heap x v):VRs S X f s'.heap x v:=
 VRs.keep (fun _ _ e=>e) (fun a o h h1 h2=>⟨⟨h1,h2⟩,o,e.keep a o h,.refl o⟩) x v h
theorem Ext.lk (e:Ext s s') (L:Lk S X f J s.heap):Lk S X f J s'.heap where
 base b o h:=e.keep b o (L.base b o h)
 len:=L.len
 nodup:=L.nodup
 fresh:=L.fresh
 hid a ha:=⟨(L.hid a ha).1,(L.hid a ha).2.1,let ⟨o,q⟩:=(L.hid a ha).2.2; ⟨o,e.keep a o q⟩⟩
 obj i l o hi ho:=(L.obj i l o hi ho).keep (fun _ _=>e.vr) (fun _ _=>e.vrs) fun a ha=>by
  obtain ⟨ob,h⟩:=L.live (yD hi ha)
  rw [h]; exact e.keep a ob h
noncomputable def PV (S:zQ) (X:List Addr) (v:Value) (x:V) (f:List Loc) (s:Shared):Prop:=VR S X f s.heap x v
theorem QS.leaf {x:V} {v:Value} (L:Lk S X f J s.heap) (e:Ext s s') (h:VR S X f s'.heap x v):QS S X Y f (PV S X) s (.ok x J) v s':=
 ⟨x,J,[],rfl,.nil s,e.kp f Y,by rw [List.append_nil]; exact e.lk L,by rw [List.append_nil]; exact h⟩
theorem Lk.new (L:Lk S X f J s.heap) {a:Addr} (h:s.heap.get? a=none):a ∉ addrs f /\ a ∉ X:=
 ⟨fun q=>(by obtain ⟨o,e⟩:=L.live q; rw [h] at e; cases e),fun q=>(by obtain ⟨o,e⟩:=(L.hid a q).2.2; rw [h] at e; cases e)⟩
theorem yn (h:Heap):h.get? h.objs.size=none:=Heap.get?_none_of_le (Nat.le_refl _)
inductive NewL (S:zQ) (X:List Addr) (f:List Loc) (s s':Shared) (xs:List V) (v:Value):Prop
 | mk (a:Addr) (vs:Array Value) (n:Nat) (e:v=.ref a) (hn:s.heap.get? a=none) (i:IsL s'.heap a vs n) (p:VRs S X f s.heap xs vs.toList) (hl:xs.length <= LIM)
theorem NewL.vr {xs:List V} {v:Value} (L:Lk S X f J s.heap) (e:Ext s s') (h:NewL S X f s s' xs v):VR S X f s'.heap (.lst xs) v:=by
 obtain ⟨a,vs,n,e1,e2,e3,e4,e5⟩:=h
 exact ⟨a,vs,n,e1,L.new e2,e3,e.vrs e4,e5⟩
end
section
variable {S:zQ} {X:List Addr} {f:List Loc} {J:Sto} {h:Heap}
inductive zOp (S:zQ) (X:List Addr) (f:List Loc) (h:Heap) (xs:List V) (v:Value):Prop
 | mk (a:Addr) (vs:Array Value) (n:Nat) (e:v=.ref a) (i:IsL h a vs n) (p:VRs S X f h xs vs.toList) (hl:xs.length <= LIM)
theorem yQ (L:Lk S X f J h) {x:V} {v:Value} {xs:List V} (e:listOf? J x=some xs) (r:VR S X f h x v):zOp S X f h xs v:=by
 cases x with
 | lst ys =>
  cases e
  obtain ⟨a,vs,n,e1,_,e3,e4,e5⟩:=r
  exact ⟨a,vs,n,e1,e3,e4,e5⟩
 | ref k =>
  obtain ⟨l,hl,rfl⟩:=r
  cases ho:J[k]? with
  | none=>have e:xI J[k]?=some _:=e; rw [ho] at e; exact zB e
  | some o =>
   replace e:xI J[k]?=some _:=e
   rw [ho] at e
   cases o <;> cases e
   have:=L.obj k l _ hl ho
   obtain ⟨a,d⟩:=l
   cases d with
   | none=>obtain ⟨vs,n,e1,e2,e3⟩:=this; exact ⟨a,vs,n,rfl,e1,e2,e3⟩
   | some d=>exact this.elim
 | _=>first | exact zB e | exact zF e | cases e
inductive zMf (S:zQ) (X:List Addr) (f:List Loc) (h:Heap) (xs:List V) (v:Value):Prop
 | mk (a:Addr) (vs:Array Value) (n:Nat) (e:v=.ref a) (i:IsL h a vs n \/ IsT h a vs n) (p:VRs S X f h xs vs.toList) (hl:xs.length <= LIM)
theorem vS (L:Lk S X f J h) {x:V} {v:Value} {xs:List V} (e:xL J x=some xs) (r:VR S X f h x v) :
  zMf S X f h xs v:=by
 cases x with
 | tup ys =>
  cases e
  obtain ⟨a,vs,n,e1,_,e3,e4,e5⟩:=r
  exact ⟨a,vs,n,e1,.inr e3,e4,e5⟩
 | lst ys =>
  obtain ⟨a,vs,n,e1,e2,e3,e4⟩:=yQ L (x:=.lst ys) (xs:=xs) e r
  exact ⟨a,vs,n,e1,.inl e2,e3,e4⟩
 | ref k =>
  obtain ⟨a,vs,n,e1,e2,e3,e4⟩:=yQ L (x:=.ref k) (xs:=xs) e r
  exact ⟨a,vs,n,e1,.inl e2,e3,e4⟩
 | _=>first | exact zB e | exact zF e | cases e
theorem kX:∀ {xs:List V} {vs:List Value},VRs S X f h xs vs->∀ {i:Nat} {x:V},xs[i]?=some x->∃ v,vs[i]?=some v /\ VR S X f h x v
 | x :: xs,v :: vs,r,0,y,e=>by simp at e; subst e; exact ⟨v,by simp,r.1⟩
 | x :: xs,v :: vs,r,i+1,y,e=>by simp at e; obtain ⟨w,h1,h2⟩:=kX r.2 e; exact ⟨w,by simpa using h1,h2⟩
 | [],_,_,_,_,e=>by simp at e
 | _ :: _,[],r,_,_,_=>False.elim r
theorem xe:∀ {xs ys:List V} {vs ws:List Value},VRs S X f h xs vs->VRs S X f h ys ws->VRs S X f h (xs++ys) (vs++ws)
 | [],_,[],_,_,b=>b
 | x :: xs,ys,v :: vs,ws,a,b=>by show VRs S X f h (x :: (xs++ys)) (v :: (vs++ws)); exact ⟨a.1,xe a.2 b⟩
 | [],_,_ :: _,_,a,_=>False.elim a
 | _ :: _,_,[],_,a,_=>False.elim a
theorem zBp:∀ {xs:List V} {vs:List Value},VRs S X f h xs vs->∀ n,VRs S X f h (xs.take n) (vs.take n)
 | [],[],_,n=>by rw [List.take_nil,List.take_nil]; exact True.intro
 | x :: xs,v :: vs,r,0=>True.intro
 | x :: xs,v :: vs,r,n+1=>by simp only [List.take_succ_cons]; exact ⟨r.1,zBp r.2 n⟩
 | [],_ :: _,a,_=>False.elim a
 | _ :: _,[],a,_=>False.elim a
theorem zBo:∀ {xs:List V} {vs:List Value},VRs S X f h xs vs->∀ n,VRs S X f h (xs.drop n) (vs.drop n)
 | [],[],_,n=>by rw [List.drop_nil,List.drop_nil]; exact True.intro
 | x :: xs,v :: vs,r,0=>r
 | x :: xs,v :: vs,r,n+1=>by simp only [List.drop_succ_cons]; exact zBo r.2 n
 | [],_ :: _,a,_=>False.elim a
 | _ :: _,[],a,_=>False.elim a
theorem zGz:∀ {xs:List V} {vs:List Value},VRs S X f h xs vs->∀ {i:Nat} {x:V} {v:Value},VR S X f h x v->VRs S X f h (xs.set i x) (vs.set i v)
 | [],[],_,n,_,_,_=>True.intro
 | x :: xs,v :: vs,r,0,_,_,q=>by simp only [List.set_cons_zero]; exact ⟨q,r.2⟩
 | x :: xs,v :: vs,r,n+1,_,_,q=>by simp only [List.set_cons_succ]; exact ⟨r.1,zGz r.2 q⟩
 | [],_ :: _,a,_,_,_,_=>False.elim a
 | _ :: _,[],a,_,_,_,_=>False.elim a
theorem zHZ:∀ {xs:List V} {vs:List Value} {l:List Int},ints? xs=some l->VRs S X f h xs vs->∃ ys:List (Int × Tok),vs=ys.map (fun p=>.int p.1 p.2) /\ ys.map (·.1)=l
 | [],[],l,e,_=>by simp [ints?] at e; subst e; exact ⟨[],rfl,rfl⟩
 | x :: xs,v :: vs,l,e,r=>by
  simp only [ints?,List.mapM_cons] at e
  cases x with
  | int i =>
   obtain ⟨t,rfl⟩:=(r.1:∃ t,v=.int i t)
   replace e:(xs.mapM intOf? >>= fun l'=>some (i :: l'))=some l:=e
   cases hl:xs.mapM intOf? with
   | none=>rw [hl] at e; exact zB e
   | some l' =>
    rw [hl] at e
    have e:i :: l'=l:=Option.some.inj e
    obtain ⟨ys,e1,e2⟩:=zHZ (l:=l') hl r.2
    subst e
    exact ⟨(i,t) :: ys,by simp [e1],by simp [e2]⟩
  | _=>exact zB e
 | [],_ :: _,_,_,a=>False.elim a
 | _ :: _,[],_,_,a=>False.elim a
theorem zEX:∀ {xs:List V} {vs:List Value} {l:List Bool},bools? xs=some l->VRs S X f h xs vs->vs=l.map .bool
 | [],[],l,e,_=>by simp [bools?] at e; subst e; rfl
 | x :: xs,v :: vs,l,e,r=>by
  simp only [bools?,List.mapM_cons] at e
  cases x with
  | bool i =>
   obtain rfl:=(r.1:v=.bool i)
   replace e:(xs.mapM boolOf? >>= fun l'=>some (i :: l'))=some l:=e
   cases hl:xs.mapM boolOf? with
   | none=>rw [hl] at e; exact zB e
   | some l' =>
    rw [hl] at e
    have e:i :: l'=l:=Option.some.inj e
    subst e
    rw [List.map_cons,zEX (l:=l') hl r.2]
  | _=>exact zB e
 | [],_ :: _,_,_,a=>False.elim a
 | _ :: _,[],_,_,a=>False.elim a
theorem zHx:∀ {xs:List V} {vs:List Value} {l:List Str},strs? xs=some l->VRs S X f h xs vs->∃ ys:List (Str × Tok),vs=ys.map (fun p=>.str p.1 p.2) /\ ys.map (·.1)=l /\ ∀ x ∈ l,x.length <= LIM /\ PyData.strOk x=true
 | [],[],l,e,_=>by simp [strs?] at e; subst e; exact ⟨[],rfl,rfl,fun _ h=>nomatch h⟩
 | x :: xs,v :: vs,l,e,r=>by
  simp only [strs?,List.mapM_cons] at e
  cases x with
  | str i =>
   obtain ⟨⟨t,rfl⟩,q⟩:=(r.1:(∃ t,v=.str i t) /\ i.length <= LIM /\ PyData.strOk i=true)
   replace e:(xs.mapM strOf? >>= fun l'=>some (i :: l'))=some l:=e
   cases hl:xs.mapM strOf? with
   | none=>rw [hl] at e; exact zB e
   | some l' =>
    rw [hl] at e
    have e:i :: l'=l:=Option.some.inj e
    obtain ⟨ys,e1,e2,e3⟩:=zHx (l:=l') hl r.2
    subst e
    exact ⟨(i,t) :: ys,by simp [e1],by simp [e2],fun x hx=>(List.mem_cons.mp hx).elim (fun e=>e ▸ q) (e3 x)⟩
  | _=>exact zB e
 | [],_ :: _,_,_,a=>False.elim a
 | _ :: _,[],_,_,a=>False.elim a
end
end Mine
end

section
namespace Mine
open PySem PyProof.Rows
theorem zz:LIM <= sizeLine:=by decide
theorem xa {n:Nat} (h:n <= LIM):(n:Int) < 2 ^ 63:=Int.lt_of_le_of_lt (Int.ofNat_le.mpr h) (by decide)
theorem zG0 (vs ws:Array Value):(vs.toList++ws.toList).toArray=vs++ws:=by apply Array.toList_inj.mp; simp
theorem zBt {a:Int} (h:yR a=true):Builtin.Int.intBits a <= 64:=by
 have h':a.natAbs < 2 ^ 64:=of_decide_eq_true h
 unfold Builtin.Int.intBits
 split
 ·omega
 ·rename_i hz
  have hne:a.natAbs ≠ 0:=by intro e; apply hz; simp; omega
  have:=(Nat.log2_lt hne).mpr h'
  omega
section
variable {S:zQ} {A:Around} {X:List Addr} {f:List Loc} {J:Sto} {s:Shared} {E:Value->Shared->Prop}
noncomputable def PE (S:zQ) (X:List Addr) (f:List Loc) (s:Shared) (x:V) (v:Value) (s':Shared):Prop:=Ext s s' /\ VR S X f s'.heap x v /\ ∀ xs,x=.lst xs->NewL S X f s s' xs v
theorem PE.int {i:Int} {t tk:Nat}:PE S X f s (.int i) (.int i t) { s with toks:=tk }:=⟨.toks s tk,⟨t,rfl⟩,fun _ e=>by cases e⟩
theorem PE.bool {b:Bool} {tk:Nat}:PE S X f s (.bool b) (.bool b) { s with toks:=tk }:=⟨.toks s tk,rfl,fun _ e=>by cases e⟩
theorem PE.bool0 {b:Bool}:PE S X f s (.bool b) (.bool b) s:=⟨.refl s,rfl,fun _ e=>by cases e⟩
theorem PE.str {x:Str} {t tk:Nat} (h1:x.length <= LIM) (h2:PyData.strOk x=true):PE S X f s (.str x) (.str x t) { s with toks:=tk }:=⟨.toks s tk,⟨⟨t,rfl⟩,h1,h2⟩,fun _ e=>by cases e⟩
theorem PE.intH {i:Int} {t:Tok} {h':Heap} {tk:Nat} (k:∀ b o,s.heap.get? b=some o->h'.get? b=some o):PE S X f s (.int i) (.int i t) { s with heap:=h',toks:=tk }:=⟨.heap k,⟨t,rfl⟩,fun _ e=>by cases e⟩
theorem PE.boolH {i:Bool} {h':Heap} {tk:Nat} (k:∀ b o,s.heap.get? b=some o->h'.get? b=some o):PE S X f s (.bool i) (.bool i) { s with heap:=h',toks:=tk }:=⟨.heap k,rfl,fun _ e=>by cases e⟩
theorem zr {i:Int} {v:Value} {h:Heap} (r:VR S X f h (.int i) v):∃ t,v=.int i t:=by exact r
theorem wC {i:Bool} {v:Value} {h:Heap} (r:VR S X f h (.bool i) v):v=.bool i:=by exact r
theorem zt {i:Str} {v:Value} {h:Heap} (r:VR S X f h (.str i) v):(∃ t,v=.str i t) /\ i.length <= LIM /\ PyData.strOk i=true:=by exact r
theorem zAP {v:Value} {h:Heap} (r:VR S X f h .none v):v=.none:=by exact r
theorem wb {xs:List V} {v:Value} {h:Heap} (r:VR S X f h (.tup xs) v):SeqAt X f (IsT h) (VRs S X f h xs) xs.length v:=by exact r
theorem vH {x y:Str} (hx:PyData.strOk x=true) (hy:PyData.strOk y=true):PyData.strOk (x++y)=true:=by
 show (x.cps++y.cps).all _=true
 rw [Array.all_append]
 exact Bool.and_eq_true_iff.mpr ⟨hx,hy⟩
theorem length_append (x y:Str):(x++y).length=x.length+y.length:=by show (x.cps++y.cps).size=_; simp [Str.length]
theorem zf {xs:List V} {vs:Array Value} {h:Heap} (r:VRs S X f h xs vs.toList):vs.size=xs.length:=by
 have:=wG r; simpa using this.symm
theorem wE {vs:List Value} {xs:List V} {tk:Nat} (L:Lk S X f J s.heap) (r:VRs S X f s.heap xs vs) (hl:xs.length <= LIM) :
  PE S X f s (.lst xs) (.ref s.heap.objs.size) { s with heap:=s.heap.push { cls:=.type "list",data:=.seq vs.toArray },toks:=tk }:=by
 have e:Ext s { s with heap:=s.heap.push { cls:=.type "list",data:=.seq vs.toArray },toks:=tk }:=.heap fun b o h=>Heap.get?_push_of_some _ h
 have nl:NewL S X f s { s with heap:=s.heap.push { cls:=.type "list",data:=.seq vs.toArray },toks:=tk } xs (.ref s.heap.objs.size):=
  ⟨_,vs.toArray,0,rfl,yn _,Heap.get?_push_size _ rfl,by simpa using r,hl⟩
 exact ⟨e,nl.vr L e,fun ys q=>by cases q; exact nl⟩
theorem wl {vs:List Value} {xs:List V} {tk:Nat} (L:Lk S X f J s.heap) (r:VRs S X f s.heap xs vs) (hl:xs.length <= LIM) :
  PE S X f s (.tup xs) (.ref s.heap.objs.size) { s with heap:=s.heap.push { cls:=.type "tuple",data:=.seq vs.toArray },toks:=tk }:=by
 have e:Ext s { s with heap:=s.heap.push { cls:=.type "tuple",data:=.seq vs.toArray },toks:=tk }:=.heap fun b o h=>Heap.get?_push_of_some _ h
 refine ⟨e,?_,fun ys q=>by cases q⟩
 exact ⟨_,vs.toArray,0,rfl,L.new (yn _),Heap.get?_push_size _ rfl,by simpa using e.vrs r,hl⟩
theorem zG8 {op:Operator} {o:P2} (ho:zCg op=some o) {i j:Int} {x:V} {t u:Tok} (e:ev2 o J (.int i) (.int j)=some x) :
  wpAny (model S.prog S.w) A (binaryOp op (.int i t) (.int j u)) (PE S X f s x) E s:=by
 cases op <;> cases ho
 ·cases e; exact PyProof.Rows.add_int .int
 ·cases e; exact PyProof.Rows.sub_int .int
 ·delta ev2 at e; dsimp only at e
  split at e
  ·rename_i h
   cases e
   exact PyProof.Rows.mul_int .int ((Bool.or_eq_true_iff.mp h).elim (fun h=>.of_left (zBt h)) fun h=>.of_right (zBt h))
  ·first | exact zB e | exact zF e | cases e
 ·delta ev2 at e; dsimp only at e
  split at e
  ·first | exact zB e | exact zF e | cases e
  ·rename_i h
   cases e
   exact PyProof.Rows.mod_int (by simpa using h) .int
 ·delta ev2 at e; dsimp only at e
  split at e
  ·rename_i h
   cases e
   simp only [Bool.and_eq_true,beq_iff_eq,decide_eq_true_eq] at h
   obtain ⟨⟨rfl,h1⟩,h2⟩:=h
   exact pow_int_small h1 (by omega) (by decide) .int
  ·first | exact zB e | exact zF e | cases e
 ·delta ev2 at e; dsimp only at e
  split at e
  ·first | exact zB e | exact zF e | cases e
  ·rename_i h
   cases e
   simp only [Bool.or_eq_true,beq_iff_eq,decide_eq_true_eq,not_or,Nat.not_le] at h
   exact floordiv_int h.1 .int (.inl (PyProof.noPylong_small h.2))
theorem zDy {c:Prop} [Decidable c] {a b:V} (h:(if c then some a else none)=some b):c /\ a=b:=by
 by_cases hc:c
 ·rw [if_pos hc] at h; exact ⟨hc,Option.some.inj h⟩
 ·rw [if_neg hc] at h; exact zB h
theorem zIA {J:Sto} {P:V->V->V->Prop} (hi:∀ i j,P (.int i) (.int j) (.int (i+j))) (hs:∀ x y:Str,x.length+y.length <= 10000->P (.str x) (.str y) (.str (x++y)))
  (ht:∀ xs ys:List V,xs.length+ys.length <= LIM->P (.tup xs) (.tup ys) (.tup (xs++ys))) (hl:∀ a b (xs ys:List V),listOf? J a=some xs->listOf? J b=some ys->xs.length+ys.length <= LIM->P a b (.lst (xs++ys)))
  {a b x:V} (e:ev2 .add J a b=some x):P a b x:=by
 have gen:((listOf? J a).bind fun xs=>(listOf? J b).bind fun ys=>if xs.length+ys.length <= LIM then some (V.lst (xs++ys)) else none)=some x->P a b x:=by
  intro e
  replace e:=bind_some e
  obtain ⟨xs,h1,e⟩:=e
  replace e:=bind_some e
  obtain ⟨ys,h2,e⟩:=e
  obtain ⟨h3,e⟩:=zDy e
  subst e
  exact hl a b xs ys h1 h2 h3
 cases a with
 | int i =>
  cases b with
  | int j=>cases e; exact hi i j
  | _=>exact zB e
 | str i =>
  cases b with
  | str j=>obtain ⟨h,e⟩:=zDy (show (if i.length+j.length <= 10000 then some (V.str (i++j)) else none)=some x from e); subst e; exact hs i j h
  | _=>exact zB e
 | tup xs =>
  cases b with
  | tup ys=>obtain ⟨h,e⟩:=zDy (show (if xs.length+ys.length <= LIM then some (V.tup (xs++ys)) else none)=some x from e); subst e; exact ht xs ys h
  | _=>exact zB e
 | lst xs=>exact gen e
 | ref n=>exact gen e
 | _=>exact zB e
theorem zH9 {a b:V} {va vb:Value} {xs ys:List V} (L:Lk S X f J s.heap) (h1:listOf? J a=some xs) (h2:listOf? J b=some ys) (h3:xs.length+ys.length <= LIM) (ra:VR S X f s.heap a va) (rb:VR S X f s.heap b vb) :
  wpAny (model S.prog S.w) A (binaryOp .Add va vb) (PE S X f s (.lst (xs++ys))) E s:=by
 obtain ⟨p,vs,n,rfl,il,r1,l1⟩:=yQ L h1 ra
 obtain ⟨q,ws,m,rfl,il',r2,l2⟩:=yQ L h2 rb
 refine P.add_list il il' ?_ (by rw [zf r1,zf r2]; exact Nat.le_trans h3 zz)
 have:=wE (tk:=s.toks) L (xe r1 r2) (by simpa using h3)
 rwa [zG0] at this
theorem zKV {va vb:Value} {xs ys:List V} (L:Lk S X f J s.heap) (h3:xs.length+ys.length <= LIM) (ra:VR S X f s.heap (.tup xs) va) (rb:VR S X f s.heap (.tup ys) vb) :
  wpAny (model S.prog S.w) A (binaryOp .Add va vb) (PE S X f s (.tup (xs++ys))) E s:=by
 obtain ⟨p,vs,n,rfl,q1,il,r1,l1⟩:=wb ra
 obtain ⟨q,ws,m,rfl,q2,il',r2,l2⟩:=wb rb
 have z1:=zf r1
 have z2:=zf r2
 by_cases hv:vs=#[]
 ·subst hv
  have:xs=[]:=List.length_eq_zero_iff.mp (by simpa using z1.symm)
  subst this
  refine concat_meets ⟨_,il,rfl⟩ ⟨_,il',rfl⟩ noFill_tuple_add seq_tuple_add PySem.F.slot_tuple_add PySem.F.entry_tuple_add (PySem.F.args_tuple_add_2 _ _) (tuple_addW0 p q #[] ws n m none none #[] #[] (by simp)) ⟨il,il',?_⟩
  exact ⟨.refl s,rb,fun _ q=>by cases q⟩
 ·by_cases hw:ws=#[]
  ·subst hw
   have:ys=[]:=List.length_eq_zero_iff.mp (by simpa using z2.symm)
   subst this
   refine concat_meets ⟨_,il,rfl⟩ ⟨_,il',rfl⟩ noFill_tuple_add seq_tuple_add PySem.F.slot_tuple_add PySem.F.entry_tuple_add (PySem.F.args_tuple_add_2 _ _) (tuple_addW1 p q vs #[] n m none none #[] #[] (by simpa using hv) (by simp)) ⟨il,il',?_⟩
   rw [List.append_nil]
   exact ⟨.refl s,ra,fun _ q=>by cases q⟩
  ·refine P.add_tuple il il' (by simpa using hv) (by simpa using hw) ?_ (by rw [z1,z2]; exact Nat.le_trans h3 zz)
   have:=wl (tk:=s.toks) L (xe r1 r2) (by simpa using h3)
   rwa [zG0] at this
theorem zIB {a b x:V} {va vb:Value} (L:Lk S X f J s.heap) (e:ev2 .add J a b=some x) (ra:VR S X f s.heap a va) (rb:VR S X f s.heap b vb) :
  wpAny (model S.prog S.w) A (binaryOp .Add va vb) (PE S X f s x) E s:=by
 refine zIA (P:=fun a b x=>VR S X f s.heap a va->VR S X f s.heap b vb->wpAny (model S.prog S.w) A (binaryOp .Add va vb) (PE S X f s x) E s) (fun i j ra rb=>?_) (fun x y h ra rb=>?_) (fun xs ys h ra rb=>zKV L h ra rb) (fun a b xs ys h1 h2 h3 ra rb=>zH9 L h1 h2 h3 ra rb) e ra rb
 ·obtain ⟨t,rfl⟩:=zr ra
  obtain ⟨u,rfl⟩:=zr rb
  exact zG8 (J:=J) (o:=.add) (i:=i) (j:=j) rfl rfl
 ·obtain ⟨⟨t,rfl⟩,a1,a2⟩:=zt ra
  obtain ⟨⟨u,rfl⟩,b1,b2⟩:=zt rb
  refine PyProof.Rows.add_str (fun t' tk=>.str ?_ (vH a2 b2)) (Nat.le_trans h (by decide))
  rw [length_append]; exact Nat.le_trans h (by decide)
theorem zM1 {op:CmpOp} {o:P2} (ho:xj op=some o) (hn:op ≠ .Eq /\ op ≠ .NotEq /\ op ≠ .In /\ op ≠ .NotIn) {i j:Int} {x:V} {t u:Tok} (e:ev2 o J (.int i) (.int j)=some x) :
  wpAny (model S.prog S.w) A (compareOp op (.int i t) (.int j u)) (PE S X f s x) E s:=by
 cases op <;> cases ho
 ·exact absurd rfl hn.1
 ·exact absurd rfl hn.2.1
 ·cases e; exact P.lt_int .bool0
 ·cases e; exact P.le_int .bool0
 ·cases e; exact P.gt_int .bool0
 ·cases e; exact P.ge_int .bool0
 ·exact absurd rfl hn.2.2.1
 ·exact absurd rfl hn.2.2.2
theorem kU {g:Int->Int->Option V} {a b x:V} (e:(match a,b with | .int x,.int y=>g x y | _,_=>none)=some x):∃ i j,a=.int i /\ b=.int j:=by
 cases a with
 | int i =>
  cases b with
  | int j=>exact ⟨_,_,rfl,rfl⟩
  | _=>first | exact zB e | exact zF e | cases e
 | _=>first | exact zB e | exact zF e | cases e
theorem zKw {op:CmpOp} {o:P2} (ho:xj op=some o) (hn:op ≠ .Eq /\ op ≠ .NotEq /\ op ≠ .In /\ op ≠ .NotIn) {a b x:V} (e:ev2 o J a b=some x):∃ i j,a=.int i /\ b=.int j:=by
 cases op <;> cases ho
 ·exact absurd rfl hn.1
 ·exact absurd rfl hn.2.1
 all_goals first
  | exact absurd rfl hn.2.2.1
  | exact absurd rfl hn.2.2.2
  | exact kU e
theorem yj {a:V} {va:Value} {b:Bool} (L:Lk S X f J s.heap) (e:truthy J a=some b) (ra:VR S X f s.heap a va) :
  wpAny (model S.prog S.w) A (PySem.truthy va) (fun c s'=>c=b /\ Ext s s') E s:=by
 cases a with
 | none=>obtain rfl:=zAP ra; cases e; exact wpAny_pure ⟨rfl,.refl s⟩
 | bool c=>obtain rfl:=wC ra; cases e; exact wpAny_truthy_bool ⟨rfl,.refl s⟩
 | int i=>obtain ⟨t,rfl⟩:=zr ra; cases e; exact P.truthy_int ⟨rfl,.refl s⟩
 | str x =>
  obtain ⟨⟨t,rfl⟩,h1,h2⟩:=zt ra
  cases e
  refine P.truthy_str (by have:=xa h1; omega) ⟨?_,.toks s _⟩
  cases h:x.length <;> simp
  omega
 | tup xs =>
  obtain ⟨p,vs,n,rfl,q1,il,r1,l1⟩:=wb ra
  cases e
  have z:=zf r1
  refine PyProof.Rows.truthy_tuple ⟨_,il,rfl,n,rfl⟩ (by rw [z]; exact xa l1) ⟨?_,.toks s _⟩
  cases xs <;> simp_all [Array.isEmpty]
 | lst xs =>
  cases e
  obtain ⟨p,vs,n,rfl,il,r1,l1⟩:=yQ L (x:=.lst xs) rfl ra
  have z:=zf r1
  refine wpAny_truthy_list (IsL.isList il) (by rw [z]; exact xa l1) ⟨?_,.toks s _⟩
  cases xs <;> simp_all [Array.isEmpty]
 | ref k =>
  cases ho:J[k]? with
  | none=>have e:(match J[k]? with | some (.list xs)=>some (!xs.isEmpty) | _=>none)=some _:=e; rw [ho] at e; exact zB e
  | some ob =>
  replace e:(match J[k]? with | some (.list xs)=>some (!xs.isEmpty) | _=>none)=some _:=e
  rw [ho] at e
  cases ob with
  | list ys =>
   cases e
   obtain ⟨p,vs,n,rfl,il,r1,l1⟩:=yQ L (x:=.ref k) (xs:=ys) (by show xI J[k]?=some ys; rw [ho]; rfl) ra
   have z:=zf r1
   refine wpAny_truthy_list (IsL.isList il) (by rw [z]; exact xa l1) ⟨?_,.toks s _⟩
   cases ys <;> simp_all [Array.isEmpty]
  | _=>exact zB e
 | undef=>first | exact zB e | exact zF e | cases e
 | exc _=>first | exact zB e | exact zF e | cases e
 | parts=>first | exact zB e | exact zF e | cases e
theorem zNN {v:Value} {xs:List V} {a:Addr} {vs:Array Value} {n:Nat} (hv:v=.ref a) (il:IsL s.heap a vs n \/ IsT s.heap a vs n) (r:VRs S X f s.heap xs vs.toList) (l:xs.length <= LIM) :
  wpAny (model S.prog S.w) A (call (.builtin "len") [v]) (PE S X f s (.int xs.length)) E s:=by
 subst hv
 have z:=zf r
 rcases il with il | il
 ·have:=Calls.call_len_list (prog:=S.prog) (w:=S.w) (A:=A) (E:=E) (Q:=PE S X f s (.int xs.length)) (IsL.isList il) (by rw [z]; exact xa l) (by rw [z]; exact .int)
  exact this
 ·exact PyProof.Rows.len_tuple ⟨_,il,rfl,n,rfl⟩ (by rw [z]; exact xa l) (by rw [z]; exact .int)
theorem zIe {a x:V} {va:Value} (L:Lk S X f J s.heap) (e:ev1 .len J a=some x) (ra:VR S X f s.heap a va) :
  wpAny (model S.prog S.w) A (call (.builtin "len") [va]) (PE S X f s x) E s:=by
 have gen:∀ {xs:List V},xL J a=some xs->x=.int xs.length->wpAny (model S.prog S.w) A (call (.builtin "len") [va]) (PE S X f s x) E s:=by
  intro xs h1 h2
  obtain ⟨p,vs,n,h3,il,r1,l1⟩:=vS L h1 ra
  rw [h2]; exact zNN h3 il r1 l1
 cases a with
 | str y =>
  obtain ⟨⟨t,rfl⟩,h1,h2⟩:=zt ra
  cases e
  exact PyProof.Rows.len_str (by have:=xa h1; omega) .int
 | tup xs=>cases e; exact gen rfl rfl
 | lst xs=>cases e; exact gen rfl rfl
 | ref k =>
  delta ev1 at e; dsimp only at e
  split at e
  ·rename_i ys ho
   cases e
   exact gen (xs:=ys) (by show (match J[k]? with | some (.list xs)=>some xs | _=>none)=some ys; rw [ho]) rfl
  ·first | exact zB e | exact zF e | cases e
 | _=>first | exact zB e | exact zF e | cases e
theorem vW {n:Nat} {i:Int} {k:Nat} (h:ze n i=some k):seqIndex? i n=some k /\ k < n /\ (0 <= i->k=i.toNat) /\ (i < 0->0 <= i+n /\ k=(i+n).toNat):=by
 unfold ze at h
 split at h
 ·rename_i h0
  split at h
  ·rename_i h1
   cases h
   exact ⟨seqIndex_of h0 (by omega),h1,fun _=>rfl,fun h=>absurd h (Int.not_lt.mpr h0)⟩
  ·first | exact zB h | exact zF h | cases h
 ·rename_i h0
  split at h
  ·rename_i h1
   cases h
   exact ⟨seqIndex_neg (by omega) (by omega),by omega,fun h=>absurd h h0,fun _=>⟨h1,rfl⟩⟩
  ·first | exact zB h | exact zF h | cases h
theorem zCz {n:Nat} {i:Int} (h:0 <= i+n):-(n:Int) <= i:=by
 have:=Int.sub_le_sub_right h (n:Int); rwa [Int.zero_sub,Int.add_sub_cancel] at this
theorem zCt {n k:Nat} {i:Int} (hl:(n:Int) < 2 ^ 63) (h2:k < n) (h3:0 <= i->k=i.toNat) (h4:i < 0->0 <= i+n /\ k=(i+n).toNat):-(2 ^ 63) <= i /\ i < 2 ^ 63:=by
 by_cases h:i < 0
 ·exact ⟨Int.le_trans (Int.neg_le_neg (Int.le_of_lt hl)) (zCz (h4 h).1),Int.lt_trans h (by decide)⟩
 ·have h:=Int.not_lt.mp h
  refine ⟨Int.le_trans (by decide) h,?_⟩
  rw [<- Int.toNat_of_nonneg h,<- h3 h]
  exact Int.lt_trans (Int.ofNat_lt.mpr h2) hl
theorem zEz {xs:List V} {a:Addr} {vs:Array Value} {n:Nat} {i:Int} {t:Tok} {k:Nat} {x:V} (il:IsL s.heap a vs n \/ IsT s.heap a vs n) (r:VRs S X f s.heap xs vs.toList) (l:xs.length <= LIM)
  (hk:ze xs.length i=some k) (hx:xs[k]?=some x) :
  wpAny (model S.prog S.w) A (getItem (.ref a) (.int i t)) (fun v s'=>s'=s /\ VR S X f s.heap x v) E s:=by
 have z:=zf r
 obtain ⟨v,hv,rv⟩:=kX r hx
 rw [Array.getElem?_toList] at hv
 obtain ⟨h1,h2,h3,h4⟩:=vW hk
 have hb:=zCt (xa l) h2 h3 h4
 rcases il with il | il
 ·by_cases h0:0 <= i
  ·rw [h3 h0] at hv
   exact wpAny_getItem_list (IsL.isList il) h0 hb.2 hv ⟨rfl,rv⟩
  ·obtain ⟨h5,h6⟩:=h4 (Int.not_le.mp h0)
   rw [h6] at hv
   exact wpAny_getItem_list_neg (IsL.isList il) (Int.not_le.mp h0) (by rw [z]; exact zCz h5) hb.1 (by rw [z]; exact hv) ⟨rfl,rv⟩
 ·exact PyProof.Rows.getItem_tuple ⟨_,il,rfl,n,rfl⟩ hb.1 hb.2 (by rw [z]; exact h1) hv ⟨rfl,rv⟩
end
end Mine
end

section
namespace Mine
open PySem PyProof.Rows
theorem zEd (n:Nat) (i:Int):((if i < 0 then (i+n).toNat else min i.toNat n:Nat):Int)=if i < 0 then max (i+n) 0 else min i n:=by
 split
 ·rw [Int.max_comm]; exact Int.toNat_eq_max (i+n) |>.trans (Int.max_comm _ _)
 ·rename_i h
  rw [Lean.Omega.Int.ofNat_min,Int.toNat_of_nonneg (Int.not_lt.mp h)]
theorem zGT {i n:Int} (h:i < 0):i+n <= n:=by have:=Int.add_le_add_right (Int.le_of_lt h) n; rwa [Int.zero_add] at this
theorem zHG (n:Nat) (i:Int):(if i < 0 then (i+n).toNat else min i.toNat n)=(max 0 (min (if i < 0 then i+n else i) n)).toNat:=by
 split
 ·rename_i h
  rw [Int.min_eq_left (zGT h),Int.max_comm,<- Int.toNat_eq_max,Int.toNat_natCast]
 ·rename_i h
  have h:=Int.not_lt.mp h
  have e:(i:Int)=(i.toNat:Int):=(Int.toNat_of_nonneg h).symm
  rw [Int.max_eq_right (Int.le_min.mpr ⟨h,Int.natCast_nonneg n⟩)]
  generalize i.toNat=k at e
  subst e
  rw [<- Lean.Omega.Int.ofNat_min,Int.toNat_natCast]
theorem zF3 (n:Nat) (lo:Option Int):zZ n lo=lo.elim 0 (clipAt n):=by
 cases lo with
 | none=>rfl
 | some i =>
  exact zHG n i
theorem zIO (n:Nat) (hi:Option Int):yO n hi=hi.elim n (clipAt n):=by
 cases hi with
 | none=>rfl
 | some i =>
  exact zHG n i
theorem zA6 {α:Type} (xs:List α) (lo hi:Option Int):yC xs lo hi=(xs.drop (zZ xs.length lo)).take (yO xs.length hi - zZ xs.length lo):=by
 unfold yC; rw [List.drop_take]
theorem jS {α:Type} (xs:List α) (lo hi:Option Int):(yC xs lo hi).length <= xs.length:=by
 delta yC; rw [List.length_drop,List.length_take]; exact Nat.le_trans (Nat.sub_le _ _) (Nat.min_le_right _ _)
theorem zDo (lo hi:Option Int) (n:Nat):Builtin.Slice.sliceAdjust lo hi 1 (n:Int)=((zZ n lo:Int),(yO n hi:Int)):=by
 have h1:¬ ((1:Int) < 0):=by decide
 unfold Builtin.Slice.sliceAdjust
 simp only [h1,if_false]
 congr 1
 ·cases lo with
  | none=>rfl
  | some i=>exact (zEd n i).symm
 ·cases hi with
  | none=>rfl
  | some i=>exact (zEd n i).symm
theorem zEA (a b:Nat):Builtin.Slice.slicePlaces (a:Int) (b:Int) 1=b - a:=by
 unfold Builtin.Slice.slicePlaces
 have h1:(1:Int) > 0:=by decide
 simp only [h1,if_true,Int.ediv_one]
 by_cases h:(a:Int) < (b:Int)
 ·rw [if_pos h,Int.sub_add_cancel,<- Int.ofNat_sub (Nat.le_of_lt (Int.ofNat_lt.mp h)),Int.toNat_natCast]
 ·rw [if_neg h]; exact (Nat.sub_eq_zero_of_le (Nat.le_of_not_lt fun q=>h (Int.ofNat_lt.mpr q))).symm
theorem zGe (xs:Array Value) (a k:Nat):((List.range k).filterMap fun (i:Nat)=>xs[((a:Int)+(i:Int) * 1).toNat]?).toArray=((xs.toList.drop a).take k).toArray:=by
 have e:(fun (i:Nat)=>xs[((a:Int)+(i:Int) * 1).toNat]?)=fun i=>xs[a+i]?:=by
  funext i
  have:((a:Int)+(i:Int) * 1).toNat=a+i:=by rw [Int.mul_one]; exact Int.toNat_natCast (a+i)
  rw [this]
 rw [e]
 have:=pick_run xs a k
 rw [List.filterMap_map] at this
 have e2:((fun x=>xs[x]?) ∘ fun x=>a+x)=fun k=>xs[a+k]?:=rfl
 rw [e2] at this
 rw [this]
section
variable {S:zQ} {A:Around} {X:List Addr} {f:List Loc} {J:Sto} {s:Shared} {E:Value->Shared->Prop}
theorem jD {v:Value} {k:Option Int} {Q:Option Int->Shared->Prop} (hv:IsPart v k) (h:Q k s):wpAny (model S.prog S.w) A (Builtin.Slice.slicePartIndex v) Q E s:=by
 cases hv with
 | none=>exact slicePart_none h
 | int i t=>exact slicePart_int h
theorem jR {sl:Addr} {vl vu:Value} {lo hi:Option Int} {n:Nat} {Q:Int × Int × Nat->Shared->Prop} (hs:s.heap.IsSliceOf sl vl vu .none) (pl:IsPart vl lo) (pu:IsPart vu hi)
  (h:Q ((zZ n lo:Int),1,yO n hi - zZ n lo) s) :
  wpAny (model S.prog S.w) A (Builtin.Slice.sliceApplied (.ref sl) (pure (n:Int))) Q E s:=by
 obtain ⟨os,hos,hcs,hds⟩:=id hs
 unfold Builtin.Slice.sliceApplied Builtin.Slice.sliceFields
 refine wpAny_bind (wpAny_bind (wpAny_field hos hds (x:=vl) rfl (wpAny_bind (wpAny_field hos hds (x:=vu) rfl (wpAny_bind (wpAny_field hos hds (x:=.none) rfl (wpAny_pure ?_)))))))
 refine wpAny_bind (slicePart_none ?_)
 show wpAny _ _ (if ((1:Int)==0)=true then _ else _) _ _ s
 rw [if_neg (by decide)]
 refine wpAny_bind (jD pl (wpAny_bind (jD pu (wpAny_bind (wpAny_pure ?_)))))
 show wpAny _ _ (match Builtin.Slice.sliceAdjust lo hi 1 (n:Int) with | (lo,hi)=>pure (lo,(1:Int),Builtin.Slice.slicePlaces lo hi 1)) _ _ s
 rw [zDo]
 show wpAny _ _ (pure ((zZ n lo:Int),(1:Int),Builtin.Slice.slicePlaces (zZ n lo:Int) (yO n hi:Int) 1)) _ _ s
 rw [zEA]
 exact wpAny_pure h
theorem zAO {t sl:Addr} {xs:List V} {vs:Array Value} {n:Nat} {vl vu:Value} {lo hi:Option Int} (L:Lk S X f J s.heap) (q:t ∉ addrs f /\ t ∉ X) (il:IsT s.heap t vs n) (r:VRs S X f s.heap xs vs.toList) (l:xs.length <= LIM)
  (hs:s.heap.IsSliceOf sl vl vu .none) (pl:IsPart vl lo) (pu:IsPart vu hi) :
  wpAny (model S.prog S.w) A (getItem (.ref t) (.ref sl)) (PE S X f s (.tup (yC xs lo hi))) E s:=by
 have ht:IsTup s.heap t vs:=⟨_,il,rfl,n,rfl⟩
 have z:=zf r
 obtain ⟨os,hos,hcs,hds⟩:=id hs
 have hTs:s.TypeIs (.ref sl) "slice":=⟨os,hos,hcs⟩
 unfold getItem
 try with_reducible refine wpAny_holding ?_
 first | refine wpAny_bind (wpAny_pure ?_) | skip
 refine wpAny_bind (wpAny_sequenceKey ht.typeIs (by decide) ?_)
 refine wpAny_bind (wpAny_callSpecial?_slot (name:=Str.ofString "__getitem__") ht.typeIs slot_tuple_getitem
  (wpAny_call_entry slot_tuple_getitem ht.typeIs entry_tuple_getitem ?_ (args_tuple_getitem _ _)))
 show wpAny _ _ (Builtin.Tuple.tupleItemsOf (.ref t) >>= _) _ _ s
 refine wpAny_bind (tupleItemsOf_ ht ?_)
 refine wpAny_bind (wpAny_typeOf hTs ?_)
 rw [if_pos (by decide)]
 refine wpAny_bind (jR hs pl pu ?_)
 show wpAny _ _ (if ((zZ vs.size lo:Int)==0&&(1:Int)==1&&(yO vs.size hi - zZ vs.size lo)==vs.size)=true then _ else _) _ _ s
 by_cases hw:((zZ vs.size lo:Int)==0&&(1:Int)==1&&(yO vs.size hi - zZ vs.size lo)==vs.size)=true
 ·rw [if_pos hw]
  simp only [Bool.and_eq_true,beq_iff_eq] at hw
  have hz:zZ vs.size lo=0:=Int.ofNat_inj.mp hw.1.1
  have he:yC xs lo hi=xs:=by
   rw [zA6,<- z,hz,List.drop_zero,List.take_of_length_le]
   have:=hw.2; rw [hz] at this; rw [<- z]; exact Nat.le_of_eq this.symm
  rw [he]
  have fin:PE S X f s (.tup xs) (.ref t) s:=⟨.refl s,⟨t,vs,n,rfl,q,il,r,l⟩,fun _ q=>by cases q⟩
  unfold Builtin.Tuple.tupleIsExact
  refine wpAny_bind (wpAny_bind (wpAny_typeOf ht.typeIs (wpAny_pure ?_)))
  rw [if_pos (by decide)]
  exact wpAny_bind (wpAny_rule (wpAny_pure ⟨_,rfl,wpAny_pure fin⟩))
 ·rw [if_neg hw,zGe]
  have hd:((vs.toList.drop (zZ vs.size lo)).take (yO vs.size hi - zZ vs.size lo))=yC vs.toList lo hi:=by rw [zA6]; simp
  rw [hd]
  have hdrop:sizeOk (.seq (yC vs.toList lo hi).toArray):=by
   show (yC vs.toList lo hi).toArray.size <= sizeLine
   rw [List.size_toArray]
   have:=jS vs.toList lo hi
   have h2:vs.toList.length=xs.length:=by simpa using z
   exact Nat.le_trans (h2 ▸ this) (Nat.le_trans l zz)
  have rr:VRs S X f s.heap (yC xs lo hi) (yC vs.toList lo hi):=by
   unfold yC
   have h2:vs.toList.length=xs.length:=by simpa using z
   rw [h2]
   exact zBo (zBp r _) _
  have h:=wl (tk:=s.toks) L rr (Nat.le_trans (jS xs lo hi) l)
  first
   | exact wpAny_bind (m:=Builtin.Tuple.tupleExact _) (wpAny_newObj_type (wpAny_pure ⟨_,rfl,wpAny_pure h⟩) hdrop)
   | exact wpAny_bind (m:=Builtin.Tuple.tupleExact _) (wpAny_newObj_type (wpAny_bind (wpAny_pure (wpAny_pure ⟨_,rfl,wpAny_pure h⟩))) hdrop)
   | exact wpAny_bind (wpAny_bind (m:=Builtin.Tuple.tupleExact _) (wpAny_newObj_type (wpAny_pure (wpAny_pure ⟨_,rfl,wpAny_pure h⟩)) hdrop))
   | exact wpAny_bind (wpAny_bind (m:=Builtin.Tuple.tupleExact _) (wpAny_newObj_type (wpAny_pure ⟨_,rfl,wpAny_pure h⟩) hdrop))
theorem zBS {y:Str} {t:Tok} {sl:Addr} {vl vu:Value} {lo hi:Option Int} (hl:y.length <= LIM) (hok:PyData.strOk (Txt.slice y lo hi)=true) (hs:s.heap.IsSliceOf sl vl vu .none) (pl:IsPart vl lo) (pu:IsPart vu hi) :
  wpAny (model S.prog S.w) A (getItem (.str y t) (.ref sl)) (PE S X f s (.str (Txt.slice y lo hi))) E s:=by
 have hz:(Txt.slice y lo hi).length <= LIM:=Nat.le_trans (Txt.slice_le y lo hi) hl
 cases pl with
 | none =>
  cases pu with
  | none=>exact wpAny_getItem_str_slice (l:=none) (u:=none) (st:=none) hs rfl (post_val_or_str ⟨Nat.le_trans hz zz,fun t' k=>PE.str hz hok⟩)
  | int j u=>exact wpAny_getItem_str_slice (l:=none) (u:=some (j,u)) (st:=none) hs rfl (post_val_or_str ⟨Nat.le_trans hz zz,fun t' k=>PE.str hz hok⟩)
 | int i v =>
  cases pu with
  | none=>exact wpAny_getItem_str_slice (l:=some (i,v)) (u:=none) (st:=none) hs rfl (post_val_or_str ⟨Nat.le_trans hz zz,fun t' k=>PE.str hz hok⟩)
  | int j u=>exact wpAny_getItem_str_slice (l:=some (i,v)) (u:=some (j,u)) (st:=none) hs rfl (post_val_or_str ⟨Nat.le_trans hz zz,fun t' k=>PE.str hz hok⟩)
theorem zAb {t sl:Addr} {xs:List V} {vs:Array Value} {n:Nat} {vl vu:Value} {lo hi:Option Int} (L:Lk S X f J s.heap) (il:IsL s.heap t vs n) (r:VRs S X f s.heap xs vs.toList) (l:xs.length <= LIM)
  (hs:s.heap.IsSliceOf sl vl vu .none) (pl:IsPart vl lo) (pu:IsPart vu hi) :
  wpAny (model S.prog S.w) A (getItem (.ref t) (.ref sl)) (PE S X f s (.lst (yC xs lo hi))) E s:=by
 have z:=zf r
 refine wpAny_getItem_list_slice (IsL.isList il) hs pl pu .none (by simp) ?_ (by rw [z]; exact Nat.le_trans l zz)
 rw [slicePick_plain,<- zF3,<- zIO]
 have hd:((vs.toList.drop (zZ vs.size lo)).take (yO vs.size hi - zZ vs.size lo))=yC vs.toList lo hi:=by rw [zA6]; simp
 rw [hd]
 have rr:VRs S X f s.heap (yC xs lo hi) (yC vs.toList lo hi):=by
  unfold yC
  have h2:vs.toList.length=xs.length:=by simpa using z
  rw [h2]
  exact zBo (zBp r _) _
 exact wE (tk:=s.toks) L rr (Nat.le_trans (jS xs lo hi) l)
end
end Mine
end

section
namespace Mine
open PySem PyProof.Rows
section
variable {S:zQ} {A:Around} {X:List Addr} {f:List Loc} {J:Sto} {s:Shared} {E:Value->Shared->Prop}
theorem zE7 (ys:List (Int × Tok)):(ys.map fun p=>Value.int p.1 p.2).toArray=intItems ys.toArray:=by simp [intItems]
theorem zAZ {a:V} {va:Value} {xs:List V} {l:List Int} (L:Lk S X f J s.heap) (h1:listOf? J a=some xs) (h2:ints? xs=some l) (ra:VR S X f s.heap a va) :
  ∃ (p:Addr) (ys:List (Int × Tok)),va=.ref p /\ s.heap.IsList p (intItems ys.toArray) /\ ys.map (·.1)=l:=by
 obtain ⟨p,vs,n,rfl,il,r,_⟩:=yQ L h1 ra
 obtain ⟨ys,e1,e2⟩:=zHZ h2 r
 refine ⟨p,ys,rfl,?_,e2⟩
 rw [<- zE7,<- e1]
 exact IsL.isList il
theorem zKP {a x:V} {va:Value} (hh:A.handled=none) (L:Lk S X f J s.heap) (e:ev1 .sum J a=some x) (ra:VR S X f s.heap a va) :
  wpAny (model S.prog S.w) A (call (.builtin "sum") [va]) (PE S X f s x) E s:=by
 delta ev1 at e; dsimp only at e
 cases h1:listOf? J a with
 | none=>first | (rw [h1] at e; exact zB e) | simp [h1] at e
 | some xs =>
  cases h2:ints? xs with
  | none=>first | (rw [h1,h2] at e; exact zB e) | (rw [h1,Option.bind_some,h2] at e; exact zB e) | simp [h1,h2] at e
  | some l =>
   simp [h1,h2] at e
   subst e
   obtain ⟨p,ys,rfl,il,rfl⟩:=zAZ L h1 h2 ra
   refine sum_intListG hh il fun h' tk t' k=>?_
   rw [preSum_eq,List.take_of_length_le (by simp)]
   exact .intH k
theorem zKi (l:List Int) (m:Int) (hm:m ∈ l) (hle:∀ a ∈ l,m <= a):zIn l=some m:=by
 cases l with
 | nil=>first | exact zB hm | exact zF hm | cases hm
 | cons x xs =>
  simp only [zIn]
  congr 1
  have key:∀ (ys:List Int) (b:Int),(ys.foldl (fun m y=>if y < m then y else m) b ∈ b :: ys) /\ ∀ a ∈ b :: ys,ys.foldl (fun m y=>if y < m then y else m) b <= a:=by
   intro ys
   induction ys with
   | nil=>intro b; simp
   | cons y ys ih =>
    intro b
    simp only [List.foldl_cons]
    obtain ⟨h1,h2⟩:=ih (if y < b then y else b)
    constructor
    ·rcases List.mem_cons.mp h1 with h | h
     ·rw [h]; split <;> simp
     ·exact List.mem_cons_of_mem _ (List.mem_cons_of_mem _ h)
    ·intro a ha
     have h0:=h2 (if y < b then y else b) (List.mem_cons_self)
     have hb:(if y < b then y else b) <= b:=by split <;> omega
     have hy:(if y < b then y else b) <= y:=by split <;> omega
     rcases List.mem_cons.mp ha with rfl | ha
     ·exact Int.le_trans h0 hb
     ·rcases List.mem_cons.mp ha with rfl | ha
      ·exact Int.le_trans h0 hy
      ·exact h2 a (List.mem_cons_of_mem _ ha)
  obtain ⟨h1,h2⟩:=key xs x
  exact Int.le_antisymm (h2 m hm) (hle _ h1)
theorem zKh (l:List Int) (m:Int) (hm:m ∈ l) (hle:∀ a ∈ l,a <= m):zLa l=some m:=by
 cases l with
 | nil=>first | exact zB hm | exact zF hm | cases hm
 | cons x xs =>
  simp only [zLa]
  congr 1
  have key:∀ (ys:List Int) (b:Int),(ys.foldl (fun m y=>if y > m then y else m) b ∈ b :: ys) /\ ∀ a ∈ b :: ys,a <= ys.foldl (fun m y=>if y > m then y else m) b:=by
   intro ys
   induction ys with
   | nil=>intro b; simp
   | cons y ys ih =>
    intro b
    simp only [List.foldl_cons]
    obtain ⟨h1,h2⟩:=ih (if y > b then y else b)
    constructor
    ·rcases List.mem_cons.mp h1 with h | h
     ·rw [h]; split <;> simp
     ·exact List.mem_cons_of_mem _ (List.mem_cons_of_mem _ h)
    ·intro a ha
     have h0:=h2 (if y > b then y else b) (List.mem_cons_self)
     have hb:b <= (if y > b then y else b):=by split <;> omega
     have hy:y <= (if y > b then y else b):=by split <;> omega
     rcases List.mem_cons.mp ha with rfl | ha
     ·exact Int.le_trans hb h0
     ·rcases List.mem_cons.mp ha with rfl | ha
      ·exact Int.le_trans hy h0
      ·exact h2 a (List.mem_cons_of_mem _ ha)
  obtain ⟨h1,h2⟩:=key xs x
  exact Int.le_antisymm (hle _ h1) (h2 m hm)
theorem zIo {a x:V} {va:Value} (hh:A.handled=none) (L:Lk S X f J s.heap) (e:ev1 .min J a=some x) (ra:VR S X f s.heap a va) :
  wpAny (model S.prog S.w) A (call (.builtin "min") [va]) (PE S X f s x) E s:=by
 delta ev1 at e; dsimp only at e
 cases h1:listOf? J a with
 | none=>first | (rw [h1] at e; exact zB e) | simp [h1] at e
 | some xs =>
  cases h2:ints? xs with
  | none=>first | (rw [h1,h2] at e; exact zB e) | (rw [h1,Option.bind_some,h2] at e; exact zB e) | simp [h1,h2] at e
  | some l =>
   cases h3:zIn l with
   | none=>first | (rw [h1,h2,h3] at e; exact zB e) | (rw [h1,Option.bind_some,h2,Option.bind_some,h3] at e; exact zB e) | simp [h1,h2,h3] at e
   | some m =>
    simp [h1,h2,h3] at e
    subst e
    obtain ⟨p,ys,rfl,il,rfl⟩:=zAZ L h1 h2 ra
    have hne:0 < ys.toArray.size:=by
     cases ys with
     | nil=>simp [zIn] at h3
     | cons y ys=>simp
    refine min_intList hh il hne fun v h' tk hv k=>?_
    obtain ⟨t,rfl⟩:=intItems_at hv
    obtain ⟨g1,g2⟩:=argBest_lt (numAt ys.toArray) (ys.toArray.size - 1)
    have:=zKi (ys.map (·.1)) (numAt ys.toArray (argBest (fun i j=>decide (numAt ys.toArray i < numAt ys.toArray j)) (ys.toArray.size - 1)))
     (by rw [numAt_eq]; exact PySem.getD_mem (by simp; simp at g1 hne; omega))
     (fun a ha=>by obtain ⟨j,hj,rfl⟩:=PySem.mem_getD ha; have:=g2 j (by simp at hj ⊢; omega); rw [numAt_eq ys.toArray j] at this; simpa using this)
    rw [h3] at this
    cases this
    exact .intH k
theorem zIj {a x:V} {va:Value} (hh:A.handled=none) (L:Lk S X f J s.heap) (e:ev1 .max J a=some x) (ra:VR S X f s.heap a va) :
  wpAny (model S.prog S.w) A (call (.builtin "max") [va]) (PE S X f s x) E s:=by
 delta ev1 at e; dsimp only at e
 cases h1:listOf? J a with
 | none=>first | (rw [h1] at e; exact zB e) | simp [h1] at e
 | some xs =>
  cases h2:ints? xs with
  | none=>first | (rw [h1,h2] at e; exact zB e) | (rw [h1,Option.bind_some,h2] at e; exact zB e) | simp [h1,h2] at e
  | some l =>
   cases h3:zLa l with
   | none=>first | (rw [h1,h2,h3] at e; exact zB e) | (rw [h1,Option.bind_some,h2,Option.bind_some,h3] at e; exact zB e) | simp [h1,h2,h3] at e
   | some m =>
    simp [h1,h2,h3] at e
    subst e
    obtain ⟨p,ys,rfl,il,rfl⟩:=zAZ L h1 h2 ra
    have hne:0 < ys.toArray.size:=by
     cases ys with
     | nil=>simp [zLa] at h3
     | cons y ys=>simp
    refine max_intList hh il hne fun v h' tk hv k=>?_
    obtain ⟨t,rfl⟩:=intItems_at hv
    obtain ⟨g1,g2⟩:=argBest_gt (numAt ys.toArray) (ys.toArray.size - 1)
    have:=zKh (ys.map (·.1)) (numAt ys.toArray (argBest (fun i j=>decide (numAt ys.toArray i > numAt ys.toArray j)) (ys.toArray.size - 1)))
     (by rw [numAt_eq]; exact PySem.getD_mem (by simp; simp at g1 hne; omega))
     (fun a ha=>by obtain ⟨j,hj,rfl⟩:=PySem.mem_getD ha; have:=g2 j (by simp at hj ⊢; omega); rw [numAt_eq ys.toArray j] at this; simpa using this)
    rw [h3] at this
    cases this
    exact .intH k
theorem zEJ {a x:V} {va:Value} (L:Lk S X f J s.heap) (e:ev1 .toList J a=some x) (ra:VR S X f s.heap a va) :
  wpAny (model S.prog S.w) A (call (.type "list") [va]) (PE S X f s x) E s:=by
 delta ev1 at e; dsimp only at e
 cases h1:xL J a with
 | none=>first | (rw [h1] at e; exact zB e) | simp [h1] at e
 | some xs =>
  simp [h1] at e
  subst e
  obtain ⟨p,vs,n,rfl,il,r,l⟩:=vS L h1 ra
  have z:=zf r
  have fin:∀ (h':Heap) (c':Nat),(∀ b o',s.heap.get? b=some o'->h'.get? b=some o')->h'.get? s.heap.objs.size=some { cls:=.type "list",data:=.seq vs c' }->PE S X f s (.lst xs) (.ref s.heap.objs.size) { s with heap:=h' }:=by
   intro h' c' k hl
   have e:Ext s { s with heap:=h' }:=.heap (t:=s.toks) k
   have nl:NewL S X f s { s with heap:=h' } xs (.ref s.heap.objs.size):=⟨_,vs,c',rfl,yn _,hl,r,l⟩
   exact ⟨e,nl.vr L e,fun ys q=>by cases q; exact nl⟩
  rcases il with il | il
  ·exact call_list_seq p (T:="list") (.inl rfl) il rfl rfl fin (by rw [z]; exact Nat.le_trans l zz)
  ·exact call_list_seq p (T:="tuple") (.inr rfl) il rfl rfl fin (by rw [z]; exact Nat.le_trans l zz)
theorem zIp {i:Int} {t:Tok}:wpAny (model S.prog S.w) A (unaryOp .USub (.int i t)) (PE S X f s (.int (-i))) E s:=PyProof.Rows.neg_int .int
theorem zGR {i j:Int} {t u:Tok} (hh:A.handled=none):wpAny (model S.prog S.w) A (call (.builtin "min") [.int i t,.int j u]) (PE S X f s (.int (if j < i then j else i))) E s:=by
 refine min_two_ints hh fun h' tk k=>?_
 split <;> exact .intH k
theorem zGQ {i j:Int} {t u:Tok} (hh:A.handled=none):wpAny (model S.prog S.w) A (call (.builtin "max") [.int i t,.int j u]) (PE S X f s (.int (if j > i then j else i))) E s:=by
 refine max_two_ints hh fun h' tk k=>?_
 split <;> exact .intH k
noncomputable def zFv (h:Heap) (v:Value) (p:PyData) (d:Nat):Prop:=(∃ as,Reads h v p as) /\ p.canLay0=true /\ p.depth <= d
noncomputable def zMg (h:Heap) (vs:List Value) (ps:List PyData) (d:Nat):Prop:=(∃ as,ReadsAll h vs ps as) /\ PyData.canLayAll0 ps=true /\ PyData.depthAll ps <= d
theorem zFg {h:Heap} {d:Nat} (ih:∀ (x:V) (v:Value) (p:PyData),xN J d x=some p->VR S X f h x v->zFv h v p d):∀ (xs:List V) (vs:List Value) (ps:List PyData),xs.mapM (xN J d)=some ps->VRs S X f h xs vs->zMg h vs ps d:=by
 intro xs
 induction xs with
 | nil =>
  intro vs ps e r
  cases vs with
  | nil=>cases e; exact ⟨⟨_,.nil⟩,rfl,Nat.zero_le _⟩
  | cons _ _=>exact False.elim r
 | cons x xs ih2 =>
  intro vs ps e r
  cases vs with
  | nil=>exact False.elim r
  | cons v vs =>
   rw [List.mapM_cons] at e
   replace e:=bind_some e
   obtain ⟨p,h1,e⟩:=e
   replace e:=bind_some e
   obtain ⟨ps',h2,e⟩:=e
   cases e
   obtain ⟨⟨as,a1⟩,a2,a3⟩:=ih x v p h1 r.1
   obtain ⟨⟨bs,b1⟩,b2,b3⟩:=ih2 vs ps' h2 r.2
   exact ⟨⟨_,.cons a1 b1⟩,by rw [PyData.canLayAll0,a2,b2]; rfl,by rw [PyData.depthAll]; exact Nat.max_le.mpr ⟨a3,b3⟩⟩
theorem zCV {h:Heap} (L:Lk S X f J h) (d:Nat):∀ (x:V) (v:Value) (p:PyData),xN J d x=some p->VR S X f h x v->zFv h v p d:=by
 induction d with
 | zero=>intro x v p e; cases e
 | succ d ih =>
  intro x v p e r
  have lists:∀ {xs:List V},listOf? J x=some xs->(xs.mapM (xN J d)).map PyData.list=some p->zFv h v p (d+1):=fun h1 e=>by
   obtain ⟨a,vs,n,rfl,il,rs,_⟩:=yQ L h1 r
   replace e:=map_some e
   obtain ⟨ps,e1,rfl⟩:=e
   obtain ⟨⟨as,r1⟩,r2,r3⟩:=zFg ih _ _ _ e1 rs
   exact ⟨⟨_,.list il rfl rfl r1⟩,r2,by rw [PyData.depth]; omega⟩
  cases x with
  | none=>cases e; obtain rfl:=zAP r; exact ⟨⟨_,.none⟩,rfl,Nat.zero_le _⟩
  | bool b=>cases e; obtain rfl:=wC r; exact ⟨⟨_,.bool b⟩,rfl,Nat.zero_le _⟩
  | int i=>cases e; obtain ⟨t,rfl⟩:=zr r; exact ⟨⟨_,.int i t⟩,rfl,Nat.zero_le _⟩
  | str y=>cases e; obtain ⟨⟨t,rfl⟩,h1,h2⟩:=zt r; exact ⟨⟨_,.str y t⟩,h2,Nat.zero_le _⟩
  | tup xs =>
   obtain ⟨a,vs,n,rfl,_,il,rs,_⟩:=wb r
   replace e:(xs.mapM (xN J d)).map PyData.tuple=some p:=e
   replace e:=map_some e
   obtain ⟨ps,e1,rfl⟩:=e
   obtain ⟨⟨as,r1⟩,r2,r3⟩:=zFg ih _ _ _ e1 rs
   exact ⟨⟨_,.tuple il rfl rfl r1⟩,r2,by rw [PyData.depth]; omega⟩
  | lst xs=>exact lists rfl e
  | ref k =>
   replace e:zDd (xN J d) J[k]?=some p:=e
   cases ho:J[k]? with
   | none=>rw [ho] at e; first | exact zB e | exact zF e | cases e
   | some o =>
    rw [ho] at e
    cases o with
    | list xs=>exact lists (show xI J[k]?=some xs by rw [ho]; rfl) e
    | _=>first | exact zB e | exact zF e | cases e
  | undef=>first | exact zB e | exact zF e | cases e
  | exc _=>first | exact zB e | exact zF e | cases e
  | parts=>first | exact zB e | exact zF e | cases e
theorem zCm {a b:V} {va vb:Value} {r:Bool} (hu:A.units+64 < cLine) (L:Lk S X f J s.heap) (e:eqV.eqD J a b=some r) (ra:VR S X f s.heap a va) (rb:VR S X f s.heap b vb) :
  wpAny (model S.prog S.w) A (compareOp .Eq va vb) (PE S X f s (.bool r)) E s /\ wpAny (model S.prog S.w) A (compareOp .NotEq va vb) (PE S X f s (.bool !r)) E s:=by
 unfold eqV.eqD at e
 cases h1:xN J yo a with
 | none=>first | (rw [h1] at e; exact zB e) | simp [h1] at e
 | some p =>
  cases h2:xN J yo b with
  | none=>first | (rw [h1,h2] at e; exact zB e) | (rw [h1,Option.bind_some,h2] at e; exact zB e) | simp [h1,h2] at e
  | some q =>
   simp [h1,h2] at e
   subst e
   obtain ⟨⟨as,a1⟩,a2,a3⟩:=zCV L _ _ _ _ h1 ra
   obtain ⟨⟨bs,b1⟩,b2,b3⟩:=zCV L _ _ _ _ h2 rb
   have sa:SeqAt.shaped p=true:=by unfold SeqAt.shaped; rw [a2,Bool.true_and]; exact decide_eq_true (Nat.le_trans a3 (by decide))
   have sb:SeqAt.shaped q=true:=by unfold SeqAt.shaped; rw [b2,Bool.true_and]; exact decide_eq_true (Nat.le_trans b3 (by decide))
   exact ⟨SeqAt.compareEq_shaped a1 b1 sa sb hu .bool0,SeqAt.compareNe_shaped a1 b1 sa sb hu .bool0⟩
end
end Mine
end

section
namespace Mine
open PySem PyProof.Rows
section
variable {S:zQ} {A:Around} {X:List Addr} {f:List Loc} {J:Sto} {s:Shared} {E:Value->Shared->Prop}
theorem zBP (l:List Bool):(List.range l.length).all (fun i=>(l[i]?).getD true)=l.all id:=by
 rw [Bool.eq_iff_iff,List.all_eq_true,List.all_eq_true]
 constructor
 ·intro h x hx
  obtain ⟨i,hi,rfl⟩:=List.getElem_of_mem hx
  have:=h i (List.mem_range.mpr hi)
  rw [List.getElem?_eq_getElem hi] at this
  exact this
 ·intro h i hi
  rw [List.getElem?_eq_getElem (List.mem_range.mp hi)]
  exact h _ (List.getElem_mem _)
theorem zFi {a x:V} {va:Value} (L:Lk S X f J s.heap) (e:ev1 .toTup J a=some x) (ra:VR S X f s.heap a va) :
  wpAny (model S.prog S.w) A (call (.type "tuple") [va]) (PE S X f s x) E s:=by
 delta ev1 at e; dsimp only at e; simp only [Option.map_eq_some_iff] at e
 obtain ⟨xs,h1,rfl⟩:=e
 obtain ⟨p,vs,n,rfl,il,r,l⟩:=yQ L h1 ra
 have z:=zf r
 refine call_tuple_list (IsL.isList il) (fun h' k=>?_) (by rw [z]; exact Nat.le_trans l zz)
 have e1:Ext s { s with heap:=h'.push { cls:=.type "tuple",data:=.seq vs } }:=.heap (t:=s.toks) fun b o q=>Heap.get?_push_of_some _ (k b o q)
 have hn:s.heap.get? h'.objs.size=none:=by
  cases q:s.heap.get? h'.objs.size with
  | none=>rfl
  | some o=>have:=yn h'; rw [k _ _ q] at this; cases this
 refine ⟨e1,?_,fun _ q=>by cases q⟩
 exact ⟨_,vs,0,rfl,L.new hn,Heap.get?_push_size _ rfl,e1.vrs r,l⟩
theorem zFf {a x:V} {va:Value} (e:ev1 .toInt J a=some x) (ra:VR S X f s.heap a va) :
  wpAny (model S.prog S.w) A (call (.type "int") [va]) (PE S X f s x) E s:=by
 cases a with
 | bool b=>obtain rfl:=wC ra; cases e; exact call_int_bool .int
 | int i=>obtain ⟨t,rfl⟩:=zr ra; cases e; exact call_int_int (.int (tk:=s.toks))
 | str y =>
  obtain ⟨⟨t,rfl⟩,_⟩:=zt ra
  replace e:(if y.length <= 640 then (intText? y).map V.int else none)=some x:=e
  split at e
  ·rename_i hl
   replace e:=map_some e
   obtain ⟨n,hn,rfl⟩:=e
   exact PySem.W.KIN.call_text hn hl .int
  ·first | exact zB e | exact zF e | cases e
 | _=>first | exact zB e | exact zF e | cases e
theorem zD3 {a x:V} {va:Value} (e:ev1 .isNone J a=some x) (ra:VR S X f s.heap a va) (hp:S.parts ≠ .none) :
  wpAny (model S.prog S.w) A (compareOp .Is va .none) (PE S X f s x) E s:=by
 refine is_none ?_
 cases a with
 | none=>obtain rfl:=zAP ra; cases e; exact .bool0
 | bool b=>obtain rfl:=wC ra; cases e; exact .bool0
 | int i=>obtain ⟨t,rfl⟩:=zr ra; cases e; exact .bool0
 | str y=>obtain ⟨⟨t,rfl⟩,_⟩:=zt ra; cases e; exact .bool0
 | tup xs=>obtain ⟨p,vs,n,rfl,_⟩:=wb ra; cases e; exact .bool0
 | lst xs=>obtain ⟨p,vs,n,rfl,_⟩:=ra; cases e; exact .bool0
 | ref k=>obtain ⟨l,_,rfl⟩:=ra; cases e; exact .bool0
 | exc c=>obtain ⟨p,o,rfl,_⟩:=ra; cases e; exact .bool0
 | parts =>
  obtain ⟨_,rfl⟩:=ra; cases e
  have:(S.parts==Value.none)=false:=by simpa using hp
  rw [this]; exact .bool0
 | undef=>exact False.elim ra
theorem zBR {a x:V} {va:Value} (e:ev1 .isNotNone J a=some x) (ra:VR S X f s.heap a va) (hp:S.parts ≠ .none) :
  wpAny (model S.prog S.w) A (compareOp .IsNot va .none) (PE S X f s x) E s:=by
 refine isNot_none ?_
 cases a with
 | none=>obtain rfl:=zAP ra; cases e; exact .bool0
 | bool b=>obtain rfl:=wC ra; cases e; exact .bool0
 | int i=>obtain ⟨t,rfl⟩:=zr ra; cases e; exact .bool0
 | str y=>obtain ⟨⟨t,rfl⟩,_⟩:=zt ra; cases e; exact .bool0
 | tup xs=>obtain ⟨p,vs,n,rfl,_⟩:=wb ra; cases e; exact .bool0
 | lst xs=>obtain ⟨p,vs,n,rfl,_⟩:=ra; cases e; exact .bool0
 | ref k=>obtain ⟨l,_,rfl⟩:=ra; cases e; exact .bool0
 | exc c=>obtain ⟨p,o,rfl,_⟩:=ra; cases e; exact .bool0
 | parts =>
  obtain ⟨_,rfl⟩:=ra; cases e
  have:(S.parts==Value.none)=false:=by simpa using hp
  rw [this]; exact .bool0
 | undef=>exact False.elim ra
noncomputable def zMR:Kd->String
 | .int=>"int" | .bool=>"bool" | .str=>"str" | .list=>"list" | .tuple=>"tuple" | .exc _=>"ValueError"
theorem zw {x a:V} {t:Sem Value} (e:some a=some x) (h:wpAny (model S.prog S.w) A t (PE S X f s a) E s):wpAny (model S.prog S.w) A t (PE S X f s x) E s:=Option.some.inj e ▸ h
theorem zD2 {a x:V} {va:Value} {k:Kd}
  (hk:∀ c,k=.exc c->False)
  (L:Lk S X f J s.heap) (e:ev1 (.isInst k) J a=some x) (ra:VR S X f s.heap a va) :
  wpAny (model S.prog S.w) A (call (.builtin "isinstance") [va,.type (zMR k)]) (PE S X f s x) E s:=by
 cases a with
 | undef=>first | exact zB e | exact zF e | cases e
 | parts=>first | exact zB e | exact zF e | cases e
 | exc c =>
  cases k with
  | exc d =>
   exact (hk d rfl).elim
  | _=>exact zB e
 | none =>
  obtain rfl:=zAP ra
  cases k <;> first | exact zB e | skip
  ·exact zw e (IsiPair.NoneType_int .bool)
  ·exact zw e (IsiPair.NoneType_bool .bool)
  ·exact zw e (IsiPair.NoneType_str .bool)
  ·exact zw e (IsiPair.NoneType_list .bool)
  ·exact zw e (IsiPair.NoneType_tuple .bool)
 | bool b =>
  obtain rfl:=wC ra
  cases k <;> first | exact zB e | skip
  ·exact zw e (IsiPair.bool_int .bool0)
  ·exact zw e (IsiPair.bool_bool .bool0)
  ·exact zw e (IsiPair.bool_str .bool)
  ·exact zw e (IsiPair.bool_list .bool)
  ·exact zw e (IsiPair.bool_tuple .bool)
 | int i =>
  obtain ⟨t,rfl⟩:=zr ra
  cases k <;> first | exact zB e | skip
  ·exact zw e (IsiPair.int_int .bool0)
  ·exact zw e (IsiPair.int_bool .bool)
  ·exact zw e (IsiPair.int_str .bool)
  ·exact zw e (IsiPair.int_list .bool)
  ·exact zw e (IsiPair.int_tuple .bool)
 | str y =>
  obtain ⟨⟨t,rfl⟩,_⟩:=zt ra
  cases k <;> first | exact zB e | skip
  ·exact zw e (IsiPair.str_int .bool)
  ·exact zw e (IsiPair.str_bool .bool)
  ·exact zw e (IsiPair.str_str .bool0)
  ·exact zw e (IsiPair.str_list .bool)
  ·exact zw e (IsiPair.str_tuple .bool)
 | tup xs =>
  obtain ⟨p,vs,n,rfl,_,il,_⟩:=wb ra
  cases k <;> first | exact zB e | skip
  ·exact zw e (IsiPair.tuple_int il rfl .bool)
  ·exact zw e (IsiPair.tuple_bool il rfl .bool)
  ·exact zw e (IsiPair.tuple_str il rfl .bool)
  ·exact zw e (IsiPair.tuple_list il rfl .bool)
  ·exact zw e (IsiPair.tuple_tuple il rfl .bool0)
 | lst xs =>
  obtain ⟨p,vs,n,rfl,il,_⟩:=yQ L (x:=.lst xs) rfl ra
  cases k <;> first | exact zB e | skip
  ·exact zw e (IsiPair.list_int il rfl .bool)
  ·exact zw e (IsiPair.list_bool il rfl .bool)
  ·exact zw e (IsiPair.list_str il rfl .bool)
  ·exact zw e (IsiPair.list_list il rfl .bool0)
  ·exact zw e (IsiPair.list_tuple il rfl .bool)
 | ref m =>
  cases ho:J[m]? with
  | none=>have e:(zKJ J[m]? k).map V.bool=some x:=e; rw [ho] at e; cases e
  | some o =>
   cases o with
   | list ys =>
    obtain ⟨p,vs,n,rfl,il,_⟩:=yQ L (x:=.ref m) (xs:=ys) (by show xI J[m]?=some ys; rw [ho]; rfl) ra
    replace e:(zKJ J[m]? k).map V.bool=some x:=e
    rw [ho] at e
    cases k <;> first | exact zB e | skip
    ·exact zw e (IsiPair.list_int il rfl .bool)
    ·exact zw e (IsiPair.list_str il rfl .bool)
    ·exact zw e (IsiPair.list_list il rfl .bool0)
    ·exact zw e (IsiPair.list_tuple il rfl .bool)
   | dict es=>have e:(zKJ J[m]? k).map V.bool=some x:=e; rw [ho] at e; cases e
   | inst es=>have e:(zKJ J[m]? k).map V.bool=some x:=e; rw [ho] at e; cases e
end
end Mine
end

section
namespace Mine
open PySem PyProof.Rows
section
variable {S:zQ} {A:Around} {X:List Addr} {f:List Loc} {J:Sto} {s:Shared} {E:Value->Shared->Prop}
theorem zIC {a x:V} {va:Value} (hh:A.handled=none) (L:Lk S X f J s.heap) (e:ev1 .all J a=some x) (ra:VR S X f s.heap a va) :
  wpAny (model S.prog S.w) A (call (.builtin "all") [va]) (PE S X f s x) E s:=by
 delta ev1 at e; dsimp only at e
 cases h1:listOf? J a with
 | none=>first | (rw [h1] at e; exact zB e) | simp [h1] at e
 | some xs =>
  cases h2:bools? xs with
  | none=>first | (rw [h1,h2] at e; exact zB e) | (rw [h1,Option.bind_some,h2] at e; exact zB e) | simp [h1,h2] at e
  | some l =>
   simp [h1,h2] at e
   subst e
   obtain ⟨p,vs,n,rfl,il,r,_⟩:=yQ L h1 ra
   have hv:=zEX h2 r
   have hlist:=IsL.isList il
   have hlt:p < s.heap.objs.size:=Heap.lt_size il
   refine call_all_walk (wpAny_pyIter_list hlist ?_)
   refine ⟨s.heap.objs.size,_,_,vs.size,_,_,fun i=>(l[i]?).getD true,rfl,Walks.list (A:=A.in1) hh s.heap.objs.size p (Nat.ne_of_lt hlt) vs,
    ⟨⟨_,Heap.get?_push_size _ rfl,rfl,rfl⟩,hlist.push _⟩,?_,fun h' tk k=>?_⟩
   ·intro i v s₁ Q E' hP hQ
    rw [<- Array.getElem?_toList,hv,List.getElem?_map] at hP
    cases hl:l[i]? with
    | none=>rw [hl] at hP; first | exact zB hP | exact zF hP | cases hP
    | some b=>rw [hl] at hP; cases hP; exact wpAny_truthy_bool (by simpa [hl] using hQ)
   ·have hz:vs.size=l.length:=by rw [<- Array.length_toList,hv,List.length_map]
    rw [hz,zBP]
    exact .boolH (old_kept k)
theorem zDs (l:List Str) (x:Str) (ys:List (Str × Tok)) (h:ys.map (·.1)=l):(ys.map fun p=>Value.str p.1 p.2).any (fun y=>match y with | .str z _=>z.cps.toList==x.cps.toList | _=>false)=l.contains x:=by
 subst h
 induction ys with
 | nil=>rfl
 | cons p ps ih =>
  simp only [List.map_cons,List.any_cons,List.contains_cons,ih]
  congr 1
  rw [Bool.eq_iff_iff]
  constructor
  ·intro h
   have:p.1.cps.toList=x.cps.toList:=beq_iff_eq.mp h
   have:p.1=x:=by cases hp:p.1; cases hx:x; rw [hp,hx] at this; simp at this; rw [this]
   simp [this]
  ·intro h
   rw [beq_iff_eq.mp h]; simp
theorem zDz {y:Str} {u:Tok} {xs:List V} {l:List Str} {p:Addr} {vs:Array Value} {n:Nat} (il:IsL s.heap p vs n \/ IsT s.heap p vs n) (r:VRs S X f s.heap xs vs.toList) (h2:strs? xs=some l) :
  wpAny (model S.prog S.w) A (compareOp .In (.str y u) (.ref p)) (PE S X f s (.bool (l.contains y))) E s /\ wpAny (model S.prog S.w) A (compareOp .NotIn (.str y u) (.ref p)) (PE S X f s (.bool !(l.contains y))) E s:=by
 obtain ⟨ys,e1,e2,_⟩:=zHx h2 r
 have hany:vs.any (fun y'=>match y' with | .str z _=>z.cps.toList==y.cps.toList | _=>false)=l.contains y:=by
  rw [<- zDs l y ys e2,<- e1]
  exact (Array.any_toList ..).symm
 have he:∀ v,v ∈ vs->MeetsSeq.EqGives v (.str y u) (match v with | .str z _=>z.cps.toList==y.cps.toList | _=>false):=by
  intro v hv
  have:v ∈ vs.toList:=by simpa using hv
  rw [e1] at this
  obtain ⟨q,_,rfl⟩:=List.mem_map.mp this
  exact SeqRoads2.EqGives.str q.1 y q.2 u
 rcases il with il | il
 ·exact ⟨SeqRoads2.in_list _ he il (by rw [hany]; exact .bool0),SeqRoads2.notIn_list _ he il (by rw [hany]; exact .bool0)⟩
 ·exact ⟨SeqRoads2.in_tuple _ he il (by rw [hany]; exact .bool0),SeqRoads2.notIn_tuple _ he il (by rw [hany]; exact .bool0)⟩
theorem zD0 {x y:Str} {c:Nat} {t u:Tok} (hc:zR x=[c]) :
  wpAny (model S.prog S.w) A (compareOp .In (.str x t) (.str y u)) (PE S X f s (.bool ((zR y).contains c))) E s /\ wpAny (model S.prog S.w) A (compareOp .NotIn (.str x t) (.str y u)) (PE S X f s (.bool !((zR y).contains c))) E s:=by
 have hx:x=⟨#[c]⟩:=by cases x with | mk a=>simp [zR] at hc; rw [show a=#[c] from Array.toList_inj.mp hc]
 subst hx
 have e:(!(Builtin.Str.occurrences y ⟨#[c]⟩ 0 y.length 1).isEmpty)=(zR y).contains c:=by
  rw [StrLaws.found_one]
  rw [Bool.eq_iff_iff]; simp [zR]
 exact ⟨PyProof.Rows.in_str (by rw [e]; exact .bool0),PyProof.Rows.notIn_str (by rw [e]; exact .bool0)⟩
noncomputable def ww (S:zQ) (h:Heap):Prop:=S.hasParts=true->∃ d g,S.parts=.ref d /\ (d==sysModules)=false /\ h.MapOf (strKind S.prog S.w) d g /\ ∀ x,∃ t,g x=((partsTable.find? fun p=>p.1==x).map fun p=>Value.int p.2 t)
theorem zD9 (x:Str):((partsTable.find? fun p=>p.1==x).map fun p=>p.2).isSome=partsTable.any fun p=>p.1==x:=by
 rw [Option.isSome_map,Bool.eq_iff_iff,List.find?_isSome,List.any_eq_true]
theorem zB7 {x:Str} {t:Tok} (hp:ww S s.heap) (hh:S.hasParts=true) :
  wpAny (model S.prog S.w) A (compareOp .In (.str x t) S.parts) (PE S X f s (.bool (partsTable.any fun p=>p.1==x))) E s /\ wpAny (model S.prog S.w) A (compareOp .NotIn (.str x t) S.parts) (PE S X f s (.bool !(partsTable.any fun p=>p.1==x))) E s:=by
 obtain ⟨d,g,e,hd,hm,hg⟩:=hp hh
 rw [e]
 obtain ⟨tk,hgx⟩:=hg x
 have hs:(g x).isSome=partsTable.any fun p=>p.1==x:=by rw [hgx,<- zD9 x,Option.isSome_map,Option.isSome_map]
 have hk:(strKind S.prog S.w).is x (.str x t)=true:=by show Value.isStrOf x (.str x t)=true; simp [Value.isStrOf]
 exact ⟨wpAny_in_of hk hd hm (by rw [hs]; exact .bool),wpAny_notIn_of hk hd hm (by rw [hs]; exact .bool)⟩
theorem zE3 {a b:V} {va vb:Value} {r:Bool} (hp:ww S s.heap) (L:Lk S X f J s.heap) (e:inV J a b=some r) (ra:VR S X f s.heap a va) (rb:VR S X f s.heap b vb) :
  wpAny (model S.prog S.w) A (compareOp .In va vb) (PE S X f s (.bool r)) E s /\ wpAny (model S.prog S.w) A (compareOp .NotIn va vb) (PE S X f s (.bool !r)) E s:=by
 cases a with
 | str x =>
  obtain ⟨⟨t,rfl⟩,_⟩:=zt ra
  have gen:∀ {xs:List V},xL J b=some xs->((strs? xs).map fun l=>l.contains x)=some r ->
    wpAny (model S.prog S.w) A (compareOp .In (.str x t) vb) (PE S X f s (.bool r)) E s /\ wpAny (model S.prog S.w) A (compareOp .NotIn (.str x t) vb) (PE S X f s (.bool !r)) E s:=by
   intro xs h1 h2
   obtain ⟨p,vs,n,rfl,il,rs,_⟩:=vS L h1 rb
   cases h3:strs? xs with
   | none=>first | (rw [h3] at h2; exact zB h2) | simp [h3] at h2
   | some l=>rw [h3,Option.map_some,Option.some.injEq] at h2; subst h2; exact zDz il rs h3
  cases b with
  | str y =>
   obtain ⟨⟨u,rfl⟩,_⟩:=zt rb
   delta inV at e; dsimp only at e
   split at e
   ·rename_i c hc; cases e; exact zD0 hc
   ·first | exact zB e | exact zF e | cases e
  | parts=>obtain ⟨hh,rfl⟩:=rb; cases e; exact zB7 hp hh
  | tup xs=>exact gen rfl e
  | lst xs=>exact gen rfl e
  | ref k =>
   delta inV at e; dsimp only at e
   cases h1:xL J (.ref k) with
   | none=>first | (rw [h1] at e; exact zB e) | simp [h1] at e
   | some xs=>simp only [h1,Option.bind_some] at e; exact gen h1 e
  | _=>first | exact zB e | exact zF e | cases e
 | _=>first | exact zB e | exact zF e | cases e
theorem zBQ {y:Str} {i:Int} {t u:Tok} {k:Nat} {c:Nat} (hl:y.length <= LIM) (hok:PyData.strOk y=true) (h1:ze y.length i=some k) (h2:(zR y)[k]?=some c) :
  wpAny (model S.prog S.w) A (getItem (.str y t) (.int i u)) (PE S X f s (.str (mkS [c]))) E s:=by
 obtain ⟨g1,g2,g3,g4⟩:=vW h1
 have hll:=xa hl
 refine PyProof.Rows.getItem_str (c:=c) ?_ ?_ ?_
 ·obtain ⟨b1,b2⟩:=zCt hll g2 g3 g4
  rw [decide_eq_false (Int.not_lt.mpr b1),decide_eq_false (Int.not_le.mpr b2)]; rfl
 ·rw [g1]; simpa [zR] using h2
 ·have hc:c < 0x110000:=by
   have hm:c ∈ y.cps.toList:=List.mem_of_getElem? h2
   have:=Array.all_eq_true.mp hok
   obtain ⟨j,hj,rfl⟩:=List.getElem_of_mem hm
   have:=this j (by simpa using hj)
   simpa using this
  have:PyData.strOk (mkS [c])=true:=by simp [PyData.strOk,mkS,hc]
  exact PE.str (s:=s) (by simp [mkS,Str.length]; decide) this
theorem zEh {h:Heap} {i:Int} {x:V}:∀ {es:List (Int × V)} {kvs:List (Int × Value)},((es.find? fun p=>p.1==i).map fun p=>p.2)=some x->kvs.map (·.1)=es.map (·.1)->VRs S X f h (es.map (·.2)) (kvs.map (·.2))->∃ v,valueAt kvs i=some v /\ VR S X f h x v
 | [],_,e,_,_=>zB e
 | q :: qs,[],_,hk,_=>by cases hk
 | q :: qs,r :: rs,e,hk,hv=>by
  simp only [List.map_cons,List.cons.injEq] at hk
  rw [List.map_cons,List.map_cons] at hv
  rw [List.find?_cons] at e
  unfold valueAt
  rw [List.find?_cons,hk.1]
  by_cases hq:q.1=i
  ·rw [hq,beq_self_eq_true] at e
   rw [hq,decide_eq_true rfl]
   cases e
   exact ⟨_,rfl,hv.1⟩
  ·rw [beq_eq_false_iff_ne.mpr hq] at e
   rw [decide_eq_false hq]
   exact zEh e hk.2 hv.2
inductive zBn (J:Sto) (x:V):V->V->Prop
 | str (y:Str) (i:Int) (k c:Nat) (h4:ze y.length i=some k) (h5:(zR y)[k]?=some c) (ex:V.str (mkS [c])=x):zBn J x (.str y) (.int i)
 | seq (a:V) (xs:List V) (i:Int) (k:Nat) (h1:xL J a=some xs) (h4:ze xs.length i=some k) (h3:xs[k]?=some x):zBn J x a (.int i)
 | dict (n:Nat) (es:List (Int × V)) (i:Int) (ho:J[n]?=some (.dict es)) (h:((es.find? fun p=>p.1==i).map fun p=>p.2)=some x):zBn J x (.ref n) (.int i)
 | parts (y:Str) (h:((partsTable.find? fun p=>p.1==y).map fun p=>V.int p.2)=some x):zBn J x .parts (.str y)
theorem zLQ {J:Sto} {a x:V} {xs:List V} {i:Int} (h1:xL J a=some xs) (h:((ze xs.length i).bind fun k=>xs[k]?)=some x):zBn J x a (.int i):=by
 replace h:=bind_some h
 obtain ⟨k,h4,h3⟩:=h
 exact .seq a xs i k h1 h4 h3
theorem zRR {J:Sto} {n:Nat} {x:V} {i:Int} (e:ev2 .index J (.ref n) (.int i)=some x):zBn J x (.ref n) (.int i):=by
 delta ev2 at e; dsimp only at e
 cases ho:J[n]? with
 | none=>rw [ho] at e; exact zB e
 | some ob =>
  rw [ho] at e
  cases ob with
  | list xs=>exact zLQ (xs:=xs) (by delta xL; dsimp only; rw [ho]) e
  | dict es=>exact .dict n es i ho e
  | inst _=>first | exact zB e | exact zF e | cases e
theorem zOQ {J:Sto} {a b x:V} (e:ev2 .index J a b=some x):zBn J x a b:=by
 cases b with
 | int i =>
  cases a with
  | str y =>
   obtain ⟨k,h4,e⟩:=bind_some (show ((ze y.length i).bind fun k=>(zR y)[k]?.map fun c=>V.str (mkS [c]))=some x from e)
   replace e:=map_some e
   obtain ⟨c,h5,ex⟩:=e
   exact .str y i k c h4 h5 ex
  | ref n=>exact zRR e
  | tup xs=>exact zLQ rfl e
  | lst xs=>exact zLQ rfl e
  | _=>first | exact zB e | exact zF e | cases e
 | str y =>
  cases a with
  | parts=>exact .parts y e
  | _=>first | exact zB e | exact zF e | cases e
 | _=>cases a <;> exact zB e
theorem zE4 {a b x:V} {va vb:Value} (hp:ww S s.heap) (L:Lk S X f J s.heap) (e:ev2 .index J a b=some x) (ra:VR S X f s.heap a va) (rb:VR S X f s.heap b vb) :
  wpAny (model S.prog S.w) A (getItem va vb) (fun v s'=>Ext s s' /\ VR S X f s'.heap x v) E s:=by
 have q:=zOQ e
 clear e
 cases q with
 | str y i k c h4 h5 ex =>
  obtain ⟨⟨t,rfl⟩,l1,l2⟩:=zt ra
  obtain ⟨u,rfl⟩:=zr rb
  subst ex
  exact wpAny_mono (zBQ l1 l2 h4 h5) (fun v s' q=>⟨q.1,q.2.1⟩) fun _ _ q=>q
 | seq a xs i k h1 h4 h3 =>
  obtain ⟨u,rfl⟩:=zr rb
  obtain ⟨p,vs,n,rfl,il,rs,l⟩:=vS L h1 ra
  exact wpAny_mono (zEz il rs l h4 h3) (fun v s' q=>by obtain ⟨rfl,q⟩:=q; exact ⟨.refl _,q⟩) fun _ _ q=>q
 | dict n es i ho h =>
  obtain ⟨u,rfl⟩:=zr rb
  obtain ⟨l,hl,rfl⟩:=ra
  have ob:=L.obj n l _ hl ho
  obtain ⟨p,d⟩:=l
  cases d with
  | some d=>exact ob.elim
  | none =>
   obtain ⟨kvs,hd,hk,hv,hlen⟩:=ob
   obtain ⟨v,h1,h2⟩:=zEh h hk hv
   exact wpAny_getItem_of (knd:=intKind S.prog S.w) (k:=i) (by show Value.isInt i (.int i u)=true; simp [Value.isInt]) hd.dictOf.mapOf h1 ⟨.toks s _,h2⟩
 | parts y h =>
  obtain ⟨hh,rfl⟩:=ra
  obtain ⟨⟨u,rfl⟩,_⟩:=zt rb
  obtain ⟨d,g,h1,hd,hm,hg⟩:=hp hh
  obtain ⟨tk,hgx⟩:=hg y
  replace h:=map_some h
  obtain ⟨q,h2,rfl⟩:=h
  rw [h2] at hgx
  rw [h1]
  exact wpAny_getItem_of (knd:=strKind S.prog S.w) (k:=y) (by show Value.isStrOf y (.str y u)=true; simp [Value.isStrOf]) hm hgx ⟨.toks s _,⟨tk,rfl⟩⟩
end
end Mine
end

section
namespace Mine
open PySem PyProof.Rows Builtin Builtin.Str
theorem zCP (s:String):PyData.strOk (Str.ofString s)=true:=by
 rw [Str.ofString_eq_toList]
 unfold PyData.strOk
 rw [Array.all_eq_true']
 intro c hc
 simp only [List.mem_toArray,List.mem_map] at hc
 obtain ⟨ch,_,rfl⟩:=hc
 have:=ch.valid
 simp only [decide_eq_true_eq]
 rcases this with h | h
 ·have:ch.toNat < 55296:=h
  omega
 ·exact h.2
theorem zA7 {x:Str} (h:PyData.strOk x=true) (i j:Nat):PyData.strOk (strSub x i j)=true:=by
 unfold PyData.strOk at h ⊢
 rw [Array.all_eq_true'] at h ⊢
 intro c hc
 refine h c ?_
 replace hc:c ∈ x.cps.extract i j:=hc
 rw [Array.mem_extract_iff_getElem] at hc
 obtain ⟨k,hk,e⟩:=hc
 exact e ▸ Array.getElem_mem _
section
variable {S:zQ} {A:Around} {X:List Addr} {f:List Loc} {J:Sto} {s:Shared} {E:Value->Shared->Prop}
theorem zNP {n k m:Nat} (h:n < 10 ^ k) (hm:4 * k <= m):n < 2 ^ m:=
 Nat.lt_of_lt_of_le h (Nat.le_trans (Nat.pow_le_pow_left (by decide:10 <= 2 ^ 4) k) (by rw [<- Nat.pow_mul]; exact Nat.pow_le_pow_right (by decide) hm))
theorem zGU {m k:Nat} (hk:0 < k) (h:m+1 < 10 ^ k):(Str.ofString (toString (Int.negSucc m))).length <= k+1:=by
 have e:toString (Int.negSucc m)="-"++toString (((m+1:Nat)):Int):=rfl
 have h1:=toString_length_le (v:=((m+1:Nat):Int)) (Int.natCast_nonneg _) (k:=k) hk (by exact_mod_cast h)
 rw [e]
 rw [Str.ofString_eq_toList] at h1 ⊢
 show ((("-"++toString (((m+1:Nat)):Int)).toList.map Char.toNat).toArray).size <= k+1
 have h2:(((toString (((m+1:Nat)):Int)).toList.map Char.toNat).toArray).size <= k:=h1
 rw [List.size_toArray,List.length_map] at h2 ⊢
 rw [String.toList_append,List.length_append]
 show 1+_ <= k+1
 omega
theorem zGJ {i:Int} {k:Nat} (hk:0 < k) (h:i.natAbs < 10 ^ k):(Str.ofString (toString i)).length <= k+1:=by
 cases i with
 | ofNat m=>exact Nat.le_succ_of_le (toString_length_le (v:=(m:Int)) (Int.natCast_nonneg _) hk (by exact_mod_cast (show m < 10 ^ k from h)))
 | negSucc m=>exact zGU hk h
theorem zFh {a x:V} {va:Value} (e:ev1 .toStr J a=some x) (ra:VR S X f s.heap a va):wpAny (model S.prog S.w) A (call (.type "str") [va]) (PE S X f s x) E s:=by
 cases a with
 | int i =>
  obtain ⟨t,rfl⟩:=zr ra
  replace e:(if i.natAbs < 10 ^ 100 then some (V.str (Str.ofString (toString i))) else none)=some x:=e
  by_cases hi:i.natAbs < 10 ^ 100
  ·rw [if_pos hi] at e
   cases e
   refine PySem.P.str_of_int ?_ (.str ?_ (zCP _))
   ·by_cases h0:i.natAbs=0
    ·rw [h0]; decide
    ·rw [Nat.log2_lt h0]
     exact zNP (k:=100) hi (by decide)
   ·exact Nat.le_trans (zGJ (by decide) hi) (by decide)
  ·rw [if_neg hi] at e; exact zB e
 | _=>first | exact zB e | exact zF e | cases e
theorem zFb {h:Heap}:∀ {xs:List V} {vs:List Value} {l:List Str},VRs S X f h xs vs->strs? xs=some l->StrsAre vs l
 | [],[],l,_,e=>by cases e; exact .nil
 | x :: xs,v :: vs,l,r,e=>by
  unfold strs? at e
  rw [List.mapM_cons] at e
  cases x with
  | str y =>
   cases e2:xs.mapM strOf? with
   | none=>rw [e2] at e; cases e
   | some l' =>
    rw [e2] at e
    cases e
    obtain ⟨⟨t,rfl⟩,_⟩:=zt r.1
    exact .cons y t (zFb r.2 e2)
  | _=>first | exact zB e | exact zF e | cases e
 | [],_ :: _,_,r,_=>False.elim r
 | _ :: _,[],_,r,_=>False.elim r
theorem kR:PyData.strOk Str.empty=true:=by unfold PyData.strOk Str.empty; simp
theorem zCO {sep:Str} (hs:PyData.strOk sep=true):∀ {l:List Str},(∀ x ∈ l,PyData.strOk x=true)->PyData.strOk (Str.join sep l)=true
 | [],_=>kR
 | [x],h=>h x List.mem_cons_self
 | x :: y :: r,h=>by
  show PyData.strOk (x++sep++Str.join sep (y :: r))=true
  exact vH (vH (h x List.mem_cons_self) hs) (zCO hs fun z hz=>h z (List.mem_cons_of_mem _ hz))
theorem zHy {h:Heap}:∀ {xs:List V} {vs:List Value} {l:List Str},VRs S X f h xs vs->strs? xs=some l->∀ x ∈ l,PyData.strOk x=true
 | [],[],l,_,e=>by cases e; intro x hx; cases hx
 | x :: xs,v :: vs,l,r,e=>by
  unfold strs? at e
  rw [List.mapM_cons] at e
  cases x with
  | str y =>
   cases e2:xs.mapM strOf? with
   | none=>rw [e2] at e; cases e
   | some l' =>
    rw [e2] at e
    cases e
    obtain ⟨_,_,hk⟩:=zt r.1
    intro z hz
    rcases List.mem_cons.mp hz with rfl | hz
    ·exact hk
    ·exact zHy r.2 e2 z hz
  | _=>first | exact zB e | exact zF e | cases e
 | [],_ :: _,_,r,_=>False.elim r
 | _ :: _,[],_,r,_=>False.elim r
theorem zGM {a b x:V} {va vb:Value} (L:Lk S X f J s.heap) (e:ev2 .join J a b=some x) (ra:VR S X f s.heap a va) (rb:VR S X f s.heap b vb) :
  wpAny (model S.prog S.w) A (call (.builtin "str.join") [va,vb]) (PE S X f s x) E s:=by
 replace e:zLR J a b=some x:=e
 unfold zLR at e
 replace e:=bind_some e
 obtain ⟨sep,h1,e⟩:=e
 replace e:=bind_some e
 obtain ⟨xs,h2,e⟩:=e
 replace e:=bind_some e
 obtain ⟨l,h3,e⟩:=e
 split at e
 ·rename_i hl
  cases e
  cases a with
  | str y =>
   cases h1
   obtain ⟨⟨t,rfl⟩,_,hk⟩:=zt ra
   obtain ⟨p,vs,n,rfl,il,rs,_⟩:=yQ L h2 rb
   refine join_list (IsL.isList il) (zFb rs h3) (by omega) fun t' k=>.str ?_ ?_
   ·show (glued sep l).length <= LIM
    rw [StrLaws.glued_eq_join]
    have:=StrLaws.join_length_le sep l
    simp only [LIM]; omega
   ·show PyData.strOk (glued sep l)=true
    rw [StrLaws.glued_eq_join]
    exact zCO hk (zHy rs h3)
  | _=>first | exact zB h1 | exact zF h1 | cases h1
 ·first | exact zB e | exact zF e | cases e
theorem zFm {h:Heap} {n:Nat} (hn:n <= LIM):∀ (l:List Str) (t:Tok),(∀ x ∈ l,x.length <= n /\ PyData.strOk x=true)->VRs S X f h (l.map V.str) (strsFrom t l)
 | [],t,_=>by rw [List.map_nil]; show VRs _ _ _ _ [] []; exact True.intro
 | x :: l,t,hx=>by
  show VRs _ _ _ _ (V.str x :: l.map V.str) (.str x t :: strsFrom (t+1) l)
  have:=hx x List.mem_cons_self
  exact ⟨⟨⟨t,rfl⟩,Nat.le_trans this.1 hn,this.2⟩,zFm hn l (t+1) fun z hz=>hx z (List.mem_cons_of_mem _ hz)⟩
theorem zGq {x y a:Str} (hx:PyData.strOk x=true) (h:a ∈ Txt.split x y):PyData.strOk a=true:=by
 unfold Txt.split at h
 split at h
 ·rw [List.mem_singleton.mp h]; exact hx
 ·split at h
  ·rw [List.mem_singleton.mp h]; exact hx
  ·obtain ⟨p,_,rfl⟩:=List.mem_map.mp h
   exact zA7 hx _ _
theorem zBM {x y:Str}:(partsBetween x (occurrences x y 0 x.length (x.length+1)) y.length).length <= x.length+2:=by
 rw [length_partsBetween]
 have:=StrLaws.occ_length_le x y 0 x.length (x.length+1)
 omega
theorem zFY {a b x:V} {va vb:Value} (L:Lk S X f J s.heap) (e:ev2 .split J a b=some x) (ra:VR S X f s.heap a va) (rb:VR S X f s.heap b vb) :
  wpAny (model S.prog S.w) A (call (.builtin "str.split") [va,vb]) (PE S X f s x) E s:=by
 replace e:zGn a b=some x:=e
 unfold zGn at e
 replace e:=bind_some e
 obtain ⟨y,h1,e⟩:=e
 replace e:=bind_some e
 obtain ⟨z,h2,e⟩:=e
 split at e
 ·first | exact zB e | exact zF e | cases e
 rename_i hc
 simp only [Bool.or_eq_true,not_or,Bool.not_eq_true,decide_eq_true_eq] at hc
 obtain ⟨hz,hl⟩:=hc
 cases e
 cases a <;> cases h1
 cases b <;> cases h2
 obtain ⟨⟨t,rfl⟩,_,hk⟩:=zt ra
 obtain ⟨⟨u,rfl⟩,_⟩:=zt rb
 have hyl:y.length <= 10000:=by omega
 have hL:(10000:Nat) <= LIM:=by decide
 have hS:(10002:Nat) <= sizeLine:=by decide
 have hlen:∀ p ∈ Txt.split y z,p.length <= 10000 /\ PyData.strOk p=true:=fun p hp=>⟨Nat.le_trans (part_short hp) hyl,zGq hk hp⟩
 have self:VRs S X f s.heap [V.str y] [.str y t]:=⟨ra,trivial⟩
 cases h1:(decide (y.length < z.length)||decide (strKind y < strKind z))
 ·cases hf:(occurrences y z 0 y.length (y.length+1)).isEmpty
  ·have hT:Txt.split y z=partsBetween y (occurrences y z 0 y.length (y.length+1)) z.length:=by unfold Txt.split; rw [if_neg (by rw [h1]; simp),if_neg (by rw [hf]; simp)]
   refine call_meets F.slot_str_split (typeIs_str _ _ _) F.entry_str_split (F.args_str_split_2 _ _) (meets_str_split_sep y z t u h1 hz hf (by omega) (Nat.le_trans zBM (by omega))) ?_
   rw [<- hT]
   have hn:(Txt.split y z).length <= LIM:=by rw [hT]; exact Nat.le_trans zBM (by simp only [LIM]; omega)
   exact wE (tk:=s.toks+(Txt.split y z).length) L (zFm hL _ _ hlen) (by simpa using hn)
  ·have hT:Txt.split y z=[y]:=by unfold Txt.split; rw [if_neg (by rw [h1]; simp),if_pos hf]
   rw [hT]
   exact call_meets F.slot_str_split (typeIs_str _ _ _) F.entry_str_split (F.args_str_split_2 _ _) (meets_str_split_not_found y z t u h1 hz hf) (wE (tk:=s.toks) L self (by show 1 <= LIM; decide))
 ·have hT:Txt.split y z=[y]:=by unfold Txt.split; rw [if_pos h1]
  rw [hT]
  exact call_meets F.slot_str_split (typeIs_str _ _ _) F.entry_str_split (F.args_str_split_2 _ _) (meets_str_split_cannot_occur y z t u h1) (wE (tk:=s.toks) L self (by show 1 <= LIM; decide))
theorem zFZ {a b x:V} {va vb:Value} (e:ev2 .startswith J a b=some x) (ra:VR S X f s.heap a va) (rb:VR S X f s.heap b vb) :
  wpAny (model S.prog S.w) A (call (.builtin "str.startswith") [va,vb]) (PE S X f s x) E s:=by
 replace e:zGp a b=some x:=e
 unfold zGp at e
 replace e:=bind_some e
 obtain ⟨y,h1,e⟩:=e
 replace e:=map_some e
 obtain ⟨z,h2,rfl⟩:=e
 cases a <;> cases h1
 cases b <;> cases h2
 obtain ⟨⟨t,rfl⟩,-⟩:=zt ra
 obtain ⟨⟨u,rfl⟩,-⟩:=zt rb
 exact PySem.SC.startswith .bool0
theorem zGd {a b x:V} {va vb:Value} (L:Lk S X f J s.heap) (e:ev2 .partition J a b=some x) (ra:VR S X f s.heap a va) (rb:VR S X f s.heap b vb) :
  wpAny (model S.prog S.w) A (call (.builtin "str.partition") [va,vb]) (PE S X f s x) E s:=by
 replace e:zL3 a b=some x:=e
 unfold zL3 at e
 replace e:=bind_some e
 obtain ⟨y,h1,e⟩:=e
 replace e:=bind_some e
 obtain ⟨z,h2,e⟩:=e
 split at e
 ·first | exact zB e | exact zF e | cases e
 rename_i hc
 simp only [Bool.or_eq_true,not_or,Bool.not_eq_true,decide_eq_true_eq] at hc
 obtain ⟨hz,hl⟩:=hc
 cases e
 cases a <;> cases h1
 cases b <;> cases h2
 obtain ⟨⟨t,rfl⟩,ly,hk⟩:=zt ra
 obtain ⟨⟨u,rfl⟩,lz,hkz⟩:=zt rb
 have hS:(10002:Nat) <= sizeLine:=by decide
 refine call_meets F.slot_str_partition (typeIs_str _ _ _) F.entry_str_partition (F.args_str_partition_2 _ _) (meets_str_partition y z t u hz (by omega)) ?_
 have vs:∀ (w:Str) (tk:Tok),w.length <= LIM->PyData.strOk w=true->VR S X f s.heap (.str w) (.str w tk):=fun w tk h1 h2=>⟨⟨tk,rfl⟩,h1,h2⟩
 unfold Txt.partition
 cases occurrences y z 0 y.length 1 with
 | nil =>
  refine wl (tk:=s.toks+1) L ?_ (by show 3 <= LIM; decide)
  exact ⟨ra,vs Str.empty _ (by show 0 <= LIM; decide) kR,vs Str.empty _ (by show 0 <= LIM; decide) kR,trivial⟩
 | cons i r =>
  refine wl (tk:=s.toks+1+1) L ?_ (by show 3 <= LIM; decide)
  exact ⟨vs _ _ (Nat.le_trans (strSub_length_le _ _ _) ly) (zA7 hk _ _),rb,vs _ _ (Nat.le_trans (strSub_length_le _ _ _) ly) (zA7 hk _ _),trivial⟩
end
end Mine
end

section
namespace Mine
open PySem PyProof.Rows
section
variable {M:Model} {A:Around} {E:Value->Shared->Prop} {s:Shared} {env:Env}
theorem wS {x:Str} {mg:Str->Option Value} {v:Value} {Q:Value->Shared->Prop} (hk:env.scope.kind=.function) (hl:env.kindOf x=some .globalImplicit) (hg:s.heap.Ns env.globals mg) (hv:mg x=some v) (h:Q v s) :
  wpAny M A (loadName env x) Q E s:=by
 unfold loadName
 simp only [Env.blockKind,hk,hl,ScopeKind.isAnnotationScope,Bool.false_and,Bool.false_eq_true,if_false]
 unfold loadGlobal
 refine wpAny_bind (wpAny_nsGet hg ?_)
 rw [hv]
 exact wpAny_pure h
theorem jg {x:Str} {mg mb:Str->Option Value} {v:Value} {Q:Value->Shared->Prop} (hk:env.scope.kind=.function) (hl:env.kindOf x=some .globalImplicit) (hg:s.heap.Ns env.globals mg) (hn:mg x=none)
  (hb:s.heap.Ns env.builtins mb) (hv:mb x=some v) (h:Q v s):wpAny M A (loadName env x) Q E s:=by
 unfold loadName
 simp only [Env.blockKind,hk,hl,ScopeKind.isAnnotationScope,Bool.false_and,Bool.false_eq_true,if_false]
 unfold loadGlobal
 refine wpAny_bind (wpAny_nsGet hg ?_)
 rw [hn]
 refine wpAny_bind (wpAny_nsGet hb ?_)
 rw [hv]
 exact wpAny_pure h
noncomputable def zBl (s:Shared) (f:Value):Prop:=(∀ a,f ≠ .ref a) \/ ∃ a o fd,f=.ref a /\ s.heap.get? a=some o /\ o.data=.func fd
theorem zIc {f:Value} {Q:Keeper->Shared->Prop} (hc:zBl s f) (h:∀ k,(k=.machine \/ k=.frame)->Q k s):wpAny M A (keeperOf f) Q E s:=by
 unfold keeperOf
 rcases hc with hc | ⟨a,o,fd,rfl,ho,hd⟩
 ·cases f with
  | ref a=>exact absurd rfl (hc a)
  | _=>exact wpAny_pure (h _ (.inl rfl))
 ·refine wpAny_bind (wpAny_load ho ?_)
  rw [hd]
  exact wpAny_pure (h _ (.inr rfl))
theorem yH {e:Expr} {r:List Expr} (h:isStar e=false):starEach (e :: r) env=(false,eval e env) :: starEach r env:=by
 cases e <;> first | rfl | exact zF h.symm
theorem zq {pos:Pos} (args:List Expr) (h:args.any isStar=false):(backTo pos (starEach args env)).any (·.1)=false:=by
 induction args with
 | nil=>rfl
 | cons e r ih =>
  have h1:=Bool.or_eq_false_iff.mp ((List.any_cons).symm.trans h)
  rw [yH h1.1]
  exact ih h1.2
theorem vJ {f:Value} {trees:List (Bool × Sem Value)} {Q:Args->Shared->Prop} (hn:trees.any (·.1)=false)
  (h:wpAny M A (spliced trees) (fun vs s'=>Q ⟨vs,[]⟩ s') E s):wpAny M A (evalArgs f true trees []) Q E s:=by
 cases trees with
 | nil=>exact fun Γ p hΓ=>(PyProof.Rows.evalArgs_none (show Q ⟨[],[]⟩ s from h Γ p hΓ)) Γ p hΓ
 | cons t r =>
  obtain ⟨b,x⟩:=t
  have hb:b=false:=by simp only [List.any_cons,Bool.or_eq_false_iff] at hn; exact hn.1
  subst hb
  exact Calls.evalArgs_plain h
theorem ye {pos:Pos} {f:Value} {first:List Value} {trees:List (Bool × Sem Value)} {Q:Value->Shared->Prop} (hn:trees.any (·.1)=false)
  (h:wpAny M A (spliced trees) (fun vs s₁=>zBl s₁ f /\ wpAny M A (call f (first++vs) []) Q E s₁) E s):wpAny M A (callWith pos f first trees []) Q E s:=by
 delta callWith
 refine wpAny_bind (wpAny_holding (vJ hn (wpAny_mono h (fun vs s₁ h₁=>?_) fun _ _ q=>q)))
 refine wpAny_bind (wpAny_standAt ?_)
 have hb:(trees.any (·.1)||([]:List (Option Str × Sem Value)).any (·.1.isNone))=false:=by rw [hn]; rfl
 have fin:wpAny M A (call f (first++vs) []) (fun r s'=>wpAny M A (do holding [r] point; pure r) Q E s') E s₁:=wpAny_mono h₁.2 (fun r s' q=>wpAny_bind (wpAny_holding (wpAny_point (wpAny_pure q)))) fun _ _ q=>q
 refine wpAny_bind (zIc h₁.1 fun k hk=>?_)
 rw [hb]
 rcases hk with rfl | rfl
 ·exact wpAny_bind fin
 ·show wpAny M A (if trees.length+2 * 0 > 30 then (call f (first++vs) [] >>= fun r=>do holding [r] point; pure r) else (callMarked plainCall f (first++vs) [] >>= fun r=>do holding [r] point; pure r)) Q E s₁
  split
  ·exact wpAny_bind fin
  ·exact wpAny_bind (Calls.wpAny_keep fin)
theorem wx {o:Expr} {name:Str} (h:noSuper o=true):attributeBase o name env (eval o env)=eval o env:=by
 cases o with
 | Call fn args kws pos =>
  cases fn with
  | Name id p =>
   cases args with
   | nil =>
    cases kws with
    | nil=>first | exact zB h | exact zF h | cases h
    | cons _ _=>rfl
   | cons _ _=>rfl
  | _=>rfl
 | _=>rfl
end
end Mine
end

section
namespace Mine
open PySem PyProof.Rows
section
variable {S:zQ} {X Y:List Addr} {f g:List Loc} {J:Sto} {s s':Shared}
theorem zLf {f:List Loc} (h:(addrs f).Nodup) {i j:Nat} {l l':Loc} (hi:f[i]?=some l) (hj:f[j]?=some l') (hne:i ≠ j):∀ a ∈ l.addrs,a ∉ l'.addrs:=by
 induction f generalizing i j with
 | nil=>simp at hi
 | cons x f ih =>
  have h1:(x.addrs++addrs f).Nodup:=by simpa [addrs] using h
  obtain ⟨_,h2,h3⟩:=List.nodup_append.mp h1
  cases i with
  | zero =>
   cases j with
   | zero=>exact absurd rfl hne
   | succ j =>
    simp at hi hj
    subst hi
    intro a ha hb
    exact h3 a ha a (yD hj hb) rfl
  | succ i =>
   cases j with
   | zero =>
    simp at hi hj
    subst hj
    intro a ha hb
    exact h3 a hb a (yD hi ha) rfl
   | succ j =>
    simp at hi hj
    exact ih h2 hi hj fun e=>hne (congrArg (· + 1) e)
theorem Lk.upd {n:Nat} {l:Loc} {o':O} {h':Heap} (L:Lk S X f J s.heap) (hn:f[n]?=some l) (hs:∀ b o,b ∉ l.addrs->s.heap.get? b=some o->h'.get? b=some o) (ho:OR S X f h' l o'):Lk S X f (J.set n o') h':=by
 have nb:∀ b o,b ∉ addrs f->s.heap.get? b=some o->h'.get? b=some o:=fun b o hb=>hs b o fun q=>hb (yD hn q)
 have kv:∀ x v,VR S X f s.heap x v->VR S X f h' x v:=VR.keep (fun _ _ e=>e) fun a o q h1 h2=>⟨⟨h1,h2⟩,o,nb a o h1 q,.refl o⟩
 have kvs:∀ x v,VRs S X f s.heap x v->VRs S X f h' x v:=VRs.keep (fun _ _ e=>e) fun a o q h1 h2=>⟨⟨h1,h2⟩,o,nb a o h1 q,.refl o⟩
 refine ⟨fun b o e=>?_,by rw [List.length_set]; exact L.len,L.nodup,L.fresh,fun a ha=>?_,fun i l' o hi hoo=>?_⟩
 ·exact nb b o (fun q=>by rw [L.fresh b q] at e; cases e) (L.base b o e)
 ·obtain ⟨h1,h2,o,h3⟩:=L.hid a ha
  exact ⟨h1,h2,o,nb a o h2 h3⟩
 ·by_cases hin:i=n
  ·subst hin
   rw [hn] at hi; cases hi
   have hlt:i < J.length:=L.len ▸ (List.getElem?_eq_some_iff.mp hn).1
   rw [List.getElem?_set_self hlt] at hoo
   cases hoo
   exact ho
  ·rw [List.getElem?_set_ne (fun q=>hin q.symm)] at hoo
   refine (L.obj i l' o hi hoo).keep kv kvs fun a ha=>?_
   obtain ⟨ob,e⟩:=(L.obj i l' o hi hoo).live a ha
   rw [e,hs a ob (fun q=>zLf L.nodup hi hn hin a ha q) e]
theorem Kp.upd {n:Nat} {l:Loc} {h':Heap} {t:Nat} (hn:f[n]?=some l) (hs:∀ b o,b ∉ l.addrs->s.heap.get? b=some o->h'.get? b=some o) (hl:∀ a ∈ l.addrs,∃ o,h'.get? a=some o):Kp f Y s { s with heap:=h',toks:=t }:=by
 have nb:∀ b o,b ∉ addrs f->s.heap.get? b=some o->h'.get? b=some o:=fun b o hb=>hs b o fun q=>hb (yD hn q)
 refine ⟨rfl,fun a o e=>?_,fun a o e h1 _=>⟨o,nb a o h1 e,.refl o⟩,fun a o es k e d h1=>⟨o,es,k,nb a o h1 e,d⟩⟩
 by_cases ha:a ∈ l.addrs
 ·exact hl a ha
 ·exact ⟨o,hs a o ha e⟩
theorem Lk.track {l:Loc} {o:O} {h:Heap} (L:Lk S (l.addrs++X) f J h) (hnd:l.addrs.Nodup) (hX:∀ a ∈ l.addrs,a ∉ X) (ho:OR S X (f++[l]) h l o):Lk S X (f++[l]) (J++[o]) h:=by
 have hdis:∀ a ∈ l.addrs,a ∉ addrs f:=fun a ha=>(L.hid a (List.mem_append_left _ ha)).2.1
 have hl:addrs [l]=l.addrs:=by simp [addrs]
 have kf:∀ (i:Nat) (l':Loc),f[i]?=some l'->(f++[l])[i]?=some l':=fun i l' e=>List.getElem?_append_left (List.getElem?_eq_some_iff.mp e).1 ▸ e
 have kh:∀ a ob,h.get? a=some ob->a ∉ addrs f->a ∉ l.addrs++X->(a ∉ addrs (f++[l]) /\ a ∉ X) /\ ∃ o',h.get? a=some o' /\ SameObj ob o':=fun a ob q h1 h2 =>
  ⟨⟨fun h3=>(mem_addrs_append.mp h3).elim h1 fun h4=>h2 (List.mem_append_left _ (hl ▸ h4)),fun h3=>h2 (List.mem_append_right _ h3)⟩,ob,q,.refl ob⟩
 refine ⟨L.base,by simp [L.len],?_,fun a ha=>?_,fun a ha=>?_,fun i l' o' hi ho'=>?_⟩
 ·rw [jU,hl]
  exact List.nodup_append.mpr ⟨L.nodup,hnd,fun a ha b hb e=>hdis b hb (e ▸ ha)⟩
 ·rcases mem_addrs_append.mp ha with ha | ha
  ·exact L.fresh a ha
  ·exact (L.hid a (List.mem_append_left _ (hl ▸ ha))).1
 ·obtain ⟨h1,h2,h3⟩:=L.hid a (List.mem_append_right _ ha)
  exact ⟨h1,fun q=>(mem_addrs_append.mp q).elim h2 fun q=>hX a (hl ▸ q) ha,h3⟩
 ·by_cases hlt:i < f.length
  ·rw [List.getElem?_append_left hlt] at hi
   rw [List.getElem?_append_left (L.len ▸ hlt)] at ho'
   exact (L.obj i l' o' hi ho').keep (VR.keep kf kh) (VRs.keep kf kh) fun _ _=>rfl
  ·have hi':i=f.length:=by
    have:=(List.getElem?_eq_some_iff.mp hi).1
    simp at this; omega
   subst hi'
   rw [List.getElem?_append_right (Nat.le_refl _)] at hi
   rw [L.len,List.getElem?_append_right (Nat.le_refl _)] at ho'
   simp at hi ho'
   subst hi ho'
   exact ho
theorem Lk.hideNew {a:Addr} (L:Lk S X f J s.heap) (e:Ext s s') (hn:s.heap.get? a=none) {o:Obj} (hl:s'.heap.get? a=some o):Lk S (a :: X) f J s'.heap:=by
 have hb:S.hb.get? a=none:=by
  cases q:S.hb.get? a with
  | none=>rfl
  | some o=>rw [L.base a o q] at hn; first | exact zB hn | exact zF hn | cases hn
 have kv:∀ x v,VR S X f s.heap x v->VR S (a :: X) f s'.heap x v:=VR.keep (fun _ _ e=>e) fun b ob q h1 h2 =>
  ⟨⟨h1,fun h=>(List.mem_cons.mp h).elim (fun h=>by subst h; rw [hn] at q; cases q) h2⟩,ob,e.keep b ob q,.refl ob⟩
 have kvs:∀ x v,VRs S X f s.heap x v->VRs S (a :: X) f s'.heap x v:=VRs.keep (fun _ _ e=>e) fun b ob q h1 h2 =>
  ⟨⟨h1,fun h=>(List.mem_cons.mp h).elim (fun h=>by subst h; rw [hn] at q; cases q) h2⟩,ob,e.keep b ob q,.refl ob⟩
 have L':=e.lk L
 refine ⟨L'.base,L'.len,L'.nodup,L'.fresh,fun b hb'=>?_,fun i l ob hi ho=>(L.obj i l ob hi ho).keep kv kvs fun b hb'=>?_⟩
 ·rcases List.mem_cons.mp hb' with rfl | hb'
  ·exact ⟨hb,(L.new hn).1,o,hl⟩
  ·exact L'.hid b hb'
 ·obtain ⟨ob',q⟩:=L.live (yD hi hb')
  rw [q]; exact e.keep b ob' q
theorem VRs.hideNew {a:Addr} (e:Ext s s') (hn:s.heap.get? a=none) {xs:List V} {vs:List Value} (r:VRs S X f s.heap xs vs):VRs S (a :: X) f s'.heap xs vs:=
 VRs.keep (fun _ _ e=>e) (fun b ob q h1 h2=>⟨⟨h1,fun h=>(List.mem_cons.mp h).elim (fun h=>by subst h; rw [hn] at q; cases q) h2⟩,ob,e.keep b ob q,.refl ob⟩) xs vs r
theorem Lk.less {X':List Addr} {h:Heap} (L:Lk S X f J h) (hX:∀ a ∈ X',a ∈ X):Lk S X' f J h:=
 ⟨L.base,L.len,L.nodup,L.fresh,fun a ha=>L.hid a (hX a ha),fun i l o hi ho=>(L.obj i l o hi ho).keep (fun _ _=>VR.less hX) (fun _ _=>VRs.less hX) fun _ _=>rfl⟩
theorem Lk.enter {X N:List Addr} {f:List Loc} {J:Sto} {s s₁:Shared} (L:Lk S X f J s.heap) (hk:∀ b o,s.heap.get? b=some o->s₁.heap.get? b=some o)
  (hN:∀ a ∈ N,s.heap.get? a=none /\ ∃ o,s₁.heap.get? a=some o):Lk S (N++X) f J s₁.heap:=by
 have kv:∀ x v,VR S X f s.heap x v->VR S (N++X) f s₁.heap x v:=fun x v e =>
  VR.keep (fun _ _ e=>e) (fun a o ho h1 h2=>⟨⟨h1,fun h=>(List.mem_append.mp h).elim (fun h=>by rw [(hN a h).1] at ho; cases ho) h2⟩,o,hk a o ho,.refl o⟩) x v e
 have kvs:∀ x v,VRs S X f s.heap x v->VRs S (N++X) f s₁.heap x v:=fun x v e =>
  VRs.keep (fun _ _ e=>e) (fun a o ho h1 h2=>⟨⟨h1,fun h=>(List.mem_append.mp h).elim (fun h=>by rw [(hN a h).1] at ho; cases ho) h2⟩,o,hk a o ho,.refl o⟩) x v e
 refine ⟨fun b o h=>hk b o (L.base b o h),L.len,L.nodup,L.fresh,fun a ha=>?_,fun i l o hi ho=>(L.obj i l o hi ho).keep kv kvs fun a ha=>?_⟩
 ·rcases List.mem_append.mp ha with h | h
  ·refine ⟨?_,fun hf=>?_,(hN a h).2⟩
   ·cases e:S.hb.get? a with
    | none=>rfl
    | some o=>have:=L.base a o e; rw [(hN a h).1] at this; cases this
   ·obtain ⟨o,e⟩:=L.live hf; rw [(hN a h).1] at e; cases e
  ·obtain ⟨h1,h2,o,h3⟩:=L.hid a h
   exact ⟨h1,h2,o,hk a o h3⟩
 ·obtain ⟨o',e⟩:=(L.obj i l o hi ho).live a ha
  rw [e,hk a o' e]
theorem ExcR.less {X':List Addr} {h h₀:Heap} {ea:Addr} {k:Cls} (e:ExcR S X f J h h₀ ea k) (hX:∀ a ∈ X',a ∈ X):ExcR S X' f J h h₀ ea k:=by
 obtain ⟨e1,ec,hs,oe,vs,L,e4,e5,e6,e8⟩:=e
 exact ⟨e1,ec,hs,oe,vs,L.less fun a ha=>(List.mem_append.mp ha).elim (fun h=>List.mem_append_left _ h) fun h=>List.mem_append_right _ (hX a h),e4,e5,e6,e8⟩
inductive zRu (S:zQ) (X:List Addr) (f:List Loc) (J:Sto) (s s':Shared) (xs:List V) (v:Value):Prop where
 | mk (a:Addr) (vs:Array Value) (n:Nat) (e:v=.ref a) (hn:s.heap.get? a=none) (hX:a ∉ X) (L:Lk S (a :: X) f J s'.heap) (il:IsL s'.heap a vs n) (rs:VRs S (a :: X) f s'.heap xs vs.toList) (hl:xs.length <= LIM)
inductive QN (S:zQ) (X Y:List Addr) (f:List Loc) (s:Shared) (r:R V) (v:Value) (s':Shared):Prop where
 | mk (x:V) (J':Sto) (g:List Loc) (e:r=.ok x J') (hg:Fresh g s) (k:Kp f Y s s') (L:Lk S X (f++g) J' s'.heap) (p:VR S X (f++g) s'.heap x v) (hl:∀ xs,x=.lst xs->zRu S X (f++g) J' s s' xs v)
theorem QN.qs {r:R V} {v:Value} (q:QN S X Y f s r v s'):QS S X Y f (PV S X) s r v s':=by
 obtain ⟨x,J',g,e,hg,k,L,p,_⟩:=q
 exact ⟨x,J',g,e,hg,k,L,p⟩
theorem QN.trk {r:R V} {v:Value} (hne:(r.bind fun v J=>zEj J v) ≠ .stuck) (q:QN S X Y f s r v s'):QS S X Y f (PV S X) s (r.bind fun v J=>zEj J v) v s':=by
 obtain ⟨x,J',g,rfl,hg,k,L,p,hl⟩:=q
 cases x with
 | lst xs =>
  obtain ⟨a,vs,n,rfl,hn,hX,L',il,r,hlen⟩:=hl xs rfl
  refine ⟨.ref J'.length,J'++[.list xs],g++[(a,none)],rfl,?_,k,?_,?_⟩
  ·intro b hb
   rcases mem_addrs_append.mp hb with hb | hb
   ·exact hg b hb
   ·have:b=a:=by simpa [addrs,Loc.addrs] using hb
    rw [this]; exact hn
  ·rw [<- List.append_assoc]
   refine Lk.track (l:=(a,none)) (X:=X) L' (by simp [Loc.addrs]) (fun b hb=>by rw [show b=a by simpa [Loc.addrs] using hb]; exact hX) ⟨vs,n,il,?_,hlen⟩
   refine VRs.keep (fun i l' e=>List.getElem?_append_left (List.getElem?_eq_some_iff.mp e).1 ▸ e) (fun b ob q h1 h2=>⟨⟨fun h3=>?_,fun h3=>h2 (List.mem_cons_of_mem _ h3)⟩,ob,q,.refl ob⟩) xs vs.toList r
   rcases mem_addrs_append.mp h3 with h3 | h3
   ·exact h1 h3
   ·have:b=a:=by simpa [addrs,Loc.addrs] using h3
    exact h2 (this ▸ List.mem_cons_self)
  ·show VR S X (f++(g++[(a,none)])) s'.heap (.ref J'.length) (.ref a)
   refine ⟨(a,none),?_,rfl⟩
   rw [<- List.append_assoc,<- L.len,List.getElem?_append_right (Nat.le_refl _)]
   simp
 | _=>exact absurd rfl hne
theorem PE.qn {s₁:Shared} {x:V} {v:Value} (hg:Fresh g s) (k:Kp f Y s s₁) (L:Lk S X (f++g) J s₁.heap) (p:PE S X (f++g) s₁ x v s'):QN S X Y f s (.ok x J) v s':=by
 obtain ⟨e,r,hl⟩:=p
 refine ⟨x,J,g,rfl,hg,k.trans hg (e.kp _ _),e.lk L,r,fun xs hx=>?_⟩
 obtain ⟨a,vs,n,e1,e2,e3,e4,e5⟩:=hl xs hx
 refine ⟨a,vs,n,e1,zo k.live e2,(L.new e2).2,L.hideNew e e2 e3,e3,?_,e5⟩
 exact VRs.hideNew e e2 e4
end
end Mine
end

section
namespace Mine
open PySem PyProof.Rows
noncomputable def yh (k:Option NameKind):Prop:=k=some .cell \/ k=some .free
noncomputable def NameIs (env:Env) (h:Heap) (x:Str) (w:Value):Prop:=
 (env.kindOf x=some .local /\ ∃ m,h.Ns env.locals m /\ m x=some w) \/ (yh (env.kindOf x) /\ ∃ c,env.cells.lookup x=some c /\ h.IsCell c (some w))
structure FR (S:zQ) (X:List Addr) (f:List Loc) (h:Heap) (env:Env) (Γ:List Str) (sc:Scope) (H:List V):Prop where
 kind:env.scope.kind=.function
 glob:env.globals=mainGlobals
 blt:env.builtins=builtinsNs
 names:∀ x,env.kindOf x=sc.names.lookup x \/ (sc.names.lookup x=some .free /\ env.kindOf x=some .cell)
 loc:env.locals ∈ X /\ ∃ m,h.Ns env.locals m
 cells:∀ x,yh (env.kindOf x)->∃ c o,env.cells.lookup x=some c /\ c ∈ X /\ h.IsCell c o
 vals:∀ x i v,zBH sc x=true->yB x Γ=some i->H[i]?=some v->v ≠ .undef->∃ w,NameIs env h x w /\ VR S X f h v w
 len:H.length=Γ.length
noncomputable def FrL (S:zQ) (f:List Loc) (h:Heap) (l:List Env):Prop:=
 ∀ e ∈ l,e.scope.kind ≠ .module /\ ∃ L o es n,e.frame=some L /\ S.hb.get? L=none /\ L ∉ addrs f /\ h.get? L=some o /\ o.data=.dict es n
structure Cx (S:zQ) (A:Around) (q:Bool) (d:Nat) (f:List Loc) (h:Heap) (fr:Option Addr):Prop where
 depth:A.depth+2 * d+3 <= 900
 units:A.units+5 * d+202 <= 9900
 hand:q=false->A.handled=none
 frs:∃ e0 l,A.frames=some (e0 :: l) /\ e0.frame=fr /\ FrL S f h (e0 :: l)
structure CxC (S:zQ) (A:Around) (q:Bool) (d:Nat) (f:List Loc) (h:Heap):Prop where
 depth:A.depth+2 * d+2 <= 900
 units:A.units+5 * d+200 <= 9900
 hand:q=false->A.handled=none
 frs:∃ l,A.frames=some l /\ FrL S f h l
theorem Cx.call {S:zQ} {A:Around} {q:Bool} {d:Nat} {f:List Loc} {h:Heap} {fr:Option Addr} (c:Cx S A q d f h fr):CxC S A q d f h:=
 ⟨Nat.le_of_succ_le c.depth,Nat.le_trans (Nat.add_le_add_left (by decide) _) c.units,c.hand,let ⟨e0,l,h1,_,h3⟩:=c.frs; ⟨e0 :: l,h1,h3⟩⟩
section
variable {S:zQ} {A:Around} {X Y:List Addr} {f g:List Loc} {s s':Shared} {env:Env} {Γ:List Str} {sc:Scope} {H:List V} {q:Bool} {d:Nat} {fr:Option Addr}
theorem zCv {a:Addr} {m:Str->Option Value} (k:Kp f Y s s') (hf:a ∉ addrs f) (hY:a ∉ Y) (h:s.heap.Ns a m):s'.heap.Ns a m:=by
 obtain ⟨o,es,ep,ho,hd,r⟩:=h
 obtain ⟨o',ho',e⟩:=k.kept a o ho hf hY
 exact ⟨o',es,ep,ho',e.data.trans hd,r⟩
theorem zD4 {a:Addr} {m:Option Value} (k:Kp f Y s s') (hf:a ∉ addrs f) (hY:a ∉ Y) (h:s.heap.IsCell a m):s'.heap.IsCell a m:=by
 obtain ⟨o,ho,hd⟩:=h
 obtain ⟨o',ho',e⟩:=k.kept a o ho hf hY
 exact ⟨o',ho',e.data.trans hd⟩
theorem NameIs.keep {x:Str} {w:Value} (k:Kp f Y s s') (hl:env.locals ∉ addrs f /\ env.locals ∉ Y) (hc:∀ x c,env.cells.lookup x=some c->yh (env.kindOf x)->c ∉ addrs f /\ c ∉ Y) (h:NameIs env s.heap x w):NameIs env s'.heap x w:=by
 rcases h with ⟨h1,m,h2,h3⟩ | ⟨h1,c,h2,h3⟩
 ·exact .inl ⟨h1,m,zCv k hl.1 hl.2 h2,h3⟩
 ·exact .inr ⟨h1,c,h2,zD4 k (hc x c h2 h1).1 (hc x c h2 h1).2 h3⟩
theorem FR.keep {J:Sto} (F:FR S X f s.heap env Γ sc H) (L:Lk S X f J s.heap) (k:Kp f [] s s') (hg:Fresh g s):FR S X (f++g) s'.heap env Γ sc H:=by
 have hl:env.locals ∉ addrs f:=(L.hid _ F.loc.1).2.1
 have hc:∀ x c,env.cells.lookup x=some c->yh (env.kindOf x)->c ∉ addrs f:=fun x c e hk=>by
  obtain ⟨c',o,e',hX,_⟩:=F.cells x hk
  rw [e] at e'; cases e'
  exact (L.hid c hX).2.1
 refine ⟨F.kind,F.glob,F.blt,F.names,⟨F.loc.1,let ⟨m,h⟩:=F.loc.2; ⟨m,zCv k hl (by simp) h⟩⟩,fun x hx=>?_,fun x i v h1 h2 h3 h4=>?_,F.len⟩
 ·obtain ⟨c,o,e,hX,h⟩:=F.cells x hx
  exact ⟨c,o,e,hX,zD4 k (hc x c e hx) (by simp) h⟩
 ·obtain ⟨w,h5,h6⟩:=F.vals x i v h1 h2 h3 h4
  exact ⟨w,h5.keep k ⟨hl,by simp⟩ fun x c e hk=>⟨hc x c e hk,by simp⟩,h6.keepK k hg fun a ha=>nomatch ha⟩
theorem FrL.keep {l:List Env} (F:FrL S f s.heap l) (k:Kp f Y s s') (hg:Fresh g s):FrL S (f++g) s'.heap l:=fun e he=>by
 obtain ⟨h1,L,o,es,n,h2,h3,h4,h5,h6⟩:=F e he
 obtain ⟨o',es',n',h7,h8⟩:=k.dicts L o es n h5 h6 h4
 exact ⟨h1,L,o',es',n',h2,h3,fun h=>(mem_addrs_append.mp h).elim h4 (yT hg h5),h7,h8⟩
theorem Cx.keep (c:Cx S A q d f s.heap fr) (k:Kp f Y s s') (hg:Fresh g s):Cx S A q d (f++g) s'.heap fr:=
 ⟨c.depth,c.units,c.hand,let ⟨e0,l,h1,h2,h3⟩:=c.frs; ⟨e0,l,h1,h2,h3.keep k hg⟩⟩
end
inductive zDl (S:zQ) (C:Ctx):Prop where
 | mk (N:Addr) (mN:Str->Option Value) (nm q:Str) (bs:List Value) (sn:List Str) (sub:List Value) (col:Option Bool) (dd:Option Addr) (k0 k1 k2 k3 k5:Option Value)
   (hC:S.hb.get? S.book=some (excClassObj nm q S.book N bs [.type "object"] true sn sub false col dd k0 k1 k2 k3 k5 "object.__new__")) (hN:S.hb.Ns N mN)
   (hq:mN "__getattribute__"=none /\ mN "__getattr__"=none /\ mN "__setattr__"=none /\ mN (zM 0)=none /\ mN (zM 1)=none) (hini:mN "__init__"=some (.ref (S.fn 0))) (h0:∃ o,S.hb.get? (S.fn 0)=some o /\ o.cls=.type "function")
   (hms:∀ m k,C.meths.lookup m=some k->mN m=some (.ref (S.fn k)) /\ ∃ o,S.hb.get? (S.fn k)=some o /\ o.cls=.type "function")
inductive GF (S:zQ) (C:Ctx):Prop where
 | mk (mg mb:Str->Option Value) (g1:S.hb.Ns mainGlobals mg) (g2:S.hb.Ns builtinsNs mb)
   (g3:∀ x v,C.consts.lookup x=some v->∃ w,mg x=some w /\ VR S [] [] S.hb v w)
   (g4:∀ x k,C.fns.lookup x=some k->mg x=some (.ref (S.fn k)))
   (g5:∀ x:Str,(x ∈ b1Names.map (·.1) \/ x ∈ b2Names.map (·.1) \/ x ∈ kindNames.map (·.1) \/ x=("isinstance" : Str) \/ x=("range" : Str))->C.fns.lookup x=none->mg x=none /\ mb x=bootBuiltins x)
   (g6:C.book=true->mg "Book"=some (.ref S.book))
   (g7:∀ x c,C.excs.lookup x=some c->(mg x=some (S.cl c)) \/ (mg x=none /\ mb x=some (S.cl c)))
structure zb (S:zQ) (C:Ctx) (T:Nat->Option Fn):Prop where
 g:GF S C
 nolimit:S.hb.NoLimit
 book:(C.book=false /\ C.meths=[] /\ C.attrs=[]) \/ (C.attrs=attrNames /\ zDl S C)
 exc:∀ x c,C.excs.lookup x=some c->c ∈ S.kn /\ (x ≠ ("ValueError" : Str)->zBm S c)
 parts:ww S S.hb
 pnn:S.parts ≠ .none
 fnObj:∀ k fn,T k=some fn->∃ o fd,S.hb.get? (S.fn k)=some o /\ o.data=.func fd
section
variable (S:zQ) (C:Ctx) (F:Calls) (q:Bool) (d:Nat)
noncomputable def FS:Prop:=∀ (k:Nat) (vs:List V) (J:Sto) (f:List Loc) (X:List Addr) (A:Around) (s:Shared) (vals:List Value),CxC S A q d f s.heap->Lk S X f J s.heap->VRs S X f s.heap vs vals ->
 F k vs J ≠ .stuck->(∃ o fd,S.hb.get? (S.fn k)=some o /\ o.data=.func fd) /\
  codeAny (model S.prog S.w) A (.call (.ref (S.fn k)) ⟨vals,[]⟩) (fun r s'=>match r with | .ok (.ret v)=>QS S X [] f (PV S X) s (F k vs J) v s' | .ok _=>False | .error e=>ES S X [] f false s (F k vs J) e s') s
structure St (Γ:List Str) (sc:Scope) (env:Env) (H:List V) (f:List Loc) (X:List Addr) (J:Sto) (s:Shared) (A:Around):Prop where
 cx:Cx S A q d f s.heap env.frame
 fr:FR S X f s.heap env Γ sc H
 lk:Lk S X f J s.heap
noncomputable def EOk (Γ:List Str) (sc:Scope) (e:Expr) (c:CE):Prop:=∀ (env:Env) (H:List V) (f:List Loc) (X:List Addr) (J:Sto) (s:Shared) (A:Around),St S q d Γ sc env H f X J s A ->
 Sim S A X [] f (PV S X) (eval e env) (evE F q c H J) s
noncomputable def NOk (Γ:List Str) (sc:Scope) (e:Expr) (c:CE):Prop:=∀ (env:Env) (H:List V) (f:List Loc) (X:List Addr) (J:Sto) (s:Shared) (A:Around),St S q d Γ sc env H f X J s A ->
 evE F q c H J ≠ .stuck->wpAny (model S.prog S.w) A (eval e env) (QN S X [] f s (evE F q c H J)) (ES S X [] f false s (evE F q c H J)) s
noncomputable def LOk (Γ:List Str) (sc:Scope) (es:List Expr) (cs:List CE):Prop:=es.any isStar=false /\ ∀ (env:Env) (pos:Pos) (H:List V) (f:List Loc) (X:List Addr) (J:Sto) (s:Shared) (A:Around),St S q d Γ sc env H f X J s A ->
 Sim S A X [] f (fun vs xs f s=>VRs S X f s.heap xs vs) (spliced (backTo pos (starEach es env))) (evL F q cs H J) s
noncomputable def TOk (Γ:List Str) (sc:Scope) (e:Expr) (c:CE):Prop:=∀ (env:Env) (H:List V) (f:List Loc) (X:List Addr) (J:Sto) (s:Shared) (A:Around),St S q d Γ sc env H f X J s A ->
 Sim S A X [] f (fun b t _ _=>b=t) (isTrue e env (eval e env)) ((evE F q c H J).bind fun v J=>R.lift J (truthy J v)) s
end
theorem FR.isGlob {S:zQ} {X:List Addr} {f:List Loc} {h:Heap} {env:Env} {Γ:List Str} {sc:Scope} {H:List V} (fr:FR S X f h env Γ sc H) {x:Str} (hg:isGlob sc x=true):env.kindOf x=some .globalImplicit:=by
 have h:sc.names.lookup x=some .globalImplicit:=by simpa [Mine.isGlob] using hg
 rcases fr.names x with e | ⟨e,_⟩
 ·exact e.trans h
 ·rw [h] at e; first | exact zB e | exact zF e | cases e
section
variable {S:zQ} {C:Ctx} {F:Calls} {q:Bool} {d:Nat} {Γ:List Str} {sc:Scope}
theorem St.keep {env:Env} {H:List V} {f g:List Loc} {X:List Addr} {J J':Sto} {s s':Shared} {A:Around} (st:St S q d Γ sc env H f X J s A) (hg:Fresh g s) (k:Kp f [] s s') (L:Lk S X (f++g) J' s'.heap):St S q d Γ sc env H (f++g) X J' s' A:=
 ⟨st.cx.keep k hg,st.fr.keep st.lk k hg,L⟩
theorem NOk.eok {e:Expr} {c:CE} (h:NOk S F q d Γ sc e c):EOk S F q d Γ sc e c:=fun env H f X J s A st hne=>wpAny_mono (h env H f X J s A st hne) (fun _ _ x=>x.qs) fun _ _ x=>x
theorem NOk.trk {e:Expr} {c:CE} (h:NOk S F q d Γ sc e c):EOk S F q d Γ sc e (.trk c):=fun env H f X J s A st hne=>by
 have hr:evE F q c H J ≠ .stuck:=fun e=>hne (by rw [zCY,e]; rfl)
 rw [zCY] at hne ⊢
 refine wpAny_mono (h env H f X J s A st hr) (fun _ _ x=>x.trk hne) fun e s' x=>?_
 obtain ⟨k,J',g,ea,e1,e2,hgE,kE,LE,xE⟩:=x
 exact ⟨k,J',g,ea,e1,by rw [e2]; rfl,hgE,kE,LE,xE⟩
theorem kT {e:Expr} {c:CE} {p:Pos} (h:NOk S F q d Γ sc e c):EOk S F q d Γ sc e (vM C p c):=by
 unfold vM; split
 ·exact h.trk
 ·exact h.eok
noncomputable def zCf {γ δ:Type} (Y:List Addr) (K:List Loc->Shared->R δ->γ->Shared->Prop):Prop:=∀ f g s s₁ r c s',Fresh g s->Kp f Y s s₁->K (f++g) s₁ r c s'->K f s r c s'
theorem QS.lifts {α β:Type} {X Y:List Addr} {P:α->β->List Loc->Shared->Prop}:zCf Y (fun f s r a s'=>QS S X Y f P s r a s'):=fun f g s s₁ r c s' hg k q=>by
 obtain ⟨b',J'',g',e,hg',k',L,p⟩:=q
 rw [List.append_assoc] at L p
 exact ⟨b',J'',g++g',e,hg.trans k.live hg',k.trans hg k',L,p⟩
theorem ES.lifts {β:Type} {X Y:List Addr} {tr:Bool}:zCf (δ:=β) Y (fun f s r a s'=>ES S X Y f tr s r a s'):=fun f g s s₁ r c s' hg k q=>by
 obtain ⟨c,J'',g',ea,e1,e2,hg',k',L,x⟩:=q
 rw [List.append_assoc] at L x
 exact ⟨c,J'',g++g',ea,e1,e2,hg.trans k.live hg',k.trans hg k',L,x.back fun a h=>zo k.live h⟩
theorem QN.lifts {X Y:List Addr}:zCf Y (fun f s r a s'=>QN S X Y f s r a s'):=fun f g s s₁ r c s' hg k q=>by
 obtain ⟨x,J',g',e,hg',k',L,p,hl⟩:=q
 rw [List.append_assoc] at L p
 refine ⟨x,J',g++g',e,hg.trans k.live hg',k.trans hg k',L,p,fun xs hx=>?_⟩
 obtain ⟨a,vs,n,e1,e2,e3,e4,e5,e6,e7⟩:=hl xs hx
 rw [List.append_assoc] at e4 e6
 exact ⟨a,vs,n,e1,zo k.live e2,e3,e4,e5,e6,e7⟩
theorem Sim.go {α β γ δ:Type} {A:Around} {X Y:List Addr} {f:List Loc} {P:α->β->List Loc->Shared->Prop} {K:List Loc->Shared->R δ->γ->Shared->Prop} (hK:zCf Y K)
  {t:Sem α} {r:R β} {rk:β->Sto->R δ} {s:Shared} {W:α->Shared->Prop} {Q':γ->Shared->Prop} {E':Value->Shared->Prop} (h:Sim S A X Y f P t r s) (hne:r.bind rk ≠ .stuck)
  (hQ:∀ c s'',K f s (r.bind rk) c s''->Q' c s'') (hE:∀ e s'',ES S X Y f false s (r.bind rk) e s''->E' e s'')
  (hk:∀ a b J' g s',rk b J' ≠ .stuck->Fresh g s->Kp f Y s s'->Lk S X (f++g) J' s'.heap->P a b (f++g) s'->(∀ c s'',K (f++g) s' (rk b J') c s''->Q' c s'') ->
   (∀ e s'',ES S X Y (f++g) false s' (rk b J') e s''->E' e s'')->W a s'):wpAny (model S.prog S.w) A t W E' s:=by
 have hr:r ≠ .stuck:=fun e=>hne (by rw [e]; rfl)
 refine wpAny_mono (h hr) (fun a s' q=>?_) fun e s' q=>hE e s' ?_
 ·obtain ⟨b,J',g,rfl,hg,k,L,p⟩:=q
  exact hk a b J' g s' hne hg k L p (fun c s'' q=>hQ c s'' (hK f g s s' _ c s'' hg k q)) fun e s'' q=>hE e s'' (ES.lifts f g s s' _ e s'' hg k q)
 ·obtain ⟨c,J',g,ea,e1,rfl,hg,k,L,x⟩:=q
  exact ⟨c,J',g,ea,e1,rfl,hg,k,L,x⟩
theorem R.bind_assoc {α β γ:Type} (r:R α) (f:α->Sto->R β) (g:β->Sto->R γ):(r.bind f).bind g=r.bind fun a J=>(f a J).bind g:=by cases r <;> rfl
theorem PE.here {X Y:List Addr} {f:List Loc} {J:Sto} {s s':Shared} {x:V} {v:Value} (L:Lk S X f J s.heap) (p:PE S X f s x v s'):QN S X Y f s (.ok x J) v s':=by
 have:=PE.qn (f:=f) (g:=[]) (Y:=Y) (.nil s) (.refl f Y s) (by rwa [List.append_nil]) (by rw [List.append_nil]; exact p)
 exact this
theorem Sim.goN {α β:Type} {A:Around} {X Y:List Addr} {f:List Loc} {P:α->β->List Loc->Shared->Prop}
  {t:Sem α} {r:R β} {rk:β->Sto->R V} {s:Shared} {W:α->Shared->Prop} {Q':Value->Shared->Prop} {E':Value->Shared->Prop} (h:Sim S A X Y f P t r s) (hne:r.bind rk ≠ .stuck)
  (hQ:∀ c s'',QN S X Y f s (r.bind rk) c s''->Q' c s'') (hE:∀ e s'',ES S X Y f false s (r.bind rk) e s''->E' e s'')
  (hk:∀ a b J' g s',rk b J' ≠ .stuck->Fresh g s->Kp f Y s s'->Lk S X (f++g) J' s'.heap->P a b (f++g) s'->(∀ c s'',QN S X Y (f++g) s' (rk b J') c s''->Q' c s'') ->
   (∀ e s'',ES S X Y (f++g) false s' (rk b J') e s''->E' e s'')->W a s'):wpAny (model S.prog S.w) A t W E' s:=
 Sim.go (K:=fun f s r a s'=>QN S X Y f s r a s') QN.lifts h hne hQ hE hk
theorem Sim.goQ {α β γ δ:Type} {A:Around} {X Y:List Addr} {f:List Loc} {P:α->β->List Loc->Shared->Prop} {P':γ->δ->List Loc->Shared->Prop}
  {t:Sem α} {r:R β} {rk:β->Sto->R δ} {s:Shared} {W:α->Shared->Prop} {Q':γ->Shared->Prop} {E':Value->Shared->Prop} (h:Sim S A X Y f P t r s) (hne:r.bind rk ≠ .stuck)
  (hQ:∀ c s'',QS S X Y f P' s (r.bind rk) c s''->Q' c s'') (hE:∀ e s'',ES S X Y f false s (r.bind rk) e s''->E' e s'')
  (hk:∀ a b J' g s',rk b J' ≠ .stuck->Fresh g s->Kp f Y s s'->Lk S X (f++g) J' s'.heap->P a b (f++g) s'->(∀ c s'',QS S X Y (f++g) P' s' (rk b J') c s''->Q' c s'') ->
   (∀ e s'',ES S X Y (f++g) false s' (rk b J') e s''->E' e s'')->W a s'):wpAny (model S.prog S.w) A t W E' s:=
 Sim.go (K:=fun f s r a s'=>QS S X Y f P' s r a s') QS.lifts h hne hQ hE hk
end
end Mine
end

section
namespace Mine
open PySem PyProof.Rows
section
variable {S:zQ} {C:Ctx} {T:Nat->Option Fn} {F Fq:Calls} {q:Bool} {d:Nat} {Γ:List Str} {sc:Scope}
variable {X X' Y Z:List Addr} {f g:List Loc} {J:Sto} {s s':Shared} {A:Around} {E:Value->Shared->Prop} {env:Env} {H:List V}
theorem zM2 {n:Nat} {ax:Addr} {es:List (Int × V)} (L:Lk S X f J s.heap) (hf:f[n]?=some (ax,none)) (ho:J[n]?=some (.dict es)) :
  ∃ kvs,Even (intKind S.prog S.w) s.heap ax kvs /\ kvs.map (·.1)=es.map (·.1) /\ VRs S X f s.heap (es.map (·.2)) (kvs.map (·.2)) /\ es.length <= LIM /\ (ax==sysModules)=false:=L.obj n _ _ hf ho
theorem zFj {n:Nat} {ax:Addr} {es':List (Int × V)} {kvs':List (Int × Value)} {h':Heap} {t:Nat} (L:Lk S X f J s.heap) (hf:f[n]?=some (ax,none)) (hs:Heap.SameBut ax s.heap h') (hd:Even (intKind S.prog S.w) h' ax kvs')
  (e1:kvs'.map (·.1)=es'.map (·.1)) (rs:VRs S X f s.heap (es'.map (·.2)) (kvs'.map (·.2))) (hl:es'.length <= LIM) (hy:(ax==sysModules)=false) :
  Lk S X f (J.set n (.dict es')) h' /\ ∀ Y,Kp f Y s { s with heap:=h',toks:=t }:=by
 have hs':∀ b o,b ∉ Loc.addrs (ax,none)->s.heap.get? b=some o->h'.get? b=some o:=fun b o hb e=>(hs.2 b fun q=>hb (by rw [q]; exact List.mem_singleton.mpr rfl)).trans e
 have hax:ax ∈ addrs f:=yD hf (List.mem_singleton.mpr rfl)
 refine ⟨L.upd hf hs' ⟨kvs',hd,e1,?_,hl,hy⟩,fun Y=>Kp.upd hf hs' fun a ha=>?_⟩
 ·exact VRs.keep (fun _ _ e=>e) (fun b ob q h1 h2=>⟨⟨h1,h2⟩,ob,hs' b ob (fun z=>h1 (by rw [List.mem_singleton.mp z]; exact hax)) q,.refl ob⟩) _ _ rs
 ·rw [List.mem_singleton.mp ha]; exact hd.live
theorem zDa {k:Int} {v:V} {vv:Value} {h:Heap} (rv:VR S X f h v vv):∀ {es:List (Int × V)} {kvs:List (Int × Value)},kvs.map (·.1)=es.map (·.1)->VRs S X f h (es.map (·.2)) (kvs.map (·.2)) ->
  ((kvs.any fun kv=>decide (kv.1=k))=es.any fun p=>p.1==k) /\ ((kvs.map fun kv=>if kv.1=k then (kv.1,vv) else kv).map (·.1)=(es.map fun p=>if p.1==k then (k,v) else p).map (·.1)) /\
   VRs S X f h ((es.map fun p=>if p.1==k then (k,v) else p).map (·.2)) ((kvs.map fun kv=>if kv.1=k then (kv.1,vv) else kv).map (·.2))
 | [],[],_,_=>⟨rfl,rfl,by rw [List.map_nil,List.map_nil,List.map_nil,List.map_nil]; exact True.intro⟩
 | [],_ :: _,e,_=>by cases e
 | _ :: _,[],e,_=>by cases e
 | (i,x) :: es,(j,w) :: kvs,e,r=>by
  have e0:j :: kvs.map (·.1)=i :: es.map (·.1):=e
  obtain ⟨rfl,e1⟩:=List.cons.inj e0
  have r0:VRs S X f h (x :: es.map (·.2)) (w :: kvs.map (·.2)):=r
  obtain ⟨h1,h2,h3⟩:=zDa (k:=k) rv e1 r0.2
  by_cases hk:j=k
  ·have c1:(if (j,w).1=k then ((j,w).1,vv) else (j,w))=(j,vv):=if_pos hk
   have c2:(if ((j,x).1==k)=true then (k,v) else (j,x))=(k,v):=if_pos (by simp [hk])
   refine ⟨by simp [hk],?_,?_⟩
   ·show (if (j,w).1=k then ((j,w).1,vv) else (j,w)).1 :: _=(if ((j,x).1==k)=true then (k,v) else (j,x)).1 :: _
    rw [c1,c2,h2,hk]
   ·show VRs S X f h ((if ((j,x).1==k)=true then (k,v) else (j,x)).2 :: _) ((if (j,w).1=k then ((j,w).1,vv) else (j,w)).2 :: _)
    rw [c1,c2]
    exact ⟨rv,h3⟩
  ·have c1:(if (j,w).1=k then ((j,w).1,vv) else (j,w))=(j,w):=if_neg hk
   have c2:(if ((j,x).1==k)=true then (k,v) else (j,x))=(j,x):=if_neg (by simp [hk])
   refine ⟨by simp [hk,h1],?_,?_⟩
   ·show (if (j,w).1=k then ((j,w).1,vv) else (j,w)).1 :: _=(if ((j,x).1==k)=true then (k,v) else (j,x)).1 :: _
    rw [c1,c2,h2]
   ·show VRs S X f h ((if ((j,x).1==k)=true then (k,v) else (j,x)).2 :: _) ((if (j,w).1=k then ((j,w).1,vv) else (j,w)).2 :: _)
    rw [c1,c2]
    exact ⟨r0.1,h3⟩
theorem zFS {n:Nat} {ki:Int} {vo vi vv:Value} {v':V} {es:List (Int × V)} {Q:Unit->Shared->Prop} (L:Lk S X f J s.heap) (ro:VR S X f s.heap (.ref n) vo) (ri:VR S X f s.heap (.int ki) vi) (hJ:J[n]?=some (.dict es)) (hl:es.length < LIM) (rv:VR S X f s.heap v' vv)
  (h:∀ h' tk,Lk S X f (J.set n (.dict (wA es ki v'))) h'->(∀ Y,Kp f Y s { s with heap:=h',toks:=tk })->Q () { s with heap:=h',toks:=tk }):wpAny (model S.prog S.w) A (setItem vo vi vv) Q E s:=by
 obtain ⟨⟨ax,dd⟩,hf,rfl⟩:=ro
 have hob:=L.obj n _ _ hf hJ
 cases dd with
 | some _=>exact hob.elim
 | none =>
 obtain ⟨kvs,hd,e1,rs,_,hy⟩:=hob
 obtain ⟨t,rfl⟩:=zr ri
 have hlen:kvs.length=es.length:=by have:=congrArg List.length e1; simpa using this
 have hsz:kvs.length <= sizeLine:=by rw [hlen]; exact Nat.le_trans (Nat.le_of_lt hl) zz
 obtain ⟨p1,p2,p3⟩:=zDa (k:=ki) rv e1 rs
 refine zEF (knd:=intKind S.prog S.w) (k:=ki) (by show Value.isInt ki (.int ki t)=true; simp [Value.isInt]) hd (fun h' hd' hs=>?_) hsz
 have key:(stored kvs ki vv).map (·.1)=(wA es ki v').map (·.1) /\ VRs S X f s.heap ((wA es ki v').map (·.2)) ((stored kvs ki vv).map (·.2)) /\ (wA es ki v').length <= LIM:=by
  unfold stored wA
  rw [p1]
  split
  ·exact ⟨p2,p3,by rw [List.length_map]; exact Nat.le_of_lt hl⟩
  ·refine ⟨by rw [List.map_append,List.map_append,e1]; rfl,?_,by rw [List.length_append]; exact hl⟩
   rw [List.map_append,List.map_append]
   exact xe rs ⟨rv,trivial⟩
 obtain ⟨L3,k3⟩:=zFj (t:=s.toks+1) L hf hs hd' key.1 key.2.1 key.2.2 hy
 exact h h' _ L3 k3
end
end Mine
end

section
namespace Mine
open PySem PyProof.Rows
noncomputable def xw (h:Heap):List Addr->Heap
 | []=>h
 | a :: l=>(xw h l).hide a
theorem jM {h:Heap} {a:Addr}:∀ {l:List Addr},a ∈ l->(xw h l).get? a=none
 | b :: l,m=>by
  unfold xw
  by_cases e:a=b
  ·rw [e]; exact Heap.hide_self _ _
  ·rw [Heap.hide_ne _ e]; exact jM ((List.mem_cons.mp m).resolve_left e)
theorem wP {h:Heap} {a:Addr}:∀ {l:List Addr},a ∉ l->(xw h l).get? a=h.get? a
 | [],_=>rfl
 | b :: l,m=>by
  unfold xw
  have hne:a ≠ b:=fun e=>m (by rw [e]; exact List.mem_cons_self)
  rw [Heap.hide_ne _ hne]
  exact wP fun q=>m (List.mem_cons_of_mem _ q)
theorem zCc (h:Heap) (l:List Addr):(xw h l).StaysIn h:=fun b o e=>by
 by_cases m:b ∈ l
 ·rw [jM m] at e; first | exact zB e | exact zF e | cases e
 ·rwa [wP m] at e
section
variable {M:Model} {A:Around} {E:Value->Shared->Prop} {s:Shared} {env:Env} {outer:List Env} {base:Heap} {L e:Addr} {Q:Unit->Shared->Prop}
inductive zBU (base:Heap) (e:Addr) (cls:Value) (h h':Heap):Prop where
 | mk (stays:base.StaysIn h') (oe:Obj) (vs:Array Value) (T:Addr) (oT:Obj) (ts:Array Value) (p1:h'.get? e=some oe) (p2:oe.cls=cls) (p3:oe.data=.fields vs) (p4:vs[1]?=some (.ref T)) (p5:base.get? T=none) (p6:T ≠ e)
   (p7:h'.get? T=some oT) (p8:oT.data=.fields ts) (p9:3 < ts.size) (same:∀ b o,h.get? b=some o->(∀ vs,o.data ≠ .fields vs)->∃ sl,h'.get? b=some { o with slots:=sl })
theorem zC0 {head:Value} {hadNext:Bool} {oe:Obj} {vs:Array Value} (hfr:A.frames=some (env :: outer)) (hl:s.heap.FunFrames base (env :: outer)) (hf:env.frame=some L)
  (he:s.heap.get? e=some oe) (hkb:base.StaysIn s.heap) (hen:base.get? e=none) (hd:oe.data=.fields vs) (hsz:1 < vs.size)
  (h:∀ h',zBU base e oe.cls s.heap h'->Q () { s with heap:=h' }) :
  wpAny M A (do let a <- frameOf env; let pl <- entryPlaceOf L hadNext; let b <- EntryCells.newEntry head a .none (rawInt L) .none pl; setField (.ref e) 1 b) Q E s:=by
 have out:e ∉ (env :: outer).filterMap (·.frame):=fun hm=>by
  obtain ⟨_,o,ho,hnf⟩:=hl.mem hm
  rw [he] at ho; cases ho; exact hnf vs hd
 refine wpAny_bind (wpAny_frameOf_fun hfr hl hf fun h₁ so=>?_)
 refine wpAny_bind (wpAny_entryPlaceOf fun pl hpl=>?_)
 unfold EntryCells.newEntry newFields
 refine wpAny_bind (wpAny_newObj_type ?_ (hpl.sizeOk5 _ _ _ _ _))
 have he1:h₁.get? e=some oe:=(so.2.1 e out).trans he
 have kb1:base.StaysIn h₁:=fun b o hbo=>(so.2.1 b fun hm=>by rw [(hl.mem hm).1] at hbo; cases hbo).trans (hkb b o hbo)
 have hTe:h₁.objs.size ≠ e:=Nat.ne_of_gt (Heap.lt_size he1)
 refine wpAny_setField (Heap.get?_push_of_some _ he1) hd hsz (h _ ?_)
 have keep:∀ (ob:Obj) b o,b ≠ e->h₁.get? b=some o->((h₁.push ob).update e (Obj.mapFields (·.setIfInBounds 1 (Value.ref h₁.objs.size)))).get? b=some o:=fun ob b o hb q =>
  (Heap.get?_update_other _ _ (Ne.symm hb)).trans (Heap.get?_push_of_some _ q)
 have hd3:=Obj.data_mapFields hd (·.setIfInBounds 1 (Value.ref h₁.objs.size))
 refine ⟨fun b o hbo=>keep _ b o (fun q=>by rw [q,hen] at hbo; cases hbo) (kb1 b o hbo),_,_,h₁.objs.size,_,_,Heap.get?_update_self _ (Heap.get?_push_of_some _ he1) (Obj.isFreed_of_fields hd3),Obj.cls_mapFields _ _,hd3,by simp [hsz],kb1.fresh,hTe,
  (Heap.get?_update_other _ _ (Ne.symm hTe)).trans (Heap.get?_push_size h₁ rfl),rfl,?_,fun b o hb hnf=>?_⟩
 ·simp only [List.size_toArray,List.length_append,List.length_cons,List.length_nil]
  exact Nat.lt_of_lt_of_le (by decide) (Nat.le_add_right 5 _)
 ·obtain ⟨sl,q⟩:=so.2.2 b o hb
  exact ⟨sl,keep _ b _ (fun z=>by rw [z,he] at hb; cases hb; exact hnf vs hd) q⟩
theorem zGW {oe:Obj} {vs:Array Value} (hfr:A.frames=some (env :: outer)) (hl:s.heap.FunFrames base (env :: outer)) (hf:env.frame=some L)
  (he:s.heap.get? e=some oe) (hkb:base.StaysIn s.heap) (hen:base.get? e=none) (hd:oe.data=.fields vs) (h1:vs[1]?=some .none)
  (h:∀ h',zBU base e oe.cls s.heap h'->Q () { s with heap:=h' }) :
  wpAny M A (noteFrame (.ref e) env) Q E s:=by
 unfold noteFrame
 simp only [hf]
 refine wpAny_bind (wpAny_field he hd h1 ?_)
 rw [if_neg (by decide)]
 exact zC0 hfr hl hf he hkb hen hd (Array.getElem?_eq_some_iff.mp h1).1 h
theorem zIr {oe oT:Obj} {vs ts:Array Value} {T:Addr} {z:Value} (hfr:A.frames=some (env :: outer)) (hl:s.heap.FunFrames base (env :: outer)) (hf:env.frame=some L)
  (he:s.heap.get? e=some oe) (hkb:base.StaysIn s.heap) (hen:base.get? e=none) (hd:oe.data=.fields vs) (h1:vs[1]?=some (.ref T))
  (hnT:base.get? T=none) (hTe:T ≠ e) (hT:s.heap.get? T=some oT) (hdT:oT.data=.fields ts) (h3:ts[3]?=some z)
  (h0:Q () s) (h:∀ h',zBU base e oe.cls s.heap h'->Q () { s with heap:=h' }) :
  wpAny M A (noteFrame (.ref e) env) Q E s:=by
 unfold noteFrame
 simp only [hf]
 refine wpAny_bind (wpAny_field he hd h1 ?_)
 rw [if_pos (show (Value.ref T != Value.none)=true from by simp)]
 refine wpAny_bind (wpAny_field hT hdT h3 ?_)
 by_cases hz:(z==rawInt L)=true
 ·rw [if_pos hz]; exact wpAny_pure h0
 rw [if_neg hz]
 refine wpAny_bind (wpAny_setField hT hdT (Array.getElem?_eq_some_iff.mp h3).1 ?_)
 have other:∀ b,b ≠ T->(s.heap.update T (Obj.mapFields (·.setIfInBounds 3 Value.none))).get? b=s.heap.get? b:=fun b hb=>Heap.get?_update_other _ _ (Ne.symm hb)
 have noRecord:∀ b o,s.heap.get? b=some o->(∀ vs,o.data ≠ .fields vs)->b ≠ T:=fun b o hb hnf q=>by
  rw [q,hT] at hb; cases hb; exact hnf ts hdT
 exact zC0 hfr (hl.of_keeps fun b o hb hnf=>⟨o,(other b (noRecord b o hb hnf)).trans hb,rfl⟩) hf ((other e (Ne.symm hTe)).trans he)
  (fun b o hbo=>(other b fun q=>by rw [q,hnT] at hbo; cases hbo).trans (hkb b o hbo)) hen hd (Array.getElem?_eq_some_iff.mp h1).1
  fun h' ⟨x1,oe,vs,T,oT,ts,p1,p2,p3,p4,p5,p6,p7,p8,p9,x4⟩=>h h' ⟨x1,oe,vs,T,oT,ts,p1,p2,p3,p4,p5,p6,p7,p8,p9,fun b o hb hnf=>x4 b o ((other b (noRecord b o hb hnf)).trans hb) hnf⟩
end
section
variable {S:zQ} {X Y:List Addr} {f f0:List Loc} {J:Sto} {h h' h₀:Heap} {ea:Addr} {k:Cls} {s s' s0:Shared} {l:List Env}
noncomputable def yF (l:List Env):List Addr:=l.filterMap (·.frame)
theorem FrL.mem (F:FrL S f h l) {a:Addr} (ha:a ∈ yF l):S.hb.get? a=none /\ a ∉ addrs f /\ ∃ o es n,h.get? a=some o /\ o.data=.dict es n:=by
 obtain ⟨e,he,hf⟩:=List.mem_filterMap.mp ha
 obtain ⟨_,L,o,es,n,h1,h2,h3,h4,h5⟩:=F e he
 rw [h1] at hf; cases hf
 exact ⟨h2,h3,o,es,n,h4,h5⟩
theorem FrL.fun {base:Heap} (F:FrL S f h l) (hb:∀ a ∈ yF l,base.get? a=none):h.FunFrames base l:=by
 induction l with
 | nil=>trivial
 | cons e l ih =>
  obtain ⟨h0,L,o,es,n,h1,h2,h3,h4,h5⟩:=F e List.mem_cons_self
  exact ⟨h0,⟨L,o,h1,hb L (List.mem_filterMap.mpr ⟨e,List.mem_cons_self,h1⟩),h4,fun vs q=>by rw [h5] at q; cases q⟩,
   ih (fun e he=>F e (List.mem_cons_of_mem _ he)) fun a ha=>hb a (by
    obtain ⟨e',he,hf⟩:=List.mem_filterMap.mp ha
    exact List.mem_filterMap.mpr ⟨e',List.mem_cons_of_mem _ he,hf⟩)⟩
structure Noted (S:zQ) (f:List Loc) (h h':Heap) (hs:List Addr):Prop where
 same:∀ b o,b ∉ hs->h.get? b=some o->∃ o',h'.get? b=some o' /\ SameObj o o'
 base:∀ b o,S.hb.get? b=some o->h'.get? b=some o
 trk:∀ b ∈ addrs f,h'.get? b=h.get? b
theorem Noted.lk {hs hs':List Addr} (N:Noted S f h h' hs) (L:Lk S (hs++X) f J h) (hX:∀ a ∈ X,a ∉ hs) (hn:∀ a ∈ hs',(a ∈ hs \/ h.get? a=none) /\ ∃ o,h'.get? a=some o):Lk S (hs'++X) f J h':=by
 have nf:∀ a,a ∈ addrs f->∃ o,h.get? a=some o:=fun a ha=>L.live ha
 have ho:∀ a o,h.get? a=some o->a ∉ addrs f->a ∉ hs++X->(a ∉ addrs f /\ a ∉ hs'++X) /\ ∃ o',h'.get? a=some o' /\ SameObj o o':=fun a o e h1 h2=>by
  refine ⟨⟨h1,fun q=>?_⟩,N.same a o (fun q=>h2 (List.mem_append_left _ q)) e⟩
  rcases List.mem_append.mp q with q | q
  ·rcases (hn a q).1 with z | z
   ·exact h2 (List.mem_append_left _ z)
   ·rw [z] at e; first | exact zB e | exact zF e | cases e
  ·exact h2 (List.mem_append_right _ q)
 refine ⟨N.base,L.len,L.nodup,L.fresh,fun a ha=>?_,fun i l o hi hJ=>(L.obj i l o hi hJ).keep (fun x v e=>VR.keep (fun _ _ e=>e) ho x v e) (fun x v e=>VRs.keep (fun _ _ e=>e) ho x v e) fun a ha=>N.trk a (yD hi ha)⟩
 rcases List.mem_append.mp ha with q | q
 ·obtain ⟨z,o,e⟩:=hn a q
  rcases z with z | z
  ·obtain ⟨h1,h2,_⟩:=L.hid a (List.mem_append_left _ z)
   exact ⟨h1,h2,o,e⟩
  ·refine ⟨?_,fun hf=>?_,o,e⟩
   ·cases hb:S.hb.get? a with
    | none=>rfl
    | some o=>have:=L.base a o hb; rw [z] at this; cases this
   ·obtain ⟨o,q⟩:=nf a hf; rw [z] at q; cases q
 ·obtain ⟨h1,h2,o,e⟩:=L.hid a (List.mem_append_right _ q)
  exact ⟨h1,h2,let ⟨o',q',_⟩:=N.same a o (hX a q) e; ⟨o',q'⟩⟩
theorem Noted.kp {hs:List Addr} (N:Noted S f s.heap h' hs) (K:Kp f0 Y s0 s) (hn:∀ a ∈ hs,s0.heap.get? a=none):Kp f0 Y s0 { s with heap:=h' }:=by
 have no:∀ a o,s0.heap.get? a=some o->a ∉ hs:=fun a o e m=>by rw [hn a m] at e; cases e
 refine ⟨?_,fun a o e=>?_,fun a o e h1 h2=>?_,fun a o es n e d h1=>?_⟩
 ·show ({ s with heap:=h' }:Shared)=_
  rw [K.rest]
 ·obtain ⟨o₁,e₁⟩:=K.live a o e
  exact let ⟨o',q',_⟩:=N.same a o₁ (no a o e) e₁; ⟨o',q'⟩
 ·obtain ⟨o₁,e₁,q₁⟩:=K.kept a o e h1 h2
  obtain ⟨o₂,e₂,q₂⟩:=N.same a o₁ (no a o e) e₁
  exact ⟨o₂,e₂,q₁.trans q₂⟩
 ·obtain ⟨o₁,es1,n₁,e₁,d₁⟩:=K.dicts a o es n e d h1
  obtain ⟨o₂,e₂,q₂⟩:=N.same a o₁ (no a o e) e₁
  exact ⟨o₂,es1,n₁,e₂,q₂.data.trans d₁⟩
theorem xu {M:Model} {A:Around} {E:Value->Shared->Prop} {Q:Unit->Shared->Prop} {fr:Option Addr} (x:ExcR S X f J s.heap h₀ ea k) (hX:∀ a ∈ X,∃ o,h₀.get? a=some o)
  (hQ:∀ h' hs,(∀ a ∈ hs,h₀.get? a=none)->Noted S f s.heap h' hs->Lk S X f J h'->ExcR S X f J h' h₀ ea k->Q () { s with heap:=h' }):wpAny M A (setFlight (.ref ea) fr) Q E s:=by
 obtain ⟨e1,ec,hs,oe,vs,Lh,e4,e5,e6,e8⟩:=id x
 rcases e8 with ⟨rfl,v1⟩ | ⟨T,oT,ts,rfl,t0,t1,t2,t3,t4,t5⟩
 ·unfold setFlight
  refine wpAny_bind (wpAny_field e4 e6 v1 ?_)
  rw [if_neg (by decide)]
  refine wpAny_pure ?_
  exact hQ s.heap [] (fun a ha=>nomatch ha) ⟨fun b o _ e=>⟨o,e,.refl o⟩,Lh.base,fun _ _=>rfl⟩ (Lh.less fun a ha=>List.mem_append_right _ ha) x
 ·unfold setFlight
  refine wpAny_bind (wpAny_field e4 e6 t2 ?_)
  rw [if_pos (show (Value.ref T != Value.none)=true from by simp)]
  refine wpAny_setField t3 t4 t5 ?_
  generalize (fr.elim Value.none fun f=>rawInt f)=z
  have hd3:=Obj.data_mapFields t4 (·.setIfInBounds 3 z)
  have hT:=Heap.get?_update_self (Obj.mapFields (·.setIfInBounds 3 z)) t3 (Obj.isFreed_of_fields hd3)
  have other:∀ b,b ≠ T->(s.heap.update T (Obj.mapFields (·.setIfInBounds 3 z))).get? b=s.heap.get? b:=fun b hb=>Heap.get?_update_other _ _ (Ne.symm hb)
  have hfree:∀ a ∈ [ea,T],h₀.get? a=none:=fun a ha=>by
   rcases List.mem_cons.mp ha with rfl | ha
   ·exact e1
   ·rw [List.mem_singleton.mp ha]; exact t0
  have hTm:T ∈ [ea,T]++X:=List.mem_append_left _ (List.mem_cons_of_mem _ (List.mem_singleton.mpr rfl))
  have N:Noted S f s.heap (s.heap.update T (Obj.mapFields (·.setIfInBounds 3 z))) [ea,T]:=by
   refine ⟨fun b o hb e=>⟨o,(other b fun q=>hb (q ▸ List.mem_cons_of_mem _ (List.mem_singleton.mpr rfl))).trans e,.refl o⟩,fun b o e=>?_,fun b hb=>other b fun q=>?_⟩
   ·exact (other b fun q=>by rw [q,(Lh.hid T hTm).1] at e; cases e).trans (Lh.base b o e)
   ·exact (Lh.hid T hTm).2.1 (q ▸ hb)
  have hXs:∀ a ∈ X,a ∉ [ea,T]:=fun a ha m=>by obtain ⟨o,e⟩:=hX a ha; rw [hfree a m] at e; cases e
  have L1:Lk S ([ea,T]++X) f J (s.heap.update T (Obj.mapFields (·.setIfInBounds 3 z))):=N.lk Lh hXs fun a ha=>⟨.inl ha,by
   rcases List.mem_cons.mp ha with rfl | ha
   ·exact ⟨_,(other a (Ne.symm t1)).trans e4⟩
   ·rw [List.mem_singleton.mp ha]; exact ⟨_,hT⟩⟩
  refine hQ _ [ea,T] hfree N (L1.less fun a ha=>List.mem_append_right _ ha) ⟨e1,ec,[ea,T],oe,vs,L1,(other ea (Ne.symm t1)).trans e4,e5,e6,.inr ⟨T,_,_,rfl,t0,t1,t2,hT,hd3,by rw [Array.size_setIfInBounds]; exact t5⟩⟩
theorem zD7 {M:Model} {A:Around} {E:Value->Shared->Prop} {Q:Unit->Shared->Prop} {env:Env} {outer:List Env} {L:Addr} (hfr:A.frames=some (env :: outer)) (F:FrL S f s.heap (env :: outer)) (hf:env.frame=some L)
  (x:ExcR S X f J s.heap h₀ ea k) (hX:∀ a ∈ X,∃ o,h₀.get? a=some o) (hback:∀ a,s.heap.get? a=none->h₀.get? a=none)
  (hQ:∀ h' hs oe vs T,(∀ a ∈ hs,h₀.get? a=none)->Noted S f s.heap h' hs->ExcR S X f J h' h₀ ea k->h'.get? ea=some oe->oe.data=.fields vs->vs[1]?=some (.ref T)->Q () { s with heap:=h' }) :
  wpAny M A (noteFrame (.ref ea) env) Q E s:=by
 have x0:=x
 obtain ⟨e1,ec,hs,oe,vs,Lh,e4,e5,e6,e8⟩:=x
 have hea:ea ∈ hs:=by rcases e8 with ⟨rfl,_⟩ | ⟨T,_,_,rfl,_⟩ <;> exact List.mem_cons_self
 have hfree:∀ a ∈ hs,h₀.get? a=none:=by
  rcases e8 with ⟨rfl,_⟩ | ⟨T,_,_,rfl,t1,_⟩
  ·intro a ha; rw [List.mem_singleton.mp ha]; exact e1
  ·intro a ha
   rcases List.mem_cons.mp ha with rfl | ha
   ·exact e1
   ·rw [List.mem_singleton.mp ha]; exact t1
 have Fr:∀ {a:Addr},a ∈ yF (env :: outer)->S.hb.get? a=none /\ a ∉ addrs f /\ ∃ o es n,s.heap.get? a=some o /\ o.data=.dict es n:=FrL.mem F
 have hB:∀ a ∈ yF (env :: outer)++hs,(xw s.heap (yF (env :: outer)++hs)).get? a=none:=fun a ha=>jM ha
 have hFF:s.heap.FunFrames (xw s.heap (yF (env :: outer)++hs)) (env :: outer):=F.fun fun a ha=>hB a (List.mem_append_left _ ha)
 have hst:=zCc s.heap (yF (env :: outer)++hs)
 have fin:∀ h',zBU (xw s.heap (yF (env :: outer)++hs)) ea oe.cls s.heap h'->Q () { s with heap:=h' }:=fun h' q=>by
  obtain ⟨q1,oe',vs',T',oT',ts',p1,p2,p3,p4,p5,p6,p7,p8,p9,q4⟩:=q
  have exact':∀ b o,b ∉ yF (env :: outer)->b ∉ hs->s.heap.get? b=some o->h'.get? b=some o:=fun b o h1 h2 e =>
   q1 b o ((wP fun m=>(List.mem_append.mp m).elim h1 h2).trans e)
  have same:∀ b o,b ∉ hs->s.heap.get? b=some o->∃ o',h'.get? b=some o' /\ SameObj o o':=fun b o h2 e=>by
   by_cases h1:b ∈ yF (env :: outer)
   ·obtain ⟨_,_,o2,es,n,r1,r2⟩:=Fr h1
    rw [e] at r1; cases r1
    obtain ⟨sl,r3⟩:=q4 b o e fun vs q=>by rw [r2] at q; cases q
    exact ⟨_,r3,.inr ⟨⟨es,n,r2⟩,rfl,rfl,rfl⟩⟩
   ·exact ⟨o,exact' b o h1 h2 e,.refl o⟩
  have hT':T' ∈ hs \/ s.heap.get? T'=none:=by
   cases e:s.heap.get? T' with
   | none=>exact .inr rfl
   | some o =>
    by_cases m:T' ∈ yF (env :: outer)++hs
    ·rcases List.mem_append.mp m with m | m
     ·obtain ⟨_,_,o2,es,n,r1,r2⟩:=Fr m
      obtain ⟨sl,r3⟩:=q4 T' o2 r1 fun vs q=>by rw [r2] at q; cases q
      rw [p7] at r3; cases r3
      rw [r2] at p8; cases p8
     ·exact .inl m
    ·rw [wP m,e] at p5; first | exact zB p5 | exact zF p5 | cases p5
  have N:Noted S f s.heap h' hs:=by
   refine ⟨same,fun b o e=>?_,fun b hb=>?_⟩
   ·have hb:s.heap.get? b=some o:=Lh.base b o e
    refine exact' b o (fun m=>?_) (fun m=>?_) hb
    ·rw [(Fr m).1] at e; first | exact zB e | exact zF e | cases e
    ·rw [(Lh.hid b (List.mem_append_left _ m)).1] at e; first | exact zB e | exact zF e | cases e
   ·obtain ⟨o,e⟩:=Lh.live hb
    rw [e]
    exact exact' b o (fun m=>(Fr m).2.1 hb) (fun m=>(Lh.hid b (List.mem_append_left _ m)).2.1 hb) e
  have hXs:∀ a ∈ X,a ∉ hs:=fun a ha m=>by obtain ⟨o,e⟩:=hX a ha; rw [hfree a m] at e; cases e
  have L1:Lk S ([ea,T']++X) f J h':=N.lk Lh hXs fun a ha=>by
   rcases List.mem_cons.mp ha with rfl | ha
   ·exact ⟨.inl hea,_,p1⟩
   ·obtain rfl:=List.mem_singleton.mp ha; exact ⟨hT',_,p7⟩
  refine hQ h' hs oe' vs' T' hfree N ⟨e1,ec,[ea,T'],oe',vs',L1,p1,p2.trans e5,p3,.inr ⟨T',oT',ts',rfl,?_,p6,p4,p7,p8,p9⟩⟩ p1 p3 p4
  rcases hT' with m | m
  ·exact hfree T' m
  ·exact hback T' m
 rcases e8 with ⟨rfl,v1⟩ | ⟨T,oT,ts,rfl,t0,t1,t2,t3,t4,t5⟩
 ·exact zGW hfr hFF hf e4 hst (hB ea (List.mem_append_right _ hea)) e6 v1 fin
 ·exact zIr hfr hFF hf e4 hst (hB ea (List.mem_append_right _ hea)) e6 t2 (hB T (List.mem_append_right _ (List.mem_cons_of_mem _ (List.mem_singleton.mpr rfl)))) t1 t3 t4 (Array.getElem?_eq_getElem t5) (hQ s.heap [] oe vs T (fun a ha=>nomatch ha) ⟨fun b o _ e=>⟨o,e,.refl o⟩,Lh.base,fun _ _=>rfl⟩ x0 e4 e6 t2) fin
theorem zCE {M:Model} {A:Around} {E:Value->Shared->Prop} {Q:Unit->Shared->Prop} {env:Env} {outer:List Env} {L:Addr} (hfr:A.frames=some (env :: outer)) (F:FrL S f s.heap (env :: outer)) (hf:env.frame=some L)
  (x:ExcR S X f J s.heap s0.heap ea k) (hX:∀ a ∈ X,∃ o,s0.heap.get? a=some o) (kp:Kp f0 Y s0 s)
  (hQ:∀ h',Kp f0 Y s0 { s with heap:=h' }->Lk S X f J h'->ExcR S X f J h' s0.heap ea k->Q () { s with heap:=h' }) :
  wpAny M A (noteFrame (.ref ea) env) (fun _ s₂=>wpAny M A (setFlight (.ref ea) none) Q E s₂) E s:=
 zD7 hfr F hf x hX (fun _ h=>zo kp.live h) fun h₁ hs _ _ _ h1 N x1 _ _ _=>xu (s:={ s with heap:=h₁ }) x1 hX fun h₂ hs2 h2 N2 L2 x2=>hQ h₂ (N2.kp (N.kp kp h1) h2) L2 x2
theorem xy {e:Value} {env env':Env} (h:env'.frame=env.frame):noteFrame e env=noteFrame e env':=by
 unfold noteFrame PySem.frameOf
 rw [h]
end
end Mine
end

section
namespace Mine
open PySem PyProof.Rows
section
variable {S:zQ} {C:Ctx} {T:Nat->Option Fn} {F:Calls} {q:Bool} {d:Nat} {Γ:List Str} {sc:Scope}
theorem Lk.ofBase {X:List Addr} {f:List Loc} {J:Sto} {h:Heap} (L:Lk S X f J h) {v:V} {w:Value} (r:VR S [] [] S.hb v w):VR S X f h v w:=
 VR.keep (fun i l e=>by simp at e) (fun a o ho _ _=>⟨⟨fun q=>(by rw [L.fresh a q] at ho; cases ho),fun q=>(by rw [(L.hid a q).1] at ho; cases ho)⟩,o,L.base a o ho,.refl o⟩) v w r
theorem Lk.ns {X:List Addr} {f:List Loc} {J:Sto} {h:Heap} {a:Addr} {m:Str->Option Value} (L:Lk S X f J h) (n:S.hb.Ns a m):h.Ns a m:=by
 obtain ⟨o,es,ep,ho,r⟩:=n
 exact ⟨o,es,ep,L.base a o ho,r⟩
theorem zNe {k pos}:EOk S F q d Γ sc (.Constant .none k pos) (.lit .none):=fun env H f X J s A st _=>by
 rw [zBO]
 exact wpAny_Constant_none (.leaf st.lk (.refl s) (rfl))
theorem zNZ {b k pos}:EOk S F q d Γ sc (.Constant (.bool b) k pos) (.lit (.bool b)):=fun env H f X J s A st _=>by
 rw [zBO]
 exact wpAny_Constant_bool (.leaf st.lk (.refl s) (rfl))
theorem zPs {i k pos}:EOk S F q d Γ sc (.Constant (.int i) k pos) (.lit (.int i)):=fun env H f X J s A st _=>by
 rw [zBO]
 exact wpAny_Constant_int (.leaf st.lk (.toks s _) (⟨_,rfl⟩))
theorem zLz {x:Str} {k pos} (h:(x.length <= 1000&&PyData.strOk x)=true):EOk S F q d Γ sc (.Constant (.str x) k pos) (.lit (.str x)):=fun env H f X J s A st _=>by
 rw [zBO]
 rw [Bool.and_eq_true] at h
 have:=of_decide_eq_true h.1
 exact wpAny_Constant_str (.leaf st.lk (.toks s _) (⟨⟨_,rfl⟩,by unfold LIM; omega,h.2⟩))
theorem zE8 {sc:Scope} {x:Str} (hv:zBH sc x=true):sc.names.lookup x=some .local \/ sc.names.lookup x=some .cell \/ sc.names.lookup x=some .free:=by
 delta zBH at hv
 cases h:sc.names.lookup x with
 | none=>rw [h] at hv; exact zF hv
 | some k =>
  rw [h] at hv
  cases k with
  | «local»=>exact .inl rfl
  | cell=>exact .inr (.inl rfl)
  | free=>exact .inr (.inr rfl)
  | _=>exact zF hv
theorem zIh {env:Env} {x:Str} {w:Value} {s:Shared} {A:Around} {Q:Value->Shared->Prop} {E:Value->Shared->Prop} (hk:env.scope.kind=.function) (hc:(x==("__classdict__" : Str))=false) (n:NameIs env s.heap x w) (h:Q w s) :
  wpAny (model S.prog S.w) A (loadName env x) Q E s:=by
 rcases n with ⟨h1,m,h2,h3⟩ | ⟨h1,c,h2,h3⟩
 ·exact wpAny_loadName_local hk h1 h2 h3 h
 ·rcases h1 with h1 | h1
  ·exact wpAny_loadName_cell hk h1 h2 h3 h
  ·exact wpAny_loadName_free hk h1 h2 h3 h hc
theorem zED {H:List V} {i:Nat} {v:V} (h:zK H i=some v):H[i]?=some v /\ v ≠ .undef:=by
 delta zK at h
 cases hr:H[i]? with
 | none=>rw [hr] at h; exact zB h
 | some w =>
  rw [hr] at h
  have key:w ≠ .undef->some w=some v->some w=some v /\ v ≠ .undef:=fun h1 h2=>⟨h2,fun e=>h1 (by rw [Option.some.inj h2]; exact e)⟩
  cases w with
  | undef=>exact zB h
  | _=>exact key (fun q=>nomatch q) h
theorem zNd (fs:zb S C T) {x:Str} {pos:Pos} {c:CE} (h:zHC C Γ sc x=some c):EOk S F q d Γ sc (.Name x pos) c:=fun env H f X J s A st hne=>by
 unfold zHC at h
 split at h
 ·first | exact zB h | exact zF h | cases h
 rename_i hn
 simp only [Bool.or_eq_true,not_or,Bool.not_eq_true] at hn
 refine wpAny_Name ?_ hn.1
 split at h
 ·rename_i hv
  replace h:=map_some h
  obtain ⟨i,hi,rfl⟩:=h
  rw [zu] at hne ⊢
  cases hr:zK H i with
  | none=>rw [hr] at hne; exact absurd rfl hne
  | some v =>
   obtain ⟨h1,h2⟩:=zED hr
   obtain ⟨w,n,r⟩:=st.fr.vals x i v hv hi h1 h2
   exact zIh st.fr.kind hn.2 n (QS.leaf st.lk (.refl s) r)
 ·split at h
  ·rename_i hg
   replace h:=map_some h
   obtain ⟨v,hv,rfl⟩:=h
   rw [zBO]
   obtain ⟨mg,mb,g1,g2,g3,_⟩:=fs.g
   obtain ⟨w,e1,e2⟩:=g3 x v hv
   exact wS st.fr.kind (st.fr.isGlob hg) (by rw [st.fr.glob]; exact st.lk.ns g1) e1 (QS.leaf st.lk (.refl s) (st.lk.ofBase e2))
  ·first | exact zB h | exact zF h | cases h
theorem yq {β:Type} {J:Sto} {o:Option β} (h:R.lift J o ≠ .stuck):∃ x,o=some x:=by
 cases o with
 | none=>exact absurd rfl h
 | some x=>exact ⟨x,rfl⟩
theorem zIJ {X:List Addr} {f:List Loc} {J:Sto} {s:Shared} {A:Around} {E:Value->Shared->Prop} {op:Operator} {o:P2} {a b x:V} {va vb:Value} (ho:zCg op=some o) (L:Lk S X f J s.heap) (e:ev2 o J a b=some x) (ra:VR S X f s.heap a va) (rb:VR S X f s.heap b vb) :
  wpAny (model S.prog S.w) A (binaryOp op va vb) (PE S X f s x) E s:=by
 by_cases hop:op=.Add
 ·subst hop
  cases ho
  exact zIB L e ra rb
 ·have:∃ i j,a=.int i /\ b=.int j:=by
   cases op <;> first | exact absurd rfl hop | (cases ho; done) | (cases ho; exact kU e)
  obtain ⟨i,j,rfl,rfl⟩:=this
  obtain ⟨t,rfl⟩:=zr ra
  obtain ⟨u,rfl⟩:=zr rb
  exact zG8 ho e
theorem zEU {op:Operator} {o:P2} (h:zCg op=some o):vK o=false:=by
 cases op <;> first | (cases h; rfl) | exact zB h
theorem xl {op:CmpOp} {o:P2} (h:xj op=some o):vK o=false:=by
 cases op <;> first | (cases h; rfl) | exact zB h
theorem zLq {l r:Expr} {op:Operator} {pos:Pos} {o:P2} {a b:CE} (ho:zCg op=some o) (hl:EOk S F q d Γ sc l a) (hr:EOk S F q d Γ sc r b):NOk S F q d Γ sc (.BinOp l op r pos) (.p2 o a b):=fun env H f X J s A st hne=>by
 rw [zMc,zEU ho,Bool.false_and,if_neg (by simp)] at hne ⊢
 refine wpAny_BinOp ?_
 refine Sim.goN (hl env H f X J s A st) hne (fun _ _ x=>x) (fun _ _ x=>x) fun va a' J1 g₁ s₁ hne hg k L ra hQ hE=>?_
 have st1:=st.keep hg k L
 refine Sim.goN (hr env H _ X J1 s₁ A st1) hne hQ hE fun vb b' J2 g₂ s₂ hne hg₂ k₂ L₂ rb hQ hE=>?_
 obtain ⟨x,hx⟩:=yq hne
 rw [hx] at hQ
 exact wpAny_mono (zIJ ho L₂ hx (VR.keepK k₂ hg₂ (fun _ h=>nomatch h) ra) rb) (fun v s' p=>hQ v s' (p.here L₂)) fun _ _ x=>x
end
end Mine
end

section
namespace Mine
open PySem PyProof.Rows
section
variable {S:zQ} {C:Ctx} {T:Nat->Option Fn} {F:Calls} {q:Bool} {d:Nat} {Γ:List Str} {sc:Scope}
variable {X:List Addr} {f:List Loc} {J:Sto} {s:Shared} {A:Around} {E:Value->Shared->Prop}
theorem Lk.parts {h:Heap} (fs:zb S C T) (L:Lk S X f J h):ww S h:=fun hh=>by
 obtain ⟨d,g,e,hd,hm,hg⟩:=fs.parts hh
 refine ⟨d,g,e,hd,?_,hg⟩
 obtain ⟨o,es,ep,ho,r⟩:=hm
 exact ⟨o,es,ep,L.base d o ho,r⟩
theorem zEn {a b:V} {va vb:Value} {r:Bool} (hu:A.units+64 < cLine) (L:Lk S X f J s.heap) (e:eqV J a b=some r) (ra:VR S X f s.heap a va) (rb:VR S X f s.heap b vb) :
  wpAny (model S.prog S.w) A (compareOp .Eq va vb) (PE S X f s (.bool r)) E s /\ wpAny (model S.prog S.w) A (compareOp .NotEq va vb) (PE S X f s (.bool !r)) E s:=by
 unfold eqV at e
 split at e
 ·rename_i xs ys h1 h2
  split at e
  ·rename_i hne
   cases e
   obtain ⟨p,vs,n,rfl,il,rs,hl⟩:=yQ L h1 ra
   obtain ⟨p2,vs2,n2,rfl,il2,rs2,hl2⟩:=yQ L h2 rb
   have hsz:(vs.size != vs2.size)=true:=by rw [zf rs,zf rs2]; exact hne
   exact ⟨P.eq_list_lengths il il2 hsz (by omega) .bool0,SeqAt.RcNeAt.lists_lengths ⟨_,il,rfl,n,rfl⟩ ⟨_,il2,rfl,n2,rfl⟩ hsz (by omega) _ _ _ _ .bool0⟩
  ·exact zCm hu L e ra rb
 ·exact zCm hu L e ra rb
theorem wd {op:CmpOp} {o:P2} (fs:zb S C T) (hu:A.units+64 < cLine) (ho:xj op=some o) {a b x:V} {va vb:Value} (L:Lk S X f J s.heap) (e:ev2 o J a b=some x) (ra:VR S X f s.heap a va) (rb:VR S X f s.heap b vb) :
  wpAny (model S.prog S.w) A (compareOp op va vb) (PE S X f s x) E s:=by
 by_cases h:op ≠ .Eq /\ op ≠ .NotEq /\ op ≠ .In /\ op ≠ .NotIn
 ·obtain ⟨i,j,rfl,rfl⟩:=zKw ho h e
  obtain ⟨t,rfl⟩:=zr ra
  obtain ⟨u,rfl⟩:=zr rb
  exact zM1 ho h e
 ·have h':op=.Eq \/ op=.NotEq \/ op=.In \/ op=.NotIn:=by
   by_cases h1:op=.Eq
   ·exact .inl h1
   by_cases h2:op=.NotEq
   ·exact .inr (.inl h2)
   by_cases h3:op=.In
   ·exact .inr (.inr (.inl h3))
   by_cases h4:op=.NotIn
   ·exact .inr (.inr (.inr h4))
   exact absurd ⟨h1,h2,h3,h4⟩ h
  rcases h' with rfl | rfl | rfl | rfl <;> cases ho
  ·delta ev2 at e; dsimp only at e; simp only [Option.map_eq_some_iff] at e
   obtain ⟨r,h1,rfl⟩:=e
   exact (zEn hu L h1 ra rb).1
  ·delta ev2 at e; dsimp only at e; simp only [Option.map_eq_some_iff] at e
   obtain ⟨r,h1,rfl⟩:=e
   exact (zEn hu L h1 ra rb).2
  ·delta ev2 at e; dsimp only at e; simp only [Option.map_eq_some_iff] at e
   obtain ⟨r,h1,rfl⟩:=e
   exact (zE3 (L.parts fs) L h1 ra rb).1
  ·delta ev2 at e; dsimp only at e; simp only [Option.map_eq_some_iff] at e
   obtain ⟨r,h1,rfl⟩:=e
   exact (zE3 (L.parts fs) L h1 ra rb).2
theorem St.room {env:Env} {H:List V} (st:St S q d Γ sc env H f X J s A):A.units+64 < cLine:=by
 exact Nat.lt_of_lt_of_le (Nat.lt_of_lt_of_le (Nat.add_lt_add_left (show 64 < 202 by decide) A.units) (Nat.add_le_add_right (Nat.le_add_right A.units (5 * d)) 202)) st.cx.units
theorem zDf {v:V} {w:Value} {β:Type} {rk:Bool->Sto->R β} {W:Bool->Shared->Prop} (L:Lk S X f J s.heap) (r:VR S X f s.heap v w) (hne:(R.lift J (truthy J v)).bind rk ≠ .stuck)
  (hk:∀ t s',truthy J v=some t->Ext s s'->rk t J ≠ .stuck->W t s'):wpAny (model S.prog S.w) A (PySem.truthy w) W E s:=by
 cases h:truthy J v with
 | none=>rw [h] at hne; exact absurd rfl hne
 | some t =>
  rw [h] at hne
  exact wpAny_mono (yj L h r) (fun c s' q=>by obtain ⟨rfl,e⟩:=q; exact hk c s' h e hne) fun _ _ x=>x
theorem QS.moved {α β:Type} {Y:List Addr} {P:α->β->List Loc->Shared->Prop} {r:R β} {a:α} {s₁ s':Shared} (e:Ext s s₁) (h:QS S X Y f P s₁ r a s'):QS S X Y f P s r a s':=
 QS.lifts f [] s s₁ r a s' (.nil s) (e.kp f Y) (by rwa [List.append_nil])
theorem QN.moved {Y:List Addr} {r:R V} {a:Value} {s₁ s':Shared} (e:Ext s s₁) (h:QN S X Y f s₁ r a s'):QN S X Y f s r a s':=
 QN.lifts f [] s s₁ r a s' (.nil s) (e.kp f Y) (by rwa [List.append_nil])
theorem ES.moved {β:Type} {Y:List Addr} {tr:Bool} {r:R β} {a:Value} {s₁ s':Shared} (e:Ext s s₁) (h:ES S X Y f tr s₁ r a s'):ES S X Y f tr s r a s':=
 ES.lifts f [] s s₁ r a s' (.nil s) (e.kp f Y) (by rwa [List.append_nil])
theorem St.moved {env:Env} {H:List V} {s':Shared} (st:St S q d Γ sc env H f X J s A) (e:Ext s s'):St S q d Γ sc env H f X J s' A:=by
 have:=st.keep (g:=[]) (.nil s) (e.kp f []) (by rw [List.append_nil]; exact e.lk st.lk)
 rwa [List.append_nil] at this
theorem QS.bool {Y:List Addr} {b:Bool} {s':Shared} (L:Lk S X f J s.heap) (e:Ext s s'):QS S X Y f (fun b t _ _=>b=t) s (.ok b J) b s':=
 ⟨b,J,[],rfl,.nil s,e.kp f Y,by rw [List.append_nil]; exact e.lk L,rfl⟩
theorem zHh {e e':Expr} {c:CE} {o:P1} {t:Value->Sem Value} (hq:(jB o&&q)=false) (h:EOk S F q d Γ sc e c)
  (rule:∀ (env:Env) (A:Around) (Q E:Value->Shared->Prop) (s:Shared),wpAny (model S.prog S.w) A (eval e env) (fun v s₁=>wpAny (model S.prog S.w) A (t v) Q E s₁) E s->wpAny (model S.prog S.w) A (eval e' env) Q E s)
  (op:∀ (X:List Addr) (f:List Loc) (J:Sto) (s:Shared) (A:Around) (E:Value->Shared->Prop) (a x:V) (va:Value),(q=false->A.handled=none)->Lk S X f J s.heap->ev1 o J a=some x->VR S X f s.heap a va->wpAny (model S.prog S.w) A (t va) (PE S X f s x) E s) :
  NOk S F q d Γ sc e' (.p1 o c):=fun env H f X J s A st hne=>by
 rw [zKS,hq,if_neg (by simp)] at hne ⊢
 refine rule _ _ _ _ _ ?_
 refine Sim.goN (h env H f X J s A st) hne (fun _ _ x=>x) (fun _ _ x=>x) fun va a' J1 g₁ s₁ hne hg k L ra hQ hE=>?_
 obtain ⟨x,hx⟩:=yq hne
 rw [hx] at hQ
 exact wpAny_mono (op X _ J1 s₁ A _ a' x va st.cx.hand L hx ra) (fun v s' p=>hQ v s' (p.here L)) fun _ _ x=>x
theorem zPw {e:Expr} {c:CE} {pos:Pos} (h:EOk S F q d Γ sc e c):EOk S F q d Γ sc (.UnaryOp .Not e pos) (.p1 .not c):=
 NOk.eok <| zHh rfl h (fun env A Q E s h=>UnaryOp_ h) fun X f J s A E a x va _ L hx ra=>by
  delta ev1 at hx; dsimp only at hx; simp only [Option.map_eq_some_iff] at hx
  obtain ⟨b,hb,rfl⟩:=hx
  exact not_of (wpAny_mono (yj L hb ra) (fun c s' q=>by obtain ⟨rfl,e⟩:=q; exact ⟨e,rfl,fun _ e=>by cases e⟩) fun _ _ x=>x)
theorem zPt {e:Expr} {c:CE} {pos:Pos} (h:EOk S F q d Γ sc e c):EOk S F q d Γ sc (.UnaryOp .USub e pos) (.p1 .neg c):=
 NOk.eok <| zHh rfl h (fun env A Q E s h=>UnaryOp_ h) fun X f J s A E a x va _ L hx ra=>by
  cases a with
  | int i=>cases hx; obtain ⟨t,rfl⟩:=zr ra; exact zIp
  | _=>first | exact zB hx | exact zF hx | cases hx
theorem zDY {e:Expr} {c:CE} {k p pos} (fs:zb S C T) (h:EOk S F q d Γ sc e c):EOk S F q d Γ sc (.Compare e [.Is] [.Constant .none k p] pos) (.p1 .isNone c):=
 NOk.eok <| zHh rfl h (fun env A Q E s h=>wpAny_Compare1 (wpAny_mono h (fun v s₁ h₁=>wpAny_Constant_none h₁) fun _ _ x=>x) rfl) fun X f J s A E a x va _ L hx ra=>zD3 hx ra fs.pnn
theorem zAG {e:Expr} {c:CE} {k p pos} (fs:zb S C T) (h:EOk S F q d Γ sc e c):EOk S F q d Γ sc (.Compare e [.IsNot] [.Constant .none k p] pos) (.p1 .isNotNone c):=
 NOk.eok <| zHh rfl h (fun env A Q E s h=>wpAny_Compare1 (wpAny_mono h (fun v s₁ h₁=>wpAny_Constant_none h₁) fun _ _ x=>x) rfl) fun X f J s A E a x va _ L hx ra=>zBR hx ra fs.pnn
theorem zOV {l r e':Expr} {a b:CE} {o:P2} {t:Value->Value->Sem Value} (hq:(vK o&&q)=false) (hl:EOk S F q d Γ sc l a) (hr:EOk S F q d Γ sc r b)
  (rule:∀ (env:Env) (A:Around) (Q E:Value->Shared->Prop) (s:Shared),wpAny (model S.prog S.w) A (eval l env) (fun v s₁=>wpAny (model S.prog S.w) A (eval r env) (fun w s₂=>wpAny (model S.prog S.w) A (t v w) Q E s₂) E s₁) E s->wpAny (model S.prog S.w) A (eval e' env) Q E s)
  (op:∀ (X:List Addr) (f:List Loc) (J:Sto) (s:Shared) (A:Around) (E:Value->Shared->Prop) (a b x:V) (va vb:Value),(q=false->A.handled=none)->A.units+64 < cLine->Lk S X f J s.heap->ev2 o J a b=some x->VR S X f s.heap a va->VR S X f s.heap b vb->wpAny (model S.prog S.w) A (t va vb) (fun v s'=>Ext s s' /\ VR S X f s'.heap x v) E s) :
  EOk S F q d Γ sc e' (.p2 o a b):=fun env H f X J s A st hne=>by
 rw [zMc,hq,if_neg (by simp)] at hne ⊢
 refine rule _ _ _ _ _ ?_
 refine Sim.goQ (P':=PV S X) (hl env H f X J s A st) hne (fun _ _ x=>x) (fun _ _ x=>x) fun va a' J1 g₁ s₁ hne hg k L ra hQ hE=>?_
 have st1:=st.keep hg k L
 refine Sim.goQ (P':=PV S X) (hr env H _ X J1 s₁ A st1) hne hQ hE fun vb b' J2 g₂ s₂ hne hg₂ k₂ L₂ rb hQ hE=>?_
 obtain ⟨x,hx⟩:=yq hne
 rw [hx] at hQ
 exact wpAny_mono (op X _ J2 s₂ A _ a' b' x va vb st.cx.hand st.room L₂ hx (VR.keepK k₂ hg₂ (fun _ h=>nomatch h) ra) rb) (fun v s' p=>hQ v s' (.leaf L₂ p.1 p.2)) fun _ _ x=>x
theorem PE.weak {x:V} {v:Value} {s':Shared} (p:PE S X f s x v s'):Ext s s' /\ VR S X f s'.heap x v:=⟨p.1,p.2.1⟩
theorem zPp {l r:Expr} {a b:CE} {op:CmpOp} {o:P2} {pos:Pos} (fs:zb S C T) (ho:xj op=some o) (hm:behindInMarks op r=false) (hl:EOk S F q d Γ sc l a) (hr:EOk S F q d Γ sc r b) :
  EOk S F q d Γ sc (.Compare l [op] [r] pos) (.p2 o a b):=
 zOV (by rw [xl ho,Bool.false_and]) hl hr (fun env A Q E s h=>wpAny_Compare1 h hm) fun X f J s A E a b x va vb _ hu L hx ra rb=>wpAny_mono (wd fs hu ho L hx ra rb) (fun _ _ p=>p.weak) fun _ _ x=>x
end
end Mine
end

section
namespace Mine
open PySem PyProof.Rows
structure GOk (S:zQ) (F:Calls) (q:Bool) (d:Nat) (Γ:List Str) (sc:Scope) (e:Expr) (c:CE):Prop where
 eo:EOk S F q d Γ sc e c
 to:TOk S F q d Γ sc e c
 star:isStar e=false
 marks:∀ op,behindInMarks op e=false
 fold:∀ env x,foldedSetIterable e env x=pure x
inductive All2 {α β:Type} (P:α->β->Prop):List α->List β->Prop where
 | nil:All2 P [] []
 | cons {a:α} {b:β} {as:List α} {bs:List β}:P a b->All2 P as bs->All2 P (a :: as) (b :: bs)
section
variable {S:zQ} {C:Ctx} {T:Nat->Option Fn} {F:Calls} {q:Bool} {d:Nat} {Γ:List Str} {sc:Scope}
variable {X:List Addr} {f:List Loc} {J:Sto} {s:Shared} {A:Around} {E:Value->Shared->Prop}
theorem TOk.plain {e:Expr} {c:CE} (h:EOk S F q d Γ sc e c) (he:∀ env whole,isTrue e env whole=(do let v <- whole; standAt e.pos; holding [v] (PySem.truthy v))):TOk S F q d Γ sc e c:=fun env H f X J s A st hne=>by
 refine isTrue_plain ?_ (he env _)
 refine Sim.goQ (P':=fun b t _ _=>b=t) (h env H f X J s A st) hne (fun _ _ x=>x) (fun _ _ x=>x) fun va a' J1 g₁ s₁ hne hg k L ra hQ hE=>?_
 obtain ⟨x,hx⟩:=yq hne
 rw [hx] at hQ
 exact wpAny_mono (yj L hx ra) (fun c s' p=>by obtain ⟨rfl,e⟩:=p; exact hQ c s' (.bool L e)) fun _ _ x=>x
theorem TOk.not {e:Expr} {c:CE} {pos:Pos} (h:TOk S F q d Γ sc e c):TOk S F q d Γ sc (.UnaryOp .Not e pos) (.p1 .not c):=fun env H f X J s A st hne=>by
 have key:((evE F q (.p1 .not c) H J).bind fun v J=>R.lift J (truthy J v))=((evE F q c H J).bind fun v J=>R.lift J (truthy J v)).bind fun b J=>.ok (!b) J:=by
  rw [zKS,show jB .not=false from rfl,Bool.false_and,if_neg (by simp),R.bind_assoc,R.bind_assoc]
  congr 1
  funext v J'
  show R.bind (R.lift J' ((truthy J' v).map fun b=>V.bool !b)) _=_
  cases truthy J' v <;> rfl
 rw [key] at hne ⊢
 refine isTrue_not ?_
 refine Sim.goQ (P':=fun b t _ _=>b=t) (h env H f X J s A st) hne (fun _ _ x=>x) (fun _ _ x=>x) fun va a' J1 g₁ s₁ hne hg k L ra hQ hE=>?_
 replace ra:va=a':=ra
 subst ra
 exact hQ _ _ (.bool L (.refl s₁))
theorem zDv {op:CmpOp} {o:P2} (ho:xj op=some o) {J:Sto} {a b x:V} (h:ev2 o J a b=some x):∃ t,x=.bool t:=by
 cases op <;> cases ho
 all_goals first
  | (obtain ⟨r,_,rfl⟩:=map_some h; exact ⟨_,rfl⟩)
  | (obtain ⟨i,j,rfl,rfl⟩:=kU h; cases h; exact ⟨_,rfl⟩)
theorem zBu {op:CmpOp} {o:P2} {a b:V} {J:Sto} {β:Type} {f:V->Sto->R β} (h1:xj op=some o) (h:(R.lift J (ev2 o J a b)).bind f ≠ .stuck):∃ t:Bool,ev2 o J a b=some (.bool t):=by
 cases hx:ev2 o J a b with
 | none=>rw [hx] at h; exact absurd rfl h
 | some x=>obtain ⟨t,rfl⟩:=zDv h1 hx; exact ⟨t,rfl⟩
theorem zHF (fs:zb S C T) {pos:Pos}:∀ {ops:List CmpOp} {os:List P2} {es:List Expr} {cs:List CE},All2 (fun op o=>xj op=some o) ops os->All2 (GOk S F q d Γ sc) es cs->ops.length=es.length ->
  ∀ (env:Env) (H:List V) (f:List Loc) (X:List Addr) (J:Sto) (s:Shared) (A:Around) (a:V) (va:Value),St S q d Γ sc env H f X J s A->VR S X f s.heap a va ->
   Sim S A X [] f (PV S X) (compareChain pos va ops (evalEach es env)) (evChain F q os cs a H J) s /\
   Sim S A X [] f (fun b t _ _=>b=t) (testChain pos va ops (evalEach es env)) ((evChain F q os cs a H J).bind fun v J=>R.lift J (truthy J v)) s:=by
 intro ops os es cs ho
 induction ho generalizing es cs with
 | nil =>
  intro hes hlen env H f X J s A a va st ra
  cases hes with
  | nil=>exact ⟨fun h=>absurd rfl h,fun h=>absurd rfl h⟩
  | cons _ _=>simp at hlen
 | @cons op o ops os h1 h2 ih =>
  intro hes hlen env H f X J s A a va st ra
  cases hes with
  | nil=>simp at hlen
  | @cons e c es cs he hes =>
   cases h2 with
   | nil =>
    cases hes with
    | nil =>
     constructor
     ·intro hne
      rw [zFr,xl h1,Bool.false_and,if_neg (by simp)] at hne ⊢
      refine chain_last ?_
      refine Sim.goQ (P':=PV S X) (he.eo env H f X J s A st) hne (fun _ _ x=>x) (fun _ _ x=>x) fun vb b' J1 g₁ s₁ hne hg k L rb hQ hE=>?_
      obtain ⟨x,hx⟩:=yq hne
      rw [hx] at hQ
      exact wpAny_mono (wd fs st.room h1 L hx (VR.keepK k hg (fun _ h=>nomatch h) ra) rb) (fun v s' p=>hQ v s' (.leaf L p.1 p.2.1)) fun _ _ x=>x
     ·intro hne
      rw [zFr,xl h1,Bool.false_and,if_neg (by simp),R.bind_assoc] at hne ⊢
      refine test_last ?_
      refine Sim.goQ (P':=fun b t _ _=>b=t) (he.eo env H f X J s A st) hne (fun _ _ x=>x) (fun _ _ x=>x) fun vb b' J1 g₁ s₁ hne hg k L rb hQ hE=>?_
      obtain ⟨t,hx⟩:=zBu h1 hne
      rw [hx] at hne hQ
      refine wpAny_mono (wd fs st.room h1 L hx (VR.keepK k hg (fun _ h=>nomatch h) ra) rb) (fun v s' p=>?_) fun _ _ x=>x
      obtain rfl:=wC p.2.1
      exact wpAny_mono (yj (p.1.lk L) (b:=t) rfl p.2.1) (fun c s'' p2=>by obtain ⟨rfl,e⟩:=p2; exact hQ c s'' (.bool L (p.1.trans e))) fun _ _ x=>x
    | cons _ _=>simp at hlen
   | @cons op' o' ops os h1' h2' =>
    cases hes with
    | nil=>simp at hlen
    | @cons e2 c2 es cs he2 hes2 =>
     constructor
     ·intro hne
      rw [zFs,xl h1,Bool.false_and,if_neg (by simp)] at hne ⊢
      refine chain_link ?_
      refine Sim.goQ (P':=PV S X) (he.eo env H f X J s A st) hne (fun _ _ x=>x) (fun _ _ x=>x) fun vb b' J1 g₁ s₁ hne hg k L rb hQ hE=>?_
      obtain ⟨t,hx⟩:=zBu h1 hne
      rw [hx] at hne hQ hE
      refine wpAny_mono (wd fs st.room h1 L hx (VR.keepK k hg (fun _ h=>nomatch h) ra) rb) (fun v s' p=>?_) fun _ _ x=>x
      obtain rfl:=wC p.2.1
      refine wpAny_mono (yj (p.1.lk L) (b:=t) rfl p.2.1) (fun c s'' p2=>?_) fun _ _ x=>x
      obtain ⟨rfl,e⟩:=p2
      have ee:=p.1.trans e
      have st₂:=(st.keep hg k L).moved ee
      cases c with
      | true=>exact wpAny_mono ((ih (.cons he2 hes2) (by simpa using hlen) env H _ X J1 s'' A b' vb st₂ (ee.vr rb)).1 hne) (fun v s3 q3=>hQ v s3 (.moved ee q3)) fun v s3 q3=>hE v s3 (.moved ee q3)
      | false=>exact hQ _ _ (.leaf L ee (rfl))
     ·intro hne
      rw [zFs,xl h1,Bool.false_and,if_neg (by simp),R.bind_assoc] at hne ⊢
      refine test_link ?_
      refine Sim.goQ (P':=fun b t _ _=>b=t) (he.eo env H f X J s A st) hne (fun _ _ x=>x) (fun _ _ x=>x) fun vb b' J1 g₁ s₁ hne hg k L rb hQ hE=>?_
      obtain ⟨t,hx⟩:=zBu h1 fun e=>hne (by rw [e]; rfl)
      rw [hx] at hne hQ hE
      refine wpAny_mono (wd fs st.room h1 L hx (VR.keepK k hg (fun _ h=>nomatch h) ra) rb) (fun v s' p=>?_) fun _ _ x=>x
      obtain rfl:=wC p.2.1
      refine wpAny_mono (yj (p.1.lk L) (b:=t) rfl p.2.1) (fun c s'' p2=>?_) fun _ _ x=>x
      obtain ⟨rfl,e⟩:=p2
      have ee:=p.1.trans e
      have st₂:=(st.keep hg k L).moved ee
      cases c with
      | true=>exact wpAny_mono ((ih (.cons he2 hes2) (by simpa using hlen) env H _ X J1 s'' A b' vb st₂ (ee.vr rb)).2 hne) (fun v s3 q3=>hQ v s3 (.moved ee q3)) fun v s3 q3=>hE v s3 (.moved ee q3)
      | false=>exact hQ _ _ (.bool L ee)
theorem je:∀ {ops:List CmpOp} {es:List Expr} {cs:List CE},All2 (GOk S F q d Γ sc) es cs->lastMarks ops es=false:=by
 intro ops es cs h
 induction h generalizing ops with
 | nil=>cases ops <;> simp [lastMarks]
 | @cons e c es cs he hes ih =>
  cases ops with
  | nil=>simp [lastMarks]
  | cons op ops =>
   cases ops with
   | nil=>cases es with
    | nil=>simp only [lastMarks]; exact he.marks op
    | cons _ _=>simp only [lastMarks]
   | cons op2 ops=>simp only [lastMarks]; exact ih
theorem zLt (fs:zb S C T) {l:Expr} {a:CE} {ops:List CmpOp} {os:List P2} {es:List Expr} {cs:List CE} {pos:Pos} (hl:EOk S F q d Γ sc l a) (ho:All2 (fun op o=>xj op=some o) ops os) (hes:All2 (GOk S F q d Γ sc) es cs) (hlen:ops.length=es.length) :
  EOk S F q d Γ sc (.Compare l ops es pos) (.chain a os cs) /\ TOk S F q d Γ sc (.Compare l ops es pos) (.chain a os cs):=by
 constructor
 ·intro env H f X J s A st hne
  rw [zAQ] at hne ⊢
  show wpAny _ _ (do compareChain pos (<- eval l env) ops (markedEach ops es (evalEach es env))) _ _ _
  rw [markedEach_of_false _ _ _ (je hes)]
  refine wpAny_bind ?_
  refine Sim.goQ (P':=PV S X) (hl env H f X J s A st) hne (fun _ _ x=>x) (fun _ _ x=>x) fun va a' J1 g₁ s₁ hne hg k L ra hQ hE=>?_
  exact wpAny_mono ((zHF fs ho hes hlen env H _ X J1 s₁ A a' va (st.keep hg k L) ra).1 hne) hQ hE
 ·intro env H f X J s A st hne
  rw [zAQ,R.bind_assoc] at hne ⊢
  show wpAny _ _ (do testChain pos (<- eval l env) ops (markedEach ops es (evalEach es env))) _ _ _
  rw [markedEach_of_false _ _ _ (je hes)]
  refine wpAny_bind ?_
  refine Sim.goQ (P':=fun b t _ _=>b=t) (hl env H f X J s A st) hne (fun _ _ x=>x) (fun _ _ x=>x) fun va a' J1 g₁ s₁ hne hg k L ra hQ hE=>?_
  exact wpAny_mono ((zHF fs ho hes hlen env H _ X J1 s₁ A a' va (st.keep hg k L) ra).2 hne) hQ hE
theorem TOk.cmp1 {l r:Expr} {op:CmpOp} {c:CE} {pos:Pos} (hm:behindInMarks op r=false) (h:EOk S F q d Γ sc (.Compare l [op] [r] pos) c):TOk S F q d Γ sc (.Compare l [op] [r] pos) c:=fun env H f X J s A st hne=>by
 rw [isTrue_Compare1,markedBehindIn_of_false hm]
 have he:=h env H f X J s A st
 have hr:(evE F q c H J) ≠ .stuck:=fun e=>hne (by rw [e]; rfl)
 have key:wpAny (model S.prog S.w) A (eval (.Compare l [op] [r] pos) env >>= fun c=>holding [c] (PySem.truthy c)) (QS S X [] f (fun b t _ _=>b=t) s ((evE F q c H J).bind fun v J=>R.lift J (truthy J v))) (ES S X [] f false s ((evE F q c H J).bind fun v J=>R.lift J (truthy J v))) s:=by
  refine wpAny_bind ?_
  refine Sim.goQ (P':=fun b t _ _=>b=t) he hne (fun _ _ x=>x) (fun _ _ x=>x) fun va a' J1 g₁ s₁ hne hg k L ra hQ hE=>?_
  obtain ⟨x,hx⟩:=yq hne
  rw [hx] at hQ
  exact wpAny_holding (wpAny_mono (yj L hx ra) (fun c s' p=>by obtain ⟨rfl,e⟩:=p; exact hQ c s' (.bool L e)) fun _ _ x=>x)
 have e2:eval (.Compare l [op] [r] pos) env=(do let a <- eval l env; let b <- holding [a] (markedBehindIn op r (eval r env)); standAt pos; operate [a,b] (compareOp op a b)):=rfl
 rw [e2,markedBehindIn_of_false hm] at key
 simpa only [bind_assoc] using key
theorem zLr {op:BoolOp} {pos:Pos}:∀ {es:List Expr} {cs:List CE} {c:CE},All2 (GOk S F q d Γ sc) es cs->vQ (op==.And) cs=some c ->
  EOk S F q d Γ sc (.BoolOp op es pos) c /\ TOk S F q d Γ sc (.BoolOp op es pos) c:=by
 intro es cs c h
 induction h generalizing c with
 | nil=>intro e; exact zB e
 | @cons x cx es cs hx hes ih =>
  intro e
  cases hes with
  | nil =>
   cases e
   refine ⟨fun env H f X J s A st hne=>BoolOp_one (hx.eo env H f X J s A st hne),fun env H f X J s A st hne=>?_⟩
   have:=hx.to env H f X J s A st hne
   cases op with
   | And=>exact isTrue_and (wpAny_mono this (fun c s' q=>by cases c with | true=>exact isTrue_and_nil q | false=>exact q) fun _ _ x=>x)
   | Or=>exact isTrue_or (wpAny_mono this (fun c s' q=>by cases c with | false=>exact isTrue_or_nil q | true=>exact q) fun _ _ x=>x)
  | @cons y cy es cs hy hes =>
   replace e:(vQ (op==.And) (cy :: cs)).map (fun r=>if (op==.And)=true then CE.and cx r else .or cx r)=some c:=e
   replace e:=map_some e
   obtain ⟨r,e1,rfl⟩:=e
   obtain ⟨ih1,ih2⟩:=ih e1
   cases op with
   | And =>
    show EOk S F q d Γ sc _ (.and cx r) /\ TOk S F q d Γ sc _ (.and cx r)
    constructor
    ·intro env H f X J s A st hne
     rw [zH3] at hne ⊢
     refine BoolOp_and ?_
     refine Sim.goQ (P':=PV S X) (hx.eo env H f X J s A st) hne (fun _ _ x=>x) (fun _ _ x=>x) fun va a' J1 g₁ s₁ hne hg k L ra hQ hE=>?_
     refine zDf L ra hne fun t s₂ ht e hne=>?_
     rw [ht] at hQ hE
     cases t with
     | true=>exact wpAny_mono (ih1 env H _ X J1 s₂ A ((st.keep hg k L).moved e) hne) (fun v s3 q3=>hQ v s3 (.moved e q3)) fun v s3 q3=>hE v s3 (.moved e q3)
     | false=>exact hQ _ _ (.leaf L e (e.vr ra))
    ·intro env H f X J s A st hne
     have key:((evE F q (.and cx r) H J).bind fun v J=>R.lift J (truthy J v))=((evE F q cx H J).bind fun v J=>R.lift J (truthy J v)).bind fun t J=>if t then (evE F q r H J).bind fun v J=>R.lift J (truthy J v) else .ok false J:=by
      rw [zH3,R.bind_assoc,R.bind_assoc]
      congr 1
      funext v J'
      rw [R.bind_assoc]
      cases ht:truthy J' v with
      | none=>simp
      | some t=>cases t <;> simp [ht]
     rw [key] at hne ⊢
     refine isTrue_and ?_
     refine Sim.goQ (P':=fun b t _ _=>b=t) (hx.to env H f X J s A st) hne (fun _ _ x=>x) (fun _ _ x=>x) fun va a' J1 g₁ s₁ hne hg k L ra hQ hE=>?_
     replace ra:va=a':=ra
     subst ra
     cases va with
     | true=>exact wpAny_mono (ih2 env H _ X J1 s₁ A (st.keep hg k L) hne) hQ hE
     | false=>exact hQ _ _ (.bool L (.refl s₁))
   | Or =>
    show EOk S F q d Γ sc _ (.or cx r) /\ TOk S F q d Γ sc _ (.or cx r)
    constructor
    ·intro env H f X J s A st hne
     rw [zNy] at hne ⊢
     refine BoolOp_or ?_
     refine Sim.goQ (P':=PV S X) (hx.eo env H f X J s A st) hne (fun _ _ x=>x) (fun _ _ x=>x) fun va a' J1 g₁ s₁ hne hg k L ra hQ hE=>?_
     refine zDf L ra hne fun t s₂ ht e hne=>?_
     rw [ht] at hQ hE
     cases t with
     | false=>exact wpAny_mono (ih1 env H _ X J1 s₂ A ((st.keep hg k L).moved e) hne) (fun v s3 q3=>hQ v s3 (.moved e q3)) fun v s3 q3=>hE v s3 (.moved e q3)
     | true=>exact hQ _ _ (.leaf L e (e.vr ra))
    ·intro env H f X J s A st hne
     have key:((evE F q (.or cx r) H J).bind fun v J=>R.lift J (truthy J v))=((evE F q cx H J).bind fun v J=>R.lift J (truthy J v)).bind fun t J=>if t then .ok true J else (evE F q r H J).bind fun v J=>R.lift J (truthy J v):=by
      rw [zNy,R.bind_assoc,R.bind_assoc]
      congr 1
      funext v J'
      rw [R.bind_assoc]
      cases ht:truthy J' v with
      | none=>simp
      | some t=>cases t <;> simp [ht]
     rw [key] at hne ⊢
     refine isTrue_or ?_
     refine Sim.goQ (P':=fun b t _ _=>b=t) (hx.to env H f X J s A st) hne (fun _ _ x=>x) (fun _ _ x=>x) fun va a' J1 g₁ s₁ hne hg k L ra hQ hE=>?_
     replace ra:va=a':=ra
     subst ra
     cases va with
     | false=>exact wpAny_mono (ih2 env H _ X J1 s₁ A (st.keep hg k L) hne) hQ hE
     | true=>exact hQ _ _ (.bool L (.refl s₁))
end
end Mine
end

section
namespace Mine
open PySem PyProof.Rows
section
variable {S:zQ} {C:Ctx} {T:Nat->Option Fn} {F:Calls} {q:Bool} {d:Nat} {Γ:List Str} {sc:Scope}
variable {X:List Addr} {f:List Loc} {J:Sto} {s:Shared} {A:Around} {E:Value->Shared->Prop}
theorem LOk.of {es:List Expr} {cs:List CE} (h:All2 (GOk S F q d Γ sc) es cs):LOk S F q d Γ sc es cs:=by
 refine ⟨?_,?_⟩
 ·induction h with
  | nil=>rfl
  | cons hx _ ih=>rw [List.any_cons,hx.star,ih]; rfl
 ·induction h with
  | nil =>
   intro env pos H f X J s A st _
   rw [zOj]
   exact wpAny_pure ⟨[],J,[],rfl,.nil s,.refl f [] s,by rw [List.append_nil]; exact st.lk,(by show VRs S X _ s.heap [] []; exact True.intro)⟩
  | @cons x c es cs hx _ ih =>
   intro env pos H f X J s A st hne
   rw [jT] at hne ⊢
   rw [yH hx.star]
   show wpAny _ _ (spliced ((false,eval x env) :: backTo pos (starEach es env))) _ _ _
   refine Calls.spliced_cons ?_
   refine Sim.goQ (P':=fun vs xs f s=>VRs S X f s.heap xs vs) (hx.eo env H f X J s A st) hne (fun _ _ x=>x) (fun _ _ x=>x) fun va a' J1 g₁ s₁ hne hg k L ra hQ hE=>?_
   refine Sim.goQ (P':=fun vs xs f s=>VRs S X f s.heap xs vs) (ih env pos H _ X J1 s₁ A (st.keep hg k L)) hne hQ hE fun vs xs J2 g₂ s₂ hne hg₂ k₂ L₂ rs hQ hE=>?_
   refine hQ _ _ (QS.here L₂ ?_)
   show VRs S X _ s₂.heap (a' :: xs) (va :: vs)
   exact ⟨VR.keepK k₂ hg₂ (fun _ h=>nomatch h) ra,rs⟩
theorem zHT:∀ {cs:List CE} {H:List V} {J J':Sto} {vs:List V},evL F q cs H J=.ok vs J'->vs.length=cs.length
 | [],H,J,J',vs,h=>by rw [zOj] at h; cases h; rfl
 | c :: cs,H,J,J',vs,h=>by
  rw [jT] at h
  cases h1:evE F q c H J with
  | ok v J1 =>
   rw [h1,R.bind_ok] at h
   cases h2:evL F q cs H J1 with
   | ok ws J2=>rw [h2,R.bind_ok] at h; cases h; simp [zHT h2]
   | exc _ _=>rw [h2] at h; first | exact zB h | exact zF h | cases h
   | stuck=>rw [h2] at h; first | exact zB h | exact zF h | cases h
  | exc _ _=>rw [h1] at h; first | exact zB h | exact zF h | cases h
  | stuck=>rw [h1] at h; first | exact zB h | exact zF h | cases h
theorem All2.len {α β:Type} {P:α->β->Prop} {as:List α} {bs:List β} (h:All2 P as bs):as.length=bs.length:=by
 induction h with
 | nil=>rfl
 | cons _ _ ih=>simp [ih]
theorem LOk.go {es:List Expr} {cs:List CE} {env:Env} {pos:Pos} {H:List V} {rk:List V->Sto->R V} {W:List Value->Shared->Prop} {Q' E':Value->Shared->Prop} (h:LOk S F q d Γ sc es cs) (st:St S q d Γ sc env H f X J s A) (hne:(evL F q cs H J).bind rk ≠ .stuck)
  (hQ:∀ c s'',QN S X [] f s ((evL F q cs H J).bind rk) c s''->Q' c s'') (hE:∀ e s'',ES S X [] f false s ((evL F q cs H J).bind rk) e s''->E' e s'')
  (hk:∀ vs xs J' g s',xs.length=cs.length->rk xs J' ≠ .stuck->Fresh g s->Kp f [] s s'->Lk S X (f++g) J' s'.heap->VRs S X (f++g) s'.heap xs vs->(∀ c s'',QN S X [] (f++g) s' (rk xs J') c s''->Q' c s'') ->
   (∀ e s'',ES S X [] (f++g) false s' (rk xs J') e s''->E' e s'')->W vs s'):wpAny (model S.prog S.w) A (spliced (backTo pos (starEach es env))) W E' s:=by
 have hr:evL F q cs H J ≠ .stuck:=fun e=>hne (by rw [e]; rfl)
 refine wpAny_mono (h.2 env pos H f X J s A st hr) (fun a s' p=>?_) fun e s' p=>hE e s' ?_
 ·obtain ⟨b,J',g,e,hg,k,L,p⟩:=p
  have hl:=zHT e
  rw [e] at hne hQ hE
  exact hk a b J' g s' hl hne hg k L p (fun c s'' x=>hQ c s'' (QN.lifts f g s s' _ c s'' hg k x)) fun e s'' x=>hE e s'' (ES.lifts f g s s' _ e s'' hg k x)
 ·obtain ⟨c,J',g,ea,e1,e2,hg,k,L,x⟩:=p
  exact ⟨c,J',g,ea,e1,by rw [e2]; rfl,hg,k,L,x⟩
theorem zNc {es:List Expr} {cs:List CE} {pos:Pos} (hl:es.length <= 1000) (h:All2 (GOk S F q d Γ sc) es cs):NOk S F q d Γ sc (.List es pos) (.list cs):=fun env H f X J s A st hne=>by
 rw [zMb] at hne ⊢
 refine wpAny_List ?_
 refine LOk.go (.of h) st hne (fun _ _ x=>x) (fun _ _ x=>x) fun vs xs J1 g s₁ hlen hne hg k L rs hQ hE=>?_
 have:xs.length <= 1000:=by rw [hlen,<- h.len]; exact hl
 have h2:vs.length <= LIM:=by rw [<- wG rs]; unfold LIM; omega
 refine ⟨Nat.le_trans h2 zz,hQ _ _ (PE.here L ?_)⟩
 exact wE (tk:=s₁.toks) L rs (by unfold LIM; omega)
theorem zL0 {es:List Expr} {cs:List CE} {pos:Pos} {k:Nat} (hl:es.length <= 1000) (h:All2 (GOk S F q d Γ sc) es cs):EOk S F q d Γ sc (.Tuple es k pos) (.tup cs):=fun env H f X J s A st hne=>by
 rw [zMe] at hne ⊢
 refine wpAny_Tuple ?_
 refine LOk.go (.of h) st hne (fun _ _ x=>x.qs) (fun _ _ x=>x) fun vs xs J1 g s₁ hlen hne hg k L rs hQ hE=>?_
 have:xs.length <= 1000:=by rw [hlen,<- h.len]; exact hl
 have h2:vs.length <= LIM:=by rw [<- wG rs]; unfold LIM; omega
 refine ⟨Nat.le_trans h2 zz,hQ _ _ (PE.here L ?_)⟩
 exact wl (tk:=s₁.toks) L rs (by unfold LIM; omega)
theorem zNs (slice:Expr) (o i:Value):∃ ops,subscripted slice false o i=operate ops (getItem o i):=by
 cases slice with
 | Slice l u st p=>cases st <;> exact ⟨_,rfl⟩
 | _=>exact ⟨_,rfl⟩
theorem zAL {value slice:Expr} {o i:Value} {K id:String} {Q:Value->Shared->Prop} (hT:s.TypeIs o K)
  (hl:typeLookup (.type K) "__getitem__"=pure (some (.builtin id))) (h:wpAny (model S.prog S.w) A (getItem o i) Q E s) :
  wpAny (model S.prog S.w) A (subscriptTail value slice o i) Q E s:=by
 obtain ⟨ops,hs⟩:=zNs slice o i
 unfold subscriptTail
 refine wpAny_bind ?_
 rw [getitemInPython_of_ne hT.not_modules]
 refine wpAny_bind (wpAny_specialOf hT hl ?_)
 have fin:wpAny (model S.prog S.w) A (subscripted slice false o i) (fun r s₃=>wpAny (model S.prog S.w) A (letTemporaryGo value o r >>= fun _=>pure r) Q E s₃) E s:=by
  rw [hs]
  exact wpAny_operating (wpAny_mono h (fun r s₃ h₃=>wpAny_bind (wpAny_letTemporaryGo (wpAny_pure h₃))) fun _ _ x=>x)
 first
  | exact wpAny_pure (wpAny_bind fin)
  | exact wpAny_bind (wpAny_pure (wpAny_bind fin))
  | exact wpAny_bind fin
theorem zGI (fs:zb S C T) {a b x:V} {va:Value} (L:Lk S X f J s.heap) (e:ev2 .index J a b=some x) (ra:VR S X f s.heap a va) :
  ∃ K id,s.TypeIs va K /\ typeLookup (.type K) "__getitem__"=pure (some (.builtin id)):=by
 replace e:=zOQ e
 cases e with
 | str y i k c _ _ _=>obtain ⟨⟨t,rfl⟩,_⟩:=zt ra; exact ⟨"str",_,typeIs_str s y t,F.slot_str_getitem.lookup⟩
 | seq a xs i k h1 _ _ =>
  obtain ⟨p,vs,n,rfl,il | il,_⟩:=vS L h1 ra
  ·exact ⟨"list",_,⟨_,il,rfl⟩,slot_list_getitem.lookup⟩
  ·exact ⟨"tuple",_,⟨_,il,rfl⟩,slot_tuple_getitem.lookup⟩
 | dict n es i ho _ =>
  obtain ⟨l,hl,rfl⟩:=ra
  replace L:=L.obj n l _ hl ho
  obtain ⟨p,dd⟩:=l
  cases dd with
  | none=>obtain ⟨kvs,hd,_⟩:=L; exact ⟨"dict",_,hd.dictOf.typeIs,slot_dict_getitem.lookup⟩
  | some dd=>exact L.elim
 | parts y _ =>
  obtain ⟨hh,rfl⟩:=ra
  obtain ⟨d,g,e1,hd,hm,_⟩:=L.parts fs hh
  rw [e1]
  exact ⟨"dict",_,hm.typeIs,slot_dict_getitem.lookup⟩
theorem zLw (fs:zb S C T) {o i:Expr} {a b:CE} {pos:Pos} (ho:EOk S F q d Γ sc o a) (hi:EOk S F q d Γ sc i b):EOk S F q d Γ sc (.Subscript o i pos) (.p2 .index a b):=
 zOV (t:=fun v w=>subscriptTail o i v w) rfl ho hi (fun env A Q E s h=>Subscript_ h) fun X f J s A E a b x va vb _ _ L hx ra rb=>by
  obtain ⟨K,id,h1,h2⟩:=zGI fs L hx ra
  exact zAL h1 h2 (zE4 (L.parts fs) L hx ra rb)
noncomputable def PO (x:Value) (i:Option Int) (_:List Loc) (_:Shared):Prop:=IsPart x i
theorem zHi {e:Option Expr} {c:Option CE} (h:(e=none /\ c=none) \/ ∃ e' c',e=some e' /\ c=some c' /\ EOk S F q d Γ sc e' c') (env:Env) (H:List V) (st:St S q d Γ sc env H f X J s A) :
  Sim S A X [] f PO (evalPart e env) (evO F q c H J) s:=fun hne=>by
 rcases h with ⟨rfl,rfl⟩ | ⟨e',c',rfl,rfl,h⟩
 ·rw [evalPart_none,zNx]
  exact wpAny_pure (QS.here st.lk .none)
 ·rw [evalPart_some]
  rw [zEN] at hne ⊢
  refine Sim.goQ (P':=PO) (h env H f X J s A st) hne (fun _ _ x=>x) (fun _ _ x=>x) fun va a' J1 g₁ s₁ hne hg k L ra hQ hE=>?_
  obtain ⟨i,rfl⟩:=zL4 hne
  obtain ⟨t,rfl⟩:=zr ra
  exact hQ _ _ (QS.here L (.int i t))
theorem zGm {o slice:Expr} {x a:V} {va vl vh:Value} {sl:Addr} {l' h':Option Int} (L:Lk S X f J s.heap) (hx:vB J a l' h'=some x) (ra:VR S X f s.heap a va) (hs:s.heap.IsSliceOf sl vl vh .none) (rl:IsPart vl l') (rh:IsPart vh h') :
  wpAny (model S.prog S.w) A (subscriptTail o slice va (.ref sl)) (PE S X f s x) E s:=by
 have seq:∀ {xs:List V},listOf? J a=some xs->x=.lst (yC xs l' h')->wpAny (model S.prog S.w) A (subscriptTail o slice va (.ref sl)) (PE S X f s x) E s:=by
  intro xs h1 h2
  subst h2
  obtain ⟨p,vs,n,rfl,il,rs,hlen⟩:=yQ L h1 ra
  exact zAL (K:="list") ⟨_,il,rfl⟩ slot_list_getitem.lookup (zAb L il rs hlen hs rl rh)
 cases a with
 | tup xs =>
  cases hx
  obtain ⟨p,vs,n,rfl,hp,il,rs,hlen⟩:=wb ra
  exact zAL (K:="tuple") ⟨_,il,rfl⟩ slot_tuple_getitem.lookup (zAO L hp il rs hlen hs rl rh)
 | lst xs=>cases hx; exact seq rfl rfl
 | str y =>
  replace hx:(if PyData.strOk (Txt.slice y l' h')=true then some (V.str (Txt.slice y l' h')) else none)=some x:=hx
  by_cases hok:PyData.strOk (Txt.slice y l' h')=true
  ·rw [if_pos hok] at hx
   cases hx
   obtain ⟨⟨t,rfl⟩,l1,l2⟩:=zt ra
   exact zAL (K:="str") (typeIs_str _ _ _) slot_str_getitem.lookup (zBS l1 hok hs rl rh)
  ·rw [if_neg hok] at hx; exact zB hx
 | ref n =>
  delta vB at hx; dsimp only at hx; simp only [Option.map_eq_some_iff] at hx
  obtain ⟨xs,h1,h2⟩:=hx
  exact seq h1 h2.symm
 | _=>first | exact zB hx | exact zF hx | cases hx
theorem zLy {o:Expr} {lo hi:Option Expr} {a:CE} {cl ch:Option CE} {p pos:Pos} (ho:EOk S F q d Γ sc o a) (hl:(lo=none /\ cl=none) \/ ∃ e' c',lo=some e' /\ cl=some c' /\ EOk S F q d Γ sc e' c')
  (hh:(hi=none /\ ch=none) \/ ∃ e' c',hi=some e' /\ ch=some c' /\ EOk S F q d Γ sc e' c'):NOk S F q d Γ sc (.Subscript o (.Slice lo hi none p) pos) (.slice a cl ch):=fun env H f X J s A st hne=>by
 rw [zH7] at hne ⊢
 refine Subscript_ ?_
 refine Sim.goN (ho env H f X J s A st) hne (fun _ _ x=>x) (fun _ _ x=>x) fun va a' J1 g₁ s₁ hne hg k L ra hQ hE=>?_
 have st1:=st.keep hg k L
 refine wpAny_Slice ?_
 refine Sim.goN (zHi hl env H st1) hne hQ hE fun vl l' J2 g₂ s₂ hne hg₂ k₂ L₂ rl hQ hE=>?_
 have st₂:=st1.keep hg₂ k₂ L₂
 have ra2:=VR.keepK k₂ hg₂ (fun _ h=>nomatch h) ra
 refine Sim.goN (zHi hh env H st₂) hne hQ hE fun vh h' J3 g₃ s₃ hne hg₃ k₃ L₃ rh hQ hE=>?_
 have ra3:=VR.keepK k₃ hg₃ (fun _ h=>nomatch h) ra2
 rw [evalPart_none]
 refine wpAny_pure ?_
 obtain ⟨x,hx⟩:=yq hne
 rw [hx] at hQ
 have ee:=Ext.push s₃ { cls:=.type "slice",data:=.fields #[vl,vh,.none] }
 have L₄:=ee.lk L₃
 have ra4:=ee.vr ra3
 have hs:=Heap.IsSliceOf.new s₃.heap vl vh .none
 exact wpAny_mono (zGm L₄ hx ra4 hs rl rh) (fun v s' p=>hQ v s' (QN.moved ee (p.here L₄))) fun _ _ x=>x
end
end Mine
end

section
namespace Mine
open PySem PyProof.Rows
theorem zU {β:Type} {x:Str} {y:β}:∀ {l:List (Str × β)},l.lookup x=some y->(x,y) ∈ l
 | [],h=>by simp at h
 | (a,b) :: r,h=>by
  rw [List.lookup_cons] at h
  split at h
  ·rename_i e
   have:=eq_of_beq e
   cases h; subst this
   exact List.mem_cons_self
  ·exact List.mem_cons_of_mem _ (zU h)
theorem zPA:bootBuiltins "len"=some (.builtin "len"):=by kernel_rfl
theorem zO9:bootBuiltins "all"=some (.builtin "all"):=by kernel_rfl
theorem zKd:bootBuiltins "int"=some (.type "int"):=by kernel_rfl
theorem zMq:bootBuiltins "bool"=some (.type "bool"):=by kernel_rfl
theorem zPB:bootBuiltins "str"=some (.type "str"):=by kernel_rfl
theorem zG7:bootBuiltins "list"=some (.type "list"):=by kernel_rfl
theorem zET:bootBuiltins "tuple"=some (.type "tuple"):=by kernel_rfl
theorem zPC:bootBuiltins "sum"=some (.builtin "sum"):=by kernel_rfl
theorem zKf:bootBuiltins "min"=some (.builtin "min"):=by kernel_rfl
theorem zMr:bootBuiltins "str"=some (.type "str"):=by kernel_rfl
theorem zKe:bootBuiltins "max"=some (.builtin "max"):=by kernel_rfl
theorem zCb:bootBuiltins "isinstance"=some (.builtin "isinstance"):=by kernel_rfl
theorem zKg:bootBuiltins "range"=some (.type "range"):=by kernel_rfl
section
variable {S:zQ} {C:Ctx} {T:Nat->Option Fn} {F:Calls} {q:Bool} {d:Nat} {Γ:List Str} {sc:Scope}
variable {X:List Addr} {f:List Loc} {J:Sto} {s:Shared} {A:Around} {E:Value->Shared->Prop}
theorem xV (fs:zb S C T) {x:Str} {p:Pos} {v:Value} {env:Env} {H:List V} {Q:Value->Shared->Prop} (st:St S q d Γ sc env H f X J s A) (hg:isGlob sc x=true) (hn:C.fns.lookup x=none)
  (hx:x ∈ b1Names.map (·.1) \/ x ∈ b2Names.map (·.1) \/ x ∈ kindNames.map (·.1) \/ x=("isinstance" : Str) \/ x=("range" : Str)) (hv:bootBuiltins x=some v) (hd:(x==("__debug__" : Str))=false) (h:Q v s):wpAny (model S.prog S.w) A (eval (.Name x p) env) Q E s:=by
 obtain ⟨mg,mb,g1,g2,g3,g4,g5,_⟩:=fs.g
 obtain ⟨e1,e2⟩:=g5 x hx hn
 refine wpAny_Name ?_ hd
 exact jg st.fr.kind (st.fr.isGlob hg) (by rw [st.fr.glob]; exact st.lk.ns g1) e1 (by rw [st.fr.blt]; exact st.lk.ns g2) (e2.trans hv) h
theorem zCK {env:Env} {e:Expr} {pos:Pos} {Q:List Value->Shared->Prop} (hs:isStar e=false) (h:wpAny (model S.prog S.w) A (eval e env) (fun v s'=>Q [v] s') E s):wpAny (model S.prog S.w) A (spliced (backTo pos (starEach [e] env))) Q E s:=by
 rw [yH hs]
 show wpAny _ _ (spliced ((false,eval e env) :: [])) _ _ _
 exact Calls.spliced_cons (wpAny_mono h (fun v s' q=>wpAny_pure q) fun _ _ x=>x)
theorem zFV {env:Env} {e e2:Expr} {pos:Pos} {Q:List Value->Shared->Prop} (hs:isStar e=false) (hs2:isStar e2=false) (h:wpAny (model S.prog S.w) A (eval e env) (fun v s'=>wpAny (model S.prog S.w) A (eval e2 env) (fun w s''=>Q [v,w] s'') E s') E s) :
  wpAny (model S.prog S.w) A (spliced (backTo pos (starEach [e,e2] env))) Q E s:=by
 rw [yH hs,yH hs2]
 show wpAny _ _ (spliced ((false,eval e env) :: (false,eval e2 env) :: [])) _ _ _
 exact Calls.spliced_cons (wpAny_mono h (fun v s' q=>Calls.spliced_cons (wpAny_mono q (fun w s'' q=>wpAny_pure q) fun _ _ x=>x)) fun _ _ x=>x)
theorem xD {v:Value} (h:∀ a,v ≠ .ref a):zBl s v:=.inl h
theorem xb (fs:zb S C T) {x:Str} {p pos:Pos} {v:Value} {e:Expr} {c:CE} {o:P1} (hg:isGlob sc x=true) (hn:C.fns.lookup x=none)
  (hx:x ∈ b1Names.map (·.1)) (hv:bootBuiltins x=some v) (hd:(x==("__debug__" : Str))=false) (hr:∀ a,v ≠ .ref a) (h:GOk S F q d Γ sc e c)
  (op:∀ (X:List Addr) (f:List Loc) (J:Sto) (s:Shared) (A:Around) (E:Value->Shared->Prop) (a x:V) (va:Value),(jB o&&q)=false->(q=false->A.handled=none)->Lk S X f J s.heap->ev1 o J a=some x->VR S X f s.heap a va->wpAny (model S.prog S.w) A (call v [va]) (PE S X f s x) E s) :
  NOk S F q d Γ sc (.Call (.Name x p) [e] [] pos) (.p1 o c):=fun env H f X J s A st hne=>by
 rw [zKS] at hne ⊢
 by_cases hq:(jB o&&q)=true
 ·rw [if_pos hq] at hne; exact absurd rfl hne
 rw [if_neg hq] at hne ⊢
 refine wpAny_Call_NameR (xV fs st hg hn (.inl hx) hv hd ?_)
 refine ye (zq _ (by simp [h.star])) (zCK h.star ?_)
 refine Sim.goN (h.eo env H f X J s A st) hne (fun _ _ x=>x) (fun _ _ x=>x) fun va a' J1 g₁ s₁ hne hg k L ra hQ hE=>?_
 obtain ⟨x,hx⟩:=yq hne
 rw [hx] at hQ
 exact ⟨xD hr,wpAny_mono (op X _ J1 s₁ A _ a' x va (by simpa using hq) st.cx.hand L hx ra) (fun v s' p=>hQ v s' (p.here L)) fun _ _ x=>x⟩
theorem zBb {o:P1} (hl:jB o=true) (h1:(jB o&&q)=false) (h2:q=false->A.handled=none):A.handled=none:=h2 (by rw [hl,Bool.true_and] at h1; exact h1)
theorem zOU (fs:zb S C T) {x:Str} {p pos:Pos} {e:Expr} {c:CE} {o:P1} (hg:isGlob sc x=true) (hn:C.fns.lookup x=none) (ho:b1Names.lookup x=some o) (h:GOk S F q d Γ sc e c) :
  NOk S F q d Γ sc (.Call (.Name x p) [e] [] pos) (.p1 o c):=by
 have hm:=zU ho
 have hm':x ∈ b1Names.map (·.1):=List.mem_map_of_mem hm
 simp only [b1Names,List.mem_cons,Prod.mk.injEq,List.not_mem_nil,or_false] at hm
 rcases hm with ⟨rfl,rfl⟩ | hm
 ·exact xb fs hg hn hm' zPA (by decide) (by simp) h fun X f J s A E a x va _ _ L hx ra=>zIe L hx ra
 rcases hm with ⟨rfl,rfl⟩ | hm
 ·exact xb fs hg hn hm' zKd (by decide) (by simp) h fun X f J s A E a x va _ _ L hx ra=>zFf hx ra
 rcases hm with ⟨rfl,rfl⟩ | hm
 ·exact xb fs hg hn hm' zMr (by decide) (by simp) h fun X f J s A E a x va _ _ L hx ra=>zFh hx ra
 rcases hm with ⟨rfl,rfl⟩ | hm
 ·exact xb fs hg hn hm' zKf (by decide) (by simp) h fun X f J s A E a x va h1 h2 L hx ra=>zIo (zBb rfl h1 h2) L hx ra
 rcases hm with ⟨rfl,rfl⟩ | hm
 ·exact xb fs hg hn hm' zKe (by decide) (by simp) h fun X f J s A E a x va h1 h2 L hx ra=>zIj (zBb rfl h1 h2) L hx ra
 rcases hm with ⟨rfl,rfl⟩ | hm
 ·exact xb fs hg hn hm' zO9 (by decide) (by simp) h fun X f J s A E a x va h1 h2 L hx ra=>zIC (zBb rfl h1 h2) L hx ra
 rcases hm with ⟨rfl,rfl⟩ | hm
 ·exact xb fs hg hn hm' zG7 (by decide) (by simp) h fun X f J s A E a x va _ _ L hx ra=>zEJ L hx ra
 rcases hm with ⟨rfl,rfl⟩ | hm
 ·exact xb fs hg hn hm' zET (by decide) (by simp) h fun X f J s A E a x va _ _ L hx ra=>zFi L hx ra
 obtain ⟨rfl,rfl⟩:=hm
 exact xb fs hg hn hm' zPC (by decide) (by simp) h fun X f J s A E a x va h1 h2 L hx ra=>zKP (zBb rfl h1 h2) L hx ra
theorem zFJ (fs:zb S C T) {x:Str} {p pos:Pos} {v:Value} {e e2:Expr} {c c2:CE} {o:P2} (hg:isGlob sc x=true) (hn:C.fns.lookup x=none)
  (hx:x ∈ b2Names.map (·.1)) (hv:bootBuiltins x=some v) (hd:(x==("__debug__" : Str))=false) (hr:∀ a,v ≠ .ref a) (s1:isStar e=false) (s2:isStar e2=false) (h:EOk S F q d Γ sc e c) (h2:EOk S F q d Γ sc e2 c2)
  (op:∀ (X:List Addr) (f:List Loc) (J:Sto) (s:Shared) (A:Around) (E:Value->Shared->Prop) (a b x:V) (va vb:Value),(vK o&&q)=false->(q=false->A.handled=none)->Lk S X f J s.heap->ev2 o J a b=some x->VR S X f s.heap a va->VR S X f s.heap b vb->wpAny (model S.prog S.w) A (call v [va,vb]) (PE S X f s x) E s) :
  EOk S F q d Γ sc (.Call (.Name x p) [e,e2] [] pos) (.p2 o c c2):=fun env H f X J s A st hne=>by
 rw [zMc] at hne ⊢
 by_cases hq:(vK o&&q)=true
 ·rw [if_pos hq] at hne; exact absurd rfl hne
 rw [if_neg hq] at hne ⊢
 refine wpAny_Call_NameR (xV fs st hg hn (.inr (.inl hx)) hv hd ?_)
 refine ye (zq _ (by simp [s1,s2])) (zFV s1 s2 ?_)
 refine Sim.goN (h env H f X J s A st) hne (fun _ _ x=>x.qs) (fun _ _ x=>x) fun va a' J1 g₁ s₁ hne hg k L ra hQ hE=>?_
 refine Sim.goN (h2 env H _ X J1 s₁ A (st.keep hg k L)) hne hQ hE fun vb b' J2 g₂ s₂ hne hg₂ k₂ L₂ rb hQ hE=>?_
 obtain ⟨x,hx⟩:=yq hne
 rw [hx] at hQ
 exact ⟨xD hr,wpAny_mono (op X _ J2 s₂ A _ a' b' x va vb (by simpa using hq) st.cx.hand L₂ hx (VR.keepK k₂ hg₂ (fun _ h=>nomatch h) ra) rb) (fun v s' p=>hQ v s' (p.here L₂)) fun _ _ x=>x⟩
theorem zRV (fs:zb S C T) {x:Str} {p pos:Pos} {e e2:Expr} {c c2:CE} {o:P2} (hg:isGlob sc x=true) (hn:C.fns.lookup x=none) (ho:b2Names.lookup x=some o) (s1:isStar e=false) (s2:isStar e2=false) (h:EOk S F q d Γ sc e c) (h2:EOk S F q d Γ sc e2 c2) :
  EOk S F q d Γ sc (.Call (.Name x p) [e,e2] [] pos) (.p2 o c c2):=by
 have hm:=zU ho
 have hm':x ∈ b2Names.map (·.1):=List.mem_map_of_mem hm
 simp only [b2Names,List.mem_cons,Prod.mk.injEq,List.not_mem_nil,or_false] at hm
 rcases hm with ⟨rfl,rfl⟩ | ⟨rfl,rfl⟩
 ·exact zFJ fs hg hn hm' zKf (by decide) (by simp) s1 s2 h h2 fun X f J s A E a b x va vb h1 h2 L hx ra rb=>by
   have hh:A.handled=none:=h2 h1
   obtain ⟨i,j,rfl,rfl⟩:=kU hx
   cases hx
   obtain ⟨t,rfl⟩:=zr ra
   obtain ⟨u,rfl⟩:=zr rb
   exact zGR hh
 ·exact zFJ fs hg hn hm' zKe (by decide) (by simp) s1 s2 h h2 fun X f J s A E a b x va vb h1 h2 L hx ra rb=>by
   have hh:A.handled=none:=h2 h1
   obtain ⟨i,j,rfl,rfl⟩:=kU hx
   cases hx
   obtain ⟨t,rfl⟩:=zr ra
   obtain ⟨u,rfl⟩:=zr rb
   exact zGQ hh
theorem zLS {k:Str} {kd:Kd} (hm:(k,kd) ∈ kindNames):bootBuiltins k=some (.type (zMR kd)) /\ (k==("__debug__" : Str))=false
  /\ ∀ c,kd=.exc c->False:=by
 simp only [kindNames,List.mem_cons,Prod.mk.injEq,List.not_mem_nil,or_false] at hm
 rcases hm with ⟨rfl,rfl⟩ | ⟨rfl,rfl⟩ | ⟨rfl,rfl⟩ | ⟨rfl,rfl⟩ | ⟨rfl,rfl⟩
 ·exact ⟨zKd,by decide,by simp⟩
 ·exact ⟨zMq,by decide,by simp⟩
 ·exact ⟨zPB,by decide,by simp⟩
 ·exact ⟨zG7,by decide,by simp⟩
 ·exact ⟨zET,by decide,by simp⟩
theorem zKA (fs:zb S C T) {k:Str} {p pk pos:Pos} {e:Expr} {c:CE} {kd:Kd} (hg:isGlob sc "isinstance"=true) (hn:C.fns.lookup ("isinstance" : Str)=none) (hk:kindOf? C k=some kd) (hgk:isGlob sc k=true) (hs:isStar e=false) (h:EOk S F q d Γ sc e c) :
  EOk S F q d Γ sc (.Call (.Name ("isinstance" : Str) p) [e,.Name k pk] [] pos) (.p1 (.isInst kd) c):=fun env H f X J s A st hne=>by
 rw [zKS,show jB (.isInst kd)=false from rfl,Bool.false_and,if_neg (by simp)] at hne ⊢
 unfold kindOf? at hk
 split at hk
 ·first | exact zB hk | exact zF hk | cases hk
 rename_i hnk
 have hnk:C.fns.lookup k=none:=Option.not_isSome_iff_eq_none.mp hnk
 have hm:=zU hk
 have hm':k ∈ kindNames.map (·.1):=List.mem_map_of_mem hm
 have hv:=zLS hm
 refine wpAny_Call_NameR (xV fs st hg hn (.inr (.inr (.inr (.inl rfl)))) zCb (by decide) ?_)
 refine ye (zq _ (by rw [List.any_cons,hs]; rfl)) (zFV hs rfl ?_)
 refine Sim.goN (h env H f X J s A st) hne (fun _ _ x=>x.qs) (fun _ _ x=>x) fun va a' J1 g₁ s₁ hne hg k L ra hQ hE=>?_
 refine xV fs (st.keep hg k L) hgk hnk (.inr (.inr (.inl hm'))) hv.1 hv.2.1 ?_
 obtain ⟨x,hx⟩:=yq hne
 rw [hx] at hQ
 exact ⟨xD (by simp),wpAny_mono (zD2 hv.2.2 L hx ra) (fun v s' p=>hQ v s' (p.here L)) fun _ _ x=>x⟩
theorem zNa (fs:zb S C T) (FSs:FS S F q d) {x:Str} {n:Nat} {p pos:Pos} {es:List Expr} {cs:List CE} (hg:isGlob sc x=true) (hd:(x==("__debug__" : Str))=false) (hn:C.fns.lookup x=some n) (h:All2 (GOk S F q d Γ sc) es cs) :
  EOk S F q d Γ sc (.Call (.Name x p) es [] pos) (.call n cs):=fun env H f X J s A st hne=>by
 rw [zMY] at hne ⊢
 have hr:evL F q cs H J ≠ .stuck:=fun e=>hne (by rw [e]; rfl)
 obtain ⟨mg,mb,g1,g2,g3,g4,_⟩:=fs.g
 refine wpAny_Call_NameR (wpAny_Name (wS st.fr.kind (st.fr.isGlob hg) (by rw [st.fr.glob]; exact st.lk.ns g1) (g4 x n hn) ?_) hd)
 have hl:=LOk.of h
 refine ye (zq _ hl.1) ?_
 refine Sim.goQ (P':=PV S X) (hl.2 env pos H f X J s A st) hne (fun _ _ x=>x) (fun _ _ x=>x) fun vs xs J1 g₁ s₁ hne hg k L rs hQ hE=>?_
 obtain ⟨⟨o,fd,h1,h2⟩,h3⟩:=FSs n xs J1 _ X A s₁ vs (st.keep hg k L).cx.call L rs hne
 refine ⟨.inr ⟨_,o,fd,rfl,L.base _ _ h1,h2⟩,wpAny_call ?_⟩
 refine codeAny_mono h3 fun r s' hq=>?_
 match r,hq with
 | .ok (.ret v),hq=>exact hQ v s' hq
 | .error e,hq=>exact hE e s' hq
end
end Mine
end

section
namespace Mine
open PySem PyProof.Rows
section
variable {S:zQ} {C:Ctx} {T:Nat->Option Fn} {F:Calls} {q:Bool} {d:Nat} {Γ:List Str} {sc:Scope}
variable {X X' Y Z:List Addr} {f g:List Loc} {J:Sto} {s s':Shared} {A:Around} {E:Value->Shared->Prop} {I a:Addr} {its:Items} {i:Nat}
structure Mv (I:Addr) (s s':Shared):Prop where
 rest:s'={ s with heap:=s'.heap,toks:=s'.toks }
 keep:∀ b o,b ≠ I->s.heap.get? b=some o->s'.heap.get? b=some o
 live:∃ o,s'.heap.get? I=some o
 dic:∀ o es n,s.heap.get? I=some o->o.data=.dict es n->∃ o' es' n',s'.heap.get? I=some o' /\ o'.data=.dict es' n'
theorem Mv.kp (m:Mv I s s') (hI:I ∈ Y):Kp f Y s s':=
 ⟨m.rest,fun a o e=>(by
   by_cases h:a=I
   ·rw [h]; exact m.live
   ·exact ⟨o,m.keep a o h e⟩),fun a o e _ h=>⟨o,m.keep a o (fun q=>h (q ▸ hI)) e,.refl o⟩,
  fun a o es n e d _=>(by
   by_cases h:a=I
   ·subst h; exact m.dic o es n e d
   ·exact ⟨o,es,n,m.keep a o h e,d⟩)⟩
theorem Mv.vr (m:Mv I s s') (hI:I ∈ X) {x:V} {v:Value} (r:VR S X f s.heap x v):VR S X f s'.heap x v:=
 VR.keep (fun _ _ e=>e) (fun a o h h1 h2=>⟨⟨h1,h2⟩,o,m.keep a o (fun q=>h2 (q ▸ hI)) h,.refl o⟩) x v r
theorem Mv.vrs (m:Mv I s s') (hI:I ∈ X) {x:List V} {v:List Value} (r:VRs S X f s.heap x v):VRs S X f s'.heap x v:=
 VRs.keep (fun _ _ e=>e) (fun a o h h1 h2=>⟨⟨h1,h2⟩,o,m.keep a o (fun q=>h2 (q ▸ hI)) h,.refl o⟩) x v r
theorem Mv.lk (m:Mv I s s') (hI:I ∈ X) (L:Lk S X f J s.heap):Lk S X f J s'.heap where
 base b o h:=m.keep b o (fun q=>by rw [q,(L.hid I hI).1] at h; cases h) (L.base b o h)
 len:=L.len
 nodup:=L.nodup
 fresh:=L.fresh
 hid a ha:=⟨(L.hid a ha).1,(L.hid a ha).2.1,(by
  by_cases h:a=I
  ·rw [h]; exact m.live
  ·obtain ⟨o,e⟩:=(L.hid a ha).2.2; exact ⟨o,m.keep a o h e⟩)⟩
 obj i l o hi ho:=(L.obj i l o hi ho).keep (fun _ _=>m.vr hI) (fun _ _=>m.vrs hI) fun a ha=>by
  obtain ⟨ob,h⟩:=L.live (yD hi ha)
  rw [h]; exact m.keep a ob (fun q=>(L.hid I hI).2.1 (q ▸ yD hi ha)) h
theorem VR.drop {h h':Heap} (hX:∀ a ∈ X',a ∈ X) (hZ:∀ a ∈ Z,a ∈ X) (k:∀ b o,b ∉ Z->h.get? b=some o->h'.get? b=some o) {x:V} {v:Value} (r:VR S X f h x v):VR S X' f h' x v:=
 VR.keep (fun _ _ e=>e) (fun a o h h1 h2=>⟨⟨h1,fun q=>h2 (hX a q)⟩,o,k a o (fun q=>h2 (hZ a q)) h,.refl o⟩) x v r
theorem VRs.drop {h h':Heap} (hX:∀ a ∈ X',a ∈ X) (hZ:∀ a ∈ Z,a ∈ X) (k:∀ b o,b ∉ Z->h.get? b=some o->h'.get? b=some o) {x:List V} {v:List Value} (r:VRs S X f h x v):VRs S X' f h' x v:=
 VRs.keep (fun _ _ e=>e) (fun a o h h1 h2=>⟨⟨h1,fun q=>h2 (hX a q)⟩,o,k a o (fun q=>h2 (hZ a q)) h,.refl o⟩) x v r
theorem Lk.drop {h h':Heap} (L:Lk S X f J h) (hX:∀ a ∈ X',a ∈ X /\ a ∉ Z) (hZ:∀ a ∈ Z,a ∈ X) (k:∀ b o,b ∉ Z->h.get? b=some o->h'.get? b=some o):Lk S X' f J h' where
 base b o q:=k b o (fun z=>by rw [(L.hid b (hZ b z)).1] at q; cases q) (L.base b o q)
 len:=L.len
 nodup:=L.nodup
 fresh:=L.fresh
 hid a ha:=⟨(L.hid a (hX a ha).1).1,(L.hid a (hX a ha).1).2.1,let ⟨o,e⟩:=(L.hid a (hX a ha).1).2.2; ⟨o,k a o (hX a ha).2 e⟩⟩
 obj i l o hi ho:=(L.obj i l o hi ho).keep (fun _ _=>VR.drop (fun a ha=>(hX a ha).1) hZ k) (fun _ _=>VRs.drop (fun a ha=>(hX a ha).1) hZ k) fun a ha=>by
  obtain ⟨ob,h⟩:=L.live (yD hi ha)
  rw [h]; exact k a ob (fun z=>(L.hid a (hZ a z)).2.1 (yD hi ha)) h
theorem Kp.ends {s₁:Shared} (k:Kp f Y s s₁) (hr:s'={ s₁ with heap:=s'.heap,toks:=s'.toks }) (hk:∀ b o,b ∉ Z->s₁.heap.get? b=some o->s'.heap.get? b=some o) (hZ:∀ a ∈ Z,s.heap.get? a=none):Kp f Y s s' where
 rest:=by rw [hr,k.rest]
 live a o e:=let ⟨o₁,e₁⟩:=k.live a o e; ⟨o₁,hk a o₁ (fun h=>by rw [hZ a h] at e; cases e) e₁⟩
 kept a o e h1 h2:=by
  obtain ⟨o₁,e₁,q₁⟩:=k.kept a o e h1 h2
  exact ⟨o₁,hk a o₁ (fun h=>by rw [hZ a h] at e; cases e) e₁,q₁⟩
 dicts a o es n e d h1:=by
  obtain ⟨o₁,es1,n₁,e₁,d₁⟩:=k.dicts a o es n e d h1
  exact ⟨o₁,es1,n₁,hk a o₁ (fun h=>by rw [hZ a h] at e; cases e) e₁,d₁⟩
noncomputable def ItAt (S:zQ) (X:List Addr) (f:List Loc) (h:Heap) (I:Addr):Items->Nat->Prop
 | .now xs,i=>(∃ ax items n,h.IsListIter I ax i /\ (ax ∉ addrs f /\ ax ∉ X) /\ IsL h ax items n /\ VRs S X f h xs items.toList) \/
   (∃ ax items n,h.IsTupleIter I ax i /\ (ax ∉ addrs f /\ ax ∉ X) /\ IsT h ax items n /\ VRs S X f h xs items.toList) \/
   (∃ lo hi:Int,xs=zl lo hi /\ IsRangeIter h I (lo+i) (((hi - lo).toNat:Int) - i) 1) \/
   (∃ y t,xs=yV y /\ y.cps.all (· < 128)=true /\ h.IsStrIter I "str_ascii_iterator" y t i)
 | .live n,i=>∃ ax,f[n]?=some (ax,none) /\ h.IsListIter I ax i
 | .keys _ _,_=>False
theorem zHf {h h':Heap} {N:Addr} {m:Str->Option Value} (x:h.Ns N m) (k:∀ o,h.get? N=some o->h'.get? N=some o):h'.Ns N m:=by
 obtain ⟨o,es,ep,e,r⟩:=x; exact ⟨o,es,ep,k o e,r⟩
theorem zNS {h h':Heap} {N:Addr} {m:Str->Option Value} (x:h.Ns N m) (k:∀ o,h.get? N=some o->∃ o',h'.get? N=some o' /\ SameObj o o'):h'.Ns N m:=by
 obtain ⟨o,es,ep,e,d,r⟩:=x
 obtain ⟨o',e',q⟩:=k o e
 exact ⟨o',es,ep,e',q.data.trans d,r⟩
theorem zFG {N:Addr} {s:Shared} {h':Heap} {tk:Nat} {m:Str->Option Value} (x:h'.Ns N m) (k:∀ b,b ≠ N->h'.get? b=s.heap.get? b):Mv N s { s with heap:=h',toks:=tk }:=by
 obtain ⟨o,es,ep,e,d,_⟩:=x
 exact ⟨rfl,fun b _ hb z=>(k b hb).trans z,⟨o,e⟩,fun _ _ _ _ _=>⟨o,es,ep,e,d⟩⟩
theorem zLV {n i:Nat} (h:i < n):(n:Int) - (i:Int) > 0:=Int.sub_pos_of_lt (Int.ofNat_lt.mpr h)
theorem zId {n i:Nat} (h:n <= i):(n:Int) - (i:Int) <= 0:=Int.sub_nonpos_of_le (Int.ofNat_le.mpr h)
theorem zGg {lo hi:Int} {x:V} (h:(zl lo hi)[i]?=some x):x=.int (lo+i) /\ i < (hi - lo).toNat:=by
 simp only [zl,List.getElem?_map,Option.map_eq_some_iff] at h
 obtain ⟨k,hk,rfl⟩:=h
 have:=List.getElem?_range (n:=(hi - lo).toNat) (i:=i)
 by_cases hlt:i < (hi - lo).toNat
 ·rw [this hlt] at hk; cases hk; exact ⟨rfl,hlt⟩
 ·rw [List.getElem?_eq_none (by rw [List.length_range]; exact Nat.le_of_not_lt hlt)] at hk; first | exact zB hk | exact zF hk | cases hk
theorem zGf {lo hi:Int} (h:(zl lo hi)[i]?=none):(hi - lo).toNat <= i:=by
 simp only [zl,List.getElem?_map,Option.map_eq_none_iff] at h
 simpa using h
theorem kz {h h':Heap} {ax:Addr} (x:h.IsListIter I ax i) (k:∀ o,h.get? I=some o->∃ o',h'.get? I=some o' /\ SameObj o o'):h'.IsListIter I ax i:=by
 obtain ⟨o,e,c,dt⟩:=x
 obtain ⟨o',e',q⟩:=k o e
 exact ⟨o',e',q.cls.trans c,q.data.trans dt⟩
theorem zEK {h h':Heap} {ax:Addr} (x:h.IsTupleIter I ax i) (k:∀ o,h.get? I=some o->∃ o',h'.get? I=some o' /\ SameObj o o'):h'.IsTupleIter I ax i:=by
 obtain ⟨o,e,c,dt⟩:=x
 obtain ⟨o',e',q⟩:=k o e
 exact ⟨o',e',q.cls.trans c,q.data.trans dt⟩
theorem zEI {h h':Heap} {c:String} {y:Str} {t:Tok} (x:h.IsStrIter I c y t i) (k:∀ o,h.get? I=some o->∃ o',h'.get? I=some o' /\ SameObj o o'):h'.IsStrIter I c y t i:=by
 obtain ⟨o,e,c,dt⟩:=x
 obtain ⟨o',e',q⟩:=k o e
 exact ⟨o',e',q.cls.trans c,q.data.trans dt⟩
theorem zEc {y:Str} {x:V} (h:(yV y)[i]?=some x):∃ c,y.cps[i]?=some c /\ x=.str ⟨#[c]⟩:=by
 unfold yV zR at h
 rw [List.getElem?_map] at h
 cases e:y.cps.toList[i]? with
 | none=>rw [e] at h; first | exact zB h | exact zF h | cases h
 | some c=>rw [e] at h; cases h; exact ⟨c,by rw [<- Array.getElem?_toList]; exact e,rfl⟩
theorem zEb {y:Str} (h:(yV y)[i]?=none):y.cps[i]?=none:=by
 unfold yV zR at h
 rw [List.getElem?_map] at h
 cases e:y.cps.toList[i]? with
 | none=>rw [<- Array.getElem?_toList]; exact e
 | some c=>rw [e] at h; first | exact zB h | exact zF h | cases h
theorem ItAt.keep {h h':Heap} {f':List Loc} (kf:∀ (i:Nat) (l:Loc),f[i]?=some l->f'[i]?=some l)
  (kh:∀ a o,h.get? a=some o->a ∉ addrs f->a ∉ X->(a ∉ addrs f' /\ a ∉ X') /\ ∃ o',h'.get? a=some o' /\ SameObj o o')
  (kI:∀ o,h.get? I=some o->∃ o',h'.get? I=some o' /\ SameObj o o') (x:ItAt S X f h I its i):ItAt S X' f' h' I its i:=by
 cases its with
 | now xs =>
  rcases x with ⟨ax,items,n,h1,h2,h3,h4⟩ | ⟨ax,items,n,h1,h2,h3,h4⟩ | ⟨lo,hi,h1,h2⟩ | ⟨y,t,h1,h2,h3⟩
  ·obtain ⟨q1,o',q2,q3⟩:=kh ax _ h3 h2.1 h2.2
   exact .inl ⟨ax,items,n,kz h1 kI,q1,q2.trans (congrArg some (q3.exact fun _ _ q=>by cases q)),VRs.keep kf kh _ _ h4⟩
  ·obtain ⟨q1,o',q2,q3⟩:=kh ax _ h3 h2.1 h2.2
   exact .inr (.inl ⟨ax,items,n,zEK h1 kI,q1,q2.trans (congrArg some (q3.exact fun _ _ q=>by cases q)),VRs.keep kf kh _ _ h4⟩)
  ·obtain ⟨o',q2,q3⟩:=kI _ h2
   exact .inr (.inr (.inl ⟨lo,hi,h1,q2.trans (congrArg some (q3.exact fun _ _ q=>by cases q))⟩))
  ·exact .inr (.inr (.inr ⟨y,t,h1,h2,zEI h3 kI⟩))
 | live n =>
  obtain ⟨ax,h1,h2⟩:=x
  exact ⟨ax,kf _ _ h1,kz h2 kI⟩
 | keys _ _=>exact x.elim
theorem ItAt.keepK (k:Kp f [] s s') (hg:Fresh g s) (hI:I ∈ X) (hXf:∀ a ∈ X,a ∉ addrs f) (x:ItAt S X f s.heap I its i):ItAt S X (f++g) s'.heap I its i:=
 ItAt.keep (f:=f) (f':=f++g) (X:=X) (X':=X) (h:=s.heap) (fun _ _ e=>List.getElem?_append_left (List.getElem?_eq_some_iff.mp e).1 ▸ e)
  (fun a o ho h1 h2=>⟨⟨fun h=>(mem_addrs_append.mp h).elim h1 (yT hg ho),h2⟩,k.kept a o ho h1 fun h=>nomatch h⟩) (fun o ho=>k.kept I o ho (hXf I hI) fun h=>nomatch h) x
theorem ItAt.mv (m:Mv a s s') (ha:a ∈ X) (hne:I ≠ a) (x:ItAt S X f s.heap I its i):ItAt S X f s'.heap I its i:=
 ItAt.keep (fun _ _ e=>e) (fun b o ho h1 h2=>⟨⟨h1,h2⟩,o,m.keep b o (fun q=>h2 (q ▸ ha)) ho,.refl o⟩) (fun o ho=>⟨o,m.keep I o hne ho,.refl o⟩) x
theorem ItAt.hideNew (e:Ext s s') (hn:s.heap.get? a=none) (x:ItAt S X f s.heap I its i):ItAt S (a :: X) f s'.heap I its i:=
 ItAt.keep (fun _ _ e=>e) (fun b ob q h1 h2=>⟨⟨h1,fun h=>(List.mem_cons.mp h).elim (fun h=>by subst h; rw [hn] at q; cases q) h2⟩,ob,e.keep b ob q,.refl ob⟩) (fun o ho=>⟨o,e.keep I o ho,.refl o⟩) x
theorem ji {h':Heap} {t:Nat} {o:Obj} (hs:Heap.SameBut I s.heap h') (hl:h'.get? I=some o) (hd:∀ o es n,s.heap.get? I=some o->o.data ≠ .dict es n):Mv I s { s with heap:=h',toks:=t }:=
 ⟨rfl,fun b o hb e=>(hs.2 b hb).trans e,⟨o,hl⟩,fun o es n e d=>absurd d (hd o es n e)⟩
inductive zOq (S:zQ) (X:List Addr) (f:List Loc) (I:Addr) (its:Items) (i:Nat) (x:V) (s:Shared) (r:Option Value) (s':Shared):Prop
 | mk (v:Value) (e:r=some v) (m:Mv I s s') (it:ItAt S X f s'.heap I its (i+1)) (rv:VR S X f s'.heap x v)
theorem zC1 {x:V} (hI:I ∈ X) (L:Lk S X f J s.heap) (it:ItAt S X f s.heap I its i) (hn:yL J its i=some (some x)) :
  wpAny (model S.prog S.w) A (pyNext (.ref I)) (zOq S X f I its i x s) E s:=by
 cases its with
 | now xs =>
  have hx:xs[i]?=some x:=by simpa [yL] using hn
  rcases it with ⟨ax,items,n,h1,h2,h3,h4⟩ | ⟨ax,items,n,h1,h2,h3,h4⟩ | ⟨lo,hi,rfl,h2⟩ | ⟨y,t,rfl,h2,h3⟩
  ·obtain ⟨v,hv,rv⟩:=kX h4 hx
   refine wpAny_pyNext_list_item h1 (IsL.isList h3) (by simpa using hv) fun h' hit' hs'=>?_
   obtain ⟨o1,e1,_,d1⟩:=id h1
   obtain ⟨o2,e2,_⟩:=id hit'
   have m:Mv I s { s with heap:=h' }:=ji (t:=s.toks) hs' e2 fun o es n e d=>by rw [e1] at e; cases e; rw [d1] at d; cases d
   have hne:ax ≠ I:=fun q=>h2.2 (q ▸ hI)
   exact ⟨v,rfl,m,.inl ⟨ax,items,n,hit',h2,m.keep ax _ hne h3,m.vrs hI h4⟩,m.vr hI rv⟩
  ·obtain ⟨v,hv,rv⟩:=kX h4 hx
   refine wpAny_pyNext_tuple_item h1 ⟨_,h3,rfl,n,rfl⟩ (by simpa using hv) fun h' hit' hs'=>?_
   obtain ⟨o1,e1,_,d1⟩:=id h1
   obtain ⟨o2,e2,_⟩:=id hit'
   have m:Mv I s { s with heap:=h' }:=ji (t:=s.toks) hs' e2 fun o es n e d=>by rw [e1] at e; cases e; rw [d1] at d; cases d
   have hne:ax ≠ I:=fun q=>h2.2 (q ▸ hI)
   exact ⟨v,rfl,m,.inr (.inl ⟨ax,items,n,hit',h2,m.keep ax _ hne h3,m.vrs hI h4⟩),m.vr hI rv⟩
  ·obtain ⟨rfl,hlt⟩:=zGg hx
   refine wpAny_pyNext_range_item h2 (zLV hlt) fun h' hit' hs'=>?_
   have m:Mv I s { s with heap:=h',toks:=s.toks+1 }:=ji hs' hit' fun o es n e d=>by rw [h2] at e; cases e; cases d
   refine ⟨_,rfl,m,.inr (.inr (.inl ⟨lo,hi,rfl,?_⟩)),⟨_,rfl⟩⟩
   have e1:lo+((i+1:Nat):Int)=lo+i+1:=(Int.add_assoc lo (i:Int) 1).symm
   have e2:(((hi - lo).toNat:Int) - ((i+1:Nat):Int))=((hi - lo).toNat:Int) - i - 1:=(Int.sub_sub ((hi - lo).toNat:Int) (i:Int) 1).symm
   rw [e1,e2]; exact hit'
  ·obtain ⟨c,hc,rfl⟩:=zEc hx
   refine wpAny_pyNext_ascii_item h3 hc fun h' hit' hs'=>?_
   obtain ⟨o1,e1,_,d1⟩:=id h3
   obtain ⟨o2,e2,_⟩:=id hit'
   have m:Mv I s { s with heap:=h',toks:=s.toks+1 }:=ji hs' e2 fun o es n e d=>by rw [e1] at e; cases e; rw [d1] at d; cases d
   have hlt:c < 128:=by
    have:=(Array.all_eq_true'.mp h2) c (Array.mem_of_getElem? hc)
    simpa using this
   refine ⟨_,rfl,m,.inr (.inr (.inr ⟨y,t,rfl,h2,hit'⟩)),?_⟩
   refine ⟨⟨_,rfl⟩,by show 1 <= LIM; decide,?_⟩
   show (#[c]:Array Nat).all (· < 0x110000)=true
   have:=Nat.lt_trans hlt (show 128 < 0x110000 by decide)
   simp [this]
 | live n =>
  obtain ⟨ax,h1,h2⟩:=it
  delta yL at hn; dsimp only at hn
  split at hn
  ·rename_i xs ho
   have hx:xs[i]?=some x:=by simpa using hn
   obtain ⟨vs,k,il,rs,hl⟩:=L.obj n (ax,none) _ h1 ho
   obtain ⟨v,hv,rv⟩:=kX rs hx
   refine wpAny_pyNext_list_item h2 (IsL.isList il) (by simpa using hv) fun h' hit' hs'=>?_
   obtain ⟨o1,e1,_,d1⟩:=id h2
   obtain ⟨o2,e2,_⟩:=id hit'
   have m:Mv I s { s with heap:=h' }:=ji (t:=s.toks) hs' e2 fun o es n e d=>by rw [e1] at e; cases e; rw [d1] at d; cases d
   exact ⟨v,rfl,m,⟨ax,h1,hit'⟩,m.vr hI rv⟩
  ·first | exact zB hn | exact zF hn | cases hn
 | keys _ _=>exact it.elim
theorem zFH (hh:A.handled=none) (L:Lk S X f J s.heap) (it:ItAt S X f s.heap I its i) (hn:yL J its i=some none) :
  wpAny (model S.prog S.w) A (pyNext (.ref I)) (fun r s'=>r=none /\ s'={ s with heap:=s'.heap,toks:=s'.toks } /\ ∀ b o,b ≠ I->s.heap.get? b=some o->s'.heap.get? b=some o) E s:=by
 cases its with
 | now xs =>
  have hx:xs[i]?=none:=by simpa [yL] using hn
  rcases it with ⟨ax,items,n,h1,h2,h3,h4⟩ | ⟨ax,items,n,h1,h2,h3,h4⟩ | ⟨lo,hi,rfl,h2⟩ | ⟨y,t,rfl,h2,h3⟩
  ·have:items[i]?=none:=by
    have z:=zf h4
    rw [List.getElem?_eq_none_iff] at hx
    exact Array.getElem?_eq_none_iff.mpr (by rw [z]; exact hx)
   exact wpAny_pyNext_list_end hh h1 (IsL.isList h3) this fun h' he=>⟨rfl,rfl,he⟩
  ·have:items[i]?=none:=by
    have z:=zf h4
    rw [List.getElem?_eq_none_iff] at hx
    exact Array.getElem?_eq_none_iff.mpr (by rw [z]; exact hx)
   exact wpAny_pyNext_tuple_end hh h1 ⟨_,h3,rfl,n,rfl⟩ this fun h' he=>⟨rfl,rfl,he⟩
  ·have:=zGf hx
   exact wpAny_pyNext_range_end hh h2 (zId this) fun h' he=>⟨rfl,rfl,he⟩
  ·exact wpAny_pyNext_ascii_end hh h3 (zEb hx) fun h' he=>⟨rfl,rfl,he⟩
 | live n =>
  obtain ⟨ax,h1,h2⟩:=it
  delta yL at hn; dsimp only at hn
  split at hn
  ·rename_i xs ho
   have hx:xs[i]?=none:=by simpa using hn
   obtain ⟨vs,k,il,rs,hl⟩:=L.obj n (ax,none) _ h1 ho
   have:vs[i]?=none:=by
    have z:=zf rs
    rw [List.getElem?_eq_none_iff] at hx
    exact Array.getElem?_eq_none_iff.mpr (by rw [z]; exact hx)
   exact wpAny_pyNext_list_end hh h2 (IsL.isList il) this fun h' he=>⟨rfl,rfl,he⟩
  ·first | exact zB hn | exact zF hn | cases hn
 | keys _ _=>exact it.elim
end
end Mine
end

section
namespace Mine
open PySem PyProof.Rows
inductive QI (S:zQ) (X:List Addr) (f:List Loc) (s:Shared) (r:R Items) (it:Value) (s':Shared):Prop where
 | mk (its:Items) (J':Sto) (g:List Loc) (I:Addr) (e1:r=.ok its J') (e2:it=.ref I) (hI:s.heap.get? I=none) (hX:I ∉ X) (hg:Fresh g s) (k:Kp f [] s s') (L:Lk S (I :: X) (f++g) J' s'.heap) (x:ItAt S (I :: X) (f++g) s'.heap I its 0)
section
variable {S:zQ} {C:Ctx} {T:Nat->Option Fn} {F:Calls} {q:Bool} {d:Nat} {Γ:List Str} {sc:Scope}
variable {X X' Y Z:List Addr} {f g:List Loc} {J:Sto} {s s':Shared} {A:Around} {E:Value->Shared->Prop} {I a:Addr} {its:Items} {i:Nat}
theorem QI.lifts:zCf [] (fun f s r a s'=>QI S X f s r a s'):=fun f g s s₁ r c s' hg k q=>by
 obtain ⟨its,J',g',I,e1,e2,e3,e4,hg',k',L,x⟩:=q
 rw [List.append_assoc] at L x
 exact ⟨its,J',g++g',I,e1,e2,zo k.live e3,e4,hg.trans k.live hg',k.trans hg k',L,x⟩
theorem QI.made {o:Obj} {t:Nat} (L:Lk S X f J s.heap) (x:ItAt S (s.heap.objs.size :: X) f (s.heap.push o) s.heap.objs.size its 0) (hl:(s.heap.push o).get? s.heap.objs.size=some o) :
  QI S X f s (.ok its J) (.ref s.heap.objs.size) { s with heap:=s.heap.push o,toks:=t }:=by
 have ex:Ext s { s with heap:=s.heap.push o,toks:=t }:=.heap fun _ _ e=>Heap.get?_push_of_some _ e
 refine ⟨its,J,[],s.heap.objs.size,rfl,rfl,yn _,(L.new (yn _)).2,.nil s,ex.kp f [],?_,?_⟩
 ·rw [List.append_nil]; exact L.hideNew ex (yn _) hl
 ·rw [List.append_nil]; exact x
theorem QI.moved {r:R Items} {v:Value} {s₁:Shared} (e:Ext s s₁) (h:QI S X f s₁ r v s'):QI S X f s r v s':=
 QI.lifts f [] s s₁ r v s' (.nil s) (e.kp f []) (by rwa [List.append_nil])
theorem zFl {o:Obj} {xs:List V} {vs:List Value} (r:VRs S X f s.heap xs vs):VRs S (s.heap.objs.size :: X) f (s.heap.push o) xs vs:=
 VRs.hideNew (s':={ s with heap:=s.heap.push o }) (Ext.push s o) (yn _) r
theorem zGL {v:V} {w:Value} (L:Lk S X f J s.heap) (hi:zT J .val [v]=some its) (r:VR S X f s.heap v w):wpAny (model S.prog S.w) A (pyIter w) (QI S X f s (.ok its J)) E s:=by
 cases v with
 | tup xs =>
  cases hi
  obtain ⟨p,vs,n,rfl,hp,il,rs,hlen⟩:=wb r
  refine wpAny_pyIter_tuple ⟨_,il,rfl,n,rfl⟩ (QI.made (t:=s.toks) L (.inr (.inl ⟨p,vs,n,⟨_,Heap.get?_push_size _ rfl,rfl,rfl⟩,⟨hp.1,?_⟩,Heap.get?_push_of_some _ il,zFl rs⟩)) (Heap.get?_push_size _ rfl))
  exact fun h=>(List.mem_cons.mp h).elim (fun h=>by have:=yn s.heap; rw [<- h,il] at this; cases this) hp.2
 | lst xs =>
  cases hi
  obtain ⟨p,vs,n,rfl,hp,il,rs,hlen⟩:=r
  refine wpAny_pyIter_list (IsL.isList il) (QI.made (t:=s.toks) L (.inl ⟨p,vs,n,⟨_,Heap.get?_push_size _ rfl,rfl,rfl⟩,⟨hp.1,?_⟩,Heap.get?_push_of_some _ il,zFl rs⟩) (Heap.get?_push_size _ rfl))
  exact fun h=>(List.mem_cons.mp h).elim (fun h=>by have:=yn s.heap; rw [<- h,il] at this; cases this) hp.2
 | ref n =>
  replace hi:zAI n J[n]?=some its:=hi
  unfold zAI at hi
  split at hi
  ·rename_i xs ho
   cases hi
   obtain ⟨l,hl,rfl⟩:=r
   have:=L.obj n l _ hl ho
   obtain ⟨p,dd⟩:=l
   cases dd with
   | none =>
    obtain ⟨vs,k,il,rs,hlen⟩:=this
    exact wpAny_pyIter_list (IsL.isList il) (QI.made (t:=s.toks) L ⟨p,hl,⟨_,Heap.get?_push_size _ rfl,rfl,rfl⟩⟩ (Heap.get?_push_size _ rfl))
   | some dd=>exact this.elim
  ·first | exact zB hi | exact zF hi | cases hi
 | str y =>
  obtain ⟨⟨t,rfl⟩,_⟩:=zt r
  replace hi:(if y.cps.all (· < 128)=true then some (Items.now (yV y)) else none)=some its:=hi
  split at hi
  ·rename_i ha
   cases hi
   exact wpAny_pyIter_ascii ha (QI.made (t:=s.toks) L (.inr (.inr (.inr ⟨y,t,rfl,ha,⟨_,Heap.get?_push_size _ rfl,rfl,rfl⟩⟩))) (Heap.get?_push_size _ rfl))
  ·first | exact zB hi | exact zF hi | cases hi
 | _=>first | exact zB hi | exact zF hi | cases hi
noncomputable def zA9 (S:zQ) (F:Calls) (q:Bool) (d:Nat) (Γ:List Str) (sc:Scope) (e:Expr) (k:SK) (cs:List CE):Prop:=(∀ env x,foldedSetIterable e env x=pure x) /\
 ∀ (env:Env) (H:List V) (f:List Loc) (X:List Addr) (J:Sto) (s:Shared) (A:Around),St S q d Γ sc env H f X J s A ->
  ((evL F q cs H J).bind fun vs J=>R.lift J (zT J k vs)) ≠ .stuck ->
  wpAny (model S.prog S.w) A (eval e env) (fun x s₁=>wpAny (model S.prog S.w) A (pyIter x) (QI S X f s ((evL F q cs H J).bind fun vs J=>R.lift J (zT J k vs))) (ES S X [] f false s ((evL F q cs H J).bind fun vs J=>R.lift J (zT J k vs))) s₁)
   (ES S X [] f false s ((evL F q cs H J).bind fun vs J=>R.lift J (zT J k vs))) s
theorem zNo {e:Expr} {c:CE} (h:GOk S F q d Γ sc e c):zA9 S F q d Γ sc e .val [c]:=by
 refine ⟨h.fold,fun env H f X J s A st hne=>?_⟩
 have key:((evL F q [c] H J).bind fun vs J=>R.lift J (zT J .val vs))=(evE F q c H J).bind fun v J=>R.lift J (zT J .val [v]):=by
  rw [jT,R.bind_assoc]
  congr 1
 rw [key] at hne ⊢
 refine Sim.go (K:=fun f s r a s'=>QI S X f s r a s') QI.lifts (h.eo env H f X J s A st) hne (fun _ _ x=>x) (fun _ _ x=>x) fun va a' J1 g₁ s₁ hne hg k L ra hQ hE=>?_
 obtain ⟨its,hi⟩:=yq hne
 rw [hi] at hQ
 exact wpAny_mono (zGL L hi ra) hQ fun _ _ x=>x
theorem zL9 {lo:Int} (h0:0 <= lo) (h1:lo <= LIM):-(2 ^ 62) <= lo /\ lo < 2 ^ 62:=⟨Int.le_trans (by decide) h0,Int.lt_of_le_of_lt h1 (by decide)⟩
theorem zL8 {hi:Int} (h2:hi.natAbs <= LIM):-(2 ^ 62) <= hi /\ hi < 2 ^ 62:=by
 have h:=Int.ofNat_le.mpr h2
 have a:hi <= (hi.natAbs:Int):=Int.le_natAbs
 have b:-hi <= (hi.natAbs:Int):=by rw [<- Int.natAbs_neg]; exact Int.le_natAbs
 exact ⟨Int.neg_le_of_neg_le (Int.le_trans (Int.le_trans b h) (by decide)),Int.lt_of_le_of_lt (Int.le_trans a h) (by decide)⟩
theorem zP3 {lo hi:Int}:(if lo < hi then hi - lo else (0:Int))=((hi - lo).toNat:Int) - ((0:Nat):Int):=by
 by_cases h:lo < hi
 ·rw [if_pos h,Int.toNat_of_nonneg (Int.sub_nonneg_of_le (Int.le_of_lt h))]; exact (Int.sub_zero _).symm
 ·rw [if_neg h,Int.toNat_of_nonpos (Int.sub_nonpos_of_le (Int.not_lt.mp h))]; rfl
theorem zGh {lo hi:Int} {t u v:Tok} (L:Lk S X f J s.heap) (h0:0 <= lo) (h1:lo <= LIM) (h2:hi.natAbs <= LIM) :
  wpAny (model S.prog S.w) A (pyIter (.ref s.heap.objs.size)) (QI S X f s (.ok (.now (zl lo hi)) J)) E { s with heap:=s.heap.push { cls:=.type "range",data:=.fields #[.int lo t,.int hi u,.int 1 v] },toks:=s.toks }:=by
 have hL:LIM=1048576:=rfl
 have ex:Ext s { s with heap:=s.heap.push { cls:=.type "range",data:=.fields #[.int lo t,.int hi u,.int 1 v] },toks:=s.toks }:=.heap fun _ _ e=>Heap.get?_push_of_some _ e
 refine wpAny_pyIter_range (IsRange.new ..) (small_one (zL9 h0 h1).1 (zL9 h0 h1).2 (zL8 h2).1 (zL8 h2).2) (QI.moved ex (QI.made (t:=s.toks) (ex.lk L) (.inr (.inr (.inl ⟨lo,hi,rfl,?_⟩))) (Heap.get?_push_size _ rfl)))
 have e1:Builtin.Range.rangeSize lo hi 1=((hi - lo).toNat:Int) - ((0:Nat):Int):=by rw [rangeSize_one]; exact zP3
 have e2:lo+((0:Nat):Int)=lo:=by simp
 show IsRangeIter _ _ (lo+((0:Nat):Int)) _ 1
 rw [<- e1,e2]
 exact Heap.get?_push_size _ rfl
theorem zKN (fs:zb S C T) {p pos:Pos} {es:List Expr} {cs:List CE} {k:SK} (hg:isGlob sc "range"=true) (hn:C.fns.lookup ("range" : Str)=none) (h:All2 (GOk S F q d Γ sc) es cs)
  (hk:(k=.range1 /\ cs.length=1) \/ False):zA9 S F q d Γ sc (.Call (.Name ("range" : Str) p) es [] pos) k cs:=by
 refine ⟨fun _ _=>rfl,fun env H f X J s A st hne=>?_⟩
 have hl:=LOk.of h
 refine wpAny_Call_NameR (xV fs st hg hn (.inr (.inr (.inr (.inr rfl)))) zKg (by decide) ?_)
 refine ye (zq _ hl.1) ?_
 refine Sim.go (K:=fun f s r a s'=>QI S X f s r a s') QI.lifts (hl.2 env pos H f X J s A st) hne (fun _ _ x=>x) (fun _ _ x=>x) fun vs xs J1 g₁ s₁ hne hg k L rs hQ hE=>?_
 refine ⟨xD (by simp),?_⟩
 obtain ⟨its,hi⟩:=yq hne
 rw [hi] at hQ
 have hL:LIM=1048576:=rfl
 rcases hk with ⟨rfl,_⟩ | hk
 ·obtain ⟨n,rfl⟩:∃ n,xs=[.int n]:=by
   rcases xs with _ | ⟨x,_ | ⟨y,_ | ⟨z,r⟩⟩⟩
   ·first | exact zB hi | exact zF hi | cases hi
   ·cases x <;> first | exact ⟨_,rfl⟩ | cases hi
   ·first | exact zB hi | exact zF hi | cases hi
   ·first | exact zB hi | exact zF hi | cases hi
  match vs,rs with
  | [w],rs =>
   obtain ⟨t,rfl⟩:=zr rs.1
   replace hi:(if n.natAbs <= LIM then some (Items.now (zl 0 n)) else none)=some its:=hi
   split at hi
   ·rename_i hb
    cases hi
    refine call_range_1 ?_
    have ex:Ext s₁ { s₁ with toks:=s₁.toks+1+1 }:=.toks s₁ _
    exact wpAny_mono (zGh (s:={ s₁ with toks:=s₁.toks+1+1 }) L (Int.le_refl 0) (by decide) hb) (fun v s'' x=>hQ v s'' (QI.moved ex x)) fun _ _ x=>x
   ·first | exact zB hi | exact zF hi | cases hi
  | [],rs=>exact False.elim rs
  | _ :: _ :: _,rs=>exact False.elim rs.2
 ·exact hk.elim
end
end Mine
end

section
namespace Mine
open PySem PyProof.Rows
section
variable {S:zQ} {C:Ctx} {T:Nat->Option Fn} {F:Calls} {q:Bool} {d:Nat} {Γ:List Str} {sc:Scope}
variable {X X' Y Z:List Addr} {f g:List Loc} {J:Sto} {s s':Shared} {A:Around} {E:Value->Shared->Prop} {I a:Addr} {its:Items} {i:Nat} {env:Env} {H:List V}
theorem zFx {l:Addr} {items:Array Value} {n:Nat} {x:Value} {Q:Value->Shared->Prop} (hl:IsL s.heap l items n) (h:Q .none { s with heap:=s.heap.update l (Obj.mapSeq (·.push x)) }) (hsz:items.size <= sizeLine) :
  wpAny (model S.prog S.w) A (call (.builtin "list.append") [.ref l,x]) Q E s:=by
 refine wpAny_call_entry slot_list_append (IsL.isList hl).typeIs entry_list_append ?_ (args_list_append _ _)
 show wpAny _ _ (updateSeq l (·.push x) >>= fun _=>ret .none) _ _ s
 refine wpAny_bind ?_
 have hz':(items.push x).size <= sizeLine+1:=by rw [Array.size_push]; omega
 exact wpAny_updateSeq hl rfl (wpAny_pure ⟨.none,rfl,h⟩) (hz:=hsz) (_hz':=hz')
theorem IsL.appended {h:Heap} {l:Addr} {items:Array Value} {n:Nat} {x:Value} (hl:IsL h l items n):∃ n',IsL (h.update l (Obj.mapSeq (·.push x))) l (items.push x) n':=⟨_,IsL.update hl _⟩
theorem jF:∀ (names:List (Str × NameKind)) (cs:List (Str × Addr)),(∀ n,(n,NameKind.free) ∈ names->∃ c,env.cells.lookup n=some c)->(∀ y c,cs.lookup y=some c->env.cells.lookup y=some c) ->
  ∃ cl,(forIn names cs (fun x r=>do
    let __x <- pure PUnit.unit
    match x with
    | (name,kind)=>if (kind==.free)=true then do let y <- cellOf env name; pure (ForInStep.yield ((name,y) :: r)) else pure (ForInStep.yield r)):Sem (List (Str × Addr)))=pure cl /\ (∀ y c,cl.lookup y=some c->env.cells.lookup y=some c) /\
   (∀ y,(cs.lookup y).isSome=true->(cl.lookup y).isSome=true) /\ ∀ y,(y,NameKind.free) ∈ names->(cl.lookup y).isSome=true
 | [],cs,_,h2=>⟨cs,rfl,h2,fun _ h=>h,fun _ h=>nomatch h⟩
 | (n,k) :: r,cs,h1,h2=>by
  have h1':∀ n,(n,NameKind.free) ∈ r->∃ c,env.cells.lookup n=some c:=fun n hn=>h1 n (List.mem_cons_of_mem _ hn)
  by_cases hk:k=.free
  ·subst hk
   obtain ⟨c,hc⟩:=h1 n List.mem_cons_self
   obtain ⟨cl,e1,e2,e3,e4⟩:=jF r ((n,c) :: cs) h1' (fun y c' e=>by
    rw [List.lookup_cons] at e
    split at e
    ·rename_i hy; rw [eq_of_beq hy]; cases e; exact hc
    ·exact h2 y c' e)
   refine ⟨cl,?_,e2,fun y hy=>e3 y ?_,fun y hy=>?_⟩
   ·rw [List.forIn_cons]
    simp only [cellOf,hc]
    exact e1
   ·rw [List.lookup_cons]; split
    ·rfl
    ·exact hy
   ·rcases List.mem_cons.mp hy with e | hy
    ·cases e; exact e3 n (by simp)
    ·exact e4 y hy
  ·obtain ⟨cl,e1,e2,e3,e4⟩:=jF r cs h1' h2
   refine ⟨cl,?_,e2,e3,fun y hy=>?_⟩
   ·rw [List.forIn_cons]
    have:(k==NameKind.free)=false:=by simpa using hk
    simp only [this]
    exact e1
   ·rcases List.mem_cons.mp hy with e | hy
    ·cases e; exact absurd rfl hk
    ·exact e4 y hy
theorem zF4 {scope:Scope} (h:∀ n,(n,NameKind.free) ∈ scope.names->∃ c,env.cells.lookup n=some c):∃ cl,closureFor scope env=pure cl /\ ∀ y,(y,NameKind.free) ∈ scope.names->∃ c,cl.lookup y=some c /\ env.cells.lookup y=some c:=by
 obtain ⟨cl,e1,e2,_,e4⟩:=jF (env:=env) scope.names [] h (fun y c e=>by simp at e)
 refine ⟨cl,?_,fun y hy=>?_⟩
 ·simp only [closureFor]
  have:=e1
  simp only [pure_bind,bind_pure] at this ⊢
  exact this
 ·obtain ⟨c,hc⟩:=Option.isSome_iff_exists.mp (e4 y hy)
  exact ⟨c,hc,e2 y c hc⟩
end
end Mine
end

section
namespace Mine
open PySem PyProof.Rows
theorem kP {env:Env} {scope:Scope} (x:Str):(relabel scope env).names.lookup x=scope.names.lookup x \/ (scope.names.lookup x=some .free /\ (relabel scope env).names.lookup x=some .cell):=by
 show (scope.names.map fun (n,k)=>if (k==NameKind.free&&env.scope.kind==.function&&env.kindOf n==some .cell) then (n,NameKind.cell) else (n,k)).lookup x=_ \/ (_ /\ (scope.names.map fun (n,k)=>if (k==NameKind.free&&env.scope.kind==.function&&env.kindOf n==some .cell) then (n,NameKind.cell) else (n,k)).lookup x=some .cell)
 generalize scope.names=names
 induction names with
 | nil=>exact .inl rfl
 | cons p r ih =>
  obtain ⟨n,k⟩:=p
  simp only [List.map_cons]
  by_cases hc:(k==NameKind.free&&env.scope.kind==.function&&env.kindOf n==some .cell)=true
  ·rw [if_pos hc]
   rw [List.lookup_cons,List.lookup_cons]
   have hk:k=.free:=by simp only [Bool.and_eq_true] at hc; exact eq_of_beq hc.1.1
   split
   ·exact .inr ⟨by rw [hk],rfl⟩
   ·exact ih
  ·rw [if_neg hc]
   rw [List.lookup_cons,List.lookup_cons]
   split
   ·exact .inl rfl
   ·exact ih
section
variable {S:zQ} {C:Ctx} {T:Nat->Option Fn} {F:Calls} {q:Bool} {d:Nat} {Γ:List Str} {sc:Scope}
variable {X X' Y Z:List Addr} {f g:List Loc} {J:Sto} {s s':Shared} {A:Around} {E:Value->Shared->Prop} {I a:Addr} {its:Items} {i:Nat} {env:Env} {H:List V}
theorem vU (x y:Str):∀ (Γ:List Str),yB y (Γ++[x])=if x==y then some Γ.length else yB y Γ
 | []=>by simp [yB]
 | z :: Γ=>by
  simp only [List.cons_append,yB,vU x y Γ]
  by_cases h:(x==y)=true
  ·simp [h]
  ·simp [h]
theorem jO {y:Str}:∀ {Γ:List Str} {i:Nat},yB y Γ=some i->i < Γ.length
 | [],i,h=>by simp [yB] at h
 | z :: Γ,i,h=>by
  simp only [yB] at h
  split at h
  ·rename_i j hj; cases h; have:=jO hj; simp; omega
  ·split at h
   ·cases h; simp
   ·first | exact zB h | exact zF h | cases h
theorem vV {y:Str}:∀ {Γ:List Str} {i:Nat},yB y Γ=some i->y ∈ Γ
 | [],i,h=>by simp [yB] at h
 | z :: Γ,i,h=>by
  simp only [yB] at h
  split at h
  ·rename_i j hj; exact List.mem_cons_of_mem _ (vV hj)
  ·split at h
   ·rename_i e; rw [eq_of_beq e]; exact List.mem_cons_self
   ·first | exact zB h | exact zF h | cases h
structure vN (Γ:List Str) (sc scope:Scope) (x:Str):Prop where
 kind:scope.kind=.function
 self:scope.names.lookup x=some .local
 cell:∀ p ∈ scope.names,p.2 ≠ .cell
 loc:∀ p ∈ scope.names,p.2=.local->(p.1=x \/ p.1 ∉ Γ) /\ scope.names.lookup p.1=some .local
 free:∀ p ∈ scope.names,p.2=.free->sc.names.lookup p.1=some .cell \/ sc.names.lookup p.1=some .free
theorem zIP {scope:Scope} {x:Str} (h:zF5 Γ sc scope x=true):vN Γ sc scope x:=by
 unfold zF5 at h
 simp only [Bool.and_eq_true,List.all_eq_true,Bool.not_eq_true'] at h
 obtain ⟨⟨⟨⟨h1,h2⟩,h3⟩,h4⟩,h5⟩:=h
 refine ⟨eq_of_beq h1,eq_of_beq h2,fun p hp e=>?_,fun p hp e=>?_,fun p hp e=>?_⟩
 ·have:=h5 p hp
  rw [e] at this; cases this
 ·have:=h5 p hp
  rw [e] at this
  simp only [Bool.and_eq_true,Bool.or_eq_true] at this
  refine ⟨this.1.elim (fun q=>.inl (eq_of_beq q)) fun q=>.inr ?_,eq_of_beq this.2⟩
  rw [eq_of_beq q]
  intro hm
  rw [List.contains_iff_mem.mpr hm] at h3
  cases h3
 ·have:=h5 p hp
  rw [e] at this
  simp only [Bool.or_eq_true] at this
  exact this.elim (fun q=>.inl (eq_of_beq q)) fun q=>.inr (eq_of_beq q)
theorem FR.cellKind {h:Heap} (fr:FR S X f h env Γ sc H) {y:Str} (hy:sc.names.lookup y=some .cell \/ sc.names.lookup y=some .free):yh (env.kindOf y):=by
 rcases fr.names y with e | ⟨_,e⟩
 ·rw [e]; exact hy
 ·exact .inl e
theorem FR.comp {h:Heap} {scope:Scope} {x:Str} {cl:List (Str × Addr)} {D:Addr} {m:Str->Option Value} {v:V} {w:Value} (fr:FR S X f h env Γ sc H) (ok:vN Γ sc scope x)
  (hcl:∀ y,(y,NameKind.free) ∈ scope.names->∃ c,cl.lookup y=some c /\ env.cells.lookup y=some c) (hD:D ∈ X) (hn:h.Ns D m) (hm:m x=some w) (r:VR S X f h v w) :
  FR S X f h (compEnvC scope cl D env) (Γ++[x]) scope (H++[v]):=by
 have names:∀ y,(compEnvC scope cl D env).kindOf y=scope.names.lookup y \/ (scope.names.lookup y=some .free /\ (compEnvC scope cl D env).kindOf y=some .cell):=fun y=>kP y
 have freeOf:∀ y,yh ((compEnvC scope cl D env).kindOf y)->(y,NameKind.free) ∈ scope.names:=fun y hy=>by
  rcases names y with e | ⟨e,_⟩
  ·rw [e] at hy
   rcases hy with e' | e'
   ·exact absurd rfl (ok.cell _ (zU e'))
   ·exact zU e'
  ·exact zU e
 refine ⟨ok.kind,fr.glob,fr.blt,names,⟨hD,m,hn⟩,fun y hy=>?_,fun y i v' hv hi hv' hne=>?_,by simp [fr.len]⟩
 ·obtain ⟨c,e1,e2⟩:=hcl y (freeOf y hy)
  obtain ⟨c',o,e3,e4,e5⟩:=fr.cells y (fr.cellKind (ok.free _ (freeOf y hy) rfl))
  rw [e2] at e3; cases e3
  exact ⟨c,o,e1,e4,e5⟩
 ·rw [vU] at hi
  by_cases hxy:(x==y)=true
  ·rw [if_pos hxy] at hi
   cases hi
   have e:=eq_of_beq hxy
   subst e
   rw [<- fr.len,List.getElem?_append_right (Nat.le_refl _)] at hv'
   simp at hv'
   subst hv'
   refine ⟨w,.inl ⟨?_,m,hn,hm⟩,r⟩
   rcases names x with e | ⟨e,_⟩
   ·exact e.trans ok.self
   ·rw [ok.self] at e; cases e
  ·rw [if_neg hxy] at hi
   have hlt:=jO hi
   rw [List.getElem?_append_left (by rw [fr.len]; exact hlt)] at hv'
   have hfree:(y,NameKind.free) ∈ scope.names:=by
    rcases zE8 hv with e | e | e
    ·rcases (ok.loc _ (zU e) rfl).1 with e' | e'
     ·exact absurd (by rw [show x=y from e'.symm]; simp) hxy
     ·exact absurd (vV hi) e'
    ·exact absurd rfl (ok.cell _ (zU e))
    ·exact zU e
   have hsc:=ok.free _ hfree rfl
   have hv2:zBH sc y=true:=by
    unfold zBH
    rcases hsc with e | e <;> simp only at e <;> rw [e]
   obtain ⟨w',n,r'⟩:=fr.vals y i v' hv2 hi hv' hne
   obtain ⟨c,e1,e2⟩:=hcl y hfree
   refine ⟨w',.inr ⟨?_,c,e1,?_⟩,r'⟩
   ·rcases names y with e | ⟨_,e⟩
    ·rw [e]
     rcases zE8 hv with e' | e' | e'
     ·rcases (ok.loc _ (zU e') rfl).1 with e'' | e''
      ·exact absurd (by rw [show x=y from e''.symm]; simp) hxy
      ·exact absurd (vV hi) e''
     ·exact .inl e'
     ·exact .inr e'
    ·exact .inl e
   ·rcases n with ⟨k1,_⟩ | ⟨_,c',e3,e4⟩
    ·have:=fr.cellKind hsc
     rw [k1] at this
     rcases this with h | h <;> cases h
    ·rw [e2] at e3; cases e3; exact e4
theorem FR.keepY (fr:FR S X f s.heap env Γ sc H) (hXf:∀ a ∈ X,a ∉ addrs f) (k:Kp f Y s s') (hg:Fresh g s) (hYX:∀ a ∈ Y,a ∈ X) (hl:env.locals ∉ Y) (hc:∀ x c,yh (env.kindOf x)->env.cells.lookup x=some c->c ∉ Y):FR S X (f++g) s'.heap env Γ sc H:=by
 have hcf:∀ x c,env.cells.lookup x=some c->yh (env.kindOf x)->c ∉ addrs f:=fun x c e hk=>by
  obtain ⟨c',o,e',hX,_⟩:=fr.cells x hk
  rw [e] at e'; cases e'
  exact hXf c hX
 refine ⟨fr.kind,fr.glob,fr.blt,fr.names,⟨fr.loc.1,let ⟨m,h⟩:=fr.loc.2; ⟨m,zCv k (hXf _ fr.loc.1) hl h⟩⟩,fun x hx=>?_,fun x i v h1 h2 h3 h4=>?_,fr.len⟩
 ·obtain ⟨c,o,e,hX,h⟩:=fr.cells x hx
  exact ⟨c,o,e,hX,zD4 k (hcf x c e hx) (hc x c hx e) h⟩
 ·obtain ⟨w,h5,h6⟩:=fr.vals x i v h1 h2 h3 h4
  exact ⟨w,h5.keep k ⟨hXf _ fr.loc.1,hl⟩ fun x c e hk=>⟨hcf x c e hk,hc x c hk e⟩,h6.keepK k hg hYX⟩
inductive QC {α β:Type} (S:zQ) (X Y:List Addr) (f:List Loc) (P:α->β->List Loc->Shared->Prop) (s:Shared) (b:β) (J':Sto) (a:α) (s':Shared):Prop
 | mk (g:List Loc) (hg:Fresh g s) (k:Kp f Y s s') (L:Lk S X (f++g) J' s'.heap) (p:P a b (f++g) s')
inductive zRr {α β γ:Type} (S:zQ) (A:Around) (X Y:List Addr) (f:List Loc) (P:α->β->List Loc->Shared->Prop) (t:Sem α) (r:R β) (rk:β->Sto->R γ) (s:Shared):Prop
 | mk (b:β) (J':Sto) (e:r=.ok b J') (ek:r.calm.bind rk=rk b J') (hne:rk b J' ≠ .stuck) (w:∀ E,wpAny (model S.prog S.w) A t (QC S X Y f P s b J') E s)
theorem Sim.calm {α β γ:Type} {P:α->β->List Loc->Shared->Prop} {t:Sem α} {r:R β} {rk:β->Sto->R γ} (h:Sim S A X Y f P t r s) (hne:r.calm.bind rk ≠ .stuck) :
  zRr S A X Y f P t r rk s:=by
 cases r with
 | ok b J' =>
  refine ⟨b,J',rfl,rfl,hne,fun E=>wpAny_mono (h (by simp)) (fun a s' q=>?_) fun e s' q=>?_⟩
  ·obtain ⟨b',J'',g,e,hg,k,L,p⟩:=q
   cases e
   exact ⟨g,hg,k,L,p⟩
  ·obtain ⟨_,_,_,_,_,e,_⟩:=q; cases e
 | exc _ _=>exact absurd rfl hne
 | stuck=>exact absurd rfl hne
end
end Mine
end

section
namespace Mine
open PySem PyProof.Rows
section
variable {S:zQ} {C:Ctx} {T:Nat->Option Fn} {F:Calls} {q:Bool} {d:Nat} {Γ:List Str} {sc:Scope}
variable {X X' Y Z:List Addr} {f g:List Loc} {J:Sto} {s s':Shared} {A:Around} {E:Value->Shared->Prop} {I a:Addr} {its:Items} {i:Nat} {env:Env} {H:List V}
theorem FR.later (fr:FR S X f s.heap env Γ sc H) (L:Lk S X f J s.heap) (k:Kp f [] s s') (hg:Fresh g s) (hX':∀ a ∈ X',a ∈ X \/ s.heap.get? a=none) (hXX:∀ a ∈ X,a ∈ X'):FR S X' (f++g) s'.heap env Γ sc H:=by
 have fr':FR S X' f s.heap env Γ sc H:=⟨fr.kind,fr.glob,fr.blt,fr.names,⟨hXX _ fr.loc.1,fr.loc.2⟩,fun x hx=>(by obtain ⟨c,o,e,hX,h⟩:=fr.cells x hx; exact ⟨c,o,e,hXX c hX,h⟩),
  fun x i v h1 h2 h3 h4=>(by obtain ⟨w,h5,h6⟩:=fr.vals x i v h1 h2 h3 h4; exact ⟨w,h5,h6.more hX'⟩),fr.len⟩
 exact fr'.keepY (fun a ha=>(hX' a ha).elim (fun h=>(L.hid a h).2.1) fun h=>(L.new h).1) k hg (fun a h=>nomatch h) (fun h=>nomatch h) fun _ _ _ _ h=>nomatch h
theorem zIb {Q:Value->Shared->Prop} (x:ItAt S X f s.heap I its i) (h:Q (.ref I) s):wpAny (model S.prog S.w) A (pyIter (.ref I)) Q E s:=by
 cases its with
 | now xs =>
  rcases x with ⟨ax,items,n,h1,h2,h3,h4⟩ | ⟨ax,items,n,h1,h2,h3,h4⟩ | ⟨lo,hi,rfl,h2⟩ | ⟨y,t,rfl,h2,h3⟩
  ·exact wpAny_pyIter_listiter h1 h
  ·exact wpAny_pyIter_tupleiter h1 h
  ·exact wpAny_pyIter_rangeiter h2 h
  ·exact wpAny_pyIter_striter_ascii h3 h
 | live n=>obtain ⟨ax,h1,h2⟩:=x; exact wpAny_pyIter_listiter h2 h
 | keys _ _=>exact x.elim
theorem Kp.mv {s₁:Shared} (k:Kp f Y s s₁) (m:Mv a s₁ s') (hn:s.heap.get? a=none):Kp f Y s s':=
 k.ends (Z:=[a]) m.rest (fun b o hb e=>m.keep b o (fun q=>hb (q ▸ List.mem_singleton.mpr rfl)) e) fun b hb=>List.mem_singleton.mp hb ▸ hn
theorem ExcR.drop1 {h h' h₀:Heap} {ea:Addr} {k:Cls} {N:Addr} {m:Str->Option Value} (x:ExcR S (N :: X) f J h h₀ ea k) (ns:h.Ns N m) (hNX:N ∉ X) (hs:Heap.SameBut N h h'):ExcR S X f J h' h₀ ea k:=by
 obtain ⟨e1,ec,hs',oe,vs,L,e4,e5,e6,e8⟩:=x
 obtain ⟨oN,es,ep,eN,dN,_⟩:=ns
 have rcd:∀ {a:Addr} {o:Obj} {ts:Array Value},h.get? a=some o->o.data=.fields ts->a ≠ N:=fun h1 h2 q=>by
  rw [q,eN] at h1; cases h1; rw [dN] at h2; cases h2
 have hN:N ∉ hs':=by
  rcases e8 with ⟨rfl,_⟩ | ⟨T,oT,ts,rfl,_,_,_,t3,t4,_⟩
  ·exact fun q=>rcd e4 e6 (List.mem_singleton.mp q).symm
  ·exact fun q=>(List.mem_cons.mp q).elim (fun q=>rcd e4 e6 q.symm) fun q=>rcd t3 t4 (List.mem_singleton.mp q).symm
 have kk:∀ b o,b ∉ [N]->h.get? b=some o->h'.get? b=some o:=fun b o hb e=>(hs.2 b fun q=>hb (q ▸ List.mem_singleton.mpr rfl)).trans e
 have L':Lk S (hs'++X) f J h':=L.drop (Z:=[N]) (fun a ha=>(List.mem_append.mp ha).elim (fun q=>⟨List.mem_append_left _ q,fun z=>hN (List.mem_singleton.mp z ▸ q)⟩) fun q=>⟨List.mem_append_right _ (List.mem_cons_of_mem _ q),fun z=>hNX (List.mem_singleton.mp z ▸ q)⟩)
  (fun a ha=>List.mem_append_right _ (List.mem_singleton.mp ha ▸ List.mem_cons_self)) kk
 refine ⟨e1,ec,hs',oe,vs,L',kk _ _ (fun q=>rcd e4 e6 (List.mem_singleton.mp q)) e4,e5,e6,e8.imp id ?_⟩
 rintro ⟨T,oT,ts,t0,t1,t2,t3,t4,t5,t6⟩
 exact ⟨T,oT,ts,t0,t1,t2,t3,kk _ _ (fun q=>rcd t4 t5 (List.mem_singleton.mp q)) t4,t5,t6⟩
theorem zEf {M:Model} {s0:Shared} {f0:List Loc} {ea:Addr} {k:Cls} {N:Addr} {m:Str->Option Value} {oe:Obj} {vs:Array Value} {T:Addr} {what:String} (hN:s0.heap.get? N=none) (hNX:N ∉ X) (hX:∀ a ∈ X,∃ o,s0.heap.get? a=some o) (kp:Kp f0 Y s0 s) (x:ExcR S (N :: X) f J s.heap s0.heap ea k) (ns:s.heap.Ns N m)
  (p1:s.heap.get? ea=some oe) (p2:oe.data=.fields vs) (p3:vs[1]?=some (.ref T)) (hE:∀ s',Kp f0 Y s0 s'->Lk S X f J s'.heap->ExcR S X f J s'.heap s0.heap ea k->E (.ref ea) s') :
  ∃ m,s.heap.Ns N m /\ ∀ h',Heap.SameBut N s.heap h'->∀ cenv:Env,cenv.locals=N->wpAny M A (PySem.passOn what (.ref ea) cenv:Sem Value) (fun _ _=>False) E { s with heap:=h' }:=by
 refine ⟨m,ns,fun h' hs cenv _=>?_⟩
 have x':=x.drop1 ns hNX hs
 have hne:ea ≠ N:=fun q=>by
  obtain ⟨oN,es,ep,eN,dN,_⟩:=ns
  rw [q,eN] at p1; cases p1; rw [dN] at p2; cases p2
 have kp':Kp f0 Y s0 { s with heap:=h' }:=kp.ends (Z:=[N]) rfl (fun b o hb e=>(hs.2 b fun q=>hb (q ▸ List.mem_singleton.mpr rfl)).trans e) fun b hb=>List.mem_singleton.mp hb ▸ hN
 unfold PySem.passOn
 refine wpAny_bind (wpAny_field (s:={ s with heap:=h' }) ((hs.2 ea hne).trans p1) p2 p3 ?_)
 rw [if_neg (show ¬ ((Value.ref T==Value.none)=true) from by simp)]
 exact wpAny_bind (xu (s:={ s with heap:=h' }) x' hX fun h₂ hs₂ hf2 N2 L2 x2=>wpAny_throw (hE _ (N2.kp kp' hf2) L2 x2))
noncomputable def yE (F:Calls) (q:Bool) (elt:CE) (cond:Option CE) (H:List V) (x:V) (acc:List V) (J:Sto):R (List V):=
 (evC F q cond (H++[x]) J).calm.bind fun t J=>if t then (evE F q elt (H++[x]) J).calmE.bind fun y J=>(if acc.length < LIM then .ok (acc++[y]) J else .stuck) else .ok acc J
structure zOu (S:zQ) (s:Shared) (X:List Addr) (f:List Loc) (N D I:Addr) (its:Items) (i:Nat) (acc:List V) (J':Sto) (g:List Loc) (m:Str->Option Value) (ys:Array Value) (n:Nat) (s':Shared):Prop where
 fresh:Fresh g s
 kp:Kp f [] s s'
 lk:Lk S (N :: D :: I :: X) (f++g) J' s'.heap
 it:ItAt S (N :: D :: I :: X) (f++g) s'.heap I its i
 ns:s'.heap.Ns N m
 il:IsL s'.heap D ys n
 vs:VRs S (N :: D :: I :: X) (f++g) s'.heap acc ys.toList
 len:acc.length <= LIM
theorem zMi {N D:Addr} {X:List Addr} {P:Addr->Prop} (hN:P N) (hD:P D) (h:∀ a ∈ X,P a):∀ a ∈ N :: D :: X,P a:=fun a ha =>
 (List.mem_cons.mp ha).elim (fun e=>e.symm ▸ hN) fun ha=>(List.mem_cons.mp ha).elim (fun e=>e.symm ▸ hD) (h a)
theorem zRv {N D I:Addr} {X:List Addr} {P:Addr->Prop} (hN:P N) (hD:P D) (hI:P I) (h:∀ a ∈ X,P a):∀ a ∈ N :: D :: I :: X,P a:=fun a ha =>
 (List.mem_cons.mp ha).elim (fun e=>e.symm ▸ hN) (zMi hD hI h a)
inductive zNz (S:zQ) (s:Shared) (X:List Addr) (f:List Loc) (N D I:Addr) (its:Items) (g:V->List V->Sto->R (List V)) (total:R (List V)) (k:Nat) (s':Shared):Prop
 | mk (i:Nat) (acc:List V) (J':Sto) (l:List Loc) (m:Str->Option Value) (ys:Array Value) (n:Nat) (hf:yb its g k i acc J'=total) (t:zOu S s X f N D I its i acc J' l m ys n s'):zNz S s X f N D I its g total k s'
theorem zIQ {scope:Scope} {x:Str} {px pos:Pos} {elt iter:Expr} {ifs:List Expr} {ce:CE} {cond:Option CE} {cl:List (Str × Addr)} {N D:Addr} {R':Result->Shared->Prop} {s₄:Shared}
  (st:St S q d Γ sc env H f X J s A) (hh:A.handled=none) (ok:vN Γ sc scope x) (hcl:∀ y,(y,NameKind.free) ∈ scope.names->∃ c,cl.lookup y=some c /\ env.cells.lookup y=some c)
  (hcond:(ifs=[] /\ cond=none) \/ ∃ e c,ifs=[e] /\ cond=some c /\ TOk S F q d (Γ++[x]) scope e c) (helt:EOk S F q d (Γ++[x]) scope elt ce)
  (hN:s.heap.get? N=none) (hD:s.heap.get? D=none) (hI:s.heap.get? I=none) (hND:N ≠ D) (hNI:N ≠ I) (hDI:D ≠ I)
  {total:R (List V)} (hne:total ≠ .stuck) {fuel:Nat} {acc₀:List V} {J0:Sto} (h0:yb its (yE F q ce cond H) fuel 0 acc₀ J0=total) {g₀:List Loc} {m0:Str->Option Value} {ys0:Array Value} {n₀:Nat} (t0:zOu S s X f N D I its 0 acc₀ J0 g₀ m0 ys0 n₀ s₄)
  (hR:∀ acc J' g m ys n s',total=.ok acc J'->Fresh g s->Kp f [] s s'->Lk S (N :: D :: X) (f++g) J' s'.heap->s'.heap.Ns N m->IsL s'.heap D ys n->VRs S (N :: D :: X) (f++g) s'.heap acc ys.toList->acc.length <= LIM->R' (.ok .next) s')
  (hRX:∀ c J' g ea oe vs T m s',total=.exc c J'->Fresh g s->Kp f [] s s'->ExcR S (N :: X) (f++g) J' s'.heap s.heap ea c->s'.heap.Ns N m->s'.heap.get? ea=some oe->oe.data=.fields vs->vs[1]?=some (.ref T)->R' (.error (.ref ea)) s')
  : codeAny (model S.prog S.w) A (.compLoop (.ListComp elt [⟨.Name x px,iter,ifs,0⟩] scope pos) 0 (.ref I) (.ref D) (compEnvC scope cl N env)) R' s₄:=by
 refine codeAny_compLoop_tests (zNz S s X f N D I its (yE F q ce cond H) total) ?_ fuel (.mk 0 acc₀ J0 g₀ m0 ys0 n₀ h0 t0)
 rintro k s' ⟨i,acc,J',g,m,ys,n,hf,t⟩
 cases k with
 | zero=>rw [zEw] at hf; exact absurd hf.symm hne
 | succ k =>
 rw [vR] at hf
 have hIX:I ∈ N :: D :: I :: X:=.tail _ (.tail _ (.head _))
 have hNX:N ∈ N :: D :: I :: X:=.head _
 have hDX:D ∈ N :: D :: I :: X:=.tail _ (.head _)
 cases hnx:yL J' its i with
 | none=>rw [hnx] at hf; exact absurd hf.symm hne
 | some o =>
 rw [hnx] at hf
 cases o with
 | none =>
  refine wpAny_mono (zFH hh t.lk t.it hnx) (fun r s₁ h₁=>?_) fun _ _ x=>x
  obtain ⟨rfl,hr,hk⟩:=h₁
  have hk':∀ b o,b ∉ [I]->s'.heap.get? b=some o->s₁.heap.get? b=some o:=fun b o hb e=>hk b o (fun q=>hb (q ▸ List.mem_singleton.mpr rfl)) e
  have hXd:∀ a ∈ N :: D :: X,a ∈ N :: D :: I :: X:=zMi hNX hDX fun a ha=>.tail _ (.tail _ (.tail _ ha))
  have hIn:∀ a ∈ N :: D :: X,a ∉ [I]:=zMi (fun h=>hNI (List.mem_singleton.mp h)) (fun h=>hDI (List.mem_singleton.mp h)) fun a ha h=>(List.mem_singleton.mp h ▸ st.lk.hid a ha).2.2.elim fun o e=>nomatch hI.symm.trans e
  replace hf:R.ok acc J'=total:=hf
  refine hR acc J' g m ys n s₁ hf.symm t.fresh (t.kp.ends (Z:=[I]) hr hk' fun b hb=>List.mem_singleton.mp hb ▸ hI) (t.lk.drop (Z:=[I]) (fun a ha=>⟨hXd a ha,hIn a ha⟩) (fun a ha=>List.mem_singleton.mp ha ▸ hIX) hk') (zHf t.ns fun o=>hk N o hNI) (hk D _ hDI t.il) (VRs.drop (Z:=[I]) hXd (fun a ha=>List.mem_singleton.mp ha ▸ hIX) hk' t.vs) t.len
 | some x' =>
 replace hf:(yE F q ce cond H x' acc J').bind (fun b J=>yb its (yE F q ce cond H) k (i+1) b J)=total:=hf
 refine wpAny_mono (zC1 hIX t.lk t.it hnx) (fun r s₁ h₁=>?_) fun _ _ x=>x
 obtain ⟨v,rfl,m1,it1,rv⟩:=h₁
 have ns1:s₁.heap.Ns N m:=zHf t.ns fun o=>m1.keep N o hNI
 have hxk:(compEnvC scope cl N env).kindOf x=some .local:=by
  rcases kP (env:=env) (scope:=scope) x with e | ⟨e,_⟩
  ·exact e.trans ok.self
  ·rw [ok.self] at e; cases e
 refine wpAny_assign_Name (wpAny_storeName_local hxk ns1 (fun h₂ hn2 hs₂=>?_) (by simp [compEnvC,relabel,ok.kind]))
 have m2:Mv N s₁ { s₁ with heap:=h₂,toks:=s₁.toks+1 }:=zFG hn2 fun b hb=>hs₂.2 b hb
 generalize hs2':({ s₁ with heap:=h₂,toks:=s₁.toks+1 }:Shared)=s₂ at m2 ⊢
 have hh2:s₂.heap=h₂:=by rw [<- hs2']
 rw [<- hh2] at hn2
 have lk2:=m2.lk hNX (m1.lk hIX t.lk)
 have it2:=it1.mv m2 hNX (Ne.symm hNI)
 have kp2:Kp f [] s s₂:=(t.kp.mv m1 hI).mv m2 hN
 have hX':∀ a ∈ N :: D :: I :: X,a ∈ X \/ s.heap.get? a=none:=zRv (.inr hN) (.inr hD) (.inr hI) fun a ha=>.inl ha
 have fr2:=(st.fr.later st.lk kp2 t.fresh hX' fun a ha=>.tail _ (.tail _ (.tail _ ha))).comp ok hcl hNX hn2 (by simp) (m2.vr hNX rv)
 have cx2:Cx S A q d (f++g) s₂.heap env.frame:=st.cx.keep kp2 t.fresh
 have st2:St S q d (Γ++[x]) scope (compEnvC scope cl N env) (H++[x']) (f++g) (N :: D :: I :: X) J' s₂ A:=⟨cx2,fr2,lk2⟩
 have il2:IsL s₂.heap D ys n:=m2.keep D _ (Ne.symm hND) (m1.keep D _ hDI t.il)
 have vs2:=m2.vrs hNX (m1.vrs hIX t.vs)
 have hns:yE F q ce cond H x' acc J' ≠ .stuck:=fun e=>hne (by rw [<- hf,e]; rfl)
 have tests:Sim S A (N :: D :: I :: X) [] (f++g) (fun b t _ _=>b=t) (forIn ifs true fun c r=>if r=true then do let ok <- isTrue c (compEnvC scope cl N env) (eval c (compEnvC scope cl N env)); pure (ForInStep.yield ok) else pure (ForInStep.yield r)) (evC F q cond (H++[x']) J') s₂:=by
  rcases hcond with ⟨rfl,rfl⟩ | ⟨e,c,rfl,rfl,ht⟩
  ·intro _
   rw [zNv]
   exact wpAny_tests_nil (QS.bool lk2 (.refl s₂))
  ·intro hn
   rw [zBk] at hn ⊢
   exact wpAny_tests_one (ht _ _ _ _ _ _ _ st2 hn)
 unfold yE at hns hf
 obtain ⟨b,J3,hb,hbk,hns2,wt⟩:=Sim.calm tests hns
 rw [hbk] at hf
 refine wpAny_mono (wt _) (fun ok' s₃ h₃=>?_) fun _ _ x=>x
 obtain ⟨g3,hg3,k3,lk3,hbe⟩:=h₃
 replace hbe:ok'=b:=hbe
 subst hbe
 have hXf:∀ a ∈ N :: D :: I :: X,a ∉ addrs (f++g):=fun a ha=>(lk2.hid a ha).2.1
 have it3:=it2.keepK k3 hg3 hIX hXf
 have kp3:Kp f [] s s₃:=kp2.trans t.fresh k3
 have fg3:Fresh (g++g3) s:=t.fresh.trans kp2.live hg3
 have keepO:∀ {s s':Shared} {f:List Loc} {a:Addr} {o:Obj},Kp f [] s s'->a ∉ addrs f->(∀ es n,o.data ≠ .dict es n)->s.heap.get? a=some o->s'.heap.get? a=some o:=fun k h1 h2 e=>by
  obtain ⟨o',e',q⟩:=k.kept _ _ e h1 (fun h=>nomatch h)
  rw [e',q.exact h2]
 have il3:IsL s₃.heap D ys n:=keepO k3 (hXf D hDX) (fun _ _ h=>by cases h) il2
 have ns3:=zCv k3 (hXf N hNX) (fun h=>nomatch h) hn2
 have vs3:=VRs.keepK k3 hg3 (fun _ h=>nomatch h) vs2
 rw [List.append_assoc] at lk3 it3 vs3
 cases ok' with
 | false=>exact ⟨k,Nat.lt_succ_self k,.mk (i+1) acc J3 (g++g3) _ ys n hf ⟨fg3,kp3,lk3,it3,ns3,il3,vs3,t.len⟩⟩
 | true =>
  replace hns2:((evE F q ce (H++[x']) J3).calmE.bind fun y J=>(if acc.length < LIM then R.ok (acc++[y]) J else .stuck)) ≠ .stuck:=hns2
  replace hf:(((evE F q ce (H++[x']) J3).calmE.bind fun y J=>(if acc.length < LIM then R.ok (acc++[y]) J else .stuck)).bind fun b J=>yb its (yE F q ce cond H) k (i+1) b J)=total:=hf
  have st3:St S q d (Γ++[x]) scope (compEnvC scope cl N env) (H++[x']) ((f++g)++g3) (N :: D :: I :: X) J3 s₃ A:=st2.keep hg3 k3 (by rw [List.append_assoc]; exact lk3)
  rw [List.append_assoc] at st3
  show wpAny _ _ _ _ _ _
  have hs3:evE F q ce (H++[x']) J3 ≠ .stuck:=fun e=>hns2 (by rw [e]; rfl)
  refine wpAny_mono (helt _ _ _ _ _ _ _ st3 hs3) (fun yv s4' h₄=>?_) fun e s4' h₄=>?_
  rotate_left
  ·obtain ⟨c,J4,g4,ea,rfl,ey,hg4,k4,lk4,x4⟩:=h₄
   rw [ey] at hf
   replace hf:R.exc c J4=total:=hf
   have kp4:Kp f [] s s4':=kp3.trans fg3 k4
   have fg4:Fresh ((g++g3)++g4) s:=fg3.trans kp3.live hg4
   have ns4:=zCv k4 ((lk3.hid N hNX).2.1) (fun h=>nomatch h) ns3
   obtain ⟨en,l,h1,h2,h3⟩:=(st3.cx.keep k4 hg4).frs
   obtain ⟨-,L1,-,-,-,h4,-⟩:=h3 en List.mem_cons_self
   rw [List.append_assoc] at h3 x4
   have hXX:∀ a ∈ N :: X,a ∈ N :: D :: I :: X:=fun a ha=>(List.mem_cons.mp ha).elim (fun q=>q ▸ hNX) fun q=>.tail _ (.tail _ (.tail _ q))
   show wpAny _ A (noteFrame (.ref ea) (compEnvC scope cl N env)) _ _ s4'
   rw [xy (env':=en) h2]
   refine zD7 h1 h3 h4 (x4.less hXX) (fun a ha=>(lk3.hid a (hXX a ha)).2.2) (fun _ h=>zo k4.live h) fun h' hs oe vs T hfree N1 x1 p1 p2 p3=>?_
   have nf:N ∉ hs:=fun q=>by obtain ⟨o,z⟩:=(lk3.hid N hNX).2.2; rw [hfree N q] at z; cases z
   exact hRX c J4 ((g++g3)++g4) ea oe vs T _ _ hf.symm fg4 (N1.kp kp4 fun a ha=>zo kp3.live (hfree a ha)) (x1.back fun a h=>zo kp3.live h) (zNS ns4 fun o=>N1.same N o nf) p1 p2 p3
  obtain ⟨y,J4,g4,ey,hg4,k4,lk4,ry⟩:=h₄
  rw [ey] at hf hns2
  replace hf:((if acc.length < LIM then R.ok (acc++[y]) J4 else .stuck:R (List V)).bind fun b J=>yb its (yE F q ce cond H) k (i+1) b J)=total:=hf
  have hns3:(if acc.length < LIM then R.ok (acc++[y]) J4 else .stuck:R (List V)) ≠ .stuck:=hns2
  by_cases hlen:acc.length < LIM
  ·rw [if_pos hlen] at hf
   replace ry:VR S (N :: D :: I :: X) ((f++(g++g3))++g4) s4'.heap y yv:=ry
   have hXf3:∀ a ∈ N :: D :: I :: X,a ∉ addrs (f++(g++g3)):=fun a ha=>(lk3.hid a ha).2.1
   have it4:=it3.keepK k4 hg4 hIX hXf3
   have kp4:Kp f [] s s4':=kp3.trans fg3 k4
   have fg4:Fresh ((g++g3)++g4) s:=fg3.trans kp3.live hg4
   have il4:IsL s4'.heap D ys n:=keepO k4 (hXf3 D hDX) (fun _ _ h=>by cases h) il3
   have ns4:=zCv k4 (hXf3 N hNX) (fun h=>nomatch h) ns3
   have vs4:=VRs.keepK k4 hg4 (fun _ h=>nomatch h) vs3
   rw [List.append_assoc] at lk4 it4 vs4 ry
   have hsz:ys.size <= sizeLine:=by rw [zf vs4]; exact Nat.le_trans t.len zz
   refine zFx il4 ?_ hsz
   obtain ⟨n',il5⟩:=IsL.appended (x:=yv) il4
   have m5:Mv D s4' { s4' with heap:=s4'.heap.update D (Obj.mapSeq (·.push yv)) }:=
    ⟨rfl,fun b o hb e=>(Heap.get?_update_other _ _ (Ne.symm hb)).trans e,⟨_,il5⟩,fun o es n e dd=>by rw [il4] at e; cases e; cases dd⟩
   refine ⟨k,Nat.lt_succ_self k,.mk (i+1) (acc++[y]) J4 ((g++g3)++g4) _ (ys.push yv) n' hf ⟨fg4,kp4.mv m5 hD,m5.lk hDX lk4,it4.mv m5 hDX (Ne.symm hDI),zHf ns4 fun o=>m5.keep N o hND,il5,?_,?_⟩⟩
   ·rw [Array.toList_push]
    exact xe (m5.vrs hDX vs4) (⟨m5.vr hDX ry,trivial⟩)
   ·rw [List.length_append]; exact hlen
  ·rw [if_neg hlen] at hns3; exact absurd rfl hns3
end
end Mine
end

section
namespace Mine
open PySem PyProof.Rows
section
variable {S:zQ} {C:Ctx} {T:Nat->Option Fn} {F:Calls} {q:Bool} {d:Nat} {Γ:List Str} {sc:Scope}
variable {X X' Y Z:List Addr} {f g:List Loc} {J:Sto} {s s':Shared} {A:Around} {E:Value->Shared->Prop} {I a:Addr} {its:Items} {i:Nat} {env:Env} {H:List V}
theorem zBv {scope:Scope} {x:Str} {px pos:Pos} {elt iter:Expr} {ifs:List Expr} {ce:CE} {cond:Option CE} {cl:List (Str × Addr)} {RR:Value->Addr->Result->Shared->Prop} {s₂:Shared} {J1:Sto}
  (st:St S q d Γ sc env H f X J s A) (hh:A.handled=none) (ok:vN Γ sc scope x) (hcl:∀ y,(y,NameKind.free) ∈ scope.names->∃ c,cl.lookup y=some c /\ env.cells.lookup y=some c)
  (hcond:(ifs=[] /\ cond=none) \/ ∃ e c,ifs=[e] /\ cond=some c /\ TOk S F q d (Γ++[x]) scope e c) (helt:EOk S F q d (Γ++[x]) scope elt ce)
  (hI:s.heap.get? I=none) (hg:Fresh g s) (k:Kp f [] s s₂) (L:Lk S (I :: X) (f++g) J1 s₂.heap) (x0:ItAt S (I :: X) (f++g) s₂.heap I its 0)
  (hne:zn its (yE F q ce cond H) [] J1 ≠ .stuck)
  (hR:∀ N D acc J' g m ys n s',s.heap.get? N=none->s.heap.get? D=none->N ≠ D->zn its (yE F q ce cond H) [] J1=.ok acc J'->Fresh g s->Kp f [] s s'->Lk S (N :: D :: X) (f++g) J' s'.heap->s'.heap.Ns N m->IsL s'.heap D ys n->VRs S (N :: D :: X) (f++g) s'.heap acc ys.toList->acc.length <= LIM->RR (.ref D) N (.ok .next) s')
  (hRX:∀ acc N c J' g ea oe vs T m s',s.heap.get? N=none->zn its (yE F q ce cond H) [] J1=.exc c J'->Fresh g s->Kp f [] s s'->ExcR S (N :: X) (f++g) J' s'.heap s.heap ea c->s'.heap.Ns N m->s'.heap.get? ea=some oe->oe.data=.fields vs->vs[1]?=some (.ref T)->RR acc N (.error (.ref ea)) s')
  : wpAny (model S.prog S.w) A (newList []) (fun acc s₃=>wpAny (model S.prog S.w) A (newFunctionEnv scope env.globals cl [] env.qual none .none (some env)) (fun cenv s₄ =>
   codeAny (model S.prog S.w) A (.compStart (.ListComp elt [⟨.Name x px,iter,ifs,0⟩] scope pos) 0 (.ref I) acc { cenv with scope:=relabel scope env }) (RR acc cenv.locals) s₄) E s₃) E s₂:=by
 refine wpAny_newObj_type (wpAny_newFunctionEnv ok.cell (by intro y hy; simp at hy) (fun h₁ hns1 hsb1=>?_) ok.kind)
 dsimp only at hns1 hsb1 ⊢
 generalize hH2:s₂.heap.push { cls:=.type "list",dict:=none,data:=.seq ([]:List Value).toArray }=H2 at hns1 hsb1 ⊢
 have hsz:H2.objs.size=s₂.heap.objs.size+1:=by rw [<- hH2,Heap.size_push]
 have hND:H2.objs.size ≠ s₂.heap.objs.size:=by rw [hsz]; omega
 have ex1:Ext s₂ { s₂ with heap:=H2 }:=⟨rfl,fun b o e=>hH2 ▸ Heap.get?_push_of_some _ e⟩
 have nD:s₂.heap.get? s₂.heap.objs.size=none:=yn _
 have lD:H2.get? s₂.heap.objs.size=some { cls:=.type "list",dict:=none,data:=.seq ([]:List Value).toArray }:=hH2 ▸ Heap.get?_push_size _ rfl
 have nN:H2.get? H2.objs.size=none:=yn _
 have ex2:Ext { s₂ with heap:=H2 } { s₂ with heap:=h₁,toks:=s₂.toks+([]:List (Str × Value)).length }:=⟨rfl,fun b o e=>(hsb1.2 b (fun q=>by subst q; rw [nN] at e; cases e)).trans (Heap.get?_push_of_some _ e)⟩
 obtain ⟨oN,esN,epN,eN,_⟩:=id hns1
 have L1:Lk S (s₂.heap.objs.size :: I :: X) (f++g) J1 H2:=L.hideNew ex1 nD lD
 have it1:=x0.hideNew (s':={ s₂ with heap:=H2 }) ex1 nD
 have L2:Lk S (H2.objs.size :: s₂.heap.objs.size :: I :: X) (f++g) J1 h₁:=Lk.hideNew (s:={ s₂ with heap:=H2 }) (s':={ s₂ with heap:=h₁,toks:=s₂.toks+([]:List (Str × Value)).length }) L1 ex2 nN eN
 have it2:=ItAt.hideNew (s:={ s₂ with heap:=H2 }) (s':={ s₂ with heap:=h₁,toks:=s₂.toks+([]:List (Str × Value)).length }) ex2 nN it1
 have k2:Kp f [] s { s₂ with heap:=h₁,toks:=s₂.toks+([]:List (Str × Value)).length }:=k.trans hg ((ex1.trans ex2).kp _ _)
 have hD:s.heap.get? s₂.heap.objs.size=none:=zo k.live nD
 have hN:s.heap.get? H2.objs.size=none:=zo k.live (Heap.get?_none_of_le (by rw [hsz]; omega))
 have lI:∃ o,s₂.heap.get? I=some o:=(L.hid I (by simp)).2.2
 have hDI:s₂.heap.objs.size ≠ I:=fun q=>by obtain ⟨o,e⟩:=lI; rw [<- q,nD] at e; cases e
 have hNI:H2.objs.size ≠ I:=fun q=>by obtain ⟨o,e⟩:=lI; rw [<- q,Heap.get?_none_of_le (by rw [hsz]; omega)] at e; cases e
 have turn:zOu S s X f H2.objs.size s₂.heap.objs.size I its 0 [] J1 g (fun x=>([]:List (Str × Value)).reverse.lookup x) #[] 0 { s₂ with heap:=h₁,toks:=s₂.toks+([]:List (Str × Value)).length }:=
  ⟨hg,k2,L2,it2,hns1,ex2.keep _ _ lD,(by show VRs S _ _ h₁ [] []; exact True.intro),by simp⟩
 have loop:codeAny (model S.prog S.w) A (.compLoop (.ListComp elt [⟨.Name x px,iter,ifs,0⟩] scope pos) 0 (.ref I) (.ref s₂.heap.objs.size) (compEnvC scope cl H2.objs.size env)) (RR (.ref s₂.heap.objs.size) H2.objs.size) { s₂ with heap:=h₁,toks:=s₂.toks+([]:List (Str × Value)).length }:=
  zIQ st hh ok hcl hcond helt hN hD hI hND hNI hDI hne rfl turn (fun acc J' g m ys n s' e1 e2 e3 e4 e5 e6 e7 e8=>hR _ _ acc J' g m ys n s' hN hD hND e1 e2 e3 e4 e5 e6 e7 e8)
   (fun c J' g ea oe vs T m s' e1 e2 e3 e4 e5 e6 e7 e8=>hRX _ _ c J' g ea oe vs T m s' hN e1 e2 e3 e4 e5 e6 e7 e8)
 exact codeAny_compStart_list loop (zIb it2 loop)
theorem FR.closure {scope:Scope} {x:Str} {h:Heap} (fr:FR S X f h env Γ sc H) (ok:vN Γ sc scope x):∃ cl,closureFor scope env=pure cl /\ ∀ y,(y,NameKind.free) ∈ scope.names->∃ c,cl.lookup y=some c /\ env.cells.lookup y=some c:=
 zF4 fun n hn=>by
  obtain ⟨c,o,e,_⟩:=fr.cells n (fr.cellKind (ok.free _ hn rfl))
  exact ⟨c,e⟩
theorem jH {elt:CE} {k:SK} {cs:List CE} {cond:Option CE} (hq:q=false):evE F q (.comp elt k cs cond) H J=((evL F q cs H J).bind fun vs J=>R.lift J (zT J k vs)).bind fun its J=>(zn its (yE F q elt cond H) [] J).bind fun acc J=>.ok (.lst acc) J:=by
 subst hq
 rw [zGw,if_neg (by simp),R.bind_assoc]
 rfl
theorem zHg {scope:Scope} {x:Str} {px pos:Pos} {elt iter:Expr} {ifs:List Expr} {ce:CE} {cond:Option CE} {k:SK} {cs:List CE} (ok:vN Γ sc scope x) (hsrc:zA9 S F q d Γ sc iter k cs)
  (hcond:(ifs=[] /\ cond=none) \/ ∃ e c,ifs=[e] /\ cond=some c /\ TOk S F q d (Γ++[x]) scope e c) (helt:EOk S F q d (Γ++[x]) scope elt ce) :
  NOk S F q d Γ sc (.ListComp elt [⟨.Name x px,iter,ifs,0⟩] scope pos) (.comp ce k cs cond):=fun env H f X J s A st hne=>by
 have hq:q=false:=by
  cases q with
  | false=>rfl
  | true=>rw [zGw] at hne; exact absurd rfl hne
 rw [jH hq] at hne ⊢
 obtain ⟨cl,hclos,hcl⟩:=st.fr.closure ok
 rw [eval_ListComp]
 refine wpAny_comprehension_free (g:=⟨.Name x px,iter,ifs,0⟩) (gs:=[]) rfl (hsrc.1 env) hclos ok.kind (fun p hp e=>(ok.loc p hp e).2) ?_
 have hr:((evL F q cs H J).bind fun vs J=>R.lift J (zT J k vs)) ≠ .stuck:=fun e=>hne (by rw [e]; rfl)
 refine wpAny_mono (hsrc.2 env H f X J s A st hr) (fun xv s₁ h₁=>wpAny_mono h₁ (fun it s₂ h₂=>?_) fun e s' h=>?_) fun e s' h=>?_
 ·obtain ⟨its,J1,g,I,e1,rfl,hI,hIX,hg,kk,L,x0⟩:=h₂
  rw [e1,R.bind_ok] at hne ⊢
  have hne2:zn its (yE F q ce cond H) [] J1 ≠ .stuck:=fun e=>hne (by rw [e]; rfl)
  refine zBv st (st.cx.hand hq) ok hcl hcond helt hI hg kk L x0 hne2 (fun N D acc J' g' m ys n s' hN hD hND e2 hg' k' L' hns il vs hlen=>?_)
   (fun acc N c J' g' ea oe vs T m s' hN e2 hg' k' x' ns p1 p2 p3=>zEf hN (st.lk.new hN).2 (fun a ha=>(st.lk.hid a ha).2.2) k' x' ns p1 p2 p3 fun s'' k'' L'' x''=>⟨c,J',g',ea,rfl,by rw [e2]; rfl,hg',k'',L'',x''⟩)
  rw [e2]
  refine ⟨m,hns,fun h' hs=>?_⟩
  have hkk:∀ b o,b ∉ [N]->s'.heap.get? b=some o->h'.get? b=some o:=fun b o hb e=>(hs.2 b (fun q=>hb (q ▸ List.mem_singleton.mpr rfl))).trans e
  have hNX:N ∉ X:=(st.lk.new hN).2
  have hDX:D ∉ X:=(st.lk.new hD).2
  have LD:Lk S (D :: X) (f++g') J' h':=L'.drop (Z:=[N]) (fun a ha=>⟨List.mem_cons_of_mem _ ha,fun h=>by
   have:=List.mem_singleton.mp h
   subst this
   exact (List.mem_cons.mp ha).elim hND hNX⟩) (fun a ha=>List.mem_singleton.mp ha ▸ List.mem_cons_self) hkk
  have vD:VRs S (D :: X) (f++g') h' acc ys.toList:=VRs.drop (Z:=[N]) (fun a ha=>List.mem_cons_of_mem _ ha) (fun a ha=>List.mem_singleton.mp ha ▸ List.mem_cons_self) hkk vs
  have iD:IsL h' D ys n:=(hs.2 D (Ne.symm hND)).trans il
  refine ⟨.lst acc,J',g',rfl,hg',k'.ends (Z:=[N]) rfl hkk (fun b hb=>List.mem_singleton.mp hb ▸ hN),LD.less fun a ha=>List.mem_cons_of_mem _ ha,?_,fun xs hxs=>?_⟩
  ·exact ⟨D,ys,n,rfl,⟨(LD.hid D List.mem_cons_self).2.1,hDX⟩,iD,vD.less fun a ha=>List.mem_cons_of_mem _ ha,hlen⟩
  ·cases hxs
   exact ⟨D,ys,n,rfl,hD,hDX,LD,iD,vD,hlen⟩
 ·obtain ⟨c,J',g,ea,e1,e2,hgE,kE,LE,xE⟩:=h
  exact ⟨c,J',g,ea,e1,by rw [e2]; rfl,hgE,kE,LE,xE⟩
 ·obtain ⟨c,J',g,ea,e1,e2,hgE,kE,LE,xE⟩:=h
  exact ⟨c,J',g,ea,e1,by rw [e2]; rfl,hgE,kE,LE,xE⟩
end
end Mine
end

section
namespace Mine
open PySem PyProof.Rows
section
variable {S:zQ} {C:Ctx} {T:Nat->Option Fn} {F:Calls} {q:Bool} {d:Nat} {Γ:List Str} {sc:Scope}
variable {X X' Y Z:List Addr} {f g:List Loc} {J:Sto} {s s':Shared} {A:Around} {E:Value->Shared->Prop} {env:Env} {H:List V}
theorem zQ6 {e:Expr} {pos:Pos} (hs:isStar e=false):((backTo pos (starEach [e] env)).all (fun x=>!x.1)&&(backToKw pos (keywordEach [] env)).all (fun x=>x.1.isSome)
  &&decide ([e].length+([]:List Keyword).length+(if ([]:List Keyword).isEmpty then 0 else 1) < 30))=true:=by
 rw [yH hs]; rfl
theorem zFk {n:Nat} {ax:Addr} {xs:List V} {vs:Array Value} {k:Nat} {fn:Array Value->Array Value} (L:Lk S X f J s.heap) (hn:f[n]?=some (ax,none)) (il:IsL s.heap ax vs k) (rs:VRs S X f s.heap xs (fn vs).toList) (hl:xs.length <= LIM) :
  Lk S X f (J.set n (.list xs)) (s.heap.update ax (Obj.mapSeq fn)) /\ Kp f [] s { s with heap:=s.heap.update ax (Obj.mapSeq fn) }:=by
 have hs:∀ b o,b ∉ Loc.addrs (ax,none)->s.heap.get? b=some o->(s.heap.update ax (Obj.mapSeq fn)).get? b=some o:=fun b o hb e=>(Heap.get?_update_other s.heap (Obj.mapSeq fn) (fun q:ax=b=>hb (by rw [q]; exact List.mem_singleton.mpr rfl))).trans e
 have il':=IsL.update il fn
 have hax:ax ∈ addrs f:=yD hn (List.mem_singleton.mpr rfl)
 refine ⟨L.upd hn hs ⟨_,_,il',?_,hl⟩,Kp.upd (t:=s.toks) hn hs fun a ha=>⟨_,by have:=List.mem_singleton.mp ha; subst this; exact il'⟩⟩
 exact VRs.keep (fun _ _ e=>e) (fun b ob q h1 h2=>⟨⟨h1,h2⟩,ob,hs b ob (fun z=>h1 (List.mem_singleton.mp z ▸ hax)) q,.refl ob⟩) _ _ rs
inductive zMh (S:zQ) (X:List Addr) (f:List Loc) (h:Heap) (xs:List V) (n:Nat) (v:Value):Prop
 | mk (ax:Addr) (vs:Array Value) (k:Nat) (e:v=.ref ax) (hf:f[n]?=some (ax,none)) (i:IsL h ax vs k) (p:VRs S X f h xs vs.toList) (hl:xs.length <= LIM)
theorem zAN {n:Nat} {v:Value} {xs:List V} (L:Lk S X f J s.heap) (r:VR S X f s.heap (.ref n) v) (ho:J[n]?=some (.list xs)):zMh S X f s.heap xs n v:=by
 obtain ⟨⟨ax,dd⟩,hl,rfl⟩:=r
 have:=L.obj n _ _ hl ho
 cases dd with
 | none=>obtain ⟨vs,k,il,rs,h⟩:=this; exact ⟨ax,vs,k,rfl,hl,il,rs,h⟩
 | some dd=>exact this.elim
theorem zJ9 {o x:Expr} {a b:CE} {apos pos:Pos} (hb:noSuper o=true) (hp:(apos.endLine==pos.line)=true) (hs:isStar x=false) (ho:EOk S F q d Γ sc o a) (hx:EOk S F q d Γ sc x b) :
  EOk S F q d Γ sc (.Call (.Attribute o ("append" : Str) apos) [x] [] pos) (.append a b):=fun env H f X J s A st hne=>by
 rw [zCX] at hne ⊢
 refine wpAny_Call_method (wx hb) (zQ6 hs) hp PySem.F.plainAttrs_list slot_list_append type_list_append ?_
 refine Sim.goQ (P':=PV S X) (ho env H f X J s A st) hne (fun _ _ x=>x) (fun _ _ x=>x) fun va a' J1 g₁ s₁ hne hg k L ra hQ hE=>?_
 by_cases hil:xx J1 a'=true
 ·rw [if_pos hil] at hne hQ hE
  obtain ⟨xs1,hxs1⟩:=Option.isSome_iff_exists.mp hil
  obtain ⟨p,vs,n,rfl,il,rs,hlen⟩:=yQ L hxs1 ra
  refine ⟨⟨_,il,rfl⟩,fun b hb=>⟨_,by cases hb; exact il,rfl⟩,?_⟩
  rw [yH hs]
  show wpAny _ _ (callWith pos (.builtin "list.append") [.ref p] [(false,eval x env)] []) _ _ _
  refine P.append_list ?_
  refine Sim.goQ (P':=PV S X) (hx env H _ X J1 s₁ A (st.keep hg k L)) hne hQ hE fun vb b' J2 g₂ s₂ hne hg₂ k₂ L₂ rb hQ hE=>?_
  have ra2:=VR.keepK k₂ hg₂ (fun _ h=>nomatch h) ra
  obtain ⟨m,xs,rfl,hJ,hlt⟩:=zFw hne
  have hd:wI J2 (.ref m) b'=.ok .none (J2.set m (.list (xs++[b']))):=by
   show (match J2[m]? with | some (.list xs)=>if xs.length < LIM then R.ok V.none (J2.set m (.list (xs++[b']))) else .stuck | _=>.stuck)=_
   rw [hJ]; exact if_pos hlt
  rw [hd] at hQ
  obtain ⟨ax,vs',k',e,hf,il',rs',hlen'⟩:=zAN L₂ ra2 hJ
  cases e
  refine ⟨vs',k',by rw [zf rs']; exact Nat.le_trans hlen' zz,il',hQ _ _ ?_⟩
  obtain ⟨L3,k3⟩:=zFk (fn:=fun xs=>xs.push vb) (xs:=xs++[b']) L₂ hf il' (by rw [Array.toList_push]; exact xe rs' (⟨rb,trivial⟩)) (by rw [List.length_append]; exact hlt)
  exact ⟨.none,_,[],rfl,.nil _,k3,by rw [List.append_nil]; exact L3,rfl⟩
 ·rw [if_neg hil] at hne; exact absurd rfl hne
theorem zAH {o x:Expr} {a b:CE} {apos pos:Pos} {m:Str} {id:String} {p:P2} (hso:∀ J a,zEE p J a=(strOf? a).isSome) (slot:Slot "str" m id) (hty:typeOf (.builtin id)=pure (.type "method_descriptor"))
  (op:∀ (X:List Addr) (f:List Loc) (J:Sto) (s:Shared) (A:Around) (E:Value->Shared->Prop) (a b x:V) (va vb:Value),Lk S X f J s.heap->ev2 p J a b=some x->VR S X f s.heap a va->VR S X f s.heap b vb->wpAny (model S.prog S.w) A (call (.builtin id) [va,vb]) (PE S X f s x) E s)
  (hb:noSuper o=true) (hp:(apos.endLine==pos.line)=true) (hs:isStar x=false) (ho:EOk S F q d Γ sc o a) (hx:EOk S F q d Γ sc x b) :
  EOk S F q d Γ sc (.Call (.Attribute o m apos) [x] [] pos) (.sm p a b):=fun env H f X J s A st hne=>by
 rw [zQS] at hne ⊢
 refine wpAny_Call_method (wx hb) (zQ6 hs) hp PySem.F.plainAttrs_str slot hty ?_
 refine Sim.goN (ho env H f X J s A st) hne (fun _ _ x=>x.qs) (fun _ _ x=>x) fun va a' J1 g₁ s₁ hne hg k L ra hQ hE=>?_
 rw [hso] at hne hQ hE
 by_cases hil:(strOf? a').isSome=true
 ·rw [if_pos hil] at hne hQ hE
  obtain ⟨y,hy⟩:=Option.isSome_iff_exists.mp hil
  obtain rfl:=zKO hy
  obtain ⟨⟨t,rfl⟩,_⟩:=zt ra
  refine ⟨typeIs_str _ _ _,(fun _ e=>nomatch e),ye (zq _ (by rw [List.any_cons,hs]; rfl)) (zCK hs ?_)⟩
  refine Sim.goN (hx env H _ X J1 s₁ A (st.keep hg k L)) hne hQ hE fun vb b' J2 g₂ s₂ hne hg₂ k₂ L₂ rb hQ hE=>?_
  obtain ⟨x,hx⟩:=yq hne
  rw [hx] at hQ
  exact ⟨xD (by simp),wpAny_mono (op X _ J2 s₂ A _ _ b' x _ vb L₂ hx (VR.keepK k₂ hg₂ (fun _ h=>nomatch h) ra) rb) (fun v s' p=>hQ v s' (p.here L₂)) fun _ _ x=>x⟩
 ·rw [if_neg hil] at hne; exact absurd rfl hne
theorem zRX {o x:Expr} {a b:CE} {apos pos:Pos} {m:Str} {p:P2} (hm:m1Names.lookup m=some p) (hb:noSuper o=true) (hp:(apos.endLine==pos.line)=true) (hs:isStar x=false) (ho:EOk S F q d Γ sc o a) (hx:EOk S F q d Γ sc x b) :
  EOk S F q d Γ sc (.Call (.Attribute o m apos) [x] [] pos) (.sm p a b):=by
 have hm:=zU hm
 simp only [m1Names,List.mem_cons,Prod.mk.injEq,List.not_mem_nil,or_false] at hm
 rcases hm with ⟨rfl,rfl⟩
  | ⟨rfl,rfl⟩ | ⟨rfl,rfl⟩
  | ⟨rfl,rfl⟩
 ·exact zAH (fun _ _=>rfl) PySem.F.slot_str_join PySem.F.type_str_join (fun _ _ _ _ _ _ _ _ _ _ _ L e ra rb=>zGM L e ra rb) hb hp hs ho hx
 ·exact zAH (fun _ _=>rfl) PySem.F.slot_str_split PySem.F.type_str_split (fun _ _ _ _ _ _ _ _ _ _ _ L e ra rb=>zFY L e ra rb) hb hp hs ho hx
 ·exact zAH (fun _ _=>rfl) PySem.F.slot_str_partition PySem.F.type_str_partition (fun _ _ _ _ _ _ _ _ _ _ _ L e ra rb=>zGd L e ra rb) hb hp hs ho hx
 ·exact zAH (fun _ _=>rfl) PySem.F.slot_str_startswith PySem.F.type_str_startswith (fun _ _ _ _ _ _ _ _ _ _ _ _ e ra rb=>zFZ e ra rb) hb hp hs ho hx
end
end Mine
end

section
namespace Mine
open PySem PyProof.Rows
noncomputable def ya (env:Env):List Addr:=env.locals :: env.cells.map (·.2)
structure FW (env:Env) (X:List Addr):Prop where
 loc:env.locals ∈ X
 mem:∀ p ∈ env.cells,p.2 ∈ X
 inj:∀ x y c,env.cells.lookup x=some c->env.cells.lookup y=some c->x=y
theorem FW.cellX {env:Env} {X:List Addr} (fw:FW env X) (x:Str) (c:Addr) (h:env.cells.lookup x=some c):c ∈ X:=fw.mem _ (zU h)
theorem zCC {β:Type} {x:Str} {y:β}:∀ {l:List (Str × β)},l.lookup x=some y->y ∈ l.map (·.2):=fun h=>List.mem_map_of_mem (f:=(·.2)) (zU h)
noncomputable def FlR (S:zQ) (X:List Addr) (f:List Loc) (h:Heap) (env:Env) (Γ:List Str) (sc:Scope):Fl->Flow->Prop
 | .next H,fl=>fl=.next /\ FR S X f h env Γ sc H
 | .ret v,fl=>∃ w,fl=.ret w /\ VR S X f h v w
inductive QF (S:zQ) (X:List Addr) (env:Env) (Γ:List Str) (sc:Scope) (f:List Loc) (s:Shared) (r:R Fl) (fl:Flow) (s':Shared):Prop where
 | mk (x:Fl) (J':Sto) (g:List Loc) (e:r=.ok x J') (hg:Fresh g s) (k:Kp f (ya env) s s') (L:Lk S X (f++g) J' s'.heap) (p:FlR S X (f++g) s'.heap env Γ sc x fl)
section
variable (S:zQ) (F Fq:Calls) (q:Bool) (d:Nat)
noncomputable def SOk (Γ:List Str) (sc:Scope) (st:Stmt) (c:CS):Prop:=∀ (env:Env) (H:List V) (f:List Loc) (X:List Addr) (J:Sto) (s:Shared) (A:Around),St S q d Γ sc env H f X J s A->FW env X ->
 exS F Fq q c H J ≠ .stuck->wpAny (model S.prog S.w) A (exec st env) (QF S X env Γ sc f s (exS F Fq q c H J)) (ES S X (ya env) f false s (exS F Fq q c H J)) s
noncomputable def zDm (Γ:List Str) (sc:Scope) (st:List Stmt) (c:List CS):Prop:=∀ (env:Env) (H:List V) (f:List Loc) (X:List Addr) (J:Sto) (s:Shared) (A:Around),St S q d Γ sc env H f X J s A->FW env X ->
 exL F Fq q c H J ≠ .stuck->wpAny (model S.prog S.w) A (execs st env) (QF S X env Γ sc f s (exL F Fq q c H J)) (ES S X (ya env) f false s (exL F Fq q c H J)) s
end
section
variable {S:zQ} {C:Ctx} {T:Nat->Option Fn} {F Fq:Calls} {q:Bool} {d:Nat} {Γ:List Str} {sc:Scope}
variable {X X' Y Z:List Addr} {f g:List Loc} {J:Sto} {s s':Shared} {A:Around} {E:Value->Shared->Prop} {I a:Addr} {its:Items} {i:Nat} {env:Env} {H:List V}
theorem QF.lifts:zCf (ya env) (fun f s r a s'=>QF S X env Γ sc f s r a s'):=fun f g s s₁ r c s' hg k q=>by
 obtain ⟨b',J'',g',e,hg',k',L,p⟩:=q
 rw [List.append_assoc] at L p
 exact ⟨b',J'',g++g',e,hg.trans k.live hg',k.trans hg k',L,p⟩
theorem Sim.goS {α β:Type} {P:α->β->List Loc->Shared->Prop}
  {t:Sem α} {r:R β} {rk:β->Sto->R Fl} {W:α->Shared->Prop} {Q':Flow->Shared->Prop} {E':Value->Shared->Prop} (h:Sim S A X [] f P t r s) (hne:r.bind rk ≠ .stuck)
  (hQ:∀ c s'',QF S X env Γ sc f s (r.bind rk) c s''->Q' c s'') (hE:∀ e s'',ES S X (ya env) f false s (r.bind rk) e s''->E' e s'')
  (hk:∀ a b J' g s',rk b J' ≠ .stuck->Fresh g s->Kp f [] s s'->Lk S X (f++g) J' s'.heap->P a b (f++g) s'->(∀ c s'',QF S X env Γ sc (f++g) s' (rk b J') c s''->Q' c s'') ->
   (∀ e s'',ES S X (ya env) (f++g) false s' (rk b J') e s''->E' e s'')->W a s'):wpAny (model S.prog S.w) A t W E' s:=by
 have hr:r ≠ .stuck:=fun e=>hne (by rw [e]; rfl)
 refine wpAny_mono (h hr) (fun a s' q=>?_) fun e s' q=>hE e s' ?_
 ·obtain ⟨b,J',g,rfl,hg,k,L,p⟩:=q
  have ky:Kp f (ya env) s s':=k.mono fun a h=>nomatch h
  exact hk a b J' g s' hne hg k L p (fun c s'' q=>hQ c s'' (QF.lifts f g s s' _ c s'' hg ky q)) fun e s'' q=>hE e s'' (ES.lifts f g s s' _ e s'' hg ky q)
 ·obtain ⟨c,J',g,ea,e1,rfl,hg,k,L,x⟩:=q
  exact ⟨c,J',g,ea,e1,rfl,hg,(k.mono fun a h=>nomatch h),L,x⟩
theorem wR {y:Str}:∀ {Γ:List Str} {i:Nat},yB y Γ=some i->Γ[i]?=some y
 | [],i,h=>by simp [yB] at h
 | z :: Γ,i,h=>by
  simp only [yB] at h
  split at h
  ·rename_i j hj; cases h; simpa using wR hj
  ·split at h
   ·rename_i e; cases h; rw [eq_of_beq e]; rfl
   ·first | exact zB h | exact zF h | cases h
theorem zFU {x:Str} (h:yN Γ sc x=some i):(sc.names.lookup x=some .local \/ sc.names.lookup x=some .cell) /\ yB x Γ=some i:=by
 unfold yN at h
 split at h
 ·rename_i e
  simp only [Bool.or_eq_true] at e
  exact ⟨e.imp (fun q=>eq_of_beq q) fun q=>eq_of_beq q,h⟩
 ·first | exact zB h | exact zF h | cases h
theorem FR.mv (m:Mv a s s') (ha:a ∈ X) (hl:env.locals ≠ a) (hc:∀ x c,env.cells.lookup x=some c->c ≠ a) (fr:FR S X f s.heap env Γ sc H):FR S X f s'.heap env Γ sc H:=by
 have ns:∀ {b:Addr} {m':Str->Option Value},b ≠ a->s.heap.Ns b m'->s'.heap.Ns b m':=fun hb h=>by
  obtain ⟨o,es,ep,ho,r⟩:=h
  exact ⟨o,es,ep,m.keep _ _ hb ho,r⟩
 have cl:∀ {b:Addr} {m':Option Value},b ≠ a->s.heap.IsCell b m'->s'.heap.IsCell b m':=fun hb h=>by
  obtain ⟨o,ho,r⟩:=h
  exact ⟨o,m.keep _ _ hb ho,r⟩
 refine ⟨fr.kind,fr.glob,fr.blt,fr.names,⟨fr.loc.1,let ⟨m',h⟩:=fr.loc.2; ⟨m',ns hl h⟩⟩,fun x hx=>?_,fun x i v h1 h2 h3 h4=>?_,fr.len⟩
 ·obtain ⟨c,o,e1,hX,h⟩:=fr.cells x hx
  exact ⟨c,o,e1,hX,cl (hc x c e1) h⟩
 ·obtain ⟨w,h5,h6⟩:=fr.vals x i v h1 h2 h3 h4
  refine ⟨w,?_,m.vr ha h6⟩
  rcases h5 with ⟨k,m',h7,h8⟩ | ⟨k,c,h7,h8⟩
  ·exact .inl ⟨k,m',ns hl h7,h8⟩
  ·exact .inr ⟨k,c,h7,cl (hc x c h7) h8⟩
theorem xF {x:Str} {v:V} {w:Value} {Q:Unit->Shared->Prop} (fr:FR S X f s.heap env Γ sc H) (fw:FW env X) (hx:yN Γ sc x=some i) (r:VR S X f s.heap v w)
  (h:∀ a s',a ∈ ya env->a ∈ X->Mv a s s'->FR S X f s'.heap env Γ sc (H.set i v)->Q () s'):wpAny (model S.prog S.w) A (storeName env x w) Q E s:=by
 obtain ⟨hk,hi⟩:=zFU hx
 have hkind:env.kindOf x=some .local \/ env.kindOf x=some .cell:=by
  rcases fr.names x with e | ⟨e,_⟩
  ·rw [e]; exact hk
  ·rcases hk with h | h <;> rw [h] at e <;> cases e
 have hvx:zBH sc x=true:=by unfold zBH; rcases hk with h | h <;> rw [h]
 have hil:i < H.length:=by rw [fr.len]; exact jO hi
 obtain ⟨m,hm⟩:=fr.loc.2
 have same:∀ y,yB y Γ=some i->y=x:=fun y hy=>by
  have h1:=wR hy
  rw [wR hi] at h1; cases h1; rfl
 have setv:∀ {j:Nat} {v':V},(H.set i v)[j]?=some v'->j ≠ i->H[j]?=some v':=fun h hne=>by rwa [List.getElem?_set_ne (fun q=>hne q.symm)] at h
 have cellNe:∀ x c,yh (env.kindOf x)->env.cells.lookup x=some c->c ≠ env.locals:=fun x c hk e q=>by
  obtain ⟨c',o,e',_,⟨ob,h1,h2⟩⟩:=fr.cells x hk
  rw [e] at e'; cases e'
  obtain ⟨ob',es,ep,h3,h4,_⟩:=hm
  rw [q,h3] at h1; cases h1; rw [h4] at h2; cases h2
 rcases hkind with hl | hc
 ·refine wpAny_storeName_local hl hm (fun h' hn' hs'=>?_) (by simp [fr.kind])
  have mv:Mv env.locals s { s with heap:=h',toks:=s.toks+1 }:=zFG hn' fun b hb=>hs'.2 b hb
  refine h env.locals _ List.mem_cons_self fw.loc mv ?_
  have cl:∀ {b:Addr} {m':Option Value},b ≠ env.locals->s.heap.IsCell b m'->h'.IsCell b m':=fun hb h=>by
   obtain ⟨o,ho,r⟩:=h
   exact ⟨o,mv.keep _ _ hb ho,r⟩
  refine ⟨fr.kind,fr.glob,fr.blt,fr.names,⟨fr.loc.1,_,hn'⟩,fun y hy=>?_,fun y j v' h1 h2 h3 h4=>?_,by rw [List.length_set]; exact fr.len⟩
  ·obtain ⟨c,o,e1,hX,h5⟩:=fr.cells y hy
   exact ⟨c,o,e1,hX,cl (cellNe y c hy e1) h5⟩
  ·by_cases hj:j=i
   ·subst hj
    have hy:=same y h2
    subst hy
    rw [List.getElem?_set_self hil] at h3; cases h3
    exact ⟨w,.inl ⟨hl,_,hn',by simp⟩,mv.vr fw.loc r⟩
   ·obtain ⟨w',h5,h6⟩:=fr.vals y j v' h1 h2 (setv h3 hj) h4
    refine ⟨w',?_,mv.vr fw.loc h6⟩
    rcases h5 with ⟨k,m',h7,h8⟩ | ⟨k,c,h7,h8⟩
    ·refine .inl ⟨k,_,hn',?_⟩
     have hyx:y ≠ x:=fun q=>by rw [q,hi] at h2; cases h2; exact hj rfl
     obtain ⟨ob,es,ep,q1,q2,q3,q4⟩:=h7
     obtain ⟨ob',es',ep',p1,p2,p3,p4⟩:=hm
     rw [q1] at p1; cases p1; rw [q2] at p2; cases p2
     show (if y=x then some w else m y)=some w'
     rw [if_neg hyx,<- p4 y,q4 y,h8]
    ·exact .inr ⟨k,c,h7,cl (cellNe y c k h7) h8⟩
 ·obtain ⟨c,o,e1,hX,hcell⟩:=fr.cells x (.inl hc)
  refine wpAny_storeName_cell fr.kind hc e1 hcell fun h' hc' hs'=>?_
  obtain ⟨o2,e3,e4⟩:=id hc'
  have mv:Mv c s { s with heap:=h' }:=⟨rfl,fun b o hb e=>(hs'.2 b hb).trans e,⟨o2,e3⟩,fun ob es n q1 q2=>by
   obtain ⟨ob',q3,q4⟩:=hcell
   rw [q3] at q1; cases q1; rw [q4] at q2; cases q2⟩
  refine h c _ (List.mem_cons_of_mem _ (zCC e1)) hX mv ?_
  have hlne:env.locals ≠ c:=fun q=>cellNe x c (.inl hc) e1 q.symm
  have ns:∀ {m':Str->Option Value},s.heap.Ns env.locals m'->h'.Ns env.locals m':=fun h=>by
   obtain ⟨o,es,ep,ho,r⟩:=h
   exact ⟨o,es,ep,mv.keep _ _ hlne ho,r⟩
  have cl:∀ {b:Addr} {m':Option Value},b ≠ c->s.heap.IsCell b m'->h'.IsCell b m':=fun hb h=>by
   obtain ⟨o,ho,r⟩:=h
   exact ⟨o,mv.keep _ _ hb ho,r⟩
  refine ⟨fr.kind,fr.glob,fr.blt,fr.names,⟨fr.loc.1,_,ns hm⟩,fun y hy=>?_,fun y j v' h1 h2 h3 h4=>?_,by rw [List.length_set]; exact fr.len⟩
  ·obtain ⟨c',o',e1',hX',h5⟩:=fr.cells y hy
   by_cases hcc:c'=c
   ·subst hcc; exact ⟨c',_,e1',hX,hc'⟩
   ·exact ⟨c',o',e1',hX',cl hcc h5⟩
  ·by_cases hj:j=i
   ·subst hj
    have hy:=same y h2
    subst hy
    rw [List.getElem?_set_self hil] at h3; cases h3
    exact ⟨w,.inr ⟨.inl hc,c,e1,hc'⟩,mv.vr hX r⟩
   ·obtain ⟨w',h5,h6⟩:=fr.vals y j v' h1 h2 (setv h3 hj) h4
    refine ⟨w',?_,mv.vr hX h6⟩
    have hyx:y ≠ x:=fun q=>by rw [q,hi] at h2; cases h2; exact hj rfl
    rcases h5 with ⟨k,m',h7,h8⟩ | ⟨k,c',h7,h8⟩
    ·exact .inl ⟨k,m',ns h7,h8⟩
    ·exact .inr ⟨k,c',h7,cl (fun q=>hyx (fw.inj y x c (q ▸ h7) e1)) h8⟩
theorem zRT {v:Fl} {fl:Flow} (hY:a ∈ ya env) (hX:a ∈ X) (L:Lk S X f J s.heap) (m:Mv a s s') (h:FlR S X f s'.heap env Γ sc v fl):QF S X env Γ sc f s (.ok v J) fl s':=
 ⟨v,J,[],rfl,.nil s,m.kp hY,by rw [List.append_nil]; exact m.lk hX L,by rw [List.append_nil]; exact h⟩
theorem zBd {v:Fl} {fl:Flow} (L:Lk S X f J s.heap) (h:FlR S X f s.heap env Γ sc v fl):QF S X env Γ sc f s (.ok v J) fl s:=
 ⟨v,J,[],rfl,.nil s,.refl f _ s,by rw [List.append_nil]; exact L,by rw [List.append_nil]; exact h⟩
theorem zMK {e:Expr} {t:Option Expr} {n:Nat} (h:isComp e=false) (h2:∀ el gs sc p,e ≠ .SetComp el gs sc p) (h3:∀ k v gs sc p,e ≠ .DictComp k v gs sc p):swapsWith e t n env=pure false:=by
 cases e <;> first | rfl | exact zF h.symm | exact absurd rfl (h2 _ _ _ _) | exact absurd rfl (h3 _ _ _ _ _)
theorem zPx {e:Expr} {c:CE} {pos:Pos} (h:EOk S F q d Γ sc e c):SOk S F Fq q d Γ sc (.Return (some e) pos) (.ret c):=fun env H f X J s A st fw hne=>by
 rw [zMd] at hne ⊢
 refine wpAny_Return_some ?_
 refine Sim.goS (Γ:=Γ) (sc:=sc) (h env H f X J s A st) hne (fun _ _ x=>x) (fun _ _ x=>x) fun va a' J1 g₁ s₁ hne hg k L ra hQ hE=>hQ _ _ (zBd L ⟨va,rfl,ra⟩)
theorem zNf {pos:Pos}:SOk S F Fq q d Γ sc (.Pass pos) .pass:=fun env H f X J s A st fw hne=>by
 rw [zQR]
 exact wpAny_Pass (zBd st.lk ⟨rfl,st.fr⟩)
theorem zPq {e:Expr} {c:CE} {pos:Pos} (h:EOk S F q d Γ sc e c) (hs:∀ env n t,swapsWith e t n env=pure false):SOk S F Fq q d Γ sc (.Expr e pos) (.exp c):=fun env H f X J s A st fw hne=>by
 rw [zMZ] at hne ⊢
 refine wpAny_Expr_any ?_ (by simp [interactive,st.fr.kind]) (hs _ _ _)
 refine Sim.goS (Γ:=Γ) (sc:=sc) (h env H f X J s A st) hne (fun _ _ x=>x) (fun _ _ x=>x) fun va a' J1 g₁ s₁ hne hg k L ra hQ hE=>hQ _ _ (zBd L ⟨rfl,(st.keep hg k L).fr⟩)
theorem zKX {x:Str} {px pos:Pos} {e:Expr} {c:CE} (hx:yN Γ sc x=some i) (h:EOk S F q d Γ sc e c) (st:St S q d Γ sc env H f X J s A) (fw:FW env X) (hs:swapsWith e (some (.Name x px)) pos.line env=pure false) (hne:exS F Fq q (.asg i c) H J ≠ .stuck) :
  wpAny (model S.prog S.w) A (exec (.Assign [.Name x px] e pos) env) (QF S X env Γ sc f s (exS F Fq q (.asg i c) H J)) (ES S X (ya env) f false s (exS F Fq q (.asg i c) H J)) s:=by
 rw [zMW] at hne ⊢
 refine wpAny_Assign_Name ?_ hs
 refine Sim.goS (Γ:=Γ) (sc:=sc) (h env H f X J s A st) hne (fun _ _ x=>x) (fun _ _ x=>x) fun va a' J1 g₁ s₁ hne hg k L ra hQ hE=>?_
 exact xF (st.keep hg k L).fr fw hx ra fun b s' hY hX m fr=>hQ _ _ (zRT hY hX L m ⟨rfl,fr⟩)
theorem zPo {x:Str} {px pos:Pos} {e:Expr} {c:CE} (hx:yN Γ sc x=some i) (h:EOk S F q d Γ sc e c) (hs:∀ env n t,swapsWith e t n env=pure false):SOk S F Fq q d Γ sc (.Assign [.Name x px] e pos) (.asg i c):=fun env H f X J s A st fw hne =>
 zKX hx h st fw (hs _ _ _) hne
theorem zRW {t:Expr} {c:CE} {a b:List Stmt} {ca cb:List CS} {pos:Pos} (ht:TOk S F q d Γ sc t c) (ha:zDm S F Fq q d Γ sc a ca) (hb:zDm S F Fq q d Γ sc b cb):SOk S F Fq q d Γ sc (.If t a b pos) (.ite c ca cb):=fun env H f X J s A st fw hne=>by
 have key:exS F Fq q (.ite c ca cb) H J=((evE F q c H J).bind fun v J=>R.lift J (truthy J v)).bind fun t J=>if t then exL F Fq q ca H J else exL F Fq q cb H J:=by rw [zMa,R.bind_assoc]
 rw [key] at hne ⊢
 refine wpAny_If ?_
 refine Sim.goS (Γ:=Γ) (sc:=sc) (ht env H f X J s A st) hne (fun _ _ x=>x) (fun _ _ x=>x) fun va a' J1 g₁ s₁ hne hg k L ra hQ hE=>?_
 replace ra:va=a':=ra
 subst ra
 cases va with
 | true=>exact wpAny_mono (ha env H _ X J1 s₁ A (st.keep hg k L) fw hne) hQ hE
 | false=>exact wpAny_mono (hb env H _ X J1 s₁ A (st.keep hg k L) fw hne) hQ hE
theorem zPv:zDm S F Fq q d Γ sc [] []:=fun env H f X J s A st fw hne=>by
 rw [zQQ]
 exact wpAny_execs_nil (zBd st.lk ⟨rfl,st.fr⟩)
theorem zNb {a:Stmt} {b:List Stmt} {ca:CS} {cb:List CS} (ha:SOk S F Fq q d Γ sc a ca) (hb:zDm S F Fq q d Γ sc b cb):zDm S F Fq q d Γ sc (a :: b) (ca :: cb):=fun env H f X J s A st fw hne=>by
 rw [zH6] at hne ⊢
 have hr:exS F Fq q ca H J ≠ .stuck:=fun e=>hne (by rw [e]; rfl)
 refine wpAny_execs_cons (wpAny_mono (ha env H f X J s A st fw hr) (fun fl s₁ h₁=>?_) fun e s₁ h₁=>?_)
 ·obtain ⟨x,J1,g,e,hg,k,L,p⟩:=h₁
  rw [e,R.bind_ok] at hne ⊢
  cases x with
  | next H' =>
   obtain ⟨rfl,fr⟩:=p
   have st1:St S q d Γ sc env H' (f++g) X J1 s₁ A:=⟨st.cx.keep k hg,fr,L⟩
   exact wpAny_mono (hb env H' _ X J1 s₁ A st1 fw hne) (fun c s'' q=>QF.lifts f g s s₁ _ c s'' hg k q) fun c s'' q=>ES.lifts f g s s₁ _ c s'' hg k q
  | ret v =>
   obtain ⟨w,rfl,r⟩:=p
   exact ⟨.ret v,J1,g,rfl,hg,k,L,w,rfl,r⟩
 ·obtain ⟨c,J',g,ea,e1,e2,hgE,kE,LE,xE⟩:=h₁
  exact ⟨c,J',g,ea,e1,by rw [e2]; rfl,hgE,kE,LE,xE⟩
end
end Mine
end

section
namespace Mine
open PySem PyProof.Rows
section
variable {S:zQ} {C:Ctx} {T:Nat->Option Fn} {F Fq:Calls} {q:Bool} {d:Nat} {Γ:List Str} {sc:Scope}
variable {X X' Y Z:List Addr} {f g:List Loc} {J:Sto} {s s':Shared} {A:Around} {E:Value->Shared->Prop} {I a:Addr} {its:Items} {i:Nat} {env:Env} {H:List V}
set_option maxRecDepth 100000 in
theorem zFR {l:Addr} {items:Array Value} {n:Nat} {k:Int} {t:Tok} {v:Value} {Q:Unit->Shared->Prop} (hl:IsL s.heap l items n) (h0:0 <= k) (hfit:k < 2 ^ 63) (hn:k < items.size)
  (hQ:Q () { s with heap:=s.heap.update l (Obj.mapSeq (·.setIfInBounds k.toNat v)) }):wpAny (model S.prog S.w) A (setItem (.ref l) (.int k t) v) Q E s:=by
 have il:=IsL.isList hl
 unfold setItem
 try with_reducible refine wpAny_holding ?_
 first | refine wpAny_bind (wpAny_pure ?_) | skip
 refine wpAny_bind (wpAny_sequenceKey il.typeIs (by decide) ?_)
 refine wpAny_bind (wpAny_callSpecial?_slot (name:=Str.ofString "__setitem__") il.typeIs slot_list_setitem
  (wpAny_call_entry slot_list_setitem il.typeIs entry_list_setitem ?_ (args_list_setitem _ _ _)))
 show wpAny _ _ (Builtin.List.listSubscript? (.int k t) >>= _) _ _ s
 refine wpAny_bind (wpAny_listSubscript_int (fitsIndex_of h0 hfit) ?_)
 clear hfit
 obtain ⟨j,rfl⟩:=Int.eq_ofNat_of_zero_le h0
 have hj:j < items.size:=Int.ofNat_lt.mp hn
 have hx':items[j]?=some items[j]:=Array.getElem?_eq_getElem hj
 show wpAny _ _ ((seqItemAt l j >>= fun r=>pure (r.map (j,·))) >>= _) _ _ s
 refine wpAny_bind (wpAny_bind (wpAny_seqItemAt hl rfl (wpAny_pure ?_)))
 rw [hx']
 show wpAny _ _ (setSeqItemAt l j v >>= _) _ _ s
 refine wpAny_bind (wpAny_setSeqItemAt hl rfl ?_)
 first
  | exact wpAny_bind (wpAny_pure (wpAny_pure ⟨.none,rfl,wpAny_pure hQ⟩))
  | exact wpAny_pure ⟨.none,rfl,wpAny_pure hQ⟩
inductive zOs (J:Sto) (o i:V):Prop
 | list (n:Nat) (k:Int) (xs:List V) (eo:o=.ref n) (ei:i=.int k) (hJ:J[n]?=some (.list xs)) (hk:0 <= k /\ k.toNat < xs.length)
 | dict (n:Nat) (k:Int) (es:List (Int × V)) (eo:o=.ref n) (ei:i=.int k) (hJ:J[n]?=some (.dict es)) (hl:es.length < LIM)
theorem zP9 {J:Sto} {o i v:V} {γ:Type} {rk:Unit->Sto->R γ} (h:(xP J o i v).bind rk ≠ .stuck):zOs J o i:=by
 cases o with
 | ref n =>
  cases i with
  | int k =>
   replace h:(zA5 J n k v J[n]?).bind rk ≠ .stuck:=h
   cases hJ:J[n]? with
   | none=>rw [hJ] at h; exact absurd rfl h
   | some ob =>
    rw [hJ] at h
    cases ob with
    | list xs =>
     by_cases hk:0 <= k /\ k.toNat < xs.length
     ·exact .list n k xs rfl rfl hJ hk
     ·exact absurd (by show R.bind (if 0 <= k /\ k.toNat < xs.length then _ else _) _=_; rw [if_neg hk]; rfl) h
    | dict es =>
     by_cases hl:es.length < LIM
     ·exact .dict n k es rfl rfl hJ hl
     ·exact absurd (by show R.bind (if es.length < LIM then _ else _) _=_; rw [if_neg hl]; rfl) h
    | inst _=>exact absurd rfl h
  | _=>exact absurd rfl h
 | _=>exact absurd rfl h
theorem zM9 {j:Nat} (h:j < LIM):(j:Int) < 2 ^ 63:=Int.lt_trans (Int.ofNat_lt.mpr h) (by decide)
theorem zGY {o ix e:Expr} {a b c:CE} {p' pos:Pos} (ho:EOk S F q d Γ sc o a) (hi:EOk S F q d Γ sc ix b) (h:EOk S F q d Γ sc e c) (hs:∀ env n t,swapsWith e t n env=pure false):SOk S F Fq q d Γ sc (.Assign [.Subscript o ix p'] e pos) (.setItem a b c):=fun env H f X J s A st fw hne=>by
 rw [zDj] at hne ⊢
 refine wpAny_Assign_Subscript ?_ (hs _ _ _)
 refine Sim.goS (Γ:=Γ) (sc:=sc) (h env H f X J s A st) hne (fun _ _ x=>x) (fun _ _ x=>x) fun vv v' J1 g₁ s₁ hne hg k L rv hQ hE=>?_
 have st1:=st.keep hg k L
 refine Sim.goS (Γ:=Γ) (sc:=sc) (ho env H _ X J1 s₁ A st1) hne hQ hE fun vo o' J2 g₂ s₂ hne hg₂ k₂ L₂ ro hQ hE=>?_
 have st₂:=st1.keep hg₂ k₂ L₂
 have rv2:=VR.keepK k₂ hg₂ (fun _ h=>nomatch h) rv
 refine Sim.goS (Γ:=Γ) (sc:=sc) (hi env H _ X J2 s₂ A st₂) hne hQ hE fun vi i' J3 g₃ s₃ hne hg₃ k₃ L₃ ri hQ hE=>?_
 have st₃:=st₂.keep hg₃ k₃ L₃
 have rv3:=VR.keepK k₃ hg₃ (fun _ h=>nomatch h) rv2
 have ro3:=VR.keepK k₃ hg₃ (fun _ h=>nomatch h) ro
 cases zP9 hne with
 | list n k' xs eo ei hJ hk =>
  subst eo
  subst ei
  have hd:xP J3 (.ref n) (.int k') v'=.ok () (J3.set n (.list (xs.set k'.toNat v'))):=by show zA5 J3 n k' v' J3[n]?=_; rw [hJ]; exact if_pos hk
  rw [hd] at hQ
  obtain ⟨ax,vs,kk,rfl,hf,il,rs,hlen⟩:=zAN L₃ ro3 hJ
  obtain ⟨t,rfl⟩:=zr ri
  obtain ⟨j,rfl⟩:=Int.eq_ofNat_of_zero_le hk.1
  have hj:j < vs.size:=by rw [zf rs]; exact hk.2
  have hfit:(j:Int) < 2 ^ 63:=zM9 (Nat.lt_of_lt_of_le (zf rs ▸ hj) hlen)
  obtain ⟨L4,k4⟩:=zFk (fn:=fun xs=>xs.setIfInBounds j vv) (xs:=xs.set j v') L₃ hf il (by rw [Array.toList_setIfInBounds]; exact zGz rs rv3) (by rw [List.length_set]; exact hlen)
  refine zFR il (Int.natCast_nonneg j) hfit (Int.ofNat_lt.mpr hj) (hQ _ _ ⟨.next H,_,[],rfl,.nil _,k4.mono (fun a h=>nomatch h),by rw [List.append_nil]; exact L4,rfl,?_⟩)
  rw [List.append_nil]
  have:=st₃.fr.keep (g:=[]) L₃ k4 (.nil _)
  rwa [List.append_nil] at this
 | dict n k' es eo ei hJ hl =>
  subst eo
  subst ei
  have hd:xP J3 (.ref n) (.int k') v'=.ok () (J3.set n (.dict (wA es k' v'))):=by show zA5 J3 n k' v' J3[n]?=_; rw [hJ]; exact if_pos hl
  rw [hd] at hQ
  refine zFS L₃ ro3 ri hJ hl rv3 fun h' tk L4 k4=>hQ _ _ ⟨.next H,_,[],rfl,.nil _,k4 _,by rw [List.append_nil]; exact L4,rfl,?_⟩
  exact st₃.fr.keep (g:=[]) L₃ (k4 []) (.nil _)
theorem FR.drop {h h':Heap} (fr:FR S X f h env Γ sc H) (fw:FW env X') (hX:∀ a ∈ X',a ∈ X /\ a ∉ Z) (hZ:∀ a ∈ Z,a ∈ X) (k:∀ b o,b ∉ Z->h.get? b=some o->h'.get? b=some o):FR S X' f h' env Γ sc H:=by
 have ns:∀ {b:Addr} {m':Str->Option Value},b ∈ X'->h.Ns b m'->h'.Ns b m':=fun hb x=>by
  obtain ⟨o,es,ep,ho,r⟩:=x
  exact ⟨o,es,ep,k _ _ (hX _ hb).2 ho,r⟩
 have cl:∀ {b:Addr} {m':Option Value},b ∈ X'->h.IsCell b m'->h'.IsCell b m':=fun hb x=>by
  obtain ⟨o,ho,r⟩:=x
  exact ⟨o,k _ _ (hX _ hb).2 ho,r⟩
 refine ⟨fr.kind,fr.glob,fr.blt,fr.names,⟨fw.loc,let ⟨m,h⟩:=fr.loc.2; ⟨m,ns fw.loc h⟩⟩,fun x hx=>?_,fun x i v h1 h2 h3 h4=>?_,fr.len⟩
 ·obtain ⟨c,o,e,_,h⟩:=fr.cells x hx
  exact ⟨c,o,e,fw.cellX x c e,cl (fw.cellX x c e) h⟩
 ·obtain ⟨w,h5,h6⟩:=fr.vals x i v h1 h2 h3 h4
  refine ⟨w,?_,h6.drop (fun a ha=>(hX a ha).1) hZ k⟩
  rcases h5 with ⟨kk,m',h7,h8⟩ | ⟨kk,c,h7,h8⟩
  ·exact .inl ⟨kk,m',ns fw.loc h7,h8⟩
  ·exact .inr ⟨kk,c,h7,cl (fw.cellX x c h7) h8⟩
theorem FW.more (fw:FW env X):FW env (a :: X):=⟨List.mem_cons_of_mem _ fw.loc,fun p hp=>List.mem_cons_of_mem _ (fw.mem p hp),fw.inj⟩
theorem zLg (fw:FW env X) (hI:I ∉ X):I ∉ ya env:=fun h=>by
 rcases List.mem_cons.mp h with h | h
 ·exact hI (h ▸ fw.loc)
 ·obtain ⟨p,hp,rfl⟩:=List.mem_map.mp h
  exact hI (fw.mem p hp)
theorem zFK {scope:Scope} {x y:Str} {px py pos spos:Pos} {elt iter:Expr} {ifs:List Expr} {ce c':CE} {cond:Option CE} {k:SK} {cs:List CE} (hy:yN Γ sc y=some i) (ok:vN Γ sc scope x) (hsrc:zA9 S F q d Γ sc iter k cs)
  (hcond:(ifs=[] /\ cond=none) \/ ∃ e c,ifs=[e] /\ cond=some c /\ TOk S F q d (Γ++[x]) scope e c) (helt:EOk S F q d (Γ++[x]) scope elt ce) (hc':c'=.comp ce k cs cond \/ c'=.trk (.comp ce k cs cond)) :
  SOk S F Fq q d Γ sc (.Assign [.Name y py] (.ListComp elt [⟨.Name x px,iter,ifs,0⟩] scope pos) spos) (.asg i c'):=fun env H f X J s A st fw hne=>by
 have hn:=zHg (px:=px) (pos:=pos) ok hsrc hcond helt
 have he:EOk S F q d Γ sc (.ListComp elt [⟨.Name x px,iter,ifs,0⟩] scope pos) c':=by
  rcases hc' with rfl | rfl
  ·exact hn.eok
  ·exact hn.trk
 by_cases hsw:(env.blockKind==.function&&env.kindOf y==some .local&&py.line==pos.line&&!(scope.names.any fun (n,k)=>n==y&&(k==.local||k==.cell)))=true
 ·have hs:swapsWith (.ListComp elt [⟨.Name x px,iter,ifs,0⟩] scope pos) (some (.Name y py)) spos.line env=pure true:=by
   show pure (env.blockKind==.function&&env.kindOf y==some .local&&py.line==pos.line&&!(scope.names.any fun (n,k)=>n==y&&(k==.local||k==.cell)))=_
   rw [hsw]
  rw [exec_Assign_Name_used _ _ _ _ hs]
  rw [zMW] at hne ⊢
  have hq:q=false:=by
   cases q with
   | false=>rfl
   | true=>rcases hc' with rfl | rfl <;> exact absurd rfl hne
  have hval:∃ tk:V->Sto->R V,evE F q c' H J=(((evL F q cs H J).bind fun vs J=>R.lift J (zT J k vs)).bind fun its J=>(zn its (yE F q ce cond H) [] J).bind fun acc J=>.ok (.lst acc) J).bind tk /\
    ∀ {X:List Addr} {s:Shared} {r:R V} {v:Value} {s':Shared},(r.bind tk) ≠ .stuck->QN S X [] f s r v s'->QS S X [] f (PV S X) s (r.bind tk) v s':=by
   rcases hc' with rfl | rfl
   ·exact ⟨fun v J=>.ok v J,by rw [jH hq]; generalize R.bind _ _=r; cases r <;> rfl,fun {X s r v s'} _ h=>by
     have:(r.bind fun v J=>R.ok v J)=r:=by cases r <;> rfl
     rw [this]; exact h.qs⟩
   ·exact ⟨fun v J=>zEj J v,by rw [zCY,jH hq],fun {X s r v s'} hne h=>h.trk hne⟩
  obtain ⟨tk,e0,htk⟩:=hval
  rw [e0] at hne ⊢
  obtain ⟨cl,hclos,hcl⟩:=st.fr.closure ok
  refine wpAny_bind (wpAny_standAt (wpAny_bind ?_))
  show wpAny _ A (do let _ <- comprehension (.ListComp elt [⟨.Name x px,iter,ifs,0⟩] scope pos) scope env _ (newList []) false (eval iter env) (some (assign (.Name y py) env))) _ _ s
  refine wpAny_bind (wpAny_mono (wpAny_comprehension_free (Q:=fun _ s'=>QF S X env Γ sc f s _ .next s') (g:=⟨.Name x px,iter,ifs,0⟩) (gs:=[]) rfl (hsrc.1 env) hclos ok.kind (fun p hp e=>(ok.loc p hp e).2) ?_) (fun _ s' hq=>wpAny_pure (wpAny_pure hq)) fun _ _ e=>e)
  have hr:((evL F q cs H J).bind fun vs J=>R.lift J (zT J k vs)) ≠ .stuck:=fun e=>hne (by rw [e]; rfl)
  refine wpAny_mono (hsrc.2 env H f X J s A st hr) (fun xv s₁ h₁=>wpAny_mono h₁ (fun it s₂ h₂=>?_) fun e s' h=>?_) fun e s' h=>?_
  ·obtain ⟨its,J1,g,I,e1,rfl,hI,hIX,hg,kk,L,x0⟩:=h₂
   rw [e1,R.bind_ok] at hne ⊢
   have hne2:zn its (yE F q ce cond H) [] J1 ≠ .stuck:=fun e=>hne (by rw [e]; rfl)
   refine zBv st (st.cx.hand hq) ok hcl hcond helt hI hg kk L x0 hne2 (fun N D acc J' g' m ys n s' hN hD hND e2 hg' k' L' hns il vs hlen=>?_)
    (fun acc N c J' g' ea oe vs T m s' hN e2 hg' k' x' ns p1 p2 p3=>zEf hN (st.lk.new hN).2 (fun a ha=>(st.lk.hid a ha).2.2) (k'.mono fun a h=>nomatch h) x' ns p1 p2 p3 fun s'' k'' L'' x''=>⟨c,J',g',ea,rfl,by rw [e2]; rfl,hg',k'',L'',x''⟩)
   rw [e2,R.bind_ok] at hne ⊢
   have hNX:N ∉ X:=(st.lk.new hN).2
   have hDX:D ∉ X:=(st.lk.new hD).2
   have qn:QN S (N :: X) [] f s (.ok (.lst acc) J') (.ref D) s':=by
    have hsw2:∀ a,a ∈ D :: N :: X->a ∈ N :: D :: X:=zMi (.tail _ (.head _)) (.head _) fun a ha=>.tail _ (.tail _ ha)
    have L2:Lk S (D :: N :: X) (f++g') J' s'.heap:=L'.less hsw2
    have vs2:=VRs.less hsw2 vs
    refine ⟨.lst acc,J',g',rfl,hg',k',L2.less fun a ha=>List.mem_cons_of_mem _ ha,?_,fun xs hxs=>?_⟩
    ·exact ⟨D,ys,n,rfl,⟨(L2.hid D List.mem_cons_self).2.1,fun h=>(List.mem_cons.mp h).elim (fun q=>hND q.symm) hDX⟩,il,vs2.less fun a ha=>List.mem_cons_of_mem _ ha,hlen⟩
    ·cases hxs
     exact ⟨D,ys,n,rfl,hD,(fun h=>(List.mem_cons.mp h).elim (fun q=>hND q.symm) hDX),L2,il,vs2,hlen⟩
   have hne3:((R.ok (.lst acc) J').bind tk) ≠ .stuck:=fun e=>hne (by rw [e]; rfl)
   obtain ⟨v3,σ3,g3,e3,hg3,k3,L3,r3⟩:=htk hne3 qn
   rw [e3,R.bind_ok]
   have fr3:FR S (N :: X) (f++g3) s'.heap env Γ sc H:=st.fr.later st.lk k3 hg3 (fun a ha=>(List.mem_cons.mp ha).elim (fun h=>.inr (h ▸ hN)) .inl) fun a ha=>List.mem_cons_of_mem _ ha
   refine wpAny_assign_Name (xF fr3 fw.more hy r3 fun b s4 hY hX m4 fr4=>?_)
   have hbN:N ≠ b:=fun q=>zLg fw hNX (q ▸ hY)
   refine ⟨m,zHf hns fun o=>m4.keep N o hbN,fun h' hs4=>?_⟩
   have hkk:∀ b o,b ∉ [N]->s4.heap.get? b=some o->h'.get? b=some o:=fun b o hb e=>(hs4.2 b (fun q=>hb (q ▸ List.mem_singleton.mpr rfl))).trans e
   have hZX:∀ a ∈ X,a ∈ N :: X /\ a ∉ [N]:=fun a ha=>⟨List.mem_cons_of_mem _ ha,fun h=>hNX (List.mem_singleton.mp h ▸ ha)⟩
   have hZ:∀ a ∈ [N],a ∈ N :: X:=fun a ha=>List.mem_singleton.mp ha ▸ List.mem_cons_self
   have ky:Kp f (ya env) s s4:=(k3.mono fun a h=>nomatch h).trans hg3 (m4.kp hY)
   exact ⟨.next (H.set i v3),σ3,g3,rfl,hg3,ky.ends (Z:=[N]) rfl hkk (fun b hb=>List.mem_singleton.mp hb ▸ hN),(m4.lk hX L3).drop hZX hZ hkk,rfl,fr4.drop fw hZX hZ hkk⟩
  ·obtain ⟨c,J',g,ea,e1,e2,hg,kk,L,r⟩:=h
   exact ⟨c,J',g,ea,e1,by rw [e2]; rfl,hg,(kk.mono fun a h=>nomatch h),L,r⟩
  ·obtain ⟨c,J',g,ea,e1,e2,hg,kk,L,r⟩:=h
   exact ⟨c,J',g,ea,e1,by rw [e2]; rfl,hg,(kk.mono fun a h=>nomatch h),L,r⟩
 ·refine zKX hy he st fw ?_ hne
  show pure (env.blockKind==.function&&env.kindOf y==some .local&&py.line==pos.line&&!(scope.names.any fun (n,k)=>n==y&&(k==.local||k==.cell)))=_
  rw [Bool.eq_false_iff.mpr hsw]
end
end Mine
end

section
namespace Mine
open PySem PyProof.Rows
section
variable {S:zQ} {C:Ctx} {T:Nat->Option Fn} {F Fq:Calls} {q:Bool} {d:Nat} {Γ:List Str} {sc:Scope}
variable {X X' Y Z:List Addr} {f g:List Loc} {J:Sto} {s s':Shared} {A:Around} {E:Value->Shared->Prop} {I a:Addr} {its:Items} {i:Nat} {env:Env} {H:List V}
structure zN2 (S:zQ) (s:Shared) (X:List Addr) (f:List Loc) (I:Addr) (env:Env) (Γ:List Str) (sc:Scope) (its:Items) (i:Nat) (H:List V) (J':Sto) (g:List Loc) (s':Shared):Prop where
 fresh:Fresh g s
 kp:Kp f (ya env) s s'
 lk:Lk S (I :: X) (f++g) J' s'.heap
 it:ItAt S (I :: X) (f++g) s'.heap I its i
 fr:FR S (I :: X) (f++g) s'.heap env Γ sc H
theorem ItAt.keepY (k:Kp f Y s s') (hg:Fresh g s) (hI:I ∈ X) (hXf:∀ a ∈ X,a ∉ addrs f) (hY:∀ a ∈ Y,a ∈ X) (hIY:I ∉ Y) (x:ItAt S X f s.heap I its i):ItAt S X (f++g) s'.heap I its i:=
 ItAt.keep (f:=f) (f':=f++g) (X:=X) (X':=X) (h:=s.heap) (fun _ _ e=>List.getElem?_append_left (List.getElem?_eq_some_iff.mp e).1 ▸ e)
  (fun a o ho h1 h2=>⟨⟨fun h=>(mem_addrs_append.mp h).elim h1 (yT hg ho),h2⟩,k.kept a o ho h1 fun h=>h2 (hY a h)⟩) (fun o ho=>k.kept I o ho (hXf I hI) hIY) x
theorem zQT (fw:FW env X):∀ a ∈ ya env,a ∈ X:=fun a h=>by
 rcases List.mem_cons.mp h with h | h
 ·exact h ▸ fw.loc
 ·obtain ⟨p,hp,rfl⟩:=List.mem_map.mp h
  exact fw.mem p hp
inductive zN1 (S:zQ) (s:Shared) (X:List Addr) (f:List Loc) (I:Addr) (env:Env) (Γ:List Str) (sc:Scope) (its:Items) (g:V->List V->Sto->R Fl) (total:R Fl) (n:Nat) (s':Shared):Prop
 | mk (j:Nat) (H':List V) (J':Sto) (l:List Loc) (hf:yp its g n j H' J'=total) (t:zN2 S s X f I env Γ sc its j H' J' l s'):zN1 S s X f I env Γ sc its g total n s'
theorem zPr {x:Str} {px pos:Pos} {iter:Expr} {body:List Stmt} {cb:List CS} {k:SK} {cs:List CE} (hx:yN Γ sc x=some i) (hsrc:zA9 S F q d Γ sc iter k cs) (hb:zDm S F Fq q d Γ sc body cb) :
  SOk S F Fq q d Γ sc (.For (.Name x px) iter body [] pos) (.for i k cs cb):=fun env H f X J s A st fw hne=>by
 have hq:q=false:=Bool.eq_false_iff.mpr fun h=>hne (by rw [zOi,if_pos h])
 have hh:=st.cx.hand hq
 have key:exS F Fq q (.for i k cs cb) H J=((evL F q cs H J).bind fun vs J=>R.lift J (zT J k vs)).bind fun it J=>yl it (fun x H J=>exL F Fq q cb (H.set i x) J) H J:=by rw [zOi,hq,if_neg (by simp),R.bind_assoc]
 rw [key] at hne ⊢
 have hr:((evL F q cs H J).bind fun vs J=>R.lift J (zT J k vs)) ≠ .stuck:=fun e=>hne (by rw [e]; rfl)
 refine wpAny_For ?_ (hsrc.1 env)
 refine wpAny_mono (hsrc.2 env H f X J s A st hr) (fun xv s₁ h₁=>wpAny_mono h₁ (fun it s₂ h₂=>?_) fun e s' h=>?_) fun e s' h=>?_
 rotate_left
 ·obtain ⟨c,J',g,ea,e1,e2,hg,kk,L,r⟩:=h
  exact ⟨c,J',g,ea,e1,by rw [e2]; rfl,hg,(kk.mono fun a h=>nomatch h),L,r⟩
 ·obtain ⟨c,J',g,ea,e1,e2,hg,kk,L,r⟩:=h
  exact ⟨c,J',g,ea,e1,by rw [e2]; rfl,hg,(kk.mono fun a h=>nomatch h),L,r⟩
 obtain ⟨its,J1,g,I,e1,rfl,hI,hIX,hg,kk,L,x0⟩:=h₂
 rw [e1,R.bind_ok] at hne ⊢
 have hIya:=zLg fw hIX
 have hIin:I ∈ I :: X:=List.mem_cons_self
 have fw':FW env (I :: X):=fw.more
 have hZX:∀ a ∈ X,a ∈ I :: X /\ a ∉ [I]:=fun a ha=>⟨List.mem_cons_of_mem _ ha,fun h=>hIX (List.mem_singleton.mp h ▸ ha)⟩
 have hZ:∀ a ∈ [I],a ∈ I :: X:=fun a ha=>List.mem_singleton.mp ha ▸ List.mem_cons_self
 have fr0:FR S (I :: X) (f++g) s₂.heap env Γ sc H:=st.fr.later st.lk kk hg (fun a ha=>(List.mem_cons.mp ha).elim (fun h=>.inr (h ▸ hI)) .inl) fun a ha=>List.mem_cons_of_mem _ ha
 have t0:zN2 S s X f I env Γ sc its 0 H J1 g s₂:=⟨hg,(kk.mono fun a h=>nomatch h),L,x0,fr0⟩
 unfold yl at hne ⊢
 generalize htot:yp its (fun x H J=>exL F Fq q cb (H.set i x) J) (zAa J1 its) 0 H J1=total at hne ⊢
 refine codeAny_forLoop (zN1 S s X f I env Γ sc its (fun x H J=>exL F Fq q cb (H.set i x) J) total) ?_ (zAa J1 its) (.mk 0 H J1 g htot t0)
 rintro n s' ⟨j,H',J',g',hf,t⟩
 cases n with
 | zero=>rw [zGD] at hf; exact absurd hf.symm hne
 | succ n =>
 rw [jL] at hf
 cases hnx:yL J' its j with
 | none=>rw [hnx] at hf; exact absurd hf.symm hne
 | some o =>
 rw [hnx] at hf
 cases o with
 | none =>
  replace hf:R.ok (Fl.next H') J'=total:=hf
  refine wpAny_mono (zFH hh t.lk t.it hnx) (fun r s₃ h₃=>?_) fun _ _ x=>x
  obtain ⟨rfl,hr3,hk3⟩:=h₃
  have hkk:∀ b o,b ∉ [I]->s'.heap.get? b=some o->s₃.heap.get? b=some o:=fun b o hb e=>hk3 b o (fun q=>hb (q ▸ List.mem_singleton.mpr rfl)) e
  refine wpAny_execs_nil ?_
  exact ⟨.next H',J',g',hf.symm,t.fresh,t.kp.ends (Z:=[I]) hr3 hkk (fun b hb=>List.mem_singleton.mp hb ▸ hI),t.lk.drop hZX hZ hkk,rfl,t.fr.drop fw hZX hZ hkk⟩
 | some x' =>
 replace hf:((exL F Fq q cb (H'.set i x') J').bind fun fl J=>match fl with | .next H=>yp its (fun x H J=>exL F Fq q cb (H.set i x) J) n (j+1) H J | .ret v=>.ok (.ret v) J)=total:=hf
 refine wpAny_mono (zC1 hIin t.lk t.it hnx) (fun r s₃ h₃=>?_) fun _ _ x=>x
 obtain ⟨v,rfl,m1,it1,rv⟩:=h₃
 have hlI:env.locals ≠ I:=fun h=>hIX (h ▸ fw.loc)
 have hcI:∀ x c,env.cells.lookup x=some c->c ≠ I:=fun x c e h=>hIX (h ▸ fw.cellX x c e)
 have fr1:=t.fr.mv m1 hIin hlI hcI
 refine wpAny_assign_Name (xF fr1 fw' hx rv fun b s4 hY hX m4 fr4=>?_)
 have hbI:I ≠ b:=fun h=>hIya (h ▸ hY)
 have lk4:=m4.lk hX (m1.lk hIin t.lk)
 have it4:=it1.mv m4 hX hbI
 have kp3:Kp f (ya env) s s₃:=t.kp.mv m1 hI
 have kp4:Kp f (ya env) s s4:=kp3.trans t.fresh (m4.kp hY)
 have st4:St S q d Γ sc env (H'.set i x') (f++g') (I :: X) J' s4 A:=⟨st.cx.keep kp4 t.fresh,fr4,lk4⟩
 have hr5:exL F Fq q cb (H'.set i x') J' ≠ .stuck:=fun e=>hne (by rw [<- hf,e]; rfl)
 refine wpAny_mono (hb env _ _ _ J' s4 A st4 fw' hr5) (fun fl s6 h6=>?_) fun e s6 h6=>?_
 rotate_left
 ·obtain ⟨c,J5,g6,ea,rfl,e5,hg6,k6,lk6,x6⟩:=h6
  rw [e5] at hf
  replace hf:R.exc c J5=total:=hf
  subst hf
  have kp6:Kp f (ya env) s s6:=kp4.trans t.fresh k6
  have fg6:Fresh (g'++g6) s:=t.fresh.trans kp4.live hg6
  obtain ⟨en,l,h1,h2,h3⟩:=(st4.cx.keep k6 hg6).frs
  obtain ⟨-,L1,-,-,-,h4,-⟩:=h3 en List.mem_cons_self
  rw [List.append_assoc] at h3 x6 lk6
  have xs:ExcR S X (f++(g'++g6)) J5 s6.heap s.heap ea c:=(x6.back fun a h=>zo kp4.live h).less fun a ha=>List.mem_cons_of_mem _ ha
  have hX:∀ a ∈ X,∃ o,s.heap.get? a=some o:=fun a ha=>(st.lk.hid a ha).2.2
  show wpAny _ A (noteFrame (.ref ea) env) _ _ s6
  rw [xy (env':=en) h2]
  refine zD7 h1 h3 h4 xs hX (fun _ h=>zo kp6.live h) fun h₁ hs1 oe vs T hf1 N1 x1 p1 p2 p3=>?_
  show wpAny _ A (do
   if (<- field (.ref ea) 1)==.none then unsupported "frame.own-activation:exception-without-traceback"
   setFlight (.ref ea) env.frame) _ _ _
  refine wpAny_bind (wpAny_field p1 p2 p3 ?_)
  rw [if_neg (show ¬ ((Value.ref T==Value.none)=true) from by simp)]
  exact xu (s:={ s6 with heap:=h₁ }) x1 hX fun h₂ hs₂ hf2 N2 L2 x2=>⟨c,J5,g'++g6,ea,rfl,rfl,fg6,N2.kp (N1.kp kp6 hf1) hf2,L2,x2⟩
 obtain ⟨fl5,J5,g6,e5,hg6,k6,lk6,p6⟩:=h6
 rw [e5] at hf
 have hXf:∀ a ∈ I :: X,a ∉ addrs (f++g'):=fun a ha=>(lk4.hid a ha).2.1
 have it6:=it4.keepY k6 hg6 hIin hXf (zQT fw') hIya
 have kp6:Kp f (ya env) s s6:=kp4.trans t.fresh k6
 have fg6:Fresh (g'++g6) s:=t.fresh.trans kp4.live hg6
 rw [List.append_assoc] at lk6 it6 p6
 cases fl5 with
 | next H6 =>
  obtain ⟨rfl,fr6⟩:=p6
  exact ⟨n,Nat.lt_succ_self n,.mk (j+1) H6 J5 (g'++g6) hf ⟨fg6,kp6,lk6,it6,fr6⟩⟩
 | ret v6 =>
  obtain ⟨w6,rfl,r6⟩:=p6
  replace hf:R.ok (Fl.ret v6) J5=total:=hf
  exact ⟨.ret v6,J5,g'++g6,hf.symm,fg6,kp6,lk6.drop (Z:=[]) (fun a ha=>⟨List.mem_cons_of_mem _ ha,fun h=>nomatch h⟩) (fun a h=>nomatch h) (fun _ _ _ e=>e),w6,rfl,r6.less fun a ha=>List.mem_cons_of_mem _ ha⟩
end
end Mine
end

section
namespace Mine
open PySem PyProof.Rows
section
variable {S:zQ} {C:Ctx} {T:Nat->Option Fn} {F Fq:Calls} {q:Bool} {d:Nat} {Γ:List Str} {sc:Scope}
variable {X X' Y Z:List Addr} {f g:List Loc} {J:Sto} {s s':Shared} {A:Around} {E:Value->Shared->Prop} {I a:Addr} {its:Items} {i:Nat} {env:Env} {H:List V}
theorem Kp.go {s₁ s₂:Shared} (k:Kp f Y s s₁) (k':Kp f Y s₁ s₂):Kp f Y s s₂:=k.trans (g:=[]) (.nil s) (by rw [List.append_nil]; exact k')
theorem zGZ {x y z:Str} {p1 p2 p3 tp pos cp:Pos} {n:Nat} {fn:Expr} {args:List Expr} {kws:List Keyword} {c:CE} {j k:Nat} (hi:yN Γ sc x=some i) (hj:yN Γ sc y=some j) (hk:yN Γ sc z=some k)
  (h:EOk S F q d Γ sc (.Call fn args kws cp) c):SOk S F Fq q d Γ sc (.Assign [.Tuple [.Name x p1,.Name y p2,.Name z p3] n tp] (.Call fn args kws cp) pos) (.unpack3 i j k c):=fun env H f X J s A st fw hne=>by
 rw [zDk] at hne ⊢
 by_cases hq:q=true
 ·rw [if_pos hq] at hne; exact absurd rfl hne
 rw [if_neg hq] at hne ⊢
 have hh:A.handled=none:=st.cx.hand (by simpa using hq)
 refine Assign_Tuple ?_ rfl rfl
 refine Sim.goS (Γ:=Γ) (sc:=sc) (h env H f X J s A st) hne (fun _ _ x=>x) (fun _ _ x=>x) fun va a' J1 g₁ s₁ hne hg kp L ra hQ hE=>?_
 obtain ⟨v1,v2,v3,rfl⟩:=un3 hne
 ·obtain ⟨ad,vs,m,rfl,hx,il,rs,_⟩:=wb ra
  have hz:=zf rs
  have hvs:∃ w1 w2 w3,vs.toList=[w1,w2,w3] /\ VR S X (f++g₁) s₁.heap v1 w1 /\ VR S X (f++g₁) s₁.heap v2 w2 /\ VR S X (f++g₁) s₁.heap v3 w3:=by
   match hl:vs.toList,rs with
   | [w1,w2,w3],rs=>exact ⟨w1,w2,w3,rfl,rs.1,rs.2.1,rs.2.2.1⟩
   | [],rs=>exact False.elim rs
   | [_],rs=>exact False.elim rs.2
   | [_,_],rs=>exact False.elim rs.2.2
   | _ :: _ :: _ :: _ :: _,rs=>exact False.elim rs.2.2.2
  obtain ⟨w1,w2,w3,hl,r1,r2,r3⟩:=hvs
  refine wpAny_assign_Tuple hh ⟨_,il,rfl,m,rfl⟩ (by show 3=vs.size; rw [<- Array.length_toList,hl]; rfl) rfl fun h' he=>?_
  rw [hl]
  have ex:Ext s₁ { s₁ with heap:=h' }:=⟨rfl,fun b o e=>he b o (fun q=>by have:=Heap.lt_size e; rw [q] at this; exact Nat.lt_irrefl _ this) e⟩
  have k0:Kp (f++g₁) (ya env) s₁ { s₁ with heap:=h' }:=ex.kp _ _
  have fr0:=(st.keep hg kp L).fr.keep L (ex.kp _ []) (.nil s₁)
  rw [List.append_nil] at fr0
  have L0:=ex.lk L
  show wpAny _ _ (do holding [w2,w3] (assign (.Name x p1) env w1); assignInOrder [assign (.Name y p2) env,assign (.Name z p3) env] [w2,w3]) _ _ _
  refine wpAny_bind (wpAny_holding (wpAny_assign_Name (xF fr0 fw hi (ex.vr r1) fun b1 t1 hY1 hX1 m1 fr1=>?_)))
  show wpAny _ _ (do holding [w3] (assign (.Name y p2) env w2); assignInOrder [assign (.Name z p3) env] [w3]) _ _ _
  refine wpAny_bind (wpAny_holding (wpAny_assign_Name (xF fr1 fw hj (m1.vr hX1 (ex.vr r2)) fun b2 t2 hY2 hX2 m2 fr2=>?_)))
  show wpAny _ _ (do holding [] (assign (.Name z p3) env w3); assignInOrder [] []) _ _ _
  refine wpAny_bind (wpAny_holding (wpAny_assign_Name (xF fr2 fw hk (m2.vr hX2 (m1.vr hX1 (ex.vr r3))) fun b3 t3 hY3 hX3 m3 fr3=>?_)))
  refine wpAny_pure (hQ _ _ ⟨_,J1,[],rfl,.nil s₁,((k0.go (m1.kp hY1)).go (m2.kp hY2)).go (m3.kp hY3),?_,rfl,?_⟩)
  ·rw [List.append_nil]; exact m3.lk hX3 (m2.lk hX2 (m1.lk hX1 L0))
  ·rw [List.append_nil]; exact fr3
end
end Mine
end

section
namespace Mine
open PySem PyProof.Rows
section
variable {S:zQ} {C:Ctx} {T:Nat->Option Fn} {F Fq:Calls} {q:Bool} {d:Nat} {Γ:List Str} {sc:Scope}
variable {X X' Y Z:List Addr} {f g:List Loc} {J:Sto} {s s' s0:Shared} {A:Around} {E:Value->Shared->Prop} {I a ea:Addr} {its:Items} {i:Nat} {env:Env} {H:List V}
theorem zFL {st:Stmt}:SOk S F Fq q d Γ sc st .stuck:=fun env H f X J s A _ _ hne=>absurd rfl hne
theorem zEt (fs:zb S C T) {x:Str} {p:Pos} {c:Cls} {Q:Value->Shared->Prop} {J':Sto} (fr:FR S X f s.heap env Γ sc H) (L:Lk S X f J' s.heap) (hx:zBG C sc x=some c) (h:C.excs.lookup x=some c->x ≠ ("ValueError" : Str)->Q (S.cl c) s) :
  wpAny (model S.prog S.w) A (eval (.Name x p) env) Q E s:=by
 unfold zBG at hx
 split at hx
 ·rename_i hc
  simp only [Bool.and_eq_true,bne_iff_ne,ne_eq] at hc
  obtain ⟨⟨hg,hd⟩,hv⟩:=hc
  obtain ⟨mg,mb,h1,h2,_,_,_,_,h3⟩:=fs.g
  refine wpAny_Name ?_ (by simpa using hd)
  rcases h3 x c hx with h4 | ⟨h4,h5⟩
  ·exact wS fr.kind (fr.isGlob hg) (by rw [fr.glob]; exact L.ns h1) h4 (h hx hv)
  ·exact jg fr.kind (fr.isGlob hg) (by rw [fr.glob]; exact L.ns h1) h4 (by rw [fr.blt]; exact L.ns h2) h5 (h hx hv)
 ·first | exact zB hx | exact zF hx | cases hx
theorem zLx (fs:zb S C T) {x m:Str} {np kp cp pos:Pos} {kk:Nat} {c:Cls} (hm:(m.length <= 1000&&PyData.strOk m)=true) (hx:zBG C sc x=some c) :
  SOk S F Fq q d Γ sc (.Raise (some (.Call (.Name x np) [.Constant (.str m) kk kp] [] cp)) none pos) (.raise c):=fun env H f X J s A st fw hne=>by
 have e0:exS F Fq q (.raise c) H J=if q=true then .stuck else .exc c J:=rfl
 rw [e0] at hne ⊢
 by_cases hq:q=true
 ·rw [if_pos hq] at hne; exact absurd rfl hne
 rw [if_neg hq]
 have hh:A.handled=none:=st.cx.hand (by simpa using hq)
 have hcl:∃ y,C.excs.lookup y=some c /\ y ≠ ("ValueError" : Str):=by
  unfold zBG at hx
  split at hx
  ·rename_i hc
   simp only [Bool.and_eq_true,bne_iff_ne,ne_eq] at hc
   exact ⟨x,hx,hc.2⟩
  ·first | exact zB hx | exact zF hx | cases hx
 obtain ⟨y,hy,hv⟩:=hcl
 obtain ⟨Ca,bm,N,nm,qn,bs,hdct,sn,sub,ab,col,dd,k0,k1,k2,k3,k5,mN,hcl,hC,hN,hni,OT,_⟩:=(fs.exc y c hy).2 hv
 refine wpAny_Raise_call_subT (C:=Ca) (nm:=nm) (q:=qn) (N:=N) (bs:=bs) (bm:=bm) (hdct:=hdct) (sn:=sn) (sub:=sub) (ab:=ab) (col:=col) (dd:=dd) (k0:=k0) (k1:=k1) (k2:=k2) (k3:=k3) (k5:=k5)
  PySem.F.excBase_ValueError (mN:=mN) (OT.hasType rfl) hh rfl hni (zEt fs st.fr st.lk hx fun _ _=>⟨hcl,?_⟩)
 refine vJ rfl (zCK rfl ?_)
 refine wpAny_mono ((zLz (F:=F) (q:=q) (d:=d) (Γ:=Γ) (sc:=sc) hm) env H f X J s A st (by rw [zBO]; simp)) (fun v s₁ h₁=>?_) fun e s' h=>?_
 ·obtain ⟨b,J',g,e,hg,k,L,r⟩:=h₁
  rw [zBO] at e; cases e
  refine ⟨rfl,by show 1 <= sizeLine; decide,L.base _ _ hC,L.ns hN,OT.keeps L.base,fun h' e hm=>?_⟩
  obtain ⟨t,he,-,-⟩:=hm.there
  have ex:Ext s₁ { s₁ with heap:=h' }:=⟨rfl,hm.keeps⟩
  have ky:Kp f (ya env) s s₁:=k.mono fun a h=>nomatch h
  refine ⟨c,J,g,e,rfl,rfl,hg,ky.trans hg (ex.kp _ _),ex.lk L,zo k.live hm.new,(fs.exc y c hy).2 hv,[e],_,_,L.hideNew ex hm.new he,he,hcl.symm,rfl,.inl ⟨rfl,rfl⟩⟩
 ·obtain ⟨_,_,_,_,_,e,_⟩:=h
  rw [zBO] at e; cases e
noncomputable def zRe (k:TK) (v:V) (H:List V):List V:=
 match k with
 | .asg i=>H.set i v
 | _=>H
inductive QT (S:zQ) (X:List Addr) (env:Env) (Γ:List Str) (sc:Scope) (f:List Loc) (s:Shared) (H:List V) (k:TK) (r:R V) (fl:Flow) (s':Shared):Prop where
 | mk (v:V) (J':Sto) (g:List Loc) (e:r=.ok v J') (hg:Fresh g s) (kp:Kp f (ya env) s s') (L:Lk S X (f++g) J' s'.heap) (p:FlR S X (f++g) s'.heap env Γ sc (zFe k v H) fl) (fr:FR S X (f++g) s'.heap env Γ sc (zRe k v H))
noncomputable def TKOk (S:zQ) (F:Calls) (q:Bool) (d:Nat) (Γ:List Str) (sc:Scope) (ss:List Stmt) (k:TK) (c:CE):Prop:=
 ∀ (env:Env) (H:List V) (f:List Loc) (X:List Addr) (J:Sto) (s:Shared) (A:Around),St S q d Γ sc env H f X J s A->FW env X->evE F q c H J ≠ .stuck ->
  wpAny (model S.prog S.w) A (execs ss env) (QT S X env Γ sc f s H k (evE F q c H J)) (ES S X [] f false s (evE F q c H J)) s
theorem zQF {e:Expr} {c:CE} {pos:Pos} (h:EOk S F q d Γ sc e c):TKOk S F q d Γ sc [.Return (some e) pos] .ret c:=fun env H f X J s A st fw hne=>by
 refine wpAny_execs_cons (wpAny_Return_some (wpAny_mono (h env H f X J s A st hne) (fun v s₁ h₁=>?_) fun _ _ x=>x))
 obtain ⟨b,J',g,e,hg,k,L,r⟩:=h₁
 exact ⟨b,J',g,e,hg,(k.mono fun a h=>nomatch h),L,⟨v,rfl,r⟩,(st.keep hg k L).fr⟩
theorem zQE {e:Expr} {c:CE} {pos:Pos} (h:EOk S F q d Γ sc e c) (hs:∀ env n t,swapsWith e t n env=pure false):TKOk S F q d Γ sc [.Expr e pos] .exp c:=fun env H f X J s A st fw hne=>by
 refine wpAny_execs_cons (wpAny_Expr_any (wpAny_mono (h env H f X J s A st hne) (fun v s₁ h₁=>?_) fun _ _ x=>x) (by simp [interactive,st.fr.kind]) (hs _ _ _))
 obtain ⟨b,J',g,e,hg,k,L,r⟩:=h₁
 exact wpAny_execs_nil ⟨b,J',g,e,hg,(k.mono fun a h=>nomatch h),L,⟨rfl,(st.keep hg k L).fr⟩,(st.keep hg k L).fr⟩
theorem zQD {x:Str} {px pos:Pos} {e:Expr} {c:CE} (hx:yN Γ sc x=some i) (h:EOk S F q d Γ sc e c) (hs:∀ env n t,swapsWith e t n env=pure false):TKOk S F q d Γ sc [.Assign [.Name x px] e pos] (.asg i) c:=fun env H f X J s A st fw hne=>by
 refine wpAny_execs_cons (wpAny_Assign_Name (wpAny_mono (h env H f X J s A st hne) (fun v s₁ h₁=>?_) fun _ _ x=>x) (hs _ _ _))
 obtain ⟨b,J',g,e,hg,k,L,r⟩:=h₁
 refine xF (st.keep hg k L).fr fw hx r fun b' s' hY hX m fr=>wpAny_execs_nil ?_
 have ky:Kp f (ya env) s s₁:=k.mono fun a h=>nomatch h
 exact ⟨b,J',g,e,hg,ky.trans hg (m.kp hY),m.lk hX L,⟨rfl,fr⟩,fr⟩
end
end Mine
end

section
namespace Mine
open PySem PyProof.Rows
section
variable {S:zQ} {C:Ctx} {T:Nat->Option Fn} {F Fq:Calls} {q:Bool} {d:Nat} {Γ:List Str} {sc:Scope}
variable {X X' Y Z:List Addr} {f g:List Loc} {J:Sto} {s s' s0:Shared} {A:Around} {E:Value->Shared->Prop} {I a ea:Addr} {its:Items} {i:Nat} {env:Env} {H:List V}
theorem zLZ {M:Model} {h:Heap} {g:Array GenState} {d:Drawn} {t:Nat} {os:OsState} {oe:Obj} {Q:Bool->Shared->Prop}
  {nm q nm' q':Str} {Ca N Cd N':Addr} {bs bm bs' bm':List Value} {hdct hdct':Bool} {sn sn':List Str} {sub sub':List Value} {ab ab':Bool} {col col':Option Bool} {dd dd':Option Addr} {k0 k1 k2 k3 k5 k0' k1' k2' k3' k5':Option Value} {newId newId':String}
  (hC:h.get? Ca=some (excClassObj nm q Ca N bs bm hdct sn sub ab col dd k0 k1 k2 k3 k5 newId)) (hD:h.get? Cd=some (excClassObj nm' q' Cd N' bs' bm' hdct' sn' sub' ab' col' dd' k0' k1' k2' k3' k5' newId'))
  (he:h.get? ea=some oe) (hcls:oe.cls=.ref Ca) (hbase:bm'.contains (.type "BaseException")=true)
  {b:Bool} (hb:(Value.ref Ca :: bm).contains (.ref Cd)=b) (hq:Q b ⟨h,g,d,t,os⟩):wpAny M A (excMatches (.ref ea) (.ref Cd)) Q E ⟨h,g,d,t,os⟩:=by
 have hcB:(Value.ref Cd :: bm').contains (.type "BaseException")=true:=by rw [List.contains_cons,hbase,Bool.or_true]
 have f:=tc_notTuple
 unfold excMatches
 cases b <;>
 ((repeat (first | (with_reducible refine wpAny_loadPart_at he ?_; rw [hcls]) | with_reducible refine wpAny_loadPart_at hD ?_ | (with_reducible refine wpAny_isSubtype_exc hD ?_; rw [hcB]) | (with_reducible refine wpAny_isSubtype_exc hC ?_; rw [hb]) | wp_step)); exact hq)
theorem zFF {c k:Cls} {oe:Obj} {Q:Bool->Shared->Prop} (L:Lk S X f J s.heap) (xc:zBm S c) (xk:zBm S k) (hk:k ∈ S.kn) (he:s.heap.get? ea=some oe) (hcls:oe.cls=S.cl c) (h:Q (c.sub k) s) :
  wpAny (model S.prog S.w) A (excMatches (.ref ea) (S.cl k)) Q E s:=by
 obtain ⟨Ca,bm,N,nm,qn,bs,hdct,sn,sub,ab,col,dd,k0,k1,k2,k3,k5,mN,hcl,hC,hN,hni,OT,hm⟩:=xc
 obtain ⟨Cd,bm',N',nm',qn',bs',hdct',sn',sub',ab',col',dd',k0',k1',k2',k3',k5',mN',hcl',hC',hN',hni',OT',hm'⟩:=xk
 have:=hm k hk
 rw [hcl'] at this ⊢
 rw [hcl] at hcls
 obtain ⟨hp,g,d,tk,os⟩:=s
 exact zLZ (L.base _ _ hC) (L.base _ _ hC') he hcls (OT'.hasType rfl) this h
theorem Cx.mark {fr:Option Addr} {h:Heap} {v:Value} (c:Cx S A q d f h fr):Cx S (A.mark (some v)) true d f h fr:=
 ⟨c.depth,c.units,fun h=>(nomatch h),c.frs⟩
noncomputable def zRq (Γ:List Str) (sc:Scope) (n:Option Str) (as:Option Nat):Prop:=(n=none /\ as=none) \/ False
structure zOn (S:zQ) (C:Ctx) (Fq:Calls) (d:Nat) (Γ:List Str) (sc:Scope) (h:ExceptHandler) (c:Hd):Prop where
 ex:∃ x np n b₀ body pos,h=.ExceptHandler (some (.Name x np)) n (b₀ :: body) pos /\ zBG C sc x=some c.cls /\ zRq Γ sc n c.as /\ TKOk S Fq true d Γ sc (b₀ :: body) c.tk c.e
inductive zOt (S:zQ) (A:Around) (X:List Addr) (env:Env) (Γ:List Str) (sc:Scope) (f:List Loc) (s:Shared) (H:List V) (ss:List Stmt) (k:TK) (r:R V):Prop
 | mk (v:V) (J':Sto) (e:r=.ok v J') (w:∀ E,wpAny (model S.prog S.w) A (execs ss env) (QT S X env Γ sc f s H k (.ok v J')) E s)
theorem TKOk.calm {ss:List Stmt} {k:TK} {c:CE} {γ:Type} {rk:V->Sto->R γ} (h:TKOk S F q d Γ sc ss k c) (st:St S q d Γ sc env H f X J s A) (fw:FW env X) (hne:(evE F q c H J).calm.bind rk ≠ .stuck) :
  zOt S A X env Γ sc f s H ss k (evE F q c H J):=by
 have hs:=h env H f X J s A st fw
 cases hr:evE F q c H J with
 | ok v J' =>
  rw [hr] at hs
  refine ⟨v,J',rfl,fun E=>wpAny_mono (hs (by simp)) (fun _ _ x=>x) fun e s' q=>?_⟩
  obtain ⟨_,_,_,_,_,e,_⟩:=q; cases e
 | exc _ _=>rw [hr] at hne; exact absurd rfl hne
 | stuck=>rw [hr] at hne; exact absurd rfl hne
structure Met (S:zQ) (q:Bool) (d:Nat) (Γ:List Str) (sc:Scope) (env:Env) (H:List V) (f g:List Loc) (X:List Addr) (J0 J:Sto) (s0 s:Shared) (A:Around) (ea:Addr) (k:Cls):Prop where
 st:St S q d Γ sc env H f X J0 s0 A
 fw:FW env X
 fresh:Fresh g s0
 kp:Kp f [] s0 s
 lk:Lk S X (f++g) J s.heap
 exc:ExcR S X (f++g) J s.heap s0.heap ea k
theorem Met.alive {J0:Sto} {k:Cls} (m:Met S q d Γ sc env H f g X J0 J s0 s A ea k):∀ a ∈ X,∃ o,s0.heap.get? a=some o:=fun a ha=>(m.st.lk.hid a ha).2.2
theorem zIY (fs:zb S C T) {J0:Sto} {k:Cls} (m:Met S q d Γ sc env H f g X J0 J s0 s A ea k):∀ {hs:List ExceptHandler} {cs:List Hd},All2 (zOn S C Fq d Γ sc) hs cs->exH Fq cs H k J ≠ .stuck ->
  wpAny (model S.prog S.w) A (handleBy (.ref ea) env hs) (QF S X env Γ sc f s0 (exH Fq cs H k J)) E s:=by
 intro hs cs h
 induction h with
 | nil=>intro hne; exact absurd rfl hne
 | @cons h c hs cs hh hr ih =>
  intro hne
  obtain ⟨x,np,n,b₀,body,pos,rfl,hx,has,htk⟩:=hh.ex
  have st:=m.st.keep m.fresh m.kp m.lk
  have e0:exH Fq (c :: cs) H k J=if k.sub c.cls=true then ((evE Fq true c.e (zE2 c.as k H) J).calm.bind fun v J=>.ok (zLO c.as (zFe c.tk v (zE2 c.as k H))) J) else exH Fq cs H k J:=rfl
  rw [e0] at hne ⊢
  obtain ⟨e1,ec,hs',oe,vs,Lh,e4,e5,e6,e8⟩:=id m.exc
  refine wpAny_handleBy_cons (codeAny_handlers_test (zEt fs st.fr m.lk hx fun hc hv=>?_)) (by intro q; cases q)
  refine zFF m.lk ec ((fs.exc x c.cls hc).2 hv) (fs.exc x c.cls hc).1 e4 e5 ?_
  by_cases hsub:k.sub c.cls=true
  ·rw [if_pos hsub] at hne
   rw [hsub]
   simp only [if_true]
   rcases has with ⟨rfl,ha⟩ | has
   ·rw [ha] at hne ⊢
    refine codeAny_handlers_suite (xu m.exc m.alive fun h' hs'' hf N L' x'=>?_)
    have kp':=N.kp m.kp hf
    have st':St S true d Γ sc env H (f++g) X J { s with heap:=h' } (A.mark (some (.ref ea))):=by
     have:=m.st.keep m.fresh kp' L'
     exact ⟨this.cx.mark,this.fr,this.lk⟩
    obtain ⟨v,J',ev,w⟩:=htk.calm st' m.fw hne
    refine wpAny_mono (w _) (fun fl s₁ q=>?_) fun _ _ x=>x
    obtain ⟨v',σ2,g2,ez,hg2,k2,L2,p2,-⟩:=q
    cases ez
    rw [show zE2 none k H=H from rfl,ev]
    have kp1:Kp f (ya env) s0 { s with heap:=h' }:=kp'.mono fun a h=>nomatch h
    rw [List.append_assoc] at L2 p2
    exact ⟨_,J',g++g2,rfl,m.fresh.trans kp1.live hg2,kp1.trans m.fresh k2,L2,p2⟩
   ·exact has.elim
  ·rw [if_neg hsub] at hne ⊢
   have:k.sub c.cls=false:=by simpa using hsub
   rw [this]
   exact ih hne
theorem zPy (fs:zb S C T) {b₀:Stmt} {body:List Stmt} {h₀:ExceptHandler} {hs:List ExceptHandler} {k:TK} {c:CE} {cs:List Hd} {pos:Pos} (hb:TKOk S F q d Γ sc (b₀ :: body) k c) (hh:All2 (zOn S C Fq d Γ sc) (h₀ :: hs) cs) :
  SOk S F Fq q d Γ sc (.Try (b₀ :: body) (h₀ :: hs) [] [] pos) (.try k c cs):=fun env H f X J s A st fw hne=>by
 have e0:exS F Fq q (.try k c cs) H J=if q=true then .stuck else (evE F q c H J).orElse (fun v J=>.ok (zFe k v H) J) (exH Fq cs H):=rfl
 rw [e0] at hne ⊢
 by_cases hq:q=true
 ·rw [if_pos hq] at hne; exact absurd rfl hne
 rw [if_neg hq] at hne ⊢
 have hr:evE F q c H J ≠ .stuck:=fun e=>hne (by rw [e]; rfl)
 refine wpAny_Try_except (wpAny_mono (hb env H f X J s A st fw hr) (fun fl s₁ h₁=>?_) fun e s₁ h₁=>?_)
 ·obtain ⟨v,J',g,e,hg,kk,L,p,-⟩:=h₁
  rw [e]
  have:QF S X env Γ sc f s ((R.ok v J').orElse (fun v J=>.ok (zFe k v H) J) (exH Fq cs H)) fl s₁:=⟨_,J',g,rfl,hg,kk,L,p⟩
  cases fl with
  | next=>exact wpAny_execs_nil this
  | _=>exact this
 ·obtain ⟨c',J',g,ea,rfl,e2,hg,kk,L,x⟩:=h₁
  rw [e2] at hne ⊢
  replace hne:exH Fq cs H c' J' ≠ .stuck:=hne
  obtain ⟨en,l,h1,h2,h3⟩:=(st.cx.keep kk hg).frs
  have hX:∀ a ∈ X,∃ o,s.heap.get? a=some o:=fun a ha=>(st.lk.hid a ha).2.2
  obtain ⟨h0,L1,o,es,n,h4,-⟩:=h3 en List.mem_cons_self
  rw [xy (env':=en) h2]
  refine zCE h1 h3 h4 x hX kk fun h' kk' L' x'=>?_
  have m:Met S q d Γ sc env H f g X J J' s { s₁ with heap:=h' } A ea c':=⟨st,fw,hg,kk',L',x'⟩
  exact zIY fs m hh hne
end
end Mine
end

section
namespace Mine
open PySem PyProof.Rows
section
variable {S:zQ} {C:Ctx} {T:Nat->Option Fn} {F Fq:Calls} {q:Bool} {d:Nat} {Γ:List Str} {sc:Scope}
variable {X X' Y Z:List Addr} {f g:List Loc} {J:Sto} {s s':Shared} {A:Around} {E:Value->Shared->Prop} {env:Env} {H:List V}
theorem zM7 {es:List Expr} {pos:Pos} (hs:es.any isStar=false) (hl:es.length <= 20):((backTo pos (starEach es env)).all (fun x=>!x.1)&&(backToKw pos (keywordEach [] env)).all (fun x=>x.1.isSome)
  &&decide (es.length+([]:List Keyword).length+(if ([]:List Keyword).isEmpty then 0 else 1) < 30))=true:=by
 have h1:(backTo pos (starEach es env)).all (fun x=>!x.1)=true:=by
  have:=zq (env:=env) (pos:=pos) es hs
  rw [List.any_eq_false] at this
  rw [List.all_eq_true]
  intro x hx
  simpa using this x hx
 rw [h1]
 exact decide_eq_true (show es.length+0+0 < 30 from Nat.lt_of_le_of_lt hl (by decide))
theorem zIm {o:Expr} {name:Str} {apos pos:Pos} {args:List Expr} {Q:Value->Shared->Prop} (hbase:attributeBase o name env (eval o env)=eval o env)
  (hfew:((backTo pos (starEach args env)).all (fun x=>!x.1)&&(backToKw pos (keywordEach [] env)).all (fun x=>x.1.isSome)
  &&decide (args.length+([]:List Keyword).length+(if ([]:List Keyword).isEmpty then 0 else 1) < 30))=true) (hline:(apos.endLine==pos.line)=true)
  (h:wpAny (model S.prog S.w) A (eval o env) (fun ov s₁=>∀ pl,wpAny (model S.prog S.w) A (getMethod ov name pl) (fun fx s₂=>wpAny (model S.prog S.w) A (callWith pos fx.1 fx.2 (backTo pos (starEach args env)) []) Q E s₂) E s₁) E s) :
  wpAny (model S.prog S.w) A (eval (.Call (.Attribute o name apos) args [] pos) env) Q E s:=by
 rw [arm_eval_Call,hbase]
 refine wpAny_bind (wpAny_mono h (fun ov s₁ h₁=>?_) fun _ _ e=>e)
 refine wpAny_bind (wpAny_standAt ?_)
 have hform:methodCallForm (args.length+([]:List Keyword).length) (backTo pos (starEach args env)) (backToKw pos (keywordEach [] env))=true:=hfew
 have hpos:methodCallPos true o env apos pos=pure pos:=by unfold methodCallPos; simp [hline]
 unfold methodCall
 rw [hform]
 refine wpAny_bind (wpAny_holding (wpAny_mono (h₁ _) (fun fx s₂ h₂=>?_) fun _ _ x=>x))
 obtain ⟨fv,first⟩:=fx
 exact wpAny_bind (wpAny_of_eq hpos h₂)
inductive zOo (S:zQ) (X:List Addr) (f:List Loc) (s:Shared) (as:List (Nat × V)) (n:Nat) (v:Value):Prop
 | mk (ax dx:Addr) (ob:Obj) (mA:Str->Option Value) (e:v=.ref ax) (hf:f[n]?=some (ax,some dx)) (h1:s.heap.get? ax=some ob) (h2:ob.cls=.ref S.book /\ ob.dict=some dx /\ (∀ c,ob.data ≠ .cls c) /\ dx ≠ ax) (h3:s.heap.Ns1 dx mA)
   (h4:∀ k x,as.lookup k=some x->∃ w,mA (zM k)=some w /\ VR S X f s.heap x w) (h5:∀ x v,mA x=some v->x=zM 0 \/ x=zM 1) (h6:∀ k,k ∈ as.map (·.1)->k < 2) (h7:s.heap.Inst ax S.book mA)
theorem zD1 {n:Nat} {v:Value} {as:List (Nat × V)} (L:Lk S X f J s.heap) (r:VR S X f s.heap (.ref n) v) (ho:J[n]?=some (.inst as)) :
  zOo S X f s as n v:=by
 obtain ⟨⟨ax,dd⟩,hl,rfl⟩:=r
 have:=L.obj n _ _ hl ho
 cases dd with
 | none=>exact this.elim
 | some dx =>
  obtain ⟨ob,mA,e1,e2,e3,e4,e5,e6⟩:=this
  exact ⟨ax,dx,ob,mA,rfl,hl,e1,e2,e3,e4,e5,e6,ob,e1,e2.1,e2.2.2.1,.inr ⟨dx,e2.2.1,e2.2.2.2,e3⟩⟩
theorem zPa (fs:zb S C T) {x:V} {w:Value} (r:VR S X f s.heap x w):handedOut w=pure w:=by
 cases x with
 | undef=>exact False.elim r
 | none=>subst r; rfl
 | bool b=>subst r; rfl
 | int i=>obtain ⟨t,rfl⟩:=r; rfl
 | str y=>obtain ⟨⟨t,rfl⟩,_⟩:=r; rfl
 | tup xs=>obtain ⟨a,_,_,rfl,_⟩:=r; rfl
 | lst xs=>obtain ⟨a,_,_,rfl,_⟩:=r; rfl
 | ref n=>obtain ⟨l,_,rfl⟩:=r; rfl
 | exc c=>obtain ⟨a,_,rfl,_⟩:=r; rfl
 | parts=>obtain ⟨hp,rfl⟩:=r; obtain ⟨dA,_,e,_⟩:=fs.parts hp; rw [e]; rfl
theorem zDU:typeLookup (.type "object") (zM 0)=pure none:=by rw [typeLookup_type,builtinLookup_eq_fast]; kernel_rfl
theorem zDV:typeLookup (.type "object") (zM 1)=pure none:=by rw [typeLookup_type,builtinLookup_eq_fast]; kernel_rfl
theorem zBq {m:Str} {k:Nat} (h:attrNames.lookup m=some k):k < 2 /\ m=zM k:=by
 have:=zU h
 simp only [attrNames,List.mem_cons,Prod.mk.injEq,List.not_mem_nil,or_false] at this
 rcases this with ⟨rfl,rfl⟩ | ⟨rfl,rfl⟩
 ·exact ⟨by decide,rfl⟩
 ·exact ⟨by decide,rfl⟩
theorem zNY (fs:zb S C T) {o:Expr} {a:CE} {m:Str} {k:Nat} {pos:Pos} (hm:C.attrs.lookup m=some k) (hb:noSuper o=true) (ho:EOk S F q d Γ sc o a):EOk S F q d Γ sc (.Attribute o m pos) (.attr a k):=fun env H f X J s A st hne=>by
 rw [zMX] at hne ⊢
 rcases fs.book with ⟨_,_,h0⟩ | ⟨hat,B⟩
 ·rw [h0] at hm; first | exact zB hm | exact zF hm | cases hm
 rw [hat] at hm
 obtain ⟨hk,rfl⟩:=zBq hm
 obtain ⟨N,mN,nm,qn,bs,sn,sub,col,dd,k0,k1,k2,k3,k5,hC,hN,hq,_⟩:=B
 rw [arm_eval_Attribute,wx hb]
 refine wpAny_bind (Sim.goQ (P':=PV S X) (ho env H f X J s A st) hne (fun _ _ x=>x) (fun _ _ x=>x) fun va a' J1 g₁ s₁ hne hg kk L ra hQ hE=>wpAny_bind (wpAny_standAt (wpAny_bind (wpAny_holding ?_))))
 obtain ⟨x,hx⟩:=yq hne
 rw [hx] at hQ
 obtain ⟨n,as,rfl,hJ,hx⟩:=zKY hx
 obtain ⟨ax,dx,ob,mA,rfl,hf,e1,e2,e3,e4,e5,e6,I⟩:=zD1 L ra hJ
 obtain ⟨w,hw,rw'⟩:=e4 k x hx
 have hna:mN (zM k)=none:=by2 (P:=fun k=>mN (zM k)=none) hq.2.2.2.1 hq.2.2.2.2 hk
 have hB:typeLookup (.type "object") (zM k)=pure none:=by2 (P:=fun k=>typeLookup (.type "object") (zM k)=pure none) zDU zDV hk
 refine load_attr (L.base _ _ hC) (L.ns hN) hq.1 hna hB I hw (zPa fs rw') (wpAny_bind (wpAny_letTemporaryGo (wpAny_pure ?_)))
 have ex:Ext s₁ { s₁ with toks:=s₁.toks+1 }:=⟨rfl,fun _ _ e=>e⟩
 exact hQ _ _ ⟨x,J1,[],rfl,.nil _,ex.kp _ _,by rw [List.append_nil]; exact L,by rw [List.append_nil]; exact rw'⟩
theorem zLs (fs:zb S C T) (FSs:FS S F q d) {o:Expr} {a:CE} {m:Str} {n:Nat} {apos pos:Pos} {es:List Expr} {cs:List CE} (hm:C.meths.lookup m=some n) (hb:noSuper o=true) (hp:(apos.endLine==pos.line)=true) (hlen:es.length <= 20)
  (ho:EOk S F q d Γ sc o a) (h:All2 (GOk S F q d Γ sc) es cs):EOk S F q d Γ sc (.Call (.Attribute o m apos) es [] pos) (.callm n a cs):=fun env H f X J s A st hne=>by
 rw [zEL] at hne ⊢
 rcases fs.book with ⟨_,h0,_⟩ | ⟨hat,B⟩
 ·rw [h0] at hm; first | exact zB hm | exact zF hm | cases hm
 obtain ⟨N,mN,nm,qn,bs,sn,sub,col,dd,k0,k1,k2,k3,k5,hC,hN,hqt,_,_,hms⟩:=B
 obtain ⟨hmf,of,hof,hoc⟩:=hms m n hm
 have hl:=LOk.of h
 refine zIm (wx hb) (zM7 hl.1 hlen) hp ?_
 refine Sim.goQ (P':=PV S X) (ho env H f X J s A st) hne (fun _ _ x=>x) (fun _ _ x=>x) fun va a' J1 g₁ s₁ hne hg kk L ra hQ hE pl=>?_
 by_cases hi:isInst J1 a'=true
 case neg=>rw [if_neg hi] at hne; exact absurd rfl hne
 rw [if_pos hi] at hne hQ hE
 obtain ⟨k,as,rfl,hJ⟩:=zLP hi
 obtain ⟨ax,dx,ob,mA,rfl,hf,e1,e2,e3,e4,e5,e6,I⟩:=zD1 L ra hJ
 have hsh:mA m=none:=by
  cases e:mA m with
  | none=>rfl
  | some v =>
   rcases e5 m v e with z | z
   ·rw [z,hqt.2.2.2.1] at hmf; first | exact zB hmf | exact zF hmf | cases hmf
   ·rw [z,hqt.2.2.2.2] at hmf; first | exact zB hmf | exact zF hmf | cases hmf
 refine method_of (L.base _ _ hC) (L.ns hN) hqt.1 hqt.2.1 hmf (L.base _ _ hof) hoc (typeLookup_type _ _) I hsh ?_
 refine ye (zq _ hl.1) ?_
 refine Sim.goQ (P':=PV S X) (hl.2 env pos H _ X J1 _ A (st.keep hg kk L)) hne hQ hE fun vs xs J2 g₂ s₂ hne hg₂ k₂ L₂ rs hQ hE=>?_
 have ra2:=VR.keepK k₂ hg₂ (fun _ h=>nomatch h) ra
 obtain ⟨⟨o,fd,h1,h2⟩,h3⟩:=FSs n (.ref k :: xs) J2 _ X A s₂ (.ref ax :: vs) ((st.keep hg kk L).keep hg₂ k₂ L₂).cx.call L₂ (⟨ra2,rs⟩) hne
 refine ⟨.inr ⟨_,o,fd,rfl,L₂.base _ _ h1,h2⟩,wpAny_call ?_⟩
 refine codeAny_mono h3 fun r s' hq=>?_
 match r,hq with
 | .ok (.ret v),hq=>exact hQ v s' hq
 | .error e,hq=>exact hE e s' hq
theorem zKu {pos:Pos} {Cb N:Addr} {nm qn:Str} {bs bm:List Value} {hdct:Bool} {sn:List Str} {sub:List Value} {ab:Bool} {col:Option Bool} {dd:Option Addr} {k0 k1 k2 k3 k5:Option Value} {newId:String} {Q:Value->Shared->Prop}
  (hC:s.heap.get? Cb=some (excClassObj nm qn Cb N bs bm hdct sn sub ab col dd k0 k1 k2 k3 k5 newId)) (h:wpAny (model S.prog S.w) A (call (.ref Cb) []) Q E s):wpAny (model S.prog S.w) A (callWith pos (.ref Cb) [] (backTo pos (starEach [] env)) []) Q E s:=by
 show wpAny (model S.prog S.w) A (callWith pos (.ref Cb) [] [] []) Q E s
 unfold callWith
 refine wpAny_bind (wpAny_holding (evalArgs_empty ?_))
 refine wpAny_bind (wpAny_standAt ?_)
 obtain ⟨hh,gg,dr,tk,os⟩:=s
 refine wpAny_bind (wpAny_keeperOf_exc hC ?_)
 exact wpAny_bind (wpAny_mono h (fun r s' q=>wpAny_bind (wpAny_holding (wpAny_point (wpAny_pure q)))) fun _ _ q=>q)
theorem zPu (fs:zb S C T) (FSs:FS S F q d) {p pos:Pos} (hbk:C.book=true) (hg:isGlob sc "Book"=true):EOk S F q d Γ sc (.Call (.Name "Book" p) [] [] pos) .new:=fun env H f X J s A st hne=>by
 have e0:evE F q .new H J=(F 0 [.ref J.length] (J++[.inst []])).bind (zCD J.length):=rfl
 rw [e0] at hne ⊢
 rcases fs.book with ⟨h0,_⟩ | ⟨hat,B⟩
 ·rw [h0] at hbk; first | exact zB hbk | exact zF hbk | cases hbk
 obtain ⟨N,mN,nm,qn,bs,sn,sub,col,dd,k0,k1,k2,k3,k5,hC,hN,hqt,hini,⟨of,hof,hoc⟩,_⟩:=B
 obtain ⟨mg,mb,g1,g2,g3,g4,g5,g6,_⟩:=fs.g
 refine wpAny_Call_NameR (wpAny_Name (wS st.fr.kind (st.fr.isGlob hg) (by rw [st.fr.glob]; exact st.lk.ns g1) (g6 hbk) ?_) (by decide))
 refine zKu (st.lk.base _ _ hC) ?_
 have L:=st.lk
 have cx:=st.cx
 have key:∀ h' x dx,Heap.MadeObj s.heap h' x dx S.book->wpAny (model S.prog S.w) (A.under (.builtin "type.__call__" ⟨[Value.ref S.book],[]⟩)) (call (Value.ref (S.fn 0)) [Value.ref x])
   (fun r s'=>r=.none /\ QS S X [] f (PV S X) s ((F 0 [.ref J.length] (J++[.inst []])).bind (zCD J.length)) (.ref x) s')
   (ES S X [] f false s ((F 0 [.ref J.length] (J++[.inst []])).bind (zCD J.length))) { s with heap:=h' }:=fun h' x dx Mk=>by
  have ex:Ext s { s with heap:=h' }:=⟨rfl,Mk.keeps⟩
  obtain ⟨ob,hx,hcx,hncx,hdx⟩:=Mk.inst
  have hdd:=Mk.dict ob hx
  obtain ⟨hne',hns⟩:dx ≠ x /\ h'.Ns1 dx fun _=>none:=by
   rcases hdx with ⟨hn0,_⟩ | ⟨d',hd',hne',hns'⟩
   ·rw [hn0] at hdd; first | exact zB hdd | exact zF hdd | cases hdd
   ·obtain rfl:=Option.some.inj (hd'.symm.trans hdd); exact ⟨hne',hns'⟩
  have hfr:Fresh [(x,some dx)] s:=fun a ha=>by
   rcases List.mem_cons.mp ha with rfl | ha
   ·exact Mk.newX
   ·obtain rfl:=List.mem_singleton.mp ha; exact Mk.newD
  have L1:Lk S ([x,dx]++X) f J h':=L.enter (s₁:={ s with heap:=h' }) Mk.keeps fun a ha=>by
   rcases List.mem_cons.mp ha with rfl | ha
   ·exact ⟨Mk.newX,ob,hx⟩
   ·obtain rfl:=List.mem_singleton.mp ha
    exact ⟨Mk.newD,let ⟨o,_,_,e,_⟩:=hns; ⟨o,e⟩⟩
  have hnX:∀ a ∈ [x,dx],a ∉ X:=fun a ha hX=>by
   obtain ⟨o,e⟩:=(L.hid a hX).2.2
   rcases List.mem_cons.mp ha with rfl | ha
   ·rw [Mk.newX] at e; first | exact zB e | exact zF e | cases e
   ·obtain rfl:=List.mem_singleton.mp ha; rw [Mk.newD] at e; cases e
  have L2:Lk S X (f++[(x,some dx)]) (J++[.inst []]) h':=Lk.track (l:=(x,some dx)) L1 (List.nodup_cons.mpr ⟨fun h=>hne' (List.mem_singleton.mp h).symm,List.nodup_cons.mpr ⟨fun h=>(nomatch h),.nil⟩⟩) hnX
   ⟨ob,fun _=>none,hx,⟨hcx,hdd,hncx,hne'⟩,hns,fun k x e=>by simp at e,fun x v e=>by simp at e,fun k e=>by simp at e⟩
  have hlen:(f++[(x,some dx)])[J.length]?=some (x,some dx):=by rw [<- L.len]; simp
  have rx:VRs S X (f++[(x,some dx)]) h' [.ref J.length] [.ref x]:=⟨⟨_,hlen,rfl⟩,trivial⟩
  have kp0:Kp f [] s { s with heap:=h' }:=ex.kp _ _
  have cxc:CxC S (A.under (.builtin "type.__call__" ⟨[Value.ref S.book],[]⟩)) q d (f++[(x,some dx)]) h':=by
   obtain ⟨e1,l,h1,_,h3⟩:=cx.frs
   refine ⟨?_,?_,cx.hand,e1 :: l,?_,h3.keep kp0 hfr⟩
   ·have:=cx.depth; show A.depth+1+2 * d+2 <= 900; rw [Nat.add_right_comm A.depth 1 (2 * d)]; exact this
   ·have:=cx.units; show A.units+1+5 * d+200 <= 9900; rw [Nat.add_right_comm A.units 1 (5 * d)]; exact Nat.le_trans (Nat.le_of_eq (Nat.add_assoc (A.units+5 * d) 1 200)) (Nat.le_trans (Nat.add_le_add_left (show 1+200 <= 202 by decide) (A.units+5 * d)) this)
   ·exact h1
  have hr:F 0 [.ref J.length] (J++[.inst []]) ≠ .stuck:=fun e=>hne (by rw [e]; rfl)
  obtain ⟨_,h3⟩:=FSs 0 [.ref J.length] (J++[.inst []]) _ X _ { s with heap:=h' } [.ref x] cxc L2 rx hr
  refine wpAny_call (codeAny_mono h3 fun r s' hq=>?_)
  match r,hq with
  | .ok (.ret v),hq =>
   obtain ⟨b,J'',g',e,hg',kp',L3,rv⟩:=hq
   rw [e] at hne ⊢
   have hb:b=.none:=by cases b <;> first | rfl | exact absurd rfl hne
   subst hb
   have rv:v=.none:=by have:VR _ _ _ _ _ _:=rv; exact this
   refine ⟨rv,.ref J.length,J'',(x,some dx) :: g',rfl,?_,kp0.trans hfr kp',by rw [List.append_cons]; exact L3,?_⟩
   ·exact hfr.trans kp0.live hg'
   ·show VR _ _ _ _ _ _
    exact ⟨(x,some dx),by rw [<- L.len,List.append_cons,List.getElem?_append_left (by simp)]; simp,rfl⟩
  | .error e,hq =>
   obtain ⟨c,J',g',ea,e1,e2,hg',kp',L3,xr⟩:=hq
   rw [e2]
   refine ⟨c,J',(x,some dx) :: g',ea,e1,rfl,hfr.trans kp0.live hg',kp0.trans hfr kp',by rw [List.append_cons]; exact L3,?_⟩
   rw [List.append_cons]
   exact xr.back fun a h=>zo kp0.live h
 exact wpAny_call_obj_init PySem.F.objNew (L.base _ _ hC) (L.ns hN) hini (L.base _ _ hof) hoc key
theorem jh {β:Type} {k:Nat} {y:β}:∀ {l:List (Nat × β)},l.lookup k=some y->(k,y) ∈ l
 | (k',y') :: l,h=>by
  rw [List.lookup_cons] at h
  split at h
  ·rename_i e; cases h; rw [eq_of_beq e]; exact List.mem_cons_self
  ·exact List.mem_cons_of_mem _ (jh h)
theorem zMj {n k:Nat} {ax dx:Addr} {ob o₁:Obj} {mA:Str->Option Value} {as:List (Nat × V)} {v':V} {vv:Value} {h':Heap} (hk:k < 2) (hf:f[n]?=some (ax,some dx)) (e2:ob.cls=.ref S.book /\ ob.dict=some dx /\ (∀ c,ob.data ≠ .cls c) /\ dx ≠ ax)
  (e4:∀ k x,as.lookup k=some x->∃ w,mA (zM k)=some w /\ VR S X f s.heap x w) (e5:∀ x v,mA x=some v->x=zM 0 \/ x=zM 1) (e6:∀ k,k ∈ as.map (·.1)->k < 2) (rv:VR S X f s.heap v' vv)
  (hs:∀ b o,b ∉ Loc.addrs (ax,some dx)->s.heap.get? b=some o->h'.get? b=some o) (w1:h'.get? ax=some o₁) (w2:o₁.cls=ob.cls) (w3:o₁.data=ob.data) (w5:o₁.dict=some dx)
  (hns:h'.Ns1 dx (fun y=>if y=zM k then some vv else mA y)):OR S X f h' (ax,some dx) (.inst ((k,v') :: as)):=by
 have kv:∀ x v,VR S X f s.heap x v->VR S X f h' x v:=VR.keep (fun _ _ e=>e) fun a o q h1 h2=>⟨⟨h1,h2⟩,o,hs a o (fun z=>h1 (yD hf z)) q,.refl o⟩
 refine ⟨o₁,_,w1,⟨w2.trans e2.1,w5,fun c=>by rw [w3]; exact e2.2.2.1 c,e2.2.2.2⟩,hns,fun j x hj=>?_,fun y v hy=>?_,fun j hj=>?_⟩
 ·rw [List.lookup_cons] at hj
  cases hjk:(j==k) with
  | true =>
   rw [hjk] at hj
   cases hj
   obtain rfl:j=k:=eq_of_beq hjk
   exact ⟨vv,if_pos rfl,kv _ _ rv⟩
  | false =>
   rw [hjk] at hj
   obtain ⟨w,hw,hr⟩:=e4 j x hj
   refine ⟨w,?_,kv _ _ hr⟩
   have hj2:j < 2:=e6 j (List.mem_map_of_mem (f:=(·.1)) (jh hj))
   have hjn:zM j ≠ zM k:=by
    have hne:j ≠ k:=fun q=>by rw [q] at hjk; simp at hjk
    exact by2 (P:=fun j=>j ≠ k->zM j ≠ zM k) (by2 (P:=fun k=>0 ≠ k->zM 0 ≠ zM k) (fun h=>absurd rfl h) (fun _=>by decide) hk) (by2 (P:=fun k=>1 ≠ k->zM 1 ≠ zM k) (fun _=>by decide) (fun h=>absurd rfl h) hk) hj2 hne
   exact (if_neg hjn).trans hw
 ·by_cases hyk:y=zM k
  ·exact by2 (P:=fun k=>y=zM k->_) .inl .inr hk hyk
  ·exact e5 y v ((if_neg hyk).symm.trans hy)
 ·rcases List.mem_cons.mp hj with rfl | hj
  ·exact hk
  ·exact e6 j hj
theorem zGk (B:zDl S C) {n k:Nat} {vo vv:Value} {v':V} {as:List (Nat × V)} {Q:Unit->Shared->Prop} (hk:k < 2) (L:Lk S X f J s.heap) (ro:VR S X f s.heap (.ref n) vo) (hJ:J[n]?=some (.inst as)) (rv:VR S X f s.heap v' vv)
  (h:∀ h' tk,Lk S X f (J.set n (.inst ((k,v') :: as))) h'->(∀ Y,Kp f Y s { s with heap:=h',toks:=tk })->Q () { s with heap:=h',toks:=tk }):wpAny (model S.prog S.w) A (setAttr vo (zM k) vv) Q E s:=by
 obtain ⟨N,mN,nm,qn,bs,sn,sub,col,dd,k0,k1,k2,k3,k5,hC,hN,hqt,_⟩:=B
 obtain ⟨ax,dx,ob,mA,rfl,hf,e1,e2,e3,e4,e5,e6,I⟩:=zD1 L ro hJ
 have hna:mN (zM k)=none:=by2 (P:=fun k=>mN (zM k)=none) hqt.2.2.2.1 hqt.2.2.2.2 hk
 have hB:typeLookup (.type "object") (zM k)=pure none:=by2 (P:=fun k=>typeLookup (.type "object") (zM k)=pure none) zDU zDV hk
 have hxC:ax ≠ S.book:=fun z=>by
  have h1:=L.fresh ax (yD hf List.mem_cons_self)
  rw [z,hC] at h1; cases h1
 have hsz:([zM 0,zM 1]:List Str).length <= sizeLine:=by show 2 <= sizeLine; decide
 have hw:Within mA [zM 0,zM 1]:=fun y hy=>by
  obtain ⟨v,hv⟩:=Option.ne_none_iff_exists'.mp hy
  rcases e5 y v hv with rfl | rfl
  ·exact List.mem_cons_self
  ·exact List.mem_cons_of_mem _ (List.mem_singleton.mpr rfl)
 have fin:∀ h' tk',h'.Inst ax S.book (fun y=>if y=zM k then some vv else mA y) ->
   (∀ b o,b ≠ ax->(∀ o0 d',s.heap.get? ax=some o0->o0.dict=some d'->b ≠ d')->s.heap.get? b=some o->h'.get? b=some o) ->
   (∀ o0,s.heap.get? ax=some o0->∃ o₁,h'.get? ax=some o₁ /\ o₁.cls=o0.cls /\ o₁.data=o0.data /\ o₁.slots=o0.slots /\ ∀ d',o0.dict=some d'->o₁.dict=some d')->Q () { s with heap:=h',toks:=tk' }:=fun h' tk' I' hkeep hsame=>by
  have hs':∀ b o,b ∉ Loc.addrs (ax,some dx)->s.heap.get? b=some o->h'.get? b=some o:=fun b o hb e =>
   hkeep b o (fun z=>hb (by rw [z]; exact List.mem_cons_self)) (fun o0 d' q1 q2 z=>hb (by
    rw [e1] at q1; cases q1; rw [e2.2.1] at q2; cases q2
    rw [z]; exact List.mem_cons_of_mem _ (List.mem_singleton.mpr rfl))) e
  obtain ⟨o₁,w1,w2,w3,_,w5⟩:=hsame ob e1
  obtain ⟨o',q1,q2,q3,q4⟩:=I'
  rw [w1] at q1; cases q1
  have hns:h'.Ns1 dx (fun y=>if y=zM k then some vv else mA y):=by
   rcases q4 with ⟨q5,_⟩ | ⟨d',q5,_,q6⟩
   ·rw [w5 dx e2.2.1] at q5; first | exact zB q5 | exact zF q5 | cases q5
   ·rw [w5 dx e2.2.1] at q5; cases q5; exact q6
  have hlive:∀ b ∈ Loc.addrs (ax,some dx),∃ o,h'.get? b=some o:=fun b hb=>by
   rcases List.mem_cons.mp hb with rfl | hb
   ·exact ⟨_,w1⟩
   ·rw [List.mem_singleton.mp hb]; exact let ⟨o,_,_,e,_⟩:=hns; ⟨o,e⟩
  exact h h' tk' (L.upd hf hs' (zMj hk hf e2 e4 e5 e6 rv hs' w1 w2 w3 (w5 dx e2.2.1) hns)) fun Y=>Kp.upd hf hs' hlive
 have L1:=L.base _ _ hC
 have L2:=L.ns hN
 clear e4 e5 e6 e3 h ro rv L
 exact store_attr PySem.F.store_object L1 L2 hqt.2.2.1 hna hB hxC I fin hw hsz
theorem zGX (fs:zb S C T) {o e:Expr} {a c:CE} {m:Str} {k:Nat} {p' pos:Pos} (hm:C.attrs.lookup m=some k) (ho:EOk S F q d Γ sc o a) (h:EOk S F q d Γ sc e c) (hs:∀ env n t,swapsWith e t n env=pure false) :
  SOk S F Fq q d Γ sc (.Assign [.Attribute o m p'] e pos) (.setAttr a k c):=fun env H f X J s A st fw hne=>by
 rw [zDi] at hne ⊢
 rcases fs.book with ⟨_,_,h0⟩ | ⟨hat,B⟩
 ·rw [h0] at hm; first | exact zB hm | exact zF hm | cases hm
 rw [hat] at hm
 obtain ⟨hk,rfl⟩:=zBq hm
 refine plainObj_wpAny_Assign_Attribute ?_ (hs _ _ _)
 refine Sim.goS (Γ:=Γ) (sc:=sc) (h env H f X J s A st) hne (fun _ _ x=>x) (fun _ _ x=>x) fun vv v' J1 g₁ s₁ hne hg kk L rv hQ hE=>?_
 have st1:=st.keep hg kk L
 refine Sim.goS (Γ:=Γ) (sc:=sc) (ho env H _ X J1 s₁ A st1) hne hQ hE fun vo o' J2 g₂ s₂ hne hg₂ k₂ L₂ ro hQ hE=>?_
 have st₂:=st1.keep hg₂ k₂ L₂
 have rv2:=VR.keepK k₂ hg₂ (fun _ h=>nomatch h) rv
 obtain ⟨n,as,rfl,hJ⟩:=zFQ fun e=>hne (by rw [e]; rfl)
 have hd:wf J2 (.ref n) k v'=.ok () (J2.set n (.inst ((k,v') :: as))):=by
  show kQ J2 n k v' J2[n]?=_
  rw [hJ]; exact if_pos hk
 rw [hd] at hQ
 refine zGk B hk L₂ ro hJ rv2 fun h' tk L3 kp3=>hQ _ _ ⟨.next H,_,[],rfl,.nil _,kp3 _,by rw [List.append_nil]; exact L3,rfl,?_⟩
 have:=st₂.fr.keep (g:=[]) st₂.lk (kp3 []) (.nil _)
 exact this
end
end Mine
end

section
namespace Mine
open PySem PyProof.Rows
section
variable {S:zQ} {C:Ctx} {T:Nat->Option Fn} {F Fq:Calls} {q:Bool} {d:Nat} {Γ:List Str} {sc:Scope}
variable {X X' Y Z:List Addr} {f g:List Loc} {J:Sto} {s s':Shared} {A:Around} {E:Value->Shared->Prop} {env:Env} {H:List V}
theorem zFT (fs:zb S C T) (L:Lk S X f J s.heap):(s.heap.objs.size==sysModules)=false:=by
 obtain ⟨mg,mb,⟨o,es,ep,ho,_⟩,_⟩:=fs.g
 have:=Heap.lt_size (L.base _ _ ho)
 exact beq_false_of_ne fun q=>absurd (q ▸ this:mainGlobals < sysModules) (by decide)
theorem zEi (hy:(s.heap.objs.size==sysModules)=false) (L:Lk S X f J s.heap):Ext s { s with heap:=s.heap.push { cls:=.type "dict",data:=.dict #[] } } /\ Fresh [(s.heap.objs.size,none)] s /\
  Lk S X (f++[(s.heap.objs.size,none)]) (J++[.dict []]) (s.heap.push { cls:=.type "dict",data:=.dict #[] }):=by
 have hn:s.heap.get? s.heap.objs.size=none:=Heap.get?_none_of_le (Nat.le_refl _)
 have hl:(s.heap.push { cls:=.type "dict",data:=.dict #[] }).get? s.heap.objs.size=some { cls:=.type "dict",data:=.dict #[] }:=Heap.get?_push_size _ rfl
 have ex:Ext s { s with heap:=s.heap.push { cls:=.type "dict",data:=.dict #[] } }:=⟨rfl,fun b o e=>Heap.get?_push_of_some _ e⟩
 refine ⟨ex,fun a ha=>by rw [List.mem_singleton.mp ha]; exact hn,?_⟩
 have L1:Lk S (s.heap.objs.size :: X) f J (s.heap.push { cls:=.type "dict",data:=.dict #[] }):=L.hideNew ex hn hl
 exact Lk.track (l:=(s.heap.objs.size,none)) L1 (List.nodup_cons.mpr ⟨fun h=>(nomatch h),.nil⟩) (fun a ha hX=>by
  rw [List.mem_singleton.mp ha] at hX
  obtain ⟨o,e⟩:=(L.hid _ hX).2.2
  rw [hn] at e; cases e) ⟨[],Even.new,rfl,by rw [List.map_nil,List.map_nil]; exact True.intro,Nat.zero_le _,hy⟩
theorem zLu (fs:zb S C T) {pos:Pos}:EOk S F q d Γ sc (.Dict [] [] pos) .dict0:=fun env H f X J s A st hne=>by
 rw [zNw]
 obtain ⟨ex,hg,L⟩:=zEi (zFT fs st.lk) st.lk
 refine wpAny_Dict_empty ⟨.ref J.length,_,_,rfl,hg,ex.kp _ _,L,?_⟩
 show VR _ _ _ _ _ _
 exact ⟨(s.heap.objs.size,none),by rw [<- st.lk.len]; simp,rfl⟩
theorem zLv (fs:zb S C T) {k v:Expr} {a b:CE} {pos:Pos} (hk:EOk S F q d Γ sc k a) (hv:EOk S F q d Γ sc v b):EOk S F q d Γ sc (.Dict [some k] [v] pos) (.dict1 a b):=fun env H f X J s A st hne=>by
 rw [zEM] at hne ⊢
 obtain ⟨ex,hg,L⟩:=zEi (zFT fs st.lk) st.lk
 have kp0:=ex.kp f []
 have st0:=st.keep hg kp0 L
 have hlen:(f++[(s.heap.objs.size,none)])[J.length]?=some (s.heap.objs.size,none):=by rw [<- st.lk.len]; simp
 refine zKx (knd:=intKind S.prog S.w) ?_
 refine evalPairs_cons ?_
 refine Sim.goQ (P':=PV S X) (hk env H _ X _ _ A st0) hne (fun c s'' x=>QS.lifts f _ s _ _ c s'' hg kp0 x) (fun c s'' x=>ES.lifts f _ s _ _ c s'' hg kp0 x) fun vk k' J1 g₁ s₁ hne hg1 k₁ L₁ rk hQ hE=>?_
 have st1:=st0.keep hg1 k₁ L₁
 refine wpAny_bind (Sim.goQ (P':=PV S X) (hv env H _ X J1 s₁ A st1) hne hQ hE fun vv v' J2 g₂ s₂ hne hg₂ k₂ L₂ rv hQ hE=>wpAny_bind (wpAny_standAt (wpAny_pure (evalPairs_nil ?_))))
 have hf₂:(f++[(s.heap.objs.size,none)]++g₁++g₂)[J.length]?=some (s.heap.objs.size,none):=by
  have h1:J.length < (f++[(s.heap.objs.size,none)]).length:=(List.getElem?_eq_some_iff.mp hlen).1
  rw [List.append_assoc,List.getElem?_append_left h1]; exact hlen
 obtain ⟨ki,rfl,hJ⟩:=zIS hne
 have hd0:zBY J.length J2 (.int ki) v'=zBx J.length J2 ki v' J2[J.length]?:=rfl
 rw [hd0,hJ] at hQ
 obtain ⟨kvs,hd,e1,_,_,hy⟩:=zM2 L₂ hf₂ hJ
 obtain rfl:kvs=[]:=List.map_eq_nil_iff.mp e1
 obtain ⟨t,rfl⟩:=zr rk
 refine ⟨_,vv,ki,rfl,by show Value.isInt ki (.int ki t)=true; simp [Value.isInt],hd,fun h' hd' hs=>?_⟩
 obtain ⟨L3,k3⟩:=zFj (es':=[(ki,v')]) (t:=s₂.toks+1) L₂ hf₂ hs hd' rfl ⟨rv,trivial⟩ (by show 1 <= 1048576; decide) hy
 refine hQ _ _ ⟨.ref J.length,_,[],rfl,.nil _,k3 [],by rw [List.append_nil]; exact L3,?_⟩
 show VR _ _ _ _ _ _
 rw [List.append_nil]
 exact ⟨_,hf₂,rfl⟩
end
end Mine
end

section
namespace Mine
open PySem PyProof.Rows
section
variable {S:zQ} {C:Ctx} {T:Nat->Option Fn} {F Fq:Calls} {q:Bool} {d:Nat}
theorem GOk.of {Γ:List Str} {sc:Scope} {e:Expr} {c:CE} (h:EOk S F q d Γ sc e c) (he:∀ env whole,isTrue e env whole=(do let v <- whole; standAt e.pos; holding [v] (PySem.truthy v))) (hs:isStar e=false) (hm:∀ op,behindInMarks op e=false) (hf:∀ env x,foldedSetIterable e env x=pure x):GOk S F q d Γ sc e c:=
 ⟨h,.plain h he,hs,hm,hf⟩
theorem zIi {ops:List CmpOp} {os:List P2} (h:ops.mapM xj=some os):All2 (fun op o=>xj op=some o) ops os:=by
 induction ops generalizing os with
 | nil=>simp at h; subst h; exact .nil
 | cons op ops ih =>
  simp only [List.mapM_cons] at h
  cases h1:xj op with
  | none=>first | (rw [h1] at h; exact zB h) | simp [h1] at h
  | some o =>
   cases h2:ops.mapM xj with
   | none=>first | (rw [h1,h2] at h; exact zB h) | (rw [h1,Option.bind_some,h2] at h; exact zB h) | simp [h1,h2] at h
   | some os' =>
    simp [h1,h2] at h
    subst h
    exact .cons h1 (ih h2)
structure Clean (C:Ctx):Prop where
 dbg:C.fns.lookup ("__debug__" : Str)=none
 isin:C.fns.lookup ("isinstance" : Str)=none
 rng:C.fns.lookup ("range" : Str)=none
theorem Clean.nd (cl:Clean C) {x:Str} {n:Nat} (h:C.fns.lookup x=some n):(x==("__debug__" : Str))=false:=by
 cases e:(x==("__debug__" : Str)) with
 | false=>rfl
 | true=>rw [eq_of_beq e,cl.dbg] at h; first | exact zB h | exact zF h | cases h
theorem zPY (fs:zb S C T) {Γ:List Str} {sc:Scope} {x:Str} {pos:Pos} {c:CE} (h:zHC C Γ sc x=some c):GOk S F q d Γ sc (.Name x pos) c:=
 .of (zNd fs h) (fun _ _=>rfl) rfl (fun _=>rfl) fun _ _=>rfl
theorem vC {Γ:List Str} {sc:Scope} {f:Expr} {es:List Expr} {pos:Pos} {c:CE} (h:EOk S F q d Γ sc (.Call f es [] pos) c):GOk S F q d Γ sc (.Call f es [] pos) c:=
 .of h (fun _ _=>rfl) rfl (fun _=>rfl) fun _ _=>rfl
theorem zOM {Γ:List Str} {sc:Scope} {o i:Expr} {pos:Pos} {c:CE} (h:EOk S F q d Γ sc (.Subscript o i pos) c):GOk S F q d Γ sc (.Subscript o i pos) c:=
 .of h (fun _ _=>rfl) rfl (fun _=>rfl) fun _ _=>rfl
noncomputable def zQX (S:zQ) (F:Calls) (q:Bool) (d:Nat) (Γ:List Str) (sc:Scope) (ifs:List Expr) (cond:Option CE):Prop:=(ifs=[] /\ cond=none) \/ ∃ e c,ifs=[e] /\ cond=some c /\ TOk S F q d Γ sc e c
noncomputable def zQc (S:zQ) (F:Calls) (q:Bool) (d:Nat) (Γ:List Str) (sc:Scope) (o:Option Expr) (c:Option CE):Prop:=(o=none /\ c=none) \/ ∃ e' c',o=some e' /\ c=some c' /\ EOk S F q d Γ sc e' c'
section
variable {rec:List Str->Scope->Expr->Option CE}
theorem zBB (hr:∀ Γ sc e c,rec Γ sc e=some c->GOk S F q d Γ sc e c) {Γ:List Str} {sc:Scope}:∀ {es:List Expr} {cs:List CE},cL rec Γ sc es=some cs->All2 (GOk S F q d Γ sc) es cs
 | [],cs,h=>by cases h; exact .nil
 | e :: es,cs,h=>by
  unfold cL at h
  split at h
  ·first | exact zB h | exact zF h | cases h
  ·replace h:=bind_some h
   obtain ⟨a,ha,h⟩:=h
   replace h:=map_some h
   obtain ⟨as,has,rfl⟩:=h
   exact .cons (hr Γ sc e a ha) (zBB hr has)
theorem zHD (hr:∀ Γ sc e c,rec Γ sc e=some c->GOk S F q d Γ sc e c) {Γ:List Str} {sc:Scope} {o:Option Expr} {c:Option CE} (h:zPI rec Γ sc o=some c):zQc S F q d Γ sc o c:=by
 cases o with
 | none=>cases h; exact .inl ⟨rfl,rfl⟩
 | some e =>
  replace h:(rec Γ sc e).map some=some c:=h
  replace h:=map_some h
  obtain ⟨a,ha,rfl⟩:=h
  exact .inr ⟨e,a,rfl,rfl,(hr Γ sc e a ha).eo⟩
theorem zPH (hr:∀ Γ sc e c,rec Γ sc e=some c->GOk S F q d Γ sc e c) {Γ:List Str} {sc:Scope} {o:List Expr} {c:Option CE} (h:cIf rec Γ sc o=some c):zQX S F q d Γ sc o c:=by
 match o,h with
 | [],h=>cases h; exact .inl ⟨rfl,rfl⟩
 | [e],h =>
  replace h:(rec Γ sc e).map some=some c:=h
  replace h:=map_some h
  obtain ⟨a,ha,rfl⟩:=h
  exact .inr ⟨e,a,rfl,rfl,(hr Γ sc e a ha).to⟩
 | _ :: _ :: _,h=>cases h
theorem zIL {Γ:List Str} {sc:Scope} {k:Const} {n:Nat} {pos:Pos} {c:CE} (h:zKm k=some c):GOk S F q d Γ sc (.Constant k n pos) c:=by
 cases k with
 | none=>cases h; exact .of zNe (fun _ _=>rfl) rfl (fun _=>rfl) fun _ _=>rfl
 | bool b=>cases h; exact .of zNZ (fun _ _=>rfl) rfl (fun _=>rfl) fun _ _=>rfl
 | int i=>cases h; exact .of zPs (fun _ _=>rfl) rfl (fun _=>rfl) fun _ _=>rfl
 | str s =>
  replace h:(if s.length <= 1000&&PyData.strOk s then some (CE.lit (.str s)) else none)=some c:=h
  split at h
  ·rename_i hs; cases h; exact .of (zLz hs) (fun _ _=>rfl) rfl (fun _=>rfl) fun _ _=>rfl
  ·first | exact zB h | exact zF h | cases h
 | _=>first | exact zB h | exact zF h | cases h
theorem zMw (fs:zb S C T) (hr:∀ Γ sc e c,rec Γ sc e=some c->GOk S F q d Γ sc e c) {Γ:List Str} {sc:Scope} {a:Expr} {ops:List CmpOp} {cs:List Expr} {pos:Pos} {c:CE} (h:zPE rec Γ sc a ops cs=some c):GOk S F q d Γ sc (.Compare a ops cs pos) c:=by
 unfold zPE at h
 split at h
 ·first | exact zB h | exact zF h | cases h
 rename_i hlen
 have hlen:ops.length=cs.length:=by simpa using hlen
 have gen:∀ {cs:List Expr},ops.length=cs.length->((ops.mapM xj).bind fun os=>(rec Γ sc a).bind fun x=>(cL rec Γ sc cs).map fun ys=>CE.chain x os ys)=some c->GOk S F q d Γ sc (.Compare a ops cs pos) c:=fun {cs} hlen h=>by
  replace h:=bind_some h
  obtain ⟨os,ho,h⟩:=h
  replace h:=bind_some h
  obtain ⟨x,hx,h⟩:=h
  replace h:=map_some h
  obtain ⟨ys,hy,rfl⟩:=h
  have g:=zLt (pos:=pos) fs (hr Γ sc a x hx).eo (zIi ho) (zBB hr hy) hlen
  exact ⟨g.1,g.2,rfl,fun _=>rfl,fun _ _=>rfl⟩
 rcases cs with _ | ⟨b,_ | ⟨b2,r⟩⟩
 ·exact gen hlen h
 ·rcases ops with _ | ⟨op,_ | ⟨op2,r⟩⟩
  ·cases hlen
  ·replace h:(if (op==.Is&&vE b)=true then (rec Γ sc a).map (CE.p1 .isNone) else if (op==.IsNot&&vE b)=true then (rec Γ sc a).map (CE.p1 .isNotNone) else (xj op).bind fun o=>(rec Γ sc a).bind fun x=>(rec Γ sc b).map fun y=>CE.p2 o x y)=some c:=h
   by_cases hc:(op==.Is&&vE b)=true
   ·rw [if_pos hc] at h
    rw [Bool.and_eq_true] at hc
    obtain rfl:=eq_of_beq hc.1
    obtain ⟨k,p,rfl⟩:=zB8 hc.2
    replace h:=map_some h
    obtain ⟨a',ha,rfl⟩:=h
    have g:=(hr Γ sc a a' ha).eo
    exact ⟨zDY fs g,.cmp1 rfl (zDY fs g),rfl,fun _=>rfl,fun _ _=>rfl⟩
   ·rw [if_neg hc] at h
    by_cases hc:(op==.IsNot&&vE b)=true
    ·rw [if_pos hc] at h
     rw [Bool.and_eq_true] at hc
     obtain rfl:=eq_of_beq hc.1
     obtain ⟨k,p,rfl⟩:=zB8 hc.2
     replace h:=map_some h
     obtain ⟨a',ha,rfl⟩:=h
     have g:=(hr Γ sc a a' ha).eo
     exact ⟨zAG fs g,.cmp1 rfl (zAG fs g),rfl,fun _=>rfl,fun _ _=>rfl⟩
    ·rw [if_neg hc] at h
     replace h:=bind_some h
     obtain ⟨o,ho,h⟩:=h
     replace h:=bind_some h
     obtain ⟨x,hx,h⟩:=h
     replace h:=map_some h
     obtain ⟨y,hy,rfl⟩:=h
     have g2:=hr Γ sc _ y hy
     have g:=zPp (pos:=pos) fs ho (g2.marks _) (hr Γ sc a x hx).eo g2.eo
     exact ⟨g,.cmp1 (g2.marks _) g,rfl,fun _=>rfl,fun _ _=>rfl⟩
  ·cases hlen
 ·exact gen hlen h
theorem zHE (fs:zb S C T) (cl:Clean C) (hr:∀ Γ sc e c,rec Γ sc e=some c->GOk S F q d Γ sc e c) {Γ:List Str} {sc:Scope} {e:Expr} {k:SK} {cs:List CE} (h:zKs rec Γ sc e=some (k,cs)):zA9 S F q d Γ sc e k cs:=by
 have hv:Option.map (fun a=>(SK.val,[a])) (rec Γ sc e)=some (k,cs)->zA9 S F q d Γ sc e k cs:=fun h=>by
  replace h:=map_some h
  obtain ⟨a,ha,e'⟩:=h
  cases e'
  exact zNo (hr Γ sc e a ha)
 unfold zKs at h
 split at h
 ·rename_i fn args kws hc
  obtain ⟨pc,rfl⟩:=callParts?_eq hc
  split at h
  ·rename_i f hn
   obtain ⟨p,rfl⟩:=nameOf?_eq hn
   split at h
   ·rename_i hf
    obtain rfl:=eq_of_beq hf
    split at h
    ·rename_i hg
     simp only [Bool.and_eq_true,List.isEmpty_iff] at hg
     obtain ⟨hg,rfl⟩:=hg
     replace h:=bind_some h
     obtain ⟨es,hes,h⟩:=h
     have ga:=zBB hr hes
     split at h
     ·cases h; exact zKN fs hg cl.rng ga (.inl ⟨rfl,rfl⟩)
     ·first | exact zB h | exact zF h | cases h
    ·first | exact zB h | exact zF h | cases h
   ·exact hv h
  ·exact hv h
 ·exact hv h
theorem zEZ (fs:zb S C T) (cl:Clean C) (hr:∀ Γ sc e c,rec Γ sc e=some c->GOk S F q d Γ sc e c) {Γ:List Str} {sc scope:Scope} {elt:Expr} {gens:List Comprehension} {c:CE} (h:zEY rec Γ sc elt gens scope=some c) :
  ∃ x px iter ifs ce cond k cs,gens=[⟨.Name x px,iter,ifs,0⟩] /\ vN Γ sc scope x /\ zA9 S F q d Γ sc iter k cs /\ zQX S F q d (Γ++[x]) scope ifs cond /\ EOk S F q d (Γ++[x]) scope elt ce /\ c=.comp ce k cs cond:=by
 unfold zEY at h
 split at h
 ·rename_i g
  obtain ⟨tgt,iter,ifs,n⟩:=g
  replace h:=bind_some h
  obtain ⟨x,hx,h⟩:=h
  obtain ⟨px,rfl⟩:=nameOf?_eq hx
  split at h
  ·first | exact zB h | exact zF h | cases h
  ·rename_i hok
   simp only [Bool.or_eq_true,not_or,Bool.not_eq_true,bne_eq_false_iff_eq,Bool.not_eq_false'] at hok
   obtain ⟨rfl,hok⟩:=hok
   replace h:=bind_some h
   obtain ⟨⟨k,cs⟩,h1,h⟩:=h
   replace h:=bind_some h
   obtain ⟨cond,h2,h⟩:=h
   replace h:=map_some h
   obtain ⟨ce,h3,rfl⟩:=h
   exact ⟨x,px,iter,ifs,ce,cond,k,cs,rfl,zIP hok,zHE fs cl hr h1,zPH hr h2,(hr _ scope elt ce h3).eo,rfl⟩
 ·first | exact zB h | exact zF h | cases h
theorem zMz (fs:zb S C T) (hr:∀ Γ sc e c,rec Γ sc e=some c->GOk S F q d Γ sc e c) {Γ:List Str} {sc:Scope} {o i:Expr} {pos:Pos} {c:CE} (h:zPJ C rec Γ sc o i pos=some c):GOk S F q d Γ sc (.Subscript o i pos) c:=by
 unfold zPJ at h
 split at h
 ·rename_i lo hi hs
  obtain ⟨p,rfl⟩:=sliceParts?_eq hs
  replace h:=bind_some h
  obtain ⟨a,ha,h⟩:=h
  replace h:=bind_some h
  obtain ⟨l,hl,h⟩:=h
  replace h:=map_some h
  obtain ⟨u,hu,rfl⟩:=h
  exact zOM (kT (zLy (hr Γ sc o a ha).eo (zHD hr hl) (zHD hr hu)))
 ·replace h:=bind_some h
  obtain ⟨a,ha,h⟩:=h
  replace h:=map_some h
  obtain ⟨b,hb,rfl⟩:=h
  exact zOM (zLw fs (hr Γ sc o a ha).eo (hr Γ sc i b hb).eo)
theorem zIM (hr:∀ Γ sc e c,rec Γ sc e=some c->GOk S F q d Γ sc e c) {Γ:List Str} {sc:Scope} {o:Expr} {m:Str} {apos pos:Pos} {args:List Expr} {c:CE} (h1:noSuper o=true) (h2:(apos.endLine==pos.line)=true) (h:zF2 rec Γ sc o m args=some c):GOk S F q d Γ sc (.Call (.Attribute o m apos) args [] pos) c:=by
 unfold zF2 at h
 split at h
 ·split at h
  ·first | exact zB h | exact zF h | cases h
  rename_i hx
  split at h
  ·rename_i hm
   replace h:=bind_some h
   obtain ⟨a,ha,h⟩:=h
   replace h:=map_some h
   obtain ⟨b,hb,rfl⟩:=h
   obtain rfl:=eq_of_beq hm
   exact vC (zJ9 h1 h2 (by simpa using hx) (hr Γ sc o a ha).eo (hr Γ sc _ b hb).eo)
  ·replace h:=bind_some h
   obtain ⟨p,hp,h⟩:=h
   replace h:=bind_some h
   obtain ⟨a,ha,h⟩:=h
   replace h:=map_some h
   obtain ⟨b,hb,rfl⟩:=h
   exact vC (zRX hp h1 h2 (by simpa using hx) (hr Γ sc o a ha).eo (hr Γ sc _ b hb).eo)
 ·first | exact zB h | exact zF h | cases h
theorem zKq (fs:zb S C T) (FSs:FS S F q d) (hr:∀ Γ sc e c,rec Γ sc e=some c->GOk S F q d Γ sc e c) {Γ:List Str} {sc:Scope} {o:Expr} {m:Str} {apos pos:Pos} {args:List Expr} {c:CE} (hlen:args.length <= 20) (h:zKp C rec Γ sc o m apos args pos=some c):GOk S F q d Γ sc (.Call (.Attribute o m apos) args [] pos) c:=by
 unfold zKp at h
 split at h
 ·first | exact zB h | exact zF h | cases h
 rename_i hc
 simp only [Bool.or_eq_true,not_or,Bool.not_eq_true,Bool.not_eq_false',bne_eq_false_iff_eq] at hc
 have h1:noSuper o=true:=by simpa using hc.1
 have h2:(apos.endLine==pos.line)=true:=by simpa using hc.2
 split at h
 ·rename_i n hn
  replace h:=bind_some h
  obtain ⟨a,ha,h⟩:=h
  replace h:=map_some h
  obtain ⟨es,hes,rfl⟩:=h
  exact vC (zLs fs FSs hn h1 h2 hlen (hr Γ sc o a ha).eo (zBB hr hes))
 exact zIM hr h1 h2 h
theorem zMx (fs:zb S C T) (FSs:FS S F q d) (cl:Clean C) (hr:∀ Γ sc e c,rec Γ sc e=some c->GOk S F q d Γ sc e c) {Γ:List Str} {sc:Scope} {f:Str} {args:List Expr} {p pos:Pos} {c:CE} (h:zPG C rec Γ sc f args pos=some c):GOk S F q d Γ sc (.Call (.Name f p) args [] pos) c:=by
 unfold zPG at h
 split at h
 ·first | exact zB h | exact zF h | cases h
 rename_i hg
 have hg:isGlob sc f=true:=by simpa using hg
 split at h
 ·rename_i hf
  obtain rfl:=eq_of_beq hf
  unfold zHB at h
  split at h
  ·split at h
   ·first | exact zB h | exact zF h | cases h
   rename_i hx
   replace h:=bind_some h
   obtain ⟨kn,hkn,h⟩:=h
   obtain ⟨pk,rfl⟩:=nameOf?_eq hkn
   split at h
   ·rename_i hgk
    split at h
    ·rename_i kd hk
     replace h:=map_some h
     obtain ⟨a,ha,rfl⟩:=h
     exact vC (zKA fs hg cl.isin hk hgk (by simpa using hx) (hr Γ sc _ a ha).eo)
    ·exact zB h
   ·first | exact zB h | exact zF h | cases h
  ·first | exact zB h | exact zF h | cases h
 ·replace h:=bind_some h
  obtain ⟨es,hes,h⟩:=h
  have ga:=zBB hr hes
  split at h
  ·rename_i n hn
   cases h
   exact vC (zNa fs FSs hg (cl.nd hn) hn ga)
  ·rename_i hn
   split at h
   ·rename_i hbk
    simp only [Bool.and_eq_true] at hbk
    obtain rfl:=eq_of_beq hbk.2
    split at h
    ·rename_i hem
     cases h
     have hnil:es=[]:=List.isEmpty_iff.mp hem
     subst hnil
     cases ga
     exact vC (zPu fs FSs hbk.1 hg)
    ·first | exact zB h | exact zF h | cases h
   split at h
   ·replace h:=map_some h
    obtain ⟨o,ho,h⟩:=h
    cases ga with
    | cons g1 gs =>
     cases gs
     split at h
     ·subst h; exact vC (kT (zOU fs hg hn ho g1))
     ·subst h; exact vC (zOU fs hg hn ho g1).eok
   ·replace h:=map_some h
    obtain ⟨o,ho,rfl⟩:=h
    cases ga with
    | cons g1 gs =>
     cases gs with
     | cons g2 gs =>
      cases gs
      exact vC (zRV fs hg hn ho g1.star g2.star g1.eo g2.eo)
   ·first | exact zB h | exact zF h | cases h
theorem zKl (fs:zb S C T) (FSs:FS S F q d) (cl:Clean C) (hr:∀ Γ sc e c,rec Γ sc e=some c->GOk S F q d Γ sc e c) {Γ:List Str} {sc:Scope} {fn:Expr} {args:List Expr} {kws:List Keyword} {pos:Pos} {c:CE} (h:zKk C rec Γ sc fn args kws pos=some c):GOk S F q d Γ sc (.Call fn args kws pos) c:=by
 unfold zKk at h
 split at h
 ·first | exact zB h | exact zF h | cases h
 rename_i hk
 simp only [Bool.or_eq_true,not_or,Bool.not_eq_true,Bool.not_eq_false',List.isEmpty_iff] at hk
 obtain ⟨rfl,hk⟩:=hk
 split at h
 ·rename_i o m apos ha
  obtain rfl:=attrParts?_eq ha
  exact zKq fs FSs hr (by simpa using hk) h
 ·replace h:=bind_some h
  obtain ⟨f,hf,h⟩:=h
  obtain ⟨p,rfl⟩:=nameOf?_eq hf
  exact zMx fs FSs cl hr h
theorem zKn (fs:zb S C T) (hr:∀ Γ sc e c,rec Γ sc e=some c->GOk S F q d Γ sc e c) {Γ:List Str} {sc:Scope} {ks:List (Option Expr)} {vs:List Expr} {pos:Pos} {c:CE} (h:zN6 rec Γ sc ks vs=some c):GOk S F q d Γ sc (.Dict ks vs pos) c:=by
 cases vs with
 | nil =>
  cases ks with
  | nil=>cases h; exact .of (zLu fs) (fun _ _=>rfl) rfl (fun _=>rfl) fun _ _=>rfl
  | cons _ _=>first | exact zB h | exact zF h | cases h
 | cons v vs =>
  cases vs with
  | cons _ _=>first | exact zB h | exact zF h | cases h
  | nil =>
   match ks,h with
   | [],h=>cases h
   | _ :: _ :: _,h=>cases h
   | [none],h=>cases h
   | [some k],h =>
    replace h:((rec Γ sc k).bind fun a=>(rec Γ sc v).map fun b=>CE.dict1 a b)=some c:=h
    replace h:=bind_some h
    obtain ⟨a,ha,h⟩:=h
    replace h:=map_some h
    obtain ⟨b,hb,rfl⟩:=h
    exact .of (zLv fs (hr Γ sc _ a ha).eo (hr Γ sc _ b hb).eo) (fun _ _=>rfl) rfl (fun _=>rfl) fun _ _=>rfl
theorem zME (fs:zb S C T) (FSs:FS S F q d) (cl:Clean C) (hr:∀ Γ sc e c,rec Γ sc e=some c->GOk S F q d Γ sc e c) {Γ:List Str} {sc:Scope} {e:Expr} {c:CE} (h:zOf C rec Γ sc e=some c):GOk S F q d Γ sc e c:=by
 cases e with
 | Constant k n pos=>exact zIL h
 | Name x pos=>exact zPY fs h
 | BoolOp op vs pos =>
  replace h:((cL rec Γ sc vs).bind fun es=>vQ (op==.And) es)=some c:=h
  replace h:=bind_some h
  obtain ⟨es,h1,h2⟩:=h
  have:=zLr (pos:=pos) (zBB hr h1) h2
  exact ⟨this.1,this.2,rfl,fun _=>rfl,fun _ _=>rfl⟩
 | BinOp l op r pos =>
  replace h:((zCg op).bind fun o=>(rec Γ sc l).bind fun a=>(rec Γ sc r).map fun b=>vM C pos (.p2 o a b))=some c:=h
  replace h:=bind_some h
  obtain ⟨o,ho,h⟩:=h
  replace h:=bind_some h
  obtain ⟨a,ha,h⟩:=h
  replace h:=map_some h
  obtain ⟨b,hb,rfl⟩:=h
  exact .of (kT (zLq ho (hr Γ sc l a ha).eo (hr Γ sc r b hb).eo)) (fun _ _=>rfl) rfl (fun _=>rfl) fun _ _=>rfl
 | UnaryOp op x pos =>
  cases op with
  | Not =>
   replace h:(rec Γ sc x).map (.p1 .not)=some c:=h
   replace h:=map_some h
   obtain ⟨a,ha,rfl⟩:=h
   have g:=hr Γ sc x a ha
   exact ⟨zPw g.eo,g.to.not,rfl,fun _=>rfl,fun _ _=>rfl⟩
  | USub =>
   replace h:(rec Γ sc x).map (.p1 .neg)=some c:=h
   replace h:=map_some h
   obtain ⟨a,ha,rfl⟩:=h
   exact .of (zPt (hr Γ sc x a ha).eo) (fun _ _=>rfl) rfl (fun _=>rfl) fun _ _=>rfl
  | UAdd=>first | exact zB h | exact zF h | cases h
  | Invert=>first | exact zB h | exact zF h | cases h
 | Compare a ops cs pos=>exact zMw fs hr h
 | List es pos =>
  replace h:(if es.length <= 1000 then (cL rec Γ sc es).map fun es=>vM C pos (.list es) else none)=some c:=h
  split at h
  ·rename_i hl
   replace h:=map_some h
   obtain ⟨cs,h1,rfl⟩:=h
   exact .of (kT (zNc hl (zBB hr h1))) (fun _ _=>rfl) rfl (fun _=>rfl) fun _ _=>rfl
  ·first | exact zB h | exact zF h | cases h
 | Tuple es k pos =>
  replace h:(if es.length <= 1000 then (cL rec Γ sc es).map .tup else none)=some c:=h
  split at h
  ·rename_i hl
   replace h:=map_some h
   obtain ⟨cs,h1,rfl⟩:=h
   exact .of (zL0 hl (zBB hr h1)) (fun _ _=>rfl) rfl (fun _=>rfl) fun _ _=>rfl
  ·first | exact zB h | exact zF h | cases h
 | ListComp elt gens scope pos =>
  replace h:((zEY rec Γ sc elt gens scope).map fun e=>vM C pos e)=some c:=h
  replace h:=map_some h
  obtain ⟨c',h',rfl⟩:=h
  obtain ⟨x,px,iter,ifs,ce,cond,k,cs,rfl,h1,h2,h3,h4,rfl⟩:=zEZ fs cl hr h'
  exact .of (kT (zHg h1 h2 h3 h4)) (fun _ _=>rfl) rfl (fun _=>rfl) fun _ _=>rfl
 | Subscript o i pos=>exact zMz fs hr h
 | Call fn args kws pos=>exact zKl fs FSs cl hr h
 | Attribute o m pos =>
  replace h:((C.attrs.lookup m).bind fun k=>if noSuper o then (rec Γ sc o).map fun a=>.attr a k else none)=some c:=h
  replace h:=bind_some h
  obtain ⟨k,hk,h⟩:=h
  split at h
  ·rename_i hb
   replace h:=map_some h
   obtain ⟨a,ha,rfl⟩:=h
   exact .of (zNY fs hk hb (hr Γ sc o a ha).eo) (fun _ _=>rfl) rfl (fun _=>rfl) fun _ _=>rfl
  ·first | exact zB h | exact zF h | cases h
 | Dict ks vs pos =>
  exact zKn fs hr h
 | _=>first | exact zB h | exact zF h | cases h
end
theorem zEa (fs:zb S C T) (FSs:FS S F q d) (cl:Clean C):∀ (n:Nat) (Γ:List Str) (sc:Scope) (e:Expr) (c:CE),cE C n Γ sc e=some c->GOk S F q d Γ sc e c
 | 0,_,_,_,_,h=>by cases h
 | n+1,Γ,sc,e,c,h=>zME fs FSs cl (zEa fs FSs cl n) h
theorem zIZ {e:Expr} (h:isComp e=true):∃ a b c p,e=.ListComp a b c p:=by
 cases e with
 | ListComp=>exact ⟨_,_,_,_,rfl⟩
 | Constant k n p=>cases k <;> exact zF h
 | Slice l u st p=>cases st <;> exact zF h
 | _=>exact zF h
theorem kg {n:Nat} {Γ:List Str} {sc:Scope} {e:Expr} {c:CE} (h:cE C n Γ sc e=some c) (hc:isComp e=false):∀ env n t,swapsWith e t n env=pure false:=fun env _ t =>
 zMK hc (fun el gs sc p e'=>by subst e'; cases n <;> cases h) (fun k v gs sc p e'=>by subst e'; cases n <;> cases h)
section
variable {rec:Stmt->CS} {Γ:List Str} {sc:Scope}
theorem jW (hr:∀ s,SOk S F Fq q d Γ sc s (rec s)):∀ (ss:List Stmt),zDm S F Fq q d Γ sc ss (ss.map rec)
 | []=>zPv
 | s :: ss=>zNb (hr s) (jW hr ss)
theorem tup3?_eq {t:Expr} {x y z:Str} (h:tup3? t=some (x,y,z)):∃ p1 p2 p3 n tp,t=.Tuple [.Name x p1,.Name y p2,.Name z p3] n tp:=by
 replace h:=bind_some h
 obtain ⟨es,he,h⟩:=h
 obtain ⟨n,tp,rfl⟩:=tupleOf?_eq he
 clear he
 rcases es with _ | ⟨a,_ | ⟨b,_ | ⟨c,_ | ⟨e,r⟩⟩⟩⟩
 ·exact zB h
 ·exact zB h
 ·exact zB h
 ·replace h:((nameOf? a).bind fun x=>(nameOf? b).bind fun y=>(nameOf? c).map fun z=>(x,y,z))=some (x,y,z):=h
  replace h:=bind_some h
  obtain ⟨x',hx,h⟩:=h
  replace h:=bind_some h
  obtain ⟨y',hy,h⟩:=h
  replace h:=map_some h
  obtain ⟨z',hz,e⟩:=h
  cases e
  obtain ⟨p1,rfl⟩:=nameOf?_eq hx
  obtain ⟨p2,rfl⟩:=nameOf?_eq hy
  obtain ⟨p3,rfl⟩:=nameOf?_eq hz
  exact ⟨p1,p2,p3,_,_,rfl⟩
 ·exact zB h
theorem zMv (fs:zb S C T) (FSs:FS S F q d) (cl:Clean C) {t e:Expr} {pos:Pos} {c:CS} (h:zPD C Γ sc t e=some c):SOk S F Fq q d Γ sc (.Assign [t] e pos) c:=by
 have hE:=zEa (F:=F) (q:=q) (d:=d) fs FSs cl xo
 unfold zPD at h
 split at h
 ·rename_i x hx
  obtain ⟨px,rfl⟩:=nameOf?_eq hx
  replace h:=bind_some h
  obtain ⟨i,hi,h⟩:=h
  replace h:=map_some h
  obtain ⟨a,ha,rfl⟩:=h
  cases hc:isComp e with
  | false=>exact zPo hi (hE Γ sc _ a ha).eo (kg ha hc)
  | true =>
   obtain ⟨elt,gens,scope,p,rfl⟩:=zIZ hc
   replace ha:((zEY (cE C 29) Γ sc elt gens scope).map fun e=>vM C p e)=some a:=ha
   replace ha:=map_some ha
   obtain ⟨c',h',rfl⟩:=ha
   obtain ⟨x,px,iter,ifs,ce,cond,k,cs,rfl,h1,h2,h3,h4,rfl⟩:=zEZ fs cl (zEa fs FSs cl 29) h'
   refine zFK hi h1 h2 h3 h4 ?_
   unfold vM
   split
   ·exact .inr rfl
   ·exact .inl rfl
 ·split at h
  ·rename_i p hp
   obtain ⟨p',rfl⟩:=subParts?_eq hp
   split at h
   ·first | exact zB h | exact zF h | cases h
   ·rename_i hc
    replace h:=bind_some h
    obtain ⟨v,hv,h⟩:=h
    replace h:=bind_some h
    obtain ⟨a,ha,h⟩:=h
    replace h:=map_some h
    obtain ⟨b,hb,rfl⟩:=h
    exact zGY (hE Γ sc _ a ha).eo (hE Γ sc _ b hb).eo (hE Γ sc _ v hv).eo (kg hv (by simpa using hc))
  ·unfold zN5 at h
   split at h
   ·rename_i p hp
    obtain ⟨o,m,pa⟩:=p
    obtain rfl:=attrParts?_eq hp
    replace h:=bind_some h
    obtain ⟨k,hk,h⟩:=h
    split at h
    ·first | exact zB h | exact zF h | cases h
    ·rename_i hc
     replace h:=bind_some h
     obtain ⟨v,hv,h⟩:=h
     replace h:=map_some h
     obtain ⟨b,hb,rfl⟩:=h
     exact zGX fs hk (hE Γ sc _ b hb).eo (hE Γ sc _ v hv).eo (kg hv (by simpa using hc))
   unfold zN4 at h
   replace h:=bind_some h
   obtain ⟨⟨x,y,z⟩,hp,h⟩:=h
   obtain ⟨p1,p2,p3,n,tp,rfl⟩:=tup3?_eq hp
   split at h
   ·first | exact zB h | exact zF h | cases h
   ·rename_i hc
    obtain ⟨⟨fn,args,kws⟩,hcp⟩:=Option.isSome_iff_exists.mp (Option.isSome_iff_ne_none.mpr (by simpa using hc):(callParts? e).isSome=true)
    obtain ⟨cp,rfl⟩:=callParts?_eq hcp
    replace h:=bind_some h
    obtain ⟨i,hi,h⟩:=h
    replace h:=bind_some h
    obtain ⟨j,hj,h⟩:=h
    replace h:=bind_some h
    obtain ⟨k,hk,h⟩:=h
    replace h:=map_some h
    obtain ⟨c',hc',rfl⟩:=h
    exact zGZ hi hj hk (hE Γ sc _ c' hc').eo
theorem zKt (fs:zb S C T) (FSs:FS S F q d) (cl:Clean C) {ss:List Stmt} {k:TK} {c:CE} (h:cTK C Γ sc ss=some (k,c)):(∃ b₀ bs,ss=b₀ :: bs) /\ TKOk S F q d Γ sc ss k c:=by
 have hE:=zEa (F:=F) (q:=q) (d:=d) fs FSs cl xo
 match ss,h with
 | [],h=>cases h
 | _ :: _ :: _,h=>cases h
 | [s],h =>
  refine ⟨⟨_,_,rfl⟩,?_⟩
  replace h:zQn C Γ sc s=some (k,c):=h
  cases s with
  | Return v pos =>
   cases v with
   | none=>first | exact zB h | exact zF h | cases h
   | some e =>
    replace h:=map_some h
    obtain ⟨a,ha,e'⟩:=h
    cases e'
    exact zQF (hE Γ sc _ _ ha).eo
  | Assign ts e pos =>
   match ts,h with
   | [],h=>cases h
   | _ :: _ :: _,h=>cases h
   | [t],h =>
    replace h:(if isComp e=true then none else (nameOf? t).bind fun x=>(yN Γ sc x).bind fun i=>(cE C xo Γ sc e).map fun c=>(TK.asg i,c))=some (k,c):=h
    by_cases hcm:isComp e=true
    ·rw [if_pos hcm] at h; first | exact zB h | exact zF h | cases h
    rw [if_neg hcm] at h
    replace h:=bind_some h
    obtain ⟨x,hx,h⟩:=h
    replace h:=bind_some h
    obtain ⟨i,hi,h⟩:=h
    replace h:=map_some h
    obtain ⟨a,ha,e'⟩:=h
    cases e'
    obtain ⟨px,rfl⟩:=nameOf?_eq hx
    exact zQD hi (hE Γ sc _ _ ha).eo (kg ha (by simpa using hcm))
  | Expr e pos =>
   replace h:(if isComp e=true then none else (cE C xo Γ sc e).map fun c=>(TK.exp,c))=some (k,c):=h
   by_cases hcm:isComp e=true
   ·rw [if_pos hcm] at h; first | exact zB h | exact zF h | cases h
   rw [if_neg hcm] at h
   replace h:=map_some h
   obtain ⟨a,ha,e'⟩:=h
   cases e'
   exact zQE (hE Γ sc _ _ ha).eo (kg ha (by simpa using hcm))
  | _=>first | exact zB h | exact zF h | cases h
theorem zHA (fs:zb S C T) (FSq:FS S Fq true d) (cl:Clean C):∀ {hs:List ExceptHandler} {cs:List Hd},zKo C Γ sc hs=some cs->All2 (zOn S C Fq d Γ sc) hs cs
 | [],cs,h=>by cases h; exact .nil
 | h₀ :: hs,cs,h=>by
  replace h:((cHd C Γ sc h₀).bind fun a=>(zKo C Γ sc hs).map fun as=>a :: as)=some cs:=h
  replace h:=bind_some h
  obtain ⟨a,ha,h⟩:=h
  replace h:=map_some h
  obtain ⟨as,has,rfl⟩:=h
  refine .cons ?_ (zHA fs FSq cl has)
  obtain ⟨t,n,body,pos⟩:=h₀
  cases t with
  | none=>exact zB ha
  | some t =>
   replace ha:=bind_some ha
   obtain ⟨x,hx,ha⟩:=ha
   replace ha:=bind_some ha
   obtain ⟨k,hk,ha⟩:=ha
   replace ha:=bind_some ha
   obtain ⟨as,has,ha⟩:=ha
   replace ha:=map_some ha
   obtain ⟨⟨tk,c⟩,hp,rfl⟩:=ha
   obtain ⟨px,rfl⟩:=nameOf?_eq hx
   obtain ⟨⟨b₀,bs,rfl⟩,ht⟩:=zKt fs FSq cl hp
   refine ⟨x,px,n,b₀,bs,pos,rfl,hk,?_,ht⟩
   cases n with
   | none=>cases has; exact .inl ⟨rfl,rfl⟩
   | some y =>
    replace has:(if sc.names.lookup y==some .local then (yN Γ sc y).bind (fun _=>(none:Option (Option Nat))) else none)=some as:=has
    split at has
    ·cases hs:yN Γ sc y <;> rw [hs] at has <;> cases has
    ·first | exact zB has | exact zF has | cases has
theorem zIN (fs:zb S C T) {e:Expr} {pos:Pos} {c:CS} (h:zKr C sc e=some c):SOk S F Fq q d Γ sc (.Raise (some e) none pos) c:=by
 replace h:=bind_some h
 obtain ⟨⟨fn,args,kws⟩,hc,h⟩:=h
 obtain ⟨cp,rfl⟩:=callParts?_eq hc
 clear hc
 match args,h with
 | [],h=>cases h
 | _ :: _ :: _,h=>cases h
 | [x],h =>
  have h2:(if kws.isEmpty then (strC? x).bind fun s=>(nameOf? fn).bind fun f=>if s.length <= 1000&&PyData.strOk s then (zBG C sc f).map .raise else none else none)=some c:=h
  by_cases hk0:kws.isEmpty=true
  ·rw [if_pos hk0] at h2
   replace h2:=bind_some h2
   obtain ⟨m,hm,h3⟩:=h2
   replace h3:=bind_some h3
   obtain ⟨f,hf,h4⟩:=h3
   obtain ⟨kk,kp,rfl⟩:=strC?_eq hm
   obtain ⟨px,rfl⟩:=nameOf?_eq hf
   obtain rfl:kws=[]:=List.isEmpty_iff.mp hk0
   by_cases hl:(m.length <= 1000&&PyData.strOk m)=true
   ·rw [if_pos hl] at h4
    replace h4:=map_some h4
    obtain ⟨k,hk,rfl⟩:=h4
    exact zLx fs hl hk
   ·rw [if_neg hl] at h4; first | exact zB h4 | exact zF h4 | cases h4
  ·rw [if_neg hk0] at h2; first | exact zB h2 | exact zF h2 | cases h2
theorem zMF (fs:zb S C T) (FSs:FS S F q d) (FSq:FS S Fq true d) (cl:Clean C) (hr:∀ s,SOk S F Fq q d Γ sc s (rec s)) {s:Stmt} {c:CS} (h:zHv C Γ sc rec s=some c):SOk S F Fq q d Γ sc s c:=by
 have hE:=zEa (F:=F) (q:=q) (d:=d) fs FSs cl xo
 cases s with
 | Return v pos =>
  cases v with
  | none=>first | exact zB h | exact zF h | cases h
  | some e =>
   replace h:(cE C xo Γ sc e).map .ret=some c:=h
   replace h:=map_some h
   obtain ⟨a,ha,rfl⟩:=h
   exact zPx (hE Γ sc _ a ha).eo
 | Assign ts e pos =>
  match ts,h with
  | [],h=>cases h
  | [t],h=>exact zMv fs FSs cl h
  | _ :: _ :: _,h=>cases h
 | If t a b pos =>
  replace h:((cE C xo Γ sc t).map fun t=>CS.ite t (a.map rec) (b.map rec))=some c:=h
  replace h:=map_some h
  obtain ⟨t',ht,rfl⟩:=h
  exact zRW (hE Γ sc _ t' ht).to (jW hr a) (jW hr b)
 | For x iter body orelse pos =>
  cases orelse with
  | cons _ _=>first | exact zB h | exact zF h | cases h
  | nil =>
   replace h:((nameOf? x).bind fun x=>(yN Γ sc x).bind fun i=>(zKs (cE C xo) Γ sc iter).map fun s=>CS.for i s.1 s.2 (body.map rec))=some c:=h
   replace h:=bind_some h
   obtain ⟨xn,hx,h⟩:=h
   replace h:=bind_some h
   obtain ⟨i,hi,h⟩:=h
   replace h:=map_some h
   obtain ⟨⟨k,cs⟩,hs,rfl⟩:=h
   obtain ⟨px,rfl⟩:=nameOf?_eq hx
   exact zPr hi (zHE fs cl hE hs) (jW hr body)
 | Expr e pos =>
  replace h:(if isComp e then none else (cE C xo Γ sc e).map .exp)=some c:=h
  split at h
  ·first | exact zB h | exact zF h | cases h
  ·rename_i hc
   replace h:=map_some h
   obtain ⟨a,ha,rfl⟩:=h
   exact zPq (hE Γ sc _ a ha).eo (kg ha (by simpa using hc))
 | Pass pos=>cases h; exact zNf
 | Raise e c' pos =>
  match e,c',h with
  | none,_,h=>cases h
  | some _,some _,h=>cases h
  | some e,none,h =>
   exact zIN fs h
 | Try body hs oe fb pos =>
  match hs,oe,fb,h with
  | h₀ :: hs,[],[],h =>
   replace h:((cTK C Γ sc body).bind fun p=>(zKo C Γ sc (h₀ :: hs)).map fun hs=>CS.try p.1 p.2 hs)=some c:=h
   replace h:=bind_some h
   obtain ⟨⟨k,ce⟩,hb,h⟩:=h
   replace h:=map_some h
   obtain ⟨cs,hcs,rfl⟩:=h
   obtain ⟨⟨b₀,bs,rfl⟩,ht⟩:=zKt fs FSs cl hb
   exact zPy fs ht (zHA fs FSq cl hcs)
  | [],_,_,h=>cases h
  | _ :: _,_ :: _,_,h=>cases h
  | _ :: _,[],_ :: _,h=>cases h
 | _=>first | exact zB h | exact zF h | cases h
end
theorem zN7 (fs:zb S C T) (FSs:FS S F q d) (FSq:FS S Fq true d) (cl:Clean C) {Γ:List Str} {sc:Scope}:∀ (n:Nat) (s:Stmt),SOk S F Fq q d Γ sc s (cS C Γ sc n s)
 | 0,_=>zFL
 | n+1,s=>by
  show SOk S F Fq q d Γ sc s ((zHv C Γ sc (cS C Γ sc n) s).getD .stuck)
  cases h:zHv C Γ sc (cS C Γ sc n) s with
  | none=>exact zFL
  | some c=>exact zMF fs FSs FSq cl (zN7 fs FSs FSq cl n) h
theorem sSL (fs:zb S C T) (FSs:FS S F q d) (FSq:FS S Fq true d) (cl:Clean C) (Γ:List Str) (sc:Scope) (ss:List Stmt):zDm S F Fq q d Γ sc ss (cSL C Γ sc ss):=jW (zN7 fs FSs FSq cl xo) ss
end
end Mine
end

section
namespace Mine
open PySem PyProof.Rows
inductive zFu (S:zQ) (C:Ctx) (k:Nat) (fn:Fn):Prop where
 | mk (o:Obj) (fd:FuncData) (body:List Stmt) (ps:List Str) (ho:S.hb.get? (S.fn k)=some o) (hdata:o.data=.func fd) (hbody:fd.body=.stmts body) (hclo:fd.closure=[]) (hglob:fd.globals=mainGlobals) (hblt:fd.builtins=builtinsNs)
   (hcode:S.hb.CodeRec fd.code fd.qualname) (hco:fd.scope.isCoroutine=false) (hgen:fd.scope.isGenerator=false) (hkf:fd.scope.kind=.function)
   (hbind:∀ vals:List Value,vals.length=ps.length->bindArgs fd ⟨vals,[]⟩=pure (ps.zip vals)) (hnd:ps.Nodup) (hpk:∀ p ∈ ps,fd.scope.names.lookup p=some .local \/ fd.scope.names.lookup p=some .cell)
   (hfree:∀ p ∈ fd.scope.names,p.2 ≠ .free) (hnn:(fd.scope.names.map (·.1)).Nodup) (hpar:fn.params=ps.length) (hslots:fn.slots=(wB ps fd.scope).length) (hcomp:cSL C (wB ps fd.scope) fd.scope body=fn.body)
theorem zBs {kindOf:Str->Option NameKind} {x:Str}:∀ (b:List (Str × Value)) (m:Str->Option Value),(∀ p ∈ b,p.1 ≠ x)->bindL kindOf b m x=m x
 | [],m,_=>rfl
 | (n,v) :: r,m,h=>by
  rw [bindL,zBs r _ fun p hp=>h p (List.mem_cons_of_mem _ hp)]
  have:x ≠ n:=fun e=>h (n,v) List.mem_cons_self e.symm
  split
  ·simp [this]
  ·rfl
theorem zBr {kindOf:Str->Option NameKind} {x:Str}:∀ (b:List (Str × Value)) (m:Str->Option Value),(∀ p ∈ b,p.1 ≠ x)->bindC kindOf b m x=m x
 | [],m,_=>rfl
 | (n,v) :: r,m,h=>by
  rw [bindC,zBr r _ fun p hp=>h p (List.mem_cons_of_mem _ hp)]
  have:x ≠ n:=fun e=>h (n,v) List.mem_cons_self e.symm
  split
  ·rfl
  ·simp [this]
theorem zA8 {ps:List Str} {vs:List Value} {p:Str × Value} (h:p ∈ ps.zip vs):p.1 ∈ ps:=(List.of_mem_zip h).1
theorem zEW {kindOf:Str->Option NameKind} {x:Str} {w:Value} (hk:kindOf x=some .local):∀ (ps:List Str) (vs:List Value) (i:Nat) (m:Str->Option Value),ps.Nodup->ps[i]?=some x->vs[i]?=some w->bindL kindOf (ps.zip vs) m x=some w
 | [],_,i,_,_,h,_=>by simp at h
 | p :: ps,[],i,_,_,_,h=>by simp at h
 | p :: ps,v :: vs,0,m,hn,h1,h2=>by
  obtain rfl:p=x:=by simpa using h1
  obtain rfl:v=w:=by simpa using h2
  rw [List.zip_cons_cons,bindL,zBs (x:=p) _ _ fun q hq e=>(List.nodup_cons.mp hn).1 (e ▸ zA8 hq),if_pos hk]
  simp
 | p :: ps,v :: vs,i+1,m,hn,h1,h2=>by
  rw [List.zip_cons_cons,bindL]
  exact zEW hk ps vs i _ (List.nodup_cons.mp hn).2 (by simpa using h1) (by simpa using h2)
theorem zEV {kindOf:Str->Option NameKind} {x:Str} {w:Value} (hk:kindOf x ≠ some .local):∀ (ps:List Str) (vs:List Value) (i:Nat) (m:Str->Option Value),ps.Nodup->ps[i]?=some x->vs[i]?=some w->bindC kindOf (ps.zip vs) m x=some w
 | [],_,i,_,_,h,_=>by simp at h
 | p :: ps,[],i,_,_,_,h=>by simp at h
 | p :: ps,v :: vs,0,m,hn,h1,h2=>by
  obtain rfl:p=x:=by simpa using h1
  obtain rfl:v=w:=by simpa using h2
  rw [List.zip_cons_cons,bindC,zBr (x:=p) _ _ fun q hq e=>(List.nodup_cons.mp hn).1 (e ▸ zA8 hq),if_neg hk]
  simp
 | p :: ps,v :: vs,i+1,m,hn,h1,h2=>by
  rw [List.zip_cons_cons,bindC]
  exact zEV hk ps vs i _ (List.nodup_cons.mp hn).2 (by simpa using h1) (by simpa using h2)
theorem wU {x:Str}:∀ (names:List (Str × NameKind)) (n:Nat) (acc:List (Str × Addr)),(acc.lookup x).isSome=true->((cellsFrom n names acc).lookup x).isSome=true
 | [],_,_,h=>h
 | (y,k) :: r,n,acc,h=>by
  unfold cellsFrom
  split
  ·refine wU r _ _ ?_
   rw [List.lookup_cons]
   split
   ·rfl
   ·exact h
  ·exact wU r _ _ h
theorem yu {x:Str}:∀ (names:List (Str × NameKind)) (n:Nat) (acc:List (Str × Addr)),(x,NameKind.cell) ∈ names->((cellsFrom n names acc).lookup x).isSome=true
 | [],_,_,h=>nomatch h
 | (y,k) :: r,n,acc,h=>by
  unfold cellsFrom
  rcases List.mem_cons.mp h with e | h
  ·cases e
   rw [if_pos (by rfl)]
   exact wU r _ _ (by rw [List.lookup_cons]; simp)
  ·split
   ·exact yu r _ _ h
   ·exact yu r _ _ h
theorem xm:∀ (names:List (Str × NameKind)) (n:Nat) (acc:List (Str × Addr)),(names.map (·.1)).Nodup->(acc.map (·.1)).Nodup->(∀ x ∈ acc.map (·.1),x ∉ names.map (·.1))->((cellsFrom n names acc).map (·.1)).Nodup
 | [],_,_,_,h,_=>h
 | (y,k) :: r,n,acc,h1,h2,h3=>by
  have h1':=List.nodup_cons.mp h1
  unfold cellsFrom
  split
  ·refine xm r _ _ h1'.2 (List.nodup_cons.mpr ⟨fun h=>h3 _ h List.mem_cons_self,h2⟩) fun x hx=>?_
   rcases List.mem_cons.mp hx with rfl | hx
   ·exact h1'.1
   ·exact fun h=>h3 x hx (List.mem_cons_of_mem _ h)
  ·exact xm r _ _ h1'.2 h2 fun x hx h=>h3 x hx (List.mem_cons_of_mem _ h)
theorem jA {β:Type}:∀ {l:List (Str × β)} {p:Str × β},(l.map (·.1)).Nodup->p ∈ l->l.lookup p.1=some p.2
 | (y,v) :: r,p,hn,h=>by
  have hn':=List.nodup_cons.mp hn
  rw [List.lookup_cons]
  rcases List.mem_cons.mp h with rfl | h
  ·simp
  ·have:(p.1==y)=false:=by
    cases e:(p.1==y) with
    | false=>rfl
    | true=>exact (hn'.1 (eq_of_beq e ▸ List.mem_map_of_mem (f:=(·.1)) h)).elim
   rw [this]
   exact jA hn'.2 h
section
variable {S:zQ} {C:Ctx} {T:Nat->Option Fn}
theorem zRz {a d:Nat} (h:a+2 * (d+1)+2 <= 900):a+1+2 * d+3 <= 900:=Nat.le_trans (Nat.le_of_eq (congrArg (· + 3) (Nat.add_right_comm a 1 (2 * d)))) h
theorem zR0 {a d:Nat} (h:a+5 * (d+1)+200 <= 9900):a+3+5 * d+202 <= 9900:=Nat.le_trans (Nat.le_of_eq (by rw [Nat.add_right_comm a 3 (5 * d),Nat.mul_succ,<- Nat.add_assoc,Nat.add_assoc (a+5 * d) 3 202,Nat.add_assoc (a+5 * d) 5 200])) h
theorem jE (fs:zb S C T) (cl:Clean C) (fa:∀ k fn,T k=some fn->zFu S C k fn):∀ (d:Nat) (q:Bool),FS S (zA T d q) q d
 | 0,q=>fun k vs J f X A s vals cx L rs hne=>(hne (by rfl)).elim
 | d+1,q=>fun k vs J f X A s vals cx L rs hne=>by
  have ih:=jE fs cl fa d q
  have ihq:=jE fs cl fa d true
  rw [vO] at hne ⊢
  cases hT:T k with
  | none=>rw [hT] at hne; exact (hne rfl).elim
  | some fn =>
   rw [hT] at hne
   simp only at hne ⊢
   by_cases hlen:vs.length=fn.params
   case neg=>rw [if_neg hlen] at hne; exact (hne rfl).elim
   rw [if_pos hlen] at hne ⊢
   obtain ⟨o,fd,body,ps,ho,hdata,hbody,hclo,hglob,hblt,hcode,hco,hgen,hkf,hbind,hnd,hpk,hfree,hnn,hpar,hslots,hcomp⟩:=fa k fn hT
   have LS:zDm S (zA T d q) (zA T d true) q d (wB ps fd.scope) fd.scope body fn.body:=hcomp ▸ sSL fs ih ihq cl _ _ _
   refine ⟨⟨o,fd,ho,hdata⟩,?_⟩
   have hvl:vals.length=ps.length:=by rw [<- wG rs,hlen,hpar]
   refine codeAny_call_cells (Nat.lt_of_le_of_lt (Nat.le_trans (Nat.le_trans (Nat.le_add_right _ _) (Nat.le_add_right _ _)) cx.depth) (by decide)) (L.base _ _ ho) hdata (by obtain ⟨mc,h1,h2⟩:=fs.nolimit; exact ⟨mc,L.ns h1,h2⟩)
    (by obtain ⟨c,o,vs,t,e1,e2,e3⟩:=hcode; exact ⟨c,o,vs,t,e1,L.base _ _ e2,e3⟩) hbody (hbind vals hvl) hclo
    (fun x hx=>(hpk x.1 (zA8 hx)).imp id fun h=>⟨h,yu _ _ _ (zU h)⟩) (fun s₁ ic=>?_) hco hgen hkf
   generalize henv:callEnvC fd s.heap.objs.size (S.fn k)=env at ic ⊢
   have e_loc:env.locals=s.heap.objs.size:=by rw [<- henv]; rfl
   have e_cells:env.cells=cellsFrom (s.heap.objs.size+1) fd.scope.names []:=by rw [<- henv]; rfl
   have e_kind:∀ x,env.kindOf x=fd.scope.names.lookup x:=fun x=>by rw [<- henv]; rfl
   have e_scope:env.scope=fd.scope:=by rw [<- henv]; rfl
   have e_glob:env.globals=mainGlobals:=by rw [<- henv]; exact hglob
   have e_blt:env.builtins=builtinsNs:=by rw [<- henv]; exact hblt
   have e_frame:env.frame=some s.heap.objs.size:=by rw [<- henv]; rfl
   have hkeep:=ic.toInCall.keep
   have hnew:∀ a,s.heap.objs.size <= a->s.heap.get? a=none:=fun a ha=>by
    cases e:s.heap.get? a with
    | none=>rfl
    | some o=>exact absurd (Heap.lt_size e) (Nat.not_lt.mpr ha)
   have hN:∀ a ∈ ya env,s.heap.get? a=none /\ ∃ o,s₁.heap.get? a=some o:=fun a ha=>by
    rcases List.mem_cons.mp ha with rfl | ha
    ·refine ⟨hnew _ (by rw [e_loc]; exact Nat.le_refl _),?_⟩
     obtain ⟨o,_,_,ho,_⟩:=ic.toInCall.ns
     exact ⟨o,ho⟩
    ·obtain ⟨p,hp,rfl⟩:=List.mem_map.mp ha
     have hlo:=ic.above p.1 p.2 hp
     refine ⟨hnew _ (Nat.le_of_lt (e_loc ▸ hlo)),?_⟩
     have hlk:env.cells.lookup p.1=some p.2:=jA (by rw [e_cells]; exact xm _ _ _ hnn .nil fun _ h=>nomatch h) hp
     obtain ⟨o,ho,_⟩:=ic.cell p.1 p.2 hlk
     exact ⟨o,ho⟩
   have L':Lk S (ya env++X) f J s₁.heap:=L.enter hkeep hN
   have rs':VRs S (ya env++X) f s₁.heap vs vals:=
    VRs.keep (fun _ _ e=>e) (fun a o ho h1 h2=>⟨⟨h1,fun h=>(List.mem_append.mp h).elim (fun h=>by rw [(hN a h).1] at ho; cases ho) h2⟩,o,hkeep a o ho,.refl o⟩) _ _ rs
   have hcx:Cx S (A.deeper env) q d f s₁.heap env.frame:=by
    obtain ⟨l,h1,h2⟩:=cx.frs
    refine ⟨zRz cx.depth,zR0 cx.units,cx.hand,env,l,by show A.frames.map (env :: ·)=_; rw [h1]; rfl,rfl,fun e he=>?_⟩
    rcases List.mem_cons.mp he with rfl | he
    ·obtain ⟨o,es,n,ho,hd,_⟩:=ic.toInCall.ns
     have hl:=L'.hid e.locals (List.mem_append_left _ List.mem_cons_self)
     exact ⟨by rw [e_scope,hkf]; simp,e.locals,o,es,n,by rw [e_frame,e_loc],hl.1,hl.2.1,ho,hd⟩
    ·obtain ⟨h3,L1,o,es,n,h4,h5,h6,h7,h8⟩:=h2 e he
     exact ⟨h3,L1,o,es,n,h4,h5,h6,hkeep _ _ h7,h8⟩
   have hfr:FR S (ya env++X) f s₁.heap env (wB ps fd.scope) fd.scope (vs++List.replicate (fn.slots - fn.params) .undef):=by
    refine ⟨by rw [e_scope,hkf],e_glob,e_blt,fun x=>.inl (e_kind x),⟨List.mem_append_left _ List.mem_cons_self,_,ic.toInCall.ns⟩,fun x hx=>?_,fun x i v h1 h2 h3 h4=>?_,?_⟩
    ·have hc:fd.scope.names.lookup x=some .cell:=by
      rcases hx with h | h
      ·rw [<- e_kind]; exact h
      ·rw [e_kind] at h; exact absurd rfl (hfree _ (zU h))
     have:=yu (x:=x) fd.scope.names (s.heap.objs.size+1) [] (zU hc)
     rw [<- e_cells] at this
     obtain ⟨c,hcl⟩:=Option.isSome_iff_exists.mp this
     exact ⟨c,_,hcl,List.mem_append_left _ (List.mem_cons_of_mem _ (zCC hcl)),ic.cell x c hcl⟩
    ·have hi:i < vs.length:=by
      cases hlt:decide (i < vs.length) with
      | true=>exact of_decide_eq_true hlt
      | false =>
       have hge:vs.length <= i:=Nat.le_of_not_lt (of_decide_eq_false hlt)
       rw [List.getElem?_append_right hge] at h3
       have:=List.eq_of_mem_replicate (List.mem_of_getElem? h3)
       exact (h4 this).elim
     rw [List.getElem?_append_left hi] at h3
     obtain ⟨w,hw,r⟩:=kX rs' h3
     have hx:ps[i]?=some x:=by
      have:=wR h2
      unfold wB at this
      rwa [List.getElem?_append_left (by rw [<- hpar,<- hlen]; exact hi)] at this
     refine ⟨w,?_,r⟩
     rcases hpk x (List.mem_of_getElem? hx) with h | h
     ·exact .inl ⟨by rw [e_kind,h],_,ic.toInCall.ns,zEW (by rw [e_kind,h]) ps vals i _ hnd hx hw⟩
     ·have:=yu (x:=x) fd.scope.names (s.heap.objs.size+1) [] (zU h)
      rw [<- e_cells] at this
      obtain ⟨c,hcl⟩:=Option.isSome_iff_exists.mp this
      refine .inr ⟨.inl (by rw [e_kind,h]),c,hcl,?_⟩
      have:=ic.cell x c hcl
      rwa [zEV (by rw [e_kind,h]; simp) ps vals i _ hnd hx hw] at this
    ·have:(wB ps fd.scope).length=ps.length+((fd.scope.names.filter fun p=>(p.2==.local||p.2==.cell)&&!ps.contains p.1).map (·.1)).length:=by rw [wB,List.length_append]
     rw [List.length_append,List.length_replicate,hlen,hslots,hpar,this]
     exact Nat.add_sub_of_le (Nat.le_add_right _ _)
   have hfw:FW env (ya env++X):=by
    refine ⟨List.mem_append_left _ List.mem_cons_self,fun p hp=>List.mem_append_left _ (List.mem_cons_of_mem _ (List.mem_map_of_mem hp)),fun x y c h1 h2=>?_⟩
    exact name_of_addr ic.apart (mem_of_lookup h1) (mem_of_lookup h2)
   have hne':exL (zA T d q) (zA T d true) q fn.body (vs++List.replicate (fn.slots - fn.params) .undef) J ≠ .stuck:=fun e=>hne (by rw [e]; rfl)
   refine wpAny_mono (LS env _ f (ya env++X) J s₁ (A.deeper env) ⟨hcx,hfr,L'⟩ hfw hne') (fun fl s' hq=>?_) fun e s' he=>?_
   ·obtain ⟨x,J',g,er,hg,kp,Lk',hfl⟩:=hq
    rw [er] at hne ⊢
    have hg0:Fresh g s:=fun a ha=>zo (fun a o e=>⟨o,hkeep a o e⟩) (hg a ha)
    have kp0:Kp f [] s s':=by
     obtain ⟨h0,tk,e0⟩:=ic.toInCall.same
     refine ⟨by rw [kp.rest,e0],fun a o e=>kp.live a o (hkeep a o e),fun a o e h1 _=>kp.kept a o (hkeep a o e) h1 fun h=>(by rw [(hN a h).1] at e; cases e),fun a o es n e hd h1=>kp.dicts a o es n (hkeep a o e) hd h1⟩
    have Lk0:Lk S X (f++g) J' s'.heap:=Lk'.less fun a ha=>List.mem_append_right _ ha
    cases x with
    | ret v =>
     obtain ⟨w,rfl,r⟩:=hfl
     exact ⟨v,J',g,rfl,hg0,kp0,Lk0,r.less fun a ha=>List.mem_append_right _ ha⟩
    | next H' =>
     obtain ⟨rfl,-⟩:=hfl
     exact ⟨.none,J',g,rfl,hg0,kp0,Lk0,rfl⟩
   ·obtain ⟨c,J',g,ea,rfl,e2,hg,kp,Lk',x⟩:=he
    rw [e2] at hne ⊢
    obtain ⟨en,l,h1,h2,h3⟩:=(hcx.keep kp hg).frs
    obtain ⟨_,L1,_,_,_,h4,_⟩:=h3 en List.mem_cons_self
    have hX:∀ a ∈ ya env++X,∃ o,s₁.heap.get? a=some o:=fun a ha=>(L'.hid a ha).2.2
    unfold leaving
    rw [xy (env':=en) h2]
    refine wpAny_bind (zCE h1 h3 h4 x hX kp fun h' kp1 L'' x'=>?_)
    refine ⟨c,J',g,ea,rfl,rfl,fun a ha=>zo (fun a o e=>⟨o,hkeep a o e⟩) (hg a ha),?_,L''.less fun a ha=>List.mem_append_right _ ha,(x'.less fun a ha=>List.mem_append_right _ ha).back fun a h=>zo (fun a o e=>⟨o,hkeep a o e⟩) h⟩
    obtain ⟨h0,tk,e0⟩:=ic.toInCall.same
    exact ⟨by rw [kp1.rest,e0],fun a o e=>kp1.live a o (hkeep a o e),fun a o e h1 _=>kp1.kept a o (hkeep a o e) h1 fun h=>(by rw [(hN a h).1] at e; cases e),fun a o es n e hd h1=>kp1.dicts a o es n (hkeep a o e) hd h1⟩
end
end Mine
end

section
namespace Mine
open PySem PySem.W PyProof.Rows
noncomputable def zA1 (a:Arguments):Bool:=a.posonlyargs.isEmpty&&a.vararg.isNone&&a.kwonlyargs.isEmpty&&a.kw_defaults.isEmpty&&a.kwarg.isNone&&a.defaults.isEmpty
noncomputable def zGi (params:Arguments) (scope:Scope):Bool:=zA1 params&&!scope.isCoroutine&&!scope.isGenerator&&scope.kind==.function&&decide (params.args.map (·.arg)).Nodup&&((params.args.map (·.arg)).all fun p=>scope.names.lookup p==some .local||scope.names.lookup p==some .cell)
&&!scope.names.any (fun p=>p.2==.free)&&decide (scope.names.map (·.1)).Nodup
noncomputable def zHp (C:Ctx) (params:Arguments) (body:List Stmt) (scope:Scope):Option Fn:=
 if zGi params scope then some ⟨(params.args.map (·.arg)).length,(wB (params.args.map (·.arg)) scope).length,cSL C (wB (params.args.map (·.arg)) scope) scope body⟩ else none
noncomputable def zRc (C:Ctx) (ds:List DefRec):Option (List (Nat × Fn)):=ds.mapM fun d=>(C.fns.lookup d.name).bind fun k=>(zHp C d.params d.body d.scope).map fun f=>(k,f)
noncomputable def zRd (C:Ctx) (ms:List MethRec):Option (List (Nat × Fn)):=ms.mapM fun d=>(C.meths.lookup d.name).bind fun k=>(zHp C d.params d.body d.scope).map fun f=>(k,f)
theorem zCB {α β:Type} {g:α->Option β}:∀ {l:List α} {r:List β} {b:β},l.mapM g=some r->b ∈ r->∃ a ∈ l,g a=some b
 | [],r,b,h,hb=>by simp at h; subst h; cases hb
 | a :: l,r,b,h,hb=>by
  rw [List.mapM_cons] at h
  cases h1:g a with
  | none=>first | (rw [h1] at h; exact zB h) | simp [h1] at h
  | some x =>
   cases h2:l.mapM g with
   | none=>first | (rw [h1,h2] at h; exact zB h) | (rw [h1,Option.bind_some,h2] at h; exact zB h) | simp [h1,h2] at h
   | some xs =>
    simp [h1,h2] at h
    subst h
    rcases List.mem_cons.mp hb with rfl | hb
    ·exact ⟨a,List.mem_cons_self,h1⟩
    ·obtain ⟨a',h3,h4⟩:=zCB h2 hb
     exact ⟨a',List.mem_cons_of_mem _ h3,h4⟩
theorem zBJ {β:Type} {k:Nat} {y:β}:∀ {l:List (Nat × β)},l.lookup k=some y->(k,y) ∈ l
 | (k',y') :: l,h=>by
  rw [List.lookup_cons] at h
  split at h
  ·rename_i e; cases h; rw [eq_of_beq e]; exact List.mem_cons_self
  ·exact List.mem_cons_of_mem _ (zBJ h)
noncomputable def zFP:Option Value->Addr
 | some (.ref a)=>a
 | _=>0
noncomputable def xp (C:Ctx) (mg mN:Str->Option Value) (k:Nat):Addr:=match C.fns.find? (fun p=>p.2==k) with
 | some p=>zFP (mg p.1)
 | none=>(match C.meths.find? (fun p=>p.2==k) with
  | some p=>zFP (mN p.1)
  | none=>0)
theorem zCZ {β:Type}:∀ {ps:List Str} {vs:List β} {n:Str},n ∈ ps->vs.length=ps.length->∃ v,(ps.zip vs).lookup n=some v
 | p :: ps,[],n,_,h=>by simp at h
 | p :: ps,v :: vs,n,hn,h=>by
  rw [List.zip_cons_cons,List.lookup_cons]
  split
  ·exact ⟨v,rfl⟩
  ·rename_i e
   rcases List.mem_cons.mp hn with rfl | hn
   ·simp at e
   ·exact zCZ hn (by simpa using h)
theorem zFt {β:Type}:∀ {ps:List Str} {vs:List β},ps.Nodup->vs.length=ps.length->(ps.filterMap fun n=>((ps.zip vs).lookup n).map (n,·))=ps.zip vs
 | [],vs,_,_=>by simp
 | p :: ps,[],_,h=>by simp at h
 | p :: ps,v :: vs,hn,h=>by
  have hn':=List.nodup_cons.mp hn
  rw [List.zip_cons_cons,List.filterMap_cons]
  simp only [List.lookup_cons,beq_self_eq_true,Option.map_some]
  have key:∀ l:List Str,(∀ n ∈ l,n ≠ p)->(l.filterMap fun n=>(match n==p with | true=>some v | false=>(ps.zip vs).lookup n).map (n,·))=l.filterMap fun n=>((ps.zip vs).lookup n).map (n,·):=by
   intro l hl
   induction l with
   | nil=>rfl
   | cons n l ih =>
    have hne:(n==p)=false:=by simpa using hl n List.mem_cons_self
    rw [List.filterMap_cons,List.filterMap_cons,ih fun n hm=>hl n (List.mem_cons_of_mem _ hm),hne]
  exact congrArg _ ((key ps fun n hm e=>hn'.1 (e ▸ hm)).trans (zFt hn'.2 (by simpa using h)))
noncomputable def zNR (n:Nat):List Value:=List.drop (([]:List Value).length - n) []
theorem zHe (n:Nat):zNR n=[]:=List.drop_nil
theorem zMs {fd:FuncData} {as:List Arg} {ps:List Str} {vals:List Value} (hp:fd.params=⟨[],as,none,[],[],none,[]⟩) (h1:fd.defaults=.none) (h2:fd.kwdefaults=.none) (hps:as.map (·.arg)=ps) (hgt:¬ ((decide (vals.length > ps.length)&&true)=true))
  (hm:¬ ((!(List.filter (fun n=>((ps.zip vals).lookup n).isNone) (List.take (ps.length - (zNR ps.length).length) ps)).isEmpty)=true))
  (hz:(ps.drop (ps.length - (zNR ps.length).length)).zip (zNR ps.length)=[]) {r:List (Str × Value)} (hr:(ps++[]).filterMap (fun n=>((ps.zip vals).lookup n).map (n,·))=r) :
  bindArgs fd ⟨vals,[]⟩=pure r:=by
 cases hps
 cases fd
 cases hp
 cases h1
 cases h2
 refine (if_neg hgt).trans ((if_neg hm).trans ?_)
 exact Eq.trans (congrArg (fun l=>(forIn l _ _:Sem _) >>= _) hz) (congrArg (fun x=>(pure x:Sem (List (Str × Value)))) hr)
theorem zKj {fd:FuncData} {as:List Arg} (hp:fd.params=⟨[],as,none,[],[],none,[]⟩) (h1:fd.defaults=.none) (h2:fd.kwdefaults=.none) (hn:(as.map (·.arg)).Nodup) (vals:List Value) (hl:vals.length=(as.map (·.arg)).length) :
  bindArgs fd ⟨vals,[]⟩=pure ((as.map (·.arg)).zip vals):=by
 refine zMs hp h1 h2 rfl (by rw [hl,Bool.and_true,decide_eq_true_iff]; exact Nat.lt_irrefl _) ?_ (by rw [zHe]; exact List.zip_nil_right) (by rw [List.append_nil]; exact zFt hn hl)
 rw [zHe,List.length_nil,Nat.sub_zero,List.take_length]
 have:((as.map (·.arg)).filter fun n=>(((as.map (·.arg)).zip vals).lookup n).isNone)=[]:=by
  rw [List.filter_eq_nil_iff]
  intro n hm
  obtain ⟨v,e⟩:=zCZ hm hl
  rw [e]; exact Bool.false_ne_true
 rw [this]; exact Bool.false_ne_true
noncomputable def zHU (C:Ctx) (ds:List DefRec):Bool:=C.fns.all fun q=>C.fns.find? (fun r=>r.2==q.2)==some q&&ds.any (fun d=>d.name==q.1)
noncomputable def zBg (C:Ctx) (ms:List MethRec):Bool:=C.meths.all fun q=>C.fns.find? (fun r=>r.2==q.2)==none&&C.meths.find? (fun r=>r.2==q.2)==some q&&ms.any (fun d=>d.name==q.1)
theorem zEB {a:Arguments} (h:zA1 a=true):a=⟨[],a.args,none,[],[],none,[]⟩:=by
 obtain ⟨a1,a2,a3,a4,a5,a6,a7⟩:=a
 unfold zA1 at h
 simp only [Bool.and_eq_true,List.isEmpty_iff,Option.isNone_iff_eq_none] at h
 obtain ⟨⟨⟨⟨⟨rfl,rfl⟩,rfl⟩,rfl⟩,rfl⟩,rfl⟩:=h
 rfl
theorem zG9 {α:Type} (nm:α->Str) {d d':α} (hn:nm d'=nm d):∀ l:List α,(l.map nm).Nodup->d' ∈ l->d ∈ l->d'=d:=by
 intro l
 induction l with
 | nil=>intro _ h; cases h
 | cons x l ih =>
  intro hnd h1 h2
  have hnd':=List.nodup_cons.mp hnd
  rcases List.mem_cons.mp h1 with rfl | h1' <;> rcases List.mem_cons.mp h2 with rfl | h2'
  ·rfl
  ·exact (hnd'.1 (by rw [hn]; exact List.mem_map_of_mem (f:=nm) h2')).elim
  ·exact (hnd'.1 (by rw [<- hn]; exact List.mem_map_of_mem (f:=nm) h1')).elim
  ·exact ih hnd'.2 h1' h2'
section
variable {p:Program} {loose:List Str} {mean:ExcName->Option Value} {mg mb mN:Str->Option Value} {S:zQ} {C:Ctx} {tab tF tM:List (Nat × Fn)} {c:ClsRec} {Cb N:Addr}
theorem zEv {k:Nat} {fn:Fn} {o:Obj} {fd:FuncData} {params:Arguments} {body:List Stmt} {scope:Scope} (hr:zHp C params body scope=some fn) (e2:S.hb.get? (S.fn k)=some o) (e3:o.data=.func fd)
  (h1:fd.params=params) (h2:fd.body=.stmts body) (h3:fd.scope=scope) (h4:fd.closure=[]) (h5:fd.globals=mainGlobals) (h6:fd.builtins=builtinsNs) (h7:fd.defaults=.none) (h8:fd.kwdefaults=.none) (e4:S.hb.CodeRec fd.code fd.qualname):zFu S C k fn:=by
 subst h1 h3
 unfold zHp at hr
 by_cases hc:zGi fd.params fd.scope=true
 case neg=>rw [if_neg hc] at hr; first | exact zB hr | exact zF hr | cases hr
 rw [if_pos hc] at hr
 cases hr
 unfold zGi at hc
 simp only [Bool.and_eq_true,Bool.not_eq_true',beq_iff_eq,decide_eq_true_eq] at hc
 obtain ⟨⟨⟨⟨⟨⟨⟨c0,c1⟩,c2⟩,c3⟩,c4⟩,c5⟩,c6⟩,c7⟩:=hc
 refine ⟨o,fd,body,fd.params.args.map (·.arg),e2,e3,h2,h4,h5,h6,e4,c1,c2,c3,fun vals hv=>zKj (zEB c0) h7 h8 c4 vals hv,c4,fun q hq=>?_,fun q hq=>?_,c7,rfl,rfl,rfl⟩
 ·have:=List.all_eq_true.mp c5 q hq
  exact (Bool.or_eq_true_iff.mp this).imp eq_of_beq eq_of_beq
 ·intro e
  have:=List.any_eq_false.mp c6 q hq
  rw [e] at this
  exact this rfl
theorem zOL (T:Top p loose mean mg mb S.hb) (hf:zHU C (recsOf p)=true) (hS:S.fn=xp C mg mN) {x:Str} {k:Nat} (h:C.fns.lookup x=some k) :
  ∃ d ∈ recsOf p,d.name=x /\ ∃ o pm code doc,mg x=some (.ref (S.fn k)) /\ S.hb.get? (S.fn k)=some o /\ o.data=.func (Calls.docDef d.name d.params d.body d.scope pm code doc) /\ S.hb.CodeRec code d.name:=by
 have hm:=zU h
 have:=List.all_eq_true.mp hf _ hm
 simp only [Bool.and_eq_true,beq_iff_eq] at this
 obtain ⟨h1,h2⟩:=this
 obtain ⟨d,hd,hn⟩:=List.any_eq_true.mp h2
 obtain rfl:=eq_of_beq hn
 obtain ⟨a,o,pm,code,doc,e1,e2,e3,e4⟩:=T.fn d hd
 have ha:S.fn k=a:=by rw [hS,xp,h1]; show zFP _=_; rw [e1]; rfl
 rw [ha]
 exact ⟨d,hd,rfl,o,pm,code,doc,e1,e2,e3,e4⟩
theorem zNB (T:Top p loose mean mg mb S.hb) (hf:zHU C (recsOf p)=true) (hS:S.fn=xp C mg mN) (hone:((recsOf p).map (·.name)).Nodup) (htab:zRc C (recsOf p)=some tF):∀ k fn,(k,fn) ∈ tF->zFu S C k fn:=by
 intro k fn hk
 obtain ⟨d,hd,e⟩:=zCB htab hk
 replace e:=bind_some e
 obtain ⟨k',hl,e⟩:=e
 replace e:=map_some e
 obtain ⟨f,hr,e⟩:=e
 cases e
 obtain ⟨d',hd',hn,o,pm,code,doc,-,e2,e3,e4⟩:=zOL T hf hS hl
 obtain rfl:=zG9 (·.name) hn _ hone hd' hd
 exact zEv hr e2 e3 rfl rfl rfl rfl rfl rfl rfl rfl e4
theorem zBf (P:PlainAt S.hb c Cb N mN) (hf:zBg C c.meths=true) (hS:S.fn=xp C mg mN) {x:Str} {k:Nat} (h:C.meths.lookup x=some k) :
  ∃ d ∈ c.meths,d.name=x /\ ∃ o pm code doc,mN x=some (.ref (S.fn k)) /\ S.hb.get? (S.fn k)=some o /\ o.cls=.type "function" /\ o.data=.func (methDef d.name (c.name++"."++d.name) d.params d.body d.scope pm code doc) /\ S.hb.CodeRec code (c.name++"."++d.name):=by
 have hm:=zU h
 have:=List.all_eq_true.mp hf _ hm
 simp only [Bool.and_eq_true,beq_iff_eq] at this
 obtain ⟨⟨h0,h1⟩,h2⟩:=this
 obtain ⟨d,hd,hn⟩:=List.any_eq_true.mp h2
 obtain rfl:=eq_of_beq hn
 obtain ⟨a,o,pm,code,doc,e1,e2,ec,e3,e4⟩:=P.meths d hd
 have ha:S.fn k=a:=by rw [hS,xp,h0,h1]; show zFP _=_; rw [e1]; rfl
 rw [ha]
 exact ⟨d,hd,rfl,o,pm,code,doc,e1,e2,ec,e3,e4⟩
theorem zIl (P:PlainAt S.hb c Cb N mN) (hf:zBg C c.meths=true) (hS:S.fn=xp C mg mN) (hone:(c.meths.map (·.name)).Nodup) (htab:zRd C c.meths=some tM):∀ k fn,(k,fn) ∈ tM->zFu S C k fn:=by
 intro k fn hk
 obtain ⟨d,hd,e⟩:=zCB htab hk
 replace e:=bind_some e
 obtain ⟨k',hl,e⟩:=e
 replace e:=map_some e
 obtain ⟨f,hr,e⟩:=e
 cases e
 obtain ⟨d',hd',hn,o,pm,code,doc,-,e2,-,e3,e4⟩:=zBf P hf hS hl
 obtain rfl:=zG9 (·.name) hn _ hone hd' hd
 exact zEv hr e2 e3 rfl rfl rfl rfl rfl rfl rfl rfl e4
theorem zMt (P:PlainAt S.hb c Cb N mN) (hC:S.book=Cb) (hf:zBg C c.meths=true) (hS:S.fn=xp C mg mN) (hi:C.meths.lookup ("__init__" : Str)=some 0) (hq:zM 0 ∈ c.quiet /\ zM 1 ∈ c.quiet):zDl S C:=by
 subst hC
 obtain ⟨nm,q,bs,sn,sub,col,dd,k0,k1,k2,k3,k5,e⟩:=P.cls.obj
 have q3:∀ n ∈ (["__setattr__","__getattribute__","__getattr__"]:List Str),mN n=none:=fun n hn=>P.quiet n (List.mem_append_left _ hn)
 refine ⟨N,mN,nm,q,bs,sn,sub,col,dd,k0,k1,k2,k3,k5,e,P.cls.ns,⟨q3 _ (by simp),q3 _ (by simp),q3 _ (by simp),P.quiet _ hq.1,P.quiet _ hq.2⟩,?_,?_,fun m k h=>?_⟩
 ·obtain ⟨_,_,_,_,_,_,_,e1,_⟩:=zBf P hf hS hi; exact e1
 ·obtain ⟨_,_,_,o,_,_,_,_,e2,ec,_⟩:=zBf P hf hS hi; exact ⟨o,e2,ec⟩
 ·obtain ⟨_,_,_,o,_,_,_,e1,e2,ec,_⟩:=zBf P hf hS h; exact ⟨e1,o,e2,ec⟩
noncomputable def zLI (p:Program) (loose:List Str) (C:Ctx):Bool:=(b1Names.map (·.1)++b2Names.map (·.1)++kindNames.map (·.1)++[("isinstance" : Str),"range"]).all fun x =>
 (C.fns.lookup x).isSome||(x != ("__name__" : Str)&&!(startupNames.contains x||loose.contains x||((recsOf p).map (·.name)).contains x||((litsOf p).map (·.1)).contains x||((clssOf p loose).map (·.name)).contains x))
theorem zLF (T:Top p loose mean mg mb S.hb) (hf:zHU C (recsOf p)=true) (hS:S.fn=xp C mg mN) (hfree:zLI p loose C=true)
  (hconst:∀ x v,C.consts.lookup x=some v->∃ w,mg x=some w /\ VR S [] [] S.hb v w) (hbook:C.book=true->mg "Book"=some (.ref S.book)) (hB:(C.book=false /\ C.meths=[] /\ C.attrs=[]) \/ (C.attrs=attrNames /\ zDl S C))
  (hexc:∀ x c,C.excs.lookup x=some c->(mg x=some (S.cl c)) \/ (mg x=none /\ mb x=some (S.cl c))) (hcl:∀ x c,C.excs.lookup x=some c->c ∈ S.kn /\ (x ≠ ("ValueError" : Str)->zBm S c))
  (hparts:ww S S.hb) (hpn:S.parts ≠ .none) (fa:∀ k fn,tab.lookup k=some fn->zFu S C k fn):zb S C (fun k=>tab.lookup k):=by
 refine ⟨⟨mg,mb,T.g,T.b,hconst,fun x k h=>?_,fun x hx hn=>?_,hbook,hexc⟩,T.nolimit,hB,hcl,hparts,hpn,fun k fn h=>?_⟩
 ·obtain ⟨_,_,_,_,_,_,_,e,_⟩:=zOL T hf hS h
  exact e
 ·have hm:x ∈ b1Names.map (·.1)++b2Names.map (·.1)++kindNames.map (·.1)++[("isinstance" : Str),"range"]:=by
   simp only [List.mem_append,List.mem_cons,List.not_mem_nil,or_false]
   rcases hx with h | h | h | h | h
   ·exact .inl (.inl (.inl h))
   ·exact .inl (.inl (.inr h))
   ·exact .inl (.inr h)
   ·exact .inr (.inl h)
   ·exact .inr (.inr h)
  have:=List.all_eq_true.mp hfree x hm
  rw [hn] at this
  simp only [Option.isSome_none,Bool.false_or,Bool.and_eq_true,bne_iff_ne,ne_eq,Bool.not_eq_true',Bool.or_eq_false_iff] at this
  obtain ⟨h0,⟨⟨⟨h1,h2⟩,h3⟩,h4⟩,h5⟩:=this
  have no:∀ {l:List Str},l.contains x=false->x ∉ l:=fun h hm=>by rw [List.contains_iff_mem.mpr hm] at h; cases h
  exact ⟨T.free x (no h1) (no h2) (no h3) (no h4) (no h5),T.builtins x h0⟩
 ·obtain ⟨o,fd,_,_,h1,h2,_⟩:=fa k fn h
  exact ⟨o,fd,h1,h2⟩
theorem zH8 {P:Params} {a:Addr} {ns:List Int} (W:Well P S.hb (.ref a) (ofPy (.list (ns.map PyData.int)))) (hl:ns.length <= LIM):VR S [] [] S.hb (.lst (ns.map V.int)) (.ref a):=by
 have key:∀ {vs:List Value} {l:List Int},WellAll P S.hb vs (ofPys (l.map PyData.int))->VRs S [] [] S.hb (l.map V.int) vs:=by
  intro vs l
  induction l generalizing vs with
  | nil=>intro h; cases h; rw [List.map_nil]; exact True.intro
  | cons n l ih =>
   intro h
   cases h with
   | cons h1 h2 =>
    cases h1
    rw [List.map_cons]
    exact ⟨⟨_,rfl⟩,ih h2⟩
 cases W with
 | list h1 h2 =>
  exact ⟨a,_,_,rfl,⟨by simp [addrs],by simp⟩,h1,key h2,by simpa using hl⟩
theorem zLT (fs:zb S C (fun k=>tab.lookup k)) (cl:Clean C) (fa:∀ k fn,tab.lookup k=some fn->zFu S C k fn) {s₁:Shared} (hS:S.hb=s₁.heap) {ns:List Int} {a:Addr} {k d:Nat} (hd:d <= 100)
  (hv:VR S [] [] S.hb (.lst (ns.map V.int)) (.ref a)) (hres:∃ J',zA (fun k=>tab.lookup k) d false k [.lst (ns.map V.int)] []=.ok (.bool true) J') :
  codeAny (model S.prog S.w) callerA (.call (.ref (S.fn k)) ⟨[.ref a],[]⟩) (fun r s'=>r=.ok (.ret (.bool true)) /\ (∀ b o,s₁.heap.get? b=some o->s'.heap.get? b=some o) /\ s'.os=s₁.os /\ s'.gens=s₁.gens) s₁:=by
 obtain ⟨J',hres⟩:=hres
 have L:Lk S [] [] [] s₁.heap:=⟨fun b o h=>hS ▸ h,rfl,.nil,(fun a h=>nomatch h),(fun a h=>nomatch h),fun i l o h=>by simp at h⟩
 have cx:CxC S callerA false d [] s₁.heap:=⟨by show 1+claimMargin+2 * d+2 <= 900; simp only [claimMargin]; omega,by show 4+5 * d+200 <= 9900; omega,fun _=>rfl,[],rfl,fun _ h=>nomatch h⟩
 have:=(jE fs cl fa d false k [.lst (ns.map V.int)] [] [] [] callerA s₁ [.ref a] cx L (⟨hS ▸ hv,trivial⟩) (by rw [hres]; simp)).2
 refine codeAny_mono this fun r s' h=>?_
 match r,h with
 | .ok (.ret v),h =>
  obtain ⟨b,J'',g,e,hg,kp,L',p⟩:=h
  rw [hres] at e
  cases e
  have hv:v=.bool true:=by have:VR _ _ _ _ _ _:=p; exact this
  refine ⟨by rw [hv],fun b o h=>L'.base b o (hS ▸ h),?_,?_⟩
  ·rw [kp.rest]
  ·rw [kp.rest]
 | .error e,h =>
  obtain ⟨c,J'',g,ea,e1,e2,hgE,kE,LE,xE⟩:=h
  rw [hres] at e2
  cases e2
end
theorem zGN (l:OpenLaw) (args:List WData) (cls:ExcName):l.row.claim.raises args cls=false:=rfl
theorem zLU (l:OpenLaw) (args:List WData):l.row.claim.post args (.bool true) args=true:=
 postW_of (X:=true) (by rfl) (by wtm_val) rfl
theorem law_good (l:OpenLaw) {args:List WData} {c:Str->Option Addr} {mean:ExcName->Option Value} {s₁ s':Shared} (hk:∀ b o,s₁.heap.get? b=some o->s'.heap.get? b=some o) (hos:s'.os=s₁.os) (hg:s₁.gens=#[]) (hgs:s'.gens=s₁.gens) :
  GoodWG l.row.claim c mean args s₁ (.ok (.ret (.bool true))) s':=
 ⟨.inl ⟨_,.bool true,[],rfl,zGN l args,.bool true,zLU l args,fun _=>⟨.nil,fun _ h=>nomatch h⟩⟩,.of_keep hk,hos,fun y hy=>by rw [hgs,hg] at hy; simp at hy⟩
end Mine
end

section
namespace Mine
open PySem
noncomputable def zLH:Option CS->List CS
 | some (.for _ _ _ b)=>b
 | _=>[]
section
variable {F Fq:Calls} {q:Bool} {H H':List V} {J J' J1 J2 J3:Sto} {rest A B:List CS} {r:R Fl} {v x y z:V} {c e a b:CE} {i:Nat}
@[simp] theorem zQU (v:V):zCq (.ret v) J=.ok v J:=rfl
@[simp] theorem zPV:zCq (.next H) J=.ok .none J:=rfl
noncomputable def zCU (F Fq:Calls) (q:Bool) (ss:List CS) (fl:Fl) (J:Sto):R Fl:=
 match fl with
 | .next H=>exL F Fq q ss H J
 | .ret v=>.ok (.ret v) J
theorem yI (s:CS):exL F Fq q (s :: rest) H J=(exS F Fq q s H J).bind (zCU F Fq q rest):=by
 rw [zH6]
 cases exS F Fq q s H J with
 | ok fl J=>cases fl <;> rfl
 | _=>rfl
theorem jJ:∀ (A rest:List CS) (H:List V) (J:Sto),exL F Fq q (A++rest) H J=(exL F Fq q A H J).bind (zCU F Fq q rest)
 | [],_,_,_=>rfl
 | s :: A,rest,H,J=>by
  rw [List.cons_append,yI,yI]
  cases exS F Fq q s H J with
  | ok fl J =>
   cases fl with
   | next H=>exact jJ A rest H J
   | ret v=>rfl
  | _=>rfl
theorem zL (h:evE F q e H J=.ok v J') (k:exL F Fq q rest (H.set i v) J'=r):exL F Fq q (.asg i e :: rest) H J=r:=by
 rw [yI,zMW,h]; exact k
theorem ym (h:evE F q e H J=.ok v J') (k:exL F Fq q rest H J'=r):exL F Fq q (.exp e :: rest) H J=r:=by
 rw [yI,zMZ,h]; exact k
theorem zA2 {c:Cls} (h:evE F q e H J=.exc c J'):exL F Fq q (.exp e :: rest) H J=.exc c J':=by
 rw [yI,zMZ,h]; rfl
theorem zH (h:evE F q e H J=.ok v J'):exL F Fq q (.ret e :: rest) H J=.ok (.ret v) J':=by
 rw [yI,zMd,h]; rfl
theorem zA3 {c:Cls} (h:evE F q e H J=.exc c J'):exL F Fq q (.ret e :: rest) H J=.exc c J':=by
 rw [yI,zMd,h]; rfl
theorem s_t (h:evC F q (some c) H J=.ok true J') (k:exL F Fq q (A++rest) H J'=r):exL F Fq q (.ite c A B :: rest) H J=r:=by
 rw [jJ] at k
 rw [yI,zMa]
 rw [zBk] at h
 cases hc:evE F q c H J with
 | ok v J1 =>
  rw [hc,R.bind_ok] at h
  rw [R.bind_ok]
  cases ht:truthy J1 v with
  | none=>rw [ht] at h; cases h
  | some t=>rw [ht] at h; cases h; exact k
 | exc _ _=>rw [hc] at h; cases h
 | stuck=>rw [hc] at h; cases h
theorem s_f (h:evC F q (some c) H J=.ok false J') (k:exL F Fq q (B++rest) H J'=r):exL F Fq q (.ite c A B :: rest) H J=r:=by
 rw [jJ] at k
 rw [yI,zMa]
 rw [zBk] at h
 cases hc:evE F q c H J with
 | ok v J1 =>
  rw [hc,R.bind_ok] at h
  rw [R.bind_ok]
  cases ht:truthy J1 v with
  | none=>rw [ht] at h; cases h
  | some t=>rw [ht] at h; cases h; exact k
 | exc _ _=>rw [hc] at h; cases h
 | stuck=>rw [hc] at h; cases h
theorem zOd:exL F Fq q [] H J=.ok (.next H) J:=rfl
theorem xU {o i v:CE} {a b x:V} (hv:evE F q v H J=.ok x J1) (ho:evE F q o H J1=.ok a J2) (hi:evE F q i H J2=.ok b J3) (h:xP J3 a b x=.ok () J') (k:exL F Fq q rest H J'=r):exL F Fq q (.setItem o i v :: rest) H J=r:=by
 rw [yI,zDj,hv,R.bind_ok,ho,R.bind_ok,hi,R.bind_ok,h]; exact k
theorem zR3 {t:Bool} (h:evE F q c H J=.ok v J') (ht:truthy J' v=some t):evC F q (some c) H J=.ok t J':=by
 rw [zBk,h,R.bind_ok,ht]; rfl
theorem zC {t:Bool} (h:evE F q c H J=.ok (.bool t) J'):evC F q (some c) H J=.ok t J':=zR3 h rfl
theorem zV {o:P1} (ha:evE F q a H J=.ok x J1) (h:ev1 o J1 x=some z) (hl:(jB o&&q)=false:=by rfl):evE F q (.p1 o a) H J=.ok z J1:=by
 rw [zKS,hl,ha,R.bind_ok,h]; rfl
theorem zE {o:P2} (ha:evE F q a H J=.ok x J1) (hb:evE F q b H J1=.ok y J2) (h:ev2 o J2 x y=some z) (hl:(vK o&&q)=false:=by rfl):evE F q (.p2 o a b) H J=.ok z J2:=by
 rw [zMc,hl,ha,R.bind_ok,hb,R.bind_ok,h]; rfl
theorem yP (ha:evE F q a H J=.ok x J1) (ht:truthy J1 x=some false):evE F q (.and a b) H J=.ok x J1:=by
 rw [zH3,ha,R.bind_ok,ht]; rfl
theorem yJ {r:R V} (ha:evE F q a H J=.ok x J1) (ht:truthy J1 x=some true) (hb:evE F q b H J1=r):evE F q (.and a b) H J=r:=by
 rw [zH3,ha,R.bind_ok,ht]; exact hb
theorem xX (ha:evE F q a H J=.ok x J1) (ht:truthy J1 x=some true):evE F q (.or a b) H J=.ok x J1:=by
 rw [zNy,ha,R.bind_ok,ht]; rfl
theorem zW {r:R V} (ha:evE F q a H J=.ok x J1) (ht:truthy J1 x=some false) (hb:evE F q b H J1=r):evE F q (.or a b) H J=r:=by
 rw [zNy,ha,R.bind_ok,ht]; exact hb
theorem zI {f:Nat} {args:List CE} {vs:List V} {r:R V} (ha:evL F q args H J=.ok vs J1) (h:F f vs J1=r):evE F q (.call f args) H J=r:=by
 rw [zMY,ha]; exact h
theorem zd {f:Nat} {args:List CE} {vs:List V} {r:R V} (ho:evE F q a H J=.ok x J1) (hi:isInst J1 x=true) (ha:evL F q args H J1=.ok vs J2) (h:F f (x :: vs) J2=r):evE F q (.callm f a args) H J=r:=by
 rw [zEL,ho,R.bind_ok,if_pos hi,ha]; exact h
theorem zD {es:List CE} {vs:List V} (h:evE F q e H J=.ok v J1) (hs:evL F q es H J1=.ok vs J2):evL F q (e :: es) H J=.ok (v :: vs) J2:=by
 rw [jT,h,R.bind_ok,hs]; rfl
theorem yk {es:List CE} {vs:List V} (h:evL F q es H J=.ok vs J1):evE F q (.tup es) H J=.ok (.tup vs) J1:=by rw [zMe,h]; rfl
theorem jI {es:List CE} {vs:List V} (h:evL F q es H J=.ok vs J1):evE F q (.list es) H J=.ok (.lst vs) J1:=by rw [zMb,h]; rfl
theorem zKz {k:Nat} (h:evE F q a H J=.ok x J1) (hv:zAS J1 x k=some v):evE F q (.attr a k) H J=.ok v J1:=by
 rw [zMX,h,R.bind_ok,hv]; rfl
theorem zp (hl:evE F q a H J=.ok x J1) (hi:xx J1 x=true) (hx:evE F q b H J1=.ok y J2) (h:wI J2 x y=.ok v J'):evE F q (.append a b) H J=.ok v J':=by
 rw [zCX,hl,R.bind_ok,if_pos hi,hx]; exact h
end
section
variable {T:Nat->Option Fn} {d k:Nat} {q:Bool} {fn:Fn} {args:List V} {J J':Sto}
theorem zS {c:Cls} (h:T k=some fn) (hl:args.length=fn.params) (hx:exL (zA T d q) (zA T d true) q fn.body (args++List.replicate (fn.slots - fn.params) .undef) J=.exc c J'):zA T (d+1) q k args J=.exc c J':=by
 rw [vO,h]; simp only [hl,if_true,hx]; rfl
theorem xg {H:List V} (h:T k=some fn) (hl:args.length=fn.params) (hx:exL (zA T d q) (zA T d true) q fn.body (args++List.replicate (fn.slots - fn.params) .undef) J=.ok (.next H) J'):zA T (d+1) q k args J=.ok .none J':=by
 rw [vO,h]; simp only [hl,if_true,hx]; rfl
end
end Mine
end

section
namespace Mine
open PySem
noncomputable def tr (t:Bool) (e:CE):CE:=match t with
 | true=>.trk e
 | false=>e
noncomputable def zOG:Fn:={ params:=3,slots:=3,body:=[.ret (.p2 .fdiv (.p2 .mul (.var 0) (.var 1)) (.var 2))] }
noncomputable def zLE:Fn:={ params:=1,slots:=1,body:=[.ite (.or (.p1 .not (.p1 (.isInst .str) (.var 0))) (.p1 .not (.chain (.lit (.int 1)) [.le,.le] [.p1 .len (.var 0),.lit (.int 12)]))) [.ret (.lit (.bool false))] [],.ret (.p1 .all (.comp (.p2 .isIn (.var 1) (.lit (.str { cps:=#[97,98,99,100,101,102,103,104,105,106,107,108,109,110,111,112,113,114,115,116,117,118,119,120,121,122] }))) .val [.var 0] none))] }
noncomputable def fB_22:Fn:={ params:=1,slots:=2,body:=[.ite (.p1 .not (.chain (.lit (.int 1)) [.le,.le] [.p1 .len (.var 0),.lit (.int 20)])) [.raise (.NoLines)] [],.for 1 .val [.var 0] [.ite (.p1 .not (.call 21 [.p2 .index (.var 1) (.lit (.int 0))])) [.raise (.NoItem)] [],.ite (.or (.p1 .not (.chain (.lit (.int 1)) [.le,.le] [.p2 .index (.var 1) (.lit (.int 1)),.lit (.int 1000000)])) (.or (.p1 .not (.chain (.lit (.int 0)) [.le,.le] [.p2 .index (.var 1) (.lit (.int 2)),.lit (.int 1000000000)])) (.p1 .not (.chain (.lit (.int 1)) [.le,.le] [.p2 .index (.var 1) (.lit (.int 3)),.lit (.int 1000)])))) [.raise (.NoNumber)] []]] }
noncomputable def zOH:Fn:={ params:=1,slots:=1,body:=[.ret (.tup [.p2 .index (.var 0) (.lit (.int 0)),.p2 .index (.var 0) (.lit (.int 1)),.p2 .index (.var 0) (.lit (.int 2)),.p2 .index (.var 0) (.lit (.int 3)),.lit (.int 0),.lit (.int 0),.lit (.int 0),.lit (.int 0)])] }
noncomputable def zOI:Fn:={ params:=1,slots:=1,body:=[.ret (.p2 .sub (.call 20 [.p2 .sub (.p2 .index (.var 0) (.lit (.int 4))) (.p2 .index (.var 0) (.lit (.int 5))),.p2 .index (.var 0) (.lit (.int 2)),.p2 .index (.var 0) (.lit (.int 3))]) (.p2 .index (.var 0) (.lit (.int 7))))] }
noncomputable def zOJ:Fn:={ params:=2,slots:=2,body:=[.ite (.p2 .eq (.var 0) (.lit (.str { cps:=#[100,101,108,105,118,101,114] }))) [.ret (.p2 .add (.p2 .sub (.p2 .index (.var 1) (.lit (.int 1))) (.p2 .index (.var 1) (.lit (.int 4)))) (.p2 .index (.var 1) (.lit (.int 6))))] [],.ite (.p2 .eq (.var 0) (.lit (.str { cps:=#[99,114,101,100,105,116] }))) [.ret (.call 24 [.var 1])] [],.ret (.p2 .sub (.p2 .index (.var 1) (.lit (.int 4))) (.p2 .index (.var 1) (.lit (.int 5))))] }
noncomputable def zOK:Fn:={ params:=3,slots:=7,body:=[.asg 3 (.p2 .index (.var 1) (.lit (.int 4))),.asg 4 (.p2 .index (.var 1) (.lit (.int 5))),.asg 5 (.p2 .index (.var 1) (.lit (.int 6))),.asg 6 (.p2 .index (.var 1) (.lit (.int 7))),.ite (.p2 .eq (.var 0) (.lit (.str { cps:=#[100,101,108,105,118,101,114] }))) [.asg 3 (.p2 .add (.var 3) (.var 2))] [.ite (.p2 .eq (.var 0) (.lit (.str { cps:=#[99,114,101,100,105,116] }))) [.asg 6 (.p2 .add (.var 6) (.var 2))] [.asg 4 (.p2 .add (.var 4) (.var 2)),.ite (.p2 .eq (.var 0) (.lit (.str { cps:=#[115,119,97,112] }))) [.asg 5 (.p2 .add (.var 5) (.var 2))] [],.asg 6 (.p2 .min (.var 6) (.call 20 [.p2 .sub (.var 3) (.var 4),.p2 .index (.var 1) (.lit (.int 2)),.p2 .index (.var 1) (.lit (.int 3))]))]],.ret (.p2 .add (.slice (.var 1) none (some (.lit (.int 4)))) (.tup [.var 3,.var 4,.var 5,.var 6]))] }
noncomputable def zQy:Fn:={ params:=1,slots:=1,body:=[.setAttr (.var 0) 0 (.trk (.list [])),.setAttr (.var 0) 1 (.trk (.list []))] }
noncomputable def zQz:Fn:={ params:=2,slots:=2,body:=[.ite (.p1 .not (.chain (.lit (.int 0)) [.le,.lt] [.var 1,.p1 .len (.attr (.var 0) 0)])) [.raise (.NoOrder)] []] }
noncomputable def fB_2:Fn:={ params:=2,slots:=2,body:=[.ite (.or (.p2 .eq (.p1 .len (.var 1)) (.lit (.int 0))) (.or (.p2 .notIn (.p2 .index (.var 1) (.lit (.int 0))) (.lit (.parts))) (.p2 .ne (.p1 .len (.var 1)) (.p2 .index (.lit (.parts)) (.p2 .index (.var 1) (.lit (.int 0))))))) [.raise (.NoDeed)] [],.ite (.p2 .eq (.p2 .index (.var 1) (.lit (.int 0))) (.lit (.str { cps:=#[111,114,100,101,114] }))) [.ret (.callm 3 (.var 0) [.p2 .index (.var 1) (.lit (.int 1))])] [],.exp (.callm 4 (.var 0) [.var 1]),.ret (.callm 6 (.var 0) [.var 1])] }
noncomputable def zQ1 (t:Bool):Fn:={ params:=2,slots:=2,body:=[.exp (.call 22 [.var 1]),.ite (.p2 .ge (.p1 .len (.attr (.var 0) 0)) (.lit (.int 40))) [.raise (.FullBook)] [],.exp (.append (.attr (.var 0) 0) (.tup [.p1 .toTup (.comp (.call 23 [.var 2]) .val [.var 1] none),.lit (.int 0),.tup []])),.exp (.append (.attr (.var 0) 1) (.tup [.tup [.lit (.str { cps:=#[111,114,100,101,114] }),.p1 .toList (.var 1)],.dict0])),.ret (tr t (.list []))] }
noncomputable def fB_4:Fn:={ params:=2,slots:=2,body:=[.exp (.callm 1 (.var 0) [.p2 .index (.var 1) (.lit (.int 1))]),.ite (.p2 .eq (.p2 .index (.var 1) (.lit (.int 0))) (.lit (.str { cps:=#[109,111,118,101] }))) [.exp (.callm 1 (.var 0) [.p2 .index (.var 1) (.lit (.int 2))]),.ite (.p2 .eq (.p2 .index (.var 1) (.lit (.int 1))) (.p2 .index (.var 1) (.lit (.int 2)))) [.raise (.SameOrder)] []] [],.ite (.and (.p2 .isIn (.p2 .index (.var 1) (.lit (.int 0))) (.lit (.tup [.str { cps:=#[100,101,108,105,118,101,114] },.str { cps:=#[98,97,99,107] },.str { cps:=#[115,119,97,112] },.str { cps:=#[99,114,101,100,105,116] }]))) (.p1 .not (.chain (.lit (.int 0)) [.le,.lt] [.p2 .index (.var 1) (.lit (.int 2)),.p1 .len (.p2 .index (.p2 .index (.attr (.var 0) 0) (.p2 .index (.var 1) (.lit (.int 1)))) (.lit (.int 0)))]))) [.raise (.NoLine)] [],.ite (.p2 .lt (.p2 .index (.var 1) (.p1 .neg (.lit (.int 1)))) (.lit (.int 1))) [.raise (.NoNumber)] [],.ite (.and (.p2 .ne (.p2 .index (.var 1) (.lit (.int 0))) (.lit (.str { cps:=#[112,97,121] }))) (.p2 .gt (.p2 .index (.var 1) (.p1 .neg (.lit (.int 1)))) (.callm 5 (.var 0) [.var 1]))) [.raise (.TooMuch)] []] }
noncomputable def zQ2:Fn:={ params:=2,slots:=2,body:=[.ite (.p2 .isIn (.p2 .index (.var 1) (.lit (.int 0))) (.lit (.tup [.str { cps:=#[100,101,108,105,118,101,114] },.str { cps:=#[98,97,99,107] },.str { cps:=#[115,119,97,112] },.str { cps:=#[99,114,101,100,105,116] }]))) [.ret (.call 25 [.p2 .index (.var 1) (.lit (.int 0)),.p2 .index (.p2 .index (.p2 .index (.attr (.var 0) 0) (.p2 .index (.var 1) (.lit (.int 1)))) (.lit (.int 0))) (.p2 .index (.var 1) (.lit (.int 2)))])] [],.ret (.p2 .sub (.lit (.int 0)) (.callm 13 (.var 0) [.p2 .index (.var 1) (.lit (.int 1))]))] }
noncomputable def zQ3 (t:Bool):Fn:={ params:=2,slots:=5,body:=[.asg 2 (.p2 .index (.var 1) (.lit (.int 0))),.asg 3 (.p2 .index (.var 1) (.p1 .neg (.lit (.int 1)))),.asg 4 (.dict1 (.p2 .index (.var 1) (.lit (.int 1))) (.p2 .index (.attr (.var 0) 0) (.p2 .index (.var 1) (.lit (.int 1))))),.ite (.p2 .eq (.var 2) (.lit (.str { cps:=#[109,111,118,101] }))) [.setItem (.var 4) (.p2 .index (.var 1) (.lit (.int 2))) (.p2 .index (.attr (.var 0) 0) (.p2 .index (.var 1) (.lit (.int 2))))] [],.exp (.append (.attr (.var 0) 1) (.tup [.var 1,.var 4])),.ite (.p2 .eq (.var 2) (.lit (.str { cps:=#[109,111,118,101] }))) [.ret (tr t (.list [.callm 7 (.var 0) [.p2 .index (.var 1) (.lit (.int 1)),.var 2,.p2 .sub (.lit (.int 0)) (.var 3)],.callm 7 (.var 0) [.p2 .index (.var 1) (.lit (.int 2)),.var 2,.var 3]]))] [],.ite (.p2 .eq (.var 2) (.lit (.str { cps:=#[112,97,121] }))) [.ret (tr t (.list [.callm 7 (.var 0) [.p2 .index (.var 1) (.lit (.int 1)),.var 2,.var 3]]))] [],.ite (.p2 .eq (.var 2) (.lit (.str { cps:=#[114,101,102,117,110,100] }))) [.ret (tr t (.list [.callm 7 (.var 0) [.p2 .index (.var 1) (.lit (.int 1)),.var 2,.p2 .sub (.lit (.int 0)) (.var 3)]]))] [],.ret (tr t (.list [.callm 8 (.var 0) [.p2 .index (.var 1) (.lit (.int 1)),.p2 .index (.var 1) (.lit (.int 2)),.var 2,.var 3]]))] }
noncomputable def zQ4:Fn:={ params:=4,slots:=5,body:=[.asg 4 (.p2 .index (.attr (.var 0) 0) (.var 1)),.setItem (.attr (.var 0) 0) (.var 1) (.tup [.p2 .index (.var 4) (.lit (.int 0)),.p2 .add (.p2 .index (.var 4) (.lit (.int 1))) (.var 3),.p2 .add (.p2 .index (.var 4) (.lit (.int 2))) (.tup [.tup [.var 2,.p2 .sub (.lit (.int 0)) (.var 3)]])]),.ret (.tup [.var 1,.p2 .sub (.lit (.int 0)) (.var 3)])] }
noncomputable def zQ5:Fn:={ params:=5,slots:=10,body:=[.asg 5 (.p2 .index (.attr (.var 0) 0) (.var 1)),.asg 6 (.p2 .index (.p2 .index (.var 5) (.lit (.int 0))) (.var 2)),.asg 7 (.call 26 [.var 3,.var 6,.var 4]),.asg 8 (.p2 .sub (.call 24 [.var 7]) (.call 24 [.var 6])),.asg 9 (.p2 .add (.p2 .add (.slice (.p2 .index (.var 5) (.lit (.int 0))) none (some (.var 2))) (.tup [.var 7])) (.slice (.p2 .index (.var 5) (.lit (.int 0))) (some (.p2 .add (.var 2) (.lit (.int 1)))) none)),.setItem (.attr (.var 0) 0) (.var 1) (.tup [.var 9,.p2 .index (.var 5) (.lit (.int 1)),.p2 .add (.p2 .index (.var 5) (.lit (.int 2))) (.tup [.tup [.var 3,.var 8]])]),.ret (.tup [.var 1,.var 8])] }
noncomputable def zOD:Fn:={ params:=1,slots:=1,body:=[.ret (.p1 .len (.attr (.var 0) 0))] }
noncomputable def zOE:Fn:={ params:=2,slots:=2,body:=[.exp (.callm 1 (.var 0) [.var 1]),.ret (.p2 .index (.p2 .index (.attr (.var 0) 0) (.var 1)) (.lit (.int 1)))] }
noncomputable def zOF:Fn:={ params:=2,slots:=2,body:=[.exp (.callm 1 (.var 0) [.var 1]),.ret (.p2 .sub (.p1 .sum (.comp (.call 24 [.var 2]) .val [.p2 .index (.p2 .index (.attr (.var 0) 0) (.var 1)) (.lit (.int 0))] none)) (.p2 .index (.p2 .index (.attr (.var 0) 0) (.var 1)) (.lit (.int 1))))] }
noncomputable def zQ0:Fn:={ params:=2,slots:=2,body:=[.exp (.callm 1 (.var 0) [.var 1]),.ret (.p1 .toList (.p2 .index (.p2 .index (.attr (.var 0) 0) (.var 1)) (.lit (.int 2))))] }
structure zO (T:Nat->Option Fn) (t:Bool:=false):Prop where
 b0:T 0=some zQy
 b1:T 1=some zQz
 b2:T 2=some fB_2
 b3:T 3=some (zQ1 t)
 b4:T 4=some fB_4
 b5:T 5=some zQ2
 b6:T 6=some (zQ3 t)
 b7:T 7=some zQ4
 b8:T 8=some zQ5
 b10:T 10=some zOD
 b12:T 12=some zOE
 b13:T 13=some zOF
 b20:T 20=some zOG
 b21:T 21=some zLE
 b22:T 22=some fB_22
 b23:T 23=some zOH
 b24:T 24=some zOI
 b25:T 25=some zOJ
 b26:T 26=some zOK
end Mine
end

section
namespace Mine
open PySem
structure Ln where
 item:Str
 p:Int
 c:Int
 k:Int
 s:Int
 b:Int
 a:Int
 r:Int
noncomputable def Ln.v (l:Ln):V:=.tup [.str l.item,.int l.p,.int l.c,.int l.k,.int l.s,.int l.b,.int l.a,.int l.r]
structure Ln.ok (l:Ln):Prop where
 p1:1 <= l.p
 p2:l.p <= 1000000
 c1:0 <= l.c
 c2:l.c <= 1000000000
 k1:1 <= l.k
 k2:l.k <= 1000
noncomputable def Ln.worth (l:Ln):Int:=((l.s - l.b) * l.c).fdiv l.k
noncomputable def Ln.charge (l:Ln):Int:=l.worth - l.r
structure Or where
 lines:List Ln
 paid:Int
 rows:List (Str × Int)
noncomputable def zCd (r:Str × Int):V:=.tup [.str r.1,.int r.2]
noncomputable def Or.v (o:Or):V:=.tup [.tup (o.lines.map Ln.v),.int o.paid,.tup (o.rows.map zCd)]
noncomputable def Or.owed (o:Or):Int:=(o.lines.map Ln.charge).sum - o.paid
noncomputable def wM:Str:={ cps:=#[100,101,108,105,118,101,114] }
noncomputable def wq:Str:={ cps:=#[98,97,99,107] }
noncomputable def wu:Str:={ cps:=#[115,119,97,112] }
noncomputable def wr:Str:={ cps:=#[99,114,101,100,105,116] }
noncomputable def xK:Str:={ cps:=#[112,97,121] }
noncomputable def xz:Str:={ cps:=#[114,101,102,117,110,100] }
noncomputable def zx:Str:={ cps:=#[109,111,118,101] }
noncomputable def yM:Str:={ cps:=#[111,114,100,101,114] }
set_option genCtorIdx true in
inductive Wd where
 | del | back | swap | cred
noncomputable def Wd.s:Wd->Str
 | .del=>wM
 | .back=>wq
 | .swap=>wu
 | .cred=>wr
noncomputable def xA (w:Wd) (l:Ln):Int:=
 match w with
 | .del=>l.p - l.s+l.a
 | .cred=>l.charge
 | _=>l.s - l.b
noncomputable def zKG (x y:Int):Int:=if y < x then y else x
noncomputable def zc (w:Wd) (l:Ln) (n:Int):Ln:=
 match w with
 | .del=>{ l with s:=l.s+n }
 | .cred=>{ l with r:=l.r+n }
 | .back=>{ l with b:=l.b+n,r:=zKG l.r (((l.s - (l.b+n)) * l.c).fdiv l.k) }
 | .swap=>{ l with b:=l.b+n,a:=l.a+n,r:=zKG l.r (((l.s - (l.b+n)) * l.c).fdiv l.k) }
theorem zEH {l:Ln} (h:l.ok):yR l.c=true:=decide_eq_true (Nat.lt_of_le_of_lt (zLd (B:=1000000000) h.c1 h.c2) (by decide))
theorem zF8 {k:Int} (h1:1 <= k) (h2:k <= 1000):(k==0||decide (1073741824 <= k.natAbs))=false:=by
 have hk:k.natAbs <= 1000:=Int.ofNat_le.mp (by rw [Int.natAbs_of_nonneg (Int.le_trans (by decide) h1)]; exact h2)
 rw [Bool.or_eq_false_iff]
 exact ⟨beq_eq_false_iff_ne.mpr fun e=>absurd (e ▸ h1) (by decide),decide_eq_false fun q=>absurd (Nat.le_trans q hk) (by decide)⟩
noncomputable def rv (t:Bool) (J:Sto) (vs:List V):V:=match t with
 | true=>.ref J.length
 | false=>.lst vs
noncomputable def rs (t:Bool) (J:Sto) (vs:List V):Sto:=match t with
 | true=>J++[.list vs]
 | false=>J
theorem zEm {F:Calls} {q:Bool} {H:List V} {J J1:Sto} {t:Bool} {es:List CE} {vs:List V} (h:evL F q es H J=.ok vs J1):evE F q (tr t (.list es)) H J=.ok (rv t J1 vs) (rs t J1 vs):=by
 cases t with
 | false=>exact jI h
 | true =>
  show evE F q (.trk (.list es)) H J=_
  rw [zCY,jI h]; rfl
section
variable {T:Nat->Option Fn} {t:Bool} {d:Nat} {q:Bool} {J:Sto}
theorem zG6 (HT:zO T t) {a c k:Int} (hc:yR c=true) (hk:(k==0||decide (1073741824 <= k.natAbs))=false):zA T (d+1) q 20 [.int a,.int c,.int k] J=.ok (.int ((a * c).fdiv k)) J:=
 zG HT.b20 rfl (zH (zE (zE rfl rfl (yW J a c (.inr hc))) rfl (wh J (a * c) k hk)))
theorem jV (HT:zO T t) {l:Ln} (h:l.ok):zA T (d+2) q 24 [l.v] J=.ok (.int l.charge) J:=
 zG HT.b24 rfl (zH (zE (zI (vs:=[.int (l.s - l.b),.int l.c,.int l.k]) rfl (zG6 HT (zEH h) (zF8 h.k1 h.k2))) rfl rfl))
theorem zIH (HT:zO T t) {l:Ln} (h:l.ok) (w:Wd):zA T (d+3) q 25 [.str w.s,l.v] J=.ok (.int (xA w l)) J:=by
 refine zG HT.b25 rfl ?_
 cases w with
 | del=>exact s_t rfl (zH rfl)
 | cred=>exact s_f rfl (s_t rfl (zH (zI rfl (jV HT h))))
 | back=>exact s_f rfl (s_f rfl (zH rfl))
 | swap=>exact s_f rfl (s_f rfl (zH rfl))
theorem zKb (HT:zO T t) {l:Ln} (h:l.ok) (w:Wd) (n:Int):zA T (d+2) false 26 [.str w.s,l.v,.int n] J=.ok (zc w l n).v J:=by
 refine zG HT.b26 rfl ?_
 refine zL (v:=.int l.s) rfl (zL (v:=.int l.b) rfl (zL (v:=.int l.a) rfl (zL (v:=.int l.r) rfl ?_)))
 have w20:∀ a:Int,zA T (d+1) false 20 [.int a,.int l.c,.int l.k] J=.ok (.int ((a * l.c).fdiv l.k)) J:=fun a=>zG6 HT (zEH h) (zF8 h.k1 h.k2)
 cases w with
 | del=>exact s_t rfl (zL rfl (zH rfl))
 | cred=>exact s_f rfl (s_t rfl (zL rfl (zH rfl)))
 | back=>exact s_f rfl (s_f rfl (zL (v:=.int (l.b+n)) rfl (s_f rfl (zL (zE rfl (zI rfl (w20 _)) rfl) (zH rfl)))))
 | swap=>exact s_f rfl (s_f rfl (zL (v:=.int (l.b+n)) rfl (s_t rfl (zL (v:=.int (l.a+n)) rfl (zL (zE rfl (zI rfl (w20 _)) rfl) (zH rfl))))))
end
end Mine
end

section
namespace Mine
open PySem
structure BookIn (J:Sto) (b e h:Nat) (es hs:List V):Prop where
 inst:J[b]?=some (.inst [(1,.ref h),(0,.ref e)])
 ent:J[e]?=some (.list es)
 his:J[h]?=some (.list hs)
 ne:e ≠ h
theorem zPi {J:Sto} {n:Nat} {xs:List V} (h:J[n]?=some (.list xs)):ev1 .len J (.ref n)=some (.int xs.length):=xQ J h
section
variable {T:Nat->Option Fn} {t:Bool} {F:Calls} {d:Nat} {q:Bool} {J:Sto} {b e h:Nat} {es hs:List V} {H:List V}
theorem BookIn.isInst (B:BookIn J b e h es hs):isInst J (.ref b)=true:=by
 show (match J[b]? with | some (.inst _)=>true | _=>false)=true
 rw [B.inst]
theorem BookIn.a0 (B:BookIn J b e h es hs):zAS J (.ref b) 0=some (.ref e):=by
 show zG3 0 J[b]?=_
 rw [B.inst]; rfl
theorem BookIn.a1 (B:BookIn J b e h es hs):zAS J (.ref b) 1=some (.ref h):=by
 show zG3 1 J[b]?=_
 rw [B.inst]; rfl
theorem zDt (h0:zK H 0=some (.ref b)):evE F q (.var 0) H J=.ok (.ref b) J:=by rw [zu,h0]; rfl
theorem zEk (B:BookIn J b e h es hs) (h0:zK H 0=some (.ref b)):evE F q (.attr (.var 0) 0) H J=.ok (.ref e) J:=zKz (zDt h0) B.a0
theorem zHN (B:BookIn J b e h es hs) (h0:zK H 0=some (.ref b)):evE F q (.attr (.var 0) 1) H J=.ok (.ref h) J:=zKz (zDt h0) B.a1
theorem zAT (B:BookIn J b e h es hs) (h0:zK H 0=some (.ref b)):evE F q (.p1 .len (.attr (.var 0) 0)) H J=.ok (.int es.length) J:=zV (zEk B h0) (zPi B.ent)
theorem xt (B:BookIn J b e h es hs) (h0:zK H 0=some (.ref b)) {c:CE} {o:Nat} {v:V} (hc:evE F q c H J=.ok (.int o) J) (hv:es[o]?=some v):evE F q (.p2 .index (.attr (.var 0) 0) c) H J=.ok v J:=
 zE (zEk B h0) hc (za J B.ent hv)
theorem yY {a b c:CE} {x y:Int} (ha:evE F q a H J=.ok (.int 0) J) (hb:evE F q b H J=.ok (.int x) J) (hc:evE F q c H J=.ok (.int y) J):evE F q (.chain a [.le,.lt] [b,c]) H J=.ok (.bool (decide (0 <= x)&&decide (x < y))) J:=by
 rw [zAQ,ha,R.bind_ok,zFs,hb]
 show (if decide (0 <= x)=true then evChain F q [P2.lt] [c] (.int x) H J else .ok (.bool (decide (0 <= x))) J)=_
 cases decide (0 <= x) with
 | false=>rfl
 | true =>
  show evChain F q [P2.lt] [c] (.int x) H J=_
  rw [zFr,hc]; rfl
theorem in_iff {n:Nat} {o:Int}:(decide (0 <= o)&&decide (o < (n:Int)))=true ↔ ∃ k:Nat,o=k /\ k < n:=by
 rw [Bool.and_eq_true,decide_eq_true_eq,decide_eq_true_eq]
 constructor
 ·rintro ⟨h1,h2⟩; exact ⟨o.toNat,(Int.toNat_of_nonneg h1).symm,(Int.toNat_lt h1).mpr h2⟩
 ·rintro ⟨k,rfl,h⟩; exact ⟨Int.natCast_nonneg k,Int.ofNat_lt.mpr h⟩
theorem zO7 (HT:zO T t) (B:BookIn J b e h es hs) {o:Nat} (ho:o < es.length):zA T (d+1) q 1 [.ref b,.int o] J=.ok .none J:=
 xg HT.b1 rfl (s_f (zC (zV (yY rfl rfl (zAT B rfl)) (by rw [in_iff.mpr ⟨o,rfl,ho⟩]; rfl))) rfl)
theorem zMo (HT:zO T t) (B:BookIn J b e h es hs) {o:Int} (ho:(decide (0 <= o)&&decide (o < (es.length:Int)))=false):zA T (d+1) false 1 [.ref b,.int o] J=.exc .NoOrder J:=
 zS HT.b1 rfl (s_t (zC (zV (yY rfl rfl (zAT B rfl)) (by rw [ho]; rfl))) rfl)
theorem vF (HT:zO T t) (B:BookIn J b e h es hs) (h0:zK H 0=some (.ref b)) {c:CE} {o:Nat} (hc:evE (zA T (d+1) q) q c H J=.ok (.int o) J) (ho:o < es.length) {rest:List CS} {Fq:Calls} {r:R Fl} (k:exL (zA T (d+1) q) Fq q rest H J=r) :
  exL (zA T (d+1) q) Fq q (.exp (.callm 1 (.var 0) [c]) :: rest) H J=r:=
 ym (zd (zDt h0) B.isInst (zD hc rfl) (zO7 HT B ho)) k
theorem zAK (HT:zO T t) (B:BookIn J b e h es hs) (h0:zK H 0=some (.ref b)) {c:CE} {o:Int} (hc:evE (zA T (d+1) false) false c H J=.ok (.int o) J) (ho:(decide (0 <= o)&&decide (o < (es.length:Int)))=false) {rest:List CS} {Fq:Calls} :
  exL (zA T (d+1) false) Fq false (.exp (.callm 1 (.var 0) [c]) :: rest) H J=.exc .NoOrder J:=
 zA2 (zd (zDt h0) B.isInst (zD hc rfl) (zMo HT B ho))
theorem zKc (HT:zO T t) (B:BookIn J b e h es hs):zA T (d+1) q 10 [.ref b] J=.ok (.int es.length) J:=
 zG HT.b10 rfl (zH (zAT B rfl))
theorem zM4 (B:BookIn J b e h es hs) (h0:zK H 0=some (.ref b)) {o:Nat} {u:Or} {ce:CE} {g:Ln->V} (h1:zK H 1=some (.int o)) (hu:es[o]?=some u.v) (hl:u.lines.length < LIM)
  (hg:∀ l ∈ u.lines,evE F false ce (H++[l.v]) J=.ok (g l) J) :
  evE F false (.comp ce .val [.p2 .index (.p2 .index (.attr (.var 0) 0) (.var 1)) (.lit (.int 0))] none) H J=.ok (.lst (u.lines.map g)) J:=by
 have:=yw (F:=F) (elt:=ce) (k:=.val) (src:=[.p2 .index (.p2 .index (.attr (.var 0) 0) (.var 1)) (.lit (.int 0))]) (cond:=none) (H:=H) (J:=J) (l:=u.lines) (φ:=Ln.v) (fun _=>true) g
  (zD (zE (o:=.index) (b:=.lit (.int 0)) (y:=.int 0) (z:=.tup (u.lines.map Ln.v)) (xt B h0 (by rw [zu,h1]; rfl) hu) rfl rfl) rfl) (zE9 J) (.inl rfl) hl (fun _ _=>rfl) (fun l hl _=>hg l hl)
 rwa [yZ] at this
theorem zF0 (HT:zO T t) (B:BookIn J b e h es hs) {o:Nat} {u:Or} (hu:es[o]?=some u.v) (hl:u.lines.length < LIM) (hok:∀ l ∈ u.lines,l.ok):zA T (d+3) false 13 [.ref b,.int o] J=.ok (.int u.owed) J:=
 zG HT.b13 rfl (vF HT B rfl rfl (List.getElem?_eq_some_iff.mp hu).1 (zH (zE
  (zV (zM4 B rfl rfl hu hl (g:=fun l=>.int l.charge) fun l hm=>zI rfl (jV HT (hok l hm)))
   (by rw [show u.lines.map (fun l=>V.int l.charge)=iv (u.lines.map Ln.charge) by rw [iv,List.map_map]; rfl]; exact zBF J _))
  (zE (xt B rfl rfl hu) rfl rfl) rfl)))
end
end Mine
end

section
namespace Mine
open PySem
structure Or.ok (u:Or):Prop where
 few:u.lines.length <= 20
 ls:∀ l ∈ u.lines,l.ok
theorem Or.ok.lim {u:Or} (h:u.ok):u.lines.length < LIM:=Nat.lt_of_le_of_lt h.few (by decide)
noncomputable def dL (w:Wd) (o k n:Int):V:=.tup [.str w.s,.int o,.int k,.int n]
noncomputable def yf (J:Sto):Option Cls->R V
 | none=>.ok .none J
 | some c=>.exc c J
noncomputable def atI {α:Type} (l:List α) (i:Int):Option α:=if (decide (0 <= i)&&decide (i < (l.length:Int)))=true then l[i.toNat]? else none
noncomputable def wX (n m:Int):Option Cls:=if n < 1 then some .NoNumber else if n > m then some .TooMuch else none
noncomputable def zK6 (w:Wd) (n:Int):Option Ln->Option Cls
 | none=>some .NoLine
 | some l=>wX n (xA w l)
noncomputable def zK8 (w:Wd) (k n:Int):Option Or->Option Cls
 | none=>some .NoOrder
 | some u=>zK6 w n (atI u.lines k)
noncomputable def zK7 (us:List Or) (w:Wd) (o k n:Int):Option Cls:=zK8 w k n (atI us o)
theorem zg {α:Type} {l:List α} {i:Int} {x:α} (h:atI l i=some x):∃ k:Nat,i=k /\ l[k]?=some x:=by
 unfold atI at h
 split at h
 ·rename_i hc
  obtain ⟨k,rfl,_⟩:=in_iff.mp hc
  exact ⟨k,rfl,h⟩
 ·cases h
theorem wH {α:Type} {l:List α} {i:Int} (h:atI l i=none):(decide (0 <= i)&&decide (i < (l.length:Int)))=false:=by
 unfold atI at h
 split at h
 ·rename_i hc
  obtain ⟨k,rfl,hk⟩:=in_iff.mp hc
  rw [show (k:Int).toNat=k from rfl,List.getElem?_eq_none_iff] at h
  exact absurd hk (Nat.not_lt.mpr h)
 ·rename_i hc; exact Bool.eq_false_iff.mpr hc
section
variable {T:Nat->Option Fn} {t:Bool} {F Fq:Calls} {d:Nat} {q:Bool} {J:Sto} {b e h:Nat} {us:List Or} {hs:List V} {H:List V}
theorem wc (w:Wd):ev2 .eq J (.str w.s) (.str zx)=some (.bool false):=by cases w <;> rfl
theorem zH1 (w:Wd):ev2 .eq J (.str w.s) (.str xK)=some (.bool false):=by cases w <;> rfl
theorem zH2 (w:Wd):ev2 .eq J (.str w.s) (.str xz)=some (.bool false):=by cases w <;> rfl
theorem zFn (w:Wd):ev2 .eq J (.str w.s) (.str yM)=some (.bool false):=by cases w <;> rfl
theorem zMT (w:Wd):ev2 .ne J (.str w.s) (.str xK)=some (.bool true):=by cases w <;> rfl
theorem zQK (w:Wd):ev2 .isIn J (.str w.s) (.tup [.str wM,.str wq,.str wu,.str wr])=some (.bool true):=by cases w <;> rfl
theorem zNu (w:Wd):ev2 .notIn J (.str w.s) .parts=some (.bool false):=by cases w <;> rfl
theorem zQJ (w:Wd):ev2 .index J .parts (.str w.s)=some (.int 4):=by cases w <;> rfl
theorem wW {o:Nat} {u:Or} (hu:us[o]?=some u):(us.map Or.v)[o]?=some u.v:=by rw [List.getElem?_map,hu]; rfl
theorem zO6 (HT:zO T t) (B:BookIn J b e h (us.map Or.v) hs) {w:Wd} {o k:Nat} {n:Int} {u:Or} {l:Ln} (hu:us[o]?=some u) (hl:u.lines[k]?=some l) (h1:l.ok) :
  zA T (d+4) q 5 [.ref b,dL w o k n] J=.ok (.int (xA w l)) J:=
 zG HT.b5 rfl (s_t (zC (zE rfl rfl (zQK w))) (zH (zI (zD rfl (zD (zE (zE (z:=.tup (u.lines.map Ln.v)) (xt B rfl rfl (wW hu)) rfl rfl) rfl (wi J (by rw [List.getElem?_map,hl]; rfl))) rfl)) (zIH HT h1 w))))
theorem zEP (HT:zO T t) (B:BookIn J b e h (us.map Or.v) hs) (hok:∀ u ∈ us,u.ok) (w:Wd) (o k n:Int) :
  zA T (d+5) false 4 [.ref b,dL w o k n] J=yf J (zK7 us w o k n):=by
 show _=yf J (zK8 w k n (atI us o))
 cases ho:atI us o with
 | none=>exact zS HT.b4 rfl (zAK HT B rfl rfl (by rw [List.length_map]; exact wH ho))
 | some u =>
  obtain ⟨o,rfl,hu⟩:=zg ho
  have hi:o < (us.map Or.v).length:=by rw [List.length_map]; exact (List.getElem?_eq_some_iff.mp hu).1
  have hlen:∀ {F:Calls},evE F false (.p1 .len (.p2 .index (.p2 .index (.attr (.var 0) 0) (.p2 .index (.var 1) (.lit (.int 1)))) (.lit (.int 0)))) [.ref b,dL w o k n] J=.ok (.int u.lines.length) J:=
   zV (zE (z:=.tup (u.lines.map Ln.v)) (xt B rfl rfl (wW hu)) rfl rfl) (by rw [zEs,List.length_map])
  show _=yf J (zK6 w n (atI u.lines k))
  cases hk:atI u.lines k with
  | none =>
   exact zS HT.b4 rfl (vF HT B rfl rfl hi (s_f (zC (zE rfl rfl (wc w)))
    (s_t (zC (yJ (zE rfl rfl (zQK w)) rfl (zV (yY rfl rfl hlen) (by rw [wH hk]; rfl)))) rfl)))
  | some l =>
   obtain ⟨k,rfl,hl⟩:=zg hk
   have hm:=zO6 (d:=d) (q:=false) (n:=n) (w:=w) HT B hu hl ((hok u (List.mem_of_getElem? hu)).ls l (List.mem_of_getElem? hl))
   have pre:∀ {r:R Fl} ,exL (zA T (d+4) false) (zA T (d+4) true) false (fB_4.body.drop 3) [.ref b,dL w o k n] J=r->exL (zA T (d+4) false) (zA T (d+4) true) false fB_4.body [.ref b,dL w o k n] J=r:=fun kk =>
    vF HT B rfl rfl hi (s_f (zC (zE rfl rfl (wc w)))
     (s_f (zC (yJ (zE rfl rfl (zQK w)) rfl (zV (yY rfl rfl hlen) (by rw [in_iff.mpr ⟨k,rfl,(List.getElem?_eq_some_iff.mp hl).1⟩]; rfl)))) kk))
   have g:evE (zA T (d+4) false) false (.and (.p2 .ne (.p2 .index (.var 1) (.lit (.int 0))) (.lit (.str xK))) (.p2 .gt (.p2 .index (.var 1) (.p1 .neg (.lit (.int 1)))) (.callm 5 (.var 0) [.var 1]))) [.ref b,dL w o k n] J=.ok (.bool (decide (n > xA w l))) J:=
    yJ (zE rfl rfl (zMT w)) rfl (zE rfl (zd rfl B.isInst rfl hm) rfl)
   show _=yf J (wX n (xA w l))
   unfold wX
   by_cases h1:n < 1
   ·rw [if_pos h1]
    exact zS HT.b4 rfl (pre (s_t (zC (t:=true) (zE rfl rfl (show _=some (V.bool true) by rw [xY,decide_eq_true h1]))) rfl))
   ·rw [if_neg h1]
    have h1':evC (zA T (d+4) false) false (some (.p2 .lt (.p2 .index (.var 1) (.p1 .neg (.lit (.int 1)))) (.lit (.int 1)))) [.ref b,dL w o k n] J=.ok false J:=
     zC (zE rfl rfl (show ev2 .lt J (.int n) (.int 1)=some (V.bool false) by rw [xY,decide_eq_false h1]))
    by_cases h2:n > xA w l
    ·rw [if_pos h2]
     exact zS HT.b4 rfl (pre (s_f h1' (s_t (zC (by rw [decide_eq_true h2] at g; exact g)) rfl)))
    ·rw [if_neg h2]
     exact xg HT.b4 rfl (pre (s_f h1' (s_f (zC (by rw [decide_eq_false h2] at g; exact g)) rfl)))
end
end Mine
end

section
namespace Mine
open PySem
section
variable {T:Nat->Option Fn} {t:Bool} {F Fq:Calls} {d:Nat} {q:Bool} {J:Sto} {b e h:Nat} {es hs:List V} {H:List V}
theorem jb {a:CE} {lo hi:Option CE} {x z:V} {i j:Option Int} (ha:evE F q a H J=.ok x J) (hl:evO F q lo H J=.ok i J) (hh:evO F q hi H J=.ok j J) (h:vB J x i j=some z):evE F q (.slice a lo hi) H J=.ok z J:=by
 rw [zH7,ha,R.bind_ok,hl,R.bind_ok,hh,R.bind_ok,h]; rfl
theorem xZ {x:O} {i:Nat} {y:O} (hi:J[i]?=some y):(J++[x])[i]?=some y:=by
 rw [List.getElem?_append_left (List.getElem?_eq_some_iff.mp hi).1]; exact hi
theorem zJ {i j:Nat} {x y:O} (hi:J[i]?=some y) (hne:j ≠ i):(J.set j x)[i]?=some y:=by
 rw [List.getElem?_set_ne hne]; exact hi
theorem zm {i:Nat} {x y:O} (hi:J[i]?=some y):(J.set i x)[i]?=some x:=
 List.getElem?_set_self (List.getElem?_eq_some_iff.mp hi).1
theorem BookIn.bh (B:BookIn J b e h es hs):h ≠ b:=fun q=>by have:=B.inst; rw [<- q,B.his] at this; cases this
theorem BookIn.be (B:BookIn J b e h es hs):e ≠ b:=fun q=>by have:=B.inst; rw [<- q,B.ent] at this; cases this
theorem BookIn.push (B:BookIn J b e h es hs) (x:O):BookIn (J++[x]) b e h es hs:=⟨xZ B.inst,xZ B.ent,xZ B.his,B.ne⟩
theorem BookIn.setH (B:BookIn J b e h es hs) (hs':List V):BookIn (J.set h (.list hs')) b e h es hs':=
 ⟨zJ B.inst B.bh,zJ B.ent B.ne.symm,zm B.his,B.ne⟩
theorem BookIn.setE (B:BookIn J b e h es hs) (es':List V):BookIn (J.set e (.list es')) b e h es' hs:=
 ⟨zJ B.inst B.be,zm B.ent,zJ B.his B.ne,B.ne⟩
theorem zHs (B:BookIn J b e h es hs) (h0:zK H 0=some (.ref b)) {c v:CE} {o:Nat} {x:V} (hv:evE F q v H J=.ok x J) (hc:evE F q c H J=.ok (.int o) J) (ho:o < es.length) {rest:List CS} {r:R Fl} (k:exL F Fq q rest H (J.set e (.list (es.set o x)))=r) :
  exL F Fq q (.setItem (.attr (.var 0) 0) c v :: rest) H J=r:=
 xU hv (zEk B h0) hc (vG J B.ent ho) k
theorem zMC {xs:List V} {k:Nat} (hk:k < xs.length):vB J (.tup xs) none (some (k:Int))=some (.tup (xs.take k)):=by
 show some (V.tup ((xs.take (if (k:Int) < 0 then ((k:Int)+xs.length).toNat else min (k:Int).toNat xs.length)).drop 0))=_
 rw [if_neg (Int.not_lt.mpr (Int.natCast_nonneg k)),Int.toNat_natCast,Nat.min_eq_left (Nat.le_of_lt hk),List.drop_zero]
theorem zGl {xs:List V} {k:Nat} (hk:k < xs.length):vB J (.tup xs) (some ((k:Int)+1)) none=some (.tup (xs.drop (k+1))):=by
 show some (V.tup ((xs.take xs.length).drop (if (k:Int)+1 < 0 then ((k:Int)+1+xs.length).toNat else min ((k:Int)+1).toNat xs.length)))=_
 rw [if_neg (show ¬ ((k:Int)+1 < 0) from Int.not_lt.mpr (Int.natCast_nonneg (k+1))),List.take_length,show ((k:Int)+1).toNat=k+1 from rfl,Nat.min_eq_left hk]
theorem zBV {xs ys:List V} (hl:xs.length+ys.length <= LIM):ev2 .add J (.tup xs) (.tup ys)=some (.tup (xs++ys)):=by
 show (if xs.length+ys.length <= LIM then some (V.tup (xs++ys)) else none)=_
 rw [if_pos hl]
theorem zFd {k n:Nat} (hk:k < n) (hl:n <= LIM):min k n+1 <= LIM /\ min k n+1+(n - (k+1)) <= LIM:=by
 rw [Nat.min_eq_left (Nat.le_of_lt hk),Nat.add_sub_of_le hk]
 exact ⟨Nat.le_trans hk hl,hl⟩
theorem zPP {a i x:CE} {xs:List V} {k:Nat} {v:V} (hx:evE F q a H J=.ok (.tup xs) J) (hi:evE F q i H J=.ok (.int k) J) (hv:evE F q x H J=.ok v J) (hk:k < xs.length) (hl:xs.length <= LIM) :
  evE F q (.p2 .add (.p2 .add (.slice a none (some i)) (.tup [x])) (.slice a (some (.p2 .add i (.lit (.int 1)))) none)) H J=.ok (.tup (xs.set k v)) J:=by
 have h1:evO F q (some i) H J=.ok (some (k:Int)) J:=by rw [zEN,hi]; rfl
 have h2:evO F q (some (.p2 .add i (.lit (.int 1)))) H J=.ok (some ((k:Int)+1)) J:=by rw [zEN,zE hi rfl (zHQ J k 1)]; rfl
 have e:=zE (zE (jb (lo:=none) hx rfl h1 (zMC hk)) (yk (es:=[x]) (vs:=[v]) (zD hv rfl)) (zBV (J:=J) (by rw [List.length_take]; exact (zFd hk hl).1))) (jb (hi:=none) hx h2 rfl (zGl hk)) (zBV (J:=J) (by rw [List.length_append,List.length_take,List.length_drop]; exact (zFd hk hl).2))
 rw [e,List.set_eq_take_append_cons_drop,if_pos hk,List.append_assoc]; rfl
end
noncomputable def upL (w:Wd) (u:Or) (k:Nat) (l:Ln) (n:Int):Or:={ lines:=u.lines.set k (zc w l n),paid:=u.paid,rows:=u.rows++[(w.s,(zc w l n).charge - l.charge)] }
noncomputable def yU (J:Sto) (h:Nat) (hs:List V) (deed:V) (old:List (Int × V)):Sto:=List.set (J++[O.dict old]) h (O.list (hs++[V.tup [deed,V.ref J.length]]))
theorem xf {w:Wd} {l:Ln} {n:Int} (h:l.ok):(zc w l n).ok:=by cases w <;> exact ⟨h.1,h.2,h.3,h.4,h.5,h.6⟩
theorem zEG {α β:Type} (f:α->β) (l:List α) (i:Nat) (x:α):(l.map f).set i (f x)=(l.set i x).map f:=by rw [List.map_set]
theorem kO {J:Sto} {x y:O}:(J++[x]).set J.length y=J++[y]:=by
 rw [List.set_append_right _ _ (Nat.le_refl _),Nat.sub_self]; rfl
theorem yx {J:Sto} {x:O}:(J++[x])[J.length]?=some x:=by
 rw [List.getElem?_append_right (Nat.le_refl _),Nat.sub_self]; rfl
section
variable {T:Nat->Option Fn} {t:Bool} {d:Nat} {q:Bool} {J:Sto} {b e h:Nat} {us:List Or} {hs:List V} {w:Wd} {o k:Nat} {n:Int} {u:Or} {l:Ln}
theorem zO8 (HT:zO T t) (B:BookIn J b e h (us.map Or.v) hs) (hu:us[o]?=some u) (hl:u.lines[k]?=some l) (hok:u.ok) (hr:u.rows.length < LIM) :
  zA T (d+3) false 8 [.ref b,.int o,.int k,.str w.s,.int n] J=.ok (.tup [.int o,.int ((zc w l n).charge - l.charge)]) (J.set e (.list ((us.set o (upL w u k l n)).map Or.v))):=by
 have hl1:=hok.ls l (List.mem_of_getElem? hl)
 have hkl:k < (u.lines.map Ln.v).length:=by rw [List.length_map]; exact (List.getElem?_eq_some_iff.mp hl).1
 have hlm:(u.lines.map Ln.v).length <= LIM:=by rw [List.length_map]; exact Nat.le_of_lt hok.lim
 have ho:o < (us.map Or.v).length:=by rw [List.length_map]; exact (List.getElem?_eq_some_iff.mp hu).1
 refine zG HT.b8 rfl ?_
 refine zL (v:=u.v) (xt B rfl rfl (wW hu)) ?_
 refine zL (v:=l.v) (zE (x:=.tup (u.lines.map Ln.v)) rfl rfl (wi J (by rw [List.getElem?_map,hl]; rfl))) ?_
 refine zL (v:=(zc w l n).v) (zI rfl (zKb HT hl1 w n)) ?_
 refine zL (v:=.int ((zc w l n).charge - l.charge)) (zE (zI rfl (jV HT (xf hl1))) (zI rfl (jV HT hl1)) rfl) ?_
 refine zL (v:=.tup ((u.lines.set k (zc w l n)).map Ln.v)) (by rw [<- zEG]; exact zPP (xs:=u.lines.map Ln.v) rfl rfl rfl hkl hlm) ?_
 refine zHs B rfl (x:=(upL w u k l n).v) ?_ rfl ho (zH ?_)
 ·refine yk (zD rfl (zD rfl (zD ?_ rfl)))
  refine zE (x:=.tup (u.rows.map zCd)) (y:=.tup [zCd (w.s,(zc w l n).charge - l.charge)]) rfl rfl ?_
  rw [zBV (by rw [List.length_map]; exact hr)]
  show _=some (V.tup ((u.rows++[_]).map zCd))
  rw [List.map_append]; rfl
 ·rw [zEG]; rfl
theorem zID (HT:zO T t) (B:BookIn J b e h (us.map Or.v) hs) (hu:us[o]?=some u) (hl:u.lines[k]?=some l) (hok:u.ok) (hr:u.rows.length < LIM) (hh:hs.length < LIM) :
  zA T (d+4) false 6 [.ref b,dL w o k n] J=.ok (rv t ((yU J h hs (dL w o k n) [((o:Int),u.v)]).set e (.list ((us.set o (upL w u k l n)).map Or.v))) [.tup [.int o,.int ((zc w l n).charge - l.charge)]]) (rs t ((yU J h hs (dL w o k n) [((o:Int),u.v)]).set e (.list ((us.set o (upL w u k l n)).map Or.v))) [.tup [.int o,.int ((zc w l n).charge - l.charge)]]):=by
 have B1:=B.push (.dict [])
 have B2:=B.push (.dict [((o:Int),u.v)])
 have B3:BookIn (yU J h hs (dL w o k n) [((o:Int),u.v)]) b e h (us.map Or.v) (hs++[.tup [dL w o k n,.ref J.length]]):=B2.setH _
 refine zG HT.b6 rfl ?_
 refine zL (v:=.str w.s) rfl (zL (v:=.int n) rfl ?_)
 refine zL (v:=.ref J.length) (J':=J++[.dict [((o:Int),u.v)]]) ?_ ?_
 ·rw [zEM,show evE (zA T (d+3) false) false (.p2 .index (.var 1) (.lit (.int 1))) _ (J++[.dict []])=.ok (.int o) (J++[.dict []]) from rfl,R.bind_ok,xt B1 rfl rfl (wW hu),R.bind_ok]
  show zBx J.length (J++[.dict []]) o u.v (J++[.dict []])[J.length]?=_
  rw [yx]
  show R.ok (V.ref J.length) ((J++[O.dict []]).set J.length (O.dict [((o:Int),u.v)]))=_
  rw [kO]
 refine s_f (zC (zE rfl rfl (wc w))) ?_
 refine ym (J':=yU J h hs (dL w o k n) [((o:Int),u.v)]) (zp (zHN B2 rfl) (by show (xI _).isSome=true; rw [B2.his]; rfl) (yk (zD rfl (zD rfl rfl))) (zk _ B2.his hh)) ?_
 refine s_f (zC (zE rfl rfl (wc w))) (s_f (zC (zE rfl rfl (zH1 w))) (s_f (zC (zE rfl rfl (zH2 w))) ?_))
 exact zH (zEm (zD (zd rfl B3.isInst rfl (zO8 HT B3 hu hl hok hr)) rfl))
theorem zHJ (HT:zO T t) {o k n:Int} {F Fq:Calls} {r:R Fl} (kk:exL F Fq false (fB_2.body.drop 2) [.ref b,dL w o k n] J=r):exL F Fq false fB_2.body [.ref b,dL w o k n] J=r:=
 s_f (zC (zW rfl rfl (zW (zE rfl rfl (zNu w)) rfl (zE rfl (zE rfl rfl (zQJ w)) rfl)))) (s_f (zC (zE rfl rfl (zFn w))) kk)
theorem zQk (HT:zO T t) (B:BookIn J b e h (us.map Or.v) hs) (hok:∀ u ∈ us,u.ok) {o k n:Int} {c:Cls} (he:zK7 us w o k n=some c):zA T (d+6) false 2 [.ref b,dL w o k n] J=.exc c J:=
 zS HT.b2 rfl (zHJ HT (zA2 (zd rfl B.isInst rfl ((zEP HT B hok w o k n).trans (by rw [he]; rfl)))))
theorem zOw (HT:zO T t) (B:BookIn J b e h (us.map Or.v) hs) (hok:∀ u ∈ us,u.ok) (he:zK7 us w o k n=none) (hu:us[o]?=some u) (hl:u.lines[k]?=some l) (hr:u.rows.length < LIM) (hh:hs.length < LIM) :
  zA T (d+6) false 2 [.ref b,dL w o k n] J=.ok (rv t ((yU J h hs (dL w o k n) [((o:Int),u.v)]).set e (.list ((us.set o (upL w u k l n)).map Or.v))) [.tup [.int o,.int ((zc w l n).charge - l.charge)]]) (rs t ((yU J h hs (dL w o k n) [((o:Int),u.v)]).set e (.list ((us.set o (upL w u k l n)).map Or.v))) [.tup [.int o,.int ((zc w l n).charge - l.charge)]]):=
 zG HT.b2 rfl (zHJ HT (ym (zd rfl B.isInst rfl ((zEP HT B hok w o k n).trans (by rw [he]; rfl))) (zH (zd rfl B.isInst rfl (zID HT B hu hl (hok u (List.mem_of_getElem? hu)) hr hh)))))
end
end Mine
end

section
namespace Mine
open PySem
noncomputable def yi:Str:={ cps:=#[97,98,99,100,101,102,103,104,105,106,107,108,109,110,111,112,113,114,115,116,117,118,119,120,121,122] }
noncomputable def zy (c:Nat):Bool:=(zR yi).contains c
noncomputable def zh (s:Str):Bool:=decide (1 <= s.length)&&decide (s.length <= 12)&&(zR s).all zy
noncomputable def Ln.raw (l:Ln):V:=.tup [.str l.item,.int l.p,.int l.c,.int l.k]
noncomputable def Ln.fresh (l:Ln):Ln:={ l with s:=0,b:=0,a:=0,r:=0 }
theorem Ln.ok.fresh {l:Ln} (h:l.ok):l.fresh.ok:=⟨h.1,h.2,h.3,h.4,h.5,h.6⟩
structure Ln.good (l:Ln):Prop where
 ok:l.ok
 item:zh l.item=true
 asc:l.item.cps.all (· < 128)=true
noncomputable def xB (ls:List Ln):Or:={ lines:=ls.map Ln.fresh,paid:=0,rows:=[] }
section
variable {T:Nat->Option Fn} {t:Bool} {F Fq:Calls} {d:Nat} {q:Bool} {J:Sto} {b e h:Nat} {es hs:List V} {H:List V}
theorem xh {a b c:CE} {lo x hi:Int} (ha:evE F q a H J=.ok (.int lo) J) (hb:evE F q b H J=.ok (.int x) J) (hc:evE F q c H J=.ok (.int hi) J):evE F q (.chain a [.le,.le] [b,c]) H J=.ok (.bool (decide (lo <= x)&&decide (x <= hi))) J:=by
 rw [zAQ,ha,R.bind_ok,zFs,hb]
 show (if decide (lo <= x)=true then evChain F q [P2.le] [c] (.int x) H J else .ok (.bool (decide (lo <= x))) J)=_
 cases decide (lo <= x) with
 | false=>rfl
 | true =>
  show evChain F q [P2.le] [c] (.int x) H J=_
  rw [zFr,hc]; rfl
theorem zMu {lo x hi:Int} (h1:lo <= x) (h2:x <= hi):(decide (lo <= x)&&decide (x <= hi))=true:=by
 rw [decide_eq_true h1,decide_eq_true h2]; rfl
theorem wv {a b c:CE} {lo x hi:Int} (h1:lo <= x) (h2:x <= hi) (ha:evE F q a H J=.ok (.int lo) J) (hb:evE F q b H J=.ok (.int x) J) (hc:evE F q c H J=.ok (.int hi) J):evE F q (.p1 .not (.chain a [.le,.le] [b,c])) H J=.ok (.bool false) J:=
 zV (xh ha hb hc) (by rw [zMu h1 h2]; rfl)
theorem kZ {α:Type} (g:α->Bool):∀ l:List α,bools? (l.map fun x=>V.bool (g x))=some (l.map g)
 | []=>rfl
 | x :: l=>by
  have:=kZ g l
  unfold bools? at this ⊢
  rw [List.map_cons,List.mapM_cons,this]; rfl
theorem zO5 (HT:zO T t) {s:Str} (h1:zh s=true) (h2:s.cps.all (· < 128)=true):zA T (d+1) false 21 [.str s] J=.ok (.bool true) J:=by
 unfold zh at h1
 rw [Bool.and_eq_true,Bool.and_eq_true,decide_eq_true_eq,decide_eq_true_eq] at h1
 obtain ⟨⟨ha,hb⟩,hc⟩:=h1
 refine zG HT.b21 rfl (s_f (zC (zW rfl rfl (wv (x:=(s.length:Int)) (by omega) (by omega) rfl rfl rfl))) (zH ?_))
 have e:=yw (F:=zA T d false) (elt:=.p2 .isIn (.var 1) (.lit (.str yi))) (k:=.val) (src:=[.var 0]) (cond:=none) (H:=[.str s]) (J:=J) (l:=zR s) (φ:=fun c=>.str (mkS [c])) (fun _=>true) (fun c=>.bool (zy c))
  rfl (show zT J .val [.str s]=some (.now (yV s)) by show (if s.cps.all (· < 128)=true then some (Items.now (yV s)) else none)=_; rw [if_pos h2]) (.inl rfl)
  (by show (zR s).length < LIM; rw [show (zR s).length=s.length from rfl]; exact Nat.lt_of_le_of_lt hb (by decide)) (fun _ _=>rfl) (fun c _ _=>rfl)
 rw [yZ] at e
 refine zV e ?_
 show ((bools? ((zR s).map fun c=>V.bool (zy c))).map fun l=>V.bool (l.all id))=_
 rw [kZ,show (some ((zR s).map zy)).map (fun l=>V.bool (l.all id))=some (V.bool (((zR s).map zy).all id)) from rfl,List.all_map]
 exact congrArg (fun b=>some (V.bool b)) hc
theorem zCa (HT:zO T t) {ls:List Ln} (h1:1 <= ls.length) (h2:ls.length <= 20) (hg:∀ l ∈ ls,l.good):zA T (d+2) false 22 [.lst (ls.map Ln.raw)] J=.ok .none J:=by
 have ex:∃ H,exL (zA T (d+1) false) (zA T (d+1) true) false fB_22.body ([V.lst (ls.map Ln.raw)]++List.replicate (fB_22.slots - fB_22.params) .undef) J=.ok (.next H) J:=by
  obtain ⟨H',J',e,x,rfl,rfl⟩:=wZ (F:=zA T (d+1) false) (Fq:=zA T (d+1) true) (i:=1) (k:=.val) (src:=[.var 0]) (H:=[V.lst (ls.map Ln.raw),.undef]) (vs:=[.lst (ls.map Ln.raw)]) (J:=J) (J1:=J) (it:=.now (ls.map Ln.raw)) (xs:=ls.map Ln.raw)
   (body:=[CS.ite (CE.p1 (P1.not) (CE.call 21 [CE.p2 (P2.index) (CE.var 1) (CE.lit (V.int 0))])) [CS.raise (Cls.NoItem)] [],
    CS.ite (CE.or (CE.p1 (P1.not) (CE.chain (CE.lit (V.int 1)) [P2.le,P2.le] [CE.p2 (P2.index) (CE.var 1) (CE.lit (V.int 1)),CE.lit (V.int 1000000)]))
     (CE.or (CE.p1 (P1.not) (CE.chain (CE.lit (V.int 0)) [P2.le,P2.le] [CE.p2 (P2.index) (CE.var 1) (CE.lit (V.int 2)),CE.lit (V.int 1000000000)]))
      (CE.p1 (P1.not) (CE.chain (CE.lit (V.int 1)) [P2.le,P2.le] [CE.p2 (P2.index) (CE.var 1) (CE.lit (V.int 3)),CE.lit (V.int 1000)])))) [CS.raise (Cls.NoNumber)] []])
   (fun _ H J'=>∃ x,H=[V.lst (ls.map Ln.raw),x] /\ J'=J) rfl rfl (fun _ _ _ _=>.inl rfl) ⟨_,rfl,rfl⟩ fun j x H J' hx hI=>by
    obtain ⟨y,rfl,rfl⟩:=hI
    rw [List.getElem?_map] at hx
    obtain ⟨l,hl,rfl⟩:=map_some hx
    have g:=hg l (List.mem_of_getElem? hl)
    refine ⟨[V.lst (ls.map Ln.raw),l.raw],J',?_,_,rfl,rfl⟩
    exact s_f (zC (zV (zI rfl (zO5 HT g.item g.asc)) rfl)) (s_f (zC (zW (wv g.ok.p1 g.ok.p2 rfl rfl rfl) rfl (zW (wv g.ok.c1 g.ok.c2 rfl rfl rfl) rfl (wv g.ok.k1 g.ok.k2 rfl rfl rfl)))) rfl)
  refine ⟨[V.lst (ls.map Ln.raw),x],s_f (zC (wv (x:=(ls.length:Int)) (by omega) (by omega) rfl (zV rfl (by rw [zi,List.length_map])) rfl)) ?_⟩
  rw [List.nil_append,yI]
  exact congrArg (fun r=>R.bind r (zCU (zA T (d+1) false) (zA T (d+1) true) false [])) e
 obtain ⟨H,ex⟩:=ex
 exact xg HT.b22 rfl ex
theorem zG4 (HT:zO T t) {l:Ln}:zA T (d+1) q 23 [l.raw] J=.ok l.fresh.v J:=zG HT.b23 rfl (zH rfl)
noncomputable def dO (ls:List Ln):V:=.tup [.str yM,.lst (ls.map Ln.raw)]
theorem zMk (HT:zO T t) (B:BookIn J b e h es hs) {ls:List Ln} (h1:1 <= ls.length) (h2:ls.length <= 20) (hg:∀ l ∈ ls,l.good) (he:es.length < 40) (hh:hs.length < LIM) :
  zA T (d+3) false 3 [.ref b,.lst (ls.map Ln.raw)] J=.ok (rv t (yU (J.set e (.list (es++[(xB ls).v]))) h hs (dO ls) []) []) (rs t (yU (J.set e (.list (es++[(xB ls).v]))) h hs (dO ls) []) []):=by
 have B1:=B.setE (es++[(xB ls).v])
 refine zG HT.b3 rfl ?_
 refine ym (zI rfl (zCa HT h1 h2 hg)) ?_
 refine s_f (zC (t:=false) (zE (zAT B rfl) rfl (by rw [zGC,decide_eq_false (by omega)]))) ?_
 have ec:=yw (F:=zA T (d+2) false) (elt:=.call 23 [.var 2]) (k:=.val) (src:=[.var 1]) (cond:=none) (H:=[.ref b,.lst (ls.map Ln.raw)]) (J:=J) (l:=ls) (φ:=Ln.raw) (fun _=>true) (fun l=>l.fresh.v) rfl rfl (.inl rfl) (Nat.lt_of_le_of_lt h2 (by decide)) (fun _ _=>rfl) (fun l _ _=>zI rfl (zG4 HT))
 rw [yZ,show ls.map (fun l=>l.fresh.v)=(ls.map Ln.fresh).map Ln.v by rw [List.map_map]; rfl] at ec
 refine ym (J':=J.set e (.list (es++[(xB ls).v]))) (zp (zEk B rfl) (by show (xI _).isSome=true; rw [B.ent]; rfl) (yk (zD (zV (z:=.tup ((ls.map Ln.fresh).map Ln.v)) ec rfl) rfl)) (zk _ B.ent (Nat.lt_trans he (by decide)))) ?_
 refine ym (zp (zHN B1 rfl) (by show (xI _).isSome=true; rw [B1.his]; rfl) (yk (zD (v:=dO ls) rfl (zD rfl rfl))) (zk _ (B1.push _).his hh)) (zH (zEm rfl))
theorem zOz (HT:zO T t) (B:BookIn J b e h es hs) {ls:List Ln} (h1:1 <= ls.length) (h2:ls.length <= 20) (hg:∀ l ∈ ls,l.good) (he:es.length < 40) (hh:hs.length < LIM) :
  zA T (d+4) false 2 [.ref b,dO ls] J=.ok (rv t (yU (J.set e (.list (es++[(xB ls).v]))) h hs (dO ls) []) []) (rs t (yU (J.set e (.list (es++[(xB ls).v]))) h hs (dO ls) []) []):=
 zG HT.b2 rfl (s_f rfl (s_t rfl (zH (zd rfl B.isInst rfl (zMk HT B h1 h2 hg he hh)))))
theorem zDZ {c v:CE} {k n:Nat} {x:V} {as:List (Nat × V)} {J1:Sto} (hv:evE F q v H J=.ok x J1) (ho:evE F q c H J1=.ok (.ref n) J1) (hn:J1[n]?=some (.inst as)) (hk:k < 2) {rest:List CS} {r:R Fl} (kk:exL F Fq q rest H (J1.set n (.inst ((k,x) :: as)))=r) :
  exL F Fq q (.setAttr c k v :: rest) H J=r:=by
 rw [yI,zDi,hv,R.bind_ok,ho,R.bind_ok,show wf J1 (.ref n) k x=kQ J1 n k x J1[n]? from rfl,hn,show kQ J1 n k x (some (.inst as))=if k < 2 then .ok () (J1.set n (.inst ((k,x) :: as))) else .stuck from rfl,if_pos hk]
 exact kk
noncomputable def xM (J:Sto):Sto:=J++[.inst [(1,.ref (J.length+2)),(0,.ref (J.length+1))],.list [],.list []]
theorem zFz {l r:Sto} {x:O}:(l++x :: r)[l.length]?=some x:=by
 rw [List.getElem?_append_right (Nat.le_refl _),Nat.sub_self]; rfl
theorem zHm {l r:Sto} {x y:O}:(l++x :: r).set l.length y=l++y :: r:=by
 rw [List.set_append_right _ _ (Nat.le_refl _),Nat.sub_self]; rfl
theorem zQl (HT:zO T t):evE (zA T (d+1) q) q .new H J=.ok (.ref J.length) (xM J):=by
 have hc:zA T (d+1) q 0 [.ref J.length] (J++[.inst []])=.ok .none (xM J):=by
  refine xg (H:=[.ref J.length]) HT.b0 rfl (zDZ (J1:=J++[.inst [],.list []]) (x:=.ref (J.length+1)) ?_ rfl zFz (by decide) ?_)
  ·show R.ok (V.ref (J++[O.inst []]).length) ((J++[O.inst []])++[O.list []])=_
   rw [List.length_append,List.append_assoc]; rfl
  ·rw [zHm]
   refine zDZ (J1:=J++[.inst [(0,.ref (J.length+1))],.list [],.list []]) (x:=.ref (J.length+2)) ?_ rfl zFz (by decide) ?_
   ·show R.ok (V.ref (J++[O.inst [(0,.ref (J.length+1))],O.list []]).length) ((J++[O.inst [(0,.ref (J.length+1))],O.list []])++[O.list []])=_
    rw [List.length_append,List.append_assoc]; rfl
   ·rw [zHm]; rfl
 rw [zRk,hc]; rfl
theorem zGV:BookIn (xM J) J.length (J.length+1) (J.length+2) [] []:=
 ⟨zFz,by unfold xM; rw [List.getElem?_append_right (by omega),Nat.add_sub_cancel_left]; rfl,by unfold xM; rw [List.getElem?_append_right (by omega),Nat.add_sub_cancel_left]; rfl,by omega⟩
end
end Mine
end

section
namespace Mine
open PySem
noncomputable def dP (o n:Int):V:=.tup [.str xK,.int o,.int n]
noncomputable def dR (o n:Int):V:=.tup [.str xz,.int o,.int n]
noncomputable def dM (o p n:Int):V:=.tup [.str zx,.int o,.int p,.int n]
noncomputable def zEq (n:Int):Option Or->Option Cls
 | none=>some .NoOrder
 | some _=>if n < 1 then some .NoNumber else none
noncomputable def zB1 (us:List Or) (o n:Int):Option Cls:=zEq n (atI us o)
noncomputable def zEr (n:Int):Option Or->Option Cls
 | none=>some .NoOrder
 | some u=>wX n (0 - u.owed)
noncomputable def zB2 (us:List Or) (o n:Int):Option Cls:=zEr n (atI us o)
noncomputable def zEp (u:Or) (o p n:Int):Option Or->Option Cls
 | none=>some .NoOrder
 | some _=>if o==p then some .SameOrder else wX n (0 - u.owed)
noncomputable def zEo (us:List Or) (o p n:Int):Option Or->Option Cls
 | none=>some .NoOrder
 | some u=>zEp u o p n (atI us p)
noncomputable def zB0 (us:List Or) (o p n:Int):Option Cls:=zEo us o p n (atI us o)
noncomputable def xC (u:Or) (w:Str) (c:Int):Or:={ lines:=u.lines,paid:=u.paid+c,rows:=u.rows++[(w,0 - c)] }
section
variable {T:Nat->Option Fn} {t:Bool} {F Fq:Calls} {d:Nat} {q:Bool} {J:Sto} {b e h:Nat} {us:List Or} {hs:List V} {H:List V} {o p:Nat} {n:Int} {u u':Or}
theorem zBW {o:Int} (ho:atI us o=none):(decide (0 <= o)&&decide (o < ((us.map Or.v).length:Int)))=false:=by rw [List.length_map]; exact wH ho
theorem jQ (hu:us[o]?=some u):o < (us.map Or.v).length:=by rw [List.length_map]; exact (List.getElem?_eq_some_iff.mp hu).1
theorem zBX (HT:zO T t) (B:BookIn J b e h (us.map Or.v) hs) (hu:us[o]?=some u) (w:Str) (c:Int) (hr:u.rows.length < LIM) :
  zA T (d+1) q 7 [.ref b,.int o,.str w,.int c] J=.ok (.tup [.int o,.int (0 - c)]) (J.set e (.list ((us.set o (xC u w c)).map Or.v))):=by
 refine zG HT.b7 rfl (zL (v:=u.v) (xt B rfl rfl (wW hu)) (zHs B rfl (x:=(xC u w c).v) ?_ rfl (jQ hu) (zH ?_)))
 ·refine yk (zD rfl (zD rfl (zD (zE (x:=.tup (u.rows.map zCd)) (y:=.tup [zCd (w,0 - c)]) rfl rfl ?_) rfl)))
  rw [zBV (by rw [List.length_map]; exact hr)]
  show _=some (V.tup ((u.rows++[_]).map zCd))
  rw [List.map_append]; rfl
 ·rw [zEG]; rfl
theorem zCS {deed:V} {m n:Int} {w:Str} (hv:zK [.ref b,deed] 1=some deed) (hw:ev2 .index J deed (.int 0)=some (.str w)) (hl:ev2 .index J deed (.int (-1))=some (.int n)) (hp:ev2 .ne J (.str w) (.str xK)=some (.bool true))
  (hi:isInst J (.ref b)=true) (hm:F 5 [.ref b,deed] J=.ok (.int m) J):exL F Fq false (fB_4.body.drop 3) [.ref b,deed] J=(match wX n m with | none=>.ok (.next [.ref b,deed]) J | some c=>.exc c J):=by
 have v1:evE F false (.var 1) [.ref b,deed] J=.ok deed J:=by rw [zu,hv]; rfl
 have l1:evE F false (.p2 .index (.var 1) (.p1 .neg (.lit (.int 1)))) [.ref b,deed] J=.ok (.int n) J:=zE v1 (zV rfl rfl) hl
 have g:evE F false (.and (.p2 .ne (.p2 .index (.var 1) (.lit (.int 0))) (.lit (.str xK))) (.p2 .gt (.p2 .index (.var 1) (.p1 .neg (.lit (.int 1)))) (.callm 5 (.var 0) [.var 1]))) [.ref b,deed] J=.ok (.bool (decide (n > m))) J:=
  yJ (zE (zE v1 rfl hw) rfl hp) rfl (zE l1 (zd rfl hi (zD v1 rfl) hm) rfl)
 unfold wX
 by_cases h1:n < 1
 ·rw [if_pos h1]
  exact s_t (zC (zE l1 rfl (by rw [xY,decide_eq_true h1]))) rfl
 ·rw [if_neg h1]
  have h1':evC F false (some (.p2 .lt (.p2 .index (.var 1) (.p1 .neg (.lit (.int 1)))) (.lit (.int 1)))) [.ref b,deed] J=.ok false J:=zC (zE l1 rfl (by rw [xY,decide_eq_false h1]))
  by_cases h2:n > m
  ·rw [if_pos h2]; exact s_f h1' (s_t (zC (by rw [decide_eq_true h2] at g; exact g)) rfl)
  ·rw [if_neg h2]; exact s_f h1' (s_f (zC (by rw [decide_eq_false h2] at g; exact g)) rfl)
theorem zCl (HT:zO T t) {deed:V} {x:Option Cls} (h:exL (zA T d false) (zA T d true) false fB_4.body [.ref b,deed] J=(match x with | none=>.ok (.next [.ref b,deed]) J | some c=>.exc c J)):zA T (d+1) false 4 [.ref b,deed] J=yf J x:=by
 cases x with
 | none=>exact xg HT.b4 rfl h
 | some c=>exact zS HT.b4 rfl h
theorem zER (HT:zO T t) (B:BookIn J b e h (us.map Or.v) hs) (o n:Int):zA T (d+2) false 4 [.ref b,dP o n] J=yf J (zB1 us o n):=by
 show _=yf J (zEq n (atI us o))
 cases ho:atI us o with
 | none=>exact zS HT.b4 rfl (zAK HT B rfl rfl (zBW ho))
 | some u =>
  obtain ⟨o,rfl,hu⟩:=zg ho
  show _=yf J (if n < 1 then some .NoNumber else none)
  by_cases h1:n < 1
  ·rw [if_pos h1]
   exact zS HT.b4 rfl (vF HT B rfl rfl (jQ hu) (s_f rfl (s_f rfl (s_t (zC (t:=true) (zE rfl rfl (show ev2 .lt J (.int n) (.int 1)=_ by rw [xY,decide_eq_true h1]))) rfl))))
  ·rw [if_neg h1]
   exact xg HT.b4 rfl (vF HT B rfl rfl (jQ hu) (s_f rfl (s_f rfl (s_f (zC (t:=false) (zE rfl rfl (show ev2 .lt J (.int n) (.int 1)=_ by rw [xY,decide_eq_false h1]))) (s_f rfl rfl)))))
theorem zMn (HT:zO T t) (B:BookIn J b e h (us.map Or.v) hs) (hok:∀ u ∈ us,u.ok) (hu:us[o]?=some u):zA T (d+4) false 5 [.ref b,dR o n] J=.ok (.int (0 - u.owed)) J:=
 have k:=hok u (List.mem_of_getElem? hu)
 zG HT.b5 rfl (s_f rfl (zH (zE rfl (zd rfl B.isInst rfl (zF0 HT B (wW hu) k.lim k.ls)) rfl)))
theorem zMm (HT:zO T t) (B:BookIn J b e h (us.map Or.v) hs) (hok:∀ u ∈ us,u.ok) (hu:us[o]?=some u) {p:Int}:zA T (d+4) false 5 [.ref b,dM o p n] J=.ok (.int (0 - u.owed)) J:=
 have k:=hok u (List.mem_of_getElem? hu)
 zG HT.b5 rfl (s_f rfl (zH (zE rfl (zd rfl B.isInst rfl (zF0 HT B (wW hu) k.lim k.ls)) rfl)))
theorem zES (HT:zO T t) (B:BookIn J b e h (us.map Or.v) hs) (hok:∀ u ∈ us,u.ok) (o n:Int):zA T (d+5) false 4 [.ref b,dR o n] J=yf J (zB2 us o n):=by
 show _=yf J (zEr n (atI us o))
 cases ho:atI us o with
 | none=>exact zS HT.b4 rfl (zAK HT B rfl rfl (zBW ho))
 | some u =>
  obtain ⟨o,rfl,hu⟩:=zg ho
  exact zCl HT (vF HT B rfl rfl (jQ hu) (s_f rfl (s_f rfl (zCS rfl rfl rfl rfl B.isInst (zMn HT B hok hu)))))
theorem zEQ (HT:zO T t) (B:BookIn J b e h (us.map Or.v) hs) (hok:∀ u ∈ us,u.ok) (o p n:Int):zA T (d+5) false 4 [.ref b,dM o p n] J=yf J (zB0 us o p n):=by
 show _=yf J (zEo us o p n (atI us o))
 cases ho:atI us o with
 | none=>exact zS HT.b4 rfl (zAK HT B rfl rfl (zBW ho))
 | some u =>
  obtain ⟨o,rfl,hu⟩:=zg ho
  show _=yf J (zEp u o p n (atI us p))
  cases hp:atI us p with
  | none=>exact zS HT.b4 rfl (vF HT B rfl rfl (jQ hu) (s_t rfl (zAK HT B rfl rfl (zBW hp))))
  | some u' =>
   obtain ⟨p,rfl,hu'⟩:=zg hp
   show _=yf J (if (o:Int)==p then some .SameOrder else wX n (0 - u.owed))
   have pre:∀ {r:R Fl},exL (zA T (d+4) false) (zA T (d+4) true) false (.ite (.p2 .eq (.p2 .index (.var 1) (.lit (.int 1))) (.p2 .index (.var 1) (.lit (.int 2)))) [.raise .SameOrder] [] :: fB_4.body.drop 2) [.ref b,dM o p n] J=r->exL (zA T (d+4) false) (zA T (d+4) true) false fB_4.body [.ref b,dM o p n] J=r:=fun k =>
    vF HT B rfl rfl (jQ hu) (s_t rfl (vF HT B rfl rfl (jQ hu') k))
   cases hop:((o:Int)==p) with
   | true=>exact zS HT.b4 rfl (pre (s_t (zC (zE rfl rfl (show ev2 .eq J (.int o) (.int p)=_ by rw [wY,hop]))) rfl))
   | false=>exact zCl HT (pre (s_f (zC (zE rfl rfl (show ev2 .eq J (.int o) (.int p)=_ by rw [wY,hop]))) (s_f rfl (zCS rfl rfl rfl rfl B.isInst (zMm HT B hok hu)))))
end
end Mine
end

section
namespace Mine
open PySem
section
variable {T:Nat->Option Fn} {t:Bool} {F Fq:Calls} {d:Nat} {q:Bool} {J:Sto} {b e h:Nat} {us:List Or} {hs:List V} {H:List V} {o p:Nat} {n:Int} {u u':Or}
theorem zK2 (B:BookIn J b e h (us.map Or.v) hs) (h0:zK H 0=some (.ref b)) {c:CE} (hc:∀ J,evE F q c H J=.ok (.int o) J) (hu:us[o]?=some u) :
  evE F q (.dict1 c (.p2 .index (.attr (.var 0) 0) c)) H J=.ok (.ref J.length) (J++[.dict [((o:Int),u.v)]]):=by
 rw [zEM,hc,R.bind_ok,xt (B.push (.dict [])) h0 (hc _) (wW hu),R.bind_ok]
 show zBx J.length (J++[.dict []]) o u.v (J++[.dict []])[J.length]?=_
 rw [yx]
 show R.ok (V.ref J.length) ((J++[O.dict []]).set J.length (O.dict [((o:Int),u.v)]))=_
 rw [kO]
theorem zGj {J0:Sto} {old:List (Int × V)} {deed:V} {rest:List CS} {r:R Fl} (B:BookIn (J0++[.dict old]) b e h (us.map Or.v) hs) (h0:zK H 0=some (.ref b)) (h1:zK H 1=some deed) (h4:zK H 4=some (.ref J0.length)) (hh:hs.length < LIM)
  (k:exL F Fq q rest H (yU J0 h hs deed old)=r):exL F Fq q (.exp (.append (.attr (.var 0) 1) (.tup [.var 1,.var 4])) :: rest) H (J0++[.dict old])=r:=
 ym (zp (zHN B h0) (by show (xI _).isSome=true; rw [B.his]; rfl) (yk (zD (by rw [zu,h1]; rfl) (zD (by rw [zu,h4]; rfl) rfl))) (zk _ B.his hh)) k
theorem zIF (HT:zO T t) (B:BookIn J b e h (us.map Or.v) hs) (hu:us[o]?=some u) (hr:u.rows.length < LIM) (hh:hs.length < LIM) :
  zA T (d+2) false 6 [.ref b,dP o n] J=.ok (rv t ((yU J h hs (dP o n) [((o:Int),u.v)]).set e (.list ((us.set o (xC u xK n)).map Or.v))) [.tup [.int o,.int (0 - n)]]) (rs t ((yU J h hs (dP o n) [((o:Int),u.v)]).set e (.list ((us.set o (xC u xK n)).map Or.v))) [.tup [.int o,.int (0 - n)]]):=by
 have B2:=B.push (.dict [((o:Int),u.v)])
 have B3:BookIn (yU J h hs (dP o n) [((o:Int),u.v)]) b e h (us.map Or.v) (hs++[.tup [dP o n,.ref J.length]]):=B2.setH _
 exact zG HT.b6 rfl (zL (v:=.str xK) rfl (zL (v:=.int n) rfl (zL (zK2 B rfl (fun _=>rfl) hu) (s_f rfl (zGj B2 rfl rfl rfl hh (s_f rfl (s_t rfl (zH (zEm (zD (zd rfl B3.isInst rfl (zBX HT B3 hu xK n hr)) rfl))))))))))
theorem zIG (HT:zO T t) (B:BookIn J b e h (us.map Or.v) hs) (hu:us[o]?=some u) (hr:u.rows.length < LIM) (hh:hs.length < LIM) :
  zA T (d+2) false 6 [.ref b,dR o n] J=.ok (rv t ((yU J h hs (dR o n) [((o:Int),u.v)]).set e (.list ((us.set o (xC u xz (0 - n))).map Or.v))) [.tup [.int o,.int (0 - (0 - n))]]) (rs t ((yU J h hs (dR o n) [((o:Int),u.v)]).set e (.list ((us.set o (xC u xz (0 - n))).map Or.v))) [.tup [.int o,.int (0 - (0 - n))]]):=by
 have B2:=B.push (.dict [((o:Int),u.v)])
 have B3:BookIn (yU J h hs (dR o n) [((o:Int),u.v)]) b e h (us.map Or.v) (hs++[.tup [dR o n,.ref J.length]]):=B2.setH _
 exact zG HT.b6 rfl (zL (v:=.str xz) rfl (zL (v:=.int n) rfl (zL (zK2 B rfl (fun _=>rfl) hu) (s_f rfl (zGj B2 rfl rfl rfl hh (s_f rfl (s_f rfl (s_t rfl (zH (zEm (zD (zd rfl B3.isInst rfl (zBX HT B3 hu xz (0 - n) hr)) rfl)))))))))))
noncomputable def vL (us:List Or) (o p:Nat) (u u':Or) (n:Int):List Or:=(us.set o (xC u zx (0 - n))).set p (xC u' zx n)
theorem zKK {J:Sto} {i:Nat} {x y:O}:(J.set i x).set i y=J.set i y:=List.set_set ..
theorem zIE (HT:zO T t) (B:BookIn J b e h (us.map Or.v) hs) (hu:us[o]?=some u) (hu':us[p]?=some u') (hop:o ≠ p) (hr:u.rows.length < LIM) (hr':u'.rows.length < LIM) (hh:hs.length < LIM) :
  zA T (d+2) false 6 [.ref b,dM o p n] J=.ok (rv t ((yU J h hs (dM o p n) [((o:Int),u.v),((p:Int),u'.v)]).set e (.list ((vL us o p u u' n).map Or.v))) [.tup [.int o,.int (0 - (0 - n))],.tup [.int p,.int (0 - n)]]) (rs t ((yU J h hs (dM o p n) [((o:Int),u.v),((p:Int),u'.v)]).set e (.list ((vL us o p u u' n).map Or.v))) [.tup [.int o,.int (0 - (0 - n))],.tup [.int p,.int (0 - n)]]):=by
 have B1:=B.push (.dict [((o:Int),u.v)])
 have B2:=B.push (.dict [((o:Int),u.v),((p:Int),u'.v)])
 have B3:BookIn (yU J h hs (dM o p n) [((o:Int),u.v),((p:Int),u'.v)]) b e h (us.map Or.v) (hs++[.tup [dM o p n,.ref J.length]]):=B2.setH _
 have B4:=B3.setE ((us.set o (xC u zx (0 - n))).map Or.v)
 have hp2:(us.set o (xC u zx (0 - n)))[p]?=some u':=by rw [List.getElem?_set_ne hop]; exact hu'
 refine zG HT.b6 rfl (zL (v:=.str zx) rfl (zL (v:=.int n) rfl (zL (zK2 B rfl (fun _=>rfl) hu) (s_t rfl ?_))))
 refine xU (J':=J++[.dict [((o:Int),u.v),((p:Int),u'.v)]]) (xt B1 rfl rfl (wW hu')) rfl rfl ?_ ?_
 ·show zA5 (J++[.dict [((o:Int),u.v)]]) J.length p u'.v (J++[.dict [((o:Int),u.v)]])[J.length]?=_
  rw [yx]
  show (if 1 < LIM then R.ok () ((J++[O.dict [((o:Int),u.v)]]).set J.length (.dict (wA [((o:Int),u.v)] p u'.v))) else .stuck)=_
  rw [if_pos (by decide),kO]
  have hne:((o:Int)==(p:Int))=false:=by rw [beq_eq_false_iff_ne]; exact fun e=>hop (Int.ofNat_inj.mp e)
  unfold wA
  rw [show ([((o:Int),u.v)].any fun q=>q.1==(p:Int))=false by show (((o:Int)==(p:Int))||false)=false; rw [hne]; rfl]
  rfl
 ·refine zGj B2 rfl rfl rfl hh (s_t rfl (zH (zEm (zD (zd rfl B3.isInst rfl (zBX HT B3 hu zx (0 - n) hr)) (zD (zd rfl B4.isInst rfl ?_) rfl)))))
  rw [zBX HT B4 hp2 zx n hr',zKK]; rfl
theorem zHL {F Fq:Calls} {o n:Int} {r:R Fl} (kk:exL F Fq false (fB_2.body.drop 2) [.ref b,dP o n] J=r):exL F Fq false fB_2.body [.ref b,dP o n] J=r:=s_f rfl (s_f rfl kk)
theorem zHM {F Fq:Calls} {o n:Int} {r:R Fl} (kk:exL F Fq false (fB_2.body.drop 2) [.ref b,dR o n] J=r):exL F Fq false fB_2.body [.ref b,dR o n] J=r:=s_f rfl (s_f rfl kk)
theorem zHK {F Fq:Calls} {o p n:Int} {r:R Fl} (kk:exL F Fq false (fB_2.body.drop 2) [.ref b,dM o p n] J=r):exL F Fq false fB_2.body [.ref b,dM o p n] J=r:=s_f rfl (s_f rfl kk)
theorem zO1 (HT:zO T t) (B:BookIn J b e h (us.map Or.v) hs) {o n:Int} {c:Cls} (he:zB1 us o n=some c):zA T (d+3) false 2 [.ref b,dP o n] J=.exc c J:=
 zS HT.b2 rfl (zHL (zA2 (zd rfl B.isInst rfl ((zER HT B o n).trans (by rw [he]; rfl)))))
theorem zO3 (HT:zO T t) (B:BookIn J b e h (us.map Or.v) hs) (hok:∀ u ∈ us,u.ok) {o n:Int} {c:Cls} (he:zB2 us o n=some c):zA T (d+6) false 2 [.ref b,dR o n] J=.exc c J:=
 zS HT.b2 rfl (zHM (zA2 (zd rfl B.isInst rfl ((zES HT B hok o n).trans (by rw [he]; rfl)))))
theorem zOy (HT:zO T t) (B:BookIn J b e h (us.map Or.v) hs) (hok:∀ u ∈ us,u.ok) {o p n:Int} {c:Cls} (he:zB0 us o p n=some c):zA T (d+6) false 2 [.ref b,dM o p n] J=.exc c J:=
 zS HT.b2 rfl (zHK (zA2 (zd rfl B.isInst rfl ((zEQ HT B hok o p n).trans (by rw [he]; rfl)))))
theorem zO0 (HT:zO T t) (B:BookIn J b e h (us.map Or.v) hs) (he:zB1 us o n=none) (hu:us[o]?=some u) (hr:u.rows.length < LIM) (hh:hs.length < LIM) :
  zA T (d+3) false 2 [.ref b,dP o n] J=.ok (rv t ((yU J h hs (dP o n) [((o:Int),u.v)]).set e (.list ((us.set o (xC u xK n)).map Or.v))) [.tup [.int o,.int (0 - n)]]) (rs t ((yU J h hs (dP o n) [((o:Int),u.v)]).set e (.list ((us.set o (xC u xK n)).map Or.v))) [.tup [.int o,.int (0 - n)]]):=
 zG HT.b2 rfl (zHL (ym (zd rfl B.isInst rfl ((zER HT B o n).trans (by rw [he]; rfl))) (zH (zd rfl B.isInst rfl (zIF HT B hu hr hh)))))
theorem zO2 (HT:zO T t) (B:BookIn J b e h (us.map Or.v) hs) (hok:∀ u ∈ us,u.ok) (he:zB2 us o n=none) (hu:us[o]?=some u) (hr:u.rows.length < LIM) (hh:hs.length < LIM) :
  zA T (d+6) false 2 [.ref b,dR o n] J=.ok (rv t ((yU J h hs (dR o n) [((o:Int),u.v)]).set e (.list ((us.set o (xC u xz (0 - n))).map Or.v))) [.tup [.int o,.int (0 - (0 - n))]]) (rs t ((yU J h hs (dR o n) [((o:Int),u.v)]).set e (.list ((us.set o (xC u xz (0 - n))).map Or.v))) [.tup [.int o,.int (0 - (0 - n))]]):=
 zG HT.b2 rfl (zHM (ym (zd rfl B.isInst rfl ((zES HT B hok o n).trans (by rw [he]; rfl))) (zH (zd rfl B.isInst rfl (zIG HT B hu hr hh)))))
theorem zOx (HT:zO T t) (B:BookIn J b e h (us.map Or.v) hs) (hok:∀ u ∈ us,u.ok) (he:zB0 us o p n=none) (hu:us[o]?=some u) (hu':us[p]?=some u') (hop:o ≠ p) (hr:u.rows.length < LIM) (hr':u'.rows.length < LIM) (hh:hs.length < LIM) :
  zA T (d+6) false 2 [.ref b,dM o p n] J=.ok (rv t ((yU J h hs (dM o p n) [((o:Int),u.v),((p:Int),u'.v)]).set e (.list ((vL us o p u u' n).map Or.v))) [.tup [.int o,.int (0 - (0 - n))],.tup [.int p,.int (0 - n)]]) (rs t ((yU J h hs (dM o p n) [((o:Int),u.v),((p:Int),u'.v)]).set e (.list ((vL us o p u u' n).map Or.v))) [.tup [.int o,.int (0 - (0 - n))],.tup [.int p,.int (0 - n)]]):=
 zG HT.b2 rfl (zHK (ym (zd rfl B.isInst rfl ((zEQ HT B hok o p n).trans (by rw [he]; rfl))) (zH (zd rfl B.isInst rfl (zIE HT B hu hu' hop hr hr' hh)))))
end
end Mine
end

section
namespace Mine
open PySem
noncomputable def zGG:Fn:={ params:=1,slots:=1,body:=[.ret (.and (.p1 (.isInst .int) (.var 0)) (.p1 .not (.p1 (.isInst .bool) (.var 0))))] }
noncomputable def zGF:Fn:={ params:=3,slots:=4,body:=[.asg 3 (.p2 .mod (.p2 .mod (.p2 .mul (.var 0) (.lit (.int 48271))) (.var 1)) (.lit (.int 11))),.ite (.p2 .eq (.var 3) (.lit (.int 0))) [.ret (.p2 .sub (.p1 .neg (.lit (.int 1))) (.p2 .mod (.var 0) (.lit (.int 3))))] [],.ite (.p2 .eq (.var 3) (.lit (.int 1))) [.ret (.p2 .add (.var 2) (.p2 .mod (.var 0) (.lit (.int 2))))] [],.ret (.p2 .mod (.p2 .mod (.p2 .mul (.var 0) (.lit (.int 48271))) (.p2 .add (.var 1) (.lit (.int 2)))) (.p2 .max (.lit (.int 1)) (.var 2)))] }
noncomputable def zDx:Fn:={ params:=2,slots:=3,body:=[.asg 2 (.p2 .mod (.p2 .mod (.p2 .mul (.var 0) (.lit (.int 48271))) (.lit (.int 10061))) (.lit (.int 8))),.ite (.p2 .eq (.var 2) (.lit (.int 0))) [.ret (.p1 .neg (.p2 .mod (.var 0) (.lit (.int 3))))] [],.ite (.p2 .eq (.var 2) (.lit (.int 1))) [.ret (.p2 .add (.var 1) (.lit (.int 1)))] [],.ite (.or (.p2 .eq (.var 2) (.lit (.int 2))) (.p2 .eq (.var 2) (.lit (.int 3)))) [.ret (.var 1)] [],.ite (.p2 .eq (.var 2) (.lit (.int 4))) [.ret (.p2 .add (.lit (.int 1)) (.p2 .mod (.var 0) (.p2 .pow (.lit (.int 10)) (.lit (.int 13)))))] [],.ret (.p2 .add (.lit (.int 1)) (.p2 .mod (.var 0) (.p2 .max (.lit (.int 1)) (.var 1))))] }
noncomputable def zEy:Fn:={ params:=1,slots:=2,body:=[.asg 1 (.lit (.str { cps:=#[97,98,99,100,101,102,103,104,105,106,107,108,109,110,111,112,113,114,115,116,117,118,119,120,121,122] })),.ret (.sm .join (.lit (.str { cps:=#[] })) (.comp (.p2 .index (.var 1) (.p2 .mod (.p2 .add (.p2 .add (.p2 .fdiv (.var 0) (.lit (.int 26))) (.p2 .mul (.lit (.int 7)) (.var 2))) (.var 0)) (.lit (.int 26)))) .range1 [.p2 .add (.lit (.int 1)) (.p2 .mod (.p2 .mod (.p2 .mul (.var 0) (.lit (.int 48271))) (.lit (.int 10079))) (.lit (.int 12)))] none))] }
noncomputable def zAW (it:Nat):Fn:={ params:=1,slots:=6,body:=[.asg 1 (.trk (.list [])),.asg 2 (.p2 .add (.lit (.int 1)) (.p2 .mod (.p2 .mod (.p2 .mul (.var 0) (.lit (.int 48271))) (.lit (.int 10067))) (.lit (.int 3)))),.ite (.p2 .eq (.p2 .mod (.p2 .mod (.p2 .mul (.var 0) (.lit (.int 48271))) (.lit (.int 10111))) (.lit (.int 9))) (.lit (.int 1))) [.asg 2 (.p2 .add (.lit (.int 1)) (.p2 .mod (.var 0) (.lit (.int 20))))] [],.for 3 .range1 [.var 2] [.asg 4 (.p2 .add (.p2 .fdiv (.var 0) (.p2 .add (.var 3) (.lit (.int 1)))) (.p2 .mul (.lit (.int 5)) (.var 3))),.asg 5 (.call it [.var 4]),.ite (.p2 .eq (.p2 .mod (.p2 .mod (.p2 .mul (.var 0) (.lit (.int 48271))) (.lit (.int 10141))) (.lit (.int 3))) (.lit (.int 0))) [.asg 5 (.call it [.p2 .fdiv (.var 0) (.lit (.int 7))])] [],.ite (.p2 .eq (.p2 .mod (.p2 .mod (.p2 .mul (.var 0) (.lit (.int 48271))) (.lit (.int 10069))) (.lit (.int 5))) (.lit (.int 1))) [.exp (.append (.var 1) (.tup [.var 5,.p2 .add (.lit (.int 1)) (.p2 .mod (.var 4) (.lit (.int 1000000))),.p2 .mod (.p2 .mul (.var 4) (.lit (.int 48271))) (.lit (.int 1000000001)),.p2 .add (.lit (.int 1)) (.p2 .mod (.var 4) (.lit (.int 1000)))]))] [.exp (.append (.var 1) (.tup [.var 5,.p2 .add (.lit (.int 1)) (.p2 .mod (.var 4) (.lit (.int 9))),.p2 .mod (.p2 .mod (.p2 .mul (.var 4) (.lit (.int 48271))) (.lit (.int 10091))) (.lit (.int 200)),.p2 .add (.lit (.int 1)) (.p2 .mod (.p2 .fdiv (.var 4) (.lit (.int 9))) (.lit (.int 4)))]))]],.ret (.var 1)] }
end Mine
end

section
namespace Mine
open PySem
theorem yg (a:Int) {m:Int} (h:0 < m):0 <= a.fmod m /\ a.fmod m < m:=⟨Int.fmod_nonneg_of_pos a h,Int.fmod_lt_of_pos a h⟩
theorem jc (a:Int) {m:Nat} (h:0 < m):∃ k:Nat,a.fmod (m:Int)=k /\ k < m:=by
 obtain ⟨h1,h2⟩:=yg a (m:=(m:Int)) (Int.natCast_pos.mpr h)
 exact ⟨(a.fmod (m:Int)).toNat,(Int.toNat_of_nonneg h1).symm,(Int.toNat_lt h1).mpr h2⟩
theorem zCG (a:Int) {m:Nat} (hm:0 < m):∃ n:Nat,1+a.fmod (m:Int)=(n:Int) /\ 1 <= n /\ n <= m:=by
 obtain ⟨z,hz,hlt⟩:=jc a hm
 exact ⟨1+z,by rw [hz]; rfl,Nat.le_add_right 1 z,Nat.add_comm 1 z ▸ hlt⟩
section
variable {F Fq:Calls} {q:Bool} {H:List V} {J:Sto}
theorem zIU {a b:CE} {s t:Bool} (ha:evE F q a H J=.ok (.bool s) J) (hb:evE F q b H J=.ok (.bool t) J):evE F q (.or a b) H J=.ok (.bool (s||t)) J:=by
 cases s with
 | true=>exact xX ha rfl
 | false=>exact zW ha rfl hb
theorem zQt {a b:CE} {s t:Bool} (ha:evE F q a H J=.ok (.bool s) J) (hb:evE F q b H J=.ok (.bool t) J):evE F q (.and a b) H J=.ok (.bool (s&&t)) J:=by
 cases s with
 | true=>exact yJ ha rfl hb
 | false=>exact yP ha rfl
theorem xJ {a b m:CE} {c p z:Int} (ha:evE F q a H J=.ok (.int c) J) (hb:evE F q b H J=.ok (.int p) J) (hm:evE F q m H J=.ok (.int z) J) (hp:(p==0)=false) (hz:(z==0)=false):evE F q (.p2 .mod (.p2 .mod (.p2 .mul a (.lit (.int 48271))) b) m) H J=.ok (.int (((c * 48271).fmod p).fmod z)) J:=
 zE (zE (zE ha rfl (yW J c 48271 (.inr rfl))) hb (wO J _ p hp)) hm (wO J _ z hz)
theorem zLb (m:Int):((if m > 1 then m else 1)==0)=false:=by
 rw [beq_eq_false_iff_ne]
 by_cases h:m > 1
 ·rw [if_pos h]; exact fun e=>absurd (e ▸ h) (by decide)
 ·rw [if_neg h]; decide
end
section
variable {T:Nat->Option Fn} {d k:Nat} {q:Bool} {J:Sto}
theorem zHV (h:T k=some zGG) (i:Int):zA T (d+1) q k [.int i] J=.ok (.bool true) J:=zG h rfl (zH rfl)
theorem zFA:∀ cs:List Nat,Str.join (mkS []) (cs.map fun c=>mkS [c])=mkS cs
 | []=>rfl
 | [c]=>rfl
 | c :: c' :: r=>by
  show mkS [c]++mkS []++Str.join (mkS []) ((c' :: r).map fun c=>mkS [c])=_
  rw [zFA (c' :: r)]
  show (⟨(mkS [c]).cps++(mkS []).cps++(mkS (c' :: r)).cps⟩:Str)=_
  simp [mkS]
theorem zFc:∀ cs:List Nat,strs? (cs.map fun c=>V.str (mkS [c]))=some (cs.map fun c=>mkS [c])
 | []=>rfl
 | c :: r=>by
  have:=zFc r
  unfold strs? at this ⊢
  rw [List.map_cons,List.mapM_cons,this]; rfl
theorem zHb:∀ cs:List Nat,((cs.map fun c=>mkS [c]).map fun x:Str=>x.length).sum=cs.length
 | []=>rfl
 | c :: r=>by
  rw [List.map_cons,List.map_cons,List.sum_cons,zHb r,List.length_cons]
  exact Nat.add_comm 1 _
theorem zNI {cs:List Nat} (h:cs.length <= 100000):ev2 .join J (.str (mkS [])) (.lst (cs.map fun c=>.str (mkS [c])))=some (.str (mkS cs)):=by
 show ((strs? (cs.map fun c=>V.str (mkS [c]))).bind fun l=>if (l.map (·.length)).sum+l.length * (mkS []).length <= 100000 then some (V.str (Txt.join (mkS []) l)) else none)=_
 rw [zFc]
 show (if ((cs.map fun c=>mkS [c]).map fun x:Str=>x.length).sum+(cs.map fun c=>mkS [c]).length * 0 <= 100000 then some (V.str (Txt.join (mkS []) (cs.map fun c=>mkS [c]))) else none)=_
 rw [zHb,Nat.mul_zero,Nat.add_zero,if_pos h]
 show some (V.str (Builtin.Str.glued (mkS []) (cs.map fun c=>mkS [c])))=_
 rw [StrLaws.glued_eq_join,zFA]
noncomputable def yz (j:Nat):Nat:=(zR yi).getD j 97
theorem zFD {j:Nat} (h:j < 26):zy (yz j)=true /\ yz j < 128:=by
 have:∀ j:Fin 26,zy (yz j)=true /\ yz j < 128:=by decide
 exact this ⟨j,h⟩
theorem zIf {j:Nat} (h:j < 26):ev2 .index J (.str yi) (.int (j:Int))=some (.str (mkS [yz j])):=by
 show ((ze 26 (j:Int)).bind fun k=>(zR yi)[k]?.map fun c=>V.str (mkS [c]))=_
 rw [xH h]
 show ((zR yi)[j]?.map fun c=>V.str (mkS [c]))=_
 have:j < (zR yi).length:=h
 rw [List.getElem?_eq_getElem this]
 unfold yz
 rw [List.getD_eq_getElem?_getD,List.getElem?_eq_getElem this]; rfl
theorem zIa {cs:List Nat} (h1:1 <= cs.length) (h2:cs.length <= 12) (h:∀ c ∈ cs,zy c=true /\ c < 128):zh (mkS cs)=true /\ (mkS cs).cps.all (· < 128)=true:=by
 have hl:(mkS cs).length=cs.length:=by simp [mkS,Str.length]
 have hc:zR (mkS cs)=cs:=by simp [zR,mkS]
 refine ⟨?_,?_⟩
 ·unfold zh
  rw [hl,hc,decide_eq_true h1,decide_eq_true h2,List.all_eq_true.mpr fun c hm=>(h c hm).1]; rfl
 ·show cs.toArray.all _=true
  rw [List.all_toArray,List.all_eq_true]
  intro c hm
  exact decide_eq_true (h c hm).2
noncomputable def jN (c:Int) (k:Nat):Nat:=((c.fdiv 26+7 * (k:Int)+c).fmod 26).toNat
theorem zCs (c:Int) (k:Nat):jN c k < 26:=by
 obtain ⟨h1,h2⟩:=yg (c.fdiv 26+7 * (k:Int)+c) (m:=26) (by decide)
 exact (Int.toNat_lt h1).mpr h2
theorem zLJ (h:T k=some zEy) (c:Int):∃ s:Str,zh s=true /\ s.cps.all (· < 128)=true /\ zA T (d+1) false k [.int c] J=.ok (.str s) J:=by
 obtain ⟨n,hn,h1,h2⟩:=zCG ((c * 48271).fmod 10079) (m:=12) (by decide)
 replace hn:1+((c * 48271).fmod 10079).fmod 12=(n:Int):=hn
 have hcs:∀ x ∈ (List.range n).map fun j=>yz (jN c j),zy x=true /\ x < 128:=fun x hx=>by
  obtain ⟨j,_,rfl⟩:=List.mem_map.mp hx
  exact zFD (zCs c j)
 have hlen:((List.range n).map fun j=>yz (jN c j)).length=n:=by rw [List.length_map,List.length_range]
 obtain ⟨g1,g2⟩:=zIa (hlen.symm ▸ h1) (hlen.symm ▸ h2) hcs
 refine ⟨_,g1,g2,zG h rfl (zL (v:=.str yi) rfl (zH ?_))⟩
 have e:=yw (F:=zA T d false) (elt:=.p2 .index (.var 1) (.p2 .mod (.p2 .add (.p2 .add (.p2 .fdiv (.var 0) (.lit (.int 26))) (.p2 .mul (.lit (.int 7)) (.var 2))) (.var 0)) (.lit (.int 26)))) (k:=.range1)
  (src:=[.p2 .add (.lit (.int 1)) (.p2 .mod (.p2 .mod (.p2 .mul (.var 0) (.lit (.int 48271))) (.lit (.int 10079))) (.lit (.int 12)))]) (cond:=none) (H:=[.int c,.str yi]) (vs:=[.int n]) (J:=J) (J1:=J) (it:=.now (zl 0 n)) (l:=List.range n) (φ:=fun j:Nat=>.int (0+(j:Int))) (fun _=>true) (fun j=>.str (mkS [yz (jN c j)]))
  (zD (by rw [zE rfl (xJ (c:=c) (p:=10079) (z:=12) rfl rfl rfl rfl rfl) rfl,hn]) rfl) (yG J (by show n <= LIM; exact Nat.le_trans h2 (by decide)))
  (.inl (by unfold zl; rw [Int.sub_zero,Int.toNat_natCast])) (by rw [List.length_range]; exact Nat.lt_of_le_of_lt h2 (by decide)) (fun _ _=>rfl) fun j hj _=>by
   rw [Int.zero_add]
   refine zE rfl (zE (zE (zE (zE rfl rfl (wh J c 26 rfl)) (zE rfl rfl (yW J 7 j (.inl rfl))) rfl) rfl rfl) rfl (wO J _ 26 rfl)) ?_
   have hx:(c.fdiv 26+7 * (j:Int)+c).fmod 26=(jN c j:Int):=by
    exact (Int.toNat_of_nonneg (yg _ (by decide)).1).symm
   rw [hx]
   exact zIf (zCs c j)
 rw [yZ,show (List.range n).map (fun j=>V.str (mkS [yz (jN c j)]))=((List.range n).map fun j=>yz (jN c j)).map fun x=>V.str (mkS [x]) by rw [List.map_map]; rfl] at e
 rw [zQS]
 show R.bind (evE (zA T d false) false (.comp _ _ _ _) [.int c,.str yi] J) (fun b J=>R.lift J (ev2 .join J (.str (mkS [])) b))=_
 rw [e]
 show R.lift J _=_
 rw [zNI (hlen.symm ▸ Nat.le_trans h2 (by decide))]; rfl
end
end Mine
end

section
namespace Mine
open PySem
theorem zL7 {lo hi:Int} {j:Nat} {x:V} (h:(zl lo hi)[j]?=some x):x=.int (lo+(j:Int)) /\ j < (hi - lo).toNat:=by
 unfold zl at h
 rw [List.getElem?_map] at h
 obtain ⟨k,hk,rfl⟩:=map_some h
 obtain ⟨h1,h2⟩:=List.getElem?_eq_some_iff.mp hk
 rw [List.getElem_range] at h2
 rw [List.length_range] at h1
 exact ⟨by rw [h2],h1⟩
theorem wp {n:Nat}:(zl 0 (n:Int)).length=n:=by
 unfold zl; rw [List.length_map,List.length_range,Int.sub_zero,Int.toNat_natCast]
theorem wF {n j:Nat} {x:V} (h:(zl 0 (n:Int))[j]?=some x):x=.int (j:Int) /\ j < n:=by
 obtain ⟨h1,h2⟩:=zL7 h
 rw [Int.zero_add] at h1
 rw [Int.sub_zero,Int.toNat_natCast] at h2
 exact ⟨h1,h2⟩
inductive Drawn (J:Sto) (c many:Int) (j:Nat):List V->Sto->Prop
 | mk (ls:List Ln) (x3 x4 x5:V) (hl:ls.length=j) (hg:∀ l ∈ ls,l.good):Drawn J c many j [.int c,.ref J.length,.int many,x3,x4,x5] (J++[.list (ls.map Ln.raw)])
noncomputable def wD (it:Nat):List CS:=match (zAW it).body with
 | [_,_,_,.for _ _ _ b,_]=>b
 | _=>[]
section
variable {T:Nat->Option Fn} {d k it:Nat} {q:Bool} {J:Sto}
theorem zOc {F Fq:Calls} {H:List V} {ls:List Ln} {l:Ln} {x:CE} {rest:List CS} {r:R Fl} (h1:zK H 1=some (.ref J.length)) (hl:ls.length < LIM) (hx:evE F q x H (J++[.list (ls.map Ln.raw)])=.ok l.raw (J++[.list (ls.map Ln.raw)])) (kk:exL F Fq q rest H (J++[.list ((ls++[l]).map Ln.raw)])=r) :
  exL F Fq q (.exp (.append (.var 1) x) :: rest) H (J++[.list (ls.map Ln.raw)])=r:=
 ym (zp (by rw [zu,h1]; rfl) (by show (xI _).isSome=true; rw [yx]; rfl) hx (zk _ yx (by rw [List.length_map]; exact hl))) (by rw [kO,show ls.map Ln.raw++[l.raw]=(ls++[l]).map Ln.raw by rw [List.map_append]; rfl]; exact kk)
theorem zBz {s:Str} {x y z:Int} (ha:zh s=true) (hb:s.cps.all (· < 128)=true) (x1:0 <= x) (x2:x < 1000000) (y1:0 <= y) (y2:y < 1000000001) (z1:0 <= z) (z2:z < 1000):({ item:=s,p:=1+x,c:=y,k:=1+z,s:=0,b:=0,a:=0,r:=0 }:Ln).good:=
 ⟨⟨Int.add_le_add_left x1 1,Int.add_comm x 1 ▸ x2,y1,Int.le_of_lt_add_one y2,Int.add_le_add_left z1 1,Int.add_comm z 1 ▸ z2⟩,ha,hb⟩
theorem zM3 (j:Nat) (hj:j < 20):((j:Int)+1==0||decide (1073741824 <= ((j:Int)+1).natAbs))=false:=by
 rw [Bool.or_eq_false_iff,beq_eq_false_iff_ne,decide_eq_false_iff_not]
 exact ⟨fun h=>(nomatch (h:((j+1:Nat):Int)=((0:Nat):Int))),fun h=>absurd (Nat.le_trans h hj) (by decide)⟩
theorem zGO (hi:T it=some zEy) {c many:Int} {j:Nat} {H:List V} {J':Sto} (hj:j < 20) (I:Drawn J c many j H J') :
  ∃ H' J'',exL (zA T (d+1) false) (zA T (d+1) true) false (wD it) (H.set 3 (.int j)) J'=.ok (.next H') J'' /\ Drawn J c many (j+1) H' J'':=by
 cases I with
 | mk ls x3 x4 x5 hl hg =>
 have hdiv:=zM3 j hj
 generalize hJ:J++[O.list (ls.map Ln.raw)]=J1
 generalize hm:c.fdiv ((j:Int)+1)+5 * (j:Int)=m
 obtain ⟨s1,a1,b1,e1⟩:=zLJ (d:=d) (J:=J1) hi m
 obtain ⟨s2,a2,b2,e2⟩:=zLJ (d:=d) (J:=J1) hi (c.fdiv 7)
 have pre:∃ s:Str,zh s=true /\ s.cps.all (· < 128)=true /\ ∀ {r:R Fl},exL (zA T (d+1) false) (zA T (d+1) true) false ((wD it).drop 3) [.int c,.ref J.length,.int many,.int j,.int m,.str s] J1=r ->
   exL (zA T (d+1) false) (zA T (d+1) true) false (wD it) [.int c,.ref J.length,.int many,.int j,x4,x5] J1=r:=by
  have p2:∀ {r:R Fl},exL (zA T (d+1) false) (zA T (d+1) true) false ((wD it).drop 2) [.int c,.ref J.length,.int many,.int j,.int m,.str s1] J1=r ->
    exL (zA T (d+1) false) (zA T (d+1) true) false (wD it) [.int c,.ref J.length,.int many,.int j,x4,x5] J1=r:=fun kk =>
   zL (v:=.int m) (by rw [<- hm]; exact zE (zE rfl rfl (wh J1 c _ hdiv)) (zE rfl rfl (yW J1 5 j (.inl rfl))) rfl) (zL (zI rfl e1) kk)
  cases ht:(((c * 48271).fmod 10141).fmod 3==0) with
  | true=>exact ⟨s2,a2,b2,fun kk=>p2 (s_t (zC (t:=true) (zE (xJ (c:=c) rfl rfl rfl rfl rfl) rfl (by rw [wY,ht]))) (zL (zI (zD (zE rfl rfl (wh J1 c 7 rfl)) rfl) e2) kk))⟩
  | false=>exact ⟨s1,a1,b1,fun kk=>p2 (s_f (zC (t:=false) (zE (xJ (c:=c) rfl rfl rfl rfl rfl) rfl (by rw [wY,ht]))) kk)⟩
 obtain ⟨s,ha,hb,pre⟩:=pre
 have hlim:ls.length < LIM:=Nat.lt_trans (hl.symm ▸ hj) (by decide)
 have add:∀ l:Ln,l.good->(∀ x ∈ ls++[l],x.good):=fun l hl x hx=>by
  rcases List.mem_append.mp hx with hx | hx
  ·exact hg x hx
  ·rw [List.mem_singleton.mp hx]; exact hl
 have hlen:∀ l:Ln,(ls++[l]).length=j+1:=fun l=>by rw [List.length_append,hl]; rfl
 have m48:ev2 .mul J1 (.int m) (.int 48271)=some (.int (m * 48271)):=yW J1 m 48271 (.inr rfl)
 cases ht:(((c * 48271).fmod 10069).fmod 5==1) with
 | true =>
  have hg':({ item:=s,p:=1+m.fmod 1000000,c:=(m * 48271).fmod 1000000001,k:=1+m.fmod 1000,s:=0,b:=0,a:=0,r:=0 }:Ln).good:=
   have p:=yg m (m:=1000000) (by decide)
   have q:=yg (m * 48271) (m:=1000000001) (by decide)
   have r:=yg m (m:=1000) (by decide)
   zBz ha hb p.1 p.2 q.1 q.2 r.1 r.2
  refine ⟨_,_,pre (s_t (zC (t:=true) (zE (xJ (c:=c) rfl rfl rfl rfl rfl) rfl (by rw [wY,ht]))) (by rw [<- hJ]; rw [<- hJ] at m48; exact zOc (l:={ item:=s,p:=1+m.fmod 1000000,c:=(m * 48271).fmod 1000000001,k:=1+m.fmod 1000,s:=0,b:=0,a:=0,r:=0 }) rfl hlim (yk (zD rfl (zD (zE rfl (zE rfl rfl rfl) rfl) (zD (zE (zE rfl rfl m48) rfl rfl) (zD (zE rfl (zE rfl rfl rfl) rfl) rfl))))) rfl)),?_⟩
  exact .mk _ _ _ _ (hlen _) (add _ hg')
 | false =>
  have hg':({ item:=s,p:=1+m.fmod 9,c:=((m * 48271).fmod 10091).fmod 200,k:=1+(m.fdiv 9).fmod 4,s:=0,b:=0,a:=0,r:=0 }:Ln).good:=
   have p:=yg m (m:=9) (by decide)
   have q:=yg ((m * 48271).fmod 10091) (m:=200) (by decide)
   have r:=yg (m.fdiv 9) (m:=4) (by decide)
   zBz ha hb p.1 (Int.lt_trans p.2 (by decide)) q.1 (Int.lt_trans q.2 (by decide)) r.1 (Int.lt_trans r.2 (by decide))
  refine ⟨_,_,pre (s_f (zC (t:=false) (zE (xJ (c:=c) rfl rfl rfl rfl rfl) rfl (by rw [wY,ht]))) (by rw [<- hJ]; rw [<- hJ] at m48; exact zOc (l:={ item:=s,p:=1+m.fmod 9,c:=((m * 48271).fmod 10091).fmod 200,k:=1+(m.fdiv 9).fmod 4,s:=0,b:=0,a:=0,r:=0 }) rfl hlim (yk (zD rfl (zD (zE rfl (zE rfl rfl rfl) rfl) (zD (zE (zE (zE rfl rfl m48) rfl rfl) rfl rfl) (zD (zE rfl (zE (zE rfl rfl rfl) rfl rfl) rfl) rfl))))) rfl)),?_⟩
  exact .mk _ _ _ _ (hlen _) (add _ hg')
theorem zND (h:T k=some (zAW it)) (hi:T it=some zEy) (c:Int):∃ ls:List Ln,1 <= ls.length /\ ls.length <= 20 /\ (∀ l ∈ ls,l.good) /\ zA T (d+2) false k [.int c] J=.ok (.ref J.length) (J++[.list (ls.map Ln.raw)]):=by
 have pre:∃ n:Nat,1 <= n /\ n <= 20 /\ ∀ {r:R Fl},exL (zA T (d+1) false) (zA T (d+1) true) false ((zAW it).body.drop 3) [.int c,.ref J.length,.int n,.undef,.undef,.undef] (J++[.list (([]:List Ln).map Ln.raw)])=r ->
   exL (zA T (d+1) false) (zA T (d+1) true) false (zAW it).body [.int c,.undef,.undef,.undef,.undef,.undef] J=r:=by
  cases ht:(((c * 48271).fmod 10111).fmod 9==1) with
  | true =>
   obtain ⟨n,hn,h1,h2⟩:=zCG c (m:=20) (by decide)
   replace hn:1+c.fmod 20=(n:Int):=hn
   refine ⟨n,h1,h2,fun kk=>zL rfl (zL (zE rfl (xJ (c:=c) rfl rfl rfl rfl rfl) rfl) (s_t (zC (t:=true) (zE (xJ (c:=c) rfl rfl rfl rfl rfl) rfl (by rw [wY,ht]))) (zL (v:=.int n) (by rw [<- hn]; exact zE rfl (zE rfl rfl rfl) rfl) kk)))⟩
  | false =>
   obtain ⟨n,hn,h1,h2⟩:=zCG ((c * 48271).fmod 10067) (m:=3) (by decide)
   replace hn:1+((c * 48271).fmod 10067).fmod 3=(n:Int):=hn
   refine ⟨n,h1,Nat.le_trans h2 (by decide),fun kk=>zL rfl (zL (v:=.int n) (by rw [<- hn]; exact zE rfl (xJ (c:=c) rfl rfl rfl rfl rfl) rfl) (s_f (zC (t:=false) (zE (xJ (c:=c) rfl rfl rfl rfl rfl) rfl (by rw [wY,ht]))) kk))⟩
 obtain ⟨n,h1,h2,pre⟩:=pre
 obtain ⟨H',J',e,I⟩:=wZ (F:=zA T (d+1) false) (Fq:=zA T (d+1) true) (i:=3) (k:=.range1) (src:=[.var 2]) (body:=wD it) (H:=[.int c,.ref J.length,.int n,.undef,.undef,.undef]) (vs:=[.int n]) (J:=J++[.list (([]:List Ln).map Ln.raw)]) (J1:=J++[.list (([]:List Ln).map Ln.raw)]) (it:=.now (zl 0 n)) (xs:=zl 0 n)
  (Drawn J c n) rfl (yG _ (by show n <= LIM; exact Nat.le_trans h2 (by decide))) (fun _ _ _ _=>.inl rfl) (.mk [] _ _ _ rfl (fun l hl=>nomatch hl)) fun j x H J' hx I=>by
   obtain ⟨rfl,hj⟩:=wF hx
   exact zGO hi (Nat.lt_of_lt_of_le hj h2) I
 rw [wp] at I
 cases I with
 | mk ls x3 x4 x5 hl hg =>
 refine ⟨ls,hl ▸ h1,hl ▸ h2,hg,zG h rfl (pre ?_)⟩
 show exL _ _ false (_ :: _) _ _=_
 rw [yI]
 exact (congrArg (fun r=>R.bind r (zCU _ _ false _)) e).trans rfl
end
end Mine
end

section
namespace Mine
open PySem
set_option genCtorIdx true in
inductive Deed where
 | ord (ls:List Ln)
 | pay (o n:Int)
 | ref (o n:Int)
 | mov (o p n:Int)
 | lin (w:Wd) (o k n:Int)
noncomputable def Deed.v:Deed->V
 | .ord ls=>dO ls
 | .pay o n=>dP o n
 | .ref o n=>dR o n
 | .mov o p n=>dM o p n
 | .lin w o k n=>dL w o k n
noncomputable def Deed.err (us:List Or):Deed->Option Cls
 | .ord _=>none
 | .pay o n=>zB1 us o n
 | .ref o n=>zB2 us o n
 | .mov o p n=>zB0 us o p n
 | .lin w o k n=>zK7 us w o k n
noncomputable def Deed.fit (us:List Or):Deed->Prop
 | .ord ls=>1 <= ls.length /\ ls.length <= 20 /\ (∀ l ∈ ls,l.good) /\ us.length < 40
 | _=>True
inductive Step (us:List Or):Deed->List Or->List (Int × Int)->Prop
 | ord (ls:List Ln):Step us (.ord ls) (us++[xB ls]) []
 | pay (o:Nat) (n:Int) (u:Or) (hu:us[o]?=some u) (h1:1 <= n):Step us (.pay o n) (us.set o (xC u xK n)) [((o:Int),-n)]
 | ref (o:Nat) (n:Int) (u:Or) (hu:us[o]?=some u) (h1:1 <= n) (h2:n <= 0 - u.owed):Step us (.ref o n) (us.set o (xC u xz (0 - n))) [((o:Int),n)]
 | mov (o p:Nat) (n:Int) (u u':Or) (hu:us[o]?=some u) (hu':us[p]?=some u') (hop:o ≠ p) (h1:1 <= n) (h2:n <= 0 - u.owed):Step us (.mov o p n) (vL us o p u u' n) [((o:Int),n),((p:Int),-n)]
 | lin (w:Wd) (o k:Nat) (n:Int) (u:Or) (l:Ln) (hu:us[o]?=some u) (hl:u.lines[k]?=some l) (h1:1 <= n) (h2:n <= xA w l):Step us (.lin w o k n) (us.set o (upL w u k l n)) [((o:Int),(zc w l n).charge - l.charge)]
noncomputable def chL (l:List (Int × Int)):List V:=l.map fun p=>.tup [.int p.1,.int p.2]
noncomputable def chV (l:List (Int × Int)):V:=.lst (l.map fun p=>.tup [.int p.1,.int p.2])
inductive Did (J:Sto) (b e h:Nat) (us:List Or) (hl:Nat) (D:Deed) (r:R V):Prop
 | no (c:Cls) (er:r=.exc c J) (he:D.err us=some c)
 | yes (J':Sto) (us':List Or) (out:List (Int × Int)) (hs:List V) (er:r=.ok (chV out) J') (he:D.err us=none) (S:Step us D us' out) (B:BookIn J' b e h (us'.map Or.v) hs) (hl:hs.length=hl+1) (hk:∀ (m:Nat) (o:O),m ≠ e->m ≠ h->J[m]?=some o->J'[m]?=some o)
inductive zRs (t:Bool) (J:Sto) (b e h:Nat) (us:List Or) (hl:Nat) (D:Deed) (r:R V):Prop
 | no (c:Cls) (er:r=.exc c J) (he:D.err us=some c)
 | yes (J':Sto) (us':List Or) (out:List (Int × Int)) (hs:List V) (er:r=.ok (rv t J' (chL out)) (rs t J' (chL out))) (he:D.err us=none) (S:Step us D us' out) (B:BookIn J' b e h (us'.map Or.v) hs) (hl:hs.length=hl+1) (hk:∀ (m:Nat) (o:O),m ≠ e->m ≠ h->J[m]?=some o->J'[m]?=some o)
theorem zAU {n m:Int} (h:wX n m=none):1 <= n /\ n <= m:=by
 unfold wX at h
 split at h
 ·cases h
 ·rename_i h1
  split at h
  ·cases h
  ·rename_i h2; exact ⟨Int.not_lt.mp h1,Int.not_lt.mp h2⟩
section
variable {T:Nat->Option Fn} {t:Bool} {d:Nat} {J:Sto} {b e h:Nat} {us:List Or} {hs:List V}
theorem zBe {deed:V} {old:List (Int × V)} {x:O} (m:Nat) (o:O) (me:m ≠ e) (mh:m ≠ h) (hm:J[m]?=some o):((yU J h hs deed old).set e x)[m]?=some o:=
 zJ (zJ (xZ hm) mh.symm) me.symm
theorem zRC (HT:zO T t) (B:BookIn J b e h (us.map Or.v) hs) (hok:∀ u ∈ us,u.ok) (hr:∀ u ∈ us,u.rows.length < LIM) (hh:hs.length < LIM) (D:Deed) (hf:D.fit us):zRs t J b e h us hs.length D (zA T (d+6) false 2 [.ref b,D.v] J):=by
 cases D with
 | ord ls =>
  obtain ⟨h1,h2,h3,h4⟩:=hf
  refine .yes _ (us++[xB ls]) [] (hs++[.tup [dO ls,.ref (J.set e (.list (us.map Or.v++[(xB ls).v]))).length]]) (zOz (d:=d+2) HT B h1 h2 h3 (by rw [List.length_map]; exact h4) hh) rfl (.ord ls) (by rw [List.map_append]; exact ((B.setE _).push _).setH _) (by rw [List.length_append]; rfl) fun m o me mh hm=>?_
  exact zJ (xZ (zJ hm me.symm)) mh.symm
 | pay o n =>
  cases he:zB1 us o n with
  | some c=>exact .no c (zO1 (d:=d+3) HT B he) he
  | none =>
   have he':zEq n (atI us o)=none:=he
   cases ho:atI us o with
   | none=>rw [ho] at he'; cases he'
   | some u =>
    obtain ⟨o,rfl,hu⟩:=zg ho
    rw [ho] at he'
    have hn:1 <= n:=by
     have:(if n < 1 then some Cls.NoNumber else none)=none:=he'
     split at this
     ·cases this
     ·rename_i h1; exact Int.not_lt.mp h1
    have hd:=zO0 (d:=d+3) (o:=o) (n:=n) HT B he hu (hr u (List.mem_of_getElem? hu)) hh
    rw [Int.zero_sub] at hd
    exact .yes _ _ [((o:Int),-n)] _ hd he (.pay o n u hu hn) (((B.push _).setH _).setE _) (by rw [List.length_append]; rfl) zBe
 | ref o n =>
  cases he:zB2 us o n with
  | some c=>exact .no c (zO3 HT B hok he) he
  | none =>
   have he':zEr n (atI us o)=none:=he
   cases ho:atI us o with
   | none=>rw [ho] at he'; cases he'
   | some u =>
    obtain ⟨o,rfl,hu⟩:=zg ho
    rw [ho] at he'
    obtain ⟨h1,h2⟩:=zAU he'
    have hd:=zO2 (d:=d) (o:=o) (n:=n) HT B hok he hu (hr u (List.mem_of_getElem? hu)) hh
    rw [show (0 - (0 - n))=n by rw [Int.zero_sub,Int.zero_sub,Int.neg_neg]] at hd
    exact .yes _ _ [((o:Int),n)] _ hd he (.ref o n u hu h1 h2) (((B.push _).setH _).setE _) (by rw [List.length_append]; rfl) zBe
 | mov o p n =>
  cases he:zB0 us o p n with
  | some c=>exact .no c (zOy HT B hok he) he
  | none =>
   have he':zEo us o p n (atI us o)=none:=he
   cases ho:atI us o with
   | none=>rw [ho] at he'; cases he'
   | some u =>
    obtain ⟨o,rfl,hu⟩:=zg ho
    rw [ho] at he'
    have he2:zEp u o p n (atI us p)=none:=he'
    cases hp:atI us p with
    | none=>rw [hp] at he2; cases he2
    | some u' =>
     obtain ⟨p,rfl,hu'⟩:=zg hp
     rw [hp] at he2
     have he3:(if ((o:Int)==(p:Int))=true then some Cls.SameOrder else wX n (0 - u.owed))=none:=he2
     split at he3
     ·cases he3
     ·rename_i hne
      obtain ⟨h1,h2⟩:=zAU he3
      have hop:o ≠ p:=fun q=>hne (by rw [q,beq_self_eq_true])
      have hd:=zOx (d:=d) (o:=o) (p:=p) (n:=n) HT B hok he hu hu' hop (hr u (List.mem_of_getElem? hu)) (hr u' (List.mem_of_getElem? hu')) hh
      rw [show (0 - (0 - n))=n by rw [Int.zero_sub,Int.zero_sub,Int.neg_neg],Int.zero_sub] at hd
      exact .yes _ _ [((o:Int),n),((p:Int),-n)] _ hd he (.mov o p n u u' hu hu' hop h1 h2) (((B.push _).setH _).setE _) (by rw [List.length_append]; rfl) zBe
 | lin w o k n =>
  cases he:zK7 us w o k n with
  | some c=>exact .no c (zQk HT B hok he) he
  | none =>
   have he':zK8 w k n (atI us o)=none:=he
   cases ho:atI us o with
   | none=>rw [ho] at he'; cases he'
   | some u =>
    obtain ⟨o,rfl,hu⟩:=zg ho
    rw [ho] at he'
    have he2:zK6 w n (atI u.lines k)=none:=he'
    cases hk:atI u.lines k with
    | none=>rw [hk] at he2; cases he2
    | some l =>
     obtain ⟨k,rfl,hl⟩:=zg hk
     rw [hk] at he2
     obtain ⟨h1,h2⟩:=zAU he2
     exact .yes _ _ [((o:Int),(zc w l n).charge - l.charge)] _ (zOw (d:=d) (o:=o) (k:=k) (n:=n) HT B hok he hu hl (hr u (List.mem_of_getElem? hu)) hh) he (.lin w o k n u l hu hl h1 h2) (((B.push _).setH _).setE _) (by rw [List.length_append]; rfl) zBe
end
theorem zPX {T:Nat->Option Fn} {d:Nat} {J:Sto} {b e h:Nat} {us:List Or} {hs:List V} (HT:zO T) (B:BookIn J b e h (us.map Or.v) hs) (hok:∀ u ∈ us,u.ok) (hr:∀ u ∈ us,u.rows.length < LIM) (hh:hs.length < LIM) (D:Deed) (hf:D.fit us):Did J b e h us hs.length D (zA T (d+6) false 2 [.ref b,D.v] J):=by
 cases zRC (d:=d) HT B hok hr hh D hf with
 | no c er he=>exact .no c er he
 | yes J' us' out hs er he S B hl hk=>exact .yes J' us' out hs er he S B hl hk
noncomputable def zM0:Cls->Str
 | .NoDeed=>{ cps:=#[78,111,68,101,101,100] }
 | .NoLines=>{ cps:=#[78,111,76,105,110,101,115] }
 | .NoItem=>{ cps:=#[78,111,73,116,101,109] }
 | .NoNumber=>{ cps:=#[78,111,78,117,109,98,101,114] }
 | .FullBook=>{ cps:=#[70,117,108,108,66,111,111,107] }
 | .NoOrder=>{ cps:=#[78,111,79,114,100,101,114] }
 | .SameOrder=>{ cps:=#[83,97,109,101,79,114,100,101,114] }
 | .NoLine=>{ cps:=#[78,111,76,105,110,101] }
 | .TooMuch=>{ cps:=#[84,111,111,77,117,99,104] }
 | _=>{ cps:=#[] }
noncomputable def zAM (c:Cls):Bool:=c != .FlowError&&c != .NothingDone&&c != .ValueError
theorem zAV {n m:Int} {c:Cls} (h:wX n m=some c):zAM c=true:=by
 unfold wX at h
 split at h
 ·cases h; rfl
 ·split at h
  ·cases h; rfl
  ·cases h
theorem Deed.told {us:List Or} {D:Deed} {c:Cls} (h:D.err us=some c):zAM c=true:=by
 cases D with
 | ord ls=>cases h
 | pay o n =>
  replace h:zEq n (atI us o)=some c:=h
  cases ho:atI us o with
  | none=>rw [ho] at h; cases h; rfl
  | some u =>
   rw [ho] at h
   replace h:(if n < 1 then some Cls.NoNumber else none)=some c:=h
   split at h
   ·cases h; rfl
   ·cases h
 | ref o n =>
  replace h:zEr n (atI us o)=some c:=h
  cases ho:atI us o with
  | none=>rw [ho] at h; cases h; rfl
  | some u=>rw [ho] at h; exact zAV h
 | mov o p n =>
  replace h:zEo us o p n (atI us o)=some c:=h
  cases ho:atI us o with
  | none=>rw [ho] at h; cases h; rfl
  | some u =>
   rw [ho] at h
   replace h:zEp u o p n (atI us p)=some c:=h
   cases hp:atI us p with
   | none=>rw [hp] at h; cases h; rfl
   | some u' =>
    rw [hp] at h
    replace h:(if (o==p)=true then some Cls.SameOrder else wX n (0 - u.owed))=some c:=h
    split at h
    ·cases h; rfl
    ·exact zAV h
 | lin w o k n =>
  replace h:zK8 w k n (atI us o)=some c:=h
  cases ho:atI us o with
  | none=>rw [ho] at h; cases h; rfl
  | some u =>
   rw [ho] at h
   replace h:zK6 w n (atI u.lines k)=some c:=h
   cases hk:atI u.lines k with
   | none=>rw [hk] at h; cases h; rfl
   | some l=>rw [hk] at h; exact zAV h
section
variable {T:Nat->Option Fn} {t:Bool} {d k:Nat} {J J':Sto} {b:Nat}
noncomputable def Deed.raw (m:Nat):Deed->V
 | .ord ls=>.tup [.str yM,.ref m]
 | D=>D.v
theorem Deed.fit_of {D:Deed} {us:List Or} (hn:∀ ls,D ≠ .ord ls):D.fit us:=by
 cases D with
 | ord ls=>exact (hn ls rfl).elim
 | _=>exact trivial
theorem Deed.ord_or (D:Deed):(∀ ls,D ≠ .ord ls) \/ ∃ ls,D=.ord ls:=by
 cases D with
 | ord ls=>exact .inr ⟨ls,rfl⟩
 | _=>exact .inl fun _ h=>nomatch h
end
end Mine
end

section
namespace Mine
open PySem
structure Ln.inv (l:Ln):Prop where
 ok:l.ok
 a0:0 <= l.a
 ab:l.a <= l.b
 bs:l.b <= l.s
 sp:l.s <= l.p+l.a
 r0:0 <= l.r
 rw:l.r <= l.worth
theorem zCW {x y c k:Int} (h:x <= y) (hc:0 <= c) (hk:1 <= k):(x * c).fdiv k <= (y * c).fdiv k:=by
 have k0:0 <= k:=Int.le_trans (by decide) hk
 rw [Int.fdiv_eq_ediv_of_nonneg _ k0,Int.fdiv_eq_ediv_of_nonneg _ k0]
 exact Int.ediv_le_ediv (Int.lt_of_lt_of_le (by decide) hk) (Int.mul_le_mul_of_nonneg_right h hc)
theorem vI {x c k:Int} (h:0 <= x) (hc:0 <= c) (hk:1 <= k):0 <= (x * c).fdiv k:=by
 have k0:0 <= k:=Int.le_trans (by decide) hk
 rw [Int.fdiv_eq_ediv_of_nonneg _ k0]
 exact Int.ediv_nonneg (Int.mul_nonneg h hc) k0
theorem Ln.inv.charge {l:Ln} (h:l.inv):0 <= l.charge:=Int.sub_nonneg_of_le h.rw
theorem zHl (x y:Int):zKG x y <= y /\ zKG x y <= x /\ (0 <= x->0 <= y->0 <= zKG x y):=by
 unfold zKG; split
 ·rename_i h; exact ⟨Int.le_refl _,Int.le_of_lt h,fun _ hy=>hy⟩
 ·rename_i h; exact ⟨Int.not_lt.mp h,Int.le_refl _,fun hx _=>hx⟩
theorem zKL {p s a n:Int} (h:n <= p - s+a):s+n <= p+a:=by
 have:=Int.add_le_add_left h s; rwa [<- Int.add_assoc,Int.add_comm s (p - s),Int.sub_add_cancel] at this
theorem Ln.inv.behind {l:Ln} (h:l.inv) {w:Wd} {n:Int} (h1:1 <= n) (h2:n <= xA w l):(zc w l n).inv:=by
 have hn:0 <= n:=Int.le_trans (by decide) h1
 cases w with
 | del=>exact ⟨xf h.ok,h.a0,h.ab,Int.le_trans h.bs (Int.le_add_of_nonneg_right hn),zKL h2,h.r0,Int.le_trans h.rw (zCW (Int.sub_le_sub_right (Int.le_add_of_nonneg_right hn) l.b) h.ok.c1 h.ok.k1)⟩
 | cred=>exact ⟨xf h.ok,h.a0,h.ab,h.bs,h.sp,Int.add_nonneg h.r0 hn,Int.add_le_of_le_sub_left h2⟩
 | back =>
  have hp:=zHl l.r (((l.s - (l.b+n)) * l.c).fdiv l.k)
  have hb:l.b+n <= l.s:=Int.add_le_of_le_sub_left h2
  exact ⟨xf h.ok,h.a0,Int.le_trans h.ab (Int.le_add_of_nonneg_right hn),hb,h.sp,hp.2.2 h.r0 (vI (Int.sub_nonneg_of_le hb) h.ok.c1 h.ok.k1),hp.1⟩
 | swap =>
  have hp:=zHl l.r (((l.s - (l.b+n)) * l.c).fdiv l.k)
  have hb:l.b+n <= l.s:=Int.add_le_of_le_sub_left h2
  exact ⟨xf h.ok,Int.add_nonneg h.a0 hn,Int.add_le_add_right h.ab n,hb,Int.le_trans h.sp (Int.add_le_add_left (Int.le_add_of_nonneg_right hn) _),hp.2.2 h.r0 (vI (Int.sub_nonneg_of_le hb) h.ok.c1 h.ok.k1),hp.1⟩
theorem Ln.good.inv {l:Ln} (h:l.good):l.fresh.inv:=
 ⟨h.ok.fresh,Int.le_refl _,Int.le_refl _,Int.le_refl _,Int.add_nonneg (Int.le_trans (by decide) h.ok.p1) (Int.le_refl 0),Int.le_refl _,vI (Int.le_refl _) h.ok.c1 h.ok.k1⟩
structure Or.inv (u:Or):Prop where
 few:u.lines.length <= 20
 ls:∀ l ∈ u.lines,l.inv
 paid0:0 <= u.paid
 sum:(u.rows.map (·.2)).sum=u.owed
theorem Or.inv.ok {u:Or} (h:u.inv):u.ok:=⟨h.few,fun l hl=>(h.ls l hl).ok⟩
theorem zCR:∀ {l:List Int},(∀ x ∈ l,0 <= x)->0 <= l.sum
 | [],_=>Int.le_refl _
 | x :: l,h=>by
  rw [List.sum_cons]
  have h1:=h x List.mem_cons_self
  exact Int.add_nonneg h1 (zCR fun y hy=>h y (List.mem_cons_of_mem x hy))
theorem zH0:∀ {l:List Int} {k:Nat} {x y:Int},l[k]?=some y->(l.set k x).sum=l.sum+(x - y)
 | [],_,_,_,h=>by cases h
 | z :: l,0,x,y,h=>by
  obtain rfl:z=y:=by simpa using h
  rw [List.set_cons_zero,List.sum_cons,List.sum_cons,Int.add_comm z l.sum,Int.add_assoc,Int.add_comm x]; exact congrArg _ (by rw [Int.add_comm,Int.sub_add_cancel])
 | z :: l,k+1,x,y,h=>by
  rw [List.set_cons_succ,List.sum_cons,List.sum_cons,zH0 (l:=l) (k:=k) (by simpa using h),Int.add_assoc]
theorem zCQ (a b:List Int):(a++b).sum=a.sum+b.sum:=by
 induction a with
 | nil=>rw [List.nil_append,List.sum_nil,Int.zero_add]
 | cons x a ih=>rw [List.cons_append,List.sum_cons,List.sum_cons,ih,Int.add_assoc]
theorem zL2 (u:Or) (w:Str) (c:Int):(xC u w c).owed=u.owed - c:=(Int.sub_sub _ u.paid c).symm
theorem zHj {u:Or} {k:Nat} {l:Ln} (hl:u.lines[k]?=some l) (w:Wd) (n:Int):(upL w u k l n).owed=u.owed+((zc w l n).charge - l.charge):=by
 show ((u.lines.set k (zc w l n)).map Ln.charge).sum - u.paid=(u.lines.map Ln.charge).sum - u.paid+_
 rw [List.map_set,zH0 (y:=l.charge) (by rw [List.getElem?_map,hl]; rfl)]; exact Int.add_right_comm _ _ _
theorem zL1 (ls:List Ln) (h:∀ l ∈ ls,l.good):(xB ls).owed=0:=by
 show ((ls.map Ln.fresh).map Ln.charge).sum - 0=0
 rw [Int.sub_zero,List.map_map]
 have:∀ ls:List Ln,(∀ l ∈ ls,l.good)->(ls.map (Ln.charge ∘ Ln.fresh)).sum=0:=fun ls=>by
  induction ls with
  | nil=>intro _; rfl
  | cons l ls ih =>
   intro h
   rw [List.map_cons,List.sum_cons,ih fun l hl=>h l (List.mem_cons_of_mem _ hl)]
   show ((0 - 0) * l.c).fdiv l.k - 0+0=0
   rw [Int.sub_self,Int.zero_mul,Int.zero_fdiv]; rfl
 exact this ls h
theorem zX {α:Type} {l:List α} {k:Nat} {x y:α} (h:y ∈ l.set k x):y ∈ l \/ y=x:=List.mem_or_eq_of_mem_set h
theorem Or.inv.pay {u:Or} (h:u.inv) (w:Str) {c:Int} (hp:0 <= u.paid+c):(xC u w c).inv:=by
 refine ⟨h.few,h.ls,hp,?_⟩
 rw [zL2]
 show ((u.rows++[(w,0 - c)]).map (·.2)).sum=_
 rw [List.map_append,zCQ,h.sum]
 show u.owed+(0 - c+0)=u.owed - c; rw [Int.add_zero,Int.zero_sub]; rfl
theorem Or.inv.up {u:Or} (h:u.inv) {k:Nat} {l:Ln} (hl:u.lines[k]?=some l) {w:Wd} {n:Int} (h1:1 <= n) (h2:n <= xA w l):(upL w u k l n).inv:=by
 refine ⟨?_,fun m hm=>?_,h.paid0,?_⟩
 ·show (u.lines.set k _).length <= 20; rw [List.length_set]; exact h.few
 ·rcases zX hm with hm | rfl
  ·exact h.ls m hm
  ·exact (h.ls l (List.mem_of_getElem? hl)).behind h1 h2
 ·rw [zHj hl]
  show ((u.rows++[(w.s,(zc w l n).charge - l.charge)]).map (·.2)).sum=_
  rw [List.map_append,zCQ,h.sum]
  show u.owed+((zc w l n).charge - l.charge+0)=_; rw [Int.add_zero]
theorem zMp {s p n:Int} (h:0 <= s) (h2:n <= 0 - (s - p)):0 <= p+(0 - n):=by
 rw [Int.zero_sub,Int.neg_sub] at h2
 rw [Int.zero_sub]
 exact Int.sub_nonneg_of_le (Int.le_trans h2 (Int.sub_le_self p h))
theorem Or.inv.back {u:Or} (h:u.inv) {n:Int} (h2:n <= 0 - u.owed):0 <= u.paid+(0 - n):=by
 have h3:0 <= (u.lines.map Ln.charge).sum:=zCR fun x hx=>by
  obtain ⟨l,hl,rfl⟩:=List.mem_map.mp hx
  exact (h.ls l hl).charge
 exact zMp h3 h2
theorem zIq {ls:List Ln} (h2:ls.length <= 20) (h:∀ l ∈ ls,l.good):(xB ls).inv:=by
 refine ⟨by show (ls.map Ln.fresh).length <= 20; rw [List.length_map]; exact h2,fun m hm=>?_,Int.le_refl _,(zL1 ls h).symm⟩
 obtain ⟨l,hl,rfl⟩:=List.mem_map.mp hm
 exact (h l hl).inv
section
variable {us us':List Or} {D:Deed} {out:List (Int × Int)}
theorem Step.inv (S:Step us D us' out) (hf:D.fit us) (h:∀ u ∈ us,u.inv):∀ u ∈ us',u.inv:=fun v hv=>by
 cases S with
 | ord ls =>
  rcases List.mem_append.mp hv with hv | hv
  ·exact h v hv
  ·rw [List.mem_singleton.mp hv]; exact zIq hf.2.1 hf.2.2.1
 | pay o n u hu h1 =>
  rcases zX hv with hv | rfl
  ·exact h v hv
  ·have:=h u (List.mem_of_getElem? hu)
   exact this.pay _ (Int.add_nonneg this.paid0 (Int.le_trans (by decide) h1))
 | ref o n u hu h1 h2 =>
  rcases zX hv with hv | rfl
  ·exact h v hv
  ·have:=h u (List.mem_of_getElem? hu)
   exact this.pay _ (this.back h2)
 | mov o p n u u' hu hu' hop h1 h2 =>
  have i1:=h u (List.mem_of_getElem? hu)
  have i2:=h u' (List.mem_of_getElem? hu')
  rcases zX hv with hv | rfl
  ·rcases zX hv with hv | rfl
   ·exact h v hv
   ·exact i1.pay _ (i1.back h2)
  ·exact i2.pay _ (Int.add_nonneg i2.paid0 (Int.le_trans (by decide) h1))
 | lin w o k n u l hu hl h1 h2 =>
  rcases zX hv with hv | rfl
  ·exact h v hv
  ·exact (h u (List.mem_of_getElem? hu)).up hl h1 h2
theorem Step.rows (S:Step us D us' out) {R:Nat} (h:∀ u ∈ us,u.rows.length <= R):∀ u ∈ us',u.rows.length <= R+1:=fun v hv=>by
 have pay:∀ {u:Or} {w:Str} {c:Int},u ∈ us->(xC u w c).rows.length <= R+1:=fun {u w c} hu=>by
  show (u.rows++[_]).length <= R+1
  rw [List.length_append]; exact Nat.succ_le_succ (h u hu)
 cases S with
 | ord ls =>
  rcases List.mem_append.mp hv with hv | hv
  ·exact Nat.le_succ_of_le (h v hv)
  ·rw [List.mem_singleton.mp hv]; exact Nat.zero_le _
 | pay o n u hu h1 =>
  rcases zX hv with hv | rfl
  ·exact Nat.le_succ_of_le (h v hv)
  ·exact pay (List.mem_of_getElem? hu)
 | ref o n u hu h1 h2 =>
  rcases zX hv with hv | rfl
  ·exact Nat.le_succ_of_le (h v hv)
  ·exact pay (List.mem_of_getElem? hu)
 | mov o p n u u' hu hu' hop h1 h2 =>
  rcases zX hv with hv | rfl
  ·rcases zX hv with hv | rfl
   ·exact Nat.le_succ_of_le (h v hv)
   ·exact pay (List.mem_of_getElem? hu)
  ·exact pay (List.mem_of_getElem? hu')
 | lin w o k n u l hu hl h1 h2 =>
  rcases zX hv with hv | rfl
  ·exact Nat.le_succ_of_le (h v hv)
  ·show (u.rows++[_]).length <= R+1
   rw [List.length_append]; exact Nat.succ_le_succ (h u (List.mem_of_getElem? hu))
theorem Step.few (S:Step us D us' out):out.length <= 2:=by
 cases S <;> first | exact (by decide:0 <= 2) | exact (by decide:1 <= 2) | exact (by decide:2 <= 2)
theorem Step.len (S:Step us D us' out):us'.length=us.length+(match D with | .ord _=>1 | _=>0):=by
 cases S with
 | ord ls=>rw [List.length_append]; rfl
 | pay o n u hu h1=>rw [List.length_set]; rfl
 | ref o n u hu h1 h2=>rw [List.length_set]; rfl
 | mov o p n u u' hu hu' hop h1 h2=>unfold vL; rw [List.length_set,List.length_set]; rfl
 | lin w o k n u l hu hl h1 h2=>rw [List.length_set]; rfl
end
end Mine
end

section
namespace Mine
open PySem
theorem zCy {f:V->Option PyData} (h:∀ v x,f v=some x->PyData.eqv x x=true):∀ (xs:List V) (ys:List PyData),xs.mapM f=some ys->PyData.eqvAll ys ys=true
 | [],ys,e=>by
  rw [List.mapM_nil] at e
  cases e; rfl
 | x :: xs,ys,e=>by
  rw [List.mapM_cons] at e
  cases hx:f x with
  | none=>rw [hx] at e; cases e
  | some y =>
   rw [hx] at e
   cases hr:xs.mapM f with
   | none=>rw [hr] at e; cases e
   | some r =>
    rw [hr] at e
    cases e
    rw [PyData.eqvAll,h x y hx,zCy h xs r hr]; rfl
theorem zDe (J:Sto):∀ (d:Nat) (v:V) (x:PyData),xN J d v=some x->PyData.eqv x x=true
 | 0,v,x,h=>by cases h
 | d+1,v,x,h=>by
  have lst:∀ {o:Option PyData} {c:List PyData->PyData} {xs:List V},(∀ ys,PyData.eqv (c ys) (c ys)=PyData.eqvAll ys ys)->(xs.mapM (xN J d)).map c=some x->PyData.eqv x x=true:=fun {o c xs} hc h=>by
   obtain ⟨ys,hy,rfl⟩:=map_some h
   rw [hc]; exact zCy (zDe J d) xs ys hy
  cases v with
  | undef=>cases h
  | none=>cases h; rfl
  | bool b=>cases h; exact beq_self_eq_true b
  | int i=>cases h; exact beq_self_eq_true i
  | str s=>cases h; exact beq_self_eq_true s
  | tup xs=>exact lst (o:=none) (c:=.tuple) (fun _=>rfl) h
  | lst xs=>exact lst (o:=none) (c:=.list) (fun _=>rfl) h
  | ref n =>
   replace h:zDd (xN J d) J[n]?=some x:=h
   cases ho:J[n]? with
   | none=>rw [ho] at h; cases h
   | some o =>
    rw [ho] at h
    cases o with
    | list xs=>exact lst (o:=none) (c:=.list) (fun _=>rfl) h
    | dict es=>cases h
    | inst as=>cases h
  | exc c=>cases h
  | parts=>cases h
noncomputable def Has (J:Sto) (d:Nat) (v:V):Prop:=∃ x,xN J d v=some x
theorem zBc {J:Sto} {d:Nat}:∀ {xs:List V},(∀ x ∈ xs,Has J d x)->∃ ys,xs.mapM (xN J d)=some ys
 | [],_=>⟨[],rfl⟩
 | x :: xs,h=>by
  obtain ⟨y,hy⟩:=h x List.mem_cons_self
  obtain ⟨ys,hys⟩:=zBc fun z hz=>h z (List.mem_cons_of_mem x hz)
  exact ⟨y :: ys,by rw [List.mapM_cons,hy,hys]; rfl⟩
theorem zNG {J:Sto} {d:Nat} {xs:List V} (h:∀ x ∈ xs,Has J d x):Has J (d+1) (.lst xs):=by
 obtain ⟨ys,hy⟩:=zBc h
 exact ⟨.list ys,by show (xs.mapM (xN J d)).map PyData.list=_; rw [hy]; rfl⟩
theorem zNH {J:Sto} {d n:Nat} {xs:List V} (hn:J[n]?=some (.list xs)) (h:∀ x ∈ xs,Has J d x):∃ x,xN J (d+1) (.ref n)=some x /\ zDd (xN J d) (some (.list xs))=some x:=by
 obtain ⟨ys,hy⟩:=zBc h
 refine ⟨.list ys,?_,by show (xs.mapM (xN J d)).map PyData.list=_; rw [hy]; rfl⟩
 show zDd (xN J d) J[n]?=_
 rw [hn]
 show (xs.mapM (xN J d)).map PyData.list=_; rw [hy]; rfl
theorem zK4 {J:Sto} {a b:V} {x:PyData} (ha:xN J yo a=some x) (hb:xN J yo b=some x) (hl:∀ xs ys,listOf? J a=some xs->listOf? J b=some ys->xs.length=ys.length):eqV J a b=some true:=by
 have e:eqV.eqD J a b=some true:=by
  show ((xN J yo a).bind fun x=>(xN J yo b).map fun y=>PyData.eqv x y)=_
  rw [ha,hb]
  show some (PyData.eqv x x)=_
  rw [zDe J _ _ _ ha]
 unfold eqV
 split
 ·rename_i xs ys h1 h2
  rw [hl xs ys h1 h2,bne_self_eq_false]; exact e
 ·exact e
theorem zHP {J:Sto} {v:V} (h:Has J yo v):eqV J v v=some true:=by
 obtain ⟨x,h⟩:=h
 exact zK4 h h fun xs ys h1 h2=>by rw [h1] at h2; cases h2; rfl
theorem zNQ {J:Sto} {v:V} (h:Has J yo v):ev2 .ne J v v=some (.bool false):=by
 show (eqV J v v).map _=_
 rw [zHP h]; rfl
set_option genCtorIdx true in
inductive W8 where
 | lin (w:Wd) | pay | ref | mov | ord
noncomputable def W8.s:W8->Str
 | .lin w=>w.s
 | .pay=>xK
 | .ref=>xz
 | .mov=>zx
 | .ord=>yM
theorem zQL (J:Sto) (c:Int):∃ w:W8,ev2 .index J (.lst [.str wM,.str wM,.str wM,.str wM,.str wq,.str wu,.str wr,.str xK,.str xK,.str xz,.str zx,.str yM]) (.int (c.fmod 12))=some (.str w.s):=by
 obtain ⟨k,hk,h2⟩:=jc c (m:=12) (by decide)
 rw [show ((12:Nat):Int)=12 from rfl] at hk
 rw [hk]
 match k,h2 with
 | 0,_=>exact ⟨.lin .del,rfl⟩
 | 1,_=>exact ⟨.lin .del,rfl⟩
 | 2,_=>exact ⟨.lin .del,rfl⟩
 | 3,_=>exact ⟨.lin .del,rfl⟩
 | 4,_=>exact ⟨.lin .back,rfl⟩
 | 5,_=>exact ⟨.lin .swap,rfl⟩
 | 6,_=>exact ⟨.lin .cred,rfl⟩
 | 7,_=>exact ⟨.pay,rfl⟩
 | 8,_=>exact ⟨.pay,rfl⟩
 | 9,_=>exact ⟨.ref,rfl⟩
 | 10,_=>exact ⟨.mov,rfl⟩
 | 11,_=>exact ⟨.ord,rfl⟩
 | k+12,h2=>omega
end Mine
end

section
namespace Mine
open PySem
noncomputable def zON:Fn:={ params:=2,slots:=2,body:=[.ite (.p2 .lt (.var 1) (.p1 .len (.var 0))) [.ret (.p2 .index (.var 0) (.var 1))] [],.ret (.lit (.int 0))] }
noncomputable def zLK:Fn:={ params:=1,slots:=1,body:=[.ret (.p2 .fdiv (.p2 .mul (.p2 .sub (.p2 .index (.var 0) (.lit (.int 4))) (.p2 .index (.var 0) (.lit (.int 5)))) (.p2 .index (.var 0) (.lit (.int 2)))) (.p2 .index (.var 0) (.lit (.int 3))))] }
noncomputable def zOO:Fn:={ params:=1,slots:=1,body:=[.ret (.p2 .sub (.p1 .sum (.comp (.p2 .sub (.call 102 [.var 1]) (.p2 .index (.var 1) (.lit (.int 7)))) .val [.p2 .index (.var 0) (.lit (.int 0))] none)) (.p2 .index (.var 0) (.lit (.int 1))))] }
noncomputable def hMost:Fn:={ params:=4,slots:=6,body:=[.ite (.p1 .not (.chain (.lit (.int 0)) [.le,.lt] [.var 1,.p1 .len (.var 3)])) [.ret (.lit (.int 5))] [],.asg 4 (.call 103 [.p2 .index (.var 3) (.var 1)]),.ite (.p2 .eq (.var 0) (.lit (.str { cps:=#[112,97,121] }))) [.ret (.var 4)] [],.ite (.or (.p2 .eq (.var 0) (.lit (.str { cps:=#[114,101,102,117,110,100] }))) (.p2 .eq (.var 0) (.lit (.str { cps:=#[109,111,118,101] })))) [.ret (.p1 .neg (.var 4))] [],.ite (.p1 .not (.chain (.lit (.int 0)) [.le,.lt] [.var 2,.p1 .len (.p2 .index (.p2 .index (.var 3) (.var 1)) (.lit (.int 0)))])) [.ret (.lit (.int 5))] [],.asg 5 (.p2 .index (.p2 .index (.p2 .index (.var 3) (.var 1)) (.lit (.int 0))) (.var 2)),.ite (.p2 .eq (.var 0) (.lit (.str { cps:=#[100,101,108,105,118,101,114] }))) [.ret (.p2 .add (.p2 .sub (.p2 .index (.var 5) (.lit (.int 1))) (.p2 .index (.var 5) (.lit (.int 4)))) (.p2 .index (.var 5) (.lit (.int 6))))] [],.ite (.p2 .eq (.var 0) (.lit (.str { cps:=#[99,114,101,100,105,116] }))) [.ret (.p2 .sub (.call 102 [.var 5]) (.p2 .index (.var 5) (.lit (.int 7))))] [],.ret (.p2 .sub (.p2 .index (.var 5) (.lit (.int 4))) (.p2 .index (.var 5) (.lit (.int 5))))] }
noncomputable def hDeed:Fn:={ params:=3,slots:=9,body:=[.asg 3 (.list [.lit (.str { cps:=#[100,101,108,105,118,101,114] }),.lit (.str { cps:=#[100,101,108,105,118,101,114] }),.lit (.str { cps:=#[100,101,108,105,118,101,114] }),.lit (.str { cps:=#[100,101,108,105,118,101,114] }),.lit (.str { cps:=#[98,97,99,107] }),.lit (.str { cps:=#[115,119,97,112] }),.lit (.str { cps:=#[99,114,101,100,105,116] }),.lit (.str { cps:=#[112,97,121] }),.lit (.str { cps:=#[112,97,121] })]),.asg 3 (.p2 .add (.var 3) (.list [.lit (.str { cps:=#[114,101,102,117,110,100] }),.lit (.str { cps:=#[109,111,118,101] }),.lit (.str { cps:=#[111,114,100,101,114] })])),.asg 4 (.p2 .index (.var 3) (.p2 .mod (.p2 .mod (.p2 .mul (.var 0) (.lit (.int 48271))) (.lit (.int 10007))) (.lit (.int 12)))),.ite (.or (.p2 .eq (.var 2) (.list [])) (.and (.p2 .eq (.var 4) (.lit (.str { cps:=#[111,114,100,101,114] }))) (.p2 .lt (.p1 .len (.var 2)) (.lit (.int 4))))) [.ret (.tup [.lit (.str { cps:=#[111,114,100,101,114] }),.call 108 [.var 1]])] [],.ite (.p2 .eq (.var 4) (.lit (.str { cps:=#[111,114,100,101,114] }))) [.asg 4 (.lit (.str { cps:=#[109,111,118,101] }))] [],.asg 5 (.call 105 [.var 0,.lit (.int 10037),.p1 .len (.var 2)]),.ite (.or (.p2 .eq (.var 4) (.lit (.str { cps:=#[112,97,121] }))) (.p2 .eq (.var 4) (.lit (.str { cps:=#[114,101,102,117,110,100] })))) [.ret (.tup [.var 4,.var 5,.call 106 [.var 1,.call 104 [.var 4,.var 5,.lit (.int 0),.var 2]]])] [],.ite (.p2 .eq (.var 4) (.lit (.str { cps:=#[109,111,118,101] }))) [.asg 6 (.call 105 [.var 1,.lit (.int 10099),.p1 .len (.var 2)]),.ret (.tup [.var 4,.var 5,.var 6,.call 106 [.var 1,.call 104 [.var 4,.var 5,.lit (.int 0),.var 2]]])] [],.asg 7 (.lit (.int 1)),.ite (.chain (.lit (.int 0)) [.le,.lt] [.var 5,.p1 .len (.var 2)]) [.asg 7 (.p1 .len (.p2 .index (.p2 .index (.var 2) (.var 5)) (.lit (.int 0))))] [],.asg 8 (.call 105 [.var 0,.lit (.int 10091),.var 7]),.ret (.tup [.var 4,.var 5,.var 8,.call 106 [.var 1,.call 104 [.var 4,.var 5,.var 8,.var 2]]])] }
noncomputable def hRefusal:Fn:={ params:=2,slots:=4,body:=[.ite (.p2 .eq (.p2 .index (.var 0) (.lit (.int 0))) (.lit (.str { cps:=#[111,114,100,101,114] }))) [.ret (.lit (.str { cps:=#[] }))] [],.ite (.or (.p1 .not (.chain (.lit (.int 0)) [.le,.lt] [.p2 .index (.var 0) (.lit (.int 1)),.p1 .len (.var 1)])) (.and (.p2 .eq (.p2 .index (.var 0) (.lit (.int 0))) (.lit (.str { cps:=#[109,111,118,101] }))) (.p1 .not (.chain (.lit (.int 0)) [.le,.lt] [.p2 .index (.var 0) (.lit (.int 2)),.p1 .len (.var 1)])))) [.ret (.lit (.str { cps:=#[78,111,79,114,100,101,114] }))] [],.ite (.and (.p2 .eq (.p2 .index (.var 0) (.lit (.int 0))) (.lit (.str { cps:=#[109,111,118,101] }))) (.p2 .eq (.p2 .index (.var 0) (.lit (.int 1))) (.p2 .index (.var 0) (.lit (.int 2))))) [.ret (.lit (.str { cps:=#[83,97,109,101,79,114,100,101,114] }))] [],.asg 2 (.lit (.int 0)),.ite (.and (.p2 .eq (.p1 .len (.var 0)) (.lit (.int 4))) (.p2 .ne (.p2 .index (.var 0) (.lit (.int 0))) (.lit (.str { cps:=#[109,111,118,101] })))) [.asg 2 (.p2 .index (.var 0) (.lit (.int 2)))] [],.ite (.p1 .not (.chain (.lit (.int 0)) [.le,.lt] [.var 2,.p1 .len (.p2 .index (.p2 .index (.var 1) (.p2 .index (.var 0) (.lit (.int 1)))) (.lit (.int 0)))])) [.ret (.lit (.str { cps:=#[78,111,76,105,110,101] }))] [],.asg 3 (.p2 .index (.var 0) (.p2 .sub (.p1 .len (.var 0)) (.lit (.int 1)))),.ite (.p2 .lt (.var 3) (.lit (.int 1))) [.ret (.lit (.str { cps:=#[78,111,78,117,109,98,101,114] }))] [],.ite (.and (.p2 .ne (.p2 .index (.var 0) (.lit (.int 0))) (.lit (.str { cps:=#[112,97,121] }))) (.p2 .gt (.var 3) (.call 104 [.p2 .index (.var 0) (.lit (.int 0)),.p2 .index (.var 0) (.lit (.int 1)),.var 2,.var 1]))) [.ret (.lit (.str { cps:=#[84,111,111,77,117,99,104] }))] [],.ret (.lit (.str { cps:=#[] }))] }
noncomputable def hTurned:Fn:={ params:=2,slots:=5,body:=[.asg 2 (.p2 .index (.var 0) (.p2 .sub (.p1 .len (.var 0)) (.lit (.int 1)))),.ite (.or (.p2 .eq (.p2 .index (.var 0) (.lit (.int 0))) (.lit (.str { cps:=#[112,97,121] }))) (.or (.p2 .eq (.p2 .index (.var 0) (.lit (.int 0))) (.lit (.str { cps:=#[114,101,102,117,110,100] }))) (.p2 .eq (.p2 .index (.var 0) (.lit (.int 0))) (.lit (.str { cps:=#[109,111,118,101] }))))) [.asg 3 (.p2 .sub (.lit (.int 1)) (.p2 .mul (.lit (.int 2)) (.p1 .toInt (.p2 .ne (.p2 .index (.var 0) (.lit (.int 0))) (.lit (.str { cps:=#[112,97,121] })))))),.setItem (.p2 .index (.var 1) (.p2 .index (.var 0) (.lit (.int 1)))) (.lit (.int 1)) (.p2 .add (.p2 .index (.p2 .index (.var 1) (.p2 .index (.var 0) (.lit (.int 1)))) (.lit (.int 1))) (.p2 .mul (.var 3) (.var 2))),.ite (.p2 .eq (.p2 .index (.var 0) (.lit (.int 0))) (.lit (.str { cps:=#[109,111,118,101] }))) [.setItem (.p2 .index (.var 1) (.p2 .index (.var 0) (.lit (.int 2)))) (.lit (.int 1)) (.p2 .add (.p2 .index (.p2 .index (.var 1) (.p2 .index (.var 0) (.lit (.int 2)))) (.lit (.int 1))) (.var 2))] [],.ret (.var 0)] [],.asg 4 (.p2 .index (.p2 .index (.p2 .index (.var 1) (.p2 .index (.var 0) (.lit (.int 1)))) (.lit (.int 0))) (.p2 .index (.var 0) (.lit (.int 2)))),.ite (.p2 .eq (.p2 .index (.var 0) (.lit (.int 0))) (.lit (.str { cps:=#[100,101,108,105,118,101,114] }))) [.setItem (.var 4) (.lit (.int 4)) (.p2 .add (.p2 .index (.var 4) (.lit (.int 4))) (.var 2))] [.ite (.p2 .eq (.p2 .index (.var 0) (.lit (.int 0))) (.lit (.str { cps:=#[99,114,101,100,105,116] }))) [.setItem (.var 4) (.lit (.int 7)) (.p2 .add (.p2 .index (.var 4) (.lit (.int 7))) (.var 2))] [.setItem (.var 4) (.lit (.int 5)) (.p2 .add (.p2 .index (.var 4) (.lit (.int 5))) (.var 2)),.setItem (.var 4) (.lit (.int 6)) (.p2 .add (.p2 .index (.var 4) (.lit (.int 6))) (.p2 .mul (.var 2) (.p1 .toInt (.p2 .eq (.p2 .index (.var 0) (.lit (.int 0))) (.lit (.str { cps:=#[115,119,97,112] })))))),.setItem (.var 4) (.lit (.int 7)) (.p2 .min (.p2 .index (.var 4) (.lit (.int 7))) (.call 102 [.var 4]))]],.ret (.var 0)] }
noncomputable def zOP:Fn:={ params:=2,slots:=6,body:=[.ite (.p2 .eq (.p2 .index (.var 0) (.lit (.int 0))) (.lit (.str { cps:=#[111,114,100,101,114] }))) [.exp (.append (.var 1) (.trk (.list [.comp (.trk (.p2 .add (.p1 .toList (.var 6)) (.list [.lit (.int 0),.lit (.int 0),.lit (.int 0),.lit (.int 0)]))) .val [.p2 .index (.var 0) (.lit (.int 1))] none,.lit (.int 0),.trk (.list [])]))),.ret (.list [])] [],.asg 2 (.list [.p2 .index (.var 0) (.lit (.int 1))]),.ite (.p2 .eq (.p2 .index (.var 0) (.lit (.int 0))) (.lit (.str { cps:=#[109,111,118,101] }))) [.asg 2 (.list [.p2 .index (.var 0) (.lit (.int 1)),.p2 .index (.var 0) (.lit (.int 2))])] [],.asg 3 (.comp (.call 103 [.var 6]) .val [.var 1] none),.exp (.call 111 [.var 0,.var 1]),.asg 4 (.comp (.tup [.var 6,.p2 .sub (.call 103 [.p2 .index (.var 1) (.var 6)]) (.p2 .index (.var 3) (.var 6))]) .val [.var 2] none),.for 5 .val [.var 4] [.exp (.append (.p2 .index (.p2 .index (.var 1) (.p2 .index (.var 5) (.lit (.int 0)))) (.lit (.int 2))) (.tup [.p2 .index (.var 0) (.lit (.int 0)),.p2 .index (.var 5) (.lit (.int 1))]))],.ret (.var 4)] }
structure yt (T:Nat->Option Fn):Prop where
 t100:T 100=some zON
 t102:T 102=some zLK
 t103:T 103=some zOO
 t104:T 104=some hMost
 t109:T 109=some hDeed
 t110:T 110=some hRefusal
 t111:T 111=some hTurned
 t112:T 112=some zOP
 t101:T 101=some zGG
 t105:T 105=some zGF
 t106:T 106=some zDx
 t107:T 107=some zEy
 t108:T 108=some (zAW 107)
end Mine
end

section
namespace Mine
open PySem
theorem zLG {it:Items} {f:V->List V->Sto->R (List V)} {xs:List V} {acc:List V} {J:Sto} (I:Nat->List V->Sto->Prop) (hit:∀ i acc J,I i acc J->Gives J it xs) (h0:I 0 acc J)
  (hs:∀ i x acc J,xs[i]?=some x->I i acc J->∃ acc' J',f x acc J=.ok acc' J' /\ I (i+1) acc' J') :
  ∃ acc' J',zn it f acc J=.ok acc' J' /\ I xs.length acc' J':=by
 have key:∀ k i acc J,k+i=xs.length->I i acc J->∃ acc' J',yb it f (k+1) i acc J=.ok acc' J' /\ I xs.length acc' J':=by
  intro k
  induction k with
  | zero =>
   intro i acc J hi h
   obtain rfl:i=xs.length:=(Nat.zero_add i).symm.trans hi
   refine ⟨acc,J,?_,h⟩
   exact zH4 (((hit _ _ _ h).next _).trans (by rw [List.getElem?_eq_none (Nat.le_refl _)]))
  | succ k ih =>
   intro i acc J hi h
   have hlt:i < xs.length:=Nat.lt_of_lt_of_eq (Nat.lt_add_of_pos_left (Nat.succ_pos k)) hi
   obtain ⟨acc',J',e,h'⟩:=hs i _ acc J (List.getElem?_eq_getElem hlt) h
   obtain ⟨acc'',J'',e',h''⟩:=ih (i+1) acc' J' ((Nat.succ_add_eq_add_succ k i).symm.trans hi) h'
   refine ⟨acc'',J'',?_,h''⟩
   rw [zH5 (((hit _ _ _ h).next _).trans (by rw [List.getElem?_eq_getElem hlt]))]
   rw [e]; exact e'
 rw [zn,(hit _ _ _ h0).fuel]
 exact key xs.length 0 acc J rfl h0
theorem zEg {F:Calls} {elt:CE} {k:SK} {src:List CE} {H vs:List V} {J J1:Sto} {it:Items} {xs:List V} (I:Nat->List V->Sto->Prop)
  (hsrc:evL F false src H J=.ok vs J1) (hit:zT J1 k vs=some it) (hI:∀ j acc J,I j acc J->Gives J it xs /\ acc.length=j) (hl:xs.length <= LIM) (h0:I 0 [] J1)
  (hs:∀ j x acc J,xs[j]?=some x->I j acc J->∃ y J',evE F false elt (H++[x]) J=.ok y J' /\ I (j+1) (acc++[y]) J') :
  ∃ acc J',evE F false (.comp elt k src none) H J=.ok (.lst acc) J' /\ I xs.length acc J':=by
 obtain ⟨acc,J',e,h⟩:=zLG (it:=it) (f:=fun x acc J=>(evC F false none (H++[x]) J).calm.bind fun t J=>if t then (evE F false elt (H++[x]) J).calmE.bind fun y J=>(if acc.length < LIM then .ok (acc++[y]) J else .stuck) else .ok acc J) I (fun j acc J h=>(hI j acc J h).1) h0 (fun j x acc J hx h=>by
  obtain ⟨y,J',e,h'⟩:=hs j x acc J hx h
  refine ⟨acc++[y],J',?_,h'⟩
  show R.bind (evE F false elt (H++[x]) J).calmE _=_
  rw [e]
  show (if acc.length < LIM then R.ok (acc++[y]) J' else .stuck)=_
  rw [if_pos (by rw [(hI j acc J h).2]; exact Nat.lt_of_lt_of_le (List.getElem?_eq_some_iff.mp hx).1 hl)])
 refine ⟨acc,J',?_,h⟩
 show ((evL F false src H J).bind fun vs J=>(R.lift J (zT J k vs)).bind fun it J =>
   (zn it (fun x acc J=>(evC F false none (H++[x]) J).calm.bind fun t J=>if t then (evE F false elt (H++[x]) J).calmE.bind fun y J=>(if acc.length < LIM then .ok (acc++[y]) J else .stuck) else .ok acc J) [] J).bind fun acc J=>R.ok (V.lst acc) J)=_
 rw [hsrc,R.bind_ok,hit,R.lift_some,R.bind_ok,e]; rfl
theorem jX {F:Calls} {elt:CE} {k:SK} {src:List CE} {H vs:List V} {J J1:Sto} {it:Items} {xs ys:List V} (hsrc:evL F false src H J=.ok vs J1) (hit:zT J1 k vs=some it) (hg:Gives J1 it xs) (hl:xs.length <= LIM) (hlen:xs.length=ys.length)
  (h:∀ (j:Nat) (x:V),xs[j]?=some x->∃ y,ys[j]?=some y /\ evE F false elt (H++[x]) J1=.ok y J1):evE F false (.comp elt k src none) H J=.ok (.lst ys) J1:=by
 obtain ⟨acc,J',e,h1,h2,h3⟩:=zEg (elt:=elt) (fun j acc J=>J=J1 /\ acc=ys.take j /\ j <= ys.length) hsrc hit (fun j acc J hI=>by obtain ⟨rfl,rfl,hj⟩:=hI; exact ⟨hg,by rw [List.length_take]; exact Nat.min_eq_left hj⟩) hl ⟨rfl,rfl,Nat.zero_le _⟩ fun j x acc J hx hI=>by
  obtain ⟨rfl,rfl,hj⟩:=hI
  obtain ⟨y,hy,e⟩:=h j x hx
  exact ⟨y,_,e,rfl,by rw [List.take_add_one,hy]; rfl,(List.getElem?_eq_some_iff.mp hy).1⟩
 rw [e,h2,h1,hlen,List.take_length]
set_option genCtorIdx true in
inductive Role where
 | bk (i:Nat) | en (i:Nat) | hi (i:Nat) | acc (i:Nat) | ord (i o:Nat) | row (i o:Nat) | lin (i o k:Nat) | kept | fresh | other
noncomputable def lnL (l:Ln):List V:=[.str l.item,.int l.p,.int l.c,.int l.k,.int l.s,.int l.b,.int l.a,.int l.r]
inductive OrdAt (J:Sto) (ro:Nat->Role) (i o r:Nat) (u:Or):Prop
 | mk (q:Nat) (ls:List V) (hr:J[r]?=some (.list [.lst ls,.int u.paid,.ref q])) (rr:ro r=.ord i o) (hq:J[q]?=some (.list (u.rows.map zCd))) (rq:ro q=.row i o) (hl:ls.length=u.lines.length)
   (hls:∀ (k:Nat) (l:Ln),u.lines[k]?=some l->∃ n:Nat,ls[k]?=some (.ref n) /\ J[n]?=some (.list (lnL l)) /\ ro n=.lin i o k)
structure Acct (J:Sto) (ro:Nat->Role) (i a:Nat) (us:List Or) (rs:List V):Prop where
 ord:J[a]?=some (.list rs)
 ra:ro a=.acc i
 len:rs.length=us.length
 at_:∀ (o:Nat) (u:Or),us[o]?=some u->∃ r:Nat,rs[o]?=some (.ref r) /\ OrdAt J ro i o r u
section
variable {T:Nat->Option Fn} {d:Nat} {q:Bool} {J:Sto} {ro:Nat->Role} {i a o r n:Nat} {us:List Or} {rs:List V} {u:Or} {l:Ln}
theorem zPZ (M:yt T) (l:List Int) (k:Nat):zA T (d+1) q 100 [.lst (iv l),.int k] J=.ok (.int (gI l k)) J:=by
 by_cases h:k < l.length
 ·exact zG M.t100 rfl (s_t (zC (t:=true) (zE rfl (zV rfl (zi J (iv l))) (by rw [xY,vT,decide_eq_true (Int.ofNat_lt.mpr h)]))) (zH (zE rfl rfl (zAY J h))))
 ·have hg:gI l k=0:=by simp [gI,List.getElem?_eq_none (Nat.le_of_not_lt h)]
  rw [hg]
  exact zG M.t100 rfl (s_f (zC (t:=false) (zE rfl (zV rfl (zi J (iv l))) (by rw [xY,vT,decide_eq_false fun q=>h (Int.ofNat_lt.mp q)]))) (zH rfl))
theorem yK {F:Calls} {H:List V} {j k:Nat} {x:V} (hn:J[n]?=some (.list (lnL l))) (hv:zK H j=some (.ref n)) (hx:(lnL l)[k]?=some x):evE F q (.p2 .index (.var j) (.lit (.int k))) H J=.ok x J:=
 zE (by rw [zu,hv]; rfl) rfl (za J hn hx)
theorem zBa (M:yt T) (hn:J[n]?=some (.list (lnL l))) (ok:l.ok):zA T (d+1) q 102 [.ref n] J=.ok (.int l.worth) J:=
 zG M.t102 rfl (zH (zE (zE (zE (yK (k:=4) hn rfl rfl) (yK (k:=5) hn rfl rfl) rfl) (yK (k:=2) hn rfl rfl) (yW J _ _ (.inr (zEH ok)))) (yK (k:=3) hn rfl rfl) (wh J _ _ (zF8 ok.k1 ok.k2))))
theorem OrdAt.index (A:OrdAt J ro i o r u):∃ ls:List V,ev2 .index J (.ref r) (.int 0)=some (.lst ls) /\ ev2 .index J (.ref r) (.int 1)=some (.int u.paid) /\ ls.length=u.lines.length /\ ∀ (k:Nat) (l:Ln),u.lines[k]?=some l->∃ n:Nat,ls[k]?=some (.ref n) /\ J[n]?=some (.list (lnL l)):=by
 cases A with
 | mk q ls hr rr hq rq hl hls=>exact ⟨ls,za J (i:=0) hr rfl,za J (i:=1) hr rfl,hl,fun k l h=>by obtain ⟨n,h1,h2,_⟩:=hls k l h; exact ⟨n,h1,h2⟩⟩
theorem zB6 (M:yt T) (A:OrdAt J ro i o r u) (ok:u.ok):zA T (d+2) false 103 [.ref r] J=.ok (.int u.owed) J:=by
 obtain ⟨ls,h0,h1,hl,hls⟩:=A.index
 refine zG M.t103 rfl (zH (zE (x:=.int (u.lines.map Ln.charge).sum) (zV (x:=.lst (iv (u.lines.map Ln.charge))) (jX (vs:=[.lst ls]) (xs:=ls) (zD (zE rfl rfl h0) rfl) rfl (.inl rfl) (by rw [hl]; exact Nat.le_of_lt ok.lim) (by rw [vT,List.length_map]; exact hl) fun j x hx=>?_) (zBF J _)) (zE rfl rfl h1) rfl))
 have hj:j < u.lines.length:=by rw [<- hl]; exact (List.getElem?_eq_some_iff.mp hx).1
 have hlj:u.lines[j]?=some u.lines[j]:=List.getElem?_eq_getElem hj
 generalize u.lines[j]=l at hlj
 obtain ⟨n,hn,hnn⟩:=hls j l hlj
 rw [hn] at hx; cases hx
 refine ⟨.int l.charge,by unfold iv; rw [List.getElem?_map,List.getElem?_map,hlj]; rfl,zE (zI rfl (zBa M hnn (ok.ls l (List.mem_of_getElem? hlj)))) (yK (k:=7) hnn rfl rfl) rfl⟩
theorem Acct.index (A:Acct J ro i a us rs) (hu:us[o]?=some u):∃ r:Nat,ev2 .index J (.ref a) (.int o)=some (.ref r) /\ OrdAt J ro i o r u:=by
 obtain ⟨r,hr,h⟩:=A.at_ o u hu
 exact ⟨r,za J A.ord hr,h⟩
theorem Acct.e_len {F:Calls} {H:List V} {j:Nat} (A:Acct J ro i a us rs) (h:zK H j=some (.ref a)):evE F q (.p1 .len (.var j)) H J=.ok (.int us.length) J:=
 zV (x:=.ref a) (by rw [zu,h]; rfl) (by rw [xQ J A.ord,A.len])
noncomputable def xR (w:W8) (us:List Or) (at' place:Int):Int:=match atI us at' with
 | none=>5
 | some u=>match w with
  | .pay=>u.owed
  | .ref=>-u.owed
  | .mov=>-u.owed
  | .lin w=>(match atI u.lines place with
   | none=>5
   | some l=>xA w l)
  | .ord=>5
theorem zGH (M:yt T) (A:Acct J ro i a us rs) (hok:∀ u ∈ us,u.ok) (w:W8) (hw:w ≠ .ord) (at' place:Int):zA T (d+3) false 104 [.str w.s,.int at',.int place,.ref a] J=.ok (.int (xR w us at' place)) J:=by
 refine zG M.t104 rfl ?_
 show exL (zA T (d+2) false) (zA T (d+2) true) false hMost.body [.str w.s,.int at',.int place,.ref a,.undef,.undef] J=_
 have hlen:evE (zA T (d+2) false) false (.p1 .len (.var 3)) [.str w.s,.int at',.int place,.ref a,.undef,.undef] J=.ok (.int us.length) J:=A.e_len rfl
 unfold xR
 cases hat:atI us at' with
 | none=>exact s_t (zC (zV (yY rfl rfl hlen) (by rw [wH hat]; rfl))) (zH rfl)
 | some u =>
  obtain ⟨o,rfl,hu⟩:=zg hat
  have ok:=hok u (List.mem_of_getElem? hu)
  obtain ⟨r,hr,O⟩:=A.index hu
  have pre:∀ {r:R Fl},exL (zA T (d+2) false) (zA T (d+2) true) false (hMost.body.drop 2) [.str w.s,.int o,.int place,.ref a,.int u.owed,.undef] J=r->exL (zA T (d+2) false) (zA T (d+2) true) false hMost.body [.str w.s,.int o,.int place,.ref a,.undef,.undef] J=r:=fun kk =>
   s_f (zC (zV (yY rfl rfl hlen) (by rw [in_iff.mpr ⟨o,rfl,(List.getElem?_eq_some_iff.mp hu).1⟩]; rfl))) (zL (zI (zD (zE rfl rfl hr) rfl) (zB6 M O ok)) kk)
  cases w with
  | ord=>exact (hw rfl).elim
  | pay=>exact pre (s_t rfl (zH rfl))
  | ref=>exact pre (s_f rfl (s_t rfl (zH rfl)))
  | mov=>exact pre (s_f rfl (s_t rfl (zH rfl)))
  | lin w =>
   obtain ⟨ls,h0,h1,hl,hls⟩:=O.index
   have i0:∀ {F:Calls},evE F false (.p2 .index (.p2 .index (.var 3) (.var 1)) (.lit (.int 0))) [.str w.s,.int o,.int place,.ref a,.int u.owed,.undef] J=.ok (.lst ls) J:=zE (zE rfl rfl hr) rfl h0
   have hlen2:evE (zA T (d+2) false) false (.p1 .len (.p2 .index (.p2 .index (.var 3) (.var 1)) (.lit (.int 0)))) [.str w.s,.int o,.int place,.ref a,.int u.owed,.undef] J=.ok (.int u.lines.length) J:=zV i0 (by rw [zi,hl])
   have pre2:∀ {r:R Fl},exL (zA T (d+2) false) (zA T (d+2) true) false (hMost.body.drop 4) [.str w.s,.int o,.int place,.ref a,.int u.owed,.undef] J=r->exL (zA T (d+2) false) (zA T (d+2) true) false hMost.body [.str w.s,.int o,.int place,.ref a,.undef,.undef] J=r:=fun kk =>
    pre (s_f (zC (zE rfl rfl (zH1 w))) (s_f (zC (zW (zE rfl rfl (zH2 w)) rfl (zE rfl rfl (wc w)))) kk))
   show _=R.ok (Fl.ret (V.int (match atI u.lines place with | none=>5 | some l=>xA w l))) J
   cases hpl:atI u.lines place with
   | none=>exact pre2 (s_t (zC (zV (yY rfl rfl hlen2) (by rw [wH hpl]; rfl))) (zH rfl))
   | some l =>
    obtain ⟨k,rfl,hk⟩:=zg hpl
    obtain ⟨n,hn,hnn⟩:=hls k l hk
    have il:=ok.ls l (List.mem_of_getElem? hk)
    have pre3:∀ {r:R Fl},exL (zA T (d+2) false) (zA T (d+2) true) false (hMost.body.drop 6) [.str w.s,.int o,.int k,.ref a,.int u.owed,.ref n] J=r->exL (zA T (d+2) false) (zA T (d+2) true) false hMost.body [.str w.s,.int o,.int k,.ref a,.undef,.undef] J=r:=fun kk =>
     pre2 (s_f (zC (zV (yY rfl rfl hlen2) (by rw [in_iff.mpr ⟨k,rfl,(List.getElem?_eq_some_iff.mp hk).1⟩]; rfl))) (zL (zE i0 rfl (yy J hn)) kk))
    cases w with
    | del=>exact pre3 (s_t rfl (zH (zE (zE (yK (k:=1) hnn rfl rfl) (yK (k:=4) hnn rfl rfl) rfl) (yK (k:=6) hnn rfl rfl) rfl)))
    | cred=>exact pre3 (s_f rfl (s_t rfl (zH (zE (zI rfl (zBa M hnn il)) (yK (k:=7) hnn rfl rfl) rfl))))
    | back=>exact pre3 (s_f rfl (s_f rfl (zH (zE (yK (k:=4) hnn rfl rfl) (yK (k:=5) hnn rfl rfl) rfl))))
    | swap=>exact pre3 (s_f rfl (s_f rfl (zH (zE (yK (k:=4) hnn rfl rfl) (yK (k:=5) hnn rfl rfl) rfl))))
end
end Mine
end

section
namespace Mine
open PySem
section
variable {T:Nat->Option Fn} {d:Nat} {q:Bool} {J:Sto} {ro:Nat->Role} {i a o r n:Nat} {us:List Or} {rs:List V} {u:Or} {l:Ln}
theorem zPQ {m:Nat} (hm:J[m]?=some (.list rs)):ev2 .eq J (.ref m) (.lst [])=some (.bool (rs.length==0)):=by
 have h1:listOf? J (.ref m)=some rs:=by show xI J[m]?=_; rw [hm]; rfl
 show (eqV J (.ref m) (.lst [])).map V.bool=_
 cases rs with
 | cons x rs =>
  have:eqV J (.ref m) (.lst [])=some false:=by
   unfold eqV; rw [h1]; rfl
  rw [this]; rfl
 | nil =>
  have:eqV J (.ref m) (.lst [])=some true:=by
   unfold eqV; rw [h1]
   show ((zDd (xN J 7) J[m]?).bind fun x=>some (PyData.eqv x (.list [])))=some true
   rw [hm]; rfl
  rw [this]; rfl
noncomputable def yS:Option Cls->Str
 | none=>{ cps:=#[] }
 | some c=>zM0 c
noncomputable def W8.isPay:W8->Bool
 | .pay=>true
 | _=>false
noncomputable def wT (w:W8) (n m:Int):Option Cls:=if n < 1 then some .NoNumber else if w.isPay=false /\ n > m then some .TooMuch else none
structure zQd (dv:V) (w:W8) (at' n:Int) (z:Nat):Prop where
 v:∀ H:List V,zK (dv :: H) 0=some dv
 w0:∀ J,ev2 .index J dv (.int 0)=some (.str w.s)
 a1:∀ J,ev2 .index J dv (.int 1)=some (.int at')
 len:∀ J,ev1 .len J dv=some (.int z)
 last:∀ J,ev2 .index J dv (.int ((z:Int) - 1))=some (.int n)
theorem zAJ (M:yt T) (A:Acct J ro i a us rs) (hok:∀ u ∈ us,u.ok) {dv:V} {w:W8} (hw:w ≠ .ord) {nn pl:Int} {z:Nat} (P:zQd dv w o nn z) (hu:us[o]?=some u) :
  exL (zA T (d+3) false) (zA T (d+3) true) false (hRefusal.body.drop 5) [dv,.ref a,.int pl,.undef] J=.ok (.ret (.str (yS (match atI u.lines pl with | none=>some .NoLine | some _=>wT w nn (xR w us o pl))))) J:=by
 obtain ⟨r,hr,O⟩:=A.index hu
 obtain ⟨ls,h0,h1,hl,hls⟩:=O.index
 have v0:∀ {F:Calls} {H:List V},evE F false (.var 0) (dv :: H) J=.ok dv J:=fun {F H}=>by rw [zu,P.v]; rfl
 have hlen2:evE (zA T (d+3) false) false (.p1 .len (.p2 .index (.p2 .index (.var 1) (.p2 .index (.var 0) (.lit (.int 1)))) (.lit (.int 0)))) [dv,.ref a,.int pl,.undef] J=.ok (.int u.lines.length) J:=zV (x:=.lst ls) (zE (zE rfl (zE v0 rfl (P.a1 J)) hr) rfl h0) (by rw [zi,hl])
 cases hpl:atI u.lines pl with
 | none=>exact s_t (zC (zV (yY rfl rfl hlen2) (by rw [wH hpl]; rfl))) (zH rfl)
 | some l =>
  obtain ⟨k,rfl,hk⟩:=zg hpl
  refine s_f (zC (zV (yY rfl rfl hlen2) (by rw [in_iff.mpr ⟨k,rfl,(List.getElem?_eq_some_iff.mp hk).1⟩]; rfl))) (zL (v:=.int nn) (zE v0 (zE (zV v0 (P.len J)) rfl (zBZ J z 1)) (P.last J)) ?_)
  show _=R.ok (Fl.ret (V.str (yS (wT w nn (xR w us o k))))) J
  unfold wT
  by_cases h1:nn < 1
  ·rw [if_pos h1]
   exact s_t (zC (t:=true) (zE rfl rfl (by rw [xY,decide_eq_true h1]))) (zH rfl)
  ·rw [if_neg h1]
   refine s_f (zC (t:=false) (zE rfl rfl (by rw [xY,decide_eq_false h1]))) ?_
   have hm:=zGH (d:=d) M A hok w hw o k
   have em:evE (zA T (d+3) false) false (.p2 .gt (.var 3) (.call 104 [.p2 .index (.var 0) (.lit (.int 0)),.p2 .index (.var 0) (.lit (.int 1)),.var 2,.var 1])) [dv,.ref a,.int k,.int nn] J=.ok (.bool (decide (nn > xR w us o k))) J:=
    zE rfl (zI (zD (zE v0 rfl (P.w0 J)) (zD (zE v0 rfl (P.a1 J)) (zD rfl (zD rfl rfl)))) hm) rfl
   have gen:w.isPay=false->ev2 .ne J (.str w.s) (.str xK)=some (.bool true)->exL (zA T (d+3) false) (zA T (d+3) true) false (hRefusal.body.drop 8) [dv,.ref a,.int k,.int nn] J=.ok (.ret (.str (yS (if w.isPay=false /\ nn > xR w us o k then some .TooMuch else none)))) J:=fun hp hne=>by
    by_cases h2:nn > xR w us o k
    ·rw [if_pos ⟨hp,h2⟩]
     exact s_t (zC (t:=true) (yJ (zE (zE v0 rfl (P.w0 J)) rfl hne) rfl (by rw [decide_eq_true h2] at em; exact em))) (zH rfl)
    ·rw [if_neg fun h=>h2 h.2]
     exact s_f (zC (t:=false) (yJ (zE (zE v0 rfl (P.w0 J)) rfl hne) rfl (by rw [decide_eq_false h2] at em; exact em))) (zH rfl)
   cases w with
   | ord=>exact (hw rfl).elim
   | pay =>
    rw [if_neg fun h=>nomatch h.1]
    exact s_f (zC (t:=false) (yP (zE (zE v0 rfl (P.w0 J)) rfl (z:=.bool false) rfl) rfl)) (zH rfl)
   | ref=>exact gen rfl rfl
   | mov=>exact gen rfl rfl
   | lin w=>exact gen rfl (zMT w)
theorem zGr {w:W8} {n m:Int} (h:w.isPay=false):wT w n m=wX n m:=by
 unfold wT wX
 rw [h]
 by_cases h1:n < 1
 ·rw [if_pos h1,if_pos h1]
 ·rw [if_neg h1,if_neg h1]
  by_cases h2:n > m
  ·rw [if_pos ⟨rfl,h2⟩,if_pos h2]
  ·rw [if_neg fun h=>h2 h.2,if_neg h2]
theorem jK {u:Or} (h:1 <= u.lines.length):∃ l,atI u.lines 0=some l:=⟨u.lines[0],atI_nat' (List.getElem?_eq_getElem h)⟩
where
 atI_nat' {α:Type} {l:List α} {x:α} (h:l[0]?=some x):atI l 0=some x:=by
  unfold atI
  rw [if_pos (by rw [Bool.and_eq_true,decide_eq_true_eq,decide_eq_true_eq]; have:=(List.getElem?_eq_some_iff.mp h).1; omega)]; exact h
theorem zIX (M:yt T) (A:Acct J ro i a us rs) (hok:∀ u ∈ us,u.ok) (hne:∀ u ∈ us,1 <= u.lines.length) (D:Deed) (k:Nat):zA T (d+4) false 110 [D.raw k,.ref a] J=.ok (.str (yS (D.err us))) J:=by
 refine zG M.t110 rfl ?_
 have ht:∀ {H:List V} {c:CE} {x:Int},zK H 1=some (.ref a)->evE (zA T (d+3) false) false c H J=.ok (.int x) J->evE (zA T (d+3) false) false (.p1 .not (.chain (.lit (.int 0)) [.le,.lt] [c,.p1 .len (.var 1)])) H J=.ok (.bool !(decide (0 <= x)&&decide (x < (us.length:Int)))) J:=fun h1 hc=>zV (yY rfl hc (A.e_len h1)) rfl
 have yes:∀ {o:Nat} {u:Or},us[o]?=some u->(!(decide (0 <= (o:Int))&&decide ((o:Int) < (us.length:Int))))=false:=fun hu=>by rw [in_iff.mpr ⟨_,rfl,(List.getElem?_eq_some_iff.mp hu).1⟩]; rfl
 have htN:∀ {H:List V} {c:CE} {x:Int},zK H 1=some (.ref a)->evE (zA T (d+3) false) false c H J=.ok (.int x) J->atI us x=none->evE (zA T (d+3) false) false (.p1 .not (.chain (.lit (.int 0)) [.le,.lt] [c,.p1 .len (.var 1)])) H J=.ok (.bool true) J:=fun h1 hc hx=>(ht h1 hc).trans (by rw [wH hx]; rfl)
 have htS:∀ {H:List V} {c:CE} {o:Nat} {u:Or},zK H 1=some (.ref a)->evE (zA T (d+3) false) false c H J=.ok (.int (o:Int)) J->us[o]?=some u->evE (zA T (d+3) false) false (.p1 .not (.chain (.lit (.int 0)) [.le,.lt] [c,.p1 .len (.var 1)])) H J=.ok (.bool false) J:=fun h1 hc hu=>(ht h1 hc).trans (by rw [yes hu])
 cases D with
 | ord ls=>exact s_t rfl (zH rfl)
 | pay at' n =>
  refine s_f rfl ?_
  show _=R.ok (Fl.ret (V.str (yS (zEq n (atI us at'))))) J
  cases hat:atI us at' with
  | none=>exact s_t (zC (t:=true) (xX (htN rfl (x:=at') rfl hat) rfl)) (zH rfl)
  | some u =>
   obtain ⟨o,rfl,hu⟩:=zg hat
   obtain ⟨l,hl⟩:=jK (hne u (List.mem_of_getElem? hu))
   have e:=zAJ (d:=d) (w:=.pay) (pl:=0) (nn:=n) (dv:=dP o n) (z:=3) M A hok (fun h=>nomatch h) ⟨fun _=>rfl,fun _=>rfl,fun _=>rfl,fun _=>rfl,fun _=>rfl⟩ hu
   rw [hl] at e
   refine s_f (zC (t:=false) (zW (htS (o:=o) rfl rfl hu) rfl (yP rfl rfl))) (s_f (zC (yP rfl rfl)) (zL rfl (s_f (zC (yP rfl rfl)) (e.trans ?_))))
   show R.ok (Fl.ret (V.str (yS (if n < 1 then some .NoNumber else if W8.isPay .pay=false /\ n > xR .pay us o 0 then some .TooMuch else none)))) J=R.ok (Fl.ret (V.str (yS (if n < 1 then some .NoNumber else none)))) J
   rw [if_neg (fun h:W8.isPay .pay=false /\ n > xR .pay us o 0=>nomatch h.1)]
 | ref at' n =>
  refine s_f rfl ?_
  show _=R.ok (Fl.ret (V.str (yS (zEr n (atI us at'))))) J
  cases hat:atI us at' with
  | none=>exact s_t (zC (t:=true) (xX (htN rfl (x:=at') rfl hat) rfl)) (zH rfl)
  | some u =>
   obtain ⟨o,rfl,hu⟩:=zg hat
   obtain ⟨l,hl⟩:=jK (hne u (List.mem_of_getElem? hu))
   have e:=zAJ (d:=d) (w:=.ref) (pl:=0) (nn:=n) (dv:=dR o n) (z:=3) M A hok (fun h=>nomatch h) ⟨fun _=>rfl,fun _=>rfl,fun _=>rfl,fun _=>rfl,fun _=>rfl⟩ hu
   rw [hl] at e
   refine s_f (zC (t:=false) (zW (htS (o:=o) rfl rfl hu) rfl (yP rfl rfl))) (s_f (zC (yP rfl rfl)) (zL rfl (s_f (zC (yP rfl rfl)) (e.trans ?_))))
   show R.ok (Fl.ret (V.str (yS (wT .ref n (xR .ref us o 0))))) J=R.ok (Fl.ret (V.str (yS (wX n (0 - u.owed))))) J
   rw [zGr rfl,Int.zero_sub]
   unfold xR
   rw [hat]
 | mov at' p n =>
  refine s_f rfl ?_
  show _=R.ok (Fl.ret (V.str (yS (zEo us at' p n (atI us at'))))) J
  cases hat:atI us at' with
  | none=>exact s_t (zC (t:=true) (xX (htN rfl (x:=at') rfl hat) rfl)) (zH rfl)
  | some u =>
   obtain ⟨o,rfl,hu⟩:=zg hat
   show _=R.ok (Fl.ret (V.str (yS (zEp u o p n (atI us p))))) J
   cases hp:atI us p with
   | none=>exact s_t (zC (t:=true) (zW (htS (o:=o) rfl rfl hu) rfl (yJ rfl rfl (htN rfl (x:=p) rfl hp)))) (zH rfl)
   | some u' =>
    obtain ⟨p,rfl,hu'⟩:=zg hp
    show _=R.ok (Fl.ret (V.str (yS (if ((o:Int)==(p:Int))=true then some .SameOrder else wX n (0 - u.owed))))) J
    refine s_f (zC (t:=false) (zW (htS (o:=o) rfl rfl hu) rfl (yJ rfl rfl (htS (o:=p) rfl rfl hu'))) ) ?_
    cases hop:((o:Int)==(p:Int)) with
    | true=>exact s_t (zC (t:=true) (yJ rfl rfl (zE rfl rfl (show ev2 .eq J (.int o) (.int p)=_ by rw [wY,hop])))) (zH rfl)
    | false =>
     obtain ⟨l,hl⟩:=jK (hne u (List.mem_of_getElem? hu))
     have e:=zAJ (d:=d) (w:=.mov) (pl:=0) (nn:=n) (dv:=dM o p n) (z:=4) M A hok (fun h=>nomatch h) ⟨fun _=>rfl,fun _=>rfl,fun _=>rfl,fun _=>rfl,fun _=>rfl⟩ hu
     rw [hl] at e
     refine s_f (zC (t:=false) (yJ rfl rfl (zE rfl rfl (show ev2 .eq J (.int o) (.int p)=_ by rw [wY,hop])))) (zL rfl (s_f (zC (t:=false) (yJ rfl rfl rfl)) (e.trans ?_)))
     show R.ok (Fl.ret (V.str (yS (wT .mov n (xR .mov us o 0))))) J=R.ok (Fl.ret (V.str (yS (wX n (0 - u.owed))))) J
     rw [zGr rfl,Int.zero_sub]
     unfold xR
     rw [hat]
 | lin w at' pl n =>
  refine s_f (zC (zE rfl rfl (zFn w))) ?_
  show _=R.ok (Fl.ret (V.str (yS (zK8 w pl n (atI us at'))))) J
  cases hat:atI us at' with
  | none=>exact s_t (zC (t:=true) (xX (htN rfl (x:=at') rfl hat) rfl)) (zH rfl)
  | some u =>
   obtain ⟨o,rfl,hu⟩:=zg hat
   have e:=zAJ (d:=d) (w:=.lin w) (pl:=pl) (nn:=n) (dv:=dL w o pl n) (z:=4) M A hok (fun h=>nomatch h) ⟨fun _=>rfl,fun _=>rfl,fun _=>rfl,fun _=>rfl,fun _=>rfl⟩ hu
   refine s_f (zC (t:=false) (zW (htS (o:=o) rfl rfl hu) rfl (yP (zE rfl rfl (wc w)) rfl))) (s_f (zC (yP (zE rfl rfl (wc w)) rfl)) (zL rfl (s_t (zC (t:=true) (yJ rfl rfl (zE rfl rfl (show ev2 .ne J (.str w.s) (.str zx)=some (.bool true) by cases w <;> rfl)))) (zL (v:=.int pl) rfl (e.trans ?_)))))
   show _=R.ok (Fl.ret (V.str (yS (zK6 w n (atI u.lines pl))))) J
   cases hpl:atI u.lines pl with
   | none=>rfl
   | some l =>
    show R.ok (Fl.ret (V.str (yS (wT (.lin w) n (xR (.lin w) us o pl))))) J=R.ok (Fl.ret (V.str (yS (wX n (xA w l))))) J
    rw [zGr rfl]
    unfold xR
    rw [hat]
    show R.ok (Fl.ret (V.str (yS (wX n (match atI u.lines pl with | none=>5 | some l=>xA w l))))) J=_
    rw [hpl]
end
end Mine
end

section
namespace Mine
open PySem
noncomputable def jC (i o:Nat) (x:Role):Prop:=x=.ord i o \/ x=.row i o \/ ∃ k,x=.lin i o k
noncomputable def wn (i:Nat) (x:Role):Prop:=x=.acc i \/ ∃ o,jC i o x
theorem zLp {i o o':Nat} {x:Role} (h:jC i o x) (hne:o ≠ o'):¬ jC i o' x:=fun h'=>by
 rcases h with rfl | rfl | ⟨k,rfl⟩ <;> rcases h' with q | q | ⟨k',q⟩ <;> cases q <;> exact hne rfl
noncomputable def Role.tag:Role->Nat
 | .bk _=>0
 | .en _=>1
 | .hi _=>2
 | .acc _=>3
 | .ord _ _=>4
 | .row _ _=>5
 | .lin _ _ _=>6
 | .kept=>7
 | .fresh=>8
 | .other=>9
noncomputable def Role.ix:Role->Nat
 | .bk i=>i
 | .en i=>i
 | .hi i=>i
 | .acc i=>i
 | .ord i _=>i
 | .row i _=>i
 | .lin i _ _=>i
 | _=>0
theorem zDX {i o:Nat} {x:Role} (h:jC i o x):(4 <= x.tag /\ x.tag <= 6) /\ x.ix=i:=by
 rcases h with rfl | rfl | ⟨k,rfl⟩
 ·exact ⟨⟨show 4 <= 4 by decide,show 4 <= 6 by decide⟩,rfl⟩
 ·exact ⟨⟨show 4 <= 5 by decide,show 5 <= 6 by decide⟩,rfl⟩
 ·exact ⟨⟨show 4 <= 6 by decide,show 6 <= 6 by decide⟩,rfl⟩
theorem zDW {i:Nat} {x:Role} (h:wn i x):(3 <= x.tag /\ x.tag <= 6) /\ x.ix=i:=by
 rcases h with rfl | ⟨o,h⟩
 ·exact ⟨⟨show 3 <= 3 by decide,show 3 <= 6 by decide⟩,rfl⟩
 ·have:=zDX h; exact ⟨⟨Nat.le_trans (by decide) this.1.1,this.1.2⟩,this.2⟩
theorem zLc {i:Nat} {x:Role} (hx:x.tag < 3 \/ 6 < x.tag):¬ wn i x:=fun h=>by
 exact hx.elim (fun q=>Nat.lt_irrefl _ (Nat.lt_of_lt_of_le q (zDW h).1.1)) fun q=>Nat.lt_irrefl _ (Nat.lt_of_le_of_lt (zDW h).1.2 q)
section
variable {T:Nat->Option Fn} {d:Nat} {q:Bool} {J J':Sto} {ro ro':Nat->Role} {i a o r n:Nat} {us:List Or} {rs:List V} {u u':Or} {l:Ln}
theorem OrdAt.keep (Q:OrdAt J ro i o r u) (hk:∀ (n:Nat) (x:O),jC i o (ro n)->J[n]?=some x->J'[n]?=some x /\ ro' n=ro n):OrdAt J' ro' i o r u:=by
 cases Q with
 | mk q ls hr rr hq rq hl hls =>
  obtain ⟨a1,a2⟩:=hk r _ (.inl rr) hr
  obtain ⟨b1,b2⟩:=hk q _ (.inr (.inl rq)) hq
  refine .mk q ls a1 (a2.trans rr) b1 (b2.trans rq) hl fun k l h=>?_
  obtain ⟨n,h1,h2,h3⟩:=hls k l h
  obtain ⟨c1,c2⟩:=hk n _ (.inr (.inr ⟨k,h3⟩)) h2
  exact ⟨n,h1,c1,c2.trans h3⟩
theorem Acct.keep (A:Acct J ro i a us rs) (hk:∀ (n:Nat) (x:O),wn i (ro n)->J[n]?=some x->J'[n]?=some x /\ ro' n=ro n):Acct J' ro' i a us rs:=by
 obtain ⟨a1,a2⟩:=hk a _ (.inl A.ra) A.ord
 exact ⟨a1,a2.trans A.ra,A.len,fun o u hu=>by obtain ⟨r,hr,Q⟩:=A.at_ o u hu; exact ⟨r,hr,Q.keep fun n x hn hx=>hk n x (.inr ⟨o,hn⟩) hx⟩⟩
theorem Acct.change (A:Acct J ro i a us rs) (hu:us[o]?=some u) (hr:rs[o]?=some (.ref r)) (O':OrdAt J' ro i o r u') (hk:∀ (n:Nat) (x:O),¬ jC i o (ro n)->J[n]?=some x->J'[n]?=some x):Acct J' ro i a (us.set o u') rs:=by
 have ho:o < us.length:=(List.getElem?_eq_some_iff.mp hu).1
 refine ⟨hk a _ (by rw [A.ra]; exact fun h=>absurd (zDX h).1.1 (show ¬ 4 <= 3 by decide)) A.ord,A.ra,by rw [List.length_set]; exact A.len,fun p v hv=>?_⟩
 by_cases hp:o=p
 ·subst hp
  rw [List.getElem?_set_self ho] at hv
  cases hv
  exact ⟨r,hr,O'⟩
 ·rw [List.getElem?_set_ne hp] at hv
  obtain ⟨s,hs,Q⟩:=A.at_ p v hv
  exact ⟨s,hs,Q.keep fun n x hn hx=>⟨hk n x (zLp hn (fun q=>hp q.symm)) hx,rfl⟩⟩
theorem OrdAt.paid (Q:OrdAt J ro i o r u) (x:Int):∃ J',xP J (.ref r) (.int 1) (.int x)=.ok () J' /\ OrdAt J' ro i o r { u with paid:=x } /\ ∀ (n:Nat) (y:O),¬ jC i o (ro n)->J[n]?=some y->J'[n]?=some y:=by
 cases Q with
 | mk q ls hr rr hq rq hl hls =>
  refine ⟨_,vG J (i:=1) hr (show 1 < 3 by decide),.mk q ls (zm hr) rr (zJ hq fun e=>?_) rq hl fun k l h=>?_,fun n y hn hy=>zJ hy fun e=>?_⟩
  ·rw [e,rq] at rr; cases rr
  ·obtain ⟨n,h1,h2,h3⟩:=hls k l h
   exact ⟨n,h1,zJ h2 (fun e=>by rw [e,h3] at rr; cases rr),h3⟩
  ·exact hn (by rw [<- e]; exact .inl rr)
theorem OrdAt.addRow (Q:OrdAt J ro i o r u) (w:Str × Int) (hlim:u.rows.length < LIM):∃ (q:Nat) (J':Sto),ev2 .index J (.ref r) (.int 2)=some (.ref q) /\ xx J (.ref q)=true /\ wI J (.ref q) (zCd w)=.ok .none J' /\ OrdAt J' ro i o r { u with rows:=u.rows++[w] } /\ ∀ (n:Nat) (y:O),¬ jC i o (ro n)->J[n]?=some y->J'[n]?=some y:=by
 cases Q with
 | mk q ls hr rr hq rq hl hls =>
  refine ⟨q,_,za J (i:=2) hr rfl,by show (xI _).isSome=true; rw [hq]; rfl,zk J hq (by rw [List.length_map]; exact hlim),.mk q ls (zJ hr fun e=>?_) rr ?_ rq hl fun k l h=>?_,fun n y hn hy=>zJ hy fun e=>?_⟩
  ·rw [e,rr] at rq; cases rq
  ·rw [zm hq]
   show _=some (O.list ((u.rows++[w]).map zCd))
   rw [List.map_append]; rfl
  ·obtain ⟨n,h1,h2,h3⟩:=hls k l h
   exact ⟨n,h1,zJ h2 (fun e=>by rw [e,h3] at rq; cases rq),h3⟩
  ·exact hn (by rw [<- e]; exact .inr (.inl rq))
theorem OrdAt.line (Q:OrdAt J ro i o r u) {k:Nat} (hk:u.lines[k]?=some l):∃ (ls:List V) (n:Nat),ev2 .index J (.ref r) (.int 0)=some (.lst ls) /\ ls[k]?=some (.ref n) /\ J[n]?=some (.list (lnL l)) /\
  ∀ l':Ln,OrdAt (J.set n (.list (lnL l'))) ro i o r { u with lines:=u.lines.set k l' } /\ ∀ (m:Nat) (y:O),¬ jC i o (ro m)->J[m]?=some y->(J.set n (.list (lnL l')))[m]?=some y:=by
 cases Q with
 | mk q ls hr rr hq rq hl hls =>
  obtain ⟨n,h1,h2,h3⟩:=hls k l hk
  refine ⟨ls,n,za J (i:=0) hr rfl,h1,h2,fun l'=>⟨.mk q ls (zJ hr fun e=>?_) rr (zJ hq fun e=>?_) rq (by rw [hl]; exact (List.length_set ..).symm) fun j m hm=>?_,fun m y hn hy=>zJ hy fun e=>?_⟩⟩
  ·rw [e,rr] at h3; cases h3
  ·rw [e,rq] at h3; cases h3
  ·have hkl:k < u.lines.length:=(List.getElem?_eq_some_iff.mp hk).1
   by_cases hj:k=j
   ·subst hj
    replace hm:(u.lines.set k l')[k]?=some m:=hm
    rw [List.getElem?_set_self hkl] at hm
    cases hm
    exact ⟨n,h1,zm h2,h3⟩
   ·replace hm:(u.lines.set k l')[j]?=some m:=hm
    rw [List.getElem?_set_ne hj] at hm
    obtain ⟨p,g1,g2,g3⟩:=hls j m hm
    exact ⟨p,g1,zJ g2 (fun e=>by rw [e,g3] at h3; cases h3; exact hj rfl),g3⟩
  ·exact hn (by rw [<- e]; exact .inr (.inr ⟨k,h3⟩))
inductive Moved (J:Sto) (ro:Nat->Role) (i a:Nat) (us':List Or) (rs:List V) (v:V) (r:R V):Prop
 | mk (J':Sto) (er:r=.ok v J') (A:Acct J' ro i a us' rs) (hk:∀ (n:Nat) (x:O),¬ wn i (ro n)->J[n]?=some x->J'[n]?=some x)
theorem kj {x:Role} (h:¬ wn i x) (o:Nat):¬ jC i o x:=fun q=>h (.inr ⟨o,q⟩)
end
section
variable {T:Nat->Option Fn} {d:Nat} {J:Sto} {ro:Nat->Role} {i a o r p:Nat} {us:List Or} {rs:List V} {u u':Or} {l:Ln} {n:Int}
theorem zGu (M:yt T) (A:Acct J ro i a us rs) (hu:us[o]?=some u):Moved J ro i a (us.set o { u with paid:=u.paid+n }) rs (dP o n) (zA T (d+2) false 111 [dP o n,.ref a] J):=by
 obtain ⟨r,hr,Q⟩:=A.at_ o u hu
 have key:∃ J',exL (zA T (d+1) false) (zA T (d+1) true) false hTurned.body [dP o n,.ref a,.undef,.undef,.undef] J=.ok (.ret (dP o n)) J' /\ Acct J' ro i a (us.set o { u with paid:=u.paid+n }) rs /\ ∀ (m:Nat) (x:O),¬ wn i (ro m)->J[m]?=some x->J'[m]?=some x:=by
  refine Classical.byContradiction fun hno=>hno ?_
  obtain ⟨ls,h0,hp,_⟩:=Q.index
  obtain ⟨J',e,O',hk⟩:=Q.paid (u.paid+n)
  have it:∀ {F:Calls},evE F false (.p2 .index (.var 1) (.p2 .index (.var 0) (.lit (.int 1)))) [dP o n,.ref a,.int n,.int 1,.undef] J=.ok (.ref r) J:=zE rfl rfl (za J A.ord hr)
  refine ⟨J',zL (v:=.int n) rfl (s_t rfl (zL (v:=.int 1) rfl (xU (x:=.int (u.paid+n)) (zE (zE it rfl hp) (zE (x:=.int 1) (y:=.int n) rfl rfl (yW J 1 n (.inl rfl))) (by rw [Int.one_mul]; rfl)) it rfl e (s_f rfl (zH rfl))))),A.change hu hr O' hk,fun m x hm hx=>hk m x (kj hm o) hx⟩
 obtain ⟨J',e,A',hk⟩:=key
 exact .mk J' (zG M.t111 rfl e) A' hk
theorem zGv (M:yt T) (A:Acct J ro i a us rs) (hu:us[o]?=some u):Moved J ro i a (us.set o { u with paid:=u.paid+(0 - n) }) rs (dR o n) (zA T (d+2) false 111 [dR o n,.ref a] J):=by
 obtain ⟨r,hr,Q⟩:=A.at_ o u hu
 obtain ⟨ls,h0,hp,_⟩:=Q.index
 obtain ⟨J',e,O',hk⟩:=Q.paid (u.paid+(0 - n))
 have it:∀ {F:Calls},evE F false (.p2 .index (.var 1) (.p2 .index (.var 0) (.lit (.int 1)))) [dR o n,.ref a,.int n,.int (-1),.undef] J=.ok (.ref r) J:=zE rfl rfl (za J A.ord hr)
 exact .mk J' (zG M.t111 rfl (zL (v:=.int n) rfl (s_t rfl (zL (v:=.int (-1)) rfl (xU (x:=.int (u.paid+(0 - n))) (zE (zE it rfl hp) (zE (x:=.int (-1)) (y:=.int n) rfl rfl (yW J (-1) n (.inl rfl))) (by rw [show (-1) * n=0 - n by omega]; rfl)) it rfl e (s_f rfl (zH rfl))))))) (A.change hu hr O' hk) fun m x hm hx=>hk m x (kj hm o) hx
theorem zGt (M:yt T) (A:Acct J ro i a us rs) (hu:us[o]?=some u) (hu':us[p]?=some u') (hop:o ≠ p):Moved J ro i a ((us.set o { u with paid:=u.paid+(0 - n) }).set p { u' with paid:=u'.paid+n }) rs (dM o p n) (zA T (d+2) false 111 [dM o p n,.ref a] J):=by
 obtain ⟨r,hr,Q⟩:=A.at_ o u hu
 obtain ⟨ls,h0,hp,_⟩:=Q.index
 obtain ⟨J1,e,O',hk⟩:=Q.paid (u.paid+(0 - n))
 have A1:=A.change hu hr O' hk
 have hu2:(us.set o { u with paid:=u.paid+(0 - n) })[p]?=some u':=by rw [List.getElem?_set_ne hop]; exact hu'
 obtain ⟨r2,hr2,O2⟩:=A1.at_ p u' hu2
 obtain ⟨ls2,h02,hp2,_⟩:=O2.index
 obtain ⟨J2,e2,O2',hk2⟩:=O2.paid (u'.paid+n)
 have it:∀ {F:Calls},evE F false (.p2 .index (.var 1) (.p2 .index (.var 0) (.lit (.int 1)))) [dM o p n,.ref a,.int n,.int (-1),.undef] J=.ok (.ref r) J:=zE rfl rfl (za J A.ord hr)
 have it2:∀ {F:Calls},evE F false (.p2 .index (.var 1) (.p2 .index (.var 0) (.lit (.int 2)))) [dM o p n,.ref a,.int n,.int (-1),.undef] J1=.ok (.ref r2) J1:=zE rfl rfl (za J1 A1.ord hr2)
 exact .mk J2 (zG M.t111 rfl (zL (v:=.int n) rfl (s_t rfl (zL (v:=.int (-1)) rfl (xU (x:=.int (u.paid+(0 - n))) (zE (zE it rfl hp) (zE (x:=.int (-1)) (y:=.int n) rfl rfl (yW J (-1) n (.inl rfl))) (by rw [show (-1) * n=0 - n by omega]; rfl)) it rfl e (s_t rfl (xU (x:=.int (u'.paid+n)) (zE (zE it2 rfl hp2) rfl rfl) it2 rfl e2 (zH rfl)))))))) (A1.change hu2 hr2 O2' hk2) fun m x hm hx=>hk2 m x (kj hm p) (hk m x (kj hm o) hx)
theorem xT {F Fq:Calls} {H:List V} {c:CE} {k m:Nat} {x:V} {l l':Ln} {rest:List CS} {R:R Fl} (h4:zK H 4=some (.ref m)) (hm:J[m]?=some (.list (lnL l))) (hc:evE F false c H J=.ok x J) (hk:k < 8) (hl:(lnL l).set k x=lnL l') (kk:exL F Fq false rest H (J.set m (.list (lnL l')))=R) :
  exL F Fq false (.setItem (.var 4) (.lit (.int k)) c :: rest) H J=R:=
 xU hc (by rw [zu,h4]; rfl) rfl ((vG J hm hk).trans (by rw [hl])) kk
theorem zGs (M:yt T) (A:Acct J ro i a us rs) (hu:us[o]?=some u) {k:Nat} (hl:u.lines[k]?=some l) (ok:l.ok) (w:Wd):Moved J ro i a (us.set o { u with lines:=u.lines.set k (zc w l n) }) rs (dL w o k n) (zA T (d+2) false 111 [dL w o k n,.ref a] J):=by
 obtain ⟨r,hr,Q⟩:=A.at_ o u hu
 obtain ⟨ls,m,h0,hm,hmm,up⟩:=Q.line hl
 obtain ⟨O',hk⟩:=up (zc w l n)
 refine .mk _ (zG M.t111 rfl ?_) (A.change hu hr O' hk) fun m x hm hx=>hk m x (kj hm o) hx
 refine zL (v:=.int n) rfl (s_f (zC (zW (zE rfl rfl (zH1 w)) rfl (zW (zE rfl rfl (zH2 w)) rfl (zE rfl rfl (wc w))))) (zL (v:=.ref m) (zE (zE (zE rfl rfl (za J A.ord hr)) rfl h0) rfl (yy J hm)) ?_))
 have pt:∀ {F:Calls} {k:Nat} {x:V},(lnL l)[k]?=some x->evE F false (.p2 .index (.var 4) (.lit (.int k))) [dL w o k n,.ref a,.int n,.undef,.ref m] J=.ok x J:=fun hx=>yK hmm rfl hx
 cases w with
 | del=>exact s_t rfl (xT (k:=4) (x:=.int (l.s+n)) rfl hmm (zE (yK (k:=4) hmm rfl rfl) rfl rfl) (by decide) rfl (zH rfl))
 | cred=>exact s_f rfl (s_t rfl (xT (k:=7) (x:=.int (l.r+n)) rfl hmm (zE (yK (k:=7) hmm rfl rfl) rfl rfl) (by decide) rfl (zH rfl)))
 | back =>
  have g1:∀ l':Ln,(J.set m (.list (lnL l')))[m]?=some (.list (lnL l')):=fun l'=>zm hmm
  refine s_f rfl (s_f rfl (xT (k:=5) (x:=.int (l.b+n)) (l':={ l with b:=l.b+n }) rfl hmm (zE (yK (k:=5) hmm rfl rfl) rfl rfl) (by decide) rfl ?_))
  refine xT (k:=6) (x:=.int (l.a+0)) (l:={ l with b:=l.b+n }) (l':={ l with b:=l.b+n }) rfl (g1 _) (zE (yK (k:=6) (l:={ l with b:=l.b+n }) (g1 _) rfl rfl) (zE (y:=.int 0) rfl rfl (by rw [yW _ n 0 (.inr rfl),Int.mul_zero])) rfl) (by decide) (by rw [Int.add_zero]; rfl) ?_
  rw [List.set_set]
  refine xT (k:=7) (l:={ l with b:=l.b+n }) (l':=zc .back l n) rfl (g1 _) (zE (yK (k:=7) (l:={ l with b:=l.b+n }) (g1 _) rfl rfl) (zI rfl (zBa (l:={ l with b:=l.b+n }) M (g1 _) ⟨ok.1,ok.2,ok.3,ok.4,ok.5,ok.6⟩)) (zHS _ _ _)) (by decide) rfl ?_
  rw [List.set_set]
  exact zH rfl
 | swap =>
  have g1:∀ l':Ln,(J.set m (.list (lnL l')))[m]?=some (.list (lnL l')):=fun l'=>zm hmm
  refine s_f rfl (s_f rfl (xT (k:=5) (x:=.int (l.b+n)) (l':={ l with b:=l.b+n }) rfl hmm (zE (yK (k:=5) hmm rfl rfl) rfl rfl) (by decide) rfl ?_))
  refine xT (k:=6) (x:=.int (l.a+n)) (l:={ l with b:=l.b+n }) (l':={ l with b:=l.b+n,a:=l.a+n }) rfl (g1 _) (zE (yK (k:=6) (l:={ l with b:=l.b+n }) (g1 _) rfl rfl) (zE (y:=.int 1) (z:=.int n) rfl rfl (by rw [yW _ n 1 (.inr rfl),Int.mul_one])) rfl) (by decide) rfl ?_
  rw [List.set_set]
  refine xT (k:=7) (l:={ l with b:=l.b+n,a:=l.a+n }) (l':=zc .swap l n) rfl (g1 _) (zE (yK (k:=7) (l:={ l with b:=l.b+n,a:=l.a+n }) (g1 _) rfl rfl) (zI rfl (zBa (l:={ l with b:=l.b+n,a:=l.a+n }) M (g1 _) ⟨ok.1,ok.2,ok.3,ok.4,ok.5,ok.6⟩)) (zHS _ _ _)) (by decide) rfl ?_
  rw [List.set_set]
  exact zH rfl
end
end Mine
end

section
namespace Mine
open PySem
section
variable {F Fq:Calls} {q:Bool} {J J1 J2:Sto} {H H1 H₂:List V} {i v:Nat} {body rest:List CS} {x y:V} {r:R Fl}
theorem zA4 {s:CS} {rest:List CS} {H':List V} {J':Sto} {r:R Fl} (h:exS F Fq q s H J=.ok (.next H') J') (k:exL F Fq q rest H' J'=r):exL F Fq q (s :: rest) H J=r:=by
 rw [yI,h]; exact k
theorem zP5 (hv:zK H v=some (.lst [x])) (h:exL F Fq false body (H.set i x) J=.ok (.next H1) J1) (k:exL F Fq false rest H1 J1=r):exL F Fq false (.for i .val [.var v] body :: rest) H J=r:=by
 have e:exS F Fq false (.for i .val [.var v] body) H J=.ok (.next H1) J1:=by
  show ((evL F false [.var v] H J).bind fun vs J=>(R.lift J (zT J .val vs)).bind fun it J=>yl it (fun x H J=>(exL F Fq false body (H.set i x) J)) H J)=_
  rw [zD (vs:=[]) (show evE F false (.var v) H J=.ok (.lst [x]) J by rw [zu,hv]; rfl) rfl]
  show ((exL F Fq false body (H.set i x) J).bind fun fl J=>match fl with
   | .next H=>yp (.now [x]) (fun x H J=>(exL F Fq false body (H.set i x) J)) 1 1 H J
   | .ret v=>.ok (.ret v) J)=_
  rw [h]; rfl
 rw [yI,e]; exact k
theorem zP6 (hv:zK H v=some (.lst [x,y])) (h:exL F Fq false body (H.set i x) J=.ok (.next H1) J1) (h':exL F Fq false body (H1.set i y) J1=.ok (.next H₂) J2) (k:exL F Fq false rest H₂ J2=r):exL F Fq false (.for i .val [.var v] body :: rest) H J=r:=by
 have e:exS F Fq false (.for i .val [.var v] body) H J=.ok (.next H₂) J2:=by
  show ((evL F false [.var v] H J).bind fun vs J=>(R.lift J (zT J .val vs)).bind fun it J=>yl it (fun x H J=>(exL F Fq false body (H.set i x) J)) H J)=_
  rw [zD (vs:=[]) (show evE F false (.var v) H J=.ok (.lst [x,y]) J by rw [zu,hv]; rfl) rfl]
  show ((exL F Fq false body (H.set i x) J).bind fun fl J=>match fl with
   | .next H=>yp (.now [x,y]) (fun x H J=>(exL F Fq false body (H.set i x) J)) 2 1 H J
   | .ret v=>.ok (.ret v) J)=_
  rw [h]
  show ((exL F Fq false body (H1.set i y) J1).bind fun fl J=>match fl with
   | .next H=>yp (.now [x,y]) (fun x H J=>(exL F Fq false body (H.set i x) J)) 1 2 H J
   | .ret v=>.ok (.ret v) J)=_
  rw [h']; rfl
 rw [yI,e]; exact k
end
section
variable {T:Nat->Option Fn} {d:Nat} {J:Sto} {ro:Nat->Role} {i a o r p:Nat} {us:List Or} {rs:List V} {u u' u1 u2:Or} {l:Ln} {n:Int}
theorem jG (M:yt T) (A:Acct J ro i a us rs) (hok:∀ u ∈ us,u.ok) (hlim:us.length <= LIM) {H:List V} {j:Nat} {c:Nat} (hj:zK H j=some (.ref a)) (hlen:H.length=c):evE (zA T (d+2) false) false (.comp (.call 103 [.var c]) .val [.var j] none) H J=.ok (.lst (iv (us.map Or.owed))) J:=by
 refine jX (vs:=[.ref a]) (xs:=rs) (zD (by rw [zu,hj]; rfl) rfl) (wQ J A.ord) (.inr ⟨a,rfl,A.ord⟩) (by rw [A.len]; exact hlim) (by rw [vT,List.length_map]; exact A.len) fun k x hx=>?_
 have hk:k < us.length:=by rw [<- A.len]; exact (List.getElem?_eq_some_iff.mp hx).1
 have hu:us[k]?=some us[k]:=List.getElem?_eq_getElem hk
 generalize us[k]=u at hu
 obtain ⟨r,hr,Q⟩:=A.at_ k u hu
 rw [hr] at hx; cases hx
 have vc:evE (zA T (d+2) false) false (.var c) (H++[.ref r]) J=.ok (.ref r) J:=by
  rw [zu]; unfold zK; rw [List.getElem?_append_right (by omega),hlen,Nat.sub_self]; rfl
 exact ⟨.int u.owed,by unfold iv; rw [List.getElem?_map,List.getElem?_map,hu]; rfl,zI (zD vc rfl) (zB6 M Q (hok u (List.mem_of_getElem? hu)))⟩
theorem zMA {F Fq:Calls} {dv x2 x3 x4:V} {w:Str} {c:Int} (A:Acct J ro i a us rs) (hv:∀ H:List V,zK (dv :: H) 0=some dv) (w0:∀ J,ev2 .index J dv (.int 0)=some (.str w)) (hu:us[o]?=some u) (hlim:u.rows.length < LIM) :
  ∃ J',exL F Fq false [.exp (.append (.p2 .index (.p2 .index (.var 1) (.p2 .index (.var 5) (.lit (.int 0)))) (.lit (.int 2))) (.tup [.p2 .index (.var 0) (.lit (.int 0)),.p2 .index (.var 5) (.lit (.int 1))]))] [dv,.ref a,x2,x3,x4,.tup [.int o,.int c]] J=.ok (.next [dv,.ref a,x2,x3,x4,.tup [.int o,.int c]]) J' /\
   Acct J' ro i a (us.set o { u with rows:=u.rows++[(w,c)] }) rs /\ ∀ (n:Nat) (x:O),¬ wn i (ro n)->J[n]?=some x->J'[n]?=some x:=by
 obtain ⟨r,hr,Q⟩:=A.at_ o u hu
 obtain ⟨q,J',h2,hl,ha,Q',hk⟩:=Q.addRow (w,c) hlim
 have v0:evE F false (.var 0) [dv,.ref a,x2,x3,x4,.tup [.int o,.int c]] J=.ok dv J:=by rw [zu,hv]; rfl
 exact ⟨J',ym (zp (zE (zE rfl rfl (za J A.ord hr)) rfl h2) hl (yk (zD (zE v0 rfl (w0 J)) (zD rfl rfl))) ha) zOd,A.change hu hr Q' hk,fun n x hn hx=>hk n x (kj hn o) hx⟩
theorem zCM (M:yt T) (A:Acct J ro i a us rs) (hok:∀ u ∈ us,u.ok) (hlim:us.length <= LIM) {dv:V} {w:W8} (hv:∀ H:List V,zK (dv :: H) 0=some dv) (w0:∀ J,ev2 .index J dv (.int 0)=some (.str w.s)) (a1:∀ J,ev2 .index J dv (.int 1)=some (.int o)) (hno:∀ J,ev2 .eq J (.str w.s) (.str yM)=some (.bool false)) (hnm:∀ J,ev2 .eq J (.str w.s) (.str zx)=some (.bool false))
  (hu:us[o]?=some u) (ho1:u1.ok) (hr1:u1.rows=u.rows) (hrl:u.rows.length < LIM) (ht:Moved J ro i a (us.set o u1) rs dv (zA T (d+2) false 111 [dv,.ref a] J)) :
  Moved J ro i a (us.set o { u1 with rows:=u.rows++[(w.s,u1.owed - u.owed)] }) rs (chV [((o:Int),u1.owed - u.owed)]) (zA T (d+3) false 112 [dv,.ref a] J):=by
 cases ht with
 | mk J1 et A1 k1 =>
 have ho:o < us.length:=(List.getElem?_eq_some_iff.mp hu).1
 have hu1:(us.set o u1)[o]?=some u1:=List.getElem?_set_self ho
 obtain ⟨J2,es,A2,k2⟩:=zMA (F:=zA T (d+2) false) (Fq:=zA T (d+2) true) (x2:=.lst [.int o]) (x3:=.lst (iv (us.map Or.owed))) (x4:=chV [((o:Int),u1.owed - u.owed)]) (c:=u1.owed - u.owed) A1 hv w0 hu1 (by rw [hr1]; exact hrl)
 have v0:∀ {F:Calls} {J:Sto} {H:List V},evE F false (.var 0) (dv :: H) J=.ok dv J:=fun {F J H}=>by rw [zu,hv]; rfl
 have wo:∀ {F:Calls} {J:Sto} {H:List V},evC F false (some (.p2 .eq (.p2 .index (.var 0) (.lit (.int 0))) (.lit (.str yM)))) (dv :: H) J=.ok false J:=fun {F J H}=>zC (zE (zE v0 rfl (w0 J)) rfl (hno J))
 have wm:∀ {F:Calls} {J:Sto} {H:List V},evC F false (some (.p2 .eq (.p2 .index (.var 0) (.lit (.int 0))) (.lit (.str zx)))) (dv :: H) J=.ok false J:=fun {F J H}=>zC (zE (zE v0 rfl (w0 J)) rfl (hnm J))
 obtain ⟨r1,hr1',Q1⟩:=A1.at_ o u1 hu1
 have ec:evE (zA T (d+2) false) false (.comp (.tup [.var 6,.p2 .sub (.call 103 [.p2 .index (.var 1) (.var 6)]) (.p2 .index (.var 3) (.var 6))]) .val [.var 2] none) [dv,.ref a,.lst [.int o],.lst (iv (us.map Or.owed)),.undef,.undef] J1=.ok (chV [((o:Int),u1.owed - u.owed)]) J1:=by
  refine jX (vs:=[.lst [.int o]]) (xs:=[.int o]) (ys:=chL [((o:Int),u1.owed - u.owed)]) rfl rfl (.inl rfl) (by show 1 <= LIM; decide) rfl fun k x hx=>?_
  match k,hx with
  | 0,hx =>
   cases hx
   exact ⟨_,rfl,yk (zD rfl (zD (zE (zI (zD (zE rfl rfl (za J1 A1.ord hr1')) rfl) (zB6 M Q1 ho1)) (zE rfl rfl (yy J1 (v:=.int u.owed) (by unfold iv; rw [List.getElem?_map,List.getElem?_map,hu]; rfl))) rfl) rfl))⟩
  | k+1,hx=>cases hx
 refine .mk J2 (zG M.t112 rfl (s_f wo (zL (v:=.lst [.int o]) (jI (zD (zE v0 rfl (a1 J)) rfl)) (s_f wm (zL (jG M A hok hlim rfl rfl) (ym (zI (zD v0 (zD rfl rfl)) et) (zL ec (zP5 rfl es (zH rfl))))))))) ?_ fun n x hn hx=>k2 n x hn (k1 n x hn hx)
 rw [List.set_set,hr1] at A2; exact A2
theorem ar1 {L p n:Int}:L - (p+(0 - n))=L - p+n:=by rw [<- Int.sub_sub,Int.zero_sub,Int.sub_neg]
theorem ar2 {L p n:Int}:L - (p+n)=L - p + -n:=by rw [<- Int.sub_sub]; exact Int.sub_eq_add_neg
theorem ar3 {x n:Int}:x+n - x=n:=zN8 x n
theorem ar4 {n:Int}:0 - (0 - n)=n:=by rw [Int.zero_sub,Int.zero_sub,Int.neg_neg]
theorem zMH (M:yt T) (A:Acct J ro i a us rs) (hok:∀ u ∈ us,u.ok) (hlim:us.length <= LIM) (hu:us[o]?=some u) (hu':us[p]?=some u') (hop:o ≠ p) (hrl:u.rows.length < LIM) (hrl':u'.rows.length < LIM) :
  Moved J ro i a (vL us o p u u' n) rs (chV [((o:Int),n),((p:Int),-n)]) (zA T (d+3) false 112 [dM o p n,.ref a] J):=by
 have ht:=zGt (d:=d) (n:=n) M A hu hu' hop
 have ok1:({ u with paid:=u.paid+(0 - n) }:Or).ok:=⟨(hok u (List.mem_of_getElem? hu)).few,(hok u (List.mem_of_getElem? hu)).ls⟩
 have ok2:({ u' with paid:=u'.paid+n }:Or).ok:=⟨(hok u' (List.mem_of_getElem? hu')).few,(hok u' (List.mem_of_getElem? hu')).ls⟩
 generalize hu1:({ u with paid:=u.paid+(0 - n) }:Or)=u1 at ht ok1
 generalize hu2:({ u' with paid:=u'.paid+n }:Or)=u2 at ht ok2
 have w1:u1.owed=u.owed+n:=by rw [<- hu1]; show (u.lines.map Ln.charge).sum - (u.paid+(0 - n))=(u.lines.map Ln.charge).sum - u.paid+n; exact ar1
 have w2:u2.owed=u'.owed + -n:=by rw [<- hu2]; show (u'.lines.map Ln.charge).sum - (u'.paid+n)=(u'.lines.map Ln.charge).sum - u'.paid + -n; exact ar2
 cases ht with
 | mk J1 et A1 k1 =>
 have ho:o < us.length:=(List.getElem?_eq_some_iff.mp hu).1
 have hp:p < us.length:=(List.getElem?_eq_some_iff.mp hu').1
 have h1:((us.set o u1).set p u2)[o]?=some u1:=by rw [List.getElem?_set_ne (fun q=>hop q.symm)]; exact List.getElem?_set_self ho
 have h2:((us.set o u1).set p u2)[p]?=some u2:=List.getElem?_set_self (by rw [List.length_set]; exact hp)
 obtain ⟨J2,es,A2,k2⟩:=zMA (F:=zA T (d+2) false) (Fq:=zA T (d+2) true) (dv:=dM o p n) (w:=zx) (x2:=.lst [.int o,.int p]) (x3:=.lst (iv (us.map Or.owed))) (x4:=chV [((o:Int),n),((p:Int),-n)]) (c:=n) A1 (fun _=>rfl) (fun _=>rfl) h1 (by rw [<- hu1]; exact hrl)
 have h2':(((us.set o u1).set p u2).set o { u1 with rows:=u1.rows++[(zx,n)] })[p]?=some u2:=by rw [List.getElem?_set_ne hop]; exact h2
 obtain ⟨J3,es2,A3,k3⟩:=zMA (F:=zA T (d+2) false) (Fq:=zA T (d+2) true) (dv:=dM o p n) (w:=zx) (x2:=.lst [.int o,.int p]) (x3:=.lst (iv (us.map Or.owed))) (x4:=chV [((o:Int),n),((p:Int),-n)]) (c:=-n) A2 (fun _=>rfl) (fun _=>rfl) h2' (by rw [<- hu2]; exact hrl')
 obtain ⟨r1,hr1,Q1⟩:=A1.at_ o u1 h1
 obtain ⟨r2,hr2,Q2⟩:=A1.at_ p u2 h2
 have ec:evE (zA T (d+2) false) false (.comp (.tup [.var 6,.p2 .sub (.call 103 [.p2 .index (.var 1) (.var 6)]) (.p2 .index (.var 3) (.var 6))]) .val [.var 2] none) [dM o p n,.ref a,.lst [.int o,.int p],.lst (iv (us.map Or.owed)),.undef,.undef] J1=.ok (chV [((o:Int),n),((p:Int),-n)]) J1:=by
  refine jX (vs:=[.lst [.int o,.int p]]) (xs:=[.int o,.int p]) (ys:=chL [((o:Int),n),((p:Int),-n)]) rfl rfl (.inl rfl) (by show 2 <= LIM; decide) rfl fun k x hx=>?_
  match k,hx with
  | 0,hx =>
   cases hx
   exact ⟨_,rfl,yk (zD rfl (zD (zE (zI (zD (zE rfl rfl (za J1 A1.ord hr1)) rfl) (zB6 M Q1 ok1)) (zE rfl rfl (yy J1 (v:=.int u.owed) (by unfold iv; rw [List.getElem?_map,List.getElem?_map,hu]; rfl))) (by rw [zBZ,w1,ar3])) rfl))⟩
  | 1,hx =>
   cases hx
   exact ⟨_,rfl,yk (zD rfl (zD (zE (zI (zD (zE rfl rfl (za J1 A1.ord hr2)) rfl) (zB6 M Q2 ok2)) (zE rfl rfl (yy J1 (v:=.int u'.owed) (by unfold iv; rw [List.getElem?_map,List.getElem?_map,hu']; rfl))) (by rw [zBZ,w2,ar3])) rfl))⟩
  | k+2,hx=>cases hx
 refine .mk J3 (zG M.t112 rfl (s_f rfl (zL (v:=.lst [.int o]) rfl (s_t rfl (zL (v:=.lst [.int o,.int p]) rfl (zL (jG M A hok hlim rfl rfl) (ym (zI rfl et) (zL ec (zP6 rfl es es2 (zH rfl)))))))))) ?_ fun n x hn hx=>k3 n x hn (k2 n x hn (k1 n x hn hx))
 have e:(((us.set o u1).set p u2).set o { u1 with rows:=u1.rows++[(zx,n)] }).set p { u2 with rows:=u2.rows++[(zx,-n)] }=vL us o p u u' n:=by
  unfold vL
  rw [List.set_comm u2 _ (fun q=>hop q.symm),List.set_set,List.set_set,<- hu1,<- hu2]
  show (us.set o { lines:=u.lines,paid:=u.paid+(0 - n),rows:=u.rows++[(zx,n)] }).set p { lines:=u'.lines,paid:=u'.paid+n,rows:=u'.rows++[(zx,-n)] }=(us.set o { lines:=u.lines,paid:=u.paid+(0 - n),rows:=u.rows++[(zx,0 - (0 - n))] }).set p { lines:=u'.lines,paid:=u'.paid+n,rows:=u'.rows++[(zx,0 - n)] }
  rw [ar4,Int.zero_sub]
 rw [<- e]; exact A3
end
end Mine
end

section
namespace Mine
open PySem
inductive LinesOf (J:Sto) (raws:List V):V->Prop
 | lst:LinesOf J raws (.lst raws)
 | ref (k:Nat) (h:J[k]?=some (.list raws)):LinesOf J raws (.ref k)
inductive DeedAt (J:Sto):Deed->V->Prop
 | ord (ls:List Ln) (lv:V) (h:LinesOf J (ls.map Ln.raw) lv):DeedAt J (.ord ls) (.tup [.str yM,lv])
 | oth (D:Deed) (hn:∀ ls,D ≠ .ord ls):DeedAt J D D.v
theorem DeedAt.val {J:Sto} (D:Deed):DeedAt J D D.v:=by
 cases D with
 | ord ls=>exact .ord ls _ .lst
 | _=>exact .oth _ (fun _ h=>nomatch h)
inductive zDn (J:Sto) (ro:Nat->Role) (i a:Nat) (us':List Or) (v:V) (r:R V):Prop
 | mk (J':Sto) (ro':Nat->Role) (rs':List V) (er:r=.ok v J') (A:Acct J' ro' i a us' rs') (hro:∀ (n:Nat) (x:O),J[n]?=some x->ro' n=ro n) (hk:∀ (n:Nat) (x:O),¬ wn i (ro n)->J[n]?=some x->J'[n]?=some x)
theorem Moved.stepped {J:Sto} {ro:Nat->Role} {i a:Nat} {us':List Or} {rs:List V} {v:V} {r:R V} (h:Moved J ro i a us' rs v r):zDn J ro i a us' v r:=by
 cases h with
 | mk J' er A hk=>exact .mk J' ro rs er A (fun _ _ _=>rfl) hk
section
variable {T:Nat->Option Fn} {d:Nat} {J:Sto} {ro:Nat->Role} {i a:Nat} {us:List Or} {rs:List V}
noncomputable def xS (ls:List Ln):Sto:=ls.map fun l=>O.list (lnL l.fresh)
theorem zF6 {F:Calls} {ls:List Ln} {lv:V} (hlim:ls.length <= LIM) (h:LinesOf J (ls.map Ln.raw) lv):evE F false (.comp (.trk (.p2 .add (.p1 .toList (.var 6)) (.list [.lit (.int 0),.lit (.int 0),.lit (.int 0),.lit (.int 0)]))) .val [.p2 .index (.var 0) (.lit (.int 1))] none) [.tup [.str yM,lv],.ref a,.undef,.undef,.undef,.undef] J=.ok (.lst ((List.range ls.length).map fun t=>.ref (J.length+t))) (J++xS ls):=by
 have key:∀ {it:Items},zT J .val [lv]=some it->(∀ X:Sto,Gives (J++X) it (ls.map Ln.raw))->evE F false (.comp (.trk (.p2 .add (.p1 .toList (.var 6)) (.list [.lit (.int 0),.lit (.int 0),.lit (.int 0),.lit (.int 0)]))) .val [.p2 .index (.var 0) (.lit (.int 1))] none) [.tup [.str yM,lv],.ref a,.undef,.undef,.undef,.undef] J=.ok (.lst ((List.range ls.length).map fun t=>.ref (J.length+t))) (J++xS ls):=fun {it} hit hg=>by
  obtain ⟨acc,J',e,h1,h2,_⟩:=zEg (F:=F) (elt:=.trk (.p2 .add (.p1 .toList (.var 6)) (.list [.lit (.int 0),.lit (.int 0),.lit (.int 0),.lit (.int 0)]))) (k:=.val) (src:=[.p2 .index (.var 0) (.lit (.int 1))]) (H:=[.tup [.str yM,lv],.ref a,.undef,.undef,.undef,.undef]) (vs:=[lv]) (J:=J) (J1:=J) (it:=it) (xs:=ls.map Ln.raw)
   (fun j acc J'=>acc=(List.range j).map (fun t=>V.ref (J.length+t)) /\ J'=J++xS (ls.take j) /\ j <= ls.length) rfl hit (fun j acc J' hI=>by obtain ⟨rfl,rfl,_⟩:=hI; exact ⟨hg _,by rw [List.length_map,List.length_range]⟩) (by rw [List.length_map]; exact hlim) ⟨rfl,by rw [List.take_zero]; exact (List.append_nil J).symm,Nat.zero_le _⟩ fun j x acc J' hx hI=>by
    obtain ⟨rfl,rfl,hj⟩:=hI
    rw [List.getElem?_map] at hx
    obtain ⟨l,hl,rfl⟩:=map_some hx
    have hjl:j < ls.length:=(List.getElem?_eq_some_iff.mp hl).1
    refine ⟨.ref (J.length+j),J++xS (ls.take (j+1)),?_,?_,rfl,hjl⟩
    ·rw [zCY,zE (x:=.lst [.str l.item,.int l.p,.int l.c,.int l.k]) (y:=.lst [.int 0,.int 0,.int 0,.int 0]) (z:=.lst (lnL l.fresh)) (zV (x:=l.raw) rfl rfl) rfl rfl]
     show R.ok (V.ref (J++xS (ls.take j)).length) (J++xS (ls.take j)++[O.list (lnL l.fresh)])=_
     have hn:(xS (ls.take j)).length=j:=by unfold xS; rw [List.length_map,List.length_take]; exact Nat.min_eq_left hj
     rw [List.length_append,hn,List.append_assoc,List.take_add_one,hl]
     unfold xS
     rw [List.map_append]; rfl
    ·rw [List.range_succ,List.map_append]; rfl
  rw [e,h1,h2,List.length_map,List.take_length]
 cases h with
 | lst=>exact key rfl fun _=>.inl rfl
 | ref k hk=>exact key (wQ J hk) fun X=>.inr ⟨k,rfl,by rw [List.getElem?_append_left (List.getElem?_eq_some_iff.mp hk).1]; exact hk⟩
theorem zMG (M:yt T) (A:Acct J ro i a us rs) (hlim:us.length < LIM) {ls:List Ln} {lv:V} (hls:ls.length <= 20) (h:LinesOf J (ls.map Ln.raw) lv):zDn J ro i a (us++[xB ls]) (.lst []) (zA T (d+3) false 112 [.tup [.str yM,lv],.ref a] J):=by
 have hn:(xS ls).length=ls.length:=by unfold xS; rw [List.length_map]
 have ha:a < J.length:=(List.getElem?_eq_some_iff.mp A.ord).1
 generalize hrf:(List.range ls.length).map (fun t=>V.ref (J.length+t))=rf
 have ec:=zF6 (F:=zA T (d+2) false) (a:=a) (Nat.le_trans hls (by decide)) h
 rw [hrf] at ec
 generalize hS:J++xS ls++[O.list []]++[O.list [.lst rf,.int 0,.ref (J.length+ls.length)]]=S
 have hlen1:(J++xS ls).length=J.length+ls.length:=by rw [List.length_append,hn]
 have hlen2:(J++xS ls++[O.list []]).length=J.length+ls.length+1:=by rw [List.length_append,hlen1]; rfl
 have ee:evE (zA T (d+2) false) false (.trk (.list [.comp (.trk (.p2 .add (.p1 .toList (.var 6)) (.list [.lit (.int 0),.lit (.int 0),.lit (.int 0),.lit (.int 0)]))) .val [.p2 .index (.var 0) (.lit (.int 1))] none,.lit (.int 0),.trk (.list [])])) [.tup [.str yM,lv],.ref a,.undef,.undef,.undef,.undef] J=.ok (.ref (J.length+ls.length+1)) S:=by
  rw [zCY,jI (zD ec (zD (J2:=J++xS ls++[O.list []]) (vs:=[.ref (J.length+ls.length)]) rfl (by
   rw [jT,zCY]
   show R.ok [V.ref (J++xS ls).length] (J++xS ls++[O.list []])=_
   rw [hlen1])))]
  show R.ok (V.ref (J++xS ls++[O.list []]).length) (J++xS ls++[O.list []]++[O.list [.lst rf,.int 0,.ref (J.length+ls.length)]])=_
  rw [hlen2,hS]
 have old:∀ (n:Nat) (x:O),J[n]?=some x->S[n]?=some x:=fun n x hx=>by
  rw [<- hS,List.append_assoc,List.append_assoc,List.getElem?_append_left (List.getElem?_eq_some_iff.mp hx).1]; exact hx
 have hSa:=old a _ A.ord
 have atL:∀ (k:Nat) (l:Ln),ls[k]?=some l->S[J.length+k]?=some (.list (lnL l.fresh)):=fun k l hl=>by
  have hk:k < ls.length:=(List.getElem?_eq_some_iff.mp hl).1
  rw [<- hS,List.append_assoc,List.append_assoc,List.getElem?_append_right (Nat.le_add_right _ _),Nat.add_sub_cancel_left,List.getElem?_append_left (by rw [hn]; exact hk)]
  unfold xS
  rw [List.getElem?_map,hl]; rfl
 have atQ:S[J.length+ls.length]?=some (.list []):=by
  rw [<- hS,List.getElem?_append_left (by rw [hlen2]; exact Nat.lt_succ_self _),<- hlen1]; exact yx
 have atR:S[J.length+ls.length+1]?=some (.list [.lst rf,.int 0,.ref (J.length+ls.length)]):=by
  rw [<- hS,<- hlen2]; exact yx
 let ro':Nat->Role:=fun n=>if n < J.length then ro n else if n < J.length+ls.length then .lin i us.length (n - J.length) else if n=J.length+ls.length then .row i us.length else .ord i us.length
 have hro:∀ n,n < J.length->ro' n=ro n:=fun n h=>if_pos h
 have nea:∀ {n:Nat},J.length <= n->a ≠ n:=fun h=>Nat.ne_of_lt (Nat.lt_of_lt_of_le ha h)
 refine .mk (S.set a (.list (rs++[.ref (J.length+ls.length+1)]))) ro' (rs++[.ref (J.length+ls.length+1)]) (zG M.t112 rfl (s_t rfl (ym (zp (x:=.ref a) rfl (by show (xI _).isSome=true; rw [A.ord]; rfl) ee (zk _ hSa (by rw [A.len]; exact hlim))) (zH rfl)))) ?_ (fun n x hx=>hro n (List.getElem?_eq_some_iff.mp hx).1) fun n x hn hx=>zJ (old n x hx) fun q=>hn (by rw [<- q]; exact .inl A.ra)
 refine ⟨zm hSa,(hro a ha).trans A.ra,by rw [List.length_append,List.length_append,A.len]; rfl,fun o u hu=>?_⟩
 by_cases ho:o < us.length
 ·rw [List.getElem?_append_left ho] at hu
  obtain ⟨r,hr,Q⟩:=A.at_ o u hu
  refine ⟨r,by rw [List.getElem?_append_left (by rw [A.len]; exact ho)]; exact hr,Q.keep fun n x hn hx=>⟨zJ (old n x hx) fun q=>?_,hro n (List.getElem?_eq_some_iff.mp hx).1⟩⟩
  rw [<- q,A.ra] at hn
  rcases hn with h | h | ⟨k,h⟩ <;> cases h
 ·have hl:o < us.length+1:=by have:=(List.getElem?_eq_some_iff.mp hu).1; rw [List.length_append] at this; exact this
  obtain rfl:o=us.length:=Nat.le_antisymm (Nat.lt_succ_iff.mp hl) (Nat.not_lt.mp ho)
  rw [List.getElem?_append_right (Nat.le_refl _),Nat.sub_self] at hu
  cases hu
  refine ⟨J.length+ls.length+1,by rw [<- A.len,List.getElem?_append_right (Nat.le_refl _),Nat.sub_self]; rfl,.mk (J.length+ls.length) rf (zJ atR (nea (Nat.le_succ_of_le (Nat.le_add_right _ _)))) ?_ (zJ atQ (nea (Nat.le_add_right _ _))) ?_ ?_ fun k l hk=>?_⟩
  ·show (if _ then _ else _)=_
   rw [if_neg (Nat.not_lt.mpr (Nat.le_succ_of_le (Nat.le_add_right _ _))),if_neg (Nat.not_lt.mpr (Nat.le_succ _)),if_neg (Nat.succ_ne_self _)]
  ·show (if _ then _ else _)=_
   rw [if_neg (Nat.not_lt.mpr (Nat.le_add_right _ _)),if_neg (Nat.lt_irrefl _),if_pos rfl]
  ·show rf.length=(ls.map Ln.fresh).length
   rw [<- hrf,List.length_map,List.length_map,List.length_range]
  ·replace hk:(ls.map Ln.fresh)[k]?=some l:=hk
   rw [List.getElem?_map] at hk
   obtain ⟨m,hm,rfl⟩:=map_some hk
   have hkl:k < ls.length:=(List.getElem?_eq_some_iff.mp hm).1
   refine ⟨J.length+k,by rw [<- hrf,List.getElem?_map,List.getElem?_range hkl]; rfl,zJ (atL k m hm) (nea (Nat.le_add_right _ _)),?_⟩
   show (if _ then _ else _)=_
   rw [if_neg (Nat.not_lt.mpr (Nat.le_add_right _ _)),if_pos (Nat.add_lt_add_left hkl _),Nat.add_sub_cancel_left]
theorem zCx (s p n:Int):s - (p+n) - (s - p)=-n:=by rw [<- Int.sub_sub,zQo]
theorem zLL (M:yt T) (A:Acct J ro i a us rs) (hok:∀ u ∈ us,u.ok) (hrow:∀ u ∈ us,u.rows.length < LIM) (hlim:us.length < LIM) {D:Deed} {us':List Or} {out:List (Int × Int)} (S:Step us D us' out) (hf:D.fit us) {dv:V} (hd:DeedAt J D dv) :
  zDn J ro i a us' (chV out) (zA T (d+3) false 112 [dv,.ref a] J):=by
 have hl:=Nat.le_of_lt hlim
 cases S with
 | ord ls =>
  cases hd with
  | ord _ lv h=>exact zMG M A hlim hf.2.1 h
  | oth _ hn=>exact (hn ls rfl).elim
 | pay o n u hu h1 =>
  cases hd
  have k:=hok u (List.mem_of_getElem? hu)
  have w1:({ u with paid:=u.paid+n }:Or).owed - u.owed=-n:=zCx _ u.paid n
  have:=(zCM (w:=.pay) (u1:={ u with paid:=u.paid+n }) M A hok hl (fun _=>rfl) (fun _=>rfl) (fun _=>rfl) (fun _=>rfl) (fun _=>rfl) hu ⟨k.few,k.ls⟩ rfl (hrow u (List.mem_of_getElem? hu)) (zGu (d:=d) (n:=n) M A hu)).stepped
  rw [w1] at this
  unfold xC
  rw [Int.zero_sub]; exact this
 | ref o n u hu h1 h2 =>
  cases hd
  have k:=hok u (List.mem_of_getElem? hu)
  have w1:({ u with paid:=u.paid+(0 - n) }:Or).owed - u.owed=n:=(zCx _ u.paid (0 - n)).trans (by rw [Int.zero_sub,Int.neg_neg])
  have:=(zCM (w:=.ref) (u1:={ u with paid:=u.paid+(0 - n) }) M A hok hl (fun _=>rfl) (fun _=>rfl) (fun _=>rfl) (fun _=>rfl) (fun _=>rfl) hu ⟨k.few,k.ls⟩ rfl (hrow u (List.mem_of_getElem? hu)) (zGv (d:=d) (n:=n) M A hu)).stepped
  rw [w1] at this
  unfold xC
  rw [show (0 - (0 - n))=n from (Int.zero_sub _).trans ((congrArg _ (Int.zero_sub n)).trans (Int.neg_neg n))]; exact this
 | mov o p n u u' hu hu' hop h1 h2 =>
  cases hd
  exact (zMH M A hok hl hu hu' hop (hrow u (List.mem_of_getElem? hu)) (hrow u' (List.mem_of_getElem? hu'))).stepped
 | lin w o k n u l hu hl' h1 h2 =>
  cases hd
  have ku:=hok u (List.mem_of_getElem? hu)
  have okl:=ku.ls l (List.mem_of_getElem? hl')
  have ok1:({ u with lines:=u.lines.set k (zc w l n) }:Or).ok:=⟨by show (u.lines.set k _).length <= 20; rw [List.length_set]; exact ku.few,fun m hm=>by
   rcases zX hm with hm | rfl
   ·exact ku.ls m hm
   ·exact xf okl⟩
  have w1:({ u with lines:=u.lines.set k (zc w l n) }:Or).owed - u.owed=(zc w l n).charge - l.charge:=by
   have:=zHj (u:=u) hl' w n
   have e:({ u with lines:=u.lines.set k (zc w l n) }:Or).owed=(upL w u k l n).owed:=rfl
   rw [e,this,Int.add_comm,Int.add_sub_cancel]
  have:=(zCM (w:=.lin w) (u1:={ u with lines:=u.lines.set k (zc w l n) }) M A hok hl (fun _=>rfl) (fun _=>rfl) (fun _=>rfl) (fun _=>zFn w) (fun _=>wc w) hu ok1 rfl (hrow u (List.mem_of_getElem? hu)) (zGs (d:=d) (n:=n) M A hu hl' okl w)).stepped
  rw [w1] at this
  exact this
end
end Mine
end

section
namespace Mine
open PySem
end Mine
end

section
namespace Mine
open PySem
noncomputable def zCw (J:Sto):Cls ⊕ V->R Fl
 | .inl c=>.exc c J
 | .inr v=>.ok (.ret v) J
section
variable {F Fq:Calls} {J:Sto} {i:Nat} {k:SK} {src:List CE} {body:List CS} {α:Type}
theorem zEu {it:Items} {f:V->List V->Sto->R Fl} {l:List α} {φ:α->V} (err:α->Option Cls) (g:Cls->Cls ⊕ V) (I:List V->Prop) (hG:Gives J it (l.map φ))
  (hs:∀ x ∈ l,∀ H,I H->(∀ c,err x=some c->f (φ x) H J=zCw J (g c)) /\ (err x=none->∃ H',f (φ x) H J=.ok (.next H') J /\ I H')) :
  ∀ (m:List α) (j:Nat) (H:List V),l.drop j=m->I H->(∀ c,m.findSome? err=some c->yp it f (m.length+1) j H J=zCw J (g c)) /\ (m.findSome? err=none->∃ H',yp it f (m.length+1) j H J=.ok (.next H') J /\ I H')
 | [],j,H,hd,hI=>by
  have hj:(l.map φ)[j]?=none:=by
   rw [List.getElem?_map,<- Nat.add_zero j,<- List.getElem?_drop,hd]; rfl
  refine ⟨fun c h=>(nomatch h),fun _=>⟨H,?_,hI⟩⟩
  show yp it f (0+1) j H J=_
  rw [jL,hG.next,hj]
 | x :: m,j,H,hd,hI=>by
  have hx:l[j]?=some x:=by rw [<- Nat.add_zero j,<- List.getElem?_drop,hd]; rfl
  have hj:(l.map φ)[j]?=some (φ x):=by rw [List.getElem?_map,hx]; rfl
  have hm:l.drop (j+1)=m:=by rw [<- List.drop_drop,hd]; rfl
  obtain ⟨h1,h2⟩:=hs x (List.mem_of_getElem? hx) H hI
  have e:yp it f ((x :: m).length+1) j H J=(f (φ x) H J).bind fun fl J=>match fl with
    | .next H=>yp it f (m.length+1) (j+1) H J
    | .ret v=>.ok (.ret v) J:=by
   show yp it f ((m.length+1)+1) j H J=_
   rw [jL,hG.next,hj] <;> rfl
  rw [e]
  cases hx':err x with
  | some c =>
   rw [List.findSome?_cons,hx',h1 c hx']
   refine ⟨fun c' hc=>?_,fun h=>(nomatch h)⟩
   cases hc
   cases g c <;> rfl
  | none =>
   rw [List.findSome?_cons,hx']
   obtain ⟨H',e',hI'⟩:=h2 hx'
   rw [e']
   exact zEu err g I hG hs m (j+1) H' hm hI'
theorem ka {it:Items} {H vs:List V} {l:List α} {φ:α->V} (err:α->Option Cls) (g:Cls->Cls ⊕ V) (I:List V->Prop)
  (hsrc:evL F false src H J=.ok vs J) (hit:zT J k vs=some it) (hG:Gives J it (l.map φ)) (h0:I H)
  (hs:∀ x ∈ l,∀ H,I H->(∀ c,err x=some c->exL F Fq false body (H.set i (φ x)) J=zCw J (g c)) /\ (err x=none->∃ H',exL F Fq false body (H.set i (φ x)) J=.ok (.next H') J /\ I H')) :
  (∀ c,l.findSome? err=some c->exS F Fq false (.for i k src body) H J=zCw J (g c)) /\ (l.findSome? err=none->∃ H',exS F Fq false (.for i k src body) H J=.ok (.next H') J /\ I H'):=by
 have e:exS F Fq false (.for i k src body) H J=yp it (fun x H J=>exL F Fq false body (H.set i x) J) (l.length+1) 0 H J:=by
  show ((evL F false src H J).bind fun vs J=>(R.lift J (zT J k vs)).bind fun it J=>yl it (fun x H J=>exL F Fq false body (H.set i x) J) H J)=_
  rw [hsrc,R.bind_ok,hit,R.lift_some,R.bind_ok]
  unfold yl
  rw [hG.fuel,List.length_map]
 rw [e]
 exact zEu err g I hG hs l 0 H rfl h0
end
inductive LV (J:Sto) (xs:List V) (e:Nat):V->Prop
 | lst:LV J xs e (.lst xs)
 | ref (n:Nat) (h:J[n]?=some (.list xs)) (hn:n ≠ e):LV J xs e (.ref n)
section
variable {J J':Sto} {xs:List V} {e:Nat} {v:V}
theorem LV.len (L:LV J xs e v):ev1 .len J v=some (.int xs.length):=by
 cases L with
 | lst=>rfl
 | ref n h hn=>exact xQ J h
theorem LV.list (L:LV J xs e v):ev1 .toList J v=some (.lst xs):=by
 cases L with
 | lst=>rfl
 | ref n h hn =>
  show ((match J[n]? with | some (.list xs)=>some xs | _=>none).map V.lst)=_
  rw [h]; rfl
theorem LV.items (L:LV J xs e v):∃ it,zT J .val [v]=some it /\ Gives J it xs:=by
 cases L with
 | lst=>exact ⟨_,rfl,.inl rfl⟩
 | ref n h hn=>exact ⟨_,wQ J h,.inr ⟨n,rfl,h⟩⟩
theorem LV.set (L:LV J xs e v) (x:O):LV (J.set e x) xs e v:=by
 cases L with
 | lst=>exact .lst
 | ref n h hn=>exact .ref n (zJ h (Ne.symm hn)) hn
theorem LV.read (L:LV J xs e v) {H:List V} {i:Nat} (h:H[i]?=some v):zK H i=some v:=by
 unfold zK
 rw [h]
 cases L <;> rfl
end
noncomputable def wa (l:Ln):Bool:=(decide (1 <= l.p)&&decide (l.p <= 1000000))&&((decide (0 <= l.c)&&decide (l.c <= 1000000000))&&(decide (1 <= l.k)&&decide (l.k <= 1000)))
noncomputable def yX (l:Ln):Option Cls:=if zh l.item=true then (if wa l=true then none else some .NoNumber) else some .NoItem
noncomputable def zFC (ls:List Ln):Bool:=decide (1 <= ls.length)&&decide (ls.length <= 20)
noncomputable def yc (ls:List Ln):Option Cls:=if zFC ls=true then ls.findSome? yX else some .NoLines
noncomputable def asc (l:Ln):Prop:=l.item.cps.all (· < 128)=true
theorem zIs {l:Ln} (h:wa l=true):l.ok:=by
 unfold wa at h
 simp only [Bool.and_eq_true,decide_eq_true_eq] at h
 exact ⟨h.1.1,h.1.2,h.2.1.1,h.2.1.2,h.2.2.1,h.2.2.2⟩
theorem zD5 {l:Ln} (h:yX l=none):zh l.item=true /\ wa l=true:=by
 unfold yX at h
 split at h
 ·rename_i h1
  split at h
  ·rename_i h2; exact ⟨h1,h2⟩
  ·cases h
 ·cases h
theorem kx {ls:List Ln} (h:yc ls=none):1 <= ls.length /\ ls.length <= 20 /\ ∀ l ∈ ls,l.ok:=by
 unfold yc at h
 split at h
 ·rename_i h1
  unfold zFC at h1
  rw [Bool.and_eq_true,decide_eq_true_eq,decide_eq_true_eq] at h1
  refine ⟨h1.1,h1.2,fun l hl=>zIs (zD5 (List.findSome?_eq_none_iff.mp h l hl)).2⟩
 ·cases h
section
variable {T:Nat->Option Fn} {t:Bool} {F Fq:Calls} {d:Nat} {q:Bool} {J:Sto} {b e h:Nat} {es hs:List V} {H:List V}
theorem wN (n m:Nat):decide ((n:Int) <= (m:Int))=decide (n <= m):=decide_eq_decide.mpr Int.ofNat_le
theorem zG5 (h21:T 21=some zLE) {s:Str} (h2:s.cps.all (· < 128)=true):zA T (d+1) false 21 [.str s] J=.ok (.bool (zh s)) J:=by
 have eb:evE (zA T d false) false (.chain (.lit (.int 1)) [.le,.le] [.p1 .len (.var 0),.lit (.int 12)]) [.str s] J=.ok (.bool (decide (1 <= s.length)&&decide (s.length <= 12))) J:=by
  rw [xh (lo:=(1:Nat)) (x:=(s.length:Int)) (hi:=(12:Nat)) rfl rfl rfl,wN,wN]
 by_cases hb:(decide (1 <= s.length)&&decide (s.length <= 12))=true
 ·have hl:s.length <= 12:=by rw [Bool.and_eq_true,decide_eq_true_eq,decide_eq_true_eq] at hb; exact hb.2
  refine zG h21 rfl (s_f (zC (zW rfl rfl (zV eb (by rw [hb]; rfl)))) (zH ?_))
  have ec:=yw (F:=zA T d false) (elt:=.p2 .isIn (.var 1) (.lit (.str yi))) (k:=.val) (src:=[.var 0]) (cond:=none) (H:=[.str s]) (J:=J) (l:=zR s) (φ:=fun c=>.str (mkS [c])) (fun _=>true) (fun c=>.bool (zy c))
   rfl (show zT J .val [.str s]=some (.now (yV s)) by show (if s.cps.all (· < 128)=true then some (Items.now (yV s)) else none)=_; rw [if_pos h2]) (.inl rfl)
   (by show (zR s).length < LIM; rw [show (zR s).length=s.length from rfl]; exact Nat.lt_of_le_of_lt hl (by decide)) (fun _ _=>rfl) (fun c _ _=>rfl)
  rw [yZ] at ec
  refine zV ec ?_
  show ((bools? ((zR s).map fun c=>V.bool (zy c))).map fun l=>V.bool (l.all id))=_
  rw [kZ,show (some ((zR s).map zy)).map (fun l=>V.bool (l.all id))=some (V.bool (((zR s).map zy).all id)) from rfl,List.all_map]
  unfold zh
  rw [hb]; rfl
 ·have hb:(decide (1 <= s.length)&&decide (s.length <= 12))=false:=Bool.eq_false_iff.mpr hb
  have:zh s=false:=by unfold zh; rw [hb]; rfl
  rw [this]
  exact zG h21 rfl (s_t (zC (zW rfl rfl (zV eb (by rw [hb]; rfl)))) (zH rfl))
theorem zMl (HT:zO T t) {s:Str} (h2:s.cps.all (· < 128)=true):zA T (d+1) false 21 [.str s] J=.ok (.bool (zh s)) J:=zG5 HT.b21 h2
noncomputable def zAR:List CS:=match fB_22.body with
 | [_,.for _ _ _ b]=>b
 | _=>[]
theorem zQI (HT:zO T t) {l:Ln} (ha:asc l) (v y:V):(∀ c,yX l=some c->exL (zA T (d+1) false) Fq false zAR ([v,y].set 1 l.raw) J=zCw J (.inl c)) /\
  (yX l=none->∃ H',exL (zA T (d+1) false) Fq false zAR ([v,y].set 1 l.raw) J=.ok (.next H') J /\ ∃ x,H'=[v,x]):=by
 have e1:evE (zA T (d+1) false) false (.p1 .not (.call 21 [.p2 .index (.var 1) (.lit (.int 0))])) [v,l.raw] J=.ok (.bool !zh l.item) J:=zV (zI rfl (zMl HT ha)) rfl
 have e2:evE (zA T (d+1) false) false (.or (.p1 .not (.chain (.lit (.int 1)) [.le,.le] [.p2 .index (.var 1) (.lit (.int 1)),.lit (.int 1000000)]))
   (.or (.p1 .not (.chain (.lit (.int 0)) [.le,.le] [.p2 .index (.var 1) (.lit (.int 2)),.lit (.int 1000000000)])) (.p1 .not (.chain (.lit (.int 1)) [.le,.le] [.p2 .index (.var 1) (.lit (.int 3)),.lit (.int 1000)])))) [v,l.raw] J=.ok (.bool !wa l) J:=by
  rw [zIU (zV (xh (lo:=1) (x:=l.p) (hi:=1000000) rfl rfl rfl) rfl) (zIU (zV (xh (lo:=0) (x:=l.c) (hi:=1000000000) rfl rfl rfl) rfl) (zV (xh (lo:=1) (x:=l.k) (hi:=1000) rfl rfl rfl) rfl))]
  unfold wa
  rw [<- Bool.not_and,<- Bool.not_and]
 unfold yX
 show (∀ c,_->exL (zA T (d+1) false) Fq false zAR [v,l.raw] J=_) /\ (_->∃ H',exL (zA T (d+1) false) Fq false zAR [v,l.raw] J=_ /\ _)
 by_cases hi:zh l.item=true
 ·rw [if_pos hi]
  by_cases hn:wa l=true
  ·rw [if_pos hn]
   exact ⟨fun c h=>(nomatch h),fun _=>⟨[v,l.raw],s_f (zC (by rw [hi] at e1; exact e1)) (s_f (zC (by rw [hn] at e2; exact e2)) rfl),_,rfl⟩⟩
  ·rw [if_neg hn]
   refine ⟨fun c h=>?_,fun h=>(nomatch h)⟩
   cases h
   exact s_f (zC (by rw [hi] at e1; exact e1)) (s_t (zC (by rw [Bool.eq_false_iff.mpr hn] at e2; exact e2)) rfl)
 ·rw [if_neg hi]
  refine ⟨fun c h=>?_,fun h=>(nomatch h)⟩
  cases h
  exact s_t (zC (by rw [Bool.eq_false_iff.mpr hi] at e1; exact e1)) rfl
theorem zEO (HT:zO T t) {ls:List Ln} {v:V} (L:LV J (ls.map Ln.raw) e v) (ha:∀ l ∈ ls,asc l):zA T (d+2) false 22 [v] J=yf J (yc ls):=by
 have hv:zK [v,.undef] 0=some v:=L.read rfl
 have ev:∀ {F:Calls},evE F false (.var 0) [v,.undef] J=.ok v J:=by intro F; rw [zu,hv]; rfl
 have eb:evE (zA T (d+1) false) false (.p1 .not (.chain (.lit (.int 1)) [.le,.le] [.p1 .len (.var 0),.lit (.int 20)])) [v,.undef] J=.ok (.bool !zFC ls) J:=by
  refine zV (xh (lo:=(1:Nat)) (x:=(ls.length:Int)) (hi:=(20:Nat)) rfl (zV ev (by rw [L.len,List.length_map])) rfl) ?_
  rw [wN,wN]; rfl
 unfold yc
 by_cases hl:zFC ls=true
 ·rw [if_pos hl]
  obtain ⟨it,hit,hG⟩:=L.items
  obtain ⟨h1,h2⟩:=ka (F:=zA T (d+1) false) (Fq:=zA T (d+1) true) (i:=1) (k:=.val) (src:=[.var 0]) (body:=zAR) (H:=[v,.undef]) (J:=J) (l:=ls) (φ:=Ln.raw) yX .inl (fun H=>∃ x,H=[v,x]) (zD ev rfl) hit hG ⟨_,rfl⟩
   fun l hm H hI=>by obtain ⟨y,rfl⟩:=hI; exact zQI HT (ha l hm) v y
  have pre:∀ {r:R Fl},(exS (zA T (d+1) false) (zA T (d+1) true) false (.for 1 .val [.var 0] zAR) [v,.undef] J).bind (zCU (zA T (d+1) false) (zA T (d+1) true) false [])=r->exL (zA T (d+1) false) (zA T (d+1) true) false fB_22.body ([v]++List.replicate (fB_22.slots - fB_22.params) .undef) J=r:=fun k =>
   s_f (zC (by rw [hl] at eb; exact eb)) (by rw [List.nil_append,yI]; exact k)
  cases hf:ls.findSome? yX with
  | some c=>exact zS HT.b22 rfl (pre (by rw [h1 c hf]; rfl))
  | none=>obtain ⟨H',e',-⟩:=h2 hf; exact xg (H:=H') HT.b22 rfl (pre (by rw [e']; rfl))
 ·rw [if_neg hl]
  exact zS HT.b22 rfl (s_t (zC (by rw [Bool.eq_false_iff.mpr hl] at eb; exact eb)) rfl)
noncomputable def yA (ls:List Ln) (n:Nat):Option Cls:=match yc ls with
 | some c=>some c
 | none=>if 40 <= n then some .FullBook else none
noncomputable def zBh (J:Sto) (e h:Nat) (es hs:List V) (ls:List Ln):Sto:=yU (J.set e (.list (es++[(xB ls).v]))) h hs (dO ls) []
theorem zKa (HT:zO T t) (B:BookIn J b e h es hs) {ls:List Ln} {v:V} {c:Cls} (L:LV J (ls.map Ln.raw) e v) (ha:∀ l ∈ ls,asc l) (hc:yA ls es.length=some c):zA T (d+3) false 3 [.ref b,v] J=.exc c J:=by
 have hv:zK [.ref b,v] 1=some v:=L.read rfl
 have ev:∀ {F:Calls},evE F false (.var 1) [.ref b,v] J=.ok v J:=by intro F; rw [zu,hv]; rfl
 have ck:=zEO (d:=d) HT L ha
 unfold yA at hc
 refine zS HT.b3 rfl ?_
 cases hl:yc ls with
 | some c' =>
  rw [hl] at hc ck; cases hc
  exact zA2 (zI (zD ev rfl) ck)
 | none =>
  rw [hl] at hc ck
  replace hc:(if 40 <= es.length then some Cls.FullBook else none)=some c:=hc
  by_cases h4:40 <= es.length
  ·rw [if_pos h4] at hc; cases hc
   exact ym (zI (zD ev rfl) ck) (s_t (zC (t:=true) (zE (zAT B rfl) rfl (by rw [zGC]; exact congrArg (fun b=>some (V.bool b)) (decide_eq_true (Int.ofNat_le.mpr h4))))) rfl)
  ·rw [if_neg h4] at hc; cases hc
theorem zKZ (HT:zO T) (B:BookIn J b e h es hs) {ls:List Ln} {v:V} (L:LV J (ls.map Ln.raw) e v) (ha:∀ l ∈ ls,asc l) (hc:yA ls es.length=none) (hh:hs.length < LIM):zA T (d+3) false 3 [.ref b,v] J=.ok (.lst []) (zBh J e h es hs ls):=by
 have hv:zK [.ref b,v] 1=some v:=L.read rfl
 have ev:∀ {F:Calls} {J:Sto},evE F false (.var 1) [.ref b,v] J=.ok v J:=by intro F J; rw [zu,hv]; rfl
 have ck:=zEO (d:=d) HT L ha
 unfold yA at hc
 cases hl:yc ls with
 | some c'=>rw [hl] at hc; cases hc
 | none =>
 rw [hl] at hc ck
 replace hc:(if 40 <= es.length then some Cls.FullBook else none)=none:=hc
 by_cases h4:40 <= es.length
 ·rw [if_pos h4] at hc; cases hc
 obtain ⟨-,h20,-⟩:=kx hl
 have B1:=B.setE (es++[(xB ls).v])
 have L1:=L.set (.list (es++[(xB ls).v]))
 have he:es.length < 40:=Nat.lt_of_not_le h4
 refine zG HT.b3 rfl (ym (zI (zD ev rfl) ck) ?_)
 refine s_f (zC (t:=false) (zE (zAT B rfl) rfl (by rw [zGC]; exact congrArg (fun b=>some (V.bool b)) (decide_eq_false fun h=>h4 (Int.ofNat_le.mp h))))) ?_
 obtain ⟨it,hit,hG⟩:=L.items
 have ec:=yw (F:=zA T (d+2) false) (elt:=.call 23 [.var 2]) (k:=.val) (src:=[.var 1]) (cond:=none) (H:=[.ref b,v]) (J:=J) (l:=ls) (φ:=Ln.raw) (fun _=>true) (fun l=>l.fresh.v) (zD ev rfl) hit hG (Nat.lt_of_le_of_lt h20 (by decide)) (fun _ _=>rfl) (fun l _ _=>zI rfl (zG4 HT))
 rw [yZ,show ls.map (fun l=>l.fresh.v)=(ls.map Ln.fresh).map Ln.v by rw [List.map_map]; rfl] at ec
 refine ym (J':=J.set e (.list (es++[(xB ls).v]))) (zp (zEk B rfl) (by show (xI _).isSome=true; rw [B.ent]; rfl) (yk (zD (zV (z:=.tup ((ls.map Ln.fresh).map Ln.v)) ec rfl) rfl)) (zk _ B.ent (Nat.lt_trans he (by decide)))) ?_
 exact ym (zp (zHN B1 rfl) (by show (xI _).isSome=true; rw [B1.his]; rfl) (yk (zD (v:=dO ls) (yk (zD rfl (zD (zV ev L1.list) rfl))) (zD rfl rfl))) (zk _ (B1.push _).his hh)) (zH rfl)
noncomputable def dV (v:V):V:=.tup [.str yM,v]
theorem zO4 (HT:zO T t) (B:BookIn J b e h es hs) {ls:List Ln} {v:V} {c:Cls} (L:LV J (ls.map Ln.raw) e v) (ha:∀ l ∈ ls,asc l) (hc:yA ls es.length=some c):zA T (d+4) false 2 [.ref b,dV v] J=.exc c J:=
 zS HT.b2 rfl (s_f rfl (s_t rfl (zA3 (zd rfl B.isInst rfl (zKa HT B L ha hc)))))
theorem zQj (HT:zO T) (B:BookIn J b e h es hs) {ls:List Ln} {v:V} (L:LV J (ls.map Ln.raw) e v) (ha:∀ l ∈ ls,asc l) (hc:yA ls es.length=none) (hh:hs.length < LIM):zA T (d+4) false 2 [.ref b,dV v] J=.ok (.lst []) (zBh J e h es hs ls):=
 zG HT.b2 rfl (s_f rfl (s_t rfl (zH (zd rfl B.isInst rfl (zKZ HT B L ha hc hh)))))
end
end Mine
end

section
namespace Mine
open PySem
noncomputable def A7 (s:Str):Prop:=∀ c ∈ s.cps.toList,c < 128
theorem A7.all {s:Str} (h:A7 s):s.cps.all (· < 128)=true:=by
 rw [<- Array.all_toList,List.all_eq_true]
 exact fun c hc=>decide_eq_true (h c hc)
theorem A7.ok {s:Str} (h:A7 s):PyData.strOk s=true:=by
 show s.cps.all (· < 0x110000)=true
 rw [<- Array.all_toList,List.all_eq_true]
 exact fun c hc=>decide_eq_true (Nat.lt_trans (h c hc) (by decide))
theorem A7.add {x y:Str} (hx:A7 x) (hy:A7 y):A7 (x++y):=fun c hc=>by
 replace hc:c ∈ (x.cps++y.cps).toList:=hc
 rw [Array.toList_append,List.mem_append] at hc
 exact hc.elim (hx c) (hy c)
theorem A7.slice {x:Str} (hx:A7 x) (l u:Option Int):A7 (Txt.slice x l u):=by
 unfold Txt.slice
 split
 ·exact hx
 ·intro c hc
  obtain ⟨i,_,h⟩:=List.mem_filterMap.mp hc
  exact hx c (Array.mem_toList_iff.mpr (Array.mem_of_getElem? h))
theorem zNM (x y:Str):(x++y).length=x.length+y.length:=Array.size_append
section
variable {J:Sto} {F:Calls} {q:Bool} {H:List V} {a b:CE}
theorem zQu {x y:Str} (ha:evE F q a H J=.ok (.str x) J) (hb:evE F q b H J=.ok (.str y) J) (h:x.length+y.length <= 10000):evE F q (.p2 .add a b) H J=.ok (.str (x++y)) J:=
 zE ha hb (by show (if x.length+y.length <= 10000 then some (V.str (x++y)) else none)=_; rw [if_pos h])
theorem zIV {o:P2} {x y z:V} (ha:evE F q a H J=.ok x J) (hs:zEE o J x=true) (hb:evE F q b H J=.ok y J) (h:ev2 o J x y=some z):evE F q (.sm o a b) H J=.ok z J:=by
 rw [zQS,ha,R.bind_ok,if_pos hs,hb,R.bind_ok,h]; rfl
theorem zBN {F Fq:Calls} {H H1:List V} {J J1:Sto} {s:CS} {rest:List CS} {r:R Fl} (h:exS F Fq false s H J=.ok (.next H1) J1) (k:exL F Fq false rest H1 J1=r):exL F Fq false (s :: rest) H J=r:=by
 rw [yI,h]; exact k
theorem zOB {x:Str} {lo hi:Option CE} {i j:Option Int} (hx:A7 x) (ha:evE F q a H J=.ok (.str x) J) (hl:evO F q lo H J=.ok i J) (hh:evO F q hi H J=.ok j J):evE F q (.slice a lo hi) H J=.ok (.str (Txt.slice x i j)) J:=
 jb ha hl hh (by show (if PyData.strOk (Txt.slice x i j)=true then some (V.str (Txt.slice x i j)) else none)=_; rw [if_pos (hx.slice i j).ok])
end
section
variable {d:Nat} {q:Bool} {J:Sto}
end
end Mine
end

section
namespace Mine
open PySem
section
variable {d:Nat} {q:Bool} {J:Sto}
end
end Mine
end

section
namespace Mine
open PySem
noncomputable def zPL:Cls->Bool
 | .NoLines | .NoItem | .NoNumber | .FullBook=>true
 | _=>false
theorem zIg {ls:List Ln} {c:Cls} (h:yc ls=some c):zPL c=true:=by
 unfold yc at h
 split at h
 ·obtain ⟨l,_,hl⟩:=List.exists_of_findSome?_eq_some h
  unfold yX at hl
  split at hl
  ·split at hl <;> cases hl; rfl
  ·cases hl; rfl
 ·cases h; rfl
theorem zKB {ls:List Ln} {n:Nat} {c:Cls} (h:yA ls n=some c):zPL c=true:=by
 unfold yA at h
 cases hl:yc ls with
 | some c'=>rw [hl] at h; cases h; exact zIg hl
 | none =>
  rw [hl] at h
  replace h:(if 40 <= n then some Cls.FullBook else none)=some c:=h
  split at h
  ·cases h; rfl
  ·cases h
section
variable {d:Nat} {q:Bool} {J J':Sto} {b e h n:Nat} {es hs:List V}
theorem ja {F:Calls} {H:List V} {a b c:CE} {lo x hi:Int} (ha:evE F q a H J=.ok (.int lo) J) (hb:evE F q b H J=.ok (.int x) J) (hc:evE F q c H J=.ok (.int hi) J):evE F q (.chain a [.lt,.lt] [b,c]) H J=.ok (.bool (decide (lo < x)&&decide (x < hi))) J:=by
 rw [zAQ,ha,R.bind_ok,zFs,hb]
 show (if decide (lo < x)=true then evChain F q [P2.lt] [c] (.int x) H J else .ok (.bool (decide (lo < x))) J)=_
 cases decide (lo < x) with
 | false=>rfl
 | true =>
  show evChain F q [P2.lt] [c] (.int x) H J=_
  rw [zFr,hc]; rfl
theorem zF7 (a b:Int) (x:Int):(decide (a < x)&&decide (x < b+1))=(decide (a+1 <= x)&&decide (x <= b)):=by
 rw [show decide (x < b+1)=decide (x <= b) from decide_eq_decide.mpr Int.lt_add_one_iff]; rfl
theorem zLW (n m:Nat):(decide ((0:Int) < (n:Int))&&decide ((n:Int) < (m:Int)+1))=(decide (1 <= n)&&decide (n <= m)):=by
 rw [zF7 0 m n,wN n m,show (0:Int)+1=((1:Nat):Int) from rfl,wN 1 n]
end
end Mine
end

section
namespace Mine
open PySem
section
variable {d:Nat} {q:Bool} {J J':Sto} {b e h n:Nat} {es hs:List V}
theorem zGb {ls:List Ln} (B:BookIn J b e h es hs):BookIn (zBh J e h es hs ls) b e h (es++[(xB ls).v]) (hs++[.tup [dO ls,.ref (J.set e (.list (es++[(xB ls).v]))).length]]):=((B.setE _).push _).setH _
theorem zFM {ls:List Ln} {x:O} (hn:J[n]?=some x) (h1:n ≠ e) (h2:n ≠ h):(zBh J e h es hs ls)[n]?=some x:=zJ (xZ (zJ hn h1.symm)) h2.symm
end
end Mine
end

section
namespace Mine
open PySem PySem.Builtin PySem.Builtin.Str PySem.StrLaws
theorem zAe (x:Str):mkS (zR x)=x:=by cases x; rfl
@[simp] theorem zCi (l:List Nat):zR (mkS l)=l:=by simp [zR,mkS]
@[simp] theorem zY (l:List Nat):(mkS l).length=l.length:=by simp [mkS,Str.length]
noncomputable def wj (sep:List Nat):List (List Nat)->List Nat
 | []=>[]
 | [p]=>p
 | p :: q :: r=>p++(sep++wj sep (q :: r))
theorem wK (l:List Nat) (i j:Nat):strSub (mkS l) i j=mkS ((l.drop i).take (j - i)):=by
 have h:=strSub_toList (mkS l) i j
 rw [<- zAe (strSub (mkS l) i j)]
 exact congrArg mkS h
theorem zFy (l sep:List Nat) (k:Nat):At (mkS l) (mkS sep) l.length k ↔ k+sep.length <= l.length /\ (l.drop k).take sep.length=sep:=by
 unfold At subAt
 rw [zY]
 refine and_congr_right fun _=>?_
 have h:=wK l k (k+sep.length)
 unfold strSub at h
 have h2:(mkS l).cps.extract k (k+sep.length)=((l.drop k).take sep.length).toArray:=by
  have:=congrArg Str.cps h
  simpa [mkS] using this
 rw [h2,beq_iff_eq]
 show _=sep.toArray ↔ _
 constructor
 ·intro e; simpa using congrArg Array.toList e
 ·intro e; rw [e]
theorem zG1 {l rest:List Nat} {c k:Nat} (hA:At (mkS l) (mkS (c :: rest)) l.length k):l[k]?=some c:=by
 rw [zFy] at hA
 have h2:=congrArg (fun z=>z[0]?) hA.2
 simp only [List.length_cons,List.getElem?_cons_zero] at h2
 rw [List.getElem?_take] at h2
 have h3:(l.drop k)[0]?=some c:=by simpa using h2
 rw [List.getElem?_drop] at h3
 exact h3
theorem zG2 {l:List Nat} {a c k:Nat} (hk:a <= k) (h:l[k]?=some c):(l.drop a)[k - a]?=some c:=by
 rw [List.getElem?_drop,Nat.add_sub_of_le hk]; exact h
theorem zHq {n a p r j:Nat} (h:n - a=p+(r+1+j)):a+p+(r+1) <= n:=by omega
theorem zFW {l:List Nat} {c:Nat} {rest:List Nat}:∀ (ps:List (List Nat)) (p:List Nat) (a:Nat) (cuts:List Nat) (f:Nat),a <= l.length->l.drop a=wj (c :: rest) (p :: ps)->(∀ q ∈ p :: ps,c ∉ q) ->
  ChainG (mkS l) (mkS (c :: rest)) l.length a cuts f->(∀ k,f <= k->¬ At (mkS l) (mkS (c :: rest)) l.length k)->partsFrom (mkS l) (c :: rest).length a cuts=(p :: ps).map mkS:=by
 intro ps
 induction ps with
 | nil =>
  intro p a cuts f ha hl hc hch hn
  have hno:∀ k,a <= k->¬ At (mkS l) (mkS (c :: rest)) l.length k:=fun k hk hA=>by
   have h3:c ∈ l.drop a:=List.mem_of_getElem? (zG2 hk (zG1 hA))
   rw [hl] at h3
   exact hc p List.mem_cons_self h3
  cases cuts with
  | nil =>
   show [strSub (mkS l) a (mkS l).length]=_
   rw [wK,zY,hl]
   have:(wj (c :: rest) [p]).length=l.length - a:=by rw [<- hl,List.length_drop]
   rw [List.take_of_length_le (by rw [this]; exact Nat.le_refl _)]
   rfl
  | cons c0 r=>exact (hno c0 hch.1 hch.2.1).elim
 | cons p2 ps ih =>
  intro p a cuts f ha hl hc hch hn
  have hl':l.drop a=p++((c :: rest)++wj (c :: rest) (p2 :: ps)):=hl
  have hlen:l.length - a=p.length+((c :: rest).length+(wj (c :: rest) (p2 :: ps)).length):=by rw [<- List.length_drop,hl',List.length_append,List.length_append]
  have hdrop:l.drop (a+p.length)=(c :: rest)++wj (c :: rest) (p2 :: ps):=by rw [<- List.drop_drop,hl',List.drop_left]
  have hat:At (mkS l) (mkS (c :: rest)) l.length (a+p.length):=by
   rw [zFy]
   refine ⟨zHq hlen,?_⟩
   rw [hdrop,List.take_left]
  have hno:∀ k,a <= k->k < a+p.length->¬ At (mkS l) (mkS (c :: rest)) l.length k:=fun k hk hk2 hA=>by
   have h4:=zG2 hk (zG1 hA)
   rw [hl',List.getElem?_append_left (Nat.sub_lt_left_of_lt_add hk hk2)] at h4
   exact hc p List.mem_cons_self (List.mem_of_getElem? h4)
  cases cuts with
  | nil =>
   have e:f=a:=hch
   exact (hn (a+p.length) (e ▸ Nat.le_add_right _ _) hat).elim
  | cons c0 r =>
   obtain ⟨h1,h2,h3,h4⟩:=hch
   have ec:c0=a+p.length:=by
    rcases Nat.lt_trichotomy c0 (a+p.length) with h | h | h
    ·exact (hno c0 h1 h h2).elim
    ·exact h
    ·exact (h3 (a+p.length) (Nat.le_add_right _ _) h hat).elim
   subst ec
   show strSub (mkS l) a (a+p.length) :: partsFrom (mkS l) (c :: rest).length (a+p.length+(c :: rest).length) r=_
   rw [wK,hl',show a+p.length - a=p.length from Nat.add_sub_cancel_left _ _,List.take_left]
   rw [zY] at h4
   rw [ih p2 (a+p.length+(c :: rest).length) r f (zHq hlen) (by rw [<- List.drop_drop,hdrop,List.drop_left]) (fun q hq=>hc q (List.mem_cons_of_mem _ hq)) h4 hn]
   rfl
theorem zFX {x y:Str} (hy:1 <= y.length) (hk:y.cps.all (· < 256)=true):Txt.split x y=partsFrom x y.length 0 (occurrences x y 0 x.length (x.length+1)):=by
 have hself:partsFrom x y.length 0 []=[x]:=by
  show [strSub x 0 x.length]=[x]
  rw [sub_whole]
 unfold Txt.split
 split
 ·rename_i h
  have he:occurrences x y 0 x.length (x.length+1)=[]:=by
   rcases occ_head x y (x.length+1) (by omega) with ⟨e,_⟩ | ⟨i,r,_,hA,_⟩
   ·exact e
   ·exfalso
    simp only [Bool.or_eq_true,decide_eq_true_eq] at h
    rcases h with h | h
    ·have:=hA.1; omega
    ·have h1:Builtin.Str.strKind y=1:=by unfold Builtin.Str.strKind; rw [if_pos hk]
     have h2:1 <= Builtin.Str.strKind x:=by unfold Builtin.Str.strKind; split <;> (try split) <;> omega
     omega
  rw [he,hself]
 ·split
  ·rename_i h
   rw [List.isEmpty_iff.mp h,hself]
  ·rw [partsBetween_eq]
theorem zGo {c:Nat} {rest p:List Nat} {ps:List (List Nat)} (hk:(c :: rest).all (· < 256)=true) (hc:∀ q ∈ p :: ps,c ∉ q) :
  Txt.split (mkS (wj (c :: rest) (p :: ps))) (mkS (c :: rest))=(p :: ps).map mkS:=by
 rw [zFX (by simp) (by simpa [mkS] using hk)]
 obtain ⟨f,h1,h2⟩:=occ_tight (mkS (wj (c :: rest) (p :: ps))) (mkS (c :: rest)) (by simp)
 rw [zY] at h1 h2 ⊢
 have:=zFW (l:=wj (c :: rest) (p :: ps)) ps p 0 _ f (by omega) (List.drop_zero) hc h1 h2
 simpa using this
theorem zOv {l:List Nat} {c k:Nat}:At (mkS l) (mkS [c]) l.length k ↔ l[k]?=some c:=by
 rw [zFy]
 constructor
 ·rintro ⟨_,h⟩
  have h2:=congrArg (fun z=>z[0]?) h
  simp only [List.length_cons,List.getElem?_cons_zero] at h2
  rw [List.getElem?_take,List.getElem?_drop] at h2
  simpa using h2
 ·intro h
  have hlt:=(List.getElem?_eq_some_iff.mp h).1
  refine ⟨by simp; omega,?_⟩
  rw [List.drop_eq_getElem_cons hlt,(List.getElem?_eq_some_iff.mp h).2]
  rfl
theorem zCH {c:Nat} {p r:List Nat} (hc:c ∉ p):Txt.partition (mkS (p++(c :: r))) (mkS [c])=(mkS p,mkS [c],mkS r):=by
 have hat:At (mkS (p++(c :: r))) (mkS [c]) (p++(c :: r)).length p.length:=by rw [zOv]; simp
 unfold Txt.partition
 rcases occ_head (mkS (p++(c :: r))) (mkS [c]) 1 (by omega) with ⟨_,h⟩ | ⟨i,rr,e,hA,hn⟩
 ·rw [zY] at h
  exact (h _ hat).elim
 ·rw [zY] at e hA hn ⊢
  rw [e]
  have hi:i=p.length:=by
   rcases Nat.lt_trichotomy i p.length with h | h | h
   ·rw [zOv,List.getElem?_append_left h] at hA
    exact (hc (List.mem_of_getElem? hA)).elim
   ·exact h
   ·exact (hn _ h hat).elim
  subst hi
  simp only
  rw [wK,wK]
  simp
  rw [List.take_of_length_le (by omega)]
end Mine
end

section
namespace Mine
open PySem PySem.W PySem.NumText
noncomputable def zIT (m:Nat):List Nat:=(Nat.toDigits 10 m).map Char.toNat
theorem zHw (m:Nat):Str.ofString (toString ((m:Nat):Int))=mkS (zIT m):=by
 rw [<- zAe (Str.ofString _)]
 exact congrArg mkS (KIN.signs_num m)
theorem zBy {m c:Nat} (h:c ∈ zIT m):48 <= c /\ c <= 57:=by
 obtain ⟨ch,hch,rfl⟩:=List.mem_map.mp h
 have r:=PyProof.Rows.digit_range (Nat.isDigit_of_mem_toDigits (by decide) (by decide) hch)
 exact r
theorem zHH {k m:Nat} (hk:1 <= k) (h:m < 10 ^ k):(zIT m).length <= k:=by
 unfold zIT; rw [List.length_map]; exact PyProof.Rows.digits10_le hk h
end Mine
end

section
namespace Mine
open PySem PySem.W PySem.NumText PySem.Builtin PySem.Builtin.Str
noncomputable def xW (c:Nat):List Nat->List (List Nat)
 | []=>[[]]
 | x :: xs=>if x=c then [] :: xW c xs else match xW c xs with
  | []=>[[x]]
  | p :: ps=>(x :: p) :: ps
theorem we (c:Nat):∀ l:List Nat,∃ p ps,xW c l=p :: ps
 | []=>⟨_,_,rfl⟩
 | x :: xs=>by
  obtain ⟨p,ps,e⟩:=we c xs
  unfold xW
  split
  ·exact ⟨_,_,rfl⟩
  ·rw [e]; exact ⟨_,_,rfl⟩
theorem zCk (c:Nat):∀ (l:List Nat),∀ q ∈ xW c l,c ∉ q
 | [],q,hq=>by rw [List.mem_singleton.mp hq]; exact fun h=>nomatch h
 | x :: xs,q,hq=>by
  obtain ⟨p,ps,e⟩:=we c xs
  have ih:=zCk c xs
  unfold xW at hq
  split at hq
  ·rcases List.mem_cons.mp hq with rfl | hq
   ·exact fun h=>nomatch h
   ·exact ih q hq
  ·rename_i hx
   rw [e] at hq ih
   replace hq:q ∈ (x :: p) :: ps:=hq
   rcases List.mem_cons.mp hq with rfl | hq
   ·exact fun h=>(List.mem_cons.mp h).elim (fun h=>hx h.symm) (ih p List.mem_cons_self)
   ·exact ih q (List.mem_cons_of_mem _ hq)
theorem zCu (c:Nat):∀ l:List Nat,wj [c] (xW c l)=l
 | []=>rfl
 | x :: xs=>by
  obtain ⟨p,ps,e⟩:=we c xs
  have ih:=zCu c xs
  unfold xW
  split
  ·rename_i hx
   rw [e] at ih ⊢
   show []++([c]++wj [c] (p :: ps))=_
   rw [ih,hx]; rfl
  ·rw [e] at ih ⊢
   cases ps with
   | nil=>show x :: p=_; have ih:p=xs:=ih; rw [ih]
   | cons p' ps=>show x :: (p++([c]++wj [c] (p' :: ps)))=_; have ih:p++([c]++wj [c] (p' :: ps))=xs:=ih; rw [ih]
theorem wy (c:Nat):∀ (p r:List Nat),c ∉ p->xW c (p++c :: r)=p :: xW c r
 | [],r,_=>by show (if c=c then _ else _)=_; rw [if_pos rfl]
 | x :: p,r,h=>by
  have hx:x ≠ c:=fun e=>h (e ▸ List.mem_cons_self)
  show (if x=c then _ else _)=_
  rw [if_neg hx]
  show (match xW c (p++c :: r) with | []=>[[x]] | q :: qs=>(x :: q) :: qs)=_
  rw [wy c p r fun q=>h (List.mem_cons_of_mem _ q)]
theorem zBC (c:Nat):∀ (p:List Nat),c ∉ p->xW c p=[p]
 | [],_=>rfl
 | x :: p,h=>by
  have hx:x ≠ c:=fun e=>h (e ▸ List.mem_cons_self)
  show (if x=c then _ else _)=_
  rw [if_neg hx]
  show (match xW c p with | []=>[[x]] | q :: qs=>(x :: q) :: qs)=_
  rw [zBC c p fun q=>h (List.mem_cons_of_mem _ q)]
theorem kw {c:Nat} (hc:c < 256) (l:List Nat):Txt.split (mkS l) (mkS [c])=(xW c l).map mkS:=by
 obtain ⟨p,ps,e⟩:=we c l
 have h:=zGo (c:=c) (rest:=[]) (p:=p) (ps:=ps) (by simp [hc]) (by rw [<- e]; exact zCk c l)
 rw [<- e,zCu] at h
 exact h
theorem zCp (c:Nat):∀ l:List Nat,c ∉ l \/ ∃ p r,l=p++c :: r /\ c ∉ p
 | []=>.inl fun h=>nomatch h
 | x :: l=>by
  by_cases hx:x=c
  ·exact .inr ⟨[],l,by rw [hx]; rfl,fun h=>nomatch h⟩
  ·rcases zCp c l with h | ⟨p,r,rfl,h⟩
   ·exact .inl fun q=>(List.mem_cons.mp q).elim (fun e=>hx e.symm) h
   ·exact .inr ⟨x :: p,r,rfl,fun q=>(List.mem_cons.mp q).elim (fun e=>hx e.symm) h⟩
theorem zKE {c:Nat} {l:List Nat} (hc:c ∉ l):Txt.partition (mkS l) (mkS [c])=(mkS l,Str.empty,Str.empty):=by
 unfold Txt.partition
 rcases StrLaws.occ_head (mkS l) (mkS [c]) 1 (by omega) with ⟨e,_⟩ | ⟨i,rr,e,hA,hn⟩
 ·rw [e]
 ·rw [zY] at hA
  rw [zOv] at hA
  exact (hc (List.mem_of_getElem? hA)).elim
theorem zDc (l p:List Nat):Txt.startswith (mkS l) (mkS p)=(decide (p.length <= l.length)&&(l.take p.length==p)):=by
 unfold Txt.startswith
 rw [StrLaws.subAt_eq,Nat.zero_add,zY,zY]
 simp [mkS]
theorem zCe {l:List Nat} {k:Nat} (hk:1 <= k) (h:k <= l.length):Txt.slice (mkS l) (some (k:Int)) none=mkS (l.drop k):=by
 have e0:strSliceIndices (some (k:Int)) none 1 (mkS l).length=strSliceIndices (some (k:Int)) (some ((mkS l).length:Int)) 1 (mkS l).length:=by
  simp only [strSliceIndices]
  rw [if_neg (show ¬ (((mkS l).length:Int) < 0) from Int.not_lt.mpr (Int.natCast_nonneg _))]
  simp only [show ((1:Int) > 0)=True from by simp,if_true]
  rw [show max (0:Int) (min ((mkS l).length:Int) ((mkS l).length:Int))=((mkS l).length:Int) by rw [Int.min_eq_left (Int.le_refl _),Int.max_eq_right (Int.natCast_nonneg _)]]
 have hk':k <= (mkS l).length:=by rw [zY]; exact h
 unfold Txt.slice
 rw [e0,if_neg]
 ·rw [StrLaws.sliced_plain (mkS l) hk' (Nat.le_refl _)]
  have:(mkS l).cps.toList=l:=by simp [mkS]
  rw [this,zY,List.take_of_length_le (by rw [List.length_drop]; exact Nat.le_refl _)]; rfl
 ·rw [StrLaws.strSliceIndices_plain hk' (Nat.le_refl _),List.length_map,List.length_range]
  rw [zY] at hk' ⊢
  simp; omega
theorem A7.part {x y p:Str} (hx:A7 x) (h:p ∈ Txt.split x y):A7 p:=by
 unfold Txt.split at h
 split at h
 ·rw [List.mem_singleton.mp h]; exact hx
 ·split at h
  ·rw [List.mem_singleton.mp h]; exact hx
  ·obtain ⟨q,_,rfl⟩:=List.mem_map.mp h
   intro c hc
   rw [StrLaws.strSub_toList] at hc
   exact hx c (List.mem_of_mem_drop (List.mem_of_mem_take hc))
theorem zDb {x y:Str}:(Txt.split x y).length <= x.length+2:=by
 unfold Txt.split
 split
 ·exact Nat.le_trans (show 1 <= 2 by decide) (Nat.le_add_left 2 _)
 ·split
  ·exact Nat.le_trans (show 1 <= 2 by decide) (Nat.le_add_left 2 _)
  ·rw [length_partsBetween]
   have:=StrLaws.occ_length_le x y 0 x.length (x.length+1)
   omega
noncomputable def zM8:Str:={ cps:=#[48,49,50,51,52,53,54,55,56,57] }
noncomputable def zCn (c:Nat):Bool:=(zR zM8).contains c
noncomputable def zAf (w:Str):Bool:=match zR w with
 | c :: _=>mkS [c]==({ cps:=#[48] }:Str)
 | []=>false
noncomputable def xq (w:Str):Bool:=(decide (1 <= w.length)&&decide (w.length <= 30))&&((zR w).all zCn&&!(zAf w&&decide (1 < w.length)))
theorem zCo {c:Nat} (h:zCn c=true):48 <= c /\ c <= 57:=by
 have:∀ c ∈ [48,49,50,51,52,53,54,55,56,57],48 <= c /\ c <= 57:=by decide
 exact this c (List.contains_iff_mem.mp h)
theorem zHY {w:Str} (h:xq w=true):∃ n:Nat,PySem.intText? w=some (n:Int):=by
 unfold xq at h
 simp only [Bool.and_eq_true,decide_eq_true_eq,List.all_eq_true] at h
 obtain ⟨⟨h1,h2⟩,h3,_⟩:=h
 have hd:AllDigits w.cps.toList:=fun c hc=>zCo (h3 c hc)
 have hne:w.cps.toList ≠ []:=fun e=>by
  have:w.length=0:=by show w.cps.size=0; rw [<- Array.length_toList,e]; rfl
  omega
 have e:=intText_digits hd hne (by omega)
 exact ⟨_,e⟩
noncomputable def zj (w:Str):Option Int:=if xq w=true then PySem.intText? w else none
theorem zLh {w:Str} {n:Int} (h:zj w=some n):0 <= n:=by
 unfold zj at h
 split at h
 ·rename_i hn
  obtain ⟨m,hm⟩:=zHY hn
  rw [hm] at h; cases h; exact Int.natCast_nonneg m
 ·cases h
end Mine
end

section
namespace Mine
open PySem
noncomputable def zQG:List (Nat × Nat × Nat):=[(78,23,25),(79,23,25),(200,12,14),(256,17,19),(327,27,98),(327,29,59),(327,95,97),(350,21,23),(407,17,19),(408,15,17),(409,18,20)]
noncomputable def zPU:Fn:={ params:=1,slots:=1,body:=[.stuck] }
noncomputable def zQx:Fn:={ params:=1,slots:=1,body:=[.exp (.call 33 [.lit (.int 0)])] }
noncomputable def zPR:Fn:={ params:=2,slots:=2,body:=[.exp (.call 33 [.lit (.int 1)])] }
noncomputable def zPS:Fn:={ params:=2,slots:=2,body:=[.exp (.call 33 [.lit (.int 2)])] }
noncomputable def zPT:Fn:={ params:=1,slots:=1,body:=[.exp (.call 33 [.lit (.int 3)])] }
noncomputable def zB4:Fn:={ params:=1,slots:=1,body:=[.ite (.or (.p1 .not (.chain (.lit (.int 1)) [.le,.le] [.p1 .len (.var 0),.lit (.int 30)])) (.p1 .not (.p1 .all (.comp (.p2 .isIn (.var 1) (.lit (.str { cps:=#[48,49,50,51,52,53,54,55,56,57] }))) .val [.var 0] none)))) [.raise (.NoDeed)] [],.ite (.and (.p2 .eq (.p2 .index (.var 0) (.lit (.int 0))) (.lit (.str { cps:=#[48] }))) (.p2 .gt (.p1 .len (.var 0)) (.lit (.int 1)))) [.raise (.NoDeed)] [],.ret (.p1 .toInt (.var 0))] }
noncomputable def f14_30:Fn:={ params:=1,slots:=2,body:=[.asg 1 (.sm .split (.var 0) (.lit (.str { cps:=#[32] }))),.ite (.or (.p2 .ne (.p1 .len (.var 1)) (.lit (.int 4))) (.p1 .not (.call 21 [.p2 .index (.var 1) (.lit (.int 0))]))) [.raise (.NoDeed)] [],.ret (.tup [.p2 .index (.var 1) (.lit (.int 0)),.call 29 [.p2 .index (.var 1) (.lit (.int 1))],.call 29 [.p2 .index (.var 1) (.lit (.int 2))],.call 29 [.p2 .index (.var 1) (.lit (.int 3))]])] }
noncomputable def f14_31:Fn:={ params:=1,slots:=5,body:=[.unpack3 1 2 3 (.sm .partition (.var 0) (.lit (.str { cps:=#[32] }))),.ite (.or (.p2 .notIn (.var 1) (.lit (.parts))) (.p2 .eq (.var 2) (.lit (.str { cps:=#[] })))) [.raise (.NoDeed)] [],.ite (.p2 .eq (.var 1) (.lit (.str { cps:=#[111,114,100,101,114] }))) [.ret (.tup [.var 1,.comp (.call 30 [.var 5]) .val [.sm .split (.var 3) (.lit (.str { cps:=#[44,32] }))] none])] [],.asg 4 (.sm .split (.var 3) (.lit (.str { cps:=#[32] }))),.ite (.p2 .ne (.p1 .len (.var 4)) (.p2 .sub (.p2 .index (.lit (.parts)) (.var 1)) (.lit (.int 1)))) [.raise (.NoDeed)] [],.ret (.p1 .toTup (.p2 .add (.list [.var 1]) (.comp (.call 29 [.var 5]) .val [.var 4] none)))] }
noncomputable def f14_32:Fn:={ params:=1,slots:=4,body:=[.asg 1 .new,.asg 2 (.trk (.list [])),.for 3 .val [.var 0] [.try .exp (.append (.var 2) (.callm 2 (.var 1) [.call 31 [.var 3]])) [{ cls:=.FlowError,as:=none,tk:=.exp,e:=.append (.var 2) (.lit (.none)) }]],.ret (.tup [.var 2,.comp (.callm 13 (.var 1) [.var 4]) .range1 [.callm 10 (.var 1) []] none])] }
noncomputable def f14_113:Fn:={ params:=2,slots:=4,body:=[.ite (.or (.p1 .not (.p1 (.isInst .list) (.var 0))) (.p2 .ne (.p1 .len (.var 0)) (.p1 .len (.var 1)))) [.ret (.lit (.bool false))] [],.for 2 .range1 [.p1 .len (.var 1)] [.ite (.or (.p1 .not (.p1 (.isInst .tuple) (.p2 .index (.var 0) (.var 2)))) (.p2 .ne (.p2 .index (.var 0) (.var 2)) (.p2 .index (.var 1) (.var 2)))) [.ret (.lit (.bool false))] [],.for 3 .val [.p2 .index (.var 0) (.var 2)] [.ite (.and (.p1 .not (.p1 (.isInst .str) (.var 3))) (.p1 .not (.call 101 [.var 3]))) [.ret (.lit (.bool false))] []]],.ret (.lit (.bool true))] }
noncomputable def f14_114:Fn:={ params:=1,slots:=4,body:=[.ite (.p2 .eq (.p2 .index (.var 0) (.lit (.int 0))) (.lit (.str { cps:=#[111,114,100,101,114] }))) [.asg 1 (.trk (.list [])),.for 2 .val [.p2 .index (.var 0) (.lit (.int 1))] [.asg 3 (.comp (.p1 .toStr (.var 4)) .val [.slice (.var 2) (some (.lit (.int 1))) none] none),.exp (.append (.var 1) (.p2 .add (.p2 .add (.p2 .index (.var 2) (.lit (.int 0))) (.lit (.str { cps:=#[32] }))) (.sm .join (.lit (.str { cps:=#[32] })) (.var 3))))],.ret (.p2 .add (.lit (.str { cps:=#[111,114,100,101,114,32] })) (.sm .join (.lit (.str { cps:=#[44,32] })) (.var 1)))] [],.ret (.p2 .add (.p2 .add (.p2 .index (.var 0) (.lit (.int 0))) (.lit (.str { cps:=#[32] }))) (.sm .join (.lit (.str { cps:=#[32] })) (.comp (.p1 .toStr (.var 4)) .val [.slice (.var 0) (some (.lit (.int 1))) none] none)))] }
noncomputable def f14_115:Fn:={ params:=1,slots:=2,body:=[.ite (.or (.p1 .not (.chain (.lit (.int 0)) [.lt,.lt] [.p1 .len (.var 0),.lit (.int 31)])) (.and (.p2 .eq (.p2 .index (.var 0) (.lit (.int 0))) (.lit (.str { cps:=#[48] }))) (.p2 .gt (.p1 .len (.var 0)) (.lit (.int 1))))) [.ret (.p1 .neg (.lit (.int 1)))] [],.for 1 .val [.var 0] [.ite (.p2 .notIn (.var 1) (.lit (.str { cps:=#[48,49,50,51,52,53,54,55,56,57] }))) [.ret (.p1 .neg (.lit (.int 1)))] []],.ret (.p1 .toInt (.var 0))] }
noncomputable def f14_116:Fn:={ params:=1,slots:=4,body:=[.asg 1 (.sm .split (.var 0) (.lit (.str { cps:=#[32] }))),.ite (.or (.p2 .ne (.p1 .len (.var 1)) (.lit (.int 4))) (.p1 .not (.chain (.lit (.int 0)) [.lt,.lt] [.p1 .len (.p2 .index (.var 1) (.lit (.int 0))),.lit (.int 13)]))) [.ret (.lit (.none))] [],.for 2 .val [.p2 .index (.var 1) (.lit (.int 0))] [.ite (.p2 .notIn (.var 2) (.lit (.str { cps:=#[97,98,99,100,101,102,103,104,105,106,107,108,109,110,111,112,113,114,115,116,117,118,119,120,121,122] }))) [.ret (.lit (.none))] []],.asg 3 (.comp (.call 115 [.var 4]) .val [.slice (.var 1) (some (.lit (.int 1))) none] none),.ite (.p2 .lt (.p1 .min (.var 3)) (.lit (.int 0))) [.ret (.lit (.none))] [],.ret (.tup [.p2 .index (.var 1) (.lit (.int 0)),.p2 .index (.var 3) (.lit (.int 0)),.p2 .index (.var 3) (.lit (.int 1)),.p2 .index (.var 3) (.lit (.int 2))])] }
noncomputable def f14_117:Fn:={ params:=1,slots:=6,body:=[.ite (.sm .startswith (.var 0) (.lit (.str { cps:=#[111,114,100,101,114,32] }))) [.asg 1 (.comp (.call 116 [.var 6]) .val [.sm .split (.slice (.var 0) (some (.lit (.int 6))) none) (.lit (.str { cps:=#[44,32] }))] none),.for 2 .val [.var 1] [.ite (.p1 .isNone (.var 2)) [.ret (.lit (.none))] []],.ret (.tup [.lit (.str { cps:=#[111,114,100,101,114] }),.var 1])] [],.asg 3 (.sm .split (.var 0) (.lit (.str { cps:=#[32] }))),.asg 4 (.p2 .sub (.lit (.int 4)) (.p1 .toInt (.p2 .isIn (.p2 .index (.var 3) (.lit (.int 0))) (.list [.lit (.str { cps:=#[112,97,121] }),.lit (.str { cps:=#[114,101,102,117,110,100] })])))),.ite (.or (.p2 .notIn (.p2 .index (.var 3) (.lit (.int 0))) (.list [.lit (.str { cps:=#[100,101,108,105,118,101,114] }),.lit (.str { cps:=#[98,97,99,107] }),.lit (.str { cps:=#[115,119,97,112] }),.lit (.str { cps:=#[99,114,101,100,105,116] }),.lit (.str { cps:=#[109,111,118,101] }),.lit (.str { cps:=#[112,97,121] }),.lit (.str { cps:=#[114,101,102,117,110,100] })])) (.p2 .ne (.p1 .len (.var 3)) (.var 4))) [.ret (.lit (.none))] [],.asg 5 (.comp (.call 115 [.var 6]) .val [.slice (.var 3) (some (.lit (.int 1))) none] none),.ite (.p2 .lt (.p1 .min (.var 5)) (.lit (.int 0))) [.ret (.lit (.none))] [],.ret (.p1 .toTup (.p2 .add (.list [.p2 .index (.var 3) (.lit (.int 0))]) (.var 5)))] }
noncomputable def f14_118:Fn:={ params:=2,slots:=4,body:=[.asg 2 (.p2 .index (.lit (.str { cps:=#[32,44,48,97,45,57,111,120,49] })) (.p2 .mod (.p2 .mod (.p2 .mul (.var 1) (.lit (.int 48271))) (.lit (.int 10009))) (.lit (.int 9)))),.asg 3 (.p2 .mod (.p2 .mod (.p2 .mul (.var 1) (.lit (.int 48271))) (.lit (.int 10037))) (.p2 .add (.p1 .len (.var 0)) (.lit (.int 1)))),.ite (.p2 .eq (.p2 .mod (.var 1) (.lit (.int 3))) (.lit (.int 0))) [.ret (.p2 .add (.p2 .add (.slice (.var 0) none (some (.var 3))) (.var 2)) (.slice (.var 0) (some (.var 3)) none))] [],.ite (.p2 .eq (.p2 .mod (.var 1) (.lit (.int 3))) (.lit (.int 1))) [.ret (.p2 .add (.p2 .add (.slice (.var 0) none (some (.var 3))) (.var 2)) (.slice (.var 0) (some (.p2 .add (.var 3) (.lit (.int 1)))) none))] [],.ret (.p2 .add (.slice (.var 0) none (some (.var 3))) (.slice (.var 0) (some (.p2 .add (.var 3) (.lit (.int 1)))) none))] }
noncomputable def f14_119:Fn:={ params:=2,slots:=3,body:=[.ite (.p1 .isNone (.var 0)) [.ret (.lit (.bool true))] [],.ite (.p2 .ne (.p2 .index (.var 0) (.lit (.int 0))) (.lit (.str { cps:=#[111,114,100,101,114] }))) [.ret (.p2 .ne (.call 110 [.var 0,.var 1]) (.lit (.str { cps:=#[] })))] [],.for 2 .val [.p2 .index (.var 0) (.lit (.int 1))] [.ite (.or (.p1 .not (.chain (.lit (.int 0)) [.lt,.lt] [.p2 .index (.var 2) (.lit (.int 1)),.lit (.int 1000001)])) (.or (.p2 .gt (.p2 .index (.var 2) (.lit (.int 2))) (.lit (.int 1000000000))) (.p1 .not (.chain (.lit (.int 0)) [.lt,.lt] [.p2 .index (.var 2) (.lit (.int 3)),.lit (.int 1001)])))) [.ret (.lit (.bool true))] []],.ret (.or (.p2 .gt (.p1 .len (.p2 .index (.var 0) (.lit (.int 1)))) (.lit (.int 20))) (.p2 .gt (.p1 .len (.var 1)) (.lit (.int 39))))] }
noncomputable def f14_120:Fn:={ params:=1,slots:=11,body:=[.asg 1 (.trk (.list [])),.asg 2 (.trk (.list [])),.asg 3 (.trk (.list [])),.asg 4 (.call 100 [.var 0,.lit (.int 0)]),.for 5 .range1 [.p2 .mul (.p2 .add (.lit (.int 38)) (.p2 .mod (.var 4) (.lit (.int 4)))) (.p1 .toInt (.p2 .eq (.p2 .mod (.p2 .mod (.p2 .mul (.var 4) (.lit (.int 48271))) (.lit (.int 10151))) (.lit (.int 16))) (.lit (.int 1))))] [.exp (.append (.var 1) (.lit (.str { cps:=#[111,114,100,101,114,32,97,32,49,32,49,32,49] }))),.exp (.append (.var 2) (.lit (.none))),.ite (.p2 .lt (.var 5) (.lit (.int 40))) [.setItem (.var 2) (.var 5) (.call 112 [.tup [.lit (.str { cps:=#[111,114,100,101,114] }),.list [.tup [.lit (.str { cps:=#[97] }),.lit (.int 1),.lit (.int 1),.lit (.int 1)]]],.var 3])] []],.for 5 .range1 [.p2 .fdiv (.p1 .len (.var 0)) (.lit (.int 2))] [.asg 6 (.call 114 [.call 109 [.p2 .index (.var 0) (.p2 .mul (.lit (.int 2)) (.var 5)),.p2 .index (.var 0) (.p2 .add (.p2 .mul (.lit (.int 2)) (.var 5)) (.lit (.int 1))),.var 3]]),.ite (.p2 .eq (.p2 .mod (.p2 .mod (.p2 .mul (.p2 .index (.var 0) (.p2 .mul (.lit (.int 2)) (.var 5))) (.lit (.int 48271))) (.lit (.int 10111))) (.lit (.int 6))) (.lit (.int 0))) [.asg 6 (.call 118 [.var 6,.p2 .index (.var 0) (.p2 .add (.p2 .mul (.lit (.int 2)) (.var 5)) (.lit (.int 1)))])] [],.exp (.append (.var 1) (.var 6)),.asg 7 (.call 117 [.var 6]),.ite (.call 119 [.var 7,.var 3]) [.exp (.append (.var 2) (.lit (.none)))] [.exp (.append (.var 2) (.call 112 [.var 7,.var 3]))]],.asg 8 (.p1 .toList (.var 1)),.asg 9 (.call 32 [.var 8]),.ite (.or (.p1 .not (.p1 (.isInst .tuple) (.var 9))) (.or (.p2 .ne (.p1 .len (.var 9)) (.lit (.int 2))) (.p2 .ne (.var 8) (.var 1)))) [.ret (.lit (.bool false))] [],.ite (.or (.p1 .not (.p1 (.isInst .list) (.p2 .index (.var 9) (.lit (.int 0))))) (.or (.p2 .ne (.p1 .len (.p2 .index (.var 9) (.lit (.int 0)))) (.p1 .len (.var 2))) (.p1 .not (.p1 (.isInst .list) (.p2 .index (.var 9) (.lit (.int 1))))))) [.ret (.lit (.bool false))] [],.for 5 .range1 [.p1 .len (.var 2)] [.ite (.and (.p1 .isNone (.p2 .index (.var 2) (.var 5))) (.p1 .isNotNone (.p2 .index (.p2 .index (.var 9) (.lit (.int 0))) (.var 5)))) [.ret (.lit (.bool false))] [],.ite (.and (.p1 .isNotNone (.p2 .index (.var 2) (.var 5))) (.p1 .not (.call 113 [.p2 .index (.p2 .index (.var 9) (.lit (.int 0))) (.var 5),.p2 .index (.var 2) (.var 5)]))) [.ret (.lit (.bool false))] []],.for 10 .val [.p2 .index (.var 9) (.lit (.int 1))] [.ite (.p1 .not (.call 101 [.var 10])) [.ret (.lit (.bool false))] []],.ret (.p2 .eq (.p2 .index (.var 9) (.lit (.int 1))) (.comp (.call 103 [.var 11]) .val [.var 3] none))] }
noncomputable def zMM:List (Nat × Fn):=[(0,zQy),(1,zQz),(2,fB_2),(3,zQ1 false),(4,fB_4),(5,zQ2),(6,zQ3 false),(7,zQ4),(8,zQ5),(9,zQx),(10,zOD),(11,zPR),(12,zOE),(13,zOF),(14,zQ0),(15,zPS),(16,zPT)]
noncomputable def zML:List (Nat × Fn):=[(33,zPU),(20,zOG),(21,zLE),(22,fB_22),(23,zOH),(24,zOI),(25,zOJ),(26,zOK),(29,zB4),(30,f14_30),(31,f14_31),(32,f14_32),(100,zON),(101,zGG),(102,zLK),(103,zOO),(104,hMost),(105,zGF),(106,zDx),(107,zEy),(108,zAW 107),(109,hDeed),(110,hRefusal),(111,hTurned),(112,zOP),(113,f14_113),(114,f14_114),(115,f14_115),(116,f14_116),(117,f14_117),(118,f14_118),(119,f14_119),(120,f14_120)]
noncomputable def tab14:List (Nat × Fn):=zMM++zML
noncomputable def T14 (n:Nat):Option Fn:=tab14.lookup n
end Mine
end

section
namespace Mine
open PySem
section
variable {F:Calls} {J:Sto} {α:Type} {elt:CE} {H:List V}
noncomputable def wV {β γ:Type} (J:Sto) (g:β->γ):Option β->R γ
 | some x=>.ok (g x) J
 | none=>.exc .NoDeed J
theorem zBw {it:Items} {l:List α} {φ:α->V} (f:α->Option V) (hg:Gives J it (l.map φ)) (he:∀ x ∈ l,evE F false elt (H++[φ x]) J=wV J id (f x)) :
  ∀ (m:List α) (j:Nat) (acc:List V),l.drop j=m->acc.length+m.length < LIM ->
   yb it (fun x acc J=>(evC F false none (H++[x]) J).calm.bind fun t J=>if t then (evE F false elt (H++[x]) J).calmE.bind fun y J=>(if acc.length < LIM then .ok (acc++[y]) J else .stuck) else .ok acc J) (m.length+1) j acc J=wV J (fun ys=>acc++ys) (m.mapM f)
 | [],j,acc,hd,hl=>by
  have hj:(l.map φ)[j]?=none:=by
   rw [List.getElem?_map,<- Nat.add_zero j,<- List.getElem?_drop,hd]; rfl
  show yb it _ (0+1) j acc J=_
  rw [vR,hg.next,hj,List.mapM_nil]
  show R.ok acc J=R.ok (acc++[]) J
  rw [List.append_nil]
 | x :: m,j,acc,hd,hl=>by
  have hx:l[j]?=some x:=by rw [<- Nat.add_zero j,<- List.getElem?_drop,hd]; rfl
  have hj:(l.map φ)[j]?=some (φ x):=by rw [List.getElem?_map,hx]; rfl
  have hm:l.drop (j+1)=m:=by rw [<- List.drop_drop,hd]; rfl
  have hacc:acc.length < LIM:=Nat.lt_of_le_of_lt (Nat.le_add_right _ _) hl
  have hex:=he x (List.mem_of_getElem? hx)
  show yb it _ ((m.length+1)+1) j acc J=_
  rw [vR,hg.next,hj,List.mapM_cons]
  show R.bind (R.bind (evE F false elt (H++[φ x]) J) fun y J=>if acc.length < LIM then R.ok (acc++[y]) J else .stuck) _=_
  rw [hex]
  cases hf:f x with
  | none=>rfl
  | some y =>
   show R.bind (if acc.length < LIM then R.ok (acc++[y]) J else .stuck) _=_
   rw [if_pos hacc,R.bind_ok,zBw f hg he m (j+1) (acc++[y]) hm (by rw [List.length_append]; simp only [List.length_cons,List.length_nil] at hl ⊢; omega)]
   cases hmm:m.mapM f with
   | none=>rfl
   | some ys=>show R.ok (acc++[y]++ys) J=R.ok (acc++(y :: ys)) J; rw [List.append_assoc]; rfl
theorem zEe {k:SK} {src:List CE} {vs:List V} {it:Items} {l:List α} {φ:α->V} (f:α->Option V) (hsrc:evL F false src H J=.ok vs J) (hit:zT J k vs=some it) (hg:Gives J it (l.map φ)) (hl:l.length < LIM) (he:∀ x ∈ l,evE F false elt (H++[φ x]) J=wV J id (f x)) :
  evE F false (.comp elt k src none) H J=wV J V.lst (l.mapM f):=by
 rw [zGw,if_neg (by decide),hsrc,R.bind_ok,hit,R.lift_some,R.bind_ok]
 unfold zn
 rw [hg.fuel,List.length_map,zBw f hg he l 0 [] rfl (by simpa using hl)]
 cases l.mapM f <;> rfl
theorem zAc {f:α->Option V} {u:V}:∀ {l:List α} {ys:List V},l.mapM f=some ys->l.map (fun x=>(f x).getD u)=ys
 | [],ys,h=>by rw [List.mapM_nil] at h; cases h; rfl
 | x :: l,ys,h=>by
  rw [List.mapM_cons] at h
  cases hx:f x with
  | none=>rw [hx] at h; cases h
  | some y =>
   rw [hx] at h
   cases hl:l.mapM f with
   | none=>rw [hl] at h; cases h
   | some r=>rw [hl] at h; cases h; rw [List.map_cons,hx,zAc hl]; rfl
theorem zAd {β:Type} {f:α->Option β}:∀ {l:List α},l.mapM f=none->∃ x ∈ l,f x=none
 | [],h=>by rw [List.mapM_nil] at h; cases h
 | x :: l,h=>by
  rw [List.mapM_cons] at h
  cases hx:f x with
  | none=>exact ⟨x,List.mem_cons_self,hx⟩
  | some y =>
   rw [hx] at h
   cases hl:l.mapM f with
   | none=>obtain ⟨z,hz,e⟩:=zAd hl; exact ⟨z,List.mem_cons_of_mem _ hz,e⟩
   | some r=>rw [hl] at h; cases h
theorem xG {β:Type} {f:α->Option β}:∀ {l:List α} {ys:List β},l.mapM f=some ys->(∀ x ∈ l,∃ y,f x=some y) /\ ys.length=l.length
 | [],ys,h=>by rw [List.mapM_nil] at h; cases h; exact ⟨fun x hx=>(nomatch hx),rfl⟩
 | x :: l,ys,h=>by
  rw [List.mapM_cons] at h
  cases hx:f x with
  | none=>rw [hx] at h; cases h
  | some y =>
   rw [hx] at h
   cases hl:l.mapM f with
   | none=>rw [hl] at h; cases h
   | some r =>
    rw [hl] at h; cases h
    obtain ⟨h1,h2⟩:=xG hl
    exact ⟨fun z hz=>(List.mem_cons.mp hz).elim (fun e=>⟨y,e ▸ hx⟩) (h1 z),congrArg Nat.succ h2⟩
end
noncomputable def zFI (ok:Nat->Bool) (c:Nat):Option Cls:=if ok c=true then none else some .NoItem
theorem ok_all {ok:Nat->Bool} {cs:List Nat}:cs.findSome? (zFI ok)=none ↔ cs.all ok=true:=by
 rw [List.findSome?_eq_none_iff,List.all_eq_true]
 refine forall_congr' fun c=>forall_congr' fun _=>?_
 unfold zFI
 by_cases h:ok c=true
 ·rw [if_pos h]; exact ⟨fun _=>h,fun _=>rfl⟩
 ·rw [if_neg h]; exact ⟨fun q=>(nomatch q),fun q=>absurd q h⟩
section
variable {d:Nat} {q:Bool} {J:Sto} {F Fq:Calls} {H:List V}
theorem zGB (a b:Str):ev2 .eq J (.str a) (.str b)=some (.bool (a==b)):=rfl
theorem zCJ {s:Str} (hs:A7 s) {ok:Nat->Bool} {lit:Str} (hok:∀ c,ev2 .notIn J (.str (mkS [c])) (.str lit)=some (.bool !ok c)) {i:Nat} {src r:CE} {v:V} (hr:∀ H,evE F false r H J=.ok v J) (hsrc:evE F false src H J=.ok (.str s) J) (hi:i < H.length) :
  ((zR s).all ok=false->exS F Fq false (.for i .val [src] [.ite (.p2 .notIn (.var i) (.lit (.str lit))) [.ret r] []]) H J=.ok (.ret v) J) /\
  ((zR s).all ok=true->∃ x,exS F Fq false (.for i .val [src] [.ite (.p2 .notIn (.var i) (.lit (.str lit))) [.ret r] []]) H J=.ok (.next (H.set i x)) J):=by
 obtain ⟨h1,h2⟩:=ka (F:=F) (Fq:=Fq) (i:=i) (k:=.val) (src:=[src]) (body:=[.ite (.p2 .notIn (.var i) (.lit (.str lit))) [.ret r] []]) (H:=H) (vs:=[.str s]) (J:=J) (it:=.now (yV s)) (l:=zR s) (φ:=fun c=>.str (mkS [c])) (zFI ok) (fun _=>.inr v) (fun H'=>∃ x,H'=H.set i x) (zD hsrc rfl)
  (show zT J .val [.str s]=some (.now (yV s)) by show (if s.cps.all (· < 128)=true then some (Items.now (yV s)) else none)=_; rw [if_pos hs.all]) (.inl rfl) ⟨H[i],by rw [List.set_getElem_self]⟩
  fun c hc H' hI=>by
   obtain ⟨y,rfl⟩:=hI
   rw [List.set_set]
   have rv:zK (H.set i (.str (mkS [c]))) i=some (.str (mkS [c])):=by unfold zK; rw [List.getElem?_set_self hi]
   have ec:evE F false (.p2 .notIn (.var i) (.lit (.str lit))) (H.set i (.str (mkS [c]))) J=.ok (.bool !ok c) J:=zE (by rw [zu,rv]; rfl) rfl (hok c)
   unfold zFI
   by_cases hl:ok c=true
   ·rw [if_pos hl]
    exact ⟨fun c' q=>(nomatch q),fun _=>⟨_,s_f (zC (by rw [hl] at ec; exact ec)) rfl,_,rfl⟩⟩
   ·rw [if_neg hl]
    exact ⟨fun c' q=>s_t (zC (by rw [Bool.eq_false_iff.mpr hl] at ec; exact ec)) (zH (hr _)),fun q=>(nomatch q)⟩
 refine ⟨fun h=>?_,fun h=>?_⟩
 ·cases hf:(zR s).findSome? (zFI ok) with
  | none=>rw [ok_all.mp hf] at h; cases h
  | some c=>exact h1 c hf
 ·obtain ⟨H',e,x,rfl⟩:=h2 (ok_all.mpr h)
  exact ⟨x,e⟩
theorem zQs {s:Str} (hs:A7 s) (hl:s.length < LIM) {ok:Nat->Bool} {lit:Str} (hok:∀ c,ev2 .isIn J (.str (mkS [c])) (.str lit)=some (.bool (ok c))) {src:CE} {n:Nat} (hn:H.length=n) (hsrc:evE F false src H J=.ok (.str s) J) :
  evE F false (.p1 .all (.comp (.p2 .isIn (.var n) (.lit (.str lit))) .val [src] none)) H J=.ok (.bool ((zR s).all ok)) J:=by
 have ec:=yw (F:=F) (elt:=.p2 .isIn (.var n) (.lit (.str lit))) (k:=.val) (src:=[src]) (cond:=none) (H:=H) (J:=J) (l:=zR s) (φ:=fun c=>.str (mkS [c])) (fun _=>true) (fun c=>.bool (ok c))
  (zD hsrc rfl) (show zT J .val [.str s]=some (.now (yV s)) by show (if s.cps.all (· < 128)=true then some (Items.now (yV s)) else none)=_; rw [if_pos hs.all]) (.inl rfl)
  (by show (zR s).length < LIM; exact hl) (fun _ _=>rfl) (fun c _ _=>zE (by rw [zu]; unfold zK; rw [List.getElem?_append_right (by omega),hn,Nat.sub_self]; rfl) rfl (hok c))
 rw [yZ] at ec
 refine zV ec ?_
 show ((bools? ((zR s).map fun c=>V.bool (ok c))).map fun l=>V.bool (l.all id))=_
 rw [kZ,show (some ((zR s).map ok)).map (fun l=>V.bool (l.all id))=some (V.bool (((zR s).map ok).all id)) from rfl,List.all_map]
 rfl
theorem zPd {s:Str} (h:1 <= s.length):∃ c cs,zR s=c :: cs /\ ev2 .index J (.str s) (.int 0)=some (.str (mkS [c])):=by
 have hl:(zR s).length=s.length:=rfl
 cases hc:zR s with
 | nil=>rw [hc] at hl; rw [<- hl] at h; exact absurd h (by decide)
 | cons c cs =>
  refine ⟨c,cs,rfl,?_⟩
  show ((ze s.length 0).bind fun k=>(zR s)[k]?.map fun c=>V.str (mkS [c]))=_
  rw [show (0:Int)=((0:Nat):Int) from rfl,xH (Nat.lt_of_lt_of_le (by decide) h),hc]; rfl
theorem zEl {w:Str} (h:1 <= w.length) {a:CE} (ha:evE F false a H J=.ok (.str w) J) :
  evE F false (.and (.p2 .eq (.p2 .index a (.lit (.int 0))) (.lit (.str { cps:=#[48] }))) (.p2 .gt (.p1 .len a) (.lit (.int 1)))) H J=.ok (.bool (zAf w&&decide (1 < w.length))) J:=by
 obtain ⟨c,cs,hc,hi⟩:=zPd (J:=J) h
 have hn:zAf w=(mkS [c]==({ cps:=#[48] }:Str)):=by unfold zAf; rw [hc]
 rw [hn]
 refine zQt (zE (zE ha rfl hi) rfl (zGB _ _)) (zE (zV ha (zBE J w)) rfl ?_)
 rw [zDw]
 exact congrArg (fun b=>some (V.bool b)) (decide_eq_decide.mpr (Int.ofNat_lt (n:=1) (m:=w.length)))
theorem zHO {w:Str} (h:xq w=true) {a:CE} (ha:evE F false a H J=.ok (.str w) J):∃ n:Int,zj w=some n /\ evE F false (.p1 .toInt a) H J=.ok (.int n) J:=by
 obtain ⟨n,hn⟩:=zHY h
 refine ⟨n,by unfold zj; rw [if_pos h]; exact hn,zV ha ?_⟩
 have hl:w.length <= 640:=by
  unfold xq at h
  simp only [Bool.and_eq_true,decide_eq_true_eq] at h
  exact Nat.le_trans h.1.2 (by decide)
 show (if w.length <= 640 then (PySem.intText? w).map V.int else none)=_
 rw [if_pos hl,hn]; rfl
theorem zHn {w:Str} (hw:A7 w):zA T14 (d+1) false 29 [.str w] J=wV J V.int (zj w):=by
 have eb:evE (zA T14 d false) false (.p1 .not (.chain (.lit (.int 1)) [.le,.le] [.p1 .len (.var 0),.lit (.int 30)])) [.str w] J=.ok (.bool !(decide (1 <= w.length)&&decide (w.length <= 30))) J:=by
  refine zV (xh (lo:=(1:Nat)) (x:=(w.length:Int)) (hi:=(30:Nat)) rfl rfl rfl) ?_
  rw [wN,wN]; rfl
 by_cases hb:(decide (1 <= w.length)&&decide (w.length <= 30))=true
 ·have hl:1 <= w.length /\ w.length <= 30:=by rw [Bool.and_eq_true,decide_eq_true_eq,decide_eq_true_eq] at hb; exact hb
  rw [hb] at eb
  have ea:=zQs (F:=zA T14 d false) (J:=J) (H:=[.str w]) (n:=1) hw (Nat.lt_of_le_of_lt hl.2 (by decide)) (ok:=zCn) (lit:=zM8) (fun c=>rfl) (src:=.var 0) rfl rfl
  have en:=zEl (F:=zA T14 d false) (J:=J) (H:=[.str w]) hl.1 (a:=.var 0) rfl
  by_cases ha:(zR w).all zCn=true
  ·rw [ha] at ea
   by_cases hn:(zAf w&&decide (1 < w.length))=true
   ·rw [hn] at en
    have:zj w=none:=by unfold zj; rw [if_neg]; unfold xq; rw [hb,ha,hn]; decide
    rw [this]
    exact zS (fn:=zB4) rfl rfl (s_f (zC (zW eb rfl (zV ea rfl))) (s_t (zC en) rfl))
   ·rw [Bool.eq_false_iff.mpr hn] at en
    have hk:xq w=true:=by unfold xq; rw [hb,ha,Bool.eq_false_iff.mpr hn]; rfl
    obtain ⟨n,h1,h2⟩:=zHO (F:=zA T14 d false) (J:=J) (H:=[.str w]) hk (a:=.var 0) rfl
    rw [h1]
    exact zG (fn:=zB4) rfl rfl (s_f (zC (zW eb rfl (zV ea rfl))) (s_f (zC en) (zH h2)))
  ·rw [Bool.eq_false_iff.mpr ha] at ea
   have:zj w=none:=by unfold zj; rw [if_neg]; unfold xq; rw [Bool.eq_false_iff.mpr ha]; simp
   rw [this]
   exact zS (fn:=zB4) rfl rfl (s_t (zC (zW eb rfl (zV ea rfl))) rfl)
 ·rw [Bool.eq_false_iff.mpr hb] at eb
  have:zj w=none:=by unfold zj; rw [if_neg]; unfold xq; rw [Bool.eq_false_iff.mpr hb]; simp
  rw [this]
  exact zS (fn:=zB4) rfl rfl (s_t (zC (xX eb rfl)) rfl)
theorem zHo {w:Str} (hw:A7 w):zA T14 (d+1) false 115 [.str w] J=.ok (.int ((zj w).getD (-1))) J:=by
 have eb:evE (zA T14 d false) false (.p1 .not (.chain (.lit (.int 0)) [.lt,.lt] [.p1 .len (.var 0),.lit (.int 31)])) [.str w,.undef] J=.ok (.bool !(decide (1 <= w.length)&&decide (w.length <= 30))) J:=by
  refine zV (ja (lo:=0) (x:=(w.length:Int)) (hi:=(30:Nat)+1) rfl rfl rfl) ?_
  rw [zLW]; rfl
 by_cases hb:(decide (1 <= w.length)&&decide (w.length <= 30))=true
 ·have hl:1 <= w.length /\ w.length <= 30:=by rw [Bool.and_eq_true,decide_eq_true_eq,decide_eq_true_eq] at hb; exact hb
  rw [hb] at eb
  have en:=zEl (F:=zA T14 d false) (J:=J) (H:=[.str w,.undef]) hl.1 (a:=.var 0) rfl
  by_cases hn:(zAf w&&decide (1 < w.length))=true
  ·rw [hn] at en
   have:zj w=none:=by unfold zj; rw [if_neg]; unfold xq; rw [hn]; simp
   rw [this]
   exact zG (fn:=f14_115) rfl rfl (s_t (zC (zW eb rfl en)) (zH rfl))
  ·rw [Bool.eq_false_iff.mpr hn] at en
   obtain ⟨l1,l2⟩:=zCJ (F:=zA T14 d false) (Fq:=zA T14 d true) (J:=J) (H:=[.str w,.undef]) hw (ok:=zCn) (lit:=zM8) (fun c=>rfl) (i:=1) (src:=.var 0) (r:=.p1 .neg (.lit (.int 1))) (v:=.int (-1)) (fun _=>rfl) rfl (show 1 < 2 by decide)
   have pre:∀ {r:R Fl},exL (zA T14 d false) (zA T14 d true) false (f14_115.body.drop 1) [.str w,.undef] J=r->exL (zA T14 d false) (zA T14 d true) false f14_115.body ([.str w]++List.replicate (f14_115.slots - f14_115.params) .undef) J=r:=fun kk=>s_f (zC (zW eb rfl en)) kk
   by_cases ha:(zR w).all zCn=true
   ·obtain ⟨x,e⟩:=l2 ha
    have hk:xq w=true:=by unfold xq; rw [hb,ha,Bool.eq_false_iff.mpr hn]; rfl
    obtain ⟨n,h1,h2⟩:=zHO (F:=zA T14 d false) (J:=J) (H:=[.str w,x]) hk (a:=.var 0) rfl
    rw [h1]
    exact zG (fn:=f14_115) rfl rfl (pre (zBN e (zH h2)))
   ·have:zj w=none:=by unfold zj; rw [if_neg]; unfold xq; rw [Bool.eq_false_iff.mpr ha]; simp
    rw [this]
    refine zG (fn:=f14_115) rfl rfl (pre ?_)
    show exL (zA T14 d false) (zA T14 d true) false (_ :: f14_115.body.drop 2) [.str w,.undef] J=_
    rw [yI]
    exact congrArg (fun r=>R.bind r (zCU (zA T14 d false) (zA T14 d true) false (f14_115.body.drop 2))) (l1 (Bool.eq_false_iff.mpr ha))
 ·rw [Bool.eq_false_iff.mpr hb] at eb
  have:zj w=none:=by unfold zj; rw [if_neg]; unfold xq; rw [Bool.eq_false_iff.mpr hb]; simp
  rw [this]
  exact zG (fn:=f14_115) rfl rfl (s_t (zC (xX eb rfl)) (zH rfl))
end
end Mine
end

section
namespace Mine
open PySem
section
variable {F:Calls} {q:Bool} {H:List V} {J J1 J':Sto} {e a:CE} {es:List CE}
theorem jZ {c:Cls} (h:evE F q e H J=.exc c J'):evL F q (e :: es) H J=.exc c J':=by rw [jT,h]; rfl
theorem wz {c:Cls} {v:V} (h:evE F q e H J=.ok v J1) (hs:evL F q es H J1=.exc c J'):evL F q (e :: es) H J=.exc c J':=by rw [jT,h,R.bind_ok,hs]; rfl
theorem zDu {c:Cls} (h:evL F q es H J=.exc c J'):evE F q (.tup es) H J=.exc c J':=by rw [zMe,h]; rfl
theorem vA {x:Str} {c:Nat} {cs:List Nat} (hx:x.length <= 10000) (ha:evE F q a H J=.ok (.str x) J):evE F q (.sm .split a (.lit (.str (mkS (c :: cs))))) H J=.ok (.lst ((Txt.split x (mkS (c :: cs))).map V.str)) J:=by
 refine zIV ha rfl rfl ?_
 show (if ((mkS (c :: cs)).length==0||decide (10000 < x.length))=true then none else some (V.lst ((Txt.split x (mkS (c :: cs))).map V.str)))=_
 rw [if_neg]
 rw [zY,decide_eq_false (Nat.not_lt.mpr hx)]
 simp
end
noncomputable def sp:Str:=mkS [32]
noncomputable def zCj:Str:=mkS [44,32]
noncomputable def zOS:List Str->Option V
 | [w0,w1,w2,w3]=>if zh w0=true then (zj w1).bind fun a=>(zj w2).bind fun b=>(zj w3).map fun c=>.tup [.str w0,.int a,.int b,.int c] else none
 | _=>none
noncomputable def yr (p:Str):Option V:=zOS (Txt.split p sp)
theorem jP {ws:List Str} (h:ws.length ≠ 4):zOS ws=none:=by
 match ws with
 | []=>rfl
 | [_]=>rfl
 | [_,_]=>rfl
 | [_,_,_]=>rfl
 | [_,_,_,_]=>exact absurd rfl h
 | _ :: _ :: _ :: _ :: _ :: _=>rfl
theorem zPW {ws:List Str} (h:ws.length=4):∃ w0 w1 w2 w3,ws=[w0,w1,w2,w3]:=by
 rcases ws with _ | ⟨a,_ | ⟨b,_ | ⟨c,_ | ⟨e,_ | ⟨g,r⟩⟩⟩⟩⟩ <;> first | exact ⟨_,_,_,_,rfl⟩ | cases h
theorem zHc:∀ (xs:List Int) (m:Int),(xs.foldl (fun m y=>if y < m then y else m) m < 0) ↔ m < 0 \/ ∃ x ∈ xs,x < 0
 | [],m=>⟨.inl,fun h=>h.elim id fun ⟨x,hx,_⟩=>nomatch hx⟩
 | y :: xs,m=>by
  rw [List.foldl_cons,zHc xs]
  constructor
  ·rintro (h | ⟨x,hx,h⟩)
   ·split at h
    ·exact .inr ⟨y,List.mem_cons_self,h⟩
    ·exact .inl h
   ·exact .inr ⟨x,List.mem_cons_of_mem _ hx,h⟩
  ·rintro (h | ⟨x,hx,h⟩)
   ·refine .inl ?_
    split
    ·omega
    ·exact h
   ·rcases List.mem_cons.mp hx with rfl | hx
    ·refine .inl ?_
     split
     ·exact h
     ·omega
    ·exact .inr ⟨x,hx,h⟩
noncomputable def wL (w:Str):Int:=(zj w).getD (-1)
theorem numD_neg {w:Str}:wL w < 0 ↔ zj w=none:=by
 unfold wL
 cases h:zj w with
 | none=>exact ⟨fun _=>rfl,fun _=>by decide⟩
 | some n=>exact ⟨fun q=>absurd (zLh h) (Int.not_le.mpr q),fun q=>nomatch q⟩
theorem zLC {J:Sto} {w:Str} {ws:List Str}:∃ m:Int,ev1 .min J (.lst ((w :: ws).map fun w=>.int (wL w)))=some (.int m) /\ (m < 0 ↔ (w :: ws).mapM zj=none):=by
 refine ⟨(ws.map wL).foldl (fun m y=>if y < m then y else m) (wL w),?_,?_⟩
 ·show ((ints? ((w :: ws).map fun w=>V.int (wL w))).bind fun l=>(zIn l).map V.int)=_
  rw [show (w :: ws).map (fun w=>V.int (wL w))=iv ((w :: ws).map wL) by unfold iv; rw [List.map_map]; rfl,zHa]; rfl
 ·rw [zHc]
  constructor
  ·intro h
   cases hm:(w :: ws).mapM zj with
   | none=>rfl
   | some ys =>
    obtain ⟨h1,_⟩:=xG hm
    rcases h with h | ⟨x,hx,h⟩
    ·obtain ⟨y,hy⟩:=h1 w List.mem_cons_self
     rw [numD_neg.mp h] at hy; cases hy
    ·obtain ⟨z,hz,rfl⟩:=List.mem_map.mp hx
     obtain ⟨y,hy⟩:=h1 z (List.mem_cons_of_mem _ hz)
     rw [numD_neg.mp h] at hy; cases hy
  ·intro h
   obtain ⟨z,hz,hn⟩:=zAd h
   rcases List.mem_cons.mp hz with rfl | hz
   ·exact .inl (numD_neg.mpr hn)
   ·exact .inr ⟨_,List.mem_map_of_mem hz,numD_neg.mpr hn⟩
section
variable {d:Nat} {q:Bool} {J:Sto}
theorem zD6 {n m:Nat}:ev2 .ne J (.int (n:Int)) (.int (m:Int))=some (.bool !(n==m)):=by
 rw [zLB]
 refine congrArg (fun b=>some (V.bool b)) ?_
 show (!((n:Int)==(m:Int)))=!(n==m)
 refine congrArg (fun b=>!b) ?_
 by_cases h:n=m
 ·rw [h,beq_self_eq_true,beq_self_eq_true]
 ·rw [beq_eq_false_iff_ne.mpr h,beq_eq_false_iff_ne.mpr fun e=>h (Int.ofNat_inj.mp e)]
theorem zP0 {p:Str} (hp:A7 p) (hl:p.length <= 10000):zA T14 (d+2) false 30 [.str p] J=wV J id (yr p):=by
 have es:evE (zA T14 (d+1) false) false (.sm .split (.var 0) (.lit (.str (mkS [32])))) [.str p,.undef] J=.ok (.lst ((Txt.split p sp).map V.str)) J:=vA hl rfl
 have hw:∀ w ∈ Txt.split p sp,A7 w:=fun w h=>hp.part h
 unfold yr
 generalize Txt.split p sp=ws at es hw
 have pre:∀ {r:R Fl},exL (zA T14 (d+1) false) (zA T14 (d+1) true) false (f14_30.body.drop 1) [.str p,.lst (ws.map V.str)] J=r->exL (zA T14 (d+1) false) (zA T14 (d+1) true) false f14_30.body ([.str p]++List.replicate (f14_30.slots - f14_30.params) .undef) J=r:=fun kk=>zL es kk
 have el:evE (zA T14 (d+1) false) false (.p2 .ne (.p1 .len (.var 1)) (.lit (.int 4))) [.str p,.lst (ws.map V.str)] J=.ok (.bool !(ws.length==4)) J:=zE (zV rfl (by rw [zi,List.length_map])) rfl (zD6 (m:=4))
 by_cases h4:ws.length=4
 ·obtain ⟨w0,w1,w2,w3,rfl⟩:=zPW h4
  have ei:evE (zA T14 (d+1) false) false (.p1 .not (.call 21 [.p2 .index (.var 1) (.lit (.int 0))])) [.str p,.lst [.str w0,.str w1,.str w2,.str w3]] J=.ok (.bool !zh w0) J:=zV (zI rfl (zG5 (T:=T14) rfl (hw w0 List.mem_cons_self).all)) rfl
  show _=wV J id (if zh w0=true then _ else none)
  by_cases hi:zh w0=true
  ·rw [if_pos hi]
   rw [hi] at ei
   have n1:=zHn (d:=d) (J:=J) (hw w1 (by simp))
   have n2:=zHn (d:=d) (J:=J) (hw w2 (by simp))
   have n3:=zHn (d:=d) (J:=J) (hw w3 (by simp))
   have pre2:∀ {r:R Fl},exL (zA T14 (d+1) false) (zA T14 (d+1) true) false (f14_30.body.drop 2) [.str p,.lst [.str w0,.str w1,.str w2,.str w3]] J=r->exL (zA T14 (d+1) false) (zA T14 (d+1) true) false f14_30.body ([.str p]++List.replicate (f14_30.slots - f14_30.params) .undef) J=r:=fun kk=>pre (s_f (zC (zW el rfl ei)) kk)
   cases h1:zj w1 with
   | none=>rw [h1] at n1; exact zS (fn:=f14_30) rfl rfl (pre2 (zA3 (zDu (wz rfl (jZ (zI rfl n1))))))
   | some x1 =>
    rw [h1] at n1
    cases h2:zj w2 with
    | none=>rw [h2] at n2; exact zS (fn:=f14_30) rfl rfl (pre2 (zA3 (zDu (wz rfl (wz (zI rfl n1) (jZ (zI rfl n2)))))))
    | some x2 =>
     rw [h2] at n2
     cases h3:zj w3 with
     | none=>rw [h3] at n3; exact zS (fn:=f14_30) rfl rfl (pre2 (zA3 (zDu (wz rfl (wz (zI rfl n1) (wz (zI rfl n2) (jZ (zI rfl n3))))))))
     | some x3=>rw [h3] at n3; exact zG (fn:=f14_30) rfl rfl (pre2 (zH (yk (zD rfl (zD (zI rfl n1) (zD (zI rfl n2) (zD (zI rfl n3) rfl)))))))
  ·rw [if_neg hi]
   rw [Bool.eq_false_iff.mpr hi] at ei
   exact zS (fn:=f14_30) rfl rfl (pre (s_t (zC (zW el rfl ei)) rfl))
 ·rw [jP h4]
  rw [beq_eq_false_iff_ne.mpr h4] at el
  exact zS (fn:=f14_30) rfl rfl (pre (s_t (zC (xX el rfl)) rfl))
theorem zL5 {p:Str} (hp:A7 p) (hl:p.length <= 10000):zA T14 (d+2) false 116 [.str p] J=.ok ((yr p).getD .none) J:=by
 have es:evE (zA T14 (d+1) false) false (.sm .split (.var 0) (.lit (.str (mkS [32])))) [.str p,.undef,.undef,.undef] J=.ok (.lst ((Txt.split p sp).map V.str)) J:=vA hl rfl
 have hw:∀ w ∈ Txt.split p sp,A7 w:=fun w h=>hp.part h
 unfold yr
 generalize Txt.split p sp=ws at es hw
 have pre:∀ {r:R Fl},exL (zA T14 (d+1) false) (zA T14 (d+1) true) false (f14_116.body.drop 1) [.str p,.lst (ws.map V.str),.undef,.undef] J=r->exL (zA T14 (d+1) false) (zA T14 (d+1) true) false f14_116.body ([.str p]++List.replicate (f14_116.slots - f14_116.params) .undef) J=r:=fun kk=>zL es kk
 have el:evE (zA T14 (d+1) false) false (.p2 .ne (.p1 .len (.var 1)) (.lit (.int 4))) [.str p,.lst (ws.map V.str),.undef,.undef] J=.ok (.bool !(ws.length==4)) J:=zE (zV rfl (by rw [zi,List.length_map])) rfl (zD6 (m:=4))
 by_cases h4:ws.length=4
 ·obtain ⟨w0,w1,w2,w3,rfl⟩:=zPW h4
  have ei:evE (zA T14 (d+1) false) false (.p1 .not (.chain (.lit (.int 0)) [.lt,.lt] [.p1 .len (.p2 .index (.var 1) (.lit (.int 0))),.lit (.int 13)])) [.str p,.lst [.str w0,.str w1,.str w2,.str w3],.undef,.undef] J=.ok (.bool !(decide (1 <= w0.length)&&decide (w0.length <= 12))) J:=by
   refine zV (ja (lo:=0) (x:=(w0.length:Int)) (hi:=(12:Nat)+1) rfl rfl rfl) ?_
   rw [zLW]; rfl
  show _=R.ok ((if zh w0=true then (zj w1).bind fun a=>(zj w2).bind fun b=>(zj w3).map fun c=>V.tup [.str w0,.int a,.int b,.int c] else none).getD V.none) J
  by_cases hb:(decide (1 <= w0.length)&&decide (w0.length <= 12))=true
  ·rw [hb] at ei
   obtain ⟨l1,l2⟩:=zCJ (F:=zA T14 (d+1) false) (Fq:=zA T14 (d+1) true) (J:=J) (H:=[.str p,.lst [.str w0,.str w1,.str w2,.str w3],.undef,.undef]) (hw w0 List.mem_cons_self) (ok:=zy) (lit:=yi) (fun c=>rfl) (i:=2) (src:=.p2 .index (.var 1) (.lit (.int 0))) (r:=.lit .none) (v:=.none) (fun _=>rfl) rfl (show 2 < 4 by decide)
   by_cases ha:(zR w0).all zy=true
   ·have hi:zh w0=true:=by unfold zh; rw [hb,ha]; rfl
    rw [if_pos hi]
    obtain ⟨x,e⟩:=l2 ha
    have ec:=yw (F:=zA T14 (d+1) false) (elt:=.call 115 [.var 4]) (k:=.val) (src:=[.slice (.var 1) (some (.lit (.int 1))) none]) (cond:=none) (H:=[.str p,.lst [.str w0,.str w1,.str w2,.str w3],x,.undef]) (J:=J) (l:=[w1,w2,w3]) (φ:=V.str) (fun _=>true) (fun w=>.int (wL w)) (zD rfl rfl) rfl (.inl rfl) (show 3 < LIM by decide) (fun _ _=>rfl) (fun w hm _=>zI rfl (zHo (hw w (List.mem_cons_of_mem _ hm))))
    rw [yZ] at ec
    obtain ⟨m,e1,e2⟩:=zLC (J:=J) (w:=w1) (ws:=[w2,w3])
    have em:evE (zA T14 (d+1) false) false (.p2 .lt (.p1 .min (.var 3)) (.lit (.int 0))) [.str p,.lst [.str w0,.str w1,.str w2,.str w3],x,.lst ([w1,w2,w3].map fun w=>.int (wL w))] J=.ok (.bool (decide (m < 0))) J:=zE (zV rfl e1) rfl rfl
    have pre2:∀ {r:R Fl},exL (zA T14 (d+1) false) (zA T14 (d+1) true) false (f14_116.body.drop 4) [.str p,.lst [.str w0,.str w1,.str w2,.str w3],x,.lst ([w1,w2,w3].map fun w=>.int (wL w))] J=r->exL (zA T14 (d+1) false) (zA T14 (d+1) true) false f14_116.body ([.str p]++List.replicate (f14_116.slots - f14_116.params) .undef) J=r:=fun kk=>pre (s_f (zC (zW el rfl ei)) (zBN e (zL ec kk)))
    cases hm:[w1,w2,w3].mapM zj with
    | none =>
     rw [decide_eq_true (e2.mpr hm)] at em
     have:((zj w1).bind fun a=>(zj w2).bind fun b=>(zj w3).map fun c=>V.tup [.str w0,.int a,.int b,.int c])=none:=by
      rw [List.mapM_cons,List.mapM_cons,List.mapM_cons,List.mapM_nil] at hm
      cases h1:zj w1 with
      | none=>rfl
      | some x1 =>
       cases h2:zj w2 with
       | none=>rfl
       | some x2 =>
        cases h3:zj w3 with
        | none=>rfl
        | some x3=>rw [h1,h2,h3] at hm; cases hm
     rw [this]
     exact zG (fn:=f14_116) rfl rfl (pre2 (s_t (zC em) (zH rfl)))
    | some ns =>
     rw [decide_eq_false fun q=>by rw [e2.mp q] at hm; cases hm] at em
     obtain ⟨h1,_⟩:=xG hm
     obtain ⟨x1,q1⟩:=h1 w1 (by simp)
     obtain ⟨x2,q2⟩:=h1 w2 (by simp)
     obtain ⟨x3,q3⟩:=h1 w3 (by simp)
     rw [q1,q2,q3]
     have d1:wL w1=x1:=by unfold wL; rw [q1]; rfl
     have d2:wL w2=x2:=by unfold wL; rw [q2]; rfl
     have d3:wL w3=x3:=by unfold wL; rw [q3]; rfl
     refine zG (fn:=f14_116) rfl rfl (pre2 (s_f (zC em) (zH (yk (zD rfl (zD (zE rfl rfl ?_) (zD (zE rfl rfl ?_) (zD (zE rfl rfl ?_) rfl))))))))
     ·rw [<- d1]; rfl
     ·rw [<- d2]; rfl
     ·rw [<- d3]; rfl
   ·have hi:zh w0=false:=by unfold zh; rw [Bool.eq_false_iff.mpr ha,Bool.and_false]
    rw [hi,if_neg (by decide)]
    refine zG (fn:=f14_116) rfl rfl (pre (s_f (zC (zW el rfl ei)) ?_))
    show exL (zA T14 (d+1) false) (zA T14 (d+1) true) false (_ :: f14_116.body.drop 3) [.str p,.lst [.str w0,.str w1,.str w2,.str w3],.undef,.undef] J=_
    rw [yI]
    exact congrArg (fun r=>R.bind r (zCU (zA T14 (d+1) false) (zA T14 (d+1) true) false (f14_116.body.drop 3))) (l1 (Bool.eq_false_iff.mpr ha))
  ·rw [Bool.eq_false_iff.mpr hb] at ei
   have hi:zh w0=false:=by unfold zh; rw [Bool.eq_false_iff.mpr hb,Bool.false_and]
   rw [hi,if_neg (by decide)]
   exact zG (fn:=f14_116) rfl rfl (pre (s_t (zC (zW el rfl ei)) (zH rfl)))
 ·rw [jP h4]
  rw [beq_eq_false_iff_ne.mpr h4] at el
  exact zG (fn:=f14_116) rfl rfl (pre (s_t (zC (xX el rfl)) (zH rfl)))
end
end Mine
end

section
namespace Mine
open PySem
noncomputable def w7:List Str:=[wM,wq,wu,wr,zx,xK,xz]
noncomputable def w7V:V:=.lst [.str wM,.str wq,.str wu,.str wr,.str zx,.str xK,.str xz]
noncomputable def prV:V:=.lst [.str xK,.str xz]
inductive zQi (J:Sto) (w:Str) (k:Nat):Prop
 | mk (h1:ev2 .notIn J (.str w) .parts=some (.bool false)) (h2:ev2 .index J .parts (.str w)=some (.int (k:Int))) (h3:∃ b,ev2 .isIn J (.str w) prV=some (.bool b) /\ ((4:Int) - (if b=true then 1 else 0)=(k:Int))) (h4:ev2 .notIn J (.str w) w7V=some (.bool false)) (h5:(w==yM)=false) (h6:k=3 \/ k=4)
theorem zFO {J:Sto} {w:Str} (h0:w ≠ yM) (h1:w ≠ wM) (h2:w ≠ wq) (h3:w ≠ wu) (h4:w ≠ wr) (h5:w ≠ zx) (h6:w ≠ xK) (h7:w ≠ xz):ev2 .notIn J (.str w) .parts=some (.bool true):=by
 show some (V.bool !(partsTable.any fun p=>p.1==w))=_
 have:(partsTable.any fun p=>p.1==w)=false:=by
  rw [List.any_eq_false]
  intro p hp
  replace hp:p ∈ [(yM,(2:Int)),(wM,4),(wq,4),(wu,4),(wr,4),(xK,3),(xz,3),(zx,4)]:=hp
  simp only [List.mem_cons,List.not_mem_nil,or_false] at hp
  rw [beq_iff_eq]
  rcases hp with rfl | rfl | rfl | rfl | rfl | rfl | rfl | rfl
  ·exact fun e=>h0 e.symm
  ·exact fun e=>h1 e.symm
  ·exact fun e=>h2 e.symm
  ·exact fun e=>h3 e.symm
  ·exact fun e=>h4 e.symm
  ·exact fun e=>h6 e.symm
  ·exact fun e=>h7 e.symm
  ·exact fun e=>h5 e.symm
 rw [this]; rfl
theorem zMB {J:Sto} (w:Str):w=yM \/ (∃ k,zQi J w k) \/ (ev2 .notIn J (.str w) .parts=some (.bool true) /\ ev2 .notIn J (.str w) w7V=some (.bool true)):=by
 by_cases h0:w=yM
 ·exact .inl h0
 refine .inr ?_
 by_cases h1:w=wM
 ·subst h1; exact .inl ⟨4,rfl,rfl,⟨false,rfl,rfl⟩,rfl,rfl,.inr rfl⟩
 by_cases h2:w=wq
 ·subst h2; exact .inl ⟨4,rfl,rfl,⟨false,rfl,rfl⟩,rfl,rfl,.inr rfl⟩
 by_cases h3:w=wu
 ·subst h3; exact .inl ⟨4,rfl,rfl,⟨false,rfl,rfl⟩,rfl,rfl,.inr rfl⟩
 by_cases h4:w=wr
 ·subst h4; exact .inl ⟨4,rfl,rfl,⟨false,rfl,rfl⟩,rfl,rfl,.inr rfl⟩
 by_cases h5:w=zx
 ·subst h5; exact .inl ⟨4,rfl,rfl,⟨false,rfl,rfl⟩,rfl,rfl,.inr rfl⟩
 by_cases h6:w=xK
 ·subst h6; exact .inl ⟨3,rfl,rfl,⟨true,rfl,rfl⟩,rfl,rfl,.inl rfl⟩
 by_cases h7:w=xz
 ·subst h7; exact .inl ⟨3,rfl,rfl,⟨true,rfl,rfl⟩,rfl,rfl,.inl rfl⟩
 refine .inr ⟨?_,?_⟩
 ·exact zFO h0 h1 h2 h3 h4 h5 h6 h7
 ·show some (V.bool !(w7.contains w))=_
  have:w7.contains w=false:=by
   rw [<- Bool.not_eq_true,List.contains_iff_mem]
   intro hm
   simp only [w7,List.mem_cons,List.not_mem_nil,or_false] at hm
   rcases hm with h | h | h | h | h | h | h
   ·exact h1 h
   ·exact h2 h
   ·exact h3 h
   ·exact h4 h
   ·exact h5 h
   ·exact h6 h
   ·exact h7 h
  rw [this]; rfl
noncomputable def xi (w:Str) (ws:List Str):Option V:=match ev2 .index [] .parts (.str w) with
 | some (.int k)=>if (ws.length:Int)+1=k then (ws.mapM zj).map fun ns=>.tup (.str w :: iv ns) else none
 | _=>none
theorem zKQ {J:Sto} {w:Str} {ws:List Str} {k:Nat} (h2:ev2 .index J .parts (.str w)=some (.int (k:Int))) (h6:k=3 \/ k=4) (hn:ws.length=k - 1):xi w ws=(ws.mapM zj).map fun ns=>.tup (.str w :: iv ns):=by
 have h:ev2 .index [] .parts (.str w)=some (.int (k:Int)):=h2
 unfold xi
 rw [h]
 exact if_pos (by rw [hn]; rcases h6 with rfl | rfl <;> rfl)
theorem zKR {J:Sto} {w:Str} {ws:List Str} {k:Nat} (h2:ev2 .index J .parts (.str w)=some (.int (k:Int))) (h6:k=3 \/ k=4) (hn:ws.length ≠ k - 1):xi w ws=none:=by
 have h:ev2 .index [] .parts (.str w)=some (.int (k:Int)):=h2
 unfold xi
 rw [h]
 exact if_neg fun e=>hn (by rcases h6 with rfl | rfl <;> exact Nat.succ.inj (Int.ofNat_inj.mp e))
theorem zDh {J:Sto} {w:Str} {ws:List Str} (h1:ev2 .notIn J (.str w) .parts=some (.bool true)):xi w ws=none:=by
 have h:some (V.bool !(partsTable.any fun p=>p.1==w))=some (V.bool true):=h1
 have ha:(partsTable.any fun p=>p.1==w)=false:=by
  cases hb:(partsTable.any fun p=>p.1==w) with
  | false=>rfl
  | true=>rw [hb] at h; cases h
 have:ev2 .index [] .parts (.str w)=none:=by
  show (partsTable.find? fun p=>p.1==w).map _=_
  rw [List.find?_eq_none.mpr (List.any_eq_false.mp ha)]; rfl
 unfold xi
 rw [this]
noncomputable def Rn (n:Int):Prop:=0 <= n /\ n < 10 ^ 30
noncomputable def Ln.rd (l:Ln):Prop:=zh l.item=true /\ asc l /\ 0 <= l.p /\ 0 <= l.c /\ 0 <= l.k
noncomputable def Deed.rd:Deed->Prop
 | .ord ls=>1 <= ls.length /\ ls.length < LIM /\ ∀ l ∈ ls,l.rd
 | .pay _ n=>Rn n
 | .ref _ n=>Rn n
 | .mov _ _ n=>Rn n
 | .lin _ _ _ n=>Rn n
inductive zGy:V->Prop
 | mk (D:Deed) (h:D.rd):zGy D.v
theorem zOA:∀ (cs:List Nat) (acc:Nat),NumText.AllDigits cs->cs.foldl (fun acc c=>acc * 10+(c - 48)) acc < (acc+1) * 10 ^ cs.length
 | [],acc,_=>by rw [List.foldl_nil,List.length_nil,Nat.pow_zero,Nat.mul_one]; exact Nat.lt_succ_self acc
 | c :: cs,acc,h=>by
  rw [List.foldl_cons,List.length_cons,Nat.pow_succ']
  have hc:=h c List.mem_cons_self
  refine Nat.lt_of_lt_of_le (zOA cs _ fun d hd=>h d (List.mem_cons_of_mem _ hd)) ?_
  rw [<- Nat.mul_assoc]
  refine Nat.mul_le_mul_right _ ?_
  rw [Nat.succ_mul,Nat.add_assoc]
  exact Nat.add_le_add_left (Nat.succ_le_succ (Nat.sub_le_sub_right hc.2 48)) _
theorem jj {w:Str} {n:Int} (h:zj w=some n):Rn n:=by
 unfold zj at h
 split at h
 ·rename_i hn
  unfold xq at hn
  simp only [Bool.and_eq_true,decide_eq_true_eq,List.all_eq_true] at hn
  obtain ⟨⟨h1,h2⟩,h3,_⟩:=hn
  have hd:NumText.AllDigits w.cps.toList:=fun c hc=>zCo (h3 c hc)
  have hne:w.cps.toList ≠ []:=fun e=>by
   have:w.length=0:=by show w.cps.size=0; rw [<- Array.length_toList,e]; rfl
   omega
  rw [intText_digits hd hne (by omega)] at h
  cases h
  refine ⟨Int.natCast_nonneg _,?_⟩
  have hb:NumText.digitsVal w.cps.toList < (0+1) * 10 ^ w.cps.toList.length:=zOA _ 0 hd
  have hl:w.cps.toList.length <= 30:=by rw [Array.length_toList]; exact h2
  have h4:(10:Nat) ^ w.cps.toList.length <= 10 ^ 30:=Nat.pow_le_pow_right (by decide) hl
  have h5:NumText.digitsVal w.cps.toList < 10 ^ 30:=by omega
  exact_mod_cast h5
 ·cases h
theorem zKW {s:Str} (h:zh s=true):s.cps.all (· < 128)=true:=by
 have h1:(zR s).all zy=true:=(Bool.and_eq_true_iff.mp h).2
 rw [Array.all_eq_true']
 intro c hc
 have h2:=List.all_eq_true.mp h1 c (Array.mem_toList_iff.mpr hc)
 have h3:c ∈ zR yi:=List.contains_iff_mem.mp h2
 have h4:∀ c ∈ zR yi,c < 128:=by decide
 exact decide_eq_true (h4 c h3)
theorem zB9 {p:Str} {v:V} (h:yr p=some v):∃ l:Ln,v=l.raw /\ l.rd:=by
 unfold yr at h
 generalize Txt.split p sp=ws at h
 by_cases h4:ws.length=4
 ·obtain ⟨w0,w1,w2,w3,rfl⟩:=zPW h4
  replace h:(if zh w0=true then (zj w1).bind fun a=>(zj w2).bind fun b=>(zj w3).map fun c=>V.tup [.str w0,.int a,.int b,.int c] else none)=some v:=h
  by_cases hi:zh w0=true
  ·rw [if_pos hi] at h
   obtain ⟨a,ha,h⟩:=bind_some h
   obtain ⟨b,hb,h⟩:=bind_some h
   obtain ⟨c,hc,h⟩:=map_some h
   exact ⟨{ item:=w0,p:=a,c:=b,k:=c,s:=0,b:=0,a:=0,r:=0 },h.symm,hi,zKW hi,(jj ha).1,(jj hb).1,(jj hc).1⟩
  ·rw [if_neg hi] at h; cases h
 ·rw [jP h4] at h; cases h
theorem zFE:∀ {vs:List V},(∀ v ∈ vs,∃ l:Ln,v=l.raw /\ l.rd)->∃ ls:List Ln,vs=ls.map Ln.raw /\ ∀ l ∈ ls,l.rd
 | [],_=>⟨[],rfl,fun _ h=>nomatch h⟩
 | v :: vs,h=>by
  obtain ⟨l,rfl,hl⟩:=h v List.mem_cons_self
  obtain ⟨ls,rfl,hls⟩:=zFE (vs:=vs) fun w hw=>h w (List.mem_cons_of_mem _ hw)
  exact ⟨l :: ls,rfl,fun x hx=>(List.mem_cons.mp hx).elim (fun e=>e ▸ hl) (hls x)⟩
theorem kb {α β:Type} {f:α->Option β}:∀ {l:List α} {ys:List β},l.mapM f=some ys->∀ y ∈ ys,∃ x ∈ l,f x=some y
 | [],ys,h,y,hy=>by rw [List.mapM_nil] at h; cases h; exact nomatch hy
 | x :: l,ys,h,y,hy=>by
  rw [List.mapM_cons] at h
  cases hx:f x with
  | none=>rw [hx] at h; cases h
  | some z =>
   rw [hx] at h
   cases hl:l.mapM f with
   | none=>rw [hl] at h; cases h
   | some r =>
    rw [hl] at h; cases h
    rcases List.mem_cons.mp hy with rfl | hy
    ·exact ⟨x,List.mem_cons_self,hx⟩
    ·obtain ⟨w,hw,e⟩:=kb hl y hy
     exact ⟨w,List.mem_cons_of_mem _ hw,e⟩
theorem zQM {ws:List Str} {ns:List Int} (hl:ws.length=2) (h:ws.mapM zj=some ns):∃ a b,ns=[a,b] /\ Rn b:=by
 have hn:=(xG h).2
 rw [hl] at hn
 have he:=kb h
 rcases ns with _ | ⟨a,_ | ⟨b,_ | ⟨c,r⟩⟩⟩ <;> first | (cases hn; done) | skip
 obtain ⟨x,_,hx⟩:=he b (List.mem_cons_of_mem _ List.mem_cons_self)
 exact ⟨a,b,rfl,jj hx⟩
theorem zQN {ws:List Str} {ns:List Int} (hl:ws.length=3) (h:ws.mapM zj=some ns):∃ a b c,ns=[a,b,c] /\ Rn c:=by
 have hn:=(xG h).2
 rw [hl] at hn
 have he:=kb h
 rcases ns with _ | ⟨a,_ | ⟨b,_ | ⟨c,_ | ⟨e,r⟩⟩⟩⟩ <;> first | (cases hn; done) | skip
 obtain ⟨x,_,hx⟩:=he c (List.mem_cons_of_mem _ (List.mem_cons_of_mem _ List.mem_cons_self))
 exact ⟨a,b,c,rfl,jj hx⟩
theorem kW {w:Str} {ws:List Str} {v:V} (hi:ev2 .index [] .parts (.str w)=some (.int 4)) (h:xi w ws=some v):∃ a b c,v=.tup [.str w,.int a,.int b,.int c] /\ Rn c:=by
 unfold xi at h
 rw [hi] at h
 replace h:(if (ws.length:Int)+1=4 then (ws.mapM zj).map fun ns=>V.tup (.str w :: iv ns) else none)=some v:=h
 by_cases hl:(ws.length:Int)+1=4
 ·rw [if_pos hl] at h
  obtain ⟨ns,hm,rfl⟩:=map_some h
  obtain ⟨a,b,c,rfl,hc⟩:=zQN (by omega) hm
  exact ⟨a,b,c,rfl,hc⟩
 ·rw [if_neg hl] at h; cases h
theorem zFo {w:Str} {ws:List Str} {v:V} (hi:ev2 .index [] .parts (.str w)=some (.int 3)) (h:xi w ws=some v):∃ a b,v=.tup [.str w,.int a,.int b] /\ Rn b:=by
 unfold xi at h
 rw [hi] at h
 replace h:(if (ws.length:Int)+1=3 then (ws.mapM zj).map fun ns=>V.tup (.str w :: iv ns) else none)=some v:=h
 by_cases hl:(ws.length:Int)+1=3
 ·rw [if_pos hl] at h
  obtain ⟨ns,hm,rfl⟩:=map_some h
  obtain ⟨a,b,rfl,hc⟩:=zQM (by omega) hm
  exact ⟨a,b,rfl,hc⟩
 ·rw [if_neg hl] at h; cases h
theorem zFp {w:Str} {ws:List Str} {v:V} (hw:w ≠ yM) (h:xi w ws=some v):zGy v:=by
 by_cases h1:w=wM
 ·subst h1; obtain ⟨a,b,c,rfl,r⟩:=kW rfl h; exact .mk (.lin .del a b c) r
 by_cases h2:w=wq
 ·subst h2; obtain ⟨a,b,c,rfl,r⟩:=kW rfl h; exact .mk (.lin .back a b c) r
 by_cases h3:w=wu
 ·subst h3; obtain ⟨a,b,c,rfl,r⟩:=kW rfl h; exact .mk (.lin .swap a b c) r
 by_cases h4:w=wr
 ·subst h4; obtain ⟨a,b,c,rfl,r⟩:=kW rfl h; exact .mk (.lin .cred a b c) r
 by_cases h5:w=zx
 ·subst h5; obtain ⟨a,b,c,rfl,r⟩:=kW rfl h; exact .mk (.mov a b c) r
 by_cases h6:w=xK
 ·subst h6; obtain ⟨a,b,rfl,r⟩:=zFo rfl h; exact .mk (.pay a b) r
 by_cases h7:w=xz
 ·subst h7; obtain ⟨a,b,rfl,r⟩:=zFo rfl h; exact .mk (.ref a b) r
 rw [zDh (J:=[]) (zFO hw h1 h2 h3 h4 h5 h6 h7)] at h
 cases h
theorem zCA:∀ {ws:List Str},ws.mapM (fun w=>(zj w).map V.int)=(ws.mapM zj).map iv
 | []=>rfl
 | w :: ws=>by
  rw [List.mapM_cons,List.mapM_cons,zCA (ws:=ws)]
  cases zj w with
  | none=>rfl
  | some n=>cases ws.mapM zj <;> rfl
section
variable {d:Nat} {q:Bool} {J:Sto}
inductive zOl (t:Str):Prop
 | mk (o:Option V) (h1:∀ (d:Nat) (J:Sto),zA T14 (d+3) false 31 [.str t] J=wV J id o) (h2:∀ (d:Nat) (J:Sto),zA T14 (d+3) false 117 [.str t] J=.ok (o.getD .none) J) (h3:∀ v,o=some v->zGy v)
theorem zBi {t a b c:Str} {F:Calls} {H:List V} (hl:t.length <= 10000) (h:Txt.partition t (mkS [32])=(a,b,c)) (hv:evE F false (.var 0) H J=.ok (.str t) J):evE F false (.sm .partition (.var 0) (.lit (.str (mkS [32])))) H J=.ok (.tup [.str a,.str b,.str c]) J:=by
 refine zIV hv rfl rfl ?_
 show (if ((mkS [32]).length==0||decide (10000 < t.length))=true then none else some (V.tup [.str (Txt.partition t (mkS [32])).1,.str (Txt.partition t (mkS [32])).2.1,.str (Txt.partition t (mkS [32])).2.2]))=_
 rw [if_neg (by rw [decide_eq_false (Nat.not_lt.mpr hl)]; decide),h]
theorem zHt {F Fq:Calls} {H:List V} {i j k:Nat} {e:CE} {x y z:V} {rest:List CS} {r:R Fl} (h:evE F false e H J=.ok (.tup [x,y,z]) J) (kk:exL F Fq false rest (((H.set i x).set j y).set k z) J=r):exL F Fq false (.unpack3 i j k e :: rest) H J=r:=by
 rw [yI,zDk,if_neg (by decide),h]; exact kk
theorem zIK {l:List Nat} (hl:l.length <= 9000) (h:32 ∉ l):zOl (mkS l):=by
 have hlen:(mkS l).length <= 10000:=by rw [zY]; omega
 have hs:Txt.startswith (mkS l) (mkS [111,114,100,101,114,32])=false:=by
  rw [zDc,Bool.and_eq_false_iff]
  refine .inr (beq_eq_false_iff_ne.mpr fun e=>h ?_)
  have:32 ∈ l.take 6:=by rw [show [111,114,100,101,114,32].length=6 from rfl] at e; rw [e]; decide
  exact List.mem_of_mem_take this
 have hsp:Txt.split (mkS l) (mkS [32])=[mkS l]:=by rw [kw (by decide),zBC 32 l h]; rfl
 refine ⟨none,fun d J=>?_,fun d J=>?_,fun v hv=>nomatch hv⟩
 ·refine zS (fn:=f14_31) rfl rfl (zHt (zBi hlen (zKE h) rfl) ?_)
  show exL (zA T14 (d+2) false) (zA T14 (d+2) true) false (f14_31.body.drop 1) [.str (mkS l),.str (mkS l),.str Str.empty,.str Str.empty,.undef] J=_
  have eb:evE (zA T14 (d+2) false) false (.p2 .eq (.var 2) (.lit (.str { cps:=#[] }))) [.str (mkS l),.str (mkS l),.str Str.empty,.str Str.empty,.undef] J=.ok (.bool true) J:=rfl
  have ei:evE (zA T14 (d+2) false) false (.p2 .notIn (.var 1) (.lit .parts)) [.str (mkS l),.str (mkS l),.str Str.empty,.str Str.empty,.undef] J=.ok (.bool !(partsTable.any fun p=>p.1==mkS l)) J:=rfl
  cases hp:(partsTable.any fun p=>p.1==mkS l) with
  | false=>rw [hp] at ei; exact s_t (zC (xX ei rfl)) rfl
  | true=>rw [hp] at ei; exact s_t (zC (zW ei rfl eb)) rfl
 ·have es:evE (zA T14 (d+2) false) false (.sm .split (.var 0) (.lit (.str (mkS [32])))) [.str (mkS l),.undef,.undef,.undef,.undef,.undef] J=.ok (.lst [.str (mkS l)]) J:=by rw [vA hlen rfl,hsp]; rfl
  have hst:evE (zA T14 (d+2) false) false (.sm .startswith (.var 0) (.lit (.str (mkS [111,114,100,101,114,32])))) [.str (mkS l),.undef,.undef,.undef,.undef,.undef] J=.ok (.bool false) J:=zIV rfl rfl rfl (by show some (V.bool (Txt.startswith (mkS l) (mkS [111,114,100,101,114,32])))=_; rw [hs])
  refine zG (fn:=f14_117) rfl rfl (s_f (zC hst) (zL es ?_))
  show exL (zA T14 (d+2) false) (zA T14 (d+2) true) false (f14_117.body.drop 2) [.str (mkS l),.undef,.undef,.lst [.str (mkS l)],.undef,.undef] J=_
  have ip:∃ b,ev2 .isIn J (.str (mkS l)) prV=some (.bool b):=⟨_,rfl⟩
  obtain ⟨b,ip⟩:=ip
  have i7:∃ b,ev2 .notIn J (.str (mkS l)) w7V=some (.bool b):=⟨_,rfl⟩
  obtain ⟨b7,i7⟩:=i7
  refine zL (v:=.int (4 - (if b=true then 1 else 0))) (zE rfl (zV (zE (y:=prV) rfl rfl ip) rfl) rfl) ?_
  have e7:evE (zA T14 (d+2) false) false (.p2 .notIn (.p2 .index (.var 3) (.lit (.int 0))) (.list [.lit (.str wM),.lit (.str wq),.lit (.str wu),.lit (.str wr),.lit (.str zx),.lit (.str xK),.lit (.str xz)])) [.str (mkS l),.undef,.undef,.lst [.str (mkS l)],.int (4 - (if b=true then 1 else 0)),.undef] J=.ok (.bool b7) J:=zE rfl (y:=w7V) rfl i7
  cases b7 with
  | true=>exact s_t (zC (xX e7 rfl)) (zH rfl)
  | false=>exact s_t (zC (zW e7 rfl (zE (z:=.bool true) rfl rfl (by cases b <;> rfl)))) (zH rfl)
theorem zCL {p r:List Nat} (hp:32 ∉ p):Txt.startswith (mkS (p++32 :: r)) (mkS [111,114,100,101,114,32])=(mkS p==yM):=by
 rw [zDc]
 by_cases h:p=[111,114,100,101,114]
 ·subst h
  have e1:(mkS [111,114,100,101,114]==yM)=true:=rfl
  rw [e1,Bool.and_eq_true]
  exact ⟨decide_eq_true (by simp),by simp⟩
 ·have e1:(mkS p==yM)=false:=beq_eq_false_iff_ne.mpr fun e=>h (by rw [<- zCi p,e]; rfl)
  rw [e1,Bool.and_eq_false_iff]
  refine .inr (beq_eq_false_iff_ne.mpr fun e=>?_)
  replace e:(p++32 :: r).take 6=[111,114,100,101,114]++[32]:=e
  have h2:p++32 :: r=[111,114,100,101,114]++32 :: (p++32 :: r).drop 6:=by
   have:=(List.take_append_drop 6 (p++32 :: r)).symm
   rw [e,List.append_assoc] at this
   exact this
  have c1:=wy 32 p r hp
  rw [h2,wy 32 [111,114,100,101,114] _ (by decide)] at c1
  injection c1 with c1 _
  exact h c1.symm
end
end Mine
end

section
namespace Mine
open PySem
section
variable {d:Nat} {q:Bool} {J:Sto}
theorem zKM {x y:Str}:1 <= (Txt.split x y).length:=by
 unfold Txt.split
 split
 ·exact Nat.le_refl _
 ·split
  ·exact Nat.le_refl _
  ·rw [PySem.length_partsBetween]; exact Nat.le_add_left 1 _
inductive zQW (t:Str) (o:Option V):Prop
 | mk (h1:∀ (d:Nat) (J:Sto),zA T14 (d+3) false 31 [.str t] J=wV J id o) (h2:∀ (d:Nat) (J:Sto),zA T14 (d+3) false 117 [.str t] J=.ok (o.getD .none) J) (h3:∀ v,o=some v->zGy v)
theorem zBA {r:List Nat} (hl:r.length <= 8900) (hr:A7 (mkS r)):zQW (mkS ([111,114,100,101,114]++32 :: r)) (((Txt.split (mkS r) zCj).mapM yr).map fun vs=>.tup [.str yM,.lst vs]):=by
 have hlen:(mkS ([111,114,100,101,114]++32 :: r)).length <= 10000:=by rw [zY,List.length_append,List.length_cons]; show 5+(r.length+1) <= _; omega
 have hrl:(mkS r).length <= 10000:=by rw [zY]; omega
 have hpart:Txt.partition (mkS ([111,114,100,101,114]++32 :: r)) (mkS [32])=(yM,mkS [32],mkS r):=zCH (by decide)
 have hps:∀ p ∈ Txt.split (mkS r) zCj,A7 p /\ p.length <= 10000:=fun p hp=>⟨hr.part hp,Nat.le_trans (PyProof.Rows.part_short hp) hrl⟩
 have hcnt:(Txt.split (mkS r) zCj).length < LIM:=by
  refine Nat.lt_of_le_of_lt zDb ?_
  rw [zY]
  exact Nat.lt_of_le_of_lt (Nat.add_le_add_right hl 2) (by decide)
 have hst:Txt.startswith (mkS ([111,114,100,101,114]++32 :: r)) (mkS [111,114,100,101,114,32])=true:=by rw [zCL (by decide)]; rfl
 have hsl:Txt.slice (mkS ([111,114,100,101,114]++32 :: r)) (some ((6:Nat):Int)) none=mkS r:=by
  rw [zCe (by decide) (by rw [List.length_append,List.length_cons]; show 6 <= 5+(r.length+1); omega)]; rfl
 have hA:A7 (mkS ([111,114,100,101,114]++32 :: r)):=fun c hc=>by
  replace hc:c ∈ [111,114,100,101,114]++32 :: r:=hc
  rcases List.mem_append.mp hc with h | h
  ·have:∀ c ∈ [111,114,100,101,114],c < 128:=by decide
   exact this c h
  ·rcases List.mem_cons.mp h with rfl | h
   ·decide
   ·exact hr c h
 generalize mkS ([111,114,100,101,114]++32 :: r)=t at hlen hpart hst hsl hA
 have hone:1 <= (Txt.split (mkS r) zCj).length:=zKM
 generalize hws:Txt.split (mkS r) zCj=ps at hps hcnt hone
 refine .mk (fun d J=>?_) (fun d J=>?_) fun v hv=>?_
 ·have es:evE (zA T14 (d+2) false) false (.sm .split (.var 3) (.lit (.str (mkS [44,32])))) [.str t,.str yM,.str (mkS [32]),.str (mkS r),.undef] J=.ok (.lst (ps.map V.str)) J:=by rw [<- hws]; exact vA hrl rfl
  have ec:=zEe (F:=zA T14 (d+2) false) (J:=J) (elt:=.call 30 [.var 5]) (H:=[.str t,.str yM,.str (mkS [32]),.str (mkS r),.undef]) (k:=.val) (l:=ps) (φ:=V.str) (vs:=[.lst (ps.map V.str)]) (src:=[.sm .split (.var 3) (.lit (.str (mkS [44,32])))]) yr (zD es rfl) rfl (.inl rfl) hcnt (fun p hp=>zI rfl (zP0 (hps p hp).1 (hps p hp).2))
  have pre:∀ {r':R Fl},exL (zA T14 (d+2) false) (zA T14 (d+2) true) false (.ret (.tup [.var 1,.comp (.call 30 [.var 5]) .val [.sm .split (.var 3) (.lit (.str (mkS [44,32])))] none]) :: f14_31.body.drop 3) [.str t,.str yM,.str (mkS [32]),.str (mkS r),.undef] J=r'->exL (zA T14 (d+2) false) (zA T14 (d+2) true) false f14_31.body ([.str t]++List.replicate (f14_31.slots - f14_31.params) .undef) J=r':=fun kk =>
   zHt (zBi hlen hpart rfl) (s_f (zC (zW (x:=.bool false) rfl rfl rfl)) (s_t (zC rfl) kk))
  cases hm:ps.mapM yr with
  | none=>rw [hm] at ec; exact zS (fn:=f14_31) rfl rfl (pre (zA3 (zDu (wz rfl (jZ ec)))))
  | some vs=>rw [hm] at ec; exact zG (fn:=f14_31) rfl rfl (pre (zH (yk (zD rfl (zD ec rfl)))))
 ·have e0:evE (zA T14 (d+2) false) false (.sm .startswith (.var 0) (.lit (.str (mkS [111,114,100,101,114,32])))) [.str t,.undef,.undef,.undef,.undef,.undef] J=.ok (.bool true) J:=zIV rfl rfl rfl (by show some (V.bool (Txt.startswith t (mkS [111,114,100,101,114,32])))=_; rw [hst])
  have e6:evE (zA T14 (d+2) false) false (.slice (.var 0) (some (.lit (.int 6))) none) [.str t,.undef,.undef,.undef,.undef,.undef] J=.ok (.str (mkS r)) J:=by
   rw [<- hsl]; exact zOB hA rfl rfl rfl
  have es:evE (zA T14 (d+2) false) false (.sm .split (.slice (.var 0) (some (.lit (.int 6))) none) (.lit (.str (mkS [44,32])))) [.str t,.undef,.undef,.undef,.undef,.undef] J=.ok (.lst (ps.map V.str)) J:=by rw [<- hws]; exact vA hrl e6
  have ec:=yw (F:=zA T14 (d+2) false) (elt:=.call 116 [.var 6]) (k:=.val) (src:=[.sm .split (.slice (.var 0) (some (.lit (.int 6))) none) (.lit (.str (mkS [44,32])))]) (cond:=none) (H:=[.str t,.undef,.undef,.undef,.undef,.undef]) (J:=J) (l:=ps) (φ:=V.str) (fun _=>true) (fun p=>(yr p).getD .none) (zD es rfl) rfl (.inl rfl) hcnt (fun _ _=>rfl) (fun p hm _=>zI rfl (zL5 (hps p hm).1 (hps p hm).2))
  rw [yZ] at ec
  obtain ⟨h1,h2⟩:=ka (F:=zA T14 (d+2) false) (Fq:=zA T14 (d+2) true) (i:=2) (k:=.val) (src:=[.var 1]) (body:=[.ite (.p1 .isNone (.var 2)) [.ret (.lit .none)] []]) (H:=[.str t,.lst (ps.map fun p=>(yr p).getD .none),.undef,.undef,.undef,.undef]) (vs:=[.lst (ps.map fun p=>(yr p).getD .none)]) (J:=J) (it:=.now (ps.map fun p=>(yr p).getD .none)) (l:=ps) (φ:=fun p=>(yr p).getD .none) (fun p=>match yr p with | none=>some .NoDeed | some _=>none) (fun _=>.inr .none) (fun H=>∃ x,H=[.str t,.lst (ps.map fun p=>(yr p).getD .none),x,.undef,.undef,.undef]) rfl rfl (.inl rfl) ⟨_,rfl⟩
   fun p hp H hI=>by
    obtain ⟨y,rfl⟩:=hI
    cases hx:yr p with
    | none=>exact ⟨fun c _=>s_t (zC rfl) (zH rfl),fun q=>nomatch q⟩
    | some v =>
     obtain ⟨l,rfl,_⟩:=zB9 hx
     exact ⟨fun c q=>(nomatch q),fun _=>⟨_,s_f (zC rfl) rfl,_,rfl⟩⟩
  have pre:∀ {r':R Fl},exL (zA T14 (d+2) false) (zA T14 (d+2) true) false (.for 2 .val [.var 1] [.ite (.p1 .isNone (.var 2)) [.ret (.lit .none)] []] :: .ret (.tup [.lit (.str yM),.var 1]) :: f14_117.body.drop 1) [.str t,.lst (ps.map fun p=>(yr p).getD .none),.undef,.undef,.undef,.undef] J=r'->exL (zA T14 (d+2) false) (zA T14 (d+2) true) false f14_117.body ([.str t]++List.replicate (f14_117.slots - f14_117.params) .undef) J=r':=fun kk=>s_t (zC e0) (zL ec kk)
  cases hm:ps.mapM yr with
  | none =>
   obtain ⟨p,hp,hn⟩:=zAd hm
   have:∃ c,ps.findSome? (fun p=>match yr p with | none=>some Cls.NoDeed | some _=>none)=some c:=by
    cases hf:ps.findSome? (fun p=>match yr p with | none=>some Cls.NoDeed | some _=>none) with
    | some c=>exact ⟨c,rfl⟩
    | none=>have:=List.findSome?_eq_none_iff.mp hf p hp; rw [hn] at this; cases this
   obtain ⟨c,hc⟩:=this
   refine zG (fn:=f14_117) rfl rfl (pre ?_)
   rw [yI,h1 c hc]; rfl
  | some vs =>
   have hf:ps.findSome? (fun p=>match yr p with | none=>some Cls.NoDeed | some _=>none)=none:=List.findSome?_eq_none_iff.mpr fun p hp=>by
    obtain ⟨y,hy⟩:=(xG hm).1 p hp
    rw [hy]
   obtain ⟨H',e,x,rfl⟩:=h2 hf
   refine zG (fn:=f14_117) rfl rfl (pre (zBN e (zH ?_)))
   rw [zAc hm]; rfl
 ·obtain ⟨vs,hm,rfl⟩:=map_some hv
  have hn:=(xG hm).2
  obtain ⟨ls,rfl,hls⟩:=zFE (vs:=vs) fun v hv=>by
   obtain ⟨p,_,e⟩:=kb hm v hv
   exact zB9 e
  rw [List.length_map] at hn
  exact .mk (.ord ls) ⟨by rw [hn]; exact hone,by rw [hn]; exact hcnt,hls⟩
theorem zF1 {r:List Nat} (hl:r.length <= 8900) (hr:A7 (mkS r)):zOl (mkS ([111,114,100,101,114]++32 :: r)):=by
 cases zBA hl hr with
 | mk h1 h2 h3=>exact ⟨_,h1,h2,h3⟩
theorem zPg {k:Nat} (h:k=3 \/ k=4):(k:Int) - 1=((k - 1:Nat):Int):=by rcases h with rfl | rfl <;> rfl
theorem zOR {k:Nat} (h:k=3 \/ k=4):1+(k - 1) <= LIM:=by rcases h with rfl | rfl <;> decide
theorem zPh {n k:Nat} (h:k=3 \/ k=4):(n+1==k)=(n==k - 1):=by
 by_cases e:n+1=k
 ·rw [beq_iff_eq.mpr e,beq_iff_eq.mpr (Nat.eq_sub_of_add_eq e)]
 ·rw [beq_eq_false_iff_ne.mpr e,beq_eq_false_iff_ne.mpr fun q=>e (by rw [q]; rcases h with rfl | rfl <;> rfl)]
theorem zFq {p r:List Nat} (hp:32 ∉ p) (hl:(p++32 :: r).length <= 9000) (hr:A7 (mkS r)) (hw:mkS p ≠ yM):zA T14 (d+3) false 31 [.str (mkS (p++32 :: r))] J=wV J id (xi (mkS p) (Txt.split (mkS r) (mkS [32]))) /\ zA T14 (d+3) false 117 [.str (mkS (p++32 :: r))] J=.ok ((xi (mkS p) (Txt.split (mkS r) (mkS [32]))).getD .none) J:=by
 have hlen:(mkS (p++32 :: r)).length <= 10000:=by rw [zY]; omega
 have hrl:(mkS r).length <= 9000:=by rw [zY]; rw [List.length_append,List.length_cons] at hl; omega
 have hpart:Txt.partition (mkS (p++32 :: r)) (mkS [32])=(mkS p,mkS [32],mkS r):=zCH hp
 have hst:Txt.startswith (mkS (p++32 :: r)) (mkS [111,114,100,101,114,32])=false:=by rw [zCL hp]; exact beq_eq_false_iff_ne.mpr hw
 have hsp:Txt.split (mkS (p++32 :: r)) (mkS [32])=mkS p :: Txt.split (mkS r) (mkS [32]):=by
  rw [kw (by decide),kw (by decide),wy 32 p r hp]; rfl
 have hps:∀ w ∈ Txt.split (mkS r) (mkS [32]),A7 w:=fun w h=>hr.part h
 have hcnt:(Txt.split (mkS r) (mkS [32])).length < LIM:=Nat.lt_of_le_of_lt zDb (Nat.lt_of_le_of_lt (Nat.add_le_add_right hrl 2) (by decide))
 have hne:∃ w ws',Txt.split (mkS r) (mkS [32])=w :: ws':=by
  obtain ⟨q,qs,e⟩:=we 32 r
  exact ⟨mkS q,qs.map mkS,by rw [kw (by decide),e]; rfl⟩
 generalize mkS (p++32 :: r)=t at hlen hpart hst hsp
 generalize mkS p=w at hpart hsp hw
 have es3:evE (zA T14 (d+2) false) false (.sm .split (.var 3) (.lit (.str (mkS [32])))) [.str t,.str w,.str (mkS [32]),.str (mkS r),.undef] J=.ok (.lst ((Txt.split (mkS r) (mkS [32])).map V.str)) J:=vA (Nat.le_trans hrl (by decide)) rfl
 have est:evE (zA T14 (d+2) false) false (.sm .split (.var 0) (.lit (.str (mkS [32])))) [.str t,.undef,.undef,.undef,.undef,.undef] J=.ok (.lst (.str w :: (Txt.split (mkS r) (mkS [32])).map V.str)) J:=by rw [vA hlen rfl,hsp]; rfl
 generalize Txt.split (mkS r) (mkS [32])=ws at es3 est hps hcnt hne
 obtain ⟨w1,ws1,rfl⟩:=hne
 have e0:evE (zA T14 (d+2) false) false (.sm .startswith (.var 0) (.lit (.str (mkS [111,114,100,101,114,32])))) [.str t,.undef,.undef,.undef,.undef,.undef] J=.ok (.bool false) J:=zIV rfl rfl rfl (by show some (V.bool (Txt.startswith t (mkS [111,114,100,101,114,32])))=_; rw [hst])
 have prD:∀ {b:Bool} {z:Int} (ip:ev2 .isIn J (.str w) prV=some (.bool b)) (hz:(4:Int) - (if b=true then 1 else 0)=z) {r':R Fl},exL (zA T14 (d+2) false) (zA T14 (d+2) true) false (f14_117.body.drop 3) [.str t,.undef,.undef,.lst (.str w :: (w1 :: ws1).map V.str),.int z,.undef] J=r'->exL (zA T14 (d+2) false) (zA T14 (d+2) true) false f14_117.body ([.str t]++List.replicate (f14_117.slots - f14_117.params) .undef) J=r':=fun {b z} ip hz {r'} kk =>
  s_f (zC e0) (zL est (zL (by rw [<- hz]; exact zE rfl (zV (zE (y:=prV) rfl rfl ip) rfl) rfl) kk))
 have e7:∀ {b7:Bool} {z:V},ev2 .notIn J (.str w) w7V=some (.bool b7)->evE (zA T14 (d+2) false) false (.p2 .notIn (.p2 .index (.var 3) (.lit (.int 0))) (.list [.lit (.str wM),.lit (.str wq),.lit (.str wu),.lit (.str wr),.lit (.str zx),.lit (.str xK),.lit (.str xz)])) [.str t,.undef,.undef,.lst (.str w :: (w1 :: ws1).map V.str),z,.undef] J=.ok (.bool b7) J:=fun h=>zE rfl (y:=w7V) rfl h
 rcases zMB (J:=J) w with h | ⟨k,h1,h2,⟨b',h3,hk⟩,h4,h5,h6⟩ | ⟨h1,h4⟩
 ·exact absurd h hw
 ·have prR:∀ {r':R Fl},exL (zA T14 (d+2) false) (zA T14 (d+2) true) false (f14_31.body.drop 4) [.str t,.str w,.str (mkS [32]),.str (mkS r),.lst ((w1 :: ws1).map V.str)] J=r'->exL (zA T14 (d+2) false) (zA T14 (d+2) true) false f14_31.body ([.str t]++List.replicate (f14_31.slots - f14_31.params) .undef) J=r':=fun kk =>
   zHt (zBi hlen hpart rfl) (s_f (zC (zW (x:=.bool false) (zE rfl rfl h1) rfl rfl)) (s_f (zC (zE rfl rfl (by rw [zGB]; exact congrArg (fun b=>some (V.bool b)) h5))) (zL es3 kk)))
  have elR:evE (zA T14 (d+2) false) false (.p2 .ne (.p1 .len (.var 4)) (.p2 .sub (.p2 .index (.lit .parts) (.var 1)) (.lit (.int 1)))) [.str t,.str w,.str (mkS [32]),.str (mkS r),.lst ((w1 :: ws1).map V.str)] J=.ok (.bool !((w1 :: ws1).length==k - 1)) J:=by
   have hk1:=zPg h6
   refine zE (zV rfl (by rw [zi,List.length_map])) (zE (zE rfl rfl h2) rfl (by rw [zBZ,hk1])) zD6
  have elD:evE (zA T14 (d+2) false) false (.p2 .ne (.p1 .len (.var 3)) (.var 4)) [.str t,.undef,.undef,.lst (.str w :: (w1 :: ws1).map V.str),.int k,.undef] J=.ok (.bool !((w1 :: ws1).length==k - 1)) J:=by
   have:((w1 :: ws1).length+1==k)=((w1 :: ws1).length==k - 1):=zPh h6
   rw [<- this]
   exact zE (zV rfl (by rw [zi,List.length_cons,List.length_map])) rfl zD6
  by_cases hn:(w1 :: ws1).length=k - 1
  ·rw [beq_iff_eq.mpr hn] at elR elD
   rw [zKQ h2 h6 hn]
   refine ⟨?_,?_⟩
   ·have ec:=zEe (F:=zA T14 (d+2) false) (J:=J) (elt:=.call 29 [.var 5]) (H:=[.str t,.str w,.str (mkS [32]),.str (mkS r),.lst ((w1 :: ws1).map V.str)]) (k:=.val) (l:=w1 :: ws1) (φ:=V.str) (vs:=[.lst ((w1 :: ws1).map V.str)]) (src:=[.var 4]) (fun w=>(zj w).map V.int) (zD rfl rfl) rfl (.inl rfl) hcnt (fun x hx=>by rw [zI rfl (zHn (hps x hx))]; cases zj x <;> rfl)
    rw [zCA] at ec
    cases hm:(w1 :: ws1).mapM zj with
    | none =>
     rw [hm] at ec
     refine zS (fn:=f14_31) rfl rfl (prR (s_f (zC elR) (zA3 ?_)))
     rw [zKS,if_neg (by decide),zMc,if_neg (by decide),jI (zD rfl rfl),R.bind_ok,ec]; rfl
    | some ns =>
     rw [hm] at ec
     refine zG (fn:=f14_31) rfl rfl (prR (s_f (zC elR) (zH (zV (zE (jI (zD rfl rfl)) ec (z:=.lst (.str w :: iv ns)) ?_) rfl))))
     show (if [V.str w].length+(iv ns).length <= LIM then some (V.lst ([V.str w]++iv ns)) else none)=_
     rw [if_pos]; rfl
     rw [vT,(xG hm).2,hn]
     exact zOR h6
   ·have ec:=yw (F:=zA T14 (d+2) false) (elt:=.call 115 [.var 6]) (k:=.val) (src:=[.slice (.var 3) (some (.lit (.int 1))) none]) (cond:=none) (H:=[.str t,.undef,.undef,.lst (.str w :: (w1 :: ws1).map V.str),.int k,.undef]) (J:=J) (vs:=[.lst ((w1 :: ws1).map V.str)]) (J1:=J) (l:=w1 :: ws1) (φ:=V.str) (fun _=>true) (fun w=>.int (wL w))
     (zD (jb rfl rfl rfl (by
      show some (V.lst (yC (.str w :: (w1 :: ws1).map V.str) (some 1) none))=_
      unfold yC yO zZ
      rw [List.take_length]
      show some (V.lst ((V.str w :: (w1 :: ws1).map V.str).drop (min 1 (V.str w :: (w1 :: ws1).map V.str).length)))=_
      rw [Nat.min_eq_left (by rw [List.length_cons]; exact Nat.succ_le_succ (Nat.zero_le _))]; rfl)) rfl) rfl (.inl rfl) hcnt (fun _ _=>rfl) (fun x hm _=>zI rfl (zHo (hps x hm)))
    rw [yZ] at ec
    obtain ⟨m,m1,m2⟩:=zLC (J:=J) (w:=w1) (ws:=ws1)
    have em:evE (zA T14 (d+2) false) false (.p2 .lt (.p1 .min (.var 5)) (.lit (.int 0))) [.str t,.undef,.undef,.lst (.str w :: (w1 :: ws1).map V.str),.int k,.lst ((w1 :: ws1).map fun w=>.int (wL w))] J=.ok (.bool (decide (m < 0))) J:=zE (zV rfl m1) rfl rfl
    have pre2:∀ {r':R Fl},exL (zA T14 (d+2) false) (zA T14 (d+2) true) false (f14_117.body.drop 5) [.str t,.undef,.undef,.lst (.str w :: (w1 :: ws1).map V.str),.int k,.lst ((w1 :: ws1).map fun w=>.int (wL w))] J=r'->exL (zA T14 (d+2) false) (zA T14 (d+2) true) false f14_117.body ([.str t]++List.replicate (f14_117.slots - f14_117.params) .undef) J=r':=fun kk=>prD h3 hk (s_f (zC (zW (e7 h4) rfl elD)) (zL ec kk))
    cases hm:(w1 :: ws1).mapM zj with
    | none =>
     rw [decide_eq_true (m2.mpr hm)] at em
     exact zG (fn:=f14_117) rfl rfl (pre2 (s_t (zC em) (zH rfl)))
    | some ns =>
     rw [decide_eq_false fun q=>by rw [m2.mp q] at hm; cases hm] at em
     have hmap:(w1 :: ws1).map (fun w=>V.int (wL w))=iv ns:=by
      have h1:=zCA (ws:=w1 :: ws1)
      rw [hm] at h1
      have:=zAc (u:=.int (-1)) h1
      rw [<- this]
      refine List.map_congr_left fun x _=>?_
      unfold wL
      cases zj x <;> rfl
     refine zG (fn:=f14_117) rfl rfl (pre2 (s_f (zC em) (zH (zV (zE (x:=.lst [.str w]) (y:=.lst (iv ns)) (jI (zD (zE rfl rfl rfl) rfl)) (by rw [<- hmap]; rfl) (z:=.lst (.str w :: iv ns)) ?_) rfl))))
     show (if [V.str w].length+(iv ns).length <= LIM then some (V.lst ([V.str w]++iv ns)) else none)=_
     rw [if_pos]; rfl
     rw [vT,(xG hm).2,hn]
     exact zOR h6
  ·rw [beq_eq_false_iff_ne.mpr hn] at elR elD
   rw [zKR h2 h6 hn]
   refine ⟨zS (fn:=f14_31) rfl rfl (prR (s_t (zC elR) rfl)),?_⟩
   exact zG (fn:=f14_117) rfl rfl (prD h3 hk (s_t (zC (zW (e7 h4) rfl elD)) (zH rfl)))
 ·rw [zDh h1]
  obtain ⟨b,ip⟩:∃ b,ev2 .isIn J (.str w) prV=some (.bool b):=⟨_,rfl⟩
  refine ⟨?_,?_⟩
  ·exact zS (fn:=f14_31) rfl rfl (zHt (zBi hlen hpart rfl) (s_t (zC (xX (zE rfl rfl h1) rfl)) rfl))
  ·exact zG (fn:=f14_117) rfl rfl (prD ip rfl (s_t (zC (xX (e7 h4) rfl)) (zH rfl)))
theorem zRw {t:Str} (ht:A7 t) (hl:t.length <= 8900):zOl t:=by
 rw [<- zAe t]
 have hl':(zR t).length <= 8900:=hl
 have ht':∀ c ∈ zR t,c < 128:=ht
 rcases zCp 32 (zR t) with h | ⟨p,r,e,h⟩
 ·exact zIK (Nat.le_trans hl' (by decide)) h
 ·rw [e] at hl' ht' ⊢
  have hr:A7 (mkS r):=fun c hc=>ht' c (List.mem_append_right _ (List.mem_cons_of_mem _ hc))
  by_cases hp:p=[111,114,100,101,114]
  ·subst hp
   exact zF1 (by rw [List.length_append] at hl'; exact Nat.le_trans (Nat.le_trans (Nat.le_succ _) (Nat.le_add_left _ _)) hl') hr
  ·have hw:mkS p ≠ yM:=fun q=>hp (by rw [<- zCi p,q]; rfl)
   exact ⟨_,fun d J=>(zFq h (Nat.le_trans hl' (by decide)) hr hw).1,fun d J=>(zFq h (Nat.le_trans hl' (by decide)) hr hw).2,fun v hv=>zFp hw hv⟩
end
end Mine
end

section
namespace Mine
open PySem
noncomputable def Sm (k:Nat) (s:Str):Prop:=A7 s /\ s.length <= k
theorem Sm.add {j k:Nat} {x y:Str} (hx:Sm j x) (hy:Sm k y):Sm (j+k) (x++y):=⟨hx.1.add hy.1,by rw [zNM]; exact Nat.add_le_add hx.2 hy.2⟩
theorem Sm.le {j k:Nat} {x:Str} (hx:Sm j x) (h:j <= k):Sm k x:=⟨hx.1,Nat.le_trans hx.2 h⟩
theorem A7.join {sep:Str} (hs:A7 sep):∀ {l:List Str},(∀ x ∈ l,A7 x)->A7 (Str.join sep l)
 | [],_=>by intro c hc; cases hc
 | [x],h=>h x List.mem_cons_self
 | x :: y :: r,h=>by
  show A7 (x++sep++Str.join sep (y :: r))
  exact ((h x List.mem_cons_self).add hs).add (A7.join hs fun z hz=>h z (List.mem_cons_of_mem _ hz))
theorem zMJ {k:Nat}:∀ {l:List Str},(∀ x ∈ l,x.length <= k)->(l.map (·.length)).sum <= l.length * k
 | [],_=>Nat.zero_le _
 | x :: l,h=>by
  rw [List.map_cons,List.sum_cons,List.length_cons,Nat.succ_mul]
  have:=zMJ (l:=l) fun z hz=>h z (List.mem_cons_of_mem _ hz)
  have:=h x List.mem_cons_self
  omega
theorem zFa:∀ l:List Str,strs? (l.map V.str)=some l
 | []=>rfl
 | x :: l=>by
  have:=zFa l
  unfold strs? at this ⊢
  rw [List.map_cons,List.mapM_cons,this]; rfl
section
variable {F:Calls} {q:Bool} {H:List V} {J:Sto}
theorem zGA {sep:Str} {a b:CE} {l:List Str} {v:V} {j k n:Nat} (hsep:Sm j sep) (hl:∀ x ∈ l,Sm k x) (hn:l.length <= n) (hb:n * k+n * j <= 100000) (ha:evE F false a H J=.ok (.str sep) J) (hv:evE F false b H J=.ok v J) (hi:listOf? J v=some (l.map V.str)) :
  ∃ t,Sm (n * k+n * j) t /\ evE F false (.sm .join a b) H J=.ok (.str t) J:=by
 have h1:=zMJ (k:=k) fun x hx=>(hl x hx).2
 have h2:(l.map (·.length)).sum+l.length * sep.length <= n * k+n * j:=Nat.add_le_add (Nat.le_trans h1 (Nat.mul_le_mul_right k hn)) (Nat.mul_le_mul hn hsep.2)
 refine ⟨Txt.join sep l,⟨?_,?_⟩,zIV ha rfl hv ?_⟩
 ·show A7 (Builtin.Str.glued sep l)
  rw [StrLaws.glued_eq_join]
  exact hsep.1.join fun x hx=>(hl x hx).1
 ·show (Builtin.Str.glued sep l).length <= _
  rw [StrLaws.glued_eq_join]
  exact Nat.le_trans (StrLaws.join_length_le sep l) h2
 ·show ((listOf? J v).bind fun xs=>(strs? xs).bind fun l=>if (l.map (·.length)).sum+l.length * sep.length <= 100000 then some (V.str (Txt.join sep l)) else none)=_
  rw [hi]
  show ((strs? (l.map V.str)).bind fun l=>if (l.map (·.length)).sum+l.length * sep.length <= 100000 then some (V.str (Txt.join sep l)) else none)=_
  rw [zFa]
  show (if (l.map (·.length)).sum+l.length * sep.length <= 100000 then some (V.str (Txt.join sep l)) else none)=_
  rw [if_pos (Nat.le_trans h2 hb)]
theorem vP {j k:Nat} {x y:Str} {a b:CE} (hx:Sm j x) (hy:Sm k y) (h:j+k <= 10000) (ha:evE F q a H J=.ok (.str x) J) (hb:evE F q b H J=.ok (.str y) J):∃ t,Sm (j+k) t /\ evE F q (.p2 .add a b) H J=.ok (.str t) J:=
 ⟨_,hx.add hy,zQu ha hb (Nat.le_trans (Nat.add_le_add hx.2 hy.2) h)⟩
end
noncomputable def Nz (n:Int):Prop:=n.natAbs < 10 ^ 60
noncomputable def zCN (n:Int):Str:=Str.ofString (toString n)
theorem zMI (m:Nat):zCN (Int.negSucc m)=mkS (45 :: zIT (m+1)):=by
 have e:toString (Int.negSucc m)="-"++toString (((m+1:Nat)):Int):=rfl
 have e2:=zHw (m+1)
 unfold zCN
 rw [e]
 rw [Str.ofString_eq_toList] at e2 ⊢
 rw [String.toList_append,List.map_append]
 have e3:(toString (((m+1:Nat)):Int)).toList.map Char.toNat=zIT (m+1):=by
  have:=congrArg (fun s:Str=>s.cps.toList) e2
  exact this
 rw [e3]; rfl
theorem zNr {n:Int} (h:Nz n):Sm 61 (zCN n):=by
 cases n with
 | ofNat m =>
  have hm:m < 10 ^ 60:=h
  show Sm 61 (Str.ofString (toString ((m:Nat):Int)))
  rw [zHw]
  refine ⟨fun c hc=>?_,by rw [zY]; exact Nat.le_trans (zHH (by decide) hm) (by decide)⟩
  have:=zBy (m:=m) (c:=c) hc
  omega
 | negSucc m =>
  have hm:m+1 < 10 ^ 60:=h
  rw [zMI]
  refine ⟨fun c hc=>?_,by rw [zY]; exact Nat.succ_le_succ (zHH (by decide) hm)⟩
  rcases List.mem_cons.mp hc with rfl | hc
  ·decide
  ·have:=zBy (m:=m+1) (c:=c) hc
   omega
theorem zNq {J:Sto} {n:Int} (h:Nz n):ev1 .toStr J (.int n)=some (.str (zCN n)):=by
 have h4:(10:Nat) ^ 60 <= 10 ^ 100:=Nat.pow_le_pow_right (by decide) (by decide)
 exact if_pos (Nat.lt_of_lt_of_le h h4)
section
variable {d:Nat} {q:Bool} {J:Sto} {F:Calls} {H:List V}
theorem zHu:Sm 1 (mkS [32]):=⟨by unfold A7; decide,by decide⟩
theorem zK3 {ns:List Int} {src:CE} {n:Nat} (hn:H.length=n) (hl:ns.length <= 3) (h:∀ x ∈ ns,Nz x) (hs:evE F false src H J=.ok (.tup (iv ns)) J):evE F false (.comp (.p1 .toStr (.var n)) .val [src] none) H J=.ok (.lst ((ns.map zCN).map V.str)) J:=by
 have:=yw (F:=F) (elt:=.p1 .toStr (.var n)) (k:=.val) (src:=[src]) (cond:=none) (H:=H) (vs:=[.tup (iv ns)]) (J:=J) (J1:=J) (l:=ns) (φ:=V.int) (fun _=>true) (fun x=>.str (zCN x)) (zD hs rfl) rfl (.inl rfl) (Nat.lt_of_le_of_lt hl (by decide)) (fun _ _=>rfl) fun x hx _=>zV (by rw [zu]; unfold zK; rw [List.getElem?_append_right (by omega),hn,Nat.sub_self]; rfl) (zNq (h x hx))
 rw [yZ] at this
 rw [this,List.map_map]; rfl
theorem zHz {ns:List Int} (h:∀ x ∈ ns,Nz x):∀ t ∈ ns.map zCN,Sm 61 t:=fun t ht=>by
 obtain ⟨x,hx,rfl⟩:=List.mem_map.mp ht
 exact zNr (h x hx)
theorem zCT {a:CE} {x:V} {xs:List V} (ha:evE F false a H J=.ok (.tup (x :: xs)) J):evE F false (.slice a (some (.lit (.int 1))) none) H J=.ok (.tup xs) J:=by
 refine jb ha rfl rfl ?_
 show some (V.tup (yC (x :: xs) (some 1) none))=_
 unfold yC yO zZ
 rw [List.take_length]
 show some (V.tup ((x :: xs).drop (min 1 (x :: xs).length)))=_
 rw [Nat.min_eq_left (by rw [List.length_cons]; omega)]; rfl
theorem zPc {s:Str} (hs:A7 s) {j:Nat} (hj:j < s.length):∃ t,Sm 1 t /\ ev2 .index J (.str s) (.int (j:Int))=some (.str t):=by
 have hl:j < (zR s).length:=hj
 refine ⟨mkS [(zR s)[j]],⟨fun c hc=>?_,by rw [zY]; exact Nat.le_refl _⟩,?_⟩
 ·rw [List.mem_singleton.mp hc]; exact hs _ (List.getElem_mem hl)
 ·show ((ze s.length (j:Int)).bind fun k=>(zR s)[k]?.map fun c=>V.str (mkS [c]))=_
  rw [xH hj]
  show ((zR s)[j]?.map fun c=>V.str (mkS [c]))=_
  rw [List.getElem?_eq_getElem hl]; rfl
theorem Sm.slice {k:Nat} {x:Str} (hx:Sm k x) (l u:Option Int):Sm k (Txt.slice x l u):=⟨hx.1.slice l u,Nat.le_trans (Txt.slice_le x l u) hx.2⟩
end
end Mine
end

section
namespace Mine
open PySem
noncomputable def PB:Int:=10 ^ 40
noncomputable def MB:Int:=10 ^ 41
noncomputable def Deed.nz:Deed->Prop
 | .ord _=>True
 | .pay o n=>Nz o /\ Nz n
 | .ref o n=>Nz o /\ Nz n
 | .mov o p n=>Nz o /\ Nz p /\ Nz n
 | .lin _ o k n=>Nz o /\ Nz k /\ Nz n
inductive zN0 (J:Sto) (us:List Or) (r:R V):Prop
 | ord (ls:List Ln) (hf:(Deed.ord ls).fit us) (h4:us.length < 4) (er:r=.ok ((Deed.ord ls).raw J.length) (J++[.list (ls.map Ln.raw)]))
 | oth (D:Deed) (hn:∀ ls,D ≠ .ord ls) (hz:D.nz) (er:r=.ok D.v J)
theorem zBK {n:Int} (h1:-MB <= n) (h2:n <= MB+1):Nz n:=by
 by_cases h:0 <= n
 ·exact Nat.lt_of_le_of_lt (zLd (B:=10 ^ 41+1) h h2) (by decide +kernel)
 ·have h:=Int.le_of_lt (Int.not_le.mp h)
  unfold Nz
  rw [<- Int.natAbs_neg]
  exact Nat.lt_of_le_of_lt (zLd (B:=10 ^ 41) (Int.neg_nonneg_of_nonpos h) (Int.neg_le_of_neg_le h1)) (by decide +kernel)
theorem zD8 {n:Int} (h0:0 <= n) (h1:n <= MB+1):Nz n:=zBK (Int.le_trans (by decide +kernel) h0) h1
theorem zOT (m:Int):0 < (if m > 1 then m else 1) /\ ((if m > 1 then m else 1) <= m \/ (if m > 1 then m else 1)=1):=by
 by_cases h:m > 1
 ·rw [if_pos h]; exact ⟨Int.lt_trans (by decide) h,.inl (Int.le_refl _)⟩
 ·rw [if_neg h]; exact ⟨by decide,.inr rfl⟩
section
variable {F Fq:Calls} {q:Bool} {H:List V} {J:Sto} {P:Int->Prop}
noncomputable def GRP (P:Int->Prop) (F Fq:Calls) (q:Bool) (ss:List CS) (H:List V) (J:Sto):Prop:=∃ n:Int,P n /\ exL F Fq q ss H J=.ok (.ret (.int n)) J
noncomputable def GIP (P:Int->Prop) (F:Calls) (q:Bool) (e:CE) (H:List V) (J:Sto):Prop:=∃ n:Int,P n /\ evE F q e H J=.ok (.int n) J
theorem zHX {e:CE} {rest:List CS} (h:GIP P F q e H J):GRP P F Fq q (.ret e :: rest) H J:=by
 obtain ⟨n,p,h⟩:=h; exact ⟨n,p,zH h⟩
theorem zAX {c e:CE} {rest:List CS} {t:Bool} (hc:evC F q (some c) H J=.ok t J) (h1:t=true->GIP P F q e H J) (h2:t=false->GRP P F Fq q rest H J):GRP P F Fq q (.ite c [.ret e] [] :: rest) H J:=by
 cases t with
 | true=>obtain ⟨n,p,h⟩:=h1 rfl; exact ⟨n,p,s_t hc (zH h)⟩
 | false=>obtain ⟨n,p,h⟩:=h2 rfl; exact ⟨n,p,s_f hc h⟩
theorem zHW {e:CE} {i:Nat} {v:V} {rest:List CS} (h:evE F q e H J=.ok v J) (k:GRP P F Fq q rest (H.set i v) J):GRP P F Fq q (.asg i e :: rest) H J:=by
 obtain ⟨n,p,k⟩:=k; exact ⟨n,p,zL h k⟩
theorem zE1 {T:Nat->Option Fn} {d k:Nat} {fn:Fn} {args:List V} (h:T k=some fn) (hl:args.length=fn.params) (hx:GRP P (zA T d q) (zA T d true) q fn.body (args++List.replicate (fn.slots - fn.params) .undef) J):∃ n:Int,P n /\ zA T (d+1) q k args J=.ok (.int n) J:=by
 obtain ⟨n,p,hx⟩:=hx; exact ⟨n,p,zG h hl hx⟩
end
theorem pl1 (c:Int):Nz (-1 - c.fmod 3):=by
 have h:=yg c (m:=3) (by decide)
 exact zBK (Int.le_trans (by decide +kernel:-MB <= -1 - 3) (Int.sub_le_sub_left (Int.le_of_lt h.2) (-1))) (Int.le_trans (Int.sub_le_sub_left h.1 (-1)) (by decide +kernel))
theorem pl2 {sz:Int} (c:Int) (h0:0 <= sz) (h1:sz <= 1000):Nz (sz+c.fmod 2):=by
 have h:=yg c (m:=2) (by decide)
 exact zD8 (Int.add_nonneg h0 h.1) (Int.le_trans (Int.add_le_add h1 (Int.le_of_lt h.2)) (by decide +kernel))
theorem pl3 {sz:Int} (c:Int) (h1:sz <= 1000):Nz (c.fmod (if sz > 1 then sz else 1)):=by
 have hm:=zOT sz
 generalize (if sz > 1 then sz else 1)=m at hm
 have h:=yg c hm.1
 exact zD8 h.1 (Int.le_trans (Int.le_of_lt h.2) (hm.2.elim (fun q=>Int.le_trans (Int.le_trans q h1) (by decide +kernel)) fun q=>by rw [q]; decide +kernel))
theorem nb1 (c:Int):Nz (-(c.fmod 3)):=by
 have h:=yg c (m:=3) (by decide)
 exact zBK (Int.le_trans (by decide +kernel:-MB <= -3) (Int.neg_le_neg (Int.le_of_lt h.2))) (Int.le_trans (Int.neg_nonpos_of_nonneg h.1) (by decide +kernel))
theorem nb2 {m:Int} (h:-MB <= m /\ m <= MB):Nz (m+1):=zBK (Int.le_trans h.1 (Int.le_add_of_nonneg_right (by decide))) (Int.add_le_add_right h.2 1)
theorem nb3 {m:Int} (h:-MB <= m /\ m <= MB):Nz m:=zBK h.1 (Int.le_trans h.2 (Int.le_add_of_nonneg_right (by decide)))
theorem nb4 (c:Int):Nz (1+c.fmod (10 ^ 13)):=by
 have h:=yg c (m:=10 ^ 13) (by decide)
 exact zD8 (Int.add_nonneg (by decide) h.1) (Int.le_trans (Int.add_le_add_left (Int.le_of_lt h.2) 1) (by decide +kernel))
theorem nb5 {m:Int} (c:Int) (h:-MB <= m /\ m <= MB):Nz (1+c.fmod (if m > 1 then m else 1)):=by
 have hm:=zOT m
 generalize (if m > 1 then m else 1)=k at hm
 have hf:=yg c hm.1
 refine zD8 (Int.add_nonneg (by decide) hf.1) ?_
 rw [Int.add_comm]
 exact Int.add_le_add_right (Int.le_trans (Int.le_of_lt hf.2) (hm.2.elim (fun q=>Int.le_trans q h.2) fun q=>by rw [q]; decide +kernel)) 1
section
variable {T:Nat->Option Fn} {d k:Nat} {q:Bool} {J:Sto}
theorem zB5 (h:T k=some zGF) (c p sz:Int) (hp:(p==0)=false) (hp2:(p+2==0)=false) (h0:0 <= sz) (h1:sz <= 1000):∃ n:Int,Nz n /\ zA T (d+1) false k [.int c,.int p,.int sz] J=.ok (.int n) J:=
 zE1 h rfl (zHW (xJ rfl rfl rfl hp rfl) (zAX (zC rfl) (fun _=>⟨_,pl1 c,zE rfl (zE rfl rfl rfl) rfl⟩) fun _=>zAX (zC rfl) (fun _=>⟨_,pl2 c h0 h1,zE rfl (zE rfl rfl rfl) rfl⟩) fun _ =>
  zHX ⟨_,pl3 _ h1,zE (zE (zE rfl rfl (yW J c 48271 (.inr rfl))) rfl (wO J _ (p+2) hp2)) (zE rfl rfl (zHR J 1 sz)) (wO J _ _ (zLb sz))⟩))
theorem zCr (h:T k=some zDx) (c m:Int) (hm:-MB <= m /\ m <= MB):∃ n:Int,Nz n /\ zA T (d+1) false k [.int c,.int m] J=.ok (.int n) J:=
 zE1 h rfl (zHW (xJ rfl rfl rfl rfl rfl) (zAX (zC rfl) (fun _=>⟨_,nb1 c,zV (zE rfl rfl rfl) rfl⟩) fun _=>zAX (zC rfl) (fun _=>⟨_,nb2 hm,zE rfl rfl rfl⟩) fun _ =>
  zAX (zC (zIU rfl rfl)) (fun _=>⟨_,nb3 hm,rfl⟩) fun _=>zAX (zC rfl) (fun _=>⟨_,nb4 c,zE rfl (zE rfl (zE rfl rfl (zM6 J 13 (by decide))) (wO J _ _ (by decide))) rfl⟩) fun _ =>
  zHX ⟨_,nb5 c hm,zE rfl (zE rfl (zE rfl rfl (zHR J 1 m)) (wO J _ _ (zLb m))) rfl⟩))
end
theorem zGc {s b a p:Int} (h1:a <= b) (h2:s <= p+a):s - b <= p:=by omega
theorem zNL {p s a:Int} (h:s <= p+a):0 <= p - s+a:=by omega
theorem zNK {p s a:Int} (h:a <= s):p - s+a <= p:=by omega
theorem zCh {l:Ln} (h:l.inv):0 <= l.charge /\ l.charge <= 10 ^ 15:=by
 have h1:((l.s - l.b) * l.c).fdiv l.k <= (1000000 * l.c).fdiv l.k:=zCW (Int.le_trans (zGc h.ab h.sp) h.ok.p2) h.ok.c1 h.ok.k1
 have h2:(1000000 * l.c).fdiv l.k <= 1000000 * l.c:=by
  rw [Int.fdiv_eq_ediv_of_nonneg _ (Int.le_trans (by decide) h.ok.k1)]
  exact Int.ediv_le_self _ (Int.mul_nonneg (by decide) h.ok.c1)
 have h5:l.worth <= 1000000 * l.c:=Int.le_trans h1 h2
 exact ⟨h.charge,Int.le_trans (Int.sub_le_self _ h.r0) (Int.le_trans h5 (Int.mul_le_mul_of_nonneg_left h.ok.c2 (by decide)))⟩
theorem zOg {B:Int} (hB:0 <= B):∀ {l:List Int},(∀ x ∈ l,0 <= x /\ x <= B)->0 <= l.sum /\ l.sum <= l.length * B
 | [],_=>⟨Int.le_refl _,by rw [List.length_nil]; exact Int.le_of_eq (by rw [List.sum_nil]; exact (Int.zero_mul B).symm)⟩
 | x :: l,h=>by
  have h1:=h x List.mem_cons_self
  have h2:=zOg hB (l:=l) fun y hy=>h y (List.mem_cons_of_mem _ hy)
  rw [List.sum_cons,List.length_cons]
  rw [show (((l.length+1:Nat)):Int) * B=(l.length:Int) * B+B by rw [Int.natCast_add,Int.add_mul]; exact congrArg _ (Int.one_mul B)]
  refine ⟨Int.add_nonneg h1.1 h2.1,?_⟩
  rw [Int.add_comm x]
  exact Int.add_le_add h2.2 h1.2
theorem zPz {u:Or} (h:u.inv) (hp:u.paid <= PB):-PB <= u.owed /\ u.owed <= 10 ^ 17:=by
 have h1:=zOg (B:=10 ^ 15) (by decide) (l:=u.lines.map Ln.charge) fun x hx=>by
  obtain ⟨l,hl,rfl⟩:=List.mem_map.mp hx
  exact zCh (h.ls l hl)
 have h2:((u.lines.map Ln.charge).length:Int) <= 20:=by rw [List.length_map]; exact Int.ofNat_le.mpr h.few
 have h3:=h.paid0
 have hn:-u.paid <= u.owed:=by have:=Int.sub_le_sub_right h1.1 u.paid; rwa [Int.zero_sub] at this
 exact ⟨Int.le_trans (Int.neg_le_neg hp) hn,Int.le_trans (Int.sub_le_self _ h3) (Int.le_trans h1.2 (Int.le_trans (Int.mul_le_mul_of_nonneg_right h2 (by decide)) (by decide)))⟩
theorem zPn {w:Wd} {l:Ln} (h:l.inv):0 <= xA w l /\ xA w l <= 10 ^ 15:=by
 have hp:l.p <= 10 ^ 15:=Int.le_trans h.ok.p2 (by decide)
 cases w with
 | del=>exact ⟨zNL h.sp,Int.le_trans (zNK (Int.le_trans h.ab h.bs)) hp⟩
 | cred=>exact zCh h
 | back=>exact ⟨Int.sub_nonneg_of_le h.bs,Int.le_trans (zGc h.ab h.sp) hp⟩
 | swap=>exact ⟨Int.sub_nonneg_of_le h.bs,Int.le_trans (zGc h.ab h.sp) hp⟩
theorem zHd {us:List Or} (hinv:∀ u ∈ us,u.inv) (hpd:∀ u ∈ us,u.paid <= PB) (w:W8) (at' pl:Int):-MB <= xR w us at' pl /\ xR w us at' pl <= MB:=by
 have hP:-MB <= -PB:=by decide +kernel
 have hQ:(10:Int) ^ 17 <= MB:=by decide +kernel
 have five:-MB <= (5:Int) /\ (5:Int) <= MB:=⟨by decide +kernel,by decide +kernel⟩
 unfold xR
 cases hat:atI us at' with
 | none=>exact five
 | some u =>
  obtain ⟨o,rfl,hu⟩:=zg hat
  have iu:=hinv u (List.mem_of_getElem? hu)
  have hb:=zPz iu (hpd u (List.mem_of_getElem? hu))
  have neg:-MB <= -u.owed /\ -u.owed <= MB:=⟨Int.neg_le_neg (Int.le_trans hb.2 hQ),Int.neg_le_of_neg_le (Int.le_trans hP hb.1)⟩
  cases w with
  | pay=>exact ⟨Int.le_trans hP hb.1,Int.le_trans hb.2 hQ⟩
  | ref=>exact neg
  | mov=>exact neg
  | ord=>exact five
  | lin w =>
   show -MB <= (match atI u.lines pl with | none=>5 | some l=>xA w l) /\ (match atI u.lines pl with | none=>5 | some l=>xA w l) <= MB
   cases hl:atI u.lines pl with
   | none=>exact five
   | some l =>
    obtain ⟨k,rfl,hk⟩:=zg hl
    have:=zPn (w:=w) (iu.ls l (List.mem_of_getElem? hk))
    exact ⟨Int.le_trans (by decide +kernel) this.1,Int.le_trans this.2 (by decide +kernel)⟩
section
variable {T:Nat->Option Fn} {d:Nat} {q:Bool} {J:Sto} {ro:Nat->Role} {i a o r n:Nat} {us:List Or} {rs:List V} {u:Or} {l:Ln}
theorem zNE (M:yt T) (A:Acct J ro i a us rs) (hinv:∀ u ∈ us,u.inv) (hlim:us.length <= 1000) (hpd:∀ u ∈ us,u.paid <= PB) (c c2:Int):zN0 J us (zA T (d+4) false 109 [.int c,.int c2,.ref a] J):=by
 have hok:∀ u ∈ us,u.ok:=fun u hu=>(hinv u hu).ok
 obtain ⟨w,hw⟩:=zQL J ((c * 48271).fmod 10007)
 have hcall:∀ {v:V} {J':Sto},exL (zA T (d+3) false) (zA T (d+3) true) false hDeed.body [.int c,.int c2,.ref a,.undef,.undef,.undef,.undef,.undef,.undef] J=.ok (.ret v) J'->zA T (d+4) false 109 [.int c,.int c2,.ref a] J=.ok v J':=fun hx=>zG M.t109 rfl hx
 have pre:∀ {r:R Fl},exL (zA T (d+3) false) (zA T (d+3) true) false (hDeed.body.drop 3) [.int c,.int c2,.ref a,.lst [.str wM,.str wM,.str wM,.str wM,.str wq,.str wu,.str wr,.str xK,.str xK,.str xz,.str zx,.str yM],.str w.s,.undef,.undef,.undef,.undef] J=r ->
   exL (zA T (d+3) false) (zA T (d+3) true) false hDeed.body [.int c,.int c2,.ref a,.undef,.undef,.undef,.undef,.undef,.undef] J=r:=fun kk =>
  zL rfl (zL rfl (zL (v:=.str w.s) (zE rfl (xJ (c:=c) rfl rfl rfl rfl rfl) hw) kk))
 generalize hws:(V.lst [.str wM,.str wM,.str wM,.str wM,.str wq,.str wu,.str wr,.str xK,.str xK,.str xz,.str zx,.str yM])=ws at pre
 clear hw
 have hlen:∀ {H:List V},zK H 2=some (.ref a)->evE (zA T (d+3) false) false (.p1 .len (.var 2)) H J=.ok (.int us.length) J:=fun h2=>A.e_len h2
 have ht1:evE (zA T (d+3) false) false (.p2 .eq (.var 2) (.list [])) [.int c,.int c2,.ref a,ws,.str w.s,.undef,.undef,.undef,.undef] J=.ok (.bool (us.length==0)) J:=zE rfl rfl (by rw [zPQ A.ord,A.len])
 have ord:us.length < 4->((us.length==0)=true \/ (us.length==0)=false /\ w=.ord)->zN0 J us (zA T (d+4) false 109 [.int c,.int c2,.ref a] J):=fun h4 ho=>by
  obtain ⟨ls,l1,l2,l3,hl⟩:=zND (T:=T) (d:=d+1) (k:=108) (it:=107) (J:=J) M.t108 M.t107 c2
  have rt:exL (zA T (d+3) false) (zA T (d+3) true) false (.ret (.tup [.lit (.str yM),.call 108 [.var 1]]) :: hDeed.body.drop 4) [.int c,.int c2,.ref a,ws,.str w.s,.undef,.undef,.undef,.undef] J=.ok (.ret ((Deed.ord ls).raw J.length)) (J++[.list (ls.map Ln.raw)]):=
   zH (yk (zD rfl (zD (zI rfl hl) rfl)))
  refine .ord ls ⟨l1,l2,l3,by omega⟩ h4 (hcall (pre ?_))
  rcases ho with ho | ⟨h0,rfl⟩
  ·exact s_t (zC (by rw [ho] at ht1; exact xX ht1 rfl)) rt
  ·exact s_t (zC (by rw [h0] at ht1; exact zW ht1 rfl (yJ rfl rfl (zE (hlen rfl) rfl (by rw [xY,decide_eq_true (show (us.length:Int) < 4 by omega)]))))) rt
 cases h0:(us.length==0) with
 | true=>exact ord (by have:=eq_of_beq h0; omega) (.inl h0)
 | false =>
  rw [h0] at ht1
  by_cases hwo:w=.ord /\ us.length < 4
  ·exact ord hwo.2 (.inr ⟨h0,hwo.1⟩)
  ·have pre2:∃ w':W8,w' ≠ .ord /\ ∀ {r:R Fl},exL (zA T (d+3) false) (zA T (d+3) true) false (hDeed.body.drop 5) [.int c,.int c2,.ref a,ws,.str w'.s,.undef,.undef,.undef,.undef] J=r ->
     exL (zA T (d+3) false) (zA T (d+3) true) false (hDeed.body.drop 3) [.int c,.int c2,.ref a,ws,.str w.s,.undef,.undef,.undef,.undef] J=r:=by
    cases w with
    | ord =>
     have h4:¬ us.length < 4:=fun h=>hwo ⟨rfl,h⟩
     refine ⟨.mov,(fun h=>nomatch h),fun kk=>s_f (zC (zW ht1 rfl (yJ rfl rfl (zE (hlen rfl) rfl (by rw [xY,decide_eq_false (show ¬ (us.length:Int) < 4 by omega)]))))) (s_t rfl (zL rfl kk))⟩
    | pay=>exact ⟨.pay,(fun h=>nomatch h),fun kk=>s_f (zC (zW ht1 rfl (yP rfl rfl))) (s_f rfl kk)⟩
    | ref=>exact ⟨.ref,(fun h=>nomatch h),fun kk=>s_f (zC (zW ht1 rfl (yP rfl rfl))) (s_f rfl kk)⟩
    | mov=>exact ⟨.mov,(fun h=>nomatch h),fun kk=>s_f (zC (zW ht1 rfl (yP rfl rfl))) (s_f rfl kk)⟩
    | lin w=>exact ⟨.lin w,(fun h=>nomatch h),fun kk=>s_f (zC (zW ht1 rfl (yP (zE rfl rfl (zFn w)) rfl))) (s_f (zC (zE rfl rfl (zFn w))) kk)⟩
   obtain ⟨w',hw',pre2⟩:=pre2
   obtain ⟨at',hb1,ha⟩:=zB5 (T:=T) (d:=d+2) (k:=105) (J:=J) M.t105 c 10037 us.length rfl rfl (Int.natCast_nonneg _) (Int.ofNat_le.mpr hlim)
   have hmo:=zGH (d:=d) M A hok w' hw' at' 0
   obtain ⟨n,hb2,hn⟩:=zCr (T:=T) (d:=d+2) (k:=106) (J:=J) M.t106 c2 (xR w' us at' 0) (zHd hinv hpd w' at' 0)
   have pre3:∀ {r:R Fl},exL (zA T (d+3) false) (zA T (d+3) true) false (hDeed.body.drop 6) [.int c,.int c2,.ref a,ws,.str w'.s,.int at',.undef,.undef,.undef] J=r ->
     exL (zA T (d+3) false) (zA T (d+3) true) false hDeed.body [.int c,.int c2,.ref a,.undef,.undef,.undef,.undef,.undef,.undef] J=r:=fun kk =>
    pre (pre2 (zL (zI (zD rfl (zD rfl (zD (hlen rfl) rfl))) ha) kk))
   cases w' with
   | ord=>exact (hw' rfl).elim
   | pay=>exact .oth (.pay at' n) (fun _ h=>nomatch h) ⟨hb1,hb2⟩ (hcall (pre3 (s_t rfl (zH (yk (zD rfl (zD rfl (zD (zI (zD rfl (zD (zI rfl hmo) rfl)) hn) rfl))))))))
   | ref=>exact .oth (.ref at' n) (fun _ h=>nomatch h) ⟨hb1,hb2⟩ (hcall (pre3 (s_t rfl (zH (yk (zD rfl (zD rfl (zD (zI (zD rfl (zD (zI rfl hmo) rfl)) hn) rfl))))))))
   | mov =>
    obtain ⟨a2,hb3,ha2⟩:=zB5 (T:=T) (d:=d+2) (k:=105) (J:=J) M.t105 c2 10099 us.length rfl rfl (Int.natCast_nonneg _) (Int.ofNat_le.mpr hlim)
    exact .oth (.mov at' a2 n) (fun _ h=>nomatch h) ⟨hb1,hb3,hb2⟩ (hcall (pre3 (s_f rfl (s_t rfl (zL (zI (zD rfl (zD rfl (zD (hlen rfl) rfl))) ha2) (zH (yk (zD rfl (zD rfl (zD rfl (zD (zI (zD rfl (zD (zI rfl hmo) rfl)) hn) rfl)))))))))))
   | lin w =>
    have pre4:∃ sz:Int,(0 <= sz /\ sz <= 1000) /\ ∀ {r:R Fl},exL (zA T (d+3) false) (zA T (d+3) true) false (hDeed.body.drop 10) [.int c,.int c2,.ref a,ws,.str w.s,.int at',.undef,.int sz,.undef] J=r ->
      exL (zA T (d+3) false) (zA T (d+3) true) false hDeed.body [.int c,.int c2,.ref a,.undef,.undef,.undef,.undef,.undef,.undef] J=r:=by
     have pre5:∀ {r:R Fl},exL (zA T (d+3) false) (zA T (d+3) true) false (hDeed.body.drop 9) [.int c,.int c2,.ref a,ws,.str w.s,.int at',.undef,.int 1,.undef] J=r ->
       exL (zA T (d+3) false) (zA T (d+3) true) false hDeed.body [.int c,.int c2,.ref a,.undef,.undef,.undef,.undef,.undef,.undef] J=r:=fun kk =>
      pre3 (s_f (zC (zW (zE rfl rfl (zH1 w)) rfl (zE rfl rfl (zH2 w)))) (s_f (zC (zE rfl rfl (wc w))) (zL rfl kk)))
     cases ht:(decide (0 <= at')&&decide (at' < (us.length:Int))) with
     | false=>exact ⟨1,⟨by decide,by decide⟩,fun kk=>pre5 (s_f (zC (by rw [<- ht]; exact yY rfl rfl (hlen rfl))) kk)⟩
     | true =>
      obtain ⟨o,rfl,ho⟩:=in_iff.mp ht
      obtain ⟨r,hr,O⟩:=A.index (List.getElem?_eq_getElem ho)
      obtain ⟨ls,h0,_,hls,_⟩:=O.index
      exact ⟨(ls.length:Int),⟨Int.natCast_nonneg _,by rw [hls]; exact Int.ofNat_le.mpr (Nat.le_trans (hok _ (List.getElem_mem ho)).few (by decide))⟩,fun kk=>pre5 (s_t (zC (by rw [<- ht]; exact yY rfl rfl (hlen rfl))) (zL (zV (zE (zE rfl rfl hr) rfl h0) (zi J ls)) kk))⟩
    obtain ⟨sz,hsz,pre4⟩:=pre4
    obtain ⟨pl,hb3,hpl⟩:=zB5 (T:=T) (d:=d+2) (k:=105) (J:=J) M.t105 c 10091 sz rfl rfl hsz.1 hsz.2
    have hmo:=zGH (d:=d) M A hok (.lin w) hw' at' pl
    obtain ⟨n,hb2,hn⟩:=zCr (T:=T) (d:=d+2) (k:=106) (J:=J) M.t106 c2 (xR (.lin w) us at' pl) (zHd hinv hpd (.lin w) at' pl)
    exact .oth (.lin w at' pl n) (fun _ h=>nomatch h) ⟨hb1,hb3,hb2⟩ (hcall (pre4 (zL (zI rfl hpl) (zH (yk (zD rfl (zD rfl (zD rfl (zD (zI (zD rfl (zD (zI rfl hmo) rfl)) hn) rfl)))))))))
end
end Mine
end

section
namespace Mine
open PySem
theorem xO:zO T14:=⟨rfl,rfl,rfl,rfl,rfl,rfl,rfl,rfl,rfl,rfl,rfl,rfl,rfl,rfl,rfl,rfl,rfl,rfl,rfl⟩
theorem modTab14:yt T14:=⟨rfl,rfl,rfl,rfl,rfl,rfl,rfl,rfl,rfl,rfl,rfl,rfl,rfl⟩
theorem Ln.ok.nz {l:Ln} (h:l.ok):∀ x ∈ [l.p,l.c,l.k],Nz x:=fun x hx=>by
 have h':(10 ^ 10:Int) <= MB:=by decide +kernel
 have:=h.p1; have:=h.p2; have:=h.c1; have:=h.c2; have:=h.k1; have:=h.k2
 simp only [List.mem_cons,List.not_mem_nil,or_false] at hx
 rcases hx with rfl | rfl | rfl
 ·exact zBK (by omega) (by omega)
 ·exact zBK (by omega) (by omega)
 ·exact zBK (by omega) (by omega)
theorem Ln.good.sm {l:Ln} (h:l.good):Sm 12 l.item:=by
 refine ⟨fun c hc=>?_,?_⟩
 ·have:=Array.all_eq_true'.mp h.asc c (Array.mem_toList_iff.mp hc)
  exact of_decide_eq_true this
 ·have:=(Bool.and_eq_true_iff.mp (Bool.and_eq_true_iff.mp h.item).1).2
  exact of_decide_eq_true this
section
variable {d:Nat} {q:Bool} {J:Sto}
noncomputable def zDq:List CS:=match f14_114.body with
 | [.ite _ [_,.for _ _ _ b,_] _,_]=>b
 | _=>[]
inductive Wrt (J:Sto) (n:Nat) (j:Nat):List V->Sto->Prop
 | mk (ts:List Str) (x2 x3:V) (hl:ts.length=j) (h:∀ t ∈ ts,Sm 199 t):Wrt J n j [.tup [.str yM,.ref n],.ref J.length,x2,x3] (J++[.list (ts.map V.str)])
theorem zMV {n j:Nat} {H:List V} {J':Sto} {l:Ln} (hj:j < 20) (hl:l.good) (I:Wrt J n j H J'):∃ H' J'',exL (zA T14 d false) (zA T14 d true) false zDq (H.set 2 l.raw) J'=.ok (.next H') J'' /\ Wrt J n (j+1) H' J'':=by
 cases I with
 | mk ts x2 x3 hlen h =>
 have hN:=hl.ok.nz
 generalize hJ:J++[O.list (ts.map V.str)]=J1
 have h1:J1[J.length]?=some (.list (ts.map V.str)):=by rw [<- hJ]; exact yx
 have e3:=zK3 (F:=zA T14 d false) (J:=J1) (H:=[.tup [.str yM,.ref n],.ref J.length,l.raw,x3]) (n:=4) (ns:=[l.p,l.c,l.k]) rfl (show 3 <= 3 by decide) hN (zCT (a:=.var 2) (x:=.str l.item) (xs:=iv [l.p,l.c,l.k]) rfl)
 obtain ⟨t1,ht1,et1⟩:=vP (F:=zA T14 d false) (q:=false) (J:=J1) (H:=[.tup [.str yM,.ref n],.ref J.length,l.raw,.lst (([l.p,l.c,l.k].map zCN).map V.str)]) (a:=.p2 .index (.var 2) (.lit (.int 0))) (b:=.lit (.str (mkS [32]))) hl.sm zHu (by decide) rfl rfl
 obtain ⟨t2,ht2,et2⟩:=zGA (F:=zA T14 d false) (J:=J1) (H:=[.tup [.str yM,.ref n],.ref J.length,l.raw,.lst (([l.p,l.c,l.k].map zCN).map V.str)]) (a:=.lit (.str (mkS [32]))) (b:=.var 3) (l:=[l.p,l.c,l.k].map zCN) (n:=3) zHu (zHz hN) (by rw [List.length_map]; exact Nat.le_refl _) (by decide) rfl rfl rfl
 obtain ⟨t3,ht3,et3⟩:=vP (F:=zA T14 d false) (q:=false) ht1 ht2 (by decide) et1 et2
 refine ⟨_,_,zL e3 (ym (zp (x:=.ref J.length) rfl (by show (xI _).isSome=true; rw [h1]; rfl) et3 (zk _ h1 (by rw [List.length_map,hlen]; exact Nat.lt_trans hj (by decide)))) zOd),?_⟩
 rw [<- hJ,kO,show ts.map V.str++[V.str t3]=(ts++[t3]).map V.str by rw [List.map_append]; rfl]
 refine .mk _ _ _ (by rw [List.length_append,hlen]; rfl) fun t ht=>?_
 rcases List.mem_append.mp ht with ht | ht
 ·exact h t ht
 ·rw [List.mem_singleton.mp ht]; exact ht3.le (by decide)
theorem zBj {w:Str} {ns:List Int} (hw:(w==yM)=false) (hs:Sm 7 w) (hn:ns.length <= 3) (h:∀ n ∈ ns,Nz n):∃ t,Sm 4026 t /\ zA T14 (d+1) false 114 [.tup (.str w :: iv ns)] J=.ok (.str t) J:=by
 have e3:=zK3 (F:=zA T14 d false) (J:=J) (H:=[.tup (.str w :: iv ns),.undef,.undef,.undef]) (n:=4) (ns:=ns) rfl hn h (zCT (a:=.var 0) (x:=.str w) (xs:=iv ns) rfl)
 obtain ⟨t1,ht1,et1⟩:=vP (F:=zA T14 d false) (q:=false) (J:=J) (H:=[.tup (.str w :: iv ns),.undef,.undef,.undef]) (a:=.p2 .index (.var 0) (.lit (.int 0))) (b:=.lit (.str (mkS [32]))) hs zHu (by decide) (zE rfl rfl (zE5 J _ _)) rfl
 obtain ⟨t2,ht2,et2⟩:=zGA (F:=zA T14 d false) (J:=J) (H:=[.tup (.str w :: iv ns),.undef,.undef,.undef]) (a:=.lit (.str (mkS [32]))) (l:=ns.map zCN) (n:=3) zHu (zHz h) (by rw [List.length_map]; exact hn) (by decide) rfl e3 rfl
 obtain ⟨t3,ht3,et3⟩:=vP (F:=zA T14 d false) (q:=false) ht1 ht2 (by decide) et1 et2
 exact ⟨t3,ht3.le (by decide),zG (fn:=f14_114) rfl rfl (s_f (zC (zE (zE rfl rfl (zE5 J _ _)) rfl (by rw [zGB]; exact congrArg (fun b=>some (V.bool b)) hw))) (zH et3))⟩
theorem zPm {a b:Int} (ha:Nz a) (hb:Nz b):∀ n ∈ [a,b],Nz n:=fun n hn=>by
 simp only [List.mem_cons,List.not_mem_nil,or_false] at hn
 rcases hn with rfl | rfl
 ·exact ha
 ·exact hb
theorem zRS {a b c:Int} (ha:Nz a) (hb:Nz b) (hc:Nz c):∀ n ∈ [a,b,c],Nz n:=fun n hn=>by
 rcases List.mem_cons.mp hn with rfl | hn
 ·exact ha
 ·exact zPm hb hc n hn
theorem zNk {D:Deed} (hn:∀ ls,D ≠ .ord ls) (h:D.nz):∃ t,Sm 4026 t /\ zA T14 (d+1) false 114 [D.v] J=.ok (.str t) J:=by
 cases D with
 | ord ls=>exact (hn ls rfl).elim
 | pay o n=>exact zBj (w:=xK) (ns:=[o,n]) rfl ⟨by unfold A7; decide,by decide⟩ (by decide:2 <= 3) (zPm h.1 h.2)
 | ref o n=>exact zBj (w:=xz) (ns:=[o,n]) rfl ⟨by unfold A7; decide,by decide⟩ (by decide:2 <= 3) (zPm h.1 h.2)
 | mov o p n=>exact zBj (w:=zx) (ns:=[o,p,n]) rfl ⟨by unfold A7; decide,by decide⟩ (by decide:3 <= 3) (zRS h.1 h.2.1 h.2.2)
 | lin w o k n =>
  refine zBj (w:=w.s) (ns:=[o,k,n]) (by cases w <;> rfl) ?_ (by decide:3 <= 3) (zRS h.1 h.2.1 h.2.2)
  cases w <;> exact ⟨by unfold A7; decide,by decide⟩
theorem zNl {ls:List Ln} {n:Nat} (hl:ls.length <= 20) (hg:∀ l ∈ ls,l.good) (hn:J[n]?=some (.list (ls.map Ln.raw))):∃ t y,Sm 4026 t /\ zA T14 (d+1) false 114 [.tup [.str yM,.ref n]] J=.ok (.str t) (J++[y]):=by
 obtain ⟨H',J',ef,I⟩:=wZ (F:=zA T14 d false) (Fq:=zA T14 d true) (i:=2) (k:=.val) (src:=[.p2 .index (.var 0) (.lit (.int 1))]) (body:=zDq) (H:=[.tup [.str yM,.ref n],.ref J.length,.undef,.undef]) (vs:=[.ref n]) (J:=J++[.list []]) (J1:=J++[.list []]) (it:=.live n) (xs:=ls.map Ln.raw)
  (Wrt J n) rfl (wQ _ (xZ hn)) (fun j H J' I=>by cases I with | mk ts x2 x3 hl h=>exact .inr ⟨_,rfl,xZ hn⟩) (.mk [] _ _ rfl (fun t ht=>nomatch ht)) fun j x H J' hx I=>by
   have hj:j < (ls.map Ln.raw).length:=(List.getElem?_eq_some_iff.mp hx).1
   rw [List.getElem?_map] at hx
   obtain ⟨l,hl',rfl⟩:=map_some hx
   rw [List.length_map] at hj
   exact zMV (Nat.lt_of_lt_of_le hj hl) (hg l (List.mem_of_getElem? hl')) I
 cases I with
 | mk ts x2 x3 hts ht =>
 rw [List.length_map] at hts
 have g1:(J++[O.list (ts.map V.str)])[J.length]?=some (.list (ts.map V.str)):=yx
 obtain ⟨t2,ht2,et2⟩:=zGA (F:=zA T14 d false) (J:=J++[.list (ts.map V.str)]) (H:=[.tup [.str yM,.ref n],.ref J.length,x2,x3]) (a:=.lit (.str (mkS [44,32]))) (b:=.var 1) (l:=ts) (n:=20) (j:=2) ⟨by unfold A7; decide,by decide⟩ ht (hts.symm ▸ hl) (by decide) rfl rfl (by show xI _=_; rw [g1]; rfl)
 obtain ⟨t3,ht3,et3⟩:=vP (F:=zA T14 d false) (q:=false) (a:=.lit (.str (mkS [111,114,100,101,114,32]))) (x:=mkS [111,114,100,101,114,32]) (j:=6) ⟨by unfold A7; decide,by decide⟩ ht2 (by decide) rfl et2
 have pre:∀ {r:R Fl},exL (zA T14 d false) (zA T14 d true) false (.for 2 .val [.p2 .index (.var 0) (.lit (.int 1))] zDq :: .ret (.p2 .add (.lit (.str (mkS [111,114,100,101,114,32]))) (.sm .join (.lit (.str (mkS [44,32]))) (.var 1))) :: f14_114.body.drop 1) [.tup [.str yM,.ref n],.ref J.length,.undef,.undef] (J++[.list []])=r->exL (zA T14 d false) (zA T14 d true) false f14_114.body ([.tup [.str yM,.ref n]]++List.replicate (f14_114.slots - f14_114.params) .undef) J=r:=fun kk =>
  s_t (zC rfl) (zL (v:=.ref J.length) rfl kk)
 exact ⟨t3,_,ht3.le (by decide),zG (fn:=f14_114) rfl rfl (pre (zBN ef (zH et3)))⟩
noncomputable def zOe:Str:=mkS [32,44,48,97,45,57,111,120,49]
theorem zMD:A7 zOe:=by unfold A7; decide
theorem zKH {t:Str} {k:Nat} (ht:Sm k t) (hk:k <= 4999) (c:Int):∃ t',Sm (k+1+k) t' /\ zA T14 (d+1) false 118 [.str t,.int c] J=.ok (.str t') J:=by
 obtain ⟨j,hj,hj2⟩:=jc ((c * 48271).fmod 10009) (m:=9) (by decide)
 replace hj:((c * 48271).fmod 10009).fmod 9=(j:Int):=hj
 obtain ⟨s,hs,e1⟩:=zPc (J:=J) zMD (j:=j) hj2
 generalize hat:((c * 48271).fmod 10037).fmod ((t.length:Int)+1)=at'
 have pre:∀ {r:R Fl},exL (zA T14 d false) (zA T14 d true) false (f14_118.body.drop 2) [.str t,.int c,.str s,.int at'] J=r->exL (zA T14 d false) (zA T14 d true) false f14_118.body ([.str t,.int c]++List.replicate (f14_118.slots - f14_118.params) .undef) J=r:=fun kk =>
  zL (zE (x:=.str zOe) rfl (y:=.int (j:Int)) (by rw [<- hj]; exact xJ (c:=c) rfl rfl rfl rfl rfl) e1) (zL (by rw [<- hat]; exact xJ (c:=c) rfl rfl (zE (zV rfl (zBE J t)) rfl rfl) rfl (by rw [beq_eq_false_iff_ne]; omega)) kk)
 have hk1:k+1 <= 10000:=by omega
 have hk2:k+1+k <= 10000:=by omega
 have cut:∀ {lo hi:Option CE} {x y:Option Int},evO (zA T14 d false) false lo [.str t,.int c,.str s,.int at'] J=.ok x J->evO (zA T14 d false) false hi [.str t,.int c,.str s,.int at'] J=.ok y J->evE (zA T14 d false) false (.slice (.var 0) lo hi) [.str t,.int c,.str s,.int at'] J=.ok (.str (Txt.slice t x y)) J:=fun h1 h2=>zOB ht.1 rfl h1 h2
 have h01:∀ n:Int,evE (zA T14 d false) false (.p2 .eq (.p2 .mod (.var 1) (.lit (.int 3))) (.lit (.int n))) [.str t,.int c,.str s,.int at'] J=.ok (.bool (c.fmod 3==n)) J:=fun n=>rfl
 have T3:∀ {x z:Str} {a e:CE},Sm k x->Sm k z->evE (zA T14 d false) false a [.str t,.int c,.str s,.int at'] J=.ok (.str x) J->evE (zA T14 d false) false e [.str t,.int c,.str s,.int at'] J=.ok (.str z) J ->
   ∃ t',Sm (k+1+k) t' /\ evE (zA T14 d false) false (.p2 .add (.p2 .add a (.var 2)) e) [.str t,.int c,.str s,.int at'] J=.ok (.str t') J:=fun hx hz ea ee=>by
  obtain ⟨u,hu,eu⟩:=vP (b:=.var 2) hx hs hk1 ea rfl
  exact vP hu hz hk2 eu ee
 cases h0:(c.fmod 3==0) with
 | true =>
  obtain ⟨t',h1,h2⟩:=T3 (ht.slice none (some at')) (ht.slice (some at') none) (cut (lo:=none) (hi:=some (.var 3)) rfl rfl) (cut (lo:=some (.var 3)) (hi:=none) rfl rfl)
  exact ⟨t',h1,zG (fn:=f14_118) rfl rfl (pre (s_t (zC (by rw [h01,h0])) (zH h2)))⟩
 | false =>
 cases h1:(c.fmod 3==1) with
 | true =>
  obtain ⟨t',g1,g2⟩:=T3 (ht.slice none (some at')) (ht.slice (some (at' + 1)) none) (cut (lo:=none) (hi:=some (.var 3)) rfl rfl) (cut (lo:=some (.p2 .add (.var 3) (.lit (.int 1)))) (hi:=none) rfl rfl)
  exact ⟨t',g1,zG (fn:=f14_118) rfl rfl (pre (s_f (zC (by rw [h01,h0])) (s_t (zC (by rw [h01,h1])) (zH g2))))⟩
 | false =>
  obtain ⟨t',g1,g2⟩:=vP (ht.slice none (some at')) (ht.slice (some (at' + 1)) none) (Nat.le_trans (Nat.add_le_add_right (Nat.le_add_right k 1) k) hk2) (cut (lo:=none) (hi:=some (.var 3)) rfl rfl) (cut (lo:=some (.p2 .add (.var 3) (.lit (.int 1)))) (hi:=none) rfl rfl)
  exact ⟨t',g1.le (Nat.add_le_add_right (Nat.le_add_right k 1) k),zG (fn:=f14_118) rfl rfl (pre (s_f (zC (by rw [h01,h0])) (s_f (zC (by rw [h01,h1])) (zH g2))))⟩
end
noncomputable def zOm (v:V):Prop:=∃ ys,v=.tup ys /\ ∀ y ∈ ys,(∃ s,y=.str s) \/ ∃ i,y=.int i
theorem zLM {J:Sto} {d:Nat} {v:V} (h:zOm v):Has J (d+2) v:=by
 obtain ⟨ys,rfl,h⟩:=h
 obtain ⟨zs,hz⟩:=zBc (J:=J) (d:=d+1) (xs:=ys) fun y hy=>by
  rcases h y hy with ⟨s,rfl⟩ | ⟨i,rfl⟩
  ·exact ⟨_,rfl⟩
  ·exact ⟨_,rfl⟩
 exact ⟨.tuple zs,by show (ys.mapM (xN J (d+1))).map PyData.tuple=_; rw [hz]; rfl⟩
theorem zNA {out:List (Int × Int)}:∀ v ∈ chL out,zOm v:=fun v hv=>by
 obtain ⟨p,_,rfl⟩:=List.mem_map.mp hv
 refine ⟨_,rfl,fun y hy=>?_⟩
 simp only [List.mem_cons,List.not_mem_nil,or_false] at hy
 rcases hy with rfl | rfl <;> exact .inr ⟨_,rfl⟩
theorem zLe {J:Sto} {i:Int}:ev2 .ne J (.int i) (.int i)=some (.bool false):=by rw [zLB,bne_self_eq_false]
section
variable {d:Nat} {J J':Sto} {ro ro':Nat->Role} {i a b e h o r m:Nat} {us:List Or} {hs rs xs:List V} {u:Or} {fv:V}
theorem LinesOf.read (h:LinesOf J xs fv) (H:List V):zK (fv :: H) 0=some fv:=by cases h <;> rfl
theorem LinesOf.len (h:LinesOf J xs fv):ev1 .len J fv=some (.int xs.length):=by
 cases h with
 | lst=>rfl
 | ref k hk=>exact xQ J hk
theorem LinesOf.inst (h:LinesOf J xs fv):ev1 (.isInst .list) J fv=some (.bool true):=by
 cases h with
 | lst=>rfl
 | ref k hk=>rw [zB3,zE6 J hk]; rfl
theorem LinesOf.index (h:LinesOf J xs fv) {j:Nat} {v:V} (hj:xs[j]?=some v):ev2 .index J fv (.int j)=some v:=by
 cases h with
 | lst=>exact yy J hj
 | ref k hk=>exact za J hk hj
theorem LinesOf.list (h:LinesOf J xs fv):ev1 .toList J fv=some (.lst xs):=by
 cases h with
 | lst=>rfl
 | ref n h=>show (match J[n]? with | some (.list xs)=>some xs | _=>none).map V.lst=_; rw [h]; rfl
theorem zNj (hf:LinesOf J xs fv) (hx:∀ v ∈ xs,zOm v) (hl:xs.length <= LIM):zA T14 (d+2) false 113 [fv,.lst xs] J=.ok (.bool true) J:=by
 have v0:∀ {F:Calls} {H:List V},evE F false (.var 0) (fv :: H) J=.ok fv J:=fun {F H}=>by rw [zu,hf.read]; rfl
 obtain ⟨H',J',ef,x2,x3,rfl,rfl⟩:=wZ (F:=zA T14 (d+1) false) (Fq:=zA T14 (d+1) true) (i:=2) (k:=.range1) (src:=[.p1 .len (.var 1)]) (body:=match f14_113.body with
   | [_,.for _ _ _ b,_]=>b
   | _=>[]) (H:=[fv,.lst xs,.undef,.undef]) (vs:=[.int xs.length]) (J:=J) (J1:=J) (it:=.now (zl 0 xs.length)) (xs:=zl 0 xs.length)
  (fun j H J'=>∃ x2 x3,H=[fv,.lst xs,x2,x3] /\ J'=J) (zD (zV rfl (zi J xs)) rfl) (yG J (by rw [Int.natAbs_natCast]; exact hl)) (fun _ _ _ _=>.inl rfl) ⟨_,_,rfl,rfl⟩ fun j x H J' hjj hI=>by
   obtain ⟨y2,y3,rfl,rfl⟩:=hI
   obtain ⟨rfl,hj⟩:=wF hjj
   have hv:xs[j]?=some xs[j]:=List.getElem?_eq_getElem hj
   have fl:=hx _ (List.mem_of_getElem? hv)
   generalize xs[j]=v at hv fl
   have hv3:Has J' yo v:=zLM fl
   obtain ⟨ys,rfl,hy⟩:=fl
   have i0:∀ {F:Calls} {z:V},evE F false (.p2 .index (.var 0) (.var 2)) [fv,.lst xs,.int j,z] J'=.ok (.tup ys) J':=zE v0 rfl (hf.index hv)
   obtain ⟨H'',J'',ef2,x3,rfl,rfl⟩:=wZ (F:=zA T14 (d+1) false) (Fq:=zA T14 (d+1) true) (i:=3) (k:=.val) (src:=[.p2 .index (.var 0) (.var 2)]) (body:=[.ite (.and (.p1 .not (.p1 (.isInst .str) (.var 3))) (.p1 .not (.call 101 [.var 3]))) [.ret (.lit (.bool false))] []]) (H:=[fv,.lst xs,.int j,y3]) (vs:=[.tup ys]) (J:=J') (J1:=J') (it:=.now ys) (xs:=ys)
    (fun _ H J''=>∃ x3,H=[fv,.lst xs,.int j,x3] /\ J''=J') (zD i0 rfl) rfl (fun _ _ _ _=>.inl rfl) ⟨_,rfl,rfl⟩ fun k x H J'' hk hI=>by
     obtain ⟨y,rfl,rfl⟩:=hI
     rcases hy x (List.mem_of_getElem? hk) with ⟨s,rfl⟩ | ⟨n,rfl⟩
     ·exact ⟨_,_,s_f (zC (yP rfl rfl)) rfl,_,rfl,rfl⟩
     ·exact ⟨_,_,s_f (zC (yJ rfl rfl (zV (zI rfl (zHV modTab14.t101 n)) rfl))) rfl,_,rfl,rfl⟩
   exact ⟨_,_,s_f (zC (zW (x:=.bool false) (zV (zV i0 rfl) rfl) rfl (zE i0 (zE rfl rfl (yy _ hv)) (zNQ hv3)))) (zA4 ef2 rfl),_,_,rfl,rfl⟩
 exact zG (fn:=f14_113) rfl rfl (s_f (zC (zW (x:=.bool false) (zV (zV v0 hf.inst) rfl) rfl (zE (zV v0 hf.len) (zV rfl (zi _ xs)) zLe))) (zA4 ef rfl))
end
end Mine
end

section
namespace Mine
open PySem
noncomputable def Deed.errR (us:List Or):Deed->Option Cls
 | .ord ls=>yA ls us.length
 | .pay o n=>(Deed.pay o n).err us
 | .ref o n=>(Deed.ref o n).err us
 | .mov o p n=>(Deed.mov o p n).err us
 | .lin w o k n=>(Deed.lin w o k n).err us
theorem Deed.errR_of {D:Deed} {us:List Or} (hn:∀ ls,D ≠ .ord ls):D.errR us=D.err us:=by
 cases D with
 | ord ls=>exact (hn ls rfl).elim
 | _=>rfl
theorem zGa {ls:List Ln} {n:Nat} (h1:1 <= ls.length):(yA ls n).isSome=((ls.findSome? yX).isSome||(decide ((ls.length:Int) > 20)||decide ((n:Int) > 39))):=by
 unfold yA yc zFC
 rw [decide_eq_true h1,Bool.true_and]
 by_cases h2:ls.length <= 20
 ·rw [decide_eq_true h2,if_pos rfl,decide_eq_false (show ¬ ((ls.length:Int) > 20) by omega),Bool.false_or]
  cases ls.findSome? yX with
  | some c=>rfl
  | none =>
   show (if 40 <= n then some Cls.FullBook else none).isSome=decide ((n:Int) > 39)
   by_cases h3:40 <= n
   ·rw [if_pos h3,decide_eq_true (show (n:Int) > 39 by omega)]; rfl
   ·rw [if_neg h3,decide_eq_false (show ¬ ((n:Int) > 39) by omega)]; rfl
 ·rw [decide_eq_false h2,if_neg (by decide),decide_eq_true (show (ls.length:Int) > 20 by omega),Bool.true_or,Bool.or_true]; rfl
theorem zKC {ls:List Ln} {m:Nat} (h:yA ls m=none):yc ls=none /\ m < 40:=by
 unfold yA at h
 cases hl:yc ls with
 | some c=>rw [hl] at h; cases h
 | none =>
  rw [hl] at h
  replace h:(if 40 <= m then some Cls.FullBook else none)=none:=h
  by_cases h3:40 <= m
  ·rw [if_pos h3] at h; cases h
  ·exact ⟨rfl,Nat.lt_of_not_le h3⟩
theorem Deed.fit_rd {D:Deed} {us:List Or} (hr:D.rd) (he:D.errR us=none):D.fit us:=by
 cases D with
 | ord ls =>
  obtain ⟨h1,h2⟩:=zKC he
  obtain ⟨h3,h4,h5⟩:=kx h1
  exact ⟨h3,h4,fun l hl=>⟨h5 l hl,(hr.2.2 l hl).1,(hr.2.2 l hl).2.1⟩,h2⟩
 | _=>trivial
section
variable {d:Nat} {q:Bool} {J:Sto} {ro:Nat->Role} {i a:Nat} {us:List Or} {rs:List V}
theorem zP1 {v:V}:zA T14 (d+1) false 119 [.none,v] J=.ok (.bool true) J:=zG (fn:=f14_119) rfl rfl (s_t (zC rfl) (zH rfl))
theorem zEC {dv:V} {w e:Str} {b:Bool} (hv:∀ H:List V,zK (dv :: H) 0=some dv) (h0:ev1 .isNone J dv=some (.bool false)) (h1:ev2 .index J dv (.int 0)=some (.str w)) (h2:ev2 .ne J (.str w) (.str yM)=some (.bool true))
  (hc:zA T14 d false 110 [dv,.ref a] J=.ok (.str e) J) (he:ev2 .ne J (.str e) (.str { cps:=#[] })=some (.bool b)):zA T14 (d+1) false 119 [dv,.ref a] J=.ok (.bool b) J:=by
 have v0:∀ {F:Calls} {H:List V},evE F false (.var 0) (dv :: H) J=.ok dv J:=fun {F H}=>by rw [zu,hv]; rfl
 exact zG (fn:=f14_119) rfl rfl (s_f (zC (zV v0 h0)) (s_t (zC (zE (zE v0 rfl h1) rfl h2)) (zH (zE (zI (zD v0 (zD rfl rfl)) hc) rfl he))))
theorem kc (o:Option Cls) (h:∀ c,o=some c->zAM c=true):ev2 .ne J (.str (yS o)) (.str { cps:=#[] })=some (.bool o.isSome):=by
 cases o with
 | none=>rfl
 | some c =>
  have:=h c rfl
  cases c <;> first | rfl | cases this
noncomputable def kY:List CS:=zLH f14_119.body[2]?
theorem zNt {l:Ln} (hr:l.rd) (v w y:V):(∀ c,yX l=some c->exL (zA T14 d false) (zA T14 d true) false kY ([v,w,y].set 2 l.raw) J=zCw J (.inr (.bool true))) /\
  (yX l=none->∃ H',exL (zA T14 d false) (zA T14 d true) false kY ([v,w,y].set 2 l.raw) J=.ok (.next H') J /\ ∃ x,H'=[v,w,x]):=by
 have hc:decide (l.c > 1000000000)=!(decide (0 <= l.c)&&decide (l.c <= 1000000000)):=by
  have h0:=hr.2.2.2.1
  rw [decide_eq_true h0,Bool.true_and]
  by_cases h:l.c <= 1000000000
  ·rw [decide_eq_true h,decide_eq_false (Int.not_lt.mpr h)]; rfl
  ·rw [decide_eq_false h,decide_eq_true (Int.not_le.mp h)]; rfl
 have e2:evE (zA T14 d false) false (.or (.p1 .not (.chain (.lit (.int 0)) [.lt,.lt] [.p2 .index (.var 2) (.lit (.int 1)),.lit (.int 1000001)]))
   (.or (.p2 .gt (.p2 .index (.var 2) (.lit (.int 2))) (.lit (.int 1000000000))) (.p1 .not (.chain (.lit (.int 0)) [.lt,.lt] [.p2 .index (.var 2) (.lit (.int 3)),.lit (.int 1001)])))) [v,w,l.raw] J=.ok (.bool !wa l) J:=by
  rw [zIU (zV (ja (lo:=0) (x:=l.p) (hi:=1000000+1) rfl rfl rfl) rfl) (zIU (zE (x:=.int l.c) (y:=.int 1000000000) rfl rfl (zDw J l.c 1000000000)) (zV (ja (lo:=0) (x:=l.k) (hi:=1000+1) rfl rfl rfl) rfl)),zF7 0 1000000,zF7 0 1000,hc]
  unfold wa
  rw [<- Bool.not_and,<- Bool.not_and]; rfl
 unfold yX
 show (∀ c,_->exL (zA T14 d false) (zA T14 d true) false kY [v,w,l.raw] J=_) /\ (_->∃ H',exL (zA T14 d false) (zA T14 d true) false kY [v,w,l.raw] J=_ /\ _)
 rw [if_pos hr.1]
 by_cases hn:wa l=true
 ·rw [if_pos hn]
  exact ⟨fun c h=>(nomatch h),fun _=>⟨[v,w,l.raw],s_f (zC (by rw [hn] at e2; exact e2)) rfl,_,rfl⟩⟩
 ·rw [if_neg hn]
  refine ⟨fun c h=>?_,fun h=>(nomatch h)⟩
  exact s_t (zC (by rw [Bool.eq_false_iff.mpr hn] at e2; exact e2)) (zH rfl)
theorem zP2 {ls:List Ln} (A:Acct J ro i a us rs) (h1:1 <= ls.length) (hr:∀ l ∈ ls,l.rd):zA T14 (d+1) false 119 [dO ls,.ref a] J=.ok (.bool (yA ls us.length).isSome) J:=by
 obtain ⟨g1,g2⟩:=ka (F:=zA T14 d false) (Fq:=zA T14 d true) (i:=2) (k:=.val) (src:=[.p2 .index (.var 0) (.lit (.int 1))]) (body:=kY) (H:=[dO ls,.ref a,.undef]) (vs:=[.lst (ls.map Ln.raw)]) (J:=J) (l:=ls) (φ:=Ln.raw) yX (fun c=>.inr (.bool true)) (fun H=>∃ x,H=[dO ls,.ref a,x]) rfl rfl (.inl rfl) ⟨_,rfl⟩
  fun l hm H hI=>by obtain ⟨y,rfl⟩:=hI; exact zNt (hr l hm) _ _ y
 rw [zGa h1]
 refine zG (fn:=f14_119) rfl rfl (s_f (zC rfl) (s_f (zC rfl) ?_))
 show exL (zA T14 d false) (zA T14 d true) false (.for 2 .val [.p2 .index (.var 0) (.lit (.int 1))] kY :: f14_119.body.drop 3) [dO ls,.ref a,.undef] J=_
 cases hf:ls.findSome? yX with
 | some c=>rw [yI,g1 c hf]; rfl
 | none =>
  obtain ⟨H',e',x,rfl⟩:=g2 hf
  refine zBN e' ?_
  show exL (zA T14 d false) (zA T14 d true) false (f14_119.body.drop 3) [dO ls,.ref a,x] J=R.ok (Fl.ret (V.bool (decide ((ls.length:Int) > 20)||decide ((us.length:Int) > 39)))) J
  exact zH (zIU (zE (zV (x:=.lst (ls.map Ln.raw)) rfl (zi J _)) rfl (by rw [List.length_map,zDw])) (zE (A.e_len rfl) rfl (zDw J _ _)))
theorem zKI {D:Deed} (A:Acct J ro i a us rs) (hok:∀ u ∈ us,u.ok) (hne:∀ u ∈ us,1 <= u.lines.length) (hr:D.rd):zA T14 (d+5) false 119 [D.v,.ref a] J=.ok (.bool (D.errR us).isSome) J:=by
 have key:=zIX (d:=d) modTab14 A hok hne D 0
 have ht:∀ c,D.err us=some c->zAM c=true:=fun c h=>D.told h
 cases D with
 | ord ls=>exact zP2 A hr.1 hr.2.2
 | pay o n=>exact zEC (fun _=>rfl) rfl rfl rfl key (kc _ ht)
 | ref o n=>exact zEC (fun _=>rfl) rfl rfl rfl key (kc _ ht)
 | mov o p n=>exact zEC (fun _=>rfl) rfl rfl rfl key (kc _ ht)
 | lin w o k n=>exact zEC (w:=w.s) (fun _=>rfl) rfl rfl (by cases w <;> rfl) key (kc _ ht)
end
noncomputable abbrev xd:=Option (List (Int × Int))
inductive T1 (us:List Or) (t:Str):List Or->xd->Prop
 | no (h:∀ (d:Nat) (J:Sto),zA T14 (d+3) false 31 [.str t] J=.exc .NoDeed J):T1 us t us none
 | bad (D:Deed) (c:Cls) (hr:D.rd) (h:∀ (d:Nat) (J:Sto),zA T14 (d+3) false 31 [.str t] J=.ok D.v J) (he:D.errR us=some c):T1 us t us none
 | ok (D:Deed) (us':List Or) (out:List (Int × Int)) (hr:D.rd) (h:∀ (d:Nat) (J:Sto),zA T14 (d+3) false 31 [.str t] J=.ok D.v J) (he:D.errR us=none) (S:Step us D us' out):T1 us t us' (some out)
inductive Tr:List (Str × xd)->List Or->List Or->Prop
 | nil (us:List Or):Tr [] us us
 | cons {t:Str} {o:xd} {l:List (Str × xd)} {us us1 us2:List Or} (h:T1 us t us1 o) (r:Tr l us1 us2):Tr ((t,o) :: l) us us2
theorem Tr.snoc {t:Str} {o:xd} {l:List (Str × xd)} {us us1 us2:List Or} (r:Tr l us us1) (h:T1 us1 t us2 o):Tr (l++[(t,o)]) us us2:=by
 induction r with
 | nil us=>exact .cons h (.nil _)
 | cons h1 _ ih=>exact .cons h1 (ih h)
structure Ust (N:Nat) (us:List Or):Prop where
 inv:∀ u ∈ us,u.inv
 one:∀ u ∈ us,1 <= u.lines.length
 rows:∀ u ∈ us,u.rows.length <= N
 paid:∀ u ∈ us,u.paid <= (N:Int) * 10 ^ 30
 len:us.length <= N
theorem Ust.mono {N M:Nat} {us:List Or} (h:Ust N us) (hm:N <= M):Ust M us:=
 ⟨h.inv,h.one,fun u hu=>Nat.le_trans (h.rows u hu) hm,fun u hu=>Int.le_trans (h.paid u hu) (Int.mul_le_mul_of_nonneg_right (Int.ofNat_le.mpr hm) (by decide)),Nat.le_trans h.len hm⟩
theorem Deed.num_lt {us us':List Or} {D:Deed} {out:List (Int × Int)} (S:Step us D us' out) {B:Int} (hB:0 <= B) (hr:D.rd) (h:∀ u ∈ us,u.paid <= B):∀ u ∈ us',u.paid <= B+10 ^ 30:=fun v hv=>by
 have key:∀ u ∈ us,∀ c:Int,c <= 10 ^ 30->u.paid+c <= B+10 ^ 30:=fun u hu c hc=>Int.add_le_add (h u hu) hc
 have old:v ∈ us->v.paid <= B+10 ^ 30:=fun hv=>by have:=key v hv 0 (by decide); rwa [Int.add_zero] at this
 cases S with
 | ord ls =>
  rcases List.mem_append.mp hv with hv | hv
  ·exact old hv
  ·rw [List.mem_singleton.mp hv]; show (0:Int) <= _; exact Int.add_nonneg hB (by decide)
 | pay o n u hu h1 =>
  rcases zX hv with hv | rfl
  ·exact old hv
  ·exact key u (List.mem_of_getElem? hu) n (Int.le_of_lt hr.2)
 | ref o n u hu h1 h2 =>
  rcases zX hv with hv | rfl
  ·exact old hv
  ·exact key u (List.mem_of_getElem? hu) (0 - n) (by omega)
 | mov o p n u u' hu hu' hop h1 h2 =>
  unfold vL at hv
  rcases zX hv with hv | rfl
  ·rcases zX hv with hv | rfl
   ·exact old hv
   ·exact key u (List.mem_of_getElem? hu) (0 - n) (by omega)
  ·exact key u' (List.mem_of_getElem? hu') n (Int.le_of_lt hr.2)
 | lin w o k n u l hu hl h1 h2 =>
  rcases zX hv with hv | rfl
  ·exact old hv
  ·have:=key u (List.mem_of_getElem? hu) 0 (by decide); rwa [Int.add_zero] at this
theorem Step.lined {us us':List Or} {D:Deed} {out:List (Int × Int)} (S:Step us D us' out) (hf:D.fit us) (h:∀ u ∈ us,1 <= u.lines.length):∀ u ∈ us',1 <= u.lines.length:=fun v hv=>by
 cases S with
 | ord ls =>
  rcases List.mem_append.mp hv with hv | hv
  ·exact h v hv
  ·rw [List.mem_singleton.mp hv]; show 1 <= (ls.map Ln.fresh).length; rw [List.length_map]; exact hf.1
 | pay o n u hu h1 =>
  rcases zX hv with hv | rfl
  ·exact h v hv
  ·exact h u (List.mem_of_getElem? hu)
 | ref o n u hu h1 h2 =>
  rcases zX hv with hv | rfl
  ·exact h v hv
  ·exact h u (List.mem_of_getElem? hu)
 | mov o p n u u' hu hu' hop h1 h2 =>
  unfold vL at hv
  rcases zX hv with hv | rfl
  ·rcases zX hv with hv | rfl
   ·exact h v hv
   ·exact h u (List.mem_of_getElem? hu)
  ·exact h u' (List.mem_of_getElem? hu')
 | lin w o k n u l hu hl h1 h2 =>
  rcases zX hv with hv | rfl
  ·exact h v hv
  ·show 1 <= (u.lines.set k _).length; rw [List.length_set]; exact h u (List.mem_of_getElem? hu)
theorem Ust.step {N:Nat} {us us':List Or} {D:Deed} {out:List (Int × Int)} (U:Ust N us) (S:Step us D us' out) (hf:D.fit us) (hr:D.rd):Ust (N+1) us':=by
 refine ⟨S.inv hf U.inv,S.lined hf U.one,S.rows U.rows,fun u hu=>?_,?_⟩
 ·have:=Deed.num_lt S (Int.mul_nonneg (Int.natCast_nonneg N) (by decide)) hr U.paid u hu
  rw [Int.natCast_add,Int.add_mul]
  exact this
 ·have h1:=S.len
  have h2:=U.len
  cases D <;> simp only at h1 <;> omega
theorem Ust.t1 {N:Nat} {us us':List Or} {t:Str} {o:xd} (U:Ust N us) (h:T1 us t us' o):Ust (N+1) us':=by
 cases h with
 | no _=>exact U.mono (Nat.le_succ N)
 | bad D c _ _ _=>exact U.mono (Nat.le_succ N)
 | ok D _ out hr _ he S=>exact U.step S (Deed.fit_rd hr he) hr
noncomputable def Deed.next (us:List Or):Deed->Option (List Or × List (Int × Int))
 | .ord ls=>some (us++[xB ls],[])
 | .pay o n=>us[o.toNat]?.map fun u=>(us.set o.toNat (xC u xK n),[(o,-n)])
 | .ref o n=>us[o.toNat]?.map fun u=>(us.set o.toNat (xC u xz (0 - n)),[(o,n)])
 | .mov o p n=>us[o.toNat]?.bind fun u=>us[p.toNat]?.map fun u'=>(vL us o.toNat p.toNat u u' n,[(o,n),(p,-n)])
 | .lin w o k n=>us[o.toNat]?.bind fun u=>u.lines[k.toNat]?.map fun l=>(us.set o.toNat (upL w u k.toNat l n),[(o,(zc w l n).charge - l.charge)])
theorem Step.next {us us':List Or} {D:Deed} {out:List (Int × Int)} (S:Step us D us' out):D.next us=some (us',out):=by
 cases S with
 | ord ls=>rfl
 | pay o n u hu h1=>show us[o]?.map _=_; rw [hu]; rfl
 | ref o n u hu h1 h2=>show us[o]?.map _=_; rw [hu]; rfl
 | mov o p n u u' hu hu' hop h1 h2=>show us[o]?.bind _=_; rw [hu]; show us[p]?.map _=_; rw [hu']; rfl
 | lin w o k n u l hu hl h1 h2=>show us[o]?.bind _=_; rw [hu]; show u.lines[k]?.map _=_; rw [hl]; rfl
theorem Step.det {us us1 us2:List Or} {D:Deed} {o1 o2:List (Int × Int)} (S1:Step us D us1 o1) (S2:Step us D us2 o2):us1=us2 /\ o1=o2:=
 Prod.mk.inj (Option.some.inj (S1.next.symm.trans S2.next))
theorem zNp {us:List Or} {D:Deed} {N:Nat} (U:Ust N us) (hN:N < LIM) (hn:∀ ls,D ≠ .ord ls) (he:D.err us=none):∃ us' out,Step us D us' out:=by
 have B:BookIn [.inst [(1,.ref 2),(0,.ref 1)],.list (us.map Or.v),.list []] 0 1 2 (us.map Or.v) []:=⟨rfl,rfl,rfl,by decide⟩
 have hd:=zPX (d:=0) xO B (fun u hu=>(U.inv u hu).ok) (fun u hu=>Nat.lt_of_le_of_lt (U.rows u hu) hN) (by decide) D (Deed.fit_of hn)
 cases hd with
 | no c _ h=>rw [he] at h; cases h
 | yes _ us' out _ _ _ S _ _ _=>exact ⟨us',out,S⟩
end Mine
end

section
namespace Mine
open PySem
noncomputable def wg:xd->V
 | none=>.none
 | some out=>chV out
section
variable {F Fq:Calls} {q:Bool} {H:List V} {J J1 J2:Sto} {a b e e':CE} {x v:V} {c:Cls} {k:Cls}
theorem zKy (hl:evE F q a H J=.ok x J1) (hi:xx J1 x=true) (hx:evE F q b H J1=.exc c J2):evE F q (.append a b) H J=.exc c J2:=by
 rw [zCX,hl,R.bind_ok,if_pos hi,hx]; rfl
theorem zK0 {f:Nat} {args:List CE} (ho:evE F q a H J=.ok x J1) (hi:isInst J1 x=true) (ha:evL F q args H J1=.exc c J2):evE F q (.callm f a args) H J=.exc c J2:=by
 rw [zEL,ho,R.bind_ok,if_pos hi,ha]; rfl
theorem zP7 {hs:List Hd} (h:evE F false e H J=.ok v J1):exS F Fq false (.try .exp e hs) H J=.ok (.next H) J1:=by
 rw [zOk,if_neg (by decide),h]; rfl
theorem zP8 (h1:evE F false e H J=.exc c J1) (hs:c.sub k=true) (h2:evE Fq true e' H J1=.ok v J2):exS F Fq false (.try .exp e [{ cls:=k,as:=none,tk:=.exp,e:=e' }]) H J=.ok (.next H) J2:=by
 rw [zOk,if_neg (by decide),h1]
 show (if c.sub k=true then ((evE Fq true e' H J1).calm.bind fun v J=>.ok (zLO none (zFe .exp v H)) J) else _)=_
 rw [if_pos hs,h2]; rfl
end
section
variable {d N:Nat} {J:Sto} {b e h:Nat} {us us':List Or} {hs:List V} {D:Deed} {c:Cls} {out:List (Int × Int)}
theorem zMP {c:Cls} (h:zAM c=true):c.sub .FlowError=true:=by cases c <;> first | rfl | cases h
theorem zKv {c:Cls} (h:zPL c=true):c.sub .FlowError=true:=by cases c <;> first | rfl | cases h
theorem zPN (B:BookIn J b e h (us.map Or.v) hs) (U:Ust N us) (hN:N < LIM) (hh:hs.length < LIM) (hr:D.rd) (he:D.errR us=some c):zA T14 (d+6) false 2 [.ref b,D.v] J=.exc c J /\ c.sub .FlowError=true:=by
 have oth:(∀ ls,D ≠ .ord ls)->zA T14 (d+6) false 2 [.ref b,D.v] J=.exc c J /\ c.sub .FlowError=true:=fun hn=>by
  rw [Deed.errR_of hn] at he
  have hd:=zPX (d:=d) xO B (fun u hu=>(U.inv u hu).ok) (fun u hu=>Nat.lt_of_le_of_lt (U.rows u hu) hN) hh D (Deed.fit_of hn)
  cases hd with
  | no c' er h'=>rw [he] at h'; cases h'; exact ⟨er,zMP (D.told he)⟩
  | yes _ _ _ _ _ h' _ _ _ _=>rw [he] at h'; cases h'
 cases D with
 | ord ls =>
  replace he:yA ls us.length=some c:=he
  exact ⟨zO4 (d:=d+2) xO B (v:=.lst (ls.map Ln.raw)) .lst (fun l hl=>(hr.2.2 l hl).2.1) (by rw [List.length_map]; exact he),zKv (zKB he)⟩
 | _=>exact oth fun _ h=>nomatch h
inductive Dn (J:Sto) (b e h:Nat) (us':List Or) (n:Nat) (v:V) (r:R V):Prop
 | mk (J':Sto) (hs':List V) (er:r=.ok v J') (B:BookIn J' b e h (us'.map Or.v) hs') (hl:hs'.length=n+1) (hk:∀ (m:Nat) (o:O),m ≠ e->m ≠ h->J[m]?=some o->J'[m]?=some o)
theorem zQr (B:BookIn J b e h (us.map Or.v) hs) (U:Ust N us) (hN:N < LIM) (hh:hs.length < LIM) (hr:D.rd) (he:D.errR us=none) (S:Step us D us' out):Dn J b e h us' hs.length (chV out) (zA T14 (d+6) false 2 [.ref b,D.v] J):=by
 have oth:(∀ ls,D ≠ .ord ls)->Dn J b e h us' hs.length (chV out) (zA T14 (d+6) false 2 [.ref b,D.v] J):=fun hn=>by
  rw [Deed.errR_of hn] at he
  have hd:=zPX (d:=d) xO B (fun u hu=>(U.inv u hu).ok) (fun u hu=>Nat.lt_of_le_of_lt (U.rows u hu) hN) hh D (Deed.fit_of hn)
  cases hd with
  | no c' er h'=>rw [he] at h'; cases h'
  | yes J' us₂ out2 hs' er h' S' B' hl hk =>
   obtain ⟨rfl,rfl⟩:=S.det S'
   exact .mk J' hs' er B' hl hk
 cases D with
 | ord ls =>
  replace he:yA ls us.length=none:=he
  cases S
  have hd:=zQj (d:=d+2) xO B (ls:=ls) (v:=.lst (ls.map Ln.raw)) .lst (fun l hl=>(hr.2.2 l hl).2.1) (by rw [List.length_map]; exact he) hh
  have Bn:=zGb (ls:=ls) B
  rw [show us.map Or.v++[(xB ls).v]=(us++[xB ls]).map Or.v by rw [List.map_append]; rfl] at Bn
  exact .mk _ _ hd Bn (by rw [List.length_append]; rfl) (fun m o h1 h2 hm=>zFM hm h1 h2)
 | _=>exact oth fun _ h=>nomatch h
noncomputable def zDr:List CS:=zLH f14_32.body[2]?
inductive Pt (J:Sto) (b e h f:Nat) (us':List Or) (n:Nat) (fs:List V) (H:List V) (r:R Fl):Prop
 | mk (J':Sto) (hs':List V) (er:r=.ok (.next H) J') (B:BookIn J' b e h (us'.map Or.v) hs') (hl:hs'.length <= n+1) (gf:J'[f]?=some (.list fs)) (hk:∀ (m:Nat) (o:O),m ≠ e->m ≠ h->m ≠ f->J[m]?=some o->J'[m]?=some o)
theorem BookIn.putF {f:Nat} {x:O} {es:List V} (B:BookIn J b e h es hs) (hb:f ≠ b) (he:f ≠ e) (hh:f ≠ h):BookIn (J.set f x) b e h es hs:=⟨zJ B.inst hb,zJ B.ent he,zJ B.his hh,B.ne⟩
theorem zNh {t:Str} {o:xd} {f:Nat} {fs:List V} {tx:V} (B:BookIn J b e h (us.map Or.v) hs) (U:Ust N us) (hN:N < LIM) (hh:hs.length < LIM) (h1:T1 us t us' o) (gf:J[f]?=some (.list fs)) (hl:fs.length < LIM) (fb:f ≠ b) (fe:f ≠ e) (fh:f ≠ h) :
  Pt J b e h f us' hs.length (fs++[wg o]) [tx,.ref b,.ref f,.str t] (exL (zA T14 (d+6) false) (zA T14 (d+6) true) false zDr [tx,.ref b,.ref f,.str t] J):=by
 have isl:xx J (.ref f)=true:=by show (xI _).isSome=true; rw [gf]; rfl
 have bad:∀ {c:Cls},c.sub .FlowError=true->evE (zA T14 (d+6) false) false (.append (.var 2) (.callm 2 (.var 1) [.call 31 [.var 3]])) [tx,.ref b,.ref f,.str t] J=.exc c J->us'=us->o=none ->
   Pt J b e h f us' hs.length (fs++[wg o]) [tx,.ref b,.ref f,.str t] (exL (zA T14 (d+6) false) (zA T14 (d+6) true) false zDr [tx,.ref b,.ref f,.str t] J):=fun hc he hu ho=>by
  subst hu; subst ho
  refine .mk (J.set f (.list (fs++[.none]))) hs (zBN (zP8 (v:=.none) he hc (zp rfl isl rfl (zk _ gf hl))) rfl) (B.putF fb fe fh) (Nat.le_succ _) (zm gf) (fun m o _ _ hm hx=>zJ hx (Ne.symm hm))
 cases h1 with
 | no hr=>exact bad (c:=.NoDeed) rfl (zKy rfl isl (zK0 rfl B.isInst (jZ (zI rfl (hr (d+3) J))))) rfl rfl
 | bad D c hr hd he =>
  obtain ⟨e1,e2⟩:=zPN (d:=d) B U hN hh hr he
  exact bad e2 (zKy rfl isl (zd rfl B.isInst (zD (zI rfl (hd (d+3) J)) rfl) e1)) rfl rfl
 | ok D _ out hr hd he S =>
  have dn:=zQr (d:=d) B U hN hh hr he S
  cases dn with
  | mk J' hs' er B' hl' hk =>
  have gf':=hk f _ fe fh gf
  have ev:evE (zA T14 (d+6) false) false (.append (.var 2) (.callm 2 (.var 1) [.call 31 [.var 3]])) [tx,.ref b,.ref f,.str t] J=.ok .none (J'.set f (.list (fs++[chV out]))):=
   zp rfl isl (zd rfl B.isInst (zD (zI rfl (hd (d+3) J)) rfl) er) (zk _ gf' hl)
  exact .mk _ hs' (zBN (zP7 ev) rfl) (B'.putF fb fe fh) (Nat.le_of_eq hl') (zm gf') (fun m o me mh hm hx=>zJ (hk m o me mh hx) (Ne.symm hm))
end
section
variable {d:Nat} {J0:Sto}
inductive PI (J0:Sto) (tx:V) (tr:List (Str × xd)) (usE:List Or) (j:Nat):List V->Sto->Prop
 | mk (J:Sto) (us:List Or) (hs:List V) (x3:V) (B:BookIn J J0.length (J0.length+1) (J0.length+2) (us.map Or.v) hs) (U:Ust j us) (hh:hs.length <= j) (R:Tr (tr.drop j) us usE)
   (gf:J[J0.length+3]?=some (.list ((tr.take j).map fun p=>wg p.2))) (hk:∀ (m:Nat) (x:O),m < J0.length->J0[m]?=some x->J[m]?=some x):PI J0 tx tr usE j [tx,.ref J0.length,.ref (J0.length+3),x3] J
theorem zNg {tx:V} {tr:List (Str × xd)} {usE:List Or} {j:Nat} {x:V} {H:List V} {J:Sto} (hl:tr.length < LIM) (hx:(tr.map fun p=>V.str p.1)[j]?=some x) (I:PI J0 tx tr usE j H J) :
  ∃ H' J',exL (zA T14 (d+6) false) (zA T14 (d+6) true) false zDr (H.set 3 x) J=.ok (.next H') J' /\ PI J0 tx tr usE (j+1) H' J':=by
 cases I with
 | mk _ us hs x3 B U hh R gf hk =>
 rw [List.getElem?_map] at hx
 obtain ⟨⟨t,o⟩,hp,rfl⟩:=map_some hx
 have hj:=(List.getElem?_eq_some_iff.mp hp).1
 have hjl:j < LIM:=Nat.lt_trans hj hl
 have hd:tr.drop j=(t,o) :: tr.drop (j+1):=by
  rw [List.drop_eq_getElem_cons hj]
  exact congrArg (· :: _) (List.getElem?_eq_some_iff.mp hp).2
 rw [hd] at R
 cases R with
 | cons h1 R' =>
 have:=zNh (d:=d) (tx:=tx) (f:=J0.length+3) B U hjl (Nat.lt_of_le_of_lt hh hjl) h1 gf (by rw [List.length_map]; exact Nat.lt_of_le_of_lt (List.length_take_le _ _) hjl) (by omega) (by omega) (by omega)
 cases this with
 | mk J' hs' er B' hl' gf' hk' =>
 refine ⟨_,J',er,.mk J' _ hs' _ B' (U.t1 h1) (Nat.le_trans hl' (Nat.succ_le_succ hh)) R' ?_ fun m x hm hx=>hk' m x (by omega) (by omega) (by omega) (hk m x hm hx)⟩
 rw [gf',List.take_add_one,hp,List.map_append]; rfl
inductive zOr (J0:Sto) (tr:List (Str × xd)) (usE:List Or) (r:R V):Prop
 | mk (J:Sto) (f:Nat) (er:r=.ok (.tup [.ref f,.lst (iv (usE.map Or.owed))]) J) (gf:J[f]?=some (.list (tr.map fun p=>wg p.2))) (hk:∀ (m:Nat) (x:O),m < J0.length->J0[m]?=some x->J[m]?=some x)
theorem zL6 {tr:List (Str × xd)} {usE:List Or} (hl:tr.length < LIM) (R:Tr tr [] usE):zOr J0 tr usE (zA T14 (d+7) false 32 [.lst (tr.map fun p=>V.str p.1)] J0):=by
 have hlen:(xM J0).length=J0.length+3:=by unfold xM; rw [List.length_append]; rfl
 have B0:BookIn (xM J0++[O.list []]) J0.length (J0.length+1) (J0.length+2) (([]:List Or).map Or.v) []:=(zGV (J:=J0)).push _
 obtain ⟨H',J',ef,I⟩:=wZ (F:=zA T14 (d+6) false) (Fq:=zA T14 (d+6) true) (i:=3) (k:=.val) (src:=[.var 0]) (body:=zDr) (H:=[.lst (tr.map fun p=>V.str p.1),.ref J0.length,.ref (J0.length+3),.undef]) (vs:=[.lst (tr.map fun p=>V.str p.1)]) (J:=xM J0++[O.list []]) (J1:=xM J0++[O.list []]) (it:=.now (tr.map fun p=>V.str p.1)) (xs:=tr.map fun p=>V.str p.1)
  (PI J0 (.lst (tr.map fun p=>V.str p.1)) tr usE) rfl rfl (fun _ _ _ _=>.inl rfl)
  (.mk _ [] [] _ B0 ⟨(fun _ h=>nomatch h),(fun _ h=>nomatch h),(fun _ h=>nomatch h),(fun _ h=>nomatch h),Nat.le_refl _⟩ (Nat.le_refl _) R (by rw [<- hlen]; exact yx) fun m x hm hx=>xZ (by unfold xM; exact (List.getElem?_append_left hm).trans hx))
  fun j x H J hx I=>zNg hl hx I
 rw [List.length_map] at I
 cases I with
 | mk _ us hs x3 B U hh R' gf hk =>
 rw [List.drop_length] at R'
 cases R'
 rw [List.take_length] at gf
 refine .mk J' (J0.length+3) (zG (fn:=f14_32) rfl rfl (zL (v:=.ref J0.length) (zQl (d:=d+5) xO) (zL (v:=.ref (J0.length+3)) (J':=xM J0++[O.list []]) (by rw [<- hlen]; rfl) (zBN ef (zH (yk (zD rfl (zD ?_ rfl)))))))) gf hk
 have hu:(usE.map Or.v).length=usE.length:=List.length_map ..
 have huL:usE.length <= LIM:=Nat.le_of_lt (Nat.lt_of_le_of_lt U.len hl)
 refine jX (vs:=[.int usE.length]) (it:=.now (zl 0 usE.length)) (xs:=zl 0 usE.length) (zD (zd rfl B.isInst rfl (by rw [zKc (d:=d+5) xO B,hu])) rfl) (yG _ (by rw [Int.natAbs_natCast]; exact huL)) (.inl rfl) (by rw [wp]; exact huL) (by rw [wp,vT,List.length_map]) fun j x hx=>?_
 obtain ⟨rfl,hj⟩:=wF hx
 have hju:usE[j]?=some usE[j]:=List.getElem?_eq_getElem hj
 refine ⟨.int usE[j].owed,by unfold iv; rw [List.getElem?_map,List.getElem?_map,hju]; rfl,?_⟩
 have iu:=U.inv usE[j] (List.getElem_mem hj)
 exact zd rfl B.isInst rfl (zF0 (d:=d+3) xO B (wW hju) iu.ok.lim fun l hl=>(iu.ls l hl).ok)
end
end Mine
end

section
namespace Mine
open PySem
theorem zNF {j n:Nat} (h:j < n / 2):2 * j+1 < n:=Nat.lt_of_lt_of_le (show 2 * j+1 < 2 * (j+1) from Nat.lt_succ_self _) (Nat.le_trans (Nat.mul_le_mul_left 2 h) (Nat.mul_div_le n 2))
section
variable {F:Calls} {J:Sto}
theorem zK1 {H:List V} {l:List Int} {k:Nat} (h0:zK H 0=some (.lst (iv l))) (h4:zK H 5=some (.int (k:Int))) (hk:2 * k < l.length):evE F false (.p2 .index (.var 0) (.p2 .mul (.lit (.int 2)) (.var 5))) H J=.ok (.int (gI l (2 * k))) J:=
 zE (by rw [zu,h0]; rfl) (zE rfl (by rw [zu,h4]; rfl) (by rw [yW J 2 k (.inl rfl),show (2 * (k:Int))=((2 * k:Nat):Int) from rfl])) (zAY J hk)
theorem zOC {H:List V} {l:List Int} {k:Nat} (h0:zK H 0=some (.lst (iv l))) (h4:zK H 5=some (.int (k:Int))) (hk:2 * k+1 < l.length):evE F false (.p2 .index (.var 0) (.p2 .add (.p2 .mul (.lit (.int 2)) (.var 5)) (.lit (.int 1)))) H J=.ok (.int (gI l (2 * k+1))) J:=
 zE (by rw [zu,h0]; rfl) (zE (zE rfl (by rw [zu,h4]; rfl) (yW J 2 k (.inl rfl))) rfl (by rw [zHQ,show (2 * (k:Int)+1)=((2 * k+1:Nat):Int) from rfl])) (zAY J hk)
end
structure St14 (J:Sto) (ro:Nat->Role) (us:List Or) (rs:List V) (tr:List (Str × xd)) (K:Nat):Prop where
 g0:J[0]?=some (.list (tr.map fun p=>V.str p.1))
 g1:J[1]?=some (.list (tr.map fun p=>wg p.2))
 r0:ro 0=.other
 r1:ro 1=.other
 A:Acct J ro 0 2 us rs
 U:Ust K us
 R:Tr tr [] us
 len:tr.length=K
section
variable {d:Nat} {J J':Sto} {ro ro':Nat->Role} {us us':List Or} {rs rs':List V} {tr:List (Str × xd)} {K:Nat}
theorem Acct.ne {m:Nat} (hm:ro m=.other) {n:Nat} (h:wn 0 (ro n)):n ≠ m:=fun e=>by
 rw [e,hm] at h; exact zLc (.inr (by decide)) h
theorem Acct.put {i a m:Nat} {x:O} (A:Acct J ro 0 a us rs) (hm:ro m=.other):Acct (J.set m x) ro 0 a us rs:=
 A.keep fun n y hn hy=>⟨zJ hy (Ne.symm (Acct.ne hm hn)),rfl⟩
theorem Acct.more {a:Nat} {l:Sto} (A:Acct J ro 0 a us rs):Acct (J++l) ro 0 a us rs:=
 A.keep fun n y hn hy=>⟨(List.getElem?_append_left (List.getElem?_eq_some_iff.mp hy).1).trans hy,rfl⟩
theorem zE0 {n:Nat} {x:O} {l:Sto} (h:J[n]?=some x):(J++l)[n]?=some x:=(List.getElem?_append_left (List.getElem?_eq_some_iff.mp h).1).trans h
theorem St14.more {l:Sto} (W:St14 J ro us rs tr K):St14 (J++l) ro us rs tr K:=⟨zE0 W.g0,zE0 W.g1,W.r0,W.r1,W.A.more,W.U,W.R,W.len⟩
noncomputable def zCI (J:Sto) (tr:List (Str × xd)) (t:Str):Sto:=J.set 0 (.list (tr.map (fun p=>V.str p.1)++[.str t]))
theorem St14.acc0 {t:Str} (W:St14 J ro us rs tr K):Acct (zCI J tr t) ro 0 2 us rs:=W.A.put (i:=0) W.r0
theorem St14.due0 {t:Str} (W:St14 J ro us rs tr K):(zCI J tr t)[1]?=some (.list (tr.map fun p=>wg p.2)):=zJ W.g1 (by decide)
theorem St14.txt0 {t:Str} (W:St14 J ro us rs tr K):(zCI J tr t)[0]?=some (.list ((tr.map fun p=>V.str p.1)++[.str t])):=zm W.g0
theorem St14.next {t:Str} {o:xd} {J2:Sto} (W:St14 J ro us rs tr K) (h:T1 us t us' o) (h0:J2[0]?=some (.list ((tr.map fun p=>V.str p.1)++[.str t]))) (h1:J2[1]?=some (.list (tr.map fun p=>wg p.2))) (r0:ro' 0=.other) (r1:ro' 1=.other) (A:Acct J2 ro' 0 2 us' rs') :
  St14 (J2.set 1 (.list ((tr.map fun p=>wg p.2)++[wg o]))) ro' us' rs' (tr++[(t,o)]) (K+1):=
 ⟨by rw [List.map_append]; exact zJ h0 (by decide),by rw [List.map_append]; exact zm h1,r0,r1,A.put (i:=0) r1,W.U.t1 h,W.R.snoc h,by rw [List.length_append,W.len]; rfl⟩
inductive Dt (J:Sto) (s x4 x6 x7:V) (k:Int) (e:CE):Prop
 | mk (t:Str) (l:Sto) (ht:Sm 4026 t) (ev:evE (zA T14 (d+7) false) false e [s,.ref 0,.ref 1,.ref 2,x4,.int k,x6,x7,.undef,.undef,.undef] J=.ok (.str t) (J++l)):Dt J s x4 x6 x7 k e
theorem zF9 {l:List Int} {x4 x6 x7:V} {k:Nat} (W:St14 J ro us rs tr K) (hK:K <= 1000) (hk:2 * k+1 < l.length) :
  Dt (d:=d) J (.lst (iv l)) x4 x6 x7 k (.call 114 [.call 109 [.p2 .index (.var 0) (.p2 .mul (.lit (.int 2)) (.var 5)),.p2 .index (.var 0) (.p2 .add (.p2 .mul (.lit (.int 2)) (.var 5)) (.lit (.int 1))),.var 3]]):=by
 have hp:∀ u ∈ us,u.paid <= PB:=fun u hu=>Int.le_trans (W.U.paid u hu) (Int.le_trans (Int.mul_le_mul_of_nonneg_right (Int.ofNat_le.mpr hK) (by decide)) (by decide +kernel))
 have hd:=zNE (d:=d+3) modTab14 W.A W.U.inv (Nat.le_trans W.U.len hK) hp (gI l (2 * k)) (gI l (2 * k+1))
 have ev:∀ {v:V} {J1:Sto},zA T14 (d+7) false 109 [.int (gI l (2 * k)),.int (gI l (2 * k+1)),.ref 2] J=.ok v J1->evL (zA T14 (d+7) false) false [.call 109 [.p2 .index (.var 0) (.p2 .mul (.lit (.int 2)) (.var 5)),.p2 .index (.var 0) (.p2 .add (.p2 .mul (.lit (.int 2)) (.var 5)) (.lit (.int 1))),.var 3]] [.lst (iv l),.ref 0,.ref 1,.ref 2,x4,.int (k:Int),x6,x7,.undef,.undef,.undef] J=.ok [v] J1:=fun h =>
  zD (zI (zD (zK1 rfl rfl (Nat.lt_of_succ_lt hk)) (zD (zOC rfl rfl hk) (zD rfl rfl))) h) rfl
 cases hd with
 | ord ls hf h4 er =>
  obtain ⟨t,y,ht,et⟩:=zNl (d:=d+6) (J:=J++[.list (ls.map Ln.raw)]) (n:=J.length) hf.2.1 hf.2.2.1 yx
  exact .mk t ([.list (ls.map Ln.raw)]++[y]) ht (by rw [<- List.append_assoc]; exact zI (ev er) et)
 | oth D hn hz er =>
  obtain ⟨t,ht,et⟩:=zNk (d:=d+6) (J:=J) hn hz
  exact .mk t [] ht (by rw [List.append_nil]; exact zI (ev er) et)
inductive I14 (s x4:V) (K:Nat):List V->Sto->Prop
 | mk (J:Sto) (ro:Nat->Role) (us:List Or) (rs:List V) (tr:List (Str × xd)) (x5 x6 x7:V) (W:St14 J ro us rs tr K):I14 s x4 K [s,.ref 0,.ref 1,.ref 2,x4,x5,x6,x7,.undef,.undef,.undef] J
noncomputable def body14:List CS:=zLH f14_120.body[5]?
theorem zDg {l:List Int} {x4 x7:V} {k:Int} {t:Str} (W:St14 J ro us rs tr K) (hK:K <= 1000) (ht:Sm 8900 t):∃ H' J',exL (zA T14 (d+7) false) (zA T14 (d+7) true) false (body14.drop 2) [.lst (iv l),.ref 0,.ref 1,.ref 2,x4,.int k,.str t,x7,.undef,.undef,.undef] J=.ok (.next H') J' /\ I14 (.lst (iv l)) x4 (K+1) H' J':=by
 have hKL:K < LIM:=Nat.lt_of_le_of_lt hK (by decide)
 have hlen:∀ {f:Str × xd->V},(tr.map f).length < LIM:=fun {f}=>by rw [List.length_map,W.len]; exact hKL
 have isl:∀ {J:Sto} {n:Nat} {xs:List V},J[n]?=some (.list xs)->xx J (.ref n)=true:=fun {J n xs} h=>by show (xI _).isSome=true; rw [h]; rfl
 obtain ⟨o,h1,h2,h3⟩:=zRw ht.1 ht.2
 have A0:=W.acc0 (t:=t)
 have d0:=W.due0 (t:=t)
 have t0:=W.txt0 (t:=t)
 have pre:∀ {v:V} {b:Bool} {r:R Fl},(∀ H:List V,zK ([.lst (iv l),.ref 0,.ref 1,.ref 2,x4,.int k,.str t,v,.undef,.undef,.undef]:List V) 7=some v)->o.getD .none=v->zA T14 (d+7) false 119 [v,.ref 2] (zCI J tr t)=.ok (.bool b) (zCI J tr t) ->
   exL (zA T14 (d+7) false) (zA T14 (d+7) true) false [if b=true then .exp (.append (.var 2) (.lit .none)) else .exp (.append (.var 2) (.call 112 [.var 7,.var 3]))] [.lst (iv l),.ref 0,.ref 1,.ref 2,x4,.int k,.str t,v,.undef,.undef,.undef] (zCI J tr t)=r ->
   exL (zA T14 (d+7) false) (zA T14 (d+7) true) false (body14.drop 2) [.lst (iv l),.ref 0,.ref 1,.ref 2,x4,.int k,.str t,x7,.undef,.undef,.undef] J=r:=fun {v b r} hv ho hr kk=>by
  refine ym (zp (x:=.ref 0) rfl (isl W.g0) rfl (zk _ W.g0 hlen)) (zL (v:=v) (zI rfl (by rw [<- ho]; exact h2 (d+4) _)) ?_)
  have ec:evC (zA T14 (d+7) false) false (some (.call 119 [.var 7,.var 3])) [.lst (iv l),.ref 0,.ref 1,.ref 2,x4,.int k,.str t,v,.undef,.undef,.undef] (zCI J tr t)=.ok b (zCI J tr t):=zC (zI (zD (by rw [zu,hv []]; rfl) (zD rfl rfl)) hr)
  cases b with
  | true=>exact s_t ec kk
  | false=>exact s_f ec kk
 have bad:∀ {v:V},(∀ H:List V,zK ([.lst (iv l),.ref 0,.ref 1,.ref 2,x4,.int k,.str t,v,.undef,.undef,.undef]:List V) 7=some v)->o.getD .none=v->zA T14 (d+7) false 119 [v,.ref 2] (zCI J tr t)=.ok (.bool true) (zCI J tr t)->T1 us t us none ->
   ∃ H' J',exL (zA T14 (d+7) false) (zA T14 (d+7) true) false (body14.drop 2) [.lst (iv l),.ref 0,.ref 1,.ref 2,x4,.int k,.str t,x7,.undef,.undef,.undef] J=.ok (.next H') J' /\ I14 (.lst (iv l)) x4 (K+1) H' J':=fun {v} hv ho hr hT =>
  ⟨_,_,pre hv ho hr (ym (zp (x:=.ref 1) rfl (isl d0) rfl (zk _ d0 hlen)) rfl),.mk _ ro us rs (tr++[(t,none)]) _ _ _ (W.next hT t0 d0 W.r0 W.r1 A0)⟩
 cases o with
 | none=>exact bad (v:=.none) (fun _=>rfl) rfl (zP1 (d:=d+6)) (.no fun d J=>h1 d J)
 | some v =>
  have hD:=h3 v rfl
  cases hD with
  | mk D hr =>
  have rd:∀ (d:Nat) (J:Sto),zA T14 (d+3) false 31 [.str t] J=.ok D.v J:=fun d J=>h1 d J
  have hv:∀ H:List V,zK ([.lst (iv l),.ref 0,.ref 1,.ref 2,x4,.int k,.str t,D.v,.undef,.undef,.undef]:List V) 7=some D.v:=fun _=>by cases D <;> rfl
  have rf:=zKI (d:=d+2) A0 (fun u hu=>(W.U.inv u hu).ok) W.U.one hr
  cases he:D.errR us with
  | some c=>rw [he] at rf; exact bad hv rfl rf (.bad D c hr rd he)
  | none =>
   rw [he] at rf
   have hS:∃ us' out,Step us D us' out:=by
    rcases D.ord_or with hn | ⟨ls,rfl⟩
    ·exact zNp W.U hKL hn (by rw [<- Deed.errR_of hn]; exact he)
    ·exact ⟨_,_,.ord ls⟩
   obtain ⟨us',out,S⟩:=hS
   have st:=zLL (d:=d+4) modTab14 A0 (fun u hu=>(W.U.inv u hu).ok) (fun u hu=>Nat.lt_of_le_of_lt (W.U.rows u hu) hKL) (Nat.lt_of_le_of_lt W.U.len hKL) S (Deed.fit_rd hr he) (DeedAt.val D)
   cases st with
   | mk J2 ro2 rs₂ er A2 hro hk =>
   have n0:¬ wn 0 (ro 0):=by rw [W.r0]; exact zLc (.inr (by decide))
   have n1:¬ wn 0 (ro 1):=by rw [W.r1]; exact zLc (.inr (by decide))
   have d2:=hk 1 _ n1 d0
   exact ⟨_,_,pre hv rfl rf (ym (zp (x:=.ref 1) rfl (isl d0) (zI (zD (by rw [zu,hv []]; rfl) (zD rfl rfl)) er) (zk _ d2 hlen)) rfl),.mk _ ro2 us' rs₂ (tr++[(t,some out)]) _ _ _ (W.next (.ok D us' out hr rd he S) (hk 0 _ n0 t0) d2 ((hro 0 _ t0).trans W.r0) ((hro 1 _ d0).trans W.r1) A2)⟩
theorem zQH {l:List Int} {x4:V} {k:Nat} {H:List V} (hK:K <= 1000) (hk:2 * k+1 < l.length) (I:I14 (.lst (iv l)) x4 K H J):∃ H' J',exL (zA T14 (d+7) false) (zA T14 (d+7) true) false body14 (H.set 5 (.int (k:Int))) J=.ok (.next H') J' /\ I14 (.lst (iv l)) x4 (K+1) H' J':=by
 cases I with
 | mk _ ro us rs tr x5 x6 x7 W =>
 have dt:=zF9 (d:=d) (x4:=x4) (x6:=x6) (x7:=x7) W hK hk
 cases dt with
 | mk t l' ht ev =>
 have W1:=W.more (l:=l')
 have e6:∀ {H:List V},zK H 0=some (.lst (iv l))->zK H 5=some (.int (k:Int))->evE (zA T14 (d+7) false) false (.p2 .eq (.p2 .mod (.p2 .mod (.p2 .mul (.p2 .index (.var 0) (.p2 .mul (.lit (.int 2)) (.var 5))) (.lit (.int 48271))) (.lit (.int 10111))) (.lit (.int 6))) (.lit (.int 0))) H (J++l')=.ok (.bool (((gI l (2 * k) * 48271).fmod 10111).fmod 6==0)) (J++l'):=fun h0 h5 =>
  zE (xJ (zK1 h0 h5 (Nat.lt_of_succ_lt hk)) rfl rfl rfl rfl) rfl rfl
 cases hb:(((gI l (2 * k) * 48271).fmod 10111).fmod 6==0) with
 | true =>
  obtain ⟨t',ht',ec⟩:=zKH (d:=d+6) (J:=J++l') ht (by decide) (gI l (2 * k+1))
  obtain ⟨H',J',e,I⟩:=zDg (d:=d) (l:=l) (x4:=x4) (x7:=x7) (k:=(k:Int)) W1 hK (ht'.le (by decide))
  exact ⟨H',J',zL ev (s_t (zC (by rw [<- hb]; exact e6 rfl rfl)) (zL (zI (zD rfl (zD (zOC rfl rfl hk) rfl)) ec) e)),I⟩
 | false =>
  obtain ⟨H',J',e,I⟩:=zDg (d:=d) (l:=l) (x4:=x4) (x7:=x7) (k:=(k:Int)) W1 hK (ht.le (by decide))
  exact ⟨H',J',zL ev (s_f (zC (by rw [<- hb]; exact e6 rfl rfl)) e),I⟩
end
end Mine
end

section
namespace Mine
open PySem
noncomputable def t0:Str:=mkS ([111,114,100,101,114]++32 :: [97,32,49,32,49,32,49])
noncomputable def ln0:Ln:={ item:=mkS [97],p:=1,c:=1,k:=1,s:=0,b:=0,a:=0,r:=0 }
theorem ln0_good:ln0.good:=⟨⟨by decide,by decide,by decide,by decide,by decide,by decide⟩,by decide,zKW (by decide)⟩
theorem zGP:(Deed.ord [ln0]).rd:=⟨by decide,by decide,fun l hl=>by
 rw [List.mem_singleton.mp hl]; exact ⟨ln0_good.item,ln0_good.asc,by decide,by decide,by decide⟩⟩
theorem zOX (d:Nat) (J:Sto):zA T14 (d+3) false 31 [.str t0] J=.ok (Deed.ord [ln0]).v J:=by
 have hB:=zBA (r:=[97,32,49,32,49,32,49]) (by decide) (by unfold A7; decide)
 cases hB with
 | mk h1 h2 h3 =>
 have s1:Txt.split (mkS [97,32,49,32,49,32,49]) zCj=[mkS [97,32,49,32,49,32,49]]:=by decide +kernel
 have s2:Txt.split (mkS [97,32,49,32,49,32,49]) sp=[mkS [97],mkS [49],mkS [49],mkS [49]]:=by decide +kernel
 have n1:zj (mkS [49])=some 1:=by decide +kernel
 have hp:yr (mkS [97,32,49,32,49,32,49])=some ln0.raw:=by
  unfold yr
  rw [s2]
  show (if zh (mkS [97])=true then (zj (mkS [49])).bind fun a=>(zj (mkS [49])).bind fun b=>(zj (mkS [49])).map fun c=>V.tup [.str (mkS [97]),.int a,.int b,.int c] else none)=_
  rw [if_pos (by decide),n1]; rfl
 have:=h1 d J
 rw [s1,List.mapM_cons,hp] at this
 exact this
theorem zQw {us:List Or}:(Deed.ord [ln0]).errR us=if 40 <= us.length then some .FullBook else none:=rfl
section
variable {d:Nat} {J J':Sto} {ro ro':Nat->Role} {us us':List Or} {rs rs':List V} {tr:List (Str × xd)} {K:Nat}
noncomputable def body0:List CS:=zLH f14_120.body[4]?
inductive B14 (s x4:V) (j:Nat):List V->Sto->Prop
 | mk (J:Sto) (ro:Nat->Role) (us:List Or) (rs:List V) (tr:List (Str × xd)) (x5:V) (W:St14 J ro us rs tr j) (hu:us.length=min j 40):B14 s x4 j [s,.ref 0,.ref 1,.ref 2,x4,x5,.undef,.undef,.undef,.undef,.undef] J
theorem zNi {xs:List V} {x y:V}:(xs++[x]).set xs.length y=xs++[y]:=by
 rw [List.set_append_right _ _ (Nat.le_refl _),Nat.sub_self]; rfl
theorem zRg {s x4:V} {j:Nat} {H:List V} (hj:j < 41) (I:B14 s x4 j H J):∃ H' J',exL (zA T14 (d+7) false) (zA T14 (d+7) true) false body0 (H.set 5 (.int (j:Int))) J=.ok (.next H') J' /\ B14 s x4 (j+1) H' J':=by
 cases I with
 | mk _ ro us rs tr x5 W hu =>
 have hKL:j < LIM:=Nat.lt_trans hj (by decide)
 have hlen:∀ {f:Str × xd->V},(tr.map f).length < LIM:=fun {f}=>by rw [List.length_map,W.len]; exact hKL
 have isl:∀ {J:Sto} {n:Nat} {xs:List V},J[n]?=some (.list xs)->xx J (.ref n)=true:=fun {J n xs} h=>by show (xI _).isSome=true; rw [h]; rfl
 have d0:=W.due0 (t:=t0)
 have tx:=W.txt0 (t:=t0)
 have A0:=W.acc0 (t:=t0)
 generalize hJ1:(zCI J tr t0).set 1 (.list ((tr.map fun p=>wg p.2)++[.none]))=J1
 have pre:∀ {r:R Fl},exL (zA T14 (d+7) false) (zA T14 (d+7) true) false (body0.drop 2) [s,.ref 0,.ref 1,.ref 2,x4,.int (j:Int),.undef,.undef,.undef,.undef,.undef] J1=r->exL (zA T14 (d+7) false) (zA T14 (d+7) true) false body0 [s,.ref 0,.ref 1,.ref 2,x4,.int (j:Int),.undef,.undef,.undef,.undef,.undef] J=r:=fun kk =>
  ym (zp (x:=.ref 0) rfl (isl W.g0) rfl (zk _ W.g0 hlen)) (ym (zp (x:=.ref 1) rfl (isl d0) rfl (zk _ d0 hlen)) (by rw [<- hJ1] at kk; exact kk))
 by_cases h40:j < 40
 ·have hul:us.length < 40:=by rw [hu]; exact Nat.lt_of_le_of_lt (Nat.min_le_left j 40) h40
  have he:(Deed.ord [ln0]).errR us=none:=by rw [zQw,if_neg (Nat.not_le.mpr hul)]
  have hd1:J1[1]?=some (.list ((tr.map fun p=>wg p.2)++[.none])):=by rw [<- hJ1]; exact zm d0
  have ht1:J1[0]?=some (.list ((tr.map fun p=>V.str p.1)++[.str t0])):=by rw [<- hJ1]; exact zJ tx (by decide)
  have A1:Acct J1 ro 0 2 us rs:=by rw [<- hJ1]; exact A0.put (i:=0) W.r1
  have st:=zLL (d:=d+4) modTab14 A1 (fun u hu=>(W.U.inv u hu).ok) (fun u hu=>Nat.lt_of_le_of_lt (W.U.rows u hu) hKL) (Nat.lt_of_le_of_lt W.U.len hKL) (Step.ord [ln0]) (Deed.fit_rd zGP he) (DeedAt.val (Deed.ord [ln0]))
  cases st with
  | mk J2 ro2 rs₂ er A2 hro hk =>
  have n0:¬ wn 0 (ro 0):=by rw [W.r0]; exact zLc (.inr (by decide))
  have n1:¬ wn 0 (ro 1):=by rw [W.r1]; exact zLc (.inr (by decide))
  have d2:=hk 1 _ n1 hd1
  have t2:=hk 0 _ n0 ht1
  have hjl:j < ((tr.map fun p=>wg p.2)++[V.none]).length:=by rw [List.length_append,List.length_map,W.len]; exact Nat.lt_succ_self j
  have T:T1 us t0 (us++[xB [ln0]]) (some []):=.ok _ _ _ zGP zOX he (.ord [ln0])
  refine ⟨_,_,pre (s_t (zC (t:=true) (zE rfl rfl (by rw [xY,decide_eq_true (show (j:Int) < 40 from Int.ofNat_lt.mpr h40)]))) (xU (zI rfl er) rfl rfl (vG _ d2 hjl) rfl)),.mk _ ro2 (us++[xB [ln0]]) rs₂ (tr++[(t0,some [])]) _ ?_ (by rw [List.length_append,hu]; show min j 40+1=_; rw [Nat.min_eq_left (Nat.le_of_lt h40),Nat.min_eq_left h40])⟩
  have e1:(List.map (fun p:Str × xd=>wg p.2) tr++[V.none]).set j (chV [])=(tr.map fun p=>wg p.2)++[wg (some [])]:=by
   have:=zNi (xs:=tr.map fun p:Str × xd=>wg p.2) (x:=V.none) (y:=chV [])
   rw [List.length_map,W.len] at this
   exact this
  rw [e1]
  exact ⟨by rw [List.map_append]; exact zJ t2 (by decide),by rw [List.map_append]; exact zm d2,(hro 0 _ ht1).trans W.r0,(hro 1 _ hd1).trans W.r1,A2.put (i:=0) ((hro 1 _ hd1).trans W.r1),W.U.t1 T,W.R.snoc T,by rw [List.length_append,W.len]; rfl⟩
 ·have hul:us.length=40:=by rw [hu]; exact Nat.min_eq_right (Nat.le_of_not_lt h40)
  have he:(Deed.ord [ln0]).errR us=some .FullBook:=by rw [zQw,hul]; rfl
  have T:T1 us t0 us none:=.bad _ _ zGP zOX he
  refine ⟨_,_,pre (s_f (zC (t:=false) (zE rfl rfl (by rw [xY,decide_eq_false (show ¬ (j:Int) < 40 from fun q=>h40 (Int.ofNat_lt.mp q))]))) rfl),.mk _ ro us rs (tr++[(t0,none)]) _ ?_ (by rw [hul]; exact (Nat.min_eq_right (Nat.le_succ_of_le (Nat.le_of_not_lt h40))).symm)⟩
  rw [<- hJ1]
  exact W.next T tx d0 W.r0 W.r1 A0
end
end Mine
end

section
namespace Mine
open PySem
theorem Tr.few {l:List (Str × xd)} {us us':List Or} (r:Tr l us us'):∀ p ∈ l,∀ out,p.2=some out->out.length <= 2:=by
 induction r with
 | nil us=>exact fun p hp=>nomatch hp
 | cons h _ ih =>
  intro p hp out ho
  rcases List.mem_cons.mp hp with rfl | hp
  ·cases h with
   | no _=>cases ho
   | bad _ _ _ _ _=>cases ho
   | ok D us' o2 _ _ _ S=>cases ho; exact S.few
  ·exact ih p hp out ho
section
variable {d:Nat} {J J':Sto} {ro ro':Nat->Role} {us us':List Or} {rs rs':List V} {tr:List (Str × xd)} {K:Nat}
theorem zRU {n:Nat} {xs:List V} (hn:J[n]?=some (.list xs)) (h:∀ x ∈ xs,Has J 7 x):ev2 .ne J (.lst xs) (.ref n)=some (.bool false):=by
 obtain ⟨y,h3,h4⟩:=zNH hn h
 have h1:xN J yo (.lst xs)=some y:=h4
 show (eqV J (.lst xs) (.ref n)).map _=_
 rw [zK4 h1 h3 fun as bs h1 h2=>by
  replace h1:some xs=some as:=h1
  replace h2:xI J[n]?=some bs:=h2
  rw [hn] at h2; cases h1; cases h2; rfl]; rfl
theorem zK5 {v:V} (h:Has J yo v):ev2 .eq J v v=some (.bool true):=by
 show (eqV J v v).map V.bool=_
 rw [zHP h]; rfl
theorem zLN:∀ x ∈ tr.map (fun p=>V.str p.1),Has J 7 x:=fun x hx=>by
 obtain ⟨p,_,rfl⟩:=List.mem_map.mp hx
 exact ⟨_,rfl⟩
theorem zPb (ns:List Int):Has J yo (.lst (iv ns)):=zNG fun x hx=>by
 obtain ⟨n,_,rfl⟩:=List.mem_map.mp hx
 exact ⟨_,rfl⟩
noncomputable def zN3:List CS:=zLH f14_120.body[10]?
theorem zRh {H:List V} {fv:V} {xs:List V} {j f:Nat} {o:xd} (h2:zK H 2=some (.ref 1)) (h5:zK H 5=some (.int (j:Int))) (h9:zK H 9=some (.tup [.ref f,fv])) (g1:J[1]?=some (.list xs)) (gf:J[f]?=some (.list xs)) (hx:xs[j]?=some (wg o)) (ho:∀ out,o=some out->out.length <= 2) :
  exL (zA T14 (d+2) false) (zA T14 (d+2) true) false zN3 H J=.ok (.next H) J:=by
 have e2:evE (zA T14 (d+2) false) false (.p2 .index (.var 2) (.var 5)) H J=.ok (wg o) J:=zE (x:=.ref 1) (y:=.int (j:Int)) (by rw [zu,h2]; rfl) (by rw [zu,h5]; rfl) (za J g1 hx)
 have e9:evE (zA T14 (d+2) false) false (.p2 .index (.p2 .index (.var 9) (.lit (.int 0))) (.var 5)) H J=.ok (wg o) J:=zE (x:=.ref f) (y:=.int (j:Int)) (zE (x:=.tup [.ref f,fv]) (by rw [zu,h9]; rfl) rfl rfl) (by rw [zu,h5]; rfl) (za J gf hx)
 cases o with
 | none=>exact s_f (zC (yJ (x:=.bool true) (zV e2 rfl) rfl (zV (z:=.bool false) e9 rfl))) (s_f (zC (yP (x:=.bool false) (zV e2 rfl) rfl)) rfl)
 | some out =>
  have hp:=zNj (d:=d) (J:=J) (fv:=chV out) (xs:=chL out) .lst zNA (by unfold chL; rw [List.length_map]; exact Nat.le_trans (ho out rfl) (by decide))
  exact s_f (zC (yP (x:=.bool false) (zV e2 rfl) rfl)) (s_f (zC (yJ (x:=.bool true) (zV e2 rfl) rfl (zV (zI (zD e9 (zD e2 rfl)) hp) rfl))) rfl)
noncomputable def zMN:List CS:=f14_120.body.drop 6
theorem zQv {s x4 x5 x6 x7:V} (W:St14 J ro us rs tr K) (hK:K <= 1000):∃ J',exL (zA T14 (d+7) false) (zA T14 (d+7) true) false zMN [s,.ref 0,.ref 1,.ref 2,x4,x5,x6,x7,.undef,.undef,.undef] J=.ok (.ret (.bool true)) J':=by
 have hKL:K < LIM:=Nat.lt_of_le_of_lt hK (by decide)
 have hpl:=zL6 (d:=d) (J0:=J) (by rw [W.len]; exact hKL) W.R
 cases hpl with
 | mk J2 f er gf hk =>
 have kp:∀ (n:Nat) (x:O),J[n]?=some x->J2[n]?=some x:=fun n x h=>hk n x (List.getElem?_eq_some_iff.mp h).1 h
 have g0:=kp 0 _ W.g0
 have g1:=kp 1 _ W.g1
 have A2:Acct J2 ro 0 2 us rs:=W.A.keep fun n x _ h=>⟨kp n x h,rfl⟩
 have hl1:(tr.map fun p:Str × xd=>wg p.2).length=K:=by rw [List.length_map,W.len]
 have el:evE (zA T14 (d+7) false) false (.p1 .toList (.var 1)) [s,.ref 0,.ref 1,.ref 2,x4,x5,x6,x7,.undef,.undef,.undef] J=.ok (.lst (tr.map fun p=>V.str p.1)) J:=zV (x:=.ref 0) rfl (LinesOf.ref 0 W.g0).list
 generalize htx:V.lst (tr.map fun p=>V.str p.1)=tx at el er
 have e9:∀ {F:Calls} {y5 y10:V} {i:Int} {v:V},ev2 .index J2 (.tup [.ref f,.lst (iv (us.map Or.owed))]) (.int i)=some v->evE F false (.p2 .index (.var 9) (.lit (.int i))) [s,.ref 0,.ref 1,.ref 2,x4,y5,x6,x7,tx,.tup [.ref f,.lst (iv (us.map Or.owed))],y10] J2=.ok v J2:=fun h=>zE rfl rfl h
 have lf:ev1 .len J2 (.ref f)=some (.int K):=by rw [xQ J2 gf,hl1]
 have l1:ev1 .len J2 (.ref 1)=some (.int K):=by rw [xQ J2 g1,hl1]
 obtain ⟨H',J',ef,x5',hH,rfl⟩:=wZ (F:=zA T14 (d+7) false) (Fq:=zA T14 (d+7) true) (i:=5) (k:=.range1) (src:=[.p1 .len (.var 2)]) (body:=zN3) (H:=[s,.ref 0,.ref 1,.ref 2,x4,x5,x6,x7,tx,.tup [.ref f,.lst (iv (us.map Or.owed))],.undef]) (vs:=[.int K]) (J:=J2) (J1:=J2) (it:=.now (zl 0 K)) (xs:=zl 0 K)
  (fun _ H J=>∃ y,H=[s,.ref 0,.ref 1,.ref 2,x4,y,x6,x7,tx,.tup [.ref f,.lst (iv (us.map Or.owed))],.undef] /\ J=J2) (zD (zV rfl l1) rfl) (yG _ (by rw [Int.natAbs_natCast]; exact Nat.le_of_lt hKL)) (fun _ _ _ _=>.inl rfl) ⟨_,rfl,rfl⟩ fun j x H J hx hI=>by
   obtain ⟨y,rfl,rfl⟩:=hI
   obtain ⟨rfl,hj⟩:=wF hx
   have hjt:j < tr.length:=by rw [W.len]; exact hj
   have hp:tr[j]?=some tr[j]:=List.getElem?_eq_getElem hjt
   exact ⟨_,_,zRh (d:=d+5) (o:=tr[j].2) rfl rfl rfl g1 gf (by rw [List.getElem?_map,hp]; rfl) (W.R.few _ (List.getElem_mem hjt)),_,rfl,rfl⟩
 subst hH
 obtain ⟨H'',J'',ef2,x10,hρ2,hJ2⟩:=wZ (F:=zA T14 (d+7) false) (Fq:=zA T14 (d+7) true) (i:=10) (k:=.val) (src:=[.p2 .index (.var 9) (.lit (.int 1))]) (body:=[.ite (.p1 .not (.call 101 [.var 10])) [.ret (.lit (.bool false))] []]) (H:=[s,.ref 0,.ref 1,.ref 2,x4,x5',x6,x7,tx,.tup [.ref f,.lst (iv (us.map Or.owed))],.undef]) (vs:=[.lst (iv (us.map Or.owed))]) (J:=J') (J1:=J') (it:=.now (iv (us.map Or.owed))) (xs:=iv (us.map Or.owed))
  (fun _ H J=>∃ y,H=[s,.ref 0,.ref 1,.ref 2,x4,x5',x6,x7,tx,.tup [.ref f,.lst (iv (us.map Or.owed))],y] /\ J=J') (zD (e9 rfl) rfl) rfl (fun _ _ _ _=>.inl rfl) ⟨_,rfl,rfl⟩ fun j x H J hx hI=>by
   obtain ⟨y,rfl,rfl⟩:=hI
   obtain ⟨n,_,rfl⟩:=List.mem_map.mp (List.mem_of_getElem? hx)
   exact ⟨_,_,s_f (zC (zV (zI rfl (zHV modTab14.t101 n)) rfl)) rfl,_,rfl,rfl⟩
 subst hρ2; subst hJ2
 have eo:=jG (d:=d+5) modTab14 A2 (fun u hu=>(W.U.inv u hu).ok) (Nat.le_trans W.U.len (Nat.le_of_lt hKL)) (H:=[s,.ref 0,.ref 1,.ref 2,x4,x5',x6,x7,tx,.tup [.ref f,.lst (iv (us.map Or.owed))],x10]) (j:=3) (c:=11) rfl rfl
 have nt:ev2 .ne J'' tx (.ref 0)=some (.bool false):=by rw [<- htx]; exact zRU g0 zLN
 have lk:ev1 (.isInst .list) J'' (.ref f)=some (.bool true):=by rw [zB3,zE6 J'' gf]; rfl
 have v8:∀ {F:Calls} {J:Sto} {y5:V},evE F false (.var 8) [s,.ref 0,.ref 1,.ref 2,x4,y5,x6,x7,tx,.tup [.ref f,.lst (iv (us.map Or.owed))],.undef] J=.ok tx J:=fun {F J y5}=>by rw [<- htx]; rfl
 refine ⟨J'',zL el (zL (zI (zD (by rw [<- htx]; rfl) rfl) er) (s_f (zC (zW (x:=.bool false) rfl rfl (zW (x:=.bool false) rfl rfl (zE v8 rfl nt)))) (s_f (zC (zW (x:=.bool false) (zV (zV (e9 rfl) lk) rfl) rfl (zW (x:=.bool false) (zE (x:=.int K) (y:=.int K) (zV (e9 rfl) lf) (zV rfl l1) zLe) rfl (zV (zV (e9 rfl) rfl) rfl)))) (zA4 (rest:=f14_120.body.drop 11) ef (zA4 (rest:=f14_120.body.drop 12) ef2 (zH (zE (e9 rfl) eo (zK5 (zPb _)))))))))⟩
noncomputable def zRZ:Nat->Role
 | 2=>.acc 0
 | _=>.other
theorem zPl {s x5 x6 x7 x8 x9 x10:V} {a b c:V} {F:Calls} (n:Int):∃ m:Nat,m <= 41 /\ evL F false [.p2 .mul (.p2 .add (.lit (.int 38)) (.p2 .mod (.var 4) (.lit (.int 4)))) (.p1 .toInt (.p2 .eq (.p2 .mod (.p2 .mod (.p2 .mul (.var 4) (.lit (.int 48271))) (.lit (.int 10151))) (.lit (.int 16))) (.lit (.int 1))))] [s,a,b,c,.int n,x5,x6,x7,x8,x9,x10] J=.ok [.int (m:Int)] J:=by
 obtain ⟨z,hz,hz4⟩:=jc n (m:=4) (by decide)
 replace hz:n.fmod 4=(z:Int):=hz
 have e1:evE F false (.p2 .add (.lit (.int 38)) (.p2 .mod (.var 4) (.lit (.int 4)))) [s,a,b,c,.int n,x5,x6,x7,x8,x9,x10] J=.ok (.int ((38+z:Nat):Int)) J:=zE (x:=.int 38) (y:=.int (z:Int)) rfl (zE rfl rfl (by rw [wO J n 4 rfl,hz])) rfl
 have e2:evE F false (.p2 .eq (.p2 .mod (.p2 .mod (.p2 .mul (.var 4) (.lit (.int 48271))) (.lit (.int 10151))) (.lit (.int 16))) (.lit (.int 1))) [s,a,b,c,.int n,x5,x6,x7,x8,x9,x10] J=.ok (.bool (((n * 48271).fmod 10151).fmod 16==1)) J:=zE (xJ rfl rfl rfl rfl rfl) rfl rfl
 cases hb:(((n * 48271).fmod 10151).fmod 16==1) with
 | true =>
  rw [hb] at e2
  exact ⟨38+z,by omega,zD (zE e1 (zV (z:=.int 1) e2 rfl) (by rw [yW J _ 1 (.inr rfl),Int.mul_one])) rfl⟩
 | false =>
  rw [hb] at e2
  exact ⟨0,by omega,zD (zE e1 (zV (z:=.int 0) e2 rfl) (by rw [yW J _ 0 (.inr rfl),Int.mul_zero]; rfl)) rfl⟩
theorem law14 (l:List Int) (hl:l.length <= 63):∃ J,zA T14 (d+8) false 120 [.lst (iv l)] []=.ok (.bool true) J:=by
 have hl2:l.length / 2 <= 31:=Nat.le_trans (Nat.div_le_div_right hl) (by decide)
 have hn:(l.length:Int).fdiv 2=((l.length / 2:Nat):Int):=by rw [Int.fdiv_eq_ediv_of_nonneg _ (by decide)]; rfl
 have W0:St14 [O.list [],O.list [],O.list []] zRZ [] [] [] 0:=⟨rfl,rfl,rfl,rfl,⟨rfl,rfl,rfl,(fun o u hu=>by cases hu)⟩,⟨(fun _ h=>nomatch h),(fun _ h=>nomatch h),(fun _ h=>nomatch h),(fun _ h=>nomatch h),Nat.le_refl _⟩,.nil _,rfl⟩
 obtain ⟨m,hm,em⟩:=zPl (J:=[O.list [],O.list [],O.list []]) (F:=zA T14 (d+7) false) (s:=.lst (iv l)) (a:=.ref 0) (b:=.ref 1) (c:=.ref 2) (x5:=.undef) (x6:=.undef) (x7:=.undef) (x8:=.undef) (x9:=.undef) (x10:=.undef) (gI l 0)
 obtain ⟨H1,J1,e1,I1⟩:=wZ (F:=zA T14 (d+7) false) (Fq:=zA T14 (d+7) true) (i:=5) (k:=.range1) (src:=[.p2 .mul (.p2 .add (.lit (.int 38)) (.p2 .mod (.var 4) (.lit (.int 4)))) (.p1 .toInt (.p2 .eq (.p2 .mod (.p2 .mod (.p2 .mul (.var 4) (.lit (.int 48271))) (.lit (.int 10151))) (.lit (.int 16))) (.lit (.int 1))))]) (body:=body0)
  (H:=[.lst (iv l),.ref 0,.ref 1,.ref 2,.int (gI l 0),.undef,.undef,.undef,.undef,.undef,.undef]) (vs:=[.int (m:Int)]) (J:=[O.list [],O.list [],O.list []]) (J1:=[O.list [],O.list [],O.list []]) (it:=.now (zl 0 (m:Int))) (xs:=zl 0 (m:Int))
  (B14 (.lst (iv l)) (.int (gI l 0))) em (yG _ (by rw [Int.natAbs_natCast]; exact Nat.le_trans hm (by decide))) (fun _ _ _ _=>.inl rfl) (.mk _ zRZ [] [] [] _ W0 rfl)
  fun j x H J hx I=>by
   obtain ⟨rfl,hj⟩:=wF hx
   exact zRg (Nat.lt_of_lt_of_le hj hm) I
 rw [wp] at I1
 cases I1 with
 | mk _ ro us rs tr x5 W hu =>
 obtain ⟨H₂,J2,e2,I2⟩:=wZ (F:=zA T14 (d+7) false) (Fq:=zA T14 (d+7) true) (i:=5) (k:=.range1) (src:=[.p2 .fdiv (.p1 .len (.var 0)) (.lit (.int 2))]) (body:=body14)
  (H:=[.lst (iv l),.ref 0,.ref 1,.ref 2,.int (gI l 0),x5,.undef,.undef,.undef,.undef,.undef]) (vs:=[.int ((l.length / 2:Nat):Int)]) (J:=J1) (J1:=J1) (it:=.now (zl 0 ((l.length / 2:Nat):Int))) (xs:=zl 0 ((l.length / 2:Nat):Int))
  (fun j=>I14 (.lst (iv l)) (.int (gI l 0)) (m+j)) (zD (zE (zV rfl (zi _ (iv l))) rfl (by rw [vT,wh _ _ 2 rfl,hn])) rfl) (yG _ (by rw [Int.natAbs_natCast]; exact Nat.le_trans hl2 (by decide))) (fun _ _ _ _=>.inl rfl) (.mk _ ro us rs tr _ _ _ W)
  fun j x H J hx I=>by
   obtain ⟨rfl,hj⟩:=wF hx
   exact zQH (K:=m+j) (Nat.le_trans (Nat.add_le_add hm (Nat.le_trans (Nat.le_of_lt hj) hl2)) (by decide)) (zNF hj) I
 rw [wp] at I2
 cases I2 with
 | mk _ ro2 us₂ rs₂ tr2 y5 y6 y7 W2 =>
 obtain ⟨J3,e3⟩:=zQv (d:=d) (s:=.lst (iv l)) (x4:=.int (gI l 0)) (x5:=y5) (x6:=y6) (x7:=y7) W2 (Nat.le_trans (Nat.add_le_add hm hl2) (by decide))
 exact ⟨J3,zG (fn:=f14_120) rfl rfl (zL (v:=.ref 0) (J':=[O.list []]) rfl (zL (v:=.ref 1) (J':=[O.list [],O.list []]) rfl (zL (v:=.ref 2) (J':=[O.list [],O.list [],O.list []]) rfl (zL (zI rfl (zPZ (d:=d+6) modTab14 l 0)) (zA4 (rest:=f14_120.body.drop 5) e1 (zA4 (rest:=zMN) e2 e3))))))⟩
end
end Mine
end

section
open PySem PySem.W PyProof.Rows
namespace Mine
noncomputable def pRows:List (Str × Int):=[("order",2),("deliver",4),("back",4),("swap",4),("credit",4),("pay",3),("refund",3),("move",4)]
noncomputable def zKD (P:Params) (ts:List (Nat × Nat)):List DictEntry:=(pRows.zip ts).map fun q=>⟨PyData.keyHash P q.1.1,.str q.1.1 q.2.1,.int q.1.2 q.2.2⟩
noncomputable def zHk (P:Params) (ts:List (Nat × Nat)):Obj:={ cls:=.type "dict",data:=.dict (zKD P ts).toArray 8 }
noncomputable def linedRows:List Str:=["deliver","back","swap","credit"]
noncomputable def jf (ts:List Nat):Obj:={ cls:=.type "tuple",data:=.seq ((linedRows.zip ts).map fun q=>Value.str q.1 q.2).toArray }
noncomputable def wk (h:Heap) (x:Str):Option (Addr × List Value):=match h.nsMap mainGlobals x with
 | some (.ref a)=>(h.get? a).bind fun o=>match o.data with
  | .cls cd=>if h.isNs cd.ns&&(h.nsMap cd.ns "__class__").isNone then some (a,cd.mro) else none
  | _=>none
 | _=>none
theorem zFB {p q:Program} {loose:List Str} {Xt:Shared->Bool} {α:Type} {Yf:Shared->α} {Ya:World->α} {N:Nat} {m0:Nat} {ann:Option Value} {n M:Nat} {sc:World->OsState->Shared} {th:Thread}
  (e:opening p=plainProg p.main.scope.names) (hN:Nat.ble 600 N=true) (f:∀ s,fenceModules? p s=some s)
  (size:∀ w:World,((boot_heap w.params).isNs mainGlobals&&(Array.mk []:Array GenState).size==0,(boot_heap w.params).objs.size,(boot_heap w.params).nsMap mainGlobals "__annotations__")=(true,m0,ann))
  (run:∀ (w:World) (os:OsState) (r:Shared),topRun treeTable p w m0 ann M (sc w os) th=some r->topRun treeTable p w m0 ann (n+M) ⟨boot_heap w.params,Array.mk [],boot_drawn,boot_toks,os⟩ (topStub p)=some r) (le:Nat.ble (n+M) N=true)
  (looks:∀ w:World,(fun os=>(topRun treeTable p w m0 ann M (sc w os) th).map fun s₁=>((staticsOk (importedModules p.main.body) (boot_heap w.params) s₁.heap&&namesBound p s₁.heap&&gensDone s₁&&laidKept (boot_heap w.params) s₁.heap),
    openSeen q loose (importedModules p.main.body) Xt true s₁,Yf s₁))=fun _=>some (true,openGood q loose,Ya w)):LeftO p q loose Xt Yf Ya N:=fun w=>by
 obtain ⟨⟨h,gs,d,k,os⟩,e1,e'⟩:=Option.map_eq_some_iff.mp (boot_open e hN f w)
 obtain ⟨rfl,rfl,rfl,rfl⟩:h=boot_heap w.params /\ gs=Array.mk [] /\ d=boot_drawn /\ k=boot_toks:=by simpa using e'
 obtain ⟨z1,z2,z3⟩:_ /\ _ /\ _:=by simpa only [Prod.mk.injEq] using size w
 obtain ⟨s₁,r0,l0⟩:=Option.map_eq_some_iff.mp (congrFun (looks w) os)
 obtain ⟨l1,l2,l3⟩:_ /\ _ /\ _:=by simpa only [Prod.mk.injEq] using l0
 have r:=topRun_mono (N - (n+M)) _ _ _ _ (run w os s₁ r0)
 rw [show n+M+(N - (n+M))=N from Nat.add_sub_of_le (Nat.le_of_ble_eq_true le)] at r
 have t:topFrom treeTable p w N ⟨boot_heap w.params,Array.mk [],boot_drawn,boot_toks,os⟩=some s₁:=by
  unfold topFrom
  dsimp only
  rw [z1,z2,z3,r]
  show (match staticsOk (importedModules p.main.body) (boot_heap w.params) s₁.heap&&namesBound p s₁.heap&&gensDone s₁&&laidKept (boot_heap w.params) s₁.heap with | true=>_ | false=>_)=_
  rw [l1]
 unfold openEnds
 rw [e1]
 show (topFrom treeTable p w N ⟨boot_heap w.params,Array.mk [],boot_drawn,boot_toks,os⟩).map _=_
 rw [t]
 show some (openSeen q loose (importedModules p.main.body) Xt true s₁,Yf s₁)=_
 rw [l2,l3]
section
variable {p:Program} {w:World} {m0:Nat} {ann:Option Value} {env:Env} {q:Pos} {b:List Stmt}
theorem zIR {n₀ nb n N i:Nat} {s0 s' r:Shared} {c:Code} {pos pb p':Pos} (hc:c=.body b env)
  (pre:(topGo treeTable p w m0 ann n₀ s0 (topStub p)).map (·.2)=some ⟨denote treeTable c,c,pos,[topFrame q]⟩)
  (blk:((topGo treeTable p w m0 ann n₀ s0 (topStub p)).bind fun x=>segRun treeTable p w m0 ann 1 nb x.1 (blockOf b env c pos [topFrame q])).map (fun y=>(y.1,y.2.2))=some (.next,c,pb))
  (g:(((topGo treeTable p w m0 ann n₀ s0 (topStub p)).bind fun x=>segRun treeTable p w m0 ann 1 nb x.1 (blockOf b env c pos [topFrame q])).bind fun y=>segRun treeTable p w m0 ann 1 n y.2.1 (piecesOf ((b.take i).drop 0) env c pb [topFrame q]))=some (.next,s',c,p'))
  (k:topRun treeTable p w m0 ann N s' (restOf (b.drop i) env c p' [topFrame q])=some r):topRun treeTable p w m0 ann (n₀+(nb+(n+N))) s0 (topStub p)=some r:=by
 obtain ⟨⟨sa,ta⟩,a1,a2⟩:=Option.map_eq_some_iff.mp pre
 replace a2:ta=_:=a2
 subst a2
 rw [a1] at blk g
 obtain ⟨⟨f1,sb,cb,pb'⟩,b1,b2⟩:=Option.map_eq_some_iff.mp blk
 cases b2
 replace b1:segRun treeTable p w m0 ann 1 nb sa (blockOf b env c pos [topFrame q])=some (.next,sb,c,pb):=b1
 replace g:((segRun treeTable p w m0 ann 1 nb sa (blockOf b env c pos [topFrame q])).bind fun y=>segRun treeTable p w m0 ann 1 n y.2.1 (piecesOf ((b.take i).drop 0) env c pb [topFrame q]))=_:=g
 rw [b1] at g
 replace g:segRun treeTable p w m0 ann 1 n sb (piecesOf (b.take i) env c pb [topFrame q])=some (.next,s',c,p'):=g
 refine go_top a1 ?_
 have:=piece_block b1 (k:=by
  have:=piece_app g k
  rwa [List.take_append_drop] at this)
 rwa [hc] at this ⊢
theorem jY {n N i j:Nat} {s s' r:Shared} {c:Code} {pos p':Pos} (hij:i <= j) (g:segRun treeTable p w m0 ann 1 n s (piecesOf ((b.take j).drop i) env c pos [topFrame q])=some (.next,s',c,p'))
  (k:topRun treeTable p w m0 ann N s' (restOf (b.drop j) env c p' [topFrame q])=some r):topRun treeTable p w m0 ann (n+N) s (restOf (b.drop i) env c pos [topFrame q])=some r:=by
 have e:b.drop i=(b.take j).drop i++b.drop j:=by
  rw [List.drop_take]
  have:b.drop j=(b.drop i).drop (j - i):=by rw [List.drop_drop,Nat.add_sub_of_le hij]
  rw [this,List.take_append_drop]
 rw [e]
 exact piece_app g k
end
end Mine
end

section
namespace Mine
open PySem PySem.W PyProof.Rows
inductive Says (P:Params) (pa la:Addr) (pt:List (Nat × Nat)) (lt:List Nat) (ms:List (Str × Addr × List Value)) (h:Heap):Prop
 | mk (mg:Str->Option Value) (N:h.Ns mainGlobals mg) (e1:mg ("PARTS" : Str)=some (.ref pa)) (e2:h.get? pa=some (zHk P pt)) (e3:mg ("LINED" : Str)=some (.ref la)) (e4:h.get? la=some (jf lt))
   (e5:∀ q ∈ ms,mg q.1=some (.ref q.2.1) /\ ∃ o cd,h.get? q.2.1=some o /\ o.data=.cls cd /\ cd.mro=q.2.2 /\ ∃ m,h.Ns cd.ns m /\ m "__class__"=none)
theorem zGS {h:Heap} {x:Str} {a:Addr} {m:List Value} (e:wk h x=some (a,m)):h.nsMap mainGlobals x=some (.ref a) /\ ∃ o cd,h.get? a=some o /\ o.data=.cls cd /\ cd.mro=m /\ ∃ m,h.Ns cd.ns m /\ m "__class__"=none:=by
 unfold wk at e
 split at e
 ·rename_i a' ha
  replace e:=bind_some e
  obtain ⟨o,ho,e⟩:=e
  split at e
  ·rename_i cd hd
   split at e
   ·rename_i hn
    cases e
    rw [Bool.and_eq_true] at hn
    exact ⟨ha,o,cd,ho,hd,rfl,_,.of_isNs hn.1,Option.isNone_iff_eq_none.mp hn.2⟩
   ·cases e
  ·cases e
 ·cases e
theorem zNn {P:Params} {pa la:Addr} {pt:List (Nat × Nat)} {lt:List Nat} {ms:List (Str × Addr × List Value)} {h:Heap}
  (e:(h.isNs mainGlobals,h.nsMap mainGlobals "PARTS",h.get? pa,h.nsMap mainGlobals "LINED",h.get? la,ms.map fun q=>wk h q.1)=(true,some (.ref pa),some (zHk P pt),some (.ref la),some (jf lt),ms.map fun q=>some q.2)):Says P pa la pt lt ms h:=by
 simp only [Prod.mk.injEq] at e
 obtain ⟨h0,h1,h2,h3,h4,h5⟩:=e
 refine .mk _ (.of_isNs h0) h1 h2 h3 h4 fun q hq=>?_
 obtain ⟨x,a,m⟩:=q
 exact zGS (List.map_inj_left.mp h5 _ hq)
theorem Says.keeps {P:Params} {pa la:Addr} {pt:List (Nat × Nat)} {lt:List Nat} {ms:List (Str × Addr × List Value)} {h h':Heap} (s:Says P pa la pt lt ms h) (k:∀ b o,h.get? b=some o->h'.get? b=some o):Says P pa la pt lt ms h':=by
 obtain ⟨mg,⟨o,es,ep,a,b⟩,e1,e2,e3,e4,e5⟩:=s
 exact .mk mg ⟨o,es,ep,k _ _ a,b⟩ e1 (k _ _ e2) e3 (k _ _ e4) fun q hq=>by
  obtain ⟨h1,o,cd,h2,h3,h4,m,hN,hm⟩:=e5 q hq
  exact ⟨h1,o,cd,k _ _ h2,h3,h4,m,hN.keeps k,hm⟩
theorem zFN (P:Params) (x:Str) (ts:List (Nat × Nat)) (hl:ts.length=8):∃ t,((zKD P ts).find? fun e=>Value.isStrOf x e.key).map (·.val)=((partsTable.find? fun p=>p.1==x).map fun p=>Value.int p.2 t):=by
 have key:∀ (l:List ((Str × Int) × (Nat × Nat))),∃ t,((l.map fun q=>(⟨PyData.keyHash P q.1.1,.str q.1.1 q.2.1,.int q.1.2 q.2.2⟩:DictEntry)).find? fun e=>Value.isStrOf x e.key).map (·.val)=(((l.map fun q=>q.1).find? fun p=>p.1==x).map fun p=>Value.int p.2 t):=by
  intro l
  induction l with
  | nil=>exact ⟨0,rfl⟩
  | cons q l ih =>
   rw [List.map_cons,List.map_cons,List.find?_cons,List.find?_cons]
   have hq:Value.isStrOf x (Value.str q.1.1 q.2.1)=(q.1.1==x):=rfl
   simp only [hq]
   cases h:(q.1.1==x) with
   | true=>exact ⟨q.2.2,rfl⟩
   | false=>exact ih
 have:=key (pRows.zip ts)
 rwa [show ((pRows.zip ts).map fun q=>q.1)=partsTable from List.map_fst_zip (by rw [hl]; decide)] at this
theorem zKF {S:zQ} {dA:Addr} {ts:List (Nat × Nat)} (hl:ts.length=8) (hp:S.parts=.ref dA) (hd:(dA==sysModules)=false) (ho:S.hb.get? dA=some (zHk S.w.params ts)):ww S S.hb:=fun _=>by
 refine ⟨dA,fun x=>((zKD S.w.params ts).find? fun e=>Value.isStrOf x e.key).map (·.val),hp,hd,⟨_,(zKD S.w.params ts).toArray,8,ho,⟨rfl,rfl,rfl⟩,rfl,fun e he=>?_,fun k=>?_⟩,fun x=>zFN _ x ts hl⟩
 ·have he:e ∈ zKD S.w.params ts:=by simpa using he
  obtain ⟨q,_,rfl⟩:=List.mem_map.mp he
  exact ⟨_,beq_self_eq_true _,rfl⟩
 ·show ((zKD S.w.params ts).toArray.find? _).map _=_
  rw [List.find?_toArray]; rfl
section
variable {p:Program} {loose:List Str} {mean:ExcName->Option Value} {mg mb:Str->Option Value} {S:zQ}
noncomputable def zQp:Option Obj->Option ClassData
 | some o=>match o.data with
  | .cls cd=>some cd
  | _=>none
 | none=>none
theorem zQq {h:Heap} {a:Addr} {o:Obj} {cd:ClassData} (h1:h.get? a=some o) (h2:o.data=.cls cd):zQp (h.get? a)=some cd:=by
 rw [h1]
 show (match o.data with | .cls cd=>some cd | _=>none)=_
 rw [h2]
theorem zLD (T:Top p loose mean mg mb S.hb) {x:Str} {c:Cls} {a:Addr} {bm:List Value} (hs:specOf p x=some ("ValueError.__new__",bmV)) (hg:mg x=some (.ref a)) (hm:∃ o cd,S.hb.get? a=some o /\ o.data=.cls cd /\ cd.mro=.ref a :: bm /\ ∃ m,S.hb.Ns cd.ns m /\ m "__class__"=none)
  (hcl:S.cl c=.ref a) (hkn:∀ d ∈ S.kn,(Value.ref a :: bm).contains (S.cl d)=c.sub d):zBm S c:=by
 obtain ⟨C,O,_⟩:=T.ownAt hs
 obtain ⟨hb',bm'',N',nm',q',bs',hdct',sn',sub',ab',col',dd',k0',k1',k2',k3',k5',mN',hC',hN',hi',OTQ⟩:=id O
 obtain ⟨hb,bm',N,nm,q,bs,hdct,sn,sub,ab,col,dd,k0,k1,k2,k3,k5,mN,hC,hN,hi,OT⟩:=O.own
 obtain rfl:C=a:=by rw [hg] at hb; exact (Value.ref.inj (Option.some.inj hb)).symm
 obtain ⟨o,cd,h1,h2,h3,m,h4,h5⟩:=hm
 have e:some _=some cd:=(congrArg zQp hC).symm.trans (zQq h1 h2)
 have e:=Option.some.inj e
 have hbm:bm'=bm:=(List.cons.inj ((congrArg ClassData.mro e).trans h3)).2
 rw [<- congrArg ClassData.ns e] at h4
 subst hbm
 refine .mk C bm' N nm q bs hdct sn sub ab col dd k0 k1 k2 k3 k5 mN hcl hC hN hi OT hkn
theorem zLY {la:Addr} {lt:List Nat} (hl:lt.length=4) (ho:S.hb.get? la=some (jf lt)):VR S [] [] S.hb (.tup [.str { cps:=#[100,101,108,105,118,101,114] },.str { cps:=#[98,97,99,107] },.str { cps:=#[115,119,97,112] },.str { cps:=#[99,114,101,100,105,116] }]) (.ref la):=by
 match lt,hl with
 | [a,b,c,d],_ =>
  refine ⟨la,_,_,rfl,⟨(fun h=>nomatch h),(fun h=>nomatch h)⟩,ho,?_,by decide⟩
  have s:∀ {x:Str} {t:Nat},x.length <= LIM->PyData.strOk x=true->VR S [] [] S.hb (.str x) (.str x t):=fun h1 h2=>⟨⟨_,rfl⟩,h1,h2⟩
  show VRs S [] [] S.hb _ [_,_,_,_]
  exact ⟨s (by decide) (by decide +kernel),s (by decide) (by decide +kernel),s (by decide) (by decide +kernel),s (by decide) (by decide +kernel),trivial⟩
end
end Mine
end

section
namespace Mine
open PySem PySem.W PyProof.Rows
noncomputable def zLX:V:=.tup [.str { cps:=#[100,101,108,105,118,101,114] },.str { cps:=#[98,97,99,107] },.str { cps:=#[115,119,97,112] },.str { cps:=#[99,114,101,100,105,116] }]
inductive zBT (v:Program) (x:Str):V->Prop
 | int (i:Int) (h:valOf v x=some (.int i)):zBT v x (.int i)
 | str (y:Str) (h:valOf v x=some (.str y)) (hl:y.length <= LIM) (hk:PyData.strOk y=true):zBT v x (.str y)
structure Ex where
 name:Str
 c:Cls
 a:Addr
 bm:List Value
structure zGx (v:Program) (loose:List Str) (C:Ctx) (tM tF:List (Nat × Fn)) (base:List (Str × V)) (ex:List Ex) (cl:Cls->Value) (kn:List Cls) (cb:ClsRec):Prop where
 k1:zRc C (recsOf v)=some tF
 k2:zHU C (recsOf v)=true
 k3:((recsOf v).map (·.name)).Nodup
 k4:zLI v loose C=true
 hc:C.consts=base++[(("PARTS" : Str),.parts),(("LINED" : Str),zLX)]
 hb:∀ q ∈ base,zBT v q.1 q.2
 hx:C.excs=ex.map fun q=>(q.name,q.c)
 hs:∀ q ∈ ex,specOf v q.name=some ("ValueError.__new__",bmV)
 hcl:∀ q ∈ ex,cl q.c=.ref q.a
 hkn:∀ q ∈ ex,q.c ∈ kn /\ ∀ d ∈ kn,(Value.ref q.a :: q.bm).contains (cl d)=q.c.sub d
 m1:cb ∈ plainsOf v loose
 m2:cb.name=("Book" : Str)
 m3:zBg C cb.meths=true
 m4:(cb.meths.map (·.name)).Nodup
 m5:zRd C cb.meths=some tM
 m6:C.meths.lookup ("__init__" : Str)=some 0
 m7:zM 0 ∈ cb.withCmp.quiet /\ zM 1 ∈ cb.withCmp.quiet
 at0:C.attrs=attrNames
 cln:Clean C
theorem book_walk {v p:Program} {loose:List Str} {w:World} {s₁:Shared} {mean:ExcName->Option Value} {mg mb:Str->Option Value} {C:Ctx} {tM tF:List (Nat × Fn)} {base:List (Str × V)} {ex:List Ex} {cl:Cls->Value} {kn:List Cls} {cb:ClsRec} {pa la:Addr} {pt:List (Nat × Nat)} {lt:List Nat} {a fa:Addr} {ns:List Int} {d k:Nat}
  (BL:zGx v loose C tM tF base ex cl kn cb) (T:Top v loose mean mg mb s₁.heap) (TE:TopE v loose mg s₁.heap) (Y:Says w.params pa la pt lt (ex.map fun q=>(q.name,q.a,.ref q.a :: q.bm)) s₁.heap) (hpt:pt.length=8) (hlt:lt.length=4) (hd:(pa==sysModules)=false)
  (hk:C.fns.find? (fun r=>r.2==k)=some (("law" : Str),k)) (hmg:mg ("law" : Str)=some (.ref fa)) (W:Well w.params s₁.heap (.ref a) (ofPy (.list (ns.map PyData.int)))) (hlen:ns.length <= 63) (hd1:d <= 100)
  (hres:∃ J',zA (fun k=>(tM++tF).lookup k) d false k [.lst (ns.map V.int)] []=.ok (.bool true) J') :
  codeAny (model p w) callerA (.call (.ref fa) ⟨[.ref a],[]⟩) (fun r s'=>r=.ok (.ret (.bool true)) /\ (∀ b o,s₁.heap.get? b=some o->s'.heap.get? b=some o) /\ s'.os=s₁.os /\ s'.gens=s₁.gens) s₁:=by
 obtain ⟨mg',N',e1,e2,e3,e4,e5⟩:=Y
 obtain rfl:mg'=mg:=by rw [N'.eq_nsMap,T.g.eq_nsMap]
 obtain ⟨Cb,N,mN,hCb,P⟩:=TE cb BL.m1
 rw [BL.m2] at hCb
 have key:∀ S:zQ,S.hb=s₁.heap->S.fn=xp C mg' mN->S.hasParts=true->S.parts=.ref pa->S.prog=p->S.w=w->S.cl=cl->S.kn=kn->S.book=Cb->codeAny (model S.prog S.w) callerA (.call (.ref (S.fn k)) ⟨[.ref a],[]⟩) (fun r s'=>r=.ok (.ret (.bool true)) /\ (∀ b o,s₁.heap.get? b=some o->s'.heap.get? b=some o) /\ s'.os=s₁.os /\ s'.gens=s₁.gens) s₁:=by
  intro S h1 h2 h3 h4 h5 h6 h7 h8 h9
  have TS:Top v loose mean mg' mb S.hb:=h1 ▸ T
  have PS:PlainAt S.hb cb.withCmp Cb N mN:=h1 ▸ P
  have hc:∀ x u,C.consts.lookup x=some u->∃ w,mg' x=some w /\ VR S [] [] S.hb u w:=fun x u h=>by
   have hm:=zU h
   rw [BL.hc] at hm
   rcases List.mem_append.mp hm with hm | hm
   ·have:=BL.hb _ hm
    cases this with
    | int i hv =>
     obtain ⟨u,e,r⟩:=T.const _ _ hv
     have:=r S.hb
     cases this
     exact ⟨_,e,⟨_,rfl⟩⟩
    | str y hv hl hk =>
     obtain ⟨u,e,r⟩:=T.const _ _ hv
     have:=r S.hb
     cases this
     exact ⟨_,e,⟨⟨_,rfl⟩,hl,hk⟩⟩
   ·rcases List.mem_cons.mp hm with e | hm
    ·cases e; exact ⟨_,e1,⟨h3,h4.symm⟩⟩
    ·cases List.mem_singleton.mp hm
     exact ⟨_,e3,zLY hlt (h1 ▸ e4)⟩
  have hex:∀ x c,C.excs.lookup x=some c->∃ q ∈ ex,q.name=x /\ q.c=c:=fun x c h=>by
   have hm:=zU h
   rw [BL.hx] at hm
   obtain ⟨q,hq,e⟩:=List.mem_map.mp hm
   cases e
   exact ⟨q,hq,rfl,rfl⟩
  have fa0:∀ k fn,(tM++tF).lookup k=some fn->zFu S C k fn:=fun k fn h=>by
   rcases List.mem_append.mp (zBJ h) with hm | hm
   ·exact zIl PS BL.m3 h2 BL.m4 BL.m5 k fn hm
   ·exact zNB TS BL.k2 h2 BL.k3 BL.k1 k fn hm
  have fs:=zLF (tab:=tM++tF) TS BL.k2 h2 BL.k4 hc (fun _=>by rw [h9]; exact hCb) (.inr ⟨BL.at0,zMt PS h9 BL.m3 h2 BL.m6 BL.m7⟩)
   (fun x c h=>by obtain ⟨q,hq,rfl,rfl⟩:=hex x c h; rw [h7,BL.hcl q hq]; exact .inl (e5 _ (List.mem_map_of_mem hq)).1)
   (fun x c h=>by
    obtain ⟨q,hq,rfl,rfl⟩:=hex x c h
    have h5:=e5 _ (List.mem_map_of_mem hq)
    refine ⟨by rw [h8]; exact (BL.hkn q hq).1,fun _=>zLD TS (BL.hs q hq) h5.1 (h1 ▸ h5.2)
     (by rw [h7]; exact BL.hcl q hq) (by rw [h7,h8]; exact (BL.hkn q hq).2)⟩)
   (zKF hpt h4 hd (by rw [h1,h6]; exact e2)) (by rw [h4]; simp) fa0
  exact zLT fs BL.cln fa0 h1 hd1 (zH8 (P:=w.params) (h1 ▸ W) (by simp only [LIM]; omega)) hres
 have:=key ⟨p,w,s₁.heap,cl,Cb,.ref pa,true,xp C mg' mN,kn⟩ rfl rfl rfl rfl rfl rfl rfl rfl rfl
 have ha:xp C mg' mN k=fa:=by unfold xp; rw [hk]; show zFP _=_; rw [hmg]; rfl
 simp only [ha] at this
 exact this
end Mine
end

section
open PySem PySem.W PyProof.Rows
set_option maxRecDepth 100000
namespace Mine
noncomputable def pw14:Program:=PySem.Challenge.pw_uf040020_14
noncomputable def kS (i:Nat):Stmt:=(pw14.main.body)[i]?.getD (.Pass ⟨0,0,0,0⟩)
noncomputable def zv (i j:Nat):Stmt:=match kS i with
 | .ClassDef _ _ _ b _ _ _ _ _ _ _=>b[j]?.getD (.Pass ⟨0,0,0,0⟩)
 | s=>s
noncomputable def zNm:Stmt->Arguments
 | .FunctionDef _ a _ _ _ _ _ _ _ _=>a
 | _=>⟨[],[],none,[],[],none,[]⟩
noncomputable def zRb:Stmt->List Stmt
 | .FunctionDef _ _ b _ _ _ _ _ _ _=>b
 | _=>[]
noncomputable def zP4:Stmt->Scope
 | .FunctionDef _ _ _ _ _ _ sc _ _ _=>sc
 | _=>pw14.main.scope
noncomputable def ky (P:Params) (c:Array Nat) (t:Nat) (v:Value):DictEntry:=⟨PyData.keyHash P ⟨c⟩,.str ⟨c⟩ t,v⟩
noncomputable def fo (c:Value) (a b:Array Nat) (S:Stmt) (g:Addr) (pm cd:Value):Obj:={ cls:=c,dict:=none,data:=.func { name:=⟨a⟩,qualname:=⟨b⟩,params:=zNm S,body:=.stmts (zRb S),scope:=zP4 S,globals:=g,closure:=[],defaults:=.none,kwdefaults:=.none,doc:=.none,pyModule:=pm,annotations:=none,code:=cd,closureTuple:=.none,builtins:=0 },slots:=#[] }
noncomputable def ob (c:Value) (d:Data):Obj:={ cls:=c,dict:=none,data:=d,slots:=#[] }
noncomputable def cd (a b:Array Nat) (n:Nat) (l c e:Int) (r:Nat) (t:Bool) (g:Nat) (x y z u:Value) (m:Nat):Obj:=ob (.type "code") (.fields #[.str ⟨a⟩ n,.str ⟨b⟩ (n+1),.str ⟨#[47,99,108,97,105,109,47,99,117,116,46,112,121]⟩ (n+2),.int l 0,.int c 0,.int 0 0,.int 0 0,.int e 0,.ref r,.bool t,.int 181 0,.ref g,x,y,z,u,.int m 0,.int l 0,.str ⟨#[47,99,108,97,105,109,47,99,117,116,46,112,121]⟩ (m+1)])
noncomputable def fm (a b c:Nat) (s:Array Nat) (n:Nat):Obj:={ cls:=.type "frame",dict:=none,data:=.plain,slots:=#[some (.ref a),some (.ref b),some (.ref c),none,some (.str ⟨s⟩ n),none,some (.ref 0)] }
noncomputable def tx (a:Array Nat) (k n s i j:Nat):Obj:={ cls:=.type "type",dict:=none,data:=.cls { name:=⟨a⟩,bases:=[.ref 31],mro:=[.ref k,.ref 31,.type "ValueError",.type "Exception",.type "BaseException",.type "object"],ns:=n,qualname:=⟨a⟩,hasDict:=true,slotNames:=[],subclasses:=[],abstract:=false,collection:=none,hasDel:=false },slots:=#[some (.ref s),none,some (.str ⟨a⟩ i),some (.str ⟨a⟩ j),some (.builtin "ValueError.__new__"),some (.bool true)] }
noncomputable def t3 (l:List (Int × Int × Nat)):Array Value:=(l.flatMap fun x=>[.int x.1 0,.int x.2.1 0,.ref x.2.2]).toArray
noncomputable def q0:Array Nat:=#[111,114,100,101,114,102,108,111,119,46,101,114,114,111,114,115]
noncomputable def q7:Array Nat:=#[95,95,115,116,97,116,105,99,95,97,116,116,114,105,98,117,116,101,115,95,95]
noncomputable def q8:Array Nat:=#[95,95,102,105,114,115,116,108,105,110,101,110,111,95,95]
noncomputable def q9:Array Nat:=#[111,114,100,101,114,102,108,111,119,46,98,111,111,107]
noncomputable def q10:Array Nat:=#[95,95,109,111,100,117,108,101,95,95]
noncomputable def q11:Array Nat:=#[70,108,111,119,69,114,114,111,114]
noncomputable def q12:Array Nat:=#[95,95,113,117,97,108,110,97,109,101,95,95]
noncomputable def q13:Array Nat:=#[111,114,100,101,114,102,108,111,119,46,108,105,110,101,115]
noncomputable def q14:Array Nat:=#[95,95,100,111,99,95,95]
noncomputable def q15:Array Nat:=#[99,104,101,99,107,95,108,105,110,101,115]
noncomputable def q16:Array Nat:=#[95,95,97,110,110,111,116,97,116,105,111,110,115,95,95]
noncomputable def q17:Array Nat:=#[115,101,108,102]
noncomputable def q18:Array Nat:=#[70,117,108,108,66,111,111,107]
noncomputable def q19:Array Nat:=#[78,111,76,105,110,101,115]
noncomputable def q20:Array Nat:=#[78,111,78,117,109,98,101,114]
noncomputable def q21:Array Nat:=#[83,97,109,101,79,114,100,101,114]
noncomputable def q22:Array Nat:=#[47,99,108,97,105,109,47,99,117,116,46,112,121]
noncomputable def q23:Array Nat:=#[105,115,95,105,116,101,109]
noncomputable def q24:Array Nat:=#[109,111,115,116,95,111,102]
noncomputable def q25:Array Nat:=#[95,95,98,117,105,108,116,105,110,115,95,95]
noncomputable def q26:Array Nat:=#[78,111,79,114,100,101,114]
noncomputable def q27:Array Nat:=#[95,119,97,108,108]
noncomputable def q28:Array Nat:=#[78,111,68,101,101,100]
noncomputable def q29:Array Nat:=#[97,98,99,100,101,102,103,104,105,106,107,108,109,110,111,112,113,114,115,116,117,118,119,120,121,122]
noncomputable def q30:Array Nat:=#[98,101,104,105,110,100]
noncomputable def q31:Array Nat:=#[95,95,112,97,99,107,97,103,101,95,95]
noncomputable def q32:Array Nat:=#[78,111,73,116,101,109]
noncomputable def q33:Array Nat:=#[99,104,97,114,103,101]
noncomputable def q34:Array Nat:=#[84,111,111,77,117,99,104]
noncomputable def q35:Array Nat:=#[95,95,108,111,97,100,101,114,95,95]
noncomputable def q36:Array Nat:=#[119,111,114,116,104]
noncomputable def q37:Array Nat:=#[111,114,100,101,114]
noncomputable def q38:Array Nat:=#[95,95,99,97,99,104,101,100,95,95]
noncomputable def q39:Array Nat:=#[78,111,76,105,110,101]
noncomputable def q40:Array Nat:=#[98,101,103,117,110]
noncomputable def q41:Array Nat:=#[95,95,119,101,97,107,114,101,102,95,95]
noncomputable def q42:Array Nat:=#[95,95,102,105,108,101,95,95]
noncomputable def q43:Array Nat:=#[95,95,105,110,105,116,95,95]
noncomputable def q44:Array Nat:=#[115,101,116,116,108,101,100]
noncomputable def q45:Array Nat:=#[95,95,110,97,109,101,95,95]
noncomputable def q46:Array Nat:=#[95,95,115,112,101,99,95,95]
noncomputable def q47:Array Nat:=#[66,111,111,107,46,95,95,105,110,105,116,95,95]
noncomputable def q48:Array Nat:=#[66,111,111,107,46,115,101,116,116,108,101,100]
noncomputable def q49:Array Nat:=#[66,111,111,107]
noncomputable def q50:Array Nat:=#[66,111,111,107,46,111,114,100,101,114,115]
noncomputable def q51:Array Nat:=#[111,114,100,101,114,115]
noncomputable def q52:Array Nat:=#[66,111,111,107,46,99,104,97,110,103,101]
noncomputable def q53:Array Nat:=#[66,111,111,107,46,112,97,121,95,105,110]
noncomputable def q54:Array Nat:=#[99,104,97,110,103,101]
noncomputable def q55:Array Nat:=#[112,97,121,95,105,110]
noncomputable def q56:Array Nat:=#[66,111,111,107,46,98,101,103,105,110]
noncomputable def q57:Array Nat:=#[66,111,111,107,46,99,104,101,99,107]
noncomputable def q58:Array Nat:=#[108,105,110,101]
noncomputable def q59:Array Nat:=#[66,111,111,107,46,110,101,101,100]
noncomputable def q60:Array Nat:=#[66,111,111,107,46,109,111,115,116]
noncomputable def q61:Array Nat:=#[66,111,111,107,46,116,117,114,110]
noncomputable def q62:Array Nat:=#[66,111,111,107,46,117,110,100,111]
noncomputable def q63:Array Nat:=#[66,111,111,107,46,116,111,108,100]
noncomputable def q64:Array Nat:=#[66,111,111,107,46,111,119,101,100]
noncomputable def q65:Array Nat:=#[66,111,111,107,46,114,111,119,115]
noncomputable def q66:Array Nat:=#[98,101,103,105,110]
noncomputable def q67:Array Nat:=#[66,111,111,107,46,112,97,105,100]
noncomputable def q68:Array Nat:=#[99,104,101,99,107]
noncomputable def q69:Array Nat:=#[66,111,111,107,46,110,101,116]
noncomputable def q70:Array Nat:=#[119,111,114,100]
noncomputable def q71:Array Nat:=#[110,101,101,100]
noncomputable def q72:Array Nat:=#[109,111,115,116]
noncomputable def q73:Array Nat:=#[116,117,114,110]
noncomputable def q74:Array Nat:=#[117,110,100,111]
noncomputable def q75:Array Nat:=#[116,111,108,100]
noncomputable def q76:Array Nat:=#[111,119,101,100]
noncomputable def q77:Array Nat:=#[114,111,119,115]
noncomputable def q78:Array Nat:=#[112,97,105,100]
noncomputable def q79:Array Nat:=#[66,111,111,107,46,100,111]
noncomputable def q80:Array Nat:=#[100,101,101,100]
noncomputable def q81:Array Nat:=#[110,101,116]
noncomputable def zNT (P:Params):Obj:=ob (.type "dict") (.dict #[(ky P q45 165 (.str ⟨q0⟩ 194)),(ky P q14 166 .none),(ky P q31 167 .none),(ky P q35 168 (.builtin "__main__.__loader__#opaque")),(ky P q46 169 .none),(ky P q16 170 (.ref 6)),(ky P q25 171 (.ref 4)),(ky P q42 173 (.str ⟨q22⟩ 172)),(ky P q38 174 .none),(ky P q27 193 (.ref 21)),(ky P q11 213 (.ref 31)),(ky P q28 229 (.ref 44)),(ky P q19 245 (.ref 56))] 13)
noncomputable def zLi (P:Params):Obj:=ob .none (.fields (t3 [(1,0,20),(5,0,27),(7,0,40),(9,0,52)]))
noncomputable def vX (P:Params):Obj:=cd #[60,109,111,100,117,108,101,62] #[60,109,111,100,117,108,101,62] 182 1 0 0 11 false 12 .none .none .none .none 185
noncomputable def vY (P:Params):Obj:=fm 13 3 3 #[95,95,109,97,105,110,95,95] 164
noncomputable def vZ (P:Params):Obj:=ob (.type "tuple") (.seq #[(.str ⟨#[107]⟩ 190)] 0)
noncomputable def vd (P:Params):Obj:=fo .none q27 q27 (kS 0) 0 .none .none
noncomputable def vf (P:Params):Obj:=cd q27 q27 187 1 1 3 15 true 16 .none (.ref 17) (.ref 18) (.ref 19) 191
noncomputable def vg (P:Params):Obj:=fo (.type "function") q27 q27 (kS 0) 3 (.str ⟨#[95,95,109,97,105,110,95,95]⟩ 164) (.ref 20)
noncomputable def vj (P:Params):Obj:=ob (.type "tuple") (.seq #[(.type "ValueError")] 0)
noncomputable def zN (P:Params):Obj:=ob (.type "builtin_function_or_method") (.fields #[(.builtin "type.__prepare__"),(.type "type")])
noncomputable def vm (P:Params):Obj:=ob (.type "dict") (.dict #[(ky P q10 203 (.str ⟨q0⟩ 194)),(ky P q12 205 (.str ⟨q11⟩ 204)),(ky P q8 207 (.int (5) 206)),(ky P q7 208 (.ref 29))] 4)
noncomputable def vn (P:Params):Obj:=cd q11 q11 198 5 0 0 25 false 26 .none .none .none .none 201
noncomputable def vp (P:Params):Obj:=fm 27 3 24 q0 194
noncomputable def vq (P:Params):Obj:=ob (.type "dict") (.dict #[(ky P q10 203 (.str ⟨q0⟩ 194)),(ky P q8 207 (.int (5) 206)),(ky P q7 208 (.ref 29)),(ky P q41 210 (.ref 32)),(ky P q14 211 .none)] 3)
noncomputable def zLn (P:Params):Obj:={ cls:=(.type "type"),dict:=none,data:=(.cls { name:=⟨q11⟩,bases:=[(.type "ValueError")],mro:=[(.ref 31),(.type "ValueError"),(.type "Exception"),(.type "BaseException"),(.type "object")],ns:=30,qualname:=⟨q11⟩,hasDict:=true,slotNames:=[],subclasses:=[(.ref 44),(.ref 56)],abstract:=false,collection:=none,hasDel:=false }),slots:=#[(some (.ref 22)),none,(some (.str ⟨q11⟩ 196)),(some (.str ⟨q11⟩ 204)),(some (.builtin "ValueError.__new__")),(some (.bool true))] }
noncomputable def vt (P:Params):Obj:=ob (.type "getset_descriptor") (.fields #[(.str ⟨q41⟩ 209),(.ref 31),(.builtin "ExceptionGroup.__weakref__"),.none])
noncomputable def vw (P:Params):Obj:=ob (.type "super") (.fields #[(.ref 31),(.ref 31),(.ref 31)])
noncomputable def vx (P:Params):Obj:=ob (.type "builtin_function_or_method") (.fields #[(.builtin "object.__init_subclass__"),(.ref 31)])
noncomputable def zP (P:Params):Obj:=ob (.type "tuple") (.seq #[(.ref 31)] 0)
noncomputable def vy (P:Params):Obj:=ob (.type "dict") (.dict #[(ky P q10 221 (.str ⟨q0⟩ 194)),(ky P q12 223 (.str ⟨q28⟩ 222)),(ky P q8 225 (.int (7) 224)),(ky P q7 226 (.ref 42))] 4)
noncomputable def vz (P:Params):Obj:=cd q28 q28 216 7 0 0 38 false 39 .none .none .none .none 219
noncomputable def kA (P:Params):Obj:=fm 40 3 37 q0 194
noncomputable def kB (P:Params):Obj:=ob (.type "dict") (.dict #[(ky P q10 221 (.str ⟨q0⟩ 194)),(ky P q8 225 (.int (7) 224)),(ky P q7 226 (.ref 42)),(ky P q14 227 .none)] 2)
noncomputable def kC (P:Params):Obj:=tx q28 44 43 35 214 222
noncomputable def kD (P:Params):Obj:=ob (.type "super") (.fields #[(.ref 44),(.ref 44),(.ref 44)])
noncomputable def kF (P:Params):Obj:=ob (.type "builtin_function_or_method") (.fields #[(.builtin "object.__init_subclass__"),(.ref 44)])
noncomputable def kG (P:Params):Obj:=ob (.type "dict") (.dict #[(ky P q10 237 (.str ⟨q0⟩ 194)),(ky P q12 239 (.str ⟨q19⟩ 238)),(ky P q8 241 (.int (9) 240)),(ky P q7 242 (.ref 54))] 4)
noncomputable def kH (P:Params):Obj:=cd q19 q19 232 9 0 0 50 false 51 .none .none .none .none 235
noncomputable def kJ (P:Params):Obj:=fm 52 3 49 q0 194
noncomputable def kK (P:Params):Obj:=ob (.type "dict") (.dict #[(ky P q10 237 (.str ⟨q0⟩ 194)),(ky P q8 241 (.int (9) 240)),(ky P q7 242 (.ref 54)),(ky P q14 243 .none)] 2)
noncomputable def kL (P:Params):Obj:=tx q19 56 55 47 230 238
noncomputable def kM (P:Params):Obj:=ob (.type "super") (.fields #[(.ref 56),(.ref 56),(.ref 56)])
noncomputable def kN (P:Params):Obj:=ob (.type "builtin_function_or_method") (.fields #[(.builtin "object.__init_subclass__"),(.ref 56)])
noncomputable def zRD (P:Params):Heap:=⟨⟨[boot_o_0 P,boot_o_1 P,boot_o_2 P,zNT P,boot_o_4 P,boot_o_5 P,boot_o_6 P,boot_o_7 P,boot_o_8 P,boot_o_9 P,boot_o_10 P,boot_o_7 P,zLi P,vX P,vY P,boot_o_7 P,boot_o_8 P,vZ P,boot_o_7 P,vd P,vf P,vg P,vj P,zN P,vm P,boot_o_7 P,boot_o_8 P,vn P,vp P,boot_o_7 P,vq P,zLn P,vt P,vw P,vx P,zP P,zN P,vy P,boot_o_7 P,boot_o_8 P,vz P,kA P,boot_o_7 P,kB P,kC P,kD P,kF P,zP P,zN P,kG P,boot_o_7 P,boot_o_8 P,kH P,kJ P,boot_o_7 P,kK P,kL P,kM P,kN P]⟩,{ registered:=[],finalised:=[],alive:=[],known:=0,ids:=[],orphanDicts:=[],counting:=false,cnt:=#[],zero:=[],soft:=0,below:=false,collecting:=false }⟩
noncomputable def zOY (w:World) (os:OsState):Shared:=⟨zRD w.params,#[],⟨0,0,0,0⟩,246,os⟩
noncomputable def zNU (P:Params):Obj:=ob (.type "dict") (.dict #[(ky P q45 165 (.str ⟨q0⟩ 194)),(ky P q14 166 .none),(ky P q31 167 .none),(ky P q35 168 (.builtin "__main__.__loader__#opaque")),(ky P q46 169 .none),(ky P q16 170 (.ref 6)),(ky P q25 171 (.ref 4)),(ky P q42 173 (.str ⟨q22⟩ 172)),(ky P q38 174 .none),(ky P q27 193 (.ref 21)),(ky P q11 213 (.ref 31)),(ky P q28 229 (.ref 44)),(ky P q19 245 (.ref 56)),(ky P q32 261 (.ref 68)),(ky P q20 277 (.ref 80)),(ky P q18 293 (.ref 92)),(ky P q26 309 (.ref 104))] 17)
noncomputable def zLj (P:Params):Obj:=ob .none (.fields (t3 [(1,0,20),(5,0,27),(7,0,40),(9,0,52),(11,0,64),(13,0,76),(15,0,88),(17,0,100)]))
noncomputable def zLo (P:Params):Obj:={ cls:=(.type "type"),dict:=none,data:=(.cls { name:=⟨q11⟩,bases:=[(.type "ValueError")],mro:=[(.ref 31),(.type "ValueError"),(.type "Exception"),(.type "BaseException"),(.type "object")],ns:=30,qualname:=⟨q11⟩,hasDict:=true,slotNames:=[],subclasses:=[(.ref 44),(.ref 56),(.ref 68),(.ref 80),(.ref 92),(.ref 104)],abstract:=false,collection:=none,hasDel:=false }),slots:=#[(some (.ref 22)),none,(some (.str ⟨q11⟩ 196)),(some (.str ⟨q11⟩ 204)),(some (.builtin "ValueError.__new__")),(some (.bool true))] }
noncomputable def jk (P:Params):Obj:=ob (.type "dict") (.dict #[(ky P q10 253 (.str ⟨q0⟩ 194)),(ky P q12 255 (.str ⟨q32⟩ 254)),(ky P q8 257 (.int (11) 256)),(ky P q7 258 (.ref 66))] 4)
noncomputable def jl (P:Params):Obj:=cd q32 q32 248 11 0 0 62 false 63 .none .none .none .none 251
noncomputable def jm (P:Params):Obj:=fm 64 3 61 q0 194
noncomputable def jn (P:Params):Obj:=ob (.type "dict") (.dict #[(ky P q10 253 (.str ⟨q0⟩ 194)),(ky P q8 257 (.int (11) 256)),(ky P q7 258 (.ref 66)),(ky P q14 259 .none)] 2)
noncomputable def jo (P:Params):Obj:=tx q32 68 67 59 246 254
noncomputable def jp (P:Params):Obj:=ob (.type "super") (.fields #[(.ref 68),(.ref 68),(.ref 68)])
noncomputable def jq (P:Params):Obj:=ob (.type "builtin_function_or_method") (.fields #[(.builtin "object.__init_subclass__"),(.ref 68)])
noncomputable def jr (P:Params):Obj:=ob (.type "dict") (.dict #[(ky P q10 269 (.str ⟨q0⟩ 194)),(ky P q12 271 (.str ⟨q20⟩ 270)),(ky P q8 273 (.int (13) 272)),(ky P q7 274 (.ref 78))] 4)
noncomputable def js (P:Params):Obj:=cd q20 q20 264 13 0 0 74 false 75 .none .none .none .none 267
noncomputable def jt (P:Params):Obj:=fm 76 3 73 q0 194
noncomputable def ju (P:Params):Obj:=ob (.type "dict") (.dict #[(ky P q10 269 (.str ⟨q0⟩ 194)),(ky P q8 273 (.int (13) 272)),(ky P q7 274 (.ref 78)),(ky P q14 275 .none)] 2)
noncomputable def jv (P:Params):Obj:=tx q20 80 79 71 262 270
noncomputable def jw (P:Params):Obj:=ob (.type "super") (.fields #[(.ref 80),(.ref 80),(.ref 80)])
noncomputable def jx (P:Params):Obj:=ob (.type "builtin_function_or_method") (.fields #[(.builtin "object.__init_subclass__"),(.ref 80)])
noncomputable def jy (P:Params):Obj:=ob (.type "dict") (.dict #[(ky P q10 285 (.str ⟨q0⟩ 194)),(ky P q12 287 (.str ⟨q18⟩ 286)),(ky P q8 289 (.int (15) 288)),(ky P q7 290 (.ref 90))] 4)
noncomputable def jz (P:Params):Obj:=cd q18 q18 280 15 0 0 86 false 87 .none .none .none .none 283
noncomputable def zAA (P:Params):Obj:=fm 88 3 85 q0 194
noncomputable def zAB (P:Params):Obj:=ob (.type "dict") (.dict #[(ky P q10 285 (.str ⟨q0⟩ 194)),(ky P q8 289 (.int (15) 288)),(ky P q7 290 (.ref 90)),(ky P q14 291 .none)] 2)
noncomputable def zAC (P:Params):Obj:=tx q18 92 91 83 278 286
noncomputable def zAD (P:Params):Obj:=ob (.type "super") (.fields #[(.ref 92),(.ref 92),(.ref 92)])
noncomputable def zAE (P:Params):Obj:=ob (.type "builtin_function_or_method") (.fields #[(.builtin "object.__init_subclass__"),(.ref 92)])
noncomputable def zAF (P:Params):Obj:=ob (.type "dict") (.dict #[(ky P q10 301 (.str ⟨q0⟩ 194)),(ky P q12 303 (.str ⟨q26⟩ 302)),(ky P q8 305 (.int (17) 304)),(ky P q7 306 (.ref 102))] 4)
noncomputable def kl (P:Params):Obj:=cd q26 q26 296 17 0 0 98 false 99 .none .none .none .none 299
noncomputable def km (P:Params):Obj:=fm 100 3 97 q0 194
noncomputable def ko (P:Params):Obj:=ob (.type "dict") (.dict #[(ky P q10 301 (.str ⟨q0⟩ 194)),(ky P q8 305 (.int (17) 304)),(ky P q7 306 (.ref 102)),(ky P q14 307 .none)] 2)
noncomputable def kq (P:Params):Obj:=tx q26 104 103 95 294 302
noncomputable def kr (P:Params):Obj:=ob (.type "super") (.fields #[(.ref 104),(.ref 104),(.ref 104)])
noncomputable def kt (P:Params):Obj:=ob (.type "builtin_function_or_method") (.fields #[(.builtin "object.__init_subclass__"),(.ref 104)])
noncomputable def zRE (P:Params):Heap:=⟨⟨[boot_o_0 P,boot_o_1 P,boot_o_2 P,zNU P,boot_o_4 P,boot_o_5 P,boot_o_6 P,boot_o_7 P,boot_o_8 P,boot_o_9 P,boot_o_10 P,boot_o_7 P,zLj P,vX P,vY P,boot_o_7 P,boot_o_8 P,vZ P,boot_o_7 P,vd P,vf P,vg P,vj P,zN P,vm P,boot_o_7 P,boot_o_8 P,vn P,vp P,boot_o_7 P,vq P,zLo P,vt P,vw P,vx P,zP P,zN P,vy P,boot_o_7 P,boot_o_8 P,vz P,kA P,boot_o_7 P,kB P,kC P,kD P,kF P,zP P,zN P,kG P,boot_o_7 P,boot_o_8 P,kH P,kJ P,boot_o_7 P,kK P,kL P,kM P,kN P,zP P,zN P,jk P,boot_o_7 P,boot_o_8 P,jl P,jm P,boot_o_7 P,jn P,jo P,jp P,jq P,zP P,zN P,jr P,boot_o_7 P,boot_o_8 P,js P,jt P,boot_o_7 P,ju P,jv P,jw P,jx P,zP P,zN P,jy P,boot_o_7 P,boot_o_8 P,jz P,zAA P,boot_o_7 P,zAB P,zAC P,zAD P,zAE P,zP P,zN P,zAF P,boot_o_7 P,boot_o_8 P,kl P,km P,boot_o_7 P,ko P,kq P,kr P,kt P]⟩,{ registered:=[],finalised:=[],alive:=[],known:=0,ids:=[],orphanDicts:=[],counting:=false,cnt:=#[],zero:=[],soft:=0,below:=false,collecting:=false }⟩
noncomputable def zOZ (w:World) (os:OsState):Shared:=⟨zRE w.params,#[],⟨0,0,0,0⟩,310,os⟩
noncomputable def zNV (P:Params):Obj:=ob (.type "dict") (.dict #[(ky P q45 165 (.str ⟨q0⟩ 194)),(ky P q14 166 .none),(ky P q31 167 .none),(ky P q35 168 (.builtin "__main__.__loader__#opaque")),(ky P q46 169 .none),(ky P q16 170 (.ref 6)),(ky P q25 171 (.ref 4)),(ky P q42 173 (.str ⟨q22⟩ 172)),(ky P q38 174 .none),(ky P q27 193 (.ref 21)),(ky P q11 213 (.ref 31)),(ky P q28 229 (.ref 44)),(ky P q19 245 (.ref 56)),(ky P q32 261 (.ref 68)),(ky P q20 277 (.ref 80)),(ky P q18 293 (.ref 92)),(ky P q26 309 (.ref 104)),(ky P q21 325 (.ref 116)),(ky P q39 341 (.ref 128)),(ky P q34 357 (.ref 140))] 20)
noncomputable def zLk (P:Params):Obj:=ob .none (.fields (t3 [(1,0,20),(5,0,27),(7,0,40),(9,0,52),(11,0,64),(13,0,76),(15,0,88),(17,0,100),(19,0,112),(21,0,124),(23,0,136)]))
noncomputable def zCF (P:Params):Obj:={ cls:=(.type "type"),dict:=none,data:=(.cls { name:=⟨q11⟩,bases:=[(.type "ValueError")],mro:=[(.ref 31),(.type "ValueError"),(.type "Exception"),(.type "BaseException"),(.type "object")],ns:=30,qualname:=⟨q11⟩,hasDict:=true,slotNames:=[],subclasses:=[(.ref 44),(.ref 56),(.ref 68),(.ref 80),(.ref 92),(.ref 104),(.ref 116),(.ref 128),(.ref 140)],abstract:=false,collection:=none,hasDel:=false }),slots:=#[(some (.ref 22)),none,(some (.str ⟨q11⟩ 196)),(some (.str ⟨q11⟩ 204)),(some (.builtin "ValueError.__new__")),(some (.bool true))] }
noncomputable def zAg (P:Params):Obj:=ob (.type "dict") (.dict #[(ky P q10 317 (.str ⟨q0⟩ 194)),(ky P q12 319 (.str ⟨q21⟩ 318)),(ky P q8 321 (.int (19) 320)),(ky P q7 322 (.ref 114))] 4)
noncomputable def zAh (P:Params):Obj:=cd q21 q21 312 19 0 0 110 false 111 .none .none .none .none 315
noncomputable def zAi (P:Params):Obj:=fm 112 3 109 q0 194
noncomputable def zAj (P:Params):Obj:=ob (.type "dict") (.dict #[(ky P q10 317 (.str ⟨q0⟩ 194)),(ky P q8 321 (.int (19) 320)),(ky P q7 322 (.ref 114)),(ky P q14 323 .none)] 2)
noncomputable def zAk (P:Params):Obj:=tx q21 116 115 107 310 318
noncomputable def zAl (P:Params):Obj:=ob (.type "super") (.fields #[(.ref 116),(.ref 116),(.ref 116)])
noncomputable def zAm (P:Params):Obj:=ob (.type "builtin_function_or_method") (.fields #[(.builtin "object.__init_subclass__"),(.ref 116)])
noncomputable def zAn (P:Params):Obj:=ob (.type "dict") (.dict #[(ky P q10 333 (.str ⟨q0⟩ 194)),(ky P q12 335 (.str ⟨q39⟩ 334)),(ky P q8 337 (.int (21) 336)),(ky P q7 338 (.ref 126))] 4)
noncomputable def zAo (P:Params):Obj:=cd q39 q39 328 21 0 0 122 false 123 .none .none .none .none 331
noncomputable def zAp (P:Params):Obj:=fm 124 3 121 q0 194
noncomputable def zAq (P:Params):Obj:=ob (.type "dict") (.dict #[(ky P q10 333 (.str ⟨q0⟩ 194)),(ky P q8 337 (.int (21) 336)),(ky P q7 338 (.ref 126)),(ky P q14 339 .none)] 2)
noncomputable def zAr (P:Params):Obj:=tx q39 128 127 119 326 334
noncomputable def zAs (P:Params):Obj:=ob (.type "super") (.fields #[(.ref 128),(.ref 128),(.ref 128)])
noncomputable def zAt (P:Params):Obj:=ob (.type "builtin_function_or_method") (.fields #[(.builtin "object.__init_subclass__"),(.ref 128)])
noncomputable def zAu (P:Params):Obj:=ob (.type "dict") (.dict #[(ky P q10 349 (.str ⟨q0⟩ 194)),(ky P q12 351 (.str ⟨q34⟩ 350)),(ky P q8 353 (.int (23) 352)),(ky P q7 354 (.ref 138))] 4)
noncomputable def zAv (P:Params):Obj:=cd q34 q34 344 23 0 0 134 false 135 .none .none .none .none 347
noncomputable def zAw (P:Params):Obj:=fm 136 3 133 q0 194
noncomputable def zAx (P:Params):Obj:=ob (.type "dict") (.dict #[(ky P q10 349 (.str ⟨q0⟩ 194)),(ky P q8 353 (.int (23) 352)),(ky P q7 354 (.ref 138)),(ky P q14 355 .none)] 2)
noncomputable def zAy (P:Params):Obj:=tx q34 140 139 131 342 350
noncomputable def zAz (P:Params):Obj:=ob (.type "super") (.fields #[(.ref 140),(.ref 140),(.ref 140)])
noncomputable def zA0 (P:Params):Obj:=ob (.type "builtin_function_or_method") (.fields #[(.builtin "object.__init_subclass__"),(.ref 140)])
noncomputable def zRF (P:Params):Heap:=⟨⟨[boot_o_0 P,boot_o_1 P,boot_o_2 P,zNV P,boot_o_4 P,boot_o_5 P,boot_o_6 P,boot_o_7 P,boot_o_8 P,boot_o_9 P,boot_o_10 P,boot_o_7 P,zLk P,vX P,vY P,boot_o_7 P,boot_o_8 P,vZ P,boot_o_7 P,vd P,vf P,vg P,vj P,zN P,vm P,boot_o_7 P,boot_o_8 P,vn P,vp P,boot_o_7 P,vq P,zCF P,vt P,vw P,vx P,zP P,zN P,vy P,boot_o_7 P,boot_o_8 P,vz P,kA P,boot_o_7 P,kB P,kC P,kD P,kF P,zP P,zN P,kG P,boot_o_7 P,boot_o_8 P,kH P,kJ P,boot_o_7 P,kK P,kL P,kM P,kN P,zP P,zN P,jk P,boot_o_7 P,boot_o_8 P,jl P,jm P,boot_o_7 P,jn P,jo P,jp P,jq P,zP P,zN P,jr P,boot_o_7 P,boot_o_8 P,js P,jt P,boot_o_7 P,ju P,jv P,jw P,jx P,zP P,zN P,jy P,boot_o_7 P,boot_o_8 P,jz P,zAA P,boot_o_7 P,zAB P,zAC P,zAD P,zAE P,zP P,zN P,zAF P,boot_o_7 P,boot_o_8 P,kl P,km P,boot_o_7 P,ko P,kq P,kr P,kt P,zP P,zN P,zAg P,boot_o_7 P,boot_o_8 P,zAh P,zAi P,boot_o_7 P,zAj P,zAk P,zAl P,zAm P,zP P,zN P,zAn P,boot_o_7 P,boot_o_8 P,zAo P,zAp P,boot_o_7 P,zAq P,zAr P,zAs P,zAt P,zP P,zN P,zAu P,boot_o_7 P,boot_o_8 P,zAv P,zAw P,boot_o_7 P,zAx P,zAy P,zAz P,zA0 P]⟩,{ registered:=[],finalised:=[],alive:=[],known:=0,ids:=[],orphanDicts:=[],counting:=false,cnt:=#[],zero:=[],soft:=0,below:=false,collecting:=false }⟩
noncomputable def zOa (w:World) (os:OsState):Shared:=⟨zRF w.params,#[],⟨0,0,0,0⟩,358,os⟩
noncomputable def zNW (P:Params):Obj:=ob (.type "dict") (.dict #[(ky P q45 165 (.str ⟨q9⟩ 430)),(ky P q14 166 .none),(ky P q31 167 .none),(ky P q35 168 (.builtin "__main__.__loader__#opaque")),(ky P q46 169 .none),(ky P q16 170 (.ref 6)),(ky P q25 171 (.ref 4)),(ky P q42 173 (.str ⟨q22⟩ 172)),(ky P q38 174 .none),(ky P q27 193 (.ref 21)),(ky P q11 213 (.ref 31)),(ky P q28 229 (.ref 44)),(ky P q19 245 (.ref 56)),(ky P q32 261 (.ref 68)),(ky P q20 277 (.ref 80)),(ky P q18 293 (.ref 92)),(ky P q26 309 (.ref 104)),(ky P q21 325 (.ref 116)),(ky P q39 341 (.ref 128)),(ky P q34 357 (.ref 140)),(ky P #[76,69,84,84,69,82,83] 361 (.str ⟨q29⟩ 360)),(ky P #[77,79,83,84,95,83,73,71,78,83] 363 (.int (12) 362)),(ky P #[77,79,83,84,95,76,73,78,69,83] 365 (.int (20) 364)),(ky P #[77,79,83,84,95,80,73,69,67,69,83] 367 (.int (1000000) 366)),(ky P #[77,79,83,84,95,67,69,78,84,83] 369 (.int (1000000000) 368)),(ky P #[77,79,83,84,95,80,65,67,75] 371 (.int (1000) 370)),(ky P q36 380 (.ref 149)),(ky P q23 386 (.ref 154)),(ky P q15 394 (.ref 161)),(ky P q40 401 (.ref 168)),(ky P q33 408 (.ref 175)),(ky P q24 416 (.ref 182)),(ky P q30 429 (.ref 189)),(ky P #[77,79,83,84,95,79,82,68,69,82,83] 433 (.int (40) 432)),(ky P #[80,65,82,84,83] 458 (.ref 190))] 35)
noncomputable def zLl (P:Params):Obj:=ob .none (.fields (t3 [(1,0,20),(5,0,27),(7,0,40),(9,0,52),(11,0,64),(13,0,76),(15,0,88),(17,0,100),(19,0,112),(21,0,124),(23,0,136),(32,0,148),(34,0,153),(38,0,160),(46,0,167),(48,0,174),(50,0,181),(56,0,188)]))
noncomputable def zC2 (P:Params):Obj:=ob (.type "tuple") (.seq #[(.str ⟨#[112,105,101,99,101,115]⟩ 375),(.str ⟨#[99,101,110,116,115]⟩ 376),(.str ⟨#[112,97,99,107]⟩ 377)] 0)
noncomputable def zC3 (P:Params):Obj:=fo .none q36 q36 (kS 19) 0 .none .none
noncomputable def zC4 (P:Params):Obj:=cd q36 q36 372 32 3 3 143 true 144 .none (.ref 145) (.ref 146) (.ref 147) 378
noncomputable def zC5 (P:Params):Obj:=fo (.type "function") q36 q36 (kS 19) 3 (.str ⟨q13⟩ 358) (.ref 148)
noncomputable def zC6 (P:Params):Obj:=fo .none q23 q23 (kS 20) 0 .none .none
noncomputable def zC7 (P:Params):Obj:=cd q23 q23 381 34 1 3 150 true 151 .none .none .none (.ref 152) 384
noncomputable def zC8 (P:Params):Obj:=fo (.type "function") q23 q23 (kS 20) 3 (.str ⟨q13⟩ 358) (.ref 153)
noncomputable def zC9 (P:Params):Obj:=ob (.type "tuple") (.seq #[(.str ⟨#[108,105,110,101,115]⟩ 390),(.str ⟨q58⟩ 391)] 0)
noncomputable def zDA (P:Params):Obj:=fo .none q15 q15 (kS 21) 0 .none .none
noncomputable def zDB (P:Params):Obj:=cd q15 q15 387 38 1 3 155 true 156 .none (.ref 157) (.ref 158) (.ref 159) 392
noncomputable def zDC (P:Params):Obj:=fo (.type "function") q15 q15 (kS 21) 3 (.str ⟨q13⟩ 358) (.ref 160)
noncomputable def zDD (P:Params):Obj:=ob (.type "tuple") (.seq #[(.str ⟨q58⟩ 398)] 0)
noncomputable def zDE (P:Params):Obj:=fo .none q40 q40 (kS 22) 0 .none .none
noncomputable def zDF (P:Params):Obj:=cd q40 q40 395 46 1 3 162 true 163 .none (.ref 164) (.ref 165) (.ref 166) 399
noncomputable def zDG (P:Params):Obj:=fo (.type "function") q40 q40 (kS 22) 3 (.str ⟨q13⟩ 358) (.ref 167)
noncomputable def zDH (P:Params):Obj:=ob (.type "tuple") (.seq #[(.str ⟨q58⟩ 405)] 0)
noncomputable def zDI (P:Params):Obj:=fo .none q33 q33 (kS 23) 0 .none .none
noncomputable def zDJ (P:Params):Obj:=cd q33 q33 402 48 1 3 169 true 170 .none (.ref 171) (.ref 172) (.ref 173) 406
noncomputable def zDK (P:Params):Obj:=fo (.type "function") q33 q33 (kS 23) 3 (.str ⟨q13⟩ 358) (.ref 174)
noncomputable def zDL (P:Params):Obj:=ob (.type "tuple") (.seq #[(.str ⟨q70⟩ 412),(.str ⟨q58⟩ 413)] 0)
noncomputable def zDM (P:Params):Obj:=fo .none q24 q24 (kS 24) 0 .none .none
noncomputable def zDN (P:Params):Obj:=cd q24 q24 409 50 2 3 176 true 177 .none (.ref 178) (.ref 179) (.ref 180) 414
noncomputable def zDO (P:Params):Obj:=fo (.type "function") q24 q24 (kS 24) 3 (.str ⟨q13⟩ 358) (.ref 181)
noncomputable def zDP (P:Params):Obj:=ob (.type "tuple") (.seq #[(.str ⟨q70⟩ 420),(.str ⟨q58⟩ 421),(.str ⟨#[109,97,110,121]⟩ 422),(.str ⟨#[115,101,110,116]⟩ 423),(.str ⟨#[104,111,109,101]⟩ 424),(.str ⟨#[97,103,97,105,110]⟩ 425),(.str ⟨#[99,114,101,100,105,116,101,100]⟩ 426)] 0)
noncomputable def zDQ (P:Params):Obj:=fo .none q30 q30 (kS 25) 0 .none .none
noncomputable def zDR (P:Params):Obj:=cd q30 q30 417 56 3 3 183 true 184 .none (.ref 185) (.ref 186) (.ref 187) 427
noncomputable def zDS (P:Params):Obj:=fo (.type "function") q30 q30 (kS 25) 3 (.str ⟨q13⟩ 358) (.ref 188)
noncomputable def zDT (P:Params):Obj:=ob (.type "dict") (.dict #[(ky P q37 434 (.int (2) 435)),(ky P #[100,101,108,105,118,101,114] 436 (.int (4) 437)),(ky P #[98,97,99,107] 438 (.int (4) 439)),(ky P #[115,119,97,112] 440 (.int (4) 441)),(ky P #[99,114,101,100,105,116] 442 (.int (4) 443)),(ky P #[112,97,121] 444 (.int (3) 445)),(ky P #[114,101,102,117,110,100] 446 (.int (3) 447)),(ky P #[109,111,118,101] 448 (.int (4) 449))] 8)
noncomputable def zRG (P:Params):Heap:=⟨⟨[boot_o_0 P,boot_o_1 P,boot_o_2 P,zNW P,boot_o_4 P,boot_o_5 P,boot_o_6 P,boot_o_7 P,boot_o_8 P,boot_o_9 P,boot_o_10 P,boot_o_7 P,zLl P,vX P,vY P,boot_o_7 P,boot_o_8 P,vZ P,boot_o_7 P,vd P,vf P,vg P,vj P,zN P,vm P,boot_o_7 P,boot_o_8 P,vn P,vp P,boot_o_7 P,vq P,zCF P,vt P,vw P,vx P,zP P,zN P,vy P,boot_o_7 P,boot_o_8 P,vz P,kA P,boot_o_7 P,kB P,kC P,kD P,kF P,zP P,zN P,kG P,boot_o_7 P,boot_o_8 P,kH P,kJ P,boot_o_7 P,kK P,kL P,kM P,kN P,zP P,zN P,jk P,boot_o_7 P,boot_o_8 P,jl P,jm P,boot_o_7 P,jn P,jo P,jp P,jq P,zP P,zN P,jr P,boot_o_7 P,boot_o_8 P,js P,jt P,boot_o_7 P,ju P,jv P,jw P,jx P,zP P,zN P,jy P,boot_o_7 P,boot_o_8 P,jz P,zAA P,boot_o_7 P,zAB P,zAC P,zAD P,zAE P,zP P,zN P,zAF P,boot_o_7 P,boot_o_8 P,kl P,km P,boot_o_7 P,ko P,kq P,kr P,kt P,zP P,zN P,zAg P,boot_o_7 P,boot_o_8 P,zAh P,zAi P,boot_o_7 P,zAj P,zAk P,zAl P,zAm P,zP P,zN P,zAn P,boot_o_7 P,boot_o_8 P,zAo P,zAp P,boot_o_7 P,zAq P,zAr P,zAs P,zAt P,zP P,zN P,zAu P,boot_o_7 P,boot_o_8 P,zAv P,zAw P,boot_o_7 P,zAx P,zAy P,zAz P,zA0 P,boot_o_7 P,boot_o_8 P,zC2 P,boot_o_7 P,zC3 P,zC4 P,zC5 P,boot_o_7 P,boot_o_8 P,zC6 P,zC7 P,zC8 P,boot_o_7 P,boot_o_8 P,zC9 P,boot_o_7 P,zDA P,zDB P,zDC P,boot_o_7 P,boot_o_8 P,zDD P,boot_o_7 P,zDE P,zDF P,zDG P,boot_o_7 P,boot_o_8 P,zDH P,boot_o_7 P,zDI P,zDJ P,zDK P,boot_o_7 P,boot_o_8 P,zDL P,boot_o_7 P,zDM P,zDN P,zDO P,boot_o_7 P,boot_o_8 P,zDP P,boot_o_7 P,zDQ P,zDR P,zDS P,zDT P]⟩,{ registered:=[],finalised:=[],alive:=[],known:=0,ids:=[],orphanDicts:=[],counting:=false,cnt:=#[],zero:=[],soft:=0,below:=false,collecting:=false }⟩
noncomputable def zOb (w:World) (os:OsState):Shared:=⟨zRG w.params,#[],⟨0,0,0,0⟩,459,os⟩
noncomputable def zNX (P:Params):Obj:=ob (.type "dict") (.dict #[(ky P q45 165 (.str ⟨q9⟩ 430)),(ky P q14 166 .none),(ky P q31 167 .none),(ky P q35 168 (.builtin "__main__.__loader__#opaque")),(ky P q46 169 .none),(ky P q16 170 (.ref 6)),(ky P q25 171 (.ref 4)),(ky P q42 173 (.str ⟨q22⟩ 172)),(ky P q38 174 .none),(ky P q27 193 (.ref 21)),(ky P q11 213 (.ref 31)),(ky P q28 229 (.ref 44)),(ky P q19 245 (.ref 56)),(ky P q32 261 (.ref 68)),(ky P q20 277 (.ref 80)),(ky P q18 293 (.ref 92)),(ky P q26 309 (.ref 104)),(ky P q21 325 (.ref 116)),(ky P q39 341 (.ref 128)),(ky P q34 357 (.ref 140)),(ky P #[76,69,84,84,69,82,83] 361 (.str ⟨q29⟩ 360)),(ky P #[77,79,83,84,95,83,73,71,78,83] 363 (.int (12) 362)),(ky P #[77,79,83,84,95,76,73,78,69,83] 365 (.int (20) 364)),(ky P #[77,79,83,84,95,80,73,69,67,69,83] 367 (.int (1000000) 366)),(ky P #[77,79,83,84,95,67,69,78,84,83] 369 (.int (1000000000) 368)),(ky P #[77,79,83,84,95,80,65,67,75] 371 (.int (1000) 370)),(ky P q36 380 (.ref 149)),(ky P q23 386 (.ref 154)),(ky P q15 394 (.ref 161)),(ky P q40 401 (.ref 168)),(ky P q33 408 (.ref 175)),(ky P q24 416 (.ref 182)),(ky P q30 429 (.ref 189)),(ky P #[77,79,83,84,95,79,82,68,69,82,83] 433 (.int (40) 432)),(ky P #[80,65,82,84,83] 458 (.ref 190)),(ky P #[76,73,78,69,68] 463 (.ref 191)),(ky P q49 627 (.ref 316))] 37)
noncomputable def zLm (P:Params):Obj:=ob .none (.fields (t3 [(1,0,20),(5,0,27),(7,0,40),(9,0,52),(11,0,64),(13,0,76),(15,0,88),(17,0,100),(19,0,112),(21,0,124),(23,0,136),(32,0,148),(34,0,153),(38,0,160),(46,0,167),(48,0,174),(50,0,181),(56,0,188),(75,0,197)]))
noncomputable def zIt (P:Params):Obj:=ob (.type "tuple") (.seq #[(.str ⟨#[100,101,108,105,118,101,114]⟩ 459),(.str ⟨#[98,97,99,107]⟩ 460),(.str ⟨#[115,119,97,112]⟩ 461),(.str ⟨#[99,114,101,100,105,116]⟩ 462)] 0)
noncomputable def zIu (P:Params):Obj:=ob (.type "dict") (.dict #[(ky P q10 471 (.str ⟨q9⟩ 430)),(ky P q12 473 (.str ⟨q49⟩ 472)),(ky P q8 475 (.int (75) 474)),(ky P q43 482 (.ref 205)),(ky P q71 490 (.ref 212)),(ky P #[100,111] 498 (.ref 219)),(ky P q66 504 (.ref 224)),(ky P q68 512 (.ref 231)),(ky P q72 520 (.ref 238)),(ky P q54 531 (.ref 245)),(ky P q55 542 (.ref 252)),(ky P q73 558 (.ref 259)),(ky P q74 565 (.ref 266)),(ky P q51 572 (.ref 273)),(ky P q75 580 (.ref 280)),(ky P q78 588 (.ref 287)),(ky P q76 594 (.ref 292)),(ky P q77 602 (.ref 299)),(ky P q44 610 (.ref 306)),(ky P q81 617 (.ref 313)),(ky P q7 620 (.ref 314))] 21)
noncomputable def zIv (P:Params):Obj:=ob .none (.fields (t3 [(77,4,204),(81,4,211),(85,4,218),(93,4,223),(101,4,230),(114,4,237),(119,4,244),(134,4,251),(139,4,258),(148,4,265),(151,4,272),(154,4,279),(157,4,286),(161,4,291),(165,4,298),(169,4,305),(172,4,312)]))
noncomputable def zIw (P:Params):Obj:=cd q49 q49 466 75 0 0 195 false 196 .none .none .none .none 469
noncomputable def zIx (P:Params):Obj:=fm 197 3 194 q9 430
noncomputable def zIy (P:Params):Obj:=ob (.type "tuple") (.seq #[(.str ⟨q17⟩ 479)] 0)
noncomputable def zIz (P:Params):Obj:=fo .none q43 q47 (zv 30 0) 0 .none .none
noncomputable def zI0 (P:Params):Obj:=cd q43 q47 476 77 1 3 199 true 200 .none (.ref 201) (.ref 202) (.ref 203) 480
noncomputable def zI1 (P:Params):Obj:=fo (.type "function") q43 q47 (zv 30 0) 3 (.str ⟨q9⟩ 430) (.ref 204)
noncomputable def zI2 (P:Params):Obj:=ob (.type "tuple") (.seq #[(.str ⟨q17⟩ 486),(.str ⟨q37⟩ 487)] 0)
noncomputable def zI3 (P:Params):Obj:=fo .none q71 q59 (zv 30 1) 0 .none .none
noncomputable def zI4 (P:Params):Obj:=cd q71 q59 483 81 2 3 206 true 207 .none (.ref 208) (.ref 209) (.ref 210) 488
noncomputable def zI5 (P:Params):Obj:=fo (.type "function") q71 q59 (zv 30 1) 3 (.str ⟨q9⟩ 430) (.ref 211)
noncomputable def zI6 (P:Params):Obj:=ob (.type "tuple") (.seq #[(.str ⟨q17⟩ 494),(.str ⟨q80⟩ 495)] 0)
noncomputable def zI7 (P:Params):Obj:=fo .none #[100,111] q79 (zv 30 2) 0 .none .none
noncomputable def zI8 (P:Params):Obj:=cd #[100,111] q79 491 85 2 3 213 true 214 .none (.ref 215) (.ref 216) (.ref 217) 496
noncomputable def zI9 (P:Params):Obj:=fo (.type "function") #[100,111] q79 (zv 30 2) 3 (.str ⟨q9⟩ 430) (.ref 218)
noncomputable def zJA (P:Params):Obj:=fo .none q66 q56 (zv 30 3) 0 .none .none
noncomputable def zJB (P:Params):Obj:=cd q66 q56 499 93 2 3 220 true 221 .none .none .none (.ref 222) 502
noncomputable def zJC (P:Params):Obj:=fo (.type "function") q66 q56 (zv 30 3) 3 (.str ⟨q9⟩ 430) (.ref 223)
noncomputable def zJD (P:Params):Obj:=ob (.type "tuple") (.seq #[(.str ⟨q17⟩ 508),(.str ⟨q80⟩ 509)] 0)
noncomputable def zJE (P:Params):Obj:=fo .none q68 q57 (zv 30 4) 0 .none .none
noncomputable def zJF (P:Params):Obj:=cd q68 q57 505 101 2 3 225 true 226 .none (.ref 227) (.ref 228) (.ref 229) 510
noncomputable def zJG (P:Params):Obj:=fo (.type "function") q68 q57 (zv 30 4) 3 (.str ⟨q9⟩ 430) (.ref 230)
noncomputable def zJH (P:Params):Obj:=ob (.type "tuple") (.seq #[(.str ⟨q17⟩ 516),(.str ⟨q80⟩ 517)] 0)
noncomputable def zJI (P:Params):Obj:=fo .none q72 q60 (zv 30 5) 0 .none .none
noncomputable def zJJ (P:Params):Obj:=cd q72 q60 513 114 2 3 232 true 233 .none (.ref 234) (.ref 235) (.ref 236) 518
noncomputable def zJK (P:Params):Obj:=fo (.type "function") q72 q60 (zv 30 5) 3 (.str ⟨q9⟩ 430) (.ref 237)
noncomputable def zJL (P:Params):Obj:=ob (.type "tuple") (.seq #[(.str ⟨q17⟩ 524),(.str ⟨q80⟩ 525),(.str ⟨q70⟩ 526),(.str ⟨#[109,97,110,121]⟩ 527),(.str ⟨#[111,108,100]⟩ 528)] 0)
noncomputable def zJM (P:Params):Obj:=fo .none q54 q52 (zv 30 6) 0 .none .none
noncomputable def zJN (P:Params):Obj:=cd q54 q52 521 119 2 3 239 true 240 .none (.ref 241) (.ref 242) (.ref 243) 529
noncomputable def zJO (P:Params):Obj:=fo (.type "function") q54 q52 (zv 30 6) 3 (.str ⟨q9⟩ 430) (.ref 244)
noncomputable def zJP (P:Params):Obj:=ob (.type "tuple") (.seq #[(.str ⟨q17⟩ 535),(.str ⟨q37⟩ 536),(.str ⟨q70⟩ 537),(.str ⟨#[99,101,110,116,115]⟩ 538),(.str ⟨#[101,110,116,114,121]⟩ 539)] 0)
noncomputable def zJQ (P:Params):Obj:=fo .none q55 q53 (zv 30 7) 0 .none .none
noncomputable def zJR (P:Params):Obj:=cd q55 q53 532 134 4 3 246 true 247 .none (.ref 248) (.ref 249) (.ref 250) 540
noncomputable def zJS (P:Params):Obj:=fo (.type "function") q55 q53 (zv 30 7) 3 (.str ⟨q9⟩ 430) (.ref 251)
noncomputable def zJT (P:Params):Obj:=ob (.type "tuple") (.seq #[(.str ⟨q17⟩ 546),(.str ⟨q37⟩ 547),(.str ⟨#[112,108,97,99,101]⟩ 548),(.str ⟨q70⟩ 549),(.str ⟨#[109,97,110,121]⟩ 550),(.str ⟨#[101,110,116,114,121]⟩ 551),(.str ⟨q58⟩ 552),(.str ⟨#[111,116,104,101,114]⟩ 553),(.str ⟨#[99,101,110,116,115]⟩ 554),(.str ⟨#[108,105,110,101,115]⟩ 555)] 0)
noncomputable def zJU (P:Params):Obj:=fo .none q73 q61 (zv 30 8) 0 .none .none
noncomputable def zJV (P:Params):Obj:=cd q73 q61 543 139 5 3 253 true 254 .none (.ref 255) (.ref 256) (.ref 257) 556
noncomputable def zJW (P:Params):Obj:=fo (.type "function") q73 q61 (zv 30 8) 3 (.str ⟨q9⟩ 430) (.ref 258)
noncomputable def zJX (P:Params):Obj:=ob (.type "tuple") (.seq #[(.str ⟨q17⟩ 562)] 0)
noncomputable def zJY (P:Params):Obj:=fo .none q74 q62 (zv 30 9) 0 .none .none
noncomputable def zJZ (P:Params):Obj:=cd q74 q62 559 148 1 3 260 true 261 .none (.ref 262) (.ref 263) (.ref 264) 563
noncomputable def zJa (P:Params):Obj:=fo (.type "function") q74 q62 (zv 30 9) 3 (.str ⟨q9⟩ 430) (.ref 265)
noncomputable def zJb (P:Params):Obj:=ob (.type "tuple") (.seq #[(.str ⟨q17⟩ 569)] 0)
noncomputable def zJc (P:Params):Obj:=fo .none q51 q50 (zv 30 10) 0 .none .none
noncomputable def zJd (P:Params):Obj:=cd q51 q50 566 151 1 3 267 true 268 .none (.ref 269) (.ref 270) (.ref 271) 570
noncomputable def zJe (P:Params):Obj:=fo (.type "function") q51 q50 (zv 30 10) 3 (.str ⟨q9⟩ 430) (.ref 272)
noncomputable def zJf (P:Params):Obj:=ob (.type "tuple") (.seq #[(.str ⟨q17⟩ 576),(.str ⟨q37⟩ 577)] 0)
noncomputable def zJg (P:Params):Obj:=fo .none q75 q63 (zv 30 11) 0 .none .none
noncomputable def zJh (P:Params):Obj:=cd q75 q63 573 154 2 3 274 true 275 .none (.ref 276) (.ref 277) (.ref 278) 578
noncomputable def zJi (P:Params):Obj:=fo (.type "function") q75 q63 (zv 30 11) 3 (.str ⟨q9⟩ 430) (.ref 279)
noncomputable def zJj (P:Params):Obj:=ob (.type "tuple") (.seq #[(.str ⟨q17⟩ 584),(.str ⟨q37⟩ 585)] 0)
noncomputable def zJk (P:Params):Obj:=fo .none q78 q67 (zv 30 12) 0 .none .none
noncomputable def zJl (P:Params):Obj:=cd q78 q67 581 157 2 3 281 true 282 .none (.ref 283) (.ref 284) (.ref 285) 586
noncomputable def zJm (P:Params):Obj:=fo (.type "function") q78 q67 (zv 30 12) 3 (.str ⟨q9⟩ 430) (.ref 286)
noncomputable def zJn (P:Params):Obj:=fo .none q76 q64 (zv 30 13) 0 .none .none
noncomputable def zJo (P:Params):Obj:=cd q76 q64 589 161 2 3 288 true 289 .none .none .none (.ref 290) 592
noncomputable def zJp (P:Params):Obj:=fo (.type "function") q76 q64 (zv 30 13) 3 (.str ⟨q9⟩ 430) (.ref 291)
noncomputable def zJq (P:Params):Obj:=ob (.type "tuple") (.seq #[(.str ⟨q17⟩ 598),(.str ⟨q37⟩ 599)] 0)
noncomputable def zJr (P:Params):Obj:=fo .none q77 q65 (zv 30 14) 0 .none .none
noncomputable def zJs (P:Params):Obj:=cd q77 q65 595 165 2 3 293 true 294 .none (.ref 295) (.ref 296) (.ref 297) 600
noncomputable def zJt (P:Params):Obj:=fo (.type "function") q77 q65 (zv 30 14) 3 (.str ⟨q9⟩ 430) (.ref 298)
noncomputable def zJu (P:Params):Obj:=ob (.type "tuple") (.seq #[(.str ⟨q17⟩ 606),(.str ⟨q37⟩ 607)] 0)
noncomputable def zJv (P:Params):Obj:=fo .none q44 q48 (zv 30 15) 0 .none .none
noncomputable def zJw (P:Params):Obj:=cd q44 q48 603 169 2 3 300 true 301 .none (.ref 302) (.ref 303) (.ref 304) 608
noncomputable def zJx (P:Params):Obj:=fo (.type "function") q44 q48 (zv 30 15) 3 (.str ⟨q9⟩ 430) (.ref 305)
noncomputable def zJy (P:Params):Obj:=ob (.type "tuple") (.seq #[(.str ⟨q17⟩ 614)] 0)
noncomputable def zJz (P:Params):Obj:=fo .none q81 q69 (zv 30 16) 0 .none .none
noncomputable def zJ0 (P:Params):Obj:=cd q81 q69 611 172 1 3 307 true 308 .none (.ref 309) (.ref 310) (.ref 311) 615
noncomputable def zJ1 (P:Params):Obj:=fo (.type "function") q81 q69 (zv 30 16) 3 (.str ⟨q9⟩ 430) (.ref 312)
noncomputable def zJ2 (P:Params):Obj:=ob (.type "tuple") (.seq #[(.str ⟨#[101,110,116,114,105,101,115]⟩ 618),(.str ⟨#[104,105,115,116,111,114,121]⟩ 619)] 0)
noncomputable def zJ3 (P:Params):Obj:=ob (.type "dict") (.dict #[(ky P q10 471 (.str ⟨q9⟩ 430)),(ky P q8 475 (.int (75) 474)),(ky P q43 482 (.ref 205)),(ky P q71 490 (.ref 212)),(ky P #[100,111] 498 (.ref 219)),(ky P q66 504 (.ref 224)),(ky P q68 512 (.ref 231)),(ky P q72 520 (.ref 238)),(ky P q54 531 (.ref 245)),(ky P q55 542 (.ref 252)),(ky P q73 558 (.ref 259)),(ky P q74 565 (.ref 266)),(ky P q51 572 (.ref 273)),(ky P q75 580 (.ref 280)),(ky P q78 588 (.ref 287)),(ky P q76 594 (.ref 292)),(ky P q77 602 (.ref 299)),(ky P q44 610 (.ref 306)),(ky P q81 617 (.ref 313)),(ky P q7 620 (.ref 314)),(ky P #[95,95,100,105,99,116,95,95] 622 (.ref 317)),(ky P q41 624 (.ref 318)),(ky P q14 625 .none)] 4)
noncomputable def zJ4 (P:Params):Obj:={ cls:=(.type "type"),dict:=none,data:=(.cls { name:=⟨q49⟩,bases:=[(.type "object")],mro:=[(.ref 316),(.type "object")],ns:=315,qualname:=⟨q49⟩,hasDict:=true,slotNames:=[],subclasses:=[],abstract:=false,collection:=none,hasDel:=false }),slots:=#[none,none,(some (.str ⟨q49⟩ 464)),(some (.str ⟨q49⟩ 472)),(some (.builtin "object.__new__")),(some (.bool true))] }
noncomputable def zJ5 (P:Params):Obj:=ob (.type "getset_descriptor") (.fields #[(.str ⟨#[95,95,100,105,99,116,95,95]⟩ 621),(.ref 316),(.builtin "function.__dict__"),(.builtin "function.__dict__#set")])
noncomputable def zJ6 (P:Params):Obj:=ob (.type "getset_descriptor") (.fields #[(.str ⟨q41⟩ 623),(.ref 316),(.builtin "ExceptionGroup.__weakref__"),.none])
noncomputable def zJ7 (P:Params):Obj:=ob (.type "super") (.fields #[(.ref 316),(.ref 316),(.ref 316)])
noncomputable def zJ8 (P:Params):Obj:=ob (.type "builtin_function_or_method") (.fields #[(.builtin "object.__init_subclass__"),(.ref 316)])
noncomputable def zRH (P:Params):Heap:=⟨⟨[boot_o_0 P,boot_o_1 P,boot_o_2 P,zNX P,boot_o_4 P,boot_o_5 P,boot_o_6 P,boot_o_7 P,boot_o_8 P,boot_o_9 P,boot_o_10 P,boot_o_7 P,zLm P,vX P,vY P,boot_o_7 P,boot_o_8 P,vZ P,boot_o_7 P,vd P,vf P,vg P,vj P,zN P,vm P,boot_o_7 P,boot_o_8 P,vn P,vp P,boot_o_7 P,vq P,zCF P,vt P,vw P,vx P,zP P,zN P,vy P,boot_o_7 P,boot_o_8 P,vz P,kA P,boot_o_7 P,kB P,kC P,kD P,kF P,zP P,zN P,kG P,boot_o_7 P,boot_o_8 P,kH P,kJ P,boot_o_7 P,kK P,kL P,kM P,kN P,zP P,zN P,jk P,boot_o_7 P,boot_o_8 P,jl P,jm P,boot_o_7 P,jn P,jo P,jp P,jq P,zP P,zN P,jr P,boot_o_7 P,boot_o_8 P,js P,jt P,boot_o_7 P,ju P,jv P,jw P,jx P,zP P,zN P,jy P,boot_o_7 P,boot_o_8 P,jz P,zAA P,boot_o_7 P,zAB P,zAC P,zAD P,zAE P,zP P,zN P,zAF P,boot_o_7 P,boot_o_8 P,kl P,km P,boot_o_7 P,ko P,kq P,kr P,kt P,zP P,zN P,zAg P,boot_o_7 P,boot_o_8 P,zAh P,zAi P,boot_o_7 P,zAj P,zAk P,zAl P,zAm P,zP P,zN P,zAn P,boot_o_7 P,boot_o_8 P,zAo P,zAp P,boot_o_7 P,zAq P,zAr P,zAs P,zAt P,zP P,zN P,zAu P,boot_o_7 P,boot_o_8 P,zAv P,zAw P,boot_o_7 P,zAx P,zAy P,zAz P,zA0 P,boot_o_7 P,boot_o_8 P,zC2 P,boot_o_7 P,zC3 P,zC4 P,zC5 P,boot_o_7 P,boot_o_8 P,zC6 P,zC7 P,zC8 P,boot_o_7 P,boot_o_8 P,zC9 P,boot_o_7 P,zDA P,zDB P,zDC P,boot_o_7 P,boot_o_8 P,zDD P,boot_o_7 P,zDE P,zDF P,zDG P,boot_o_7 P,boot_o_8 P,zDH P,boot_o_7 P,zDI P,zDJ P,zDK P,boot_o_7 P,boot_o_8 P,zDL P,boot_o_7 P,zDM P,zDN P,zDO P,boot_o_7 P,boot_o_8 P,zDP P,boot_o_7 P,zDQ P,zDR P,zDS P,zDT P,zIt P,boot_o_7 P,zN P,zIu P,boot_o_7 P,zIv P,zIw P,zIx P,boot_o_7 P,boot_o_8 P,zIy P,boot_o_7 P,zIz P,zI0 P,zI1 P,boot_o_7 P,boot_o_8 P,zI2 P,boot_o_7 P,zI3 P,zI4 P,zI5 P,boot_o_7 P,boot_o_8 P,zI6 P,boot_o_7 P,zI7 P,zI8 P,zI9 P,boot_o_7 P,boot_o_8 P,zJA P,zJB P,zJC P,boot_o_7 P,boot_o_8 P,zJD P,boot_o_7 P,zJE P,zJF P,zJG P,boot_o_7 P,boot_o_8 P,zJH P,boot_o_7 P,zJI P,zJJ P,zJK P,boot_o_7 P,boot_o_8 P,zJL P,boot_o_7 P,zJM P,zJN P,zJO P,boot_o_7 P,boot_o_8 P,zJP P,boot_o_7 P,zJQ P,zJR P,zJS P,boot_o_7 P,boot_o_8 P,zJT P,boot_o_7 P,zJU P,zJV P,zJW P,boot_o_7 P,boot_o_8 P,zJX P,boot_o_7 P,zJY P,zJZ P,zJa P,boot_o_7 P,boot_o_8 P,zJb P,boot_o_7 P,zJc P,zJd P,zJe P,boot_o_7 P,boot_o_8 P,zJf P,boot_o_7 P,zJg P,zJh P,zJi P,boot_o_7 P,boot_o_8 P,zJj P,boot_o_7 P,zJk P,zJl P,zJm P,boot_o_7 P,boot_o_8 P,zJn P,zJo P,zJp P,boot_o_7 P,boot_o_8 P,zJq P,boot_o_7 P,zJr P,zJs P,zJt P,boot_o_7 P,boot_o_8 P,zJu P,boot_o_7 P,zJv P,zJw P,zJx P,boot_o_7 P,boot_o_8 P,zJy P,boot_o_7 P,zJz P,zJ0 P,zJ1 P,zJ2 P,zJ3 P,zJ4 P,zJ5 P,zJ6 P,zJ7 P,zJ8 P]⟩,{ registered:=[],finalised:=[],alive:=[],known:=0,ids:=[],orphanDicts:=[],counting:=false,cnt:=#[],zero:=[],soft:=0,below:=false,collecting:=false }⟩
noncomputable def zHr (w:World) (os:OsState):Shared:=⟨zRH w.params,#[],⟨0,0,0,0⟩,628,os⟩
noncomputable def zBD:Env:={ scope:=pw14.main.scope,locals:=mainNs,globals:=mainNs,cells:=[],code:=(.ref 13),frame:=some 14 }
noncomputable def b14:List Stmt:=behindTheImports pw14
noncomputable def c14:Code:=.body b14 zBD
noncomputable def z14 (w:World) (os:OsState):Shared:=⟨boot_heap w.params,Array.mk [],boot_drawn,boot_toks,os⟩
noncomputable def zMQ (w:World) (os:OsState):=topGo treeTable pw14 w 11 (some (.ref 6)) 12 (z14 w os) (topStub pw14)
noncomputable def zMO (w:World) (os:OsState):=(zMQ w os).bind fun x=>segRun treeTable pw14 w 11 (some (.ref 6)) 1 1 x.1 (blockOf b14 zBD c14 ⟨0,0,0,0⟩ [topFrame ⟨0,0,0,0⟩])
theorem zRY:∀ (w:World),(fun os=>(zMQ w os).map (·.2))=fun _=>some ⟨denote treeTable c14,c14,⟨0,0,0,0⟩,[topFrame ⟨0,0,0,0⟩]⟩:=by
 intro w; kernel_rfl
theorem zQm:∀ (w:World),(fun os=>(zMO w os).map fun y=>(y.1,y.2.2))=fun _=>some (.next,c14,⟨0,0,0,0⟩):=by
 intro w; kernel_rfl
noncomputable def zQY (w:World) (os:OsState):=(zMO w os).bind fun y=>segRun treeTable pw14 w 11 (some (.ref 6)) 1 651 y.2.1 (piecesOf ((b14.take 5).drop 0) zBD c14 ⟨0,0,0,0⟩ [topFrame ⟨0,0,0,0⟩])
noncomputable def zQe (w:World) (os:OsState):Option (Flow × Shared × Code × Pos):=some (.next,zOY w os,c14,⟨9,0,10,8⟩)
theorem zQ7:∀ w:World,zQY w=zQe w:=by
 intro w; kernel_rfl
noncomputable def zQZ (w:World) (os:OsState):=segRun treeTable pw14 w 11 (some (.ref 6)) 1 853 (zOY w os) (piecesOf ((b14.take 9).drop 5) zBD c14 ⟨9,0,10,8⟩ [topFrame ⟨0,0,0,0⟩])
noncomputable def zQf (w:World) (os:OsState):Option (Flow × Shared × Code × Pos):=some (.next,zOZ w os,c14,⟨17,0,18,8⟩)
theorem zQ8:∀ w:World,zQZ w=zQf w:=by
 intro w; kernel_rfl
noncomputable def zQa (w:World) (os:OsState):=segRun treeTable pw14 w 11 (some (.ref 6)) 1 640 (zOZ w os) (piecesOf ((b14.take 12).drop 9) zBD c14 ⟨17,0,18,8⟩ [topFrame ⟨0,0,0,0⟩])
noncomputable def zQg (w:World) (os:OsState):Option (Flow × Shared × Code × Pos):=some (.next,zOa w os,c14,⟨23,0,24,8⟩)
theorem zQ9:∀ w:World,zQa w=zQg w:=by
 intro w; kernel_rfl
noncomputable def zKT (w:World) (os:OsState):=segRun treeTable pw14 w 11 (some (.ref 6)) 1 422 (zOa w os) (piecesOf ((b14.take 29).drop 12) zBD c14 ⟨23,0,24,8⟩ [topFrame ⟨0,0,0,0⟩])
noncomputable def zKU (w:World) (os:OsState):Option (Flow × Shared × Code × Pos):=some (.next,zOb w os,c14,⟨73,0,73,5⟩)
theorem zEx:∀ w:World,zKT (w.withFollow "special-get-raises" false)=zKU (w.withFollow "special-get-raises" false):=by
 intro w; kernel_rfl
theorem zGE:∀ w:World,zKT (w.withFollow "special-get-raises" true)=zKU (w.withFollow "special-get-raises" true):=by
 intro w; kernel_rfl
theorem zRA:∀ w:World,zKT w=zKU w:=byRow2 "special-get-raises" zEx zGE
noncomputable def zQb (w:World) (os:OsState):=segRun treeTable pw14 w 11 (some (.ref 6)) 1 752 (zOb w os) (piecesOf ((b14.take 31).drop 29) zBD c14 ⟨73,0,73,5⟩ [topFrame ⟨0,0,0,0⟩])
noncomputable def zQh (w:World) (os:OsState):Option (Flow × Shared × Code × Pos):=some (.next,zHr w os,c14,⟨75,0,173,16⟩)
theorem zRB:∀ w:World,zQb w=zQh w:=by
 intro w; kernel_rfl
noncomputable def v14:Program:=view pw14 [0,2,3,4,5,6,7,8,9,10,11,13,14,15,16,17,18,19,20,21,22,23,24,25,27,28,29,30,32,33,34,35,36,37,39,40,41,42,43,44,45,46,47,48,49,50,51,52,53,54,55,56,57,58,59]
noncomputable def x14 (s:Shared):Bool:=xlAt v14 [] s&&recOk [] s
noncomputable def zBL:List (Nat × Nat):=[(434,435),(436,437),(438,439),(440,441),(442,443),(444,445),(446,447),(448,449)]
noncomputable def zBI:List Nat:=[459,460,461,462]
noncomputable def y14 (s:Shared):Bool × Option Value × Option Obj × Option Value × Option Obj × List (Option (Addr × List Value)):=(s.heap.isNs mainGlobals,s.heap.nsMap mainGlobals "PARTS",s.heap.get? 190,s.heap.nsMap mainGlobals "LINED",s.heap.get? 191,[wk s.heap "FlowError",wk s.heap "NoDeed",wk s.heap "NoLines",wk s.heap "NoItem",wk s.heap "NoNumber",wk s.heap "FullBook",wk s.heap "NoOrder",wk s.heap "SameOrder",wk s.heap "NoLine",wk s.heap "TooMuch"])
noncomputable def a14 (w:World):Bool × Option Value × Option Obj × Option Value × Option Obj × List (Option (Addr × List Value)):=(true,some (.ref 190),some (zHk w.params zBL),some (.ref 191),some (jf zBI),[some (31,[.ref 31,.type "ValueError",.type "Exception",.type "BaseException",.type "object"]),some (44,[.ref 44,.ref 31,.type "ValueError",.type "Exception",.type "BaseException",.type "object"]),some (56,[.ref 56,.ref 31,.type "ValueError",.type "Exception",.type "BaseException",.type "object"]),some (68,[.ref 68,.ref 31,.type "ValueError",.type "Exception",.type "BaseException",.type "object"]),some (80,[.ref 80,.ref 31,.type "ValueError",.type "Exception",.type "BaseException",.type "object"]),some (92,[.ref 92,.ref 31,.type "ValueError",.type "Exception",.type "BaseException",.type "object"]),some (104,[.ref 104,.ref 31,.type "ValueError",.type "Exception",.type "BaseException",.type "object"]),some (116,[.ref 116,.ref 31,.type "ValueError",.type "Exception",.type "BaseException",.type "object"]),some (128,[.ref 128,.ref 31,.type "ValueError",.type "Exception",.type "BaseException",.type "object"]),some (140,[.ref 140,.ref 31,.type "ValueError",.type "Exception",.type "BaseException",.type "object"])])
noncomputable def zQC:Thread:=(restOf (b14.drop 31) zBD c14 ⟨75,0,173,16⟩ [topFrame ⟨0,0,0,0⟩])
noncomputable def zPk (w:World) (os:OsState):=(topRun treeTable pw14 w 11 (some (.ref 6)) 774 (zHr w os) zQC).map fun s₁=>((staticsOk (importedModules pw14.main.body) (boot_heap w.params) s₁.heap&&namesBound pw14 s₁.heap&&gensDone s₁&&laidKept (boot_heap w.params) s₁.heap),
    openSeen v14 [("PARTS" : Str)] (importedModules pw14.main.body) x14 true s₁,y14 s₁)
theorem zNO:∀ w:World,zPk w=fun _=>some (true,openGood v14 [("PARTS" : Str)],a14 w):=by
 intro w; kernel_rfl
theorem zQA:∀ w:World,((boot_heap w.params).isNs mainGlobals&&(Array.mk []:Array GenState).size==0,(boot_heap w.params).objs.size,(boot_heap w.params).nsMap mainGlobals "__annotations__")=(true,11,(some (.ref 6))):=by
 intro w; kernel_rfl
theorem zRa (w:World) (os:OsState) (r:Shared) (k:topRun treeTable pw14 w 11 (some (.ref 6)) 774 (zHr w os) zQC=some r):topRun treeTable pw14 w 11 (some (.ref 6)) (12+(1+(651+(853+(640+(422+(752+774))))))) (z14 w os) (topStub pw14)=some r:=
 zIR (i:=5) (hc:=rfl) (congrFun (zRY w) os) (congrFun (zQm w) os) (congrFun (zQ7 w) os) (jY (i:=5) (j:=9) (by decide) (congrFun (zQ8 w) os) (jY (i:=9) (j:=12) (by decide) (congrFun (zQ9 w) os) (jY (i:=12) (j:=29) (by decide) (congrFun (zRA w) os) (jY (i:=29) (j:=31) (by decide) (congrFun (zRB w) os) k))))
theorem left14:LeftO pw14 v14 [("PARTS" : Str)] x14 y14 a14 4900:=
 zFB (n:=3331) (M:=774) (sc:=zHr) (th:=zQC) (by kernel_rfl) (by decide) (fun s=>by kernel_rfl) zQA (fun w os r k=>zRa w os r k) (by decide) zNO
theorem well14:PySem.Challenge.rw_uf040020_14.wellSaid=true:=by kernel_rfl
end Mine
end

section
open PySem PySem.W PyProof.Rows
set_option maxRecDepth 100000
namespace Mine
noncomputable def zDp:List (Str × V):=[("LETTERS",.str yi),("MOST_SIGNS",.int 12),("MOST_LINES",.int 20),("MOST_PIECES",.int 1000000),("MOST_CENTS",.int 1000000000),("MOST_PACK",.int 1000),("MOST_ORDERS",.int 40),("FIGURES",.str zM8),("MOST_FIGURES",.int 30)]
noncomputable def ex14:List Ex:=[⟨"FlowError",.FlowError,31,bmV⟩,⟨"NoDeed",.NoDeed,44,.ref 31 :: bmV⟩,⟨"NoLines",.NoLines,56,.ref 31 :: bmV⟩,⟨"NoItem",.NoItem,68,.ref 31 :: bmV⟩,⟨"NoNumber",.NoNumber,80,.ref 31 :: bmV⟩,⟨"FullBook",.FullBook,92,.ref 31 :: bmV⟩,⟨"NoOrder",.NoOrder,104,.ref 31 :: bmV⟩,⟨"SameOrder",.SameOrder,116,.ref 31 :: bmV⟩,⟨"NoLine",.NoLine,128,.ref 31 :: bmV⟩,⟨"TooMuch",.TooMuch,140,.ref 31 :: bmV⟩]
noncomputable def zPK (c:Cls):Value:=match ex14.find? fun q=>q.c==c with
 | some q=>.ref q.a
 | none=>.none
noncomputable def kn14:List Cls:=ex14.map (·.c)
noncomputable def C14:Ctx:={ fns:=[(("_wall" : Str),33),(("worth" : Str),20),(("is_item" : Str),21),(("check_lines" : Str),22),(("begun" : Str),23),(("charge" : Str),24),(("most_of" : Str),25),(("behind" : Str),26),(("number_of" : Str),29),(("line_of" : Str),30),(("read" : Str),31),(("played" : Str),32),(("_law_cell_at" : Str),100),(("_law_whole" : Str),101),(("_law_line_worth" : Str),102),(("_law_owed_by" : Str),103),(("_law_most" : Str),104),(("_law_place_by" : Str),105),(("_law_number_by" : Str),106),(("_law_item_by" : Str),107),(("_law_lines_by" : Str),108),(("_law_deed_by" : Str),109),(("_law_refusal" : Str),110),(("_law_turned" : Str),111),(("_law_step" : Str),112),(("_law_pairs_alike" : Str),113),(("_law_text_of" : Str),114),(("_law_number_in" : Str),115),(("_law_line_in" : Str),116),(("_law_deed_in" : Str),117),(("_law_changed_by" : Str),118),(("_law_refused" : Str),119),(("law" : Str),120)],meths:=[("__init__",0),("need",1),("do",2),("begin",3),("check",4),("most",5),("change",6),("pay_in",7),("turn",8),("undo",9),("orders",10),("told",11),("paid",12),("owed",13),("rows",14),("settled",15),("net",16)],consts:=zDp++[(("PARTS" : Str),.parts),(("LINED" : Str),zLX)],excs:=(ex14.map fun q=>(q.name,q.c)),attrs:=attrNames,book:=true,trks:=zQG }
noncomputable def zPj:List Str:=looseW v14 [("PARTS" : Str)]
theorem zRI:0 < (plainsOf v14 zPj).length:=by decide +kernel
theorem zII:∀ q ∈ zDp,zBT v14 q.1 q.2:=fun q hq=>by
 simp only [zDp,List.mem_cons,List.not_mem_nil,or_false] at hq
 rcases hq with rfl | rfl | rfl | rfl | rfl | rfl | rfl | rfl | rfl
 all_goals first
  | exact .int _ (by kernel_rfl)
  | exact .str _ (by kernel_rfl) (by decide) (by decide +kernel)
theorem zQB:(ex14.map fun q=>specOf v14 q.name)=ex14.map fun _=>some ("ValueError.__new__",bmV):=by kernel_rfl
theorem zNJ:(ex14.all fun q=>kn14.contains q.c&&(kn14.all fun d=>(Value.ref q.a :: q.bm).contains (zPK d)==q.c.sub d)&&zPK q.c==.ref q.a)=true:=by decide +kernel
set_option maxHeartbeats 8000000 in
theorem law14_text:zGx v14 zPj C14 zMM zML zDp ex14 zPK kn14 ((plainsOf v14 zPj)[0]'zRI) where
 k1:=by kernel_rfl
 k2:=by decide +kernel
 k3:=by decide +kernel
 k4:=by decide +kernel
 hc:=rfl
 hb:=zII
 hx:=rfl
 hs:=fun q hq=>List.map_inj_left.mp zQB q hq
 hcl:=fun q hq=>by
  simp only [ex14,List.mem_cons,List.not_mem_nil,or_false] at hq
  rcases hq with rfl | rfl | rfl | rfl | rfl | rfl | rfl | rfl | rfl | rfl <;> rfl
 hkn:=fun q hq=>by
  have:=List.all_eq_true.mp zNJ q hq
  simp only [Bool.and_eq_true] at this
  exact ⟨List.contains_iff_mem.mp this.1.1,fun d hd=>eq_of_beq (List.all_eq_true.mp this.1.2 d hd)⟩
 m1:=List.getElem_mem _
 m2:=by kernel_rfl
 m3:=by decide +kernel
 m4:=by decide +kernel
 m5:=by kernel_rfl
 m6:=by kernel_rfl
 m7:=⟨by decide +kernel,by decide +kernel⟩
 at0:=rfl
 cln:=⟨by kernel_rfl,by kernel_rfl,by kernel_rfl⟩
noncomputable def zR2:List (Str × Addr × List Value):=ex14.map fun q=>(q.name,q.a,.ref q.a :: q.bm)
noncomputable def says14 (w:World) (h:Heap):Prop:=Says w.params 190 191 zBL zBI zR2 h
theorem of14 (w:World) (s:Shared) (h:y14 s=a14 w):says14 w s.heap:=zNn h
theorem keeps14 (w:World) (h h':Heap) (x:says14 w h) (k:∀ b o,h.get? b=some o->h'.get? b=some o):says14 w h':=Says.keeps x k
end Mine
set_option maxHeartbeats 8000000 in
theorem PySem.Challenge.cw_uf040020_14_holds : PySem.Challenge.rw_uf040020_14.Holds := by
 w_on
 refine holds_law Mine.well14 fun said=>?_
 refine holds_open (q:=Mine.v14) (loose:=[("PARTS" : Str)]) (Xt:=Mine.x14) (XP:=XL Mine.v14 []) (Yf:=Mine.y14) (Ya:=Mine.a14) (YP:=Mine.says14) (N:=4900) Mine.left14 Mine.of14 Mine.keeps14 (fun s e=>xl_of s (Bool.and_eq_true_iff.mp e).1) XL.keeps (by rfl) (by rfl) (by rfl) (fun s e=>recFacts_of (Bool.and_eq_true_iff.mp e).2) (by rfl) (by first | assumption | decide +kernel) (by decide +kernel) ⟨rfl,rfl,rfl,rfl,rfl,by decide +kernel⟩ ?hw ?hc
 case hw=>w_witness2
 intro w s0 s₁ mg mb G Y fa o pm cd doc dV kV ho hd hcd hD hmg hg args vals as hpre hlay hrd hwl hlo
 have hmg':mg ("law" : Str)=some (.ref fa):=hmg
 clear hd hcd hD hmg
 refine Ground.open G ?_
 intro T B D TE TW
 wrow_args hpre hlay hrd hwl hlo
 refine enter_call ?_
 rename_i ns _ _ _ _ _ _ _ a _ _ _ _ W _ _ _ hlen _
 refine codeAny_mono (Mine.book_walk (d:=8) (k:=120) Mine.law14_text T TE Y (by rfl) (by rfl) (by rfl) (by rfl) hmg' W (by omega) (by decide) (Mine.law14 (d:=0) ns (by omega))) fun r s' h=>?_
 obtain ⟨rfl,hk,hos,hgs⟩:=h
 exact Mine.law_good PySem.Challenge.rw_uf040020_14 hk hos hg hgs
end

