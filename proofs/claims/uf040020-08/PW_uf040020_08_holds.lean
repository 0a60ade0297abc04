import PyProof.Rows.All
import PyProof.ExcArgsOwn
import PyProof.IsInstance
import PyProof.P3Statements
import PyProof.StrBlockL
import PyProof.StrBlock2
import PyProof.Rows.StrNews2
import KE.KIntText
import PyProof.Cells
import PyProof.CompFree
import PyProof.RulesTry
import PyProof.RulesAs
import PyProof.StationsW
import PyProof.DictList
import PyProof.TupleOps
import PyProof.ListOps
import PyProof.DictKinds
import PyProof.ExcClass2
import PyProof.ObjNew
import PyProof.InstLoad
import PyProof.InstStoreFacts
import PyProof.EqLayable
import PyProof.Rows.StrJoin2
import PyProof.Rows.StrJoinMade
import PyProof.CallStr
import PyProof.Rows.StrSplitAre
import PyProof.DictRoads
import PyProof.RaisesMany
import PyProof.Rows.PlainStore
import PyProof.StrLoop
import PyProof.StrWalks
import PyProof.Rows.TupAssign
import PyProof.ExcBaseAll.ValueError
import PyProof.NsDelKeeps
import PyProof.CallRoads
import PyProof.AssignAttr
import PyProof.Rows.Own
import PyProof.DictDisplay
import Wide.All
import OpenK.KLine
import PyProof.StrLawsTight
import Open.Line
import Open.Seg
import Open.Boot
import Wide.FinOn
import Lean
import PySem.Challenge.RW_uf040020_08
set_option Elab.async false
set_option genSizeOf false
set_option genInjectivity false

/-! # OpsX -/
section
set_option maxRecDepth 100000
set_option autoImplicit false
namespace Mine
open PySem
noncomputable def bmX : List Value := [.type "ValueError", .type "Exception", .type "BaseException", .type "object"]
noncomputable def clsNames : List Str := ["__getattribute__", "__getattr__", "__class__"]
inductive TailC (h : Heap) : List Value → Prop
  | base : TailC h bmX
  | own {A : Addr} {c0 : Value} {dd : Option Addr} {cd : ClassData} {sl : Array (Option Value)} {mA : Str → Option Value} {tl : List Value} :
      h.get? A = some { cls := c0, dict := dd, data := .cls cd, slots := sl } → h.Ns cd.ns mA → (∀ n ∈ clsNames, mA n = none) → TailC h tl → TailC h (.ref A :: tl)
theorem TailC.keeps {h h' : Heap} {tl : List Value} (T : TailC h tl) (hk : ∀ b o, h.get? b = some o → h'.get? b = some o) : TailC h' tl := by
  induction T with
  | base => exact .base
  | own hA hN hq _ ih => exact .own (hk _ _ hA) (hN.keeps hk) hq ih
theorem TailC.has {h : Heap} {tl : List Value} (T : TailC h tl) {v : Value} (hv : bmX.contains v = true) : tl.contains v = true := by
  induction T with
  | base => exact hv
  | own _ _ _ _ ih => rw [List.contains_cons, ih, Bool.or_true]
theorem lk_ve_ga : typeLookup (.type "ValueError") "__getattribute__" = pure (some (.builtin "BaseException.__getattribute__")) := by rw [typeLookup_type, builtinLookup_eq_fast]; kernel_rfl
theorem zGV : typeLookup (.type "ValueError") "__class__" = pure (some (.builtin "object.__class__")) := by rw [typeLookup_type, builtinLookup_eq_fast]; kernel_rfl
theorem zEZ : typeLookup (.type "ValueError") "__getattr__" = pure none := by rw [typeLookup_type, builtinLookup_eq_fast]; kernel_rfl
theorem mro_ve : mroOf (.type "ValueError") = pure bmX := by kernel_rfl
theorem ga_bind (self : Value) : bindSpecial (.builtin "BaseException.__getattribute__") self = pure (.builtin "BaseException.__getattribute__", [self]) := by
  have h1 : builtinKind "BaseException.__getattribute__" = some .slot := by decide +kernel
  have hop : withoutEnding? "BaseException.__getattribute__" "#opaque" = none := by decide +kernel
  have hdat : withoutEnding? "BaseException.__getattribute__" "#data" = none := by decide +kernel
  simp only [bindSpecial, typeOf, builtinType, hop, hdat, h1]; rfl
section
variable {prog : Program} {w : World} {A : Around} {E : Value → Shared → Prop} {h : Heap} {g : Array GenState} {d : Drawn} {t : Nat} {os : OsState} {a : Addr} {o : Obj}
  {nm q : Str} {C N : Addr} {bs bm : List Value} {hdct : Bool} {sn : List Str} {sub : List Value} {ab : Bool} {col : Option Bool} {dd : Option Addr} {k0 k1 k2 k3 k5 : Option Value} {newId : String}
theorem zFm {M : Model} {tl : List Value} {n : Str} {y : Option Value} {Q : Option Value → Shared → Prop} (hn : n ∈ clsNames) (T : TailC h tl) (hrest : lookupAlong bmX n = pure y) (hq : Q y ⟨h, g, d, t, os⟩) :
    wpAny M A (lookupAlong tl n) Q E ⟨h, g, d, t, os⟩ := by
  induction T with
  | base => rw [hrest]; exact wpAny_pure hq
  | own hA hN hni _ ih =>
    rw [lookupAlong_cons]
    refine wpAny_bind (wpAny_classOwn_cls hA hN ?_)
    rw [hni n hn]
    exact ih
theorem zBN {M : Model} {n : Str} {y : Option Value} {Q : Option Value → Shared → Prop} (hn : n ∈ clsNames) (hC : h.get? C = some (excClassObj nm q C N bs bm hdct sn sub ab col dd k0 k1 k2 k3 k5 newId)) (T : TailC h (.ref C :: bm))
    (hB : typeLookup (.type "ValueError") n = pure y) (hq : Q y ⟨h, g, d, t, os⟩) : wpAny M A (typeLookup (.ref C) n) Q E ⟨h, g, d, t, os⟩ := by
  have hrest : lookupAlong bmX n = pure y := by rw [typeLookup_eq, mro_ve] at hB; exact hB
  rw [typeLookup_eq]
  exact wpAny_bind (wpAny_mroOf_exc hC (zFm hn T hrest hq))
theorem zEk {R : Result → Shared → Prop} (hC : h.get? C = some (excClassObj nm q C N bs bm hdct sn sub ab col dd k0 k1 k2 k3 k5 newId)) (T : TailC h (.ref C :: bm))
    (hx : h.get? a = some o) (hc : o.cls = .ref C) (hq : R (.ok (.ret (.ref C))) ⟨h, g, d, t, os⟩) :
    codeAny (model prog w) A (.call (.builtin "getset_descriptor.__get__") ⟨[.builtin "object.__class__", .ref a, .ref C], []⟩) R ⟨h, g, d, t, os⟩ := by
  have hT5 : (⟨h, g, d, t, os⟩ : Shared).TypeIs (.builtin "object.__class__") "getset_descriptor" := F.typeOf_object_class
  have hcB : (Value.ref C :: bm).contains (.type (".".intercalate ("object.__class__".cutAt '.').dropLast)) = true := by
    rw [F.owner_object_class]; exact T.has rfl
  refine codeAny_call_builtin F.slot_gs_get.plain F.entry_gs_get (F.slot_gs_get.check _ _ _ _ _ _ _ _ hT5 (F.args_gs_get _ _ _) ?_)
  repeat (any_goals (first | assumption | (with_reducible refine wpAny_loadPart_at hx ?_; rw [hc]) | (with_reducible refine wpAny_isSubtype_exc hC ?_; rw [hcB]) | wp_step))
  refine ⟨Code.quiet_builtin _ (by decide +kernel), codeAny_builtin F.entry_object_class ?_⟩
  repeat (any_goals (first | assumption | (with_reducible refine wpAny_loadPart_at hx ?_; rw [hc]) | (with_reducible refine wpAny_isSubtype_exc hC ?_; rw [hcB]) | wp_step))
theorem zGD {M : Model} {nameV : Value} {Q : Unit → Shared → Prop} (hC : h.get? C = some (excClassObj nm q C N bs bm hdct sn sub ab col dd k0 k1 k2 k3 k5 newId)) (T : TailC h (.ref C :: bm))
    (hx : h.get? a = some o) (hc : o.cls = .ref C) (hq : Q () ⟨h, g, d, t, os⟩) : wpAny M A (checkBuiltinCall "BaseException.__getattribute__" ⟨[.ref a, nameV], []⟩) Q E ⟨h, g, d, t, os⟩ := by
  have hk : builtinKind "BaseException.__getattribute__" = some .slot := by decide +kernel
  have hsplit : splitId "BaseException.__getattribute__" = some ("BaseException", "__getattribute__") := by decide +kernel
  have hcB : (Value.ref C :: bm).contains (.type "BaseException") = true := T.has rfl
  have ha := F.args_bexc_ga (.ref a) nameV
  simp only [checkBuiltinCall, hk, hsplit]
  refine wpAny_bind ?_
  · unfold isInstance
    repeat (first | (with_reducible refine wpAny_loadPart_at hx ?_; rw [hc]) | (with_reducible refine wpAny_isSubtype_exc hC ?_; rw [hcB]) | wp_step)
    exact hq
theorem zDQ {tk : Tok} {Q : Fin → Shared → Prop} (hC : h.get? C = some (excClassObj nm q C N bs bm hdct sn sub ab col dd k0 k1 k2 k3 k5 newId)) (T : TailC h (.ref C :: bm))
    (hx : h.get? a = some o) (hc : o.cls = .ref C) (hq : Q (.done (.ret (.ref C))) ⟨h, g, d, t, os⟩) :
    wpAny (model prog w) A (Builtin.«object.__getattribute__» ⟨[.ref a, .str "__class__" tk], []⟩) Q E ⟨h, g, d, t, os⟩ := by
  have hT5 : (⟨h, g, d, t, os⟩ : Shared).TypeIs (.builtin "object.__class__") "getset_descriptor" := F.typeOf_object_class
  have f5 := F.typeOf_object_class
  have f6 := F.slot_gs_get.lookup
  have f7 := F.slot_gs_set.lookup
  have hm : ("__class__" : Str) ∈ clsNames := .tail _ (.tail _ (.head _))
  repeat (any_goals (first | assumption | (with_reducible refine wpAny_loadPart_at hx ?_; rw [hc]) | with_reducible refine zBN hm hC T zGV ?_ | wp_step))
  refine zEk hC T hx hc ?_
  repeat (any_goals (first | assumption | wp_step))
theorem zGC {tk : Tok} {Q : Value → Shared → Prop} (hC : h.get? C = some (excClassObj nm q C N bs bm hdct sn sub ab col dd k0 k1 k2 k3 k5 newId)) (T : TailC h (.ref C :: bm))
    (hx : h.get? a = some o) (hc : o.cls = .ref C) (hq : Q (.ref C) ⟨h, g, d, t, os⟩) :
    wpAny (model prog w) A (getAttrBy (.ref a) (.str "__class__" tk) false) Q E ⟨h, g, d, t, os⟩ := by
  have f3 := ga_bind (.ref a)
  have hx2 : (Value.builtin "BaseException.__getattribute__" == Value.builtin "object.__getattribute__") = false := by decide +kernel
  have hx1 : (onTheHeap (Value.ref C) && Value.builtin "BaseException.__getattribute__" == Value.builtin "object.__getattribute__") = false := by rw [hx2]; rfl
  have hm1 : ("__getattribute__" : Str) ∈ clsNames := .head _
  have hm2 : ("__getattr__" : Str) ∈ clsNames := .tail _ (.head _)
  have hp : plainId "BaseException.__getattribute__" = true := by decide +kernel
  repeat (any_goals (first | assumption | (with_reducible refine wpAny_loadPart_at hx ?_; rw [hc]) | with_reducible refine zBN hm1 hC T lk_ve_ga ?_ | with_reducible refine zBN hm2 hC T zEZ ?_ | wp_step))
  refine codeAny_call_builtin hp F.entry_bexc_ga (zGD hC T hx hc (zDQ hC T hx hc ?_))
  repeat (any_goals (first | assumption | wp_step))
theorem zDX {Q : Option Value → Shared → Prop} (hC : h.get? C = some (excClassObj nm q C N bs bm hdct sn sub ab col dd k0 k1 k2 k3 k5 newId)) (T : TailC h (.ref C :: bm))
    (hx : h.get? a = some o) (hc : o.cls = .ref C) (hq : Q (some (.ref C)) ⟨h, g, d, t + 1, os⟩) : wpAny (model prog w) A (getAttr? (.ref a) "__class__") Q E ⟨h, g, d, t, os⟩ := by
  unfold getAttr? getAttrBy?
  repeat (any_goals (first | assumption | with_reducible apply zGC hC T hx hc | wp_step))
variable {nm' q' : Str} {K N' : Addr} {bs' bm' : List Value} {hdct' : Bool} {sn' : List Str} {sub' : List Value} {ab' : Bool} {col' : Option Bool} {dd' : Option Addr} {k0' k1' k2' k3' k5' : Option Value} {newId' : String}
theorem nested_own {b : Bool} {dep : Int} {tk : Tok} {Q : Fin → Shared → Prop} (hC : h.get? C = some (excClassObj nm q C N bs bm hdct sn sub ab col dd k0 k1 k2 k3 k5 newId)) (T : TailC h (.ref C :: bm)) (hK : h.get? K = some (excClassObj nm' q' K N' bs' bm' hdct' sn' sub' ab' col' dd' k0' k1' k2' k3' k5' newId'))
    (hx : h.get? a = some o) (hc : o.cls = .ref C) (hb : (Value.ref C :: bm).contains (.ref K) = b) (h1 : Q (.done (.ret (.bool b))) ⟨h, g, d, t, os⟩) (h2 : Q (.done (.ret (.bool b))) ⟨h, g, d, t + 1, os⟩) :
    wpAny (model prog w) A (Builtin.«isinstance.nested» ⟨[.ref a, .ref K, .int dep tk], []⟩) Q E ⟨h, g, d, t, os⟩ := by
  cases he : (Value.ref C == Value.ref K) with
  | true =>
    have hbt : b = true := by rw [← hb, List.contains_cons, beq_iff_eq.mp he, beq_self_eq_true]; rfl
    subst hbt
    repeat (any_goals (first | assumption | (with_reducible refine wpAny_loadPart_at hx ?_; rw [hc]) | wp_step))
  | false =>
    have he' : ¬ ((Value.ref C == Value.ref K) = true) := by rw [he]; exact Bool.false_ne_true
    cases b with
    | true => repeat (any_goals (first | assumption | (with_reducible refine wpAny_loadPart_at hx ?_; rw [hc]) | with_reducible refine wpAny_loadPart_at hK ?_ | (with_reducible refine wpAny_isSubtype_exc hC ?_; rw [hb]) | wp_step))
    | false => repeat (any_goals (first | assumption | (with_reducible refine wpAny_loadPart_at hx ?_; rw [hc]) | with_reducible refine wpAny_loadPart_at hK ?_ | (with_reducible refine wpAny_isSubtype_exc hC ?_; rw [hb]) | with_reducible apply zDX hC T hx hc | with_reducible refine wpAny_loadPart_at hC ?_ | wp_step))
theorem nested_ve {dep : Int} {tk : Tok} {Q : Fin → Shared → Prop} (hC : h.get? C = some (excClassObj nm q C N bs bm hdct sn sub ab col dd k0 k1 k2 k3 k5 newId)) (T : TailC h (.ref C :: bm))
    (hx : h.get? a = some o) (hc : o.cls = .ref C) (h1 : Q (.done (.ret (.bool true))) ⟨h, g, d, t, os⟩) :
    wpAny (model prog w) A (Builtin.«isinstance.nested» ⟨[.ref a, .type "ValueError", .int dep tk], []⟩) Q E ⟨h, g, d, t, os⟩ := by
  have hb : (Value.ref C :: bm).contains (.type "ValueError") = true := T.has rfl
  have he : ¬ ((Value.ref C == Value.type "ValueError") = true) := fun h => nomatch (beq_iff_eq.mp h)
  have hty : typeOf (.type "ValueError") = pure (.type "type") := by kernel_rfl
  repeat (any_goals (first | assumption | (with_reducible refine wpAny_loadPart_at hx ?_; rw [hc]) | (with_reducible refine wpAny_isSubtype_exc hC ?_; rw [hb]) | wp_step))
theorem isi_own {b : Bool} {Q : Value → Shared → Prop} (hC : h.get? C = some (excClassObj nm q C N bs bm hdct sn sub ab col dd k0 k1 k2 k3 k5 newId)) (T : TailC h (.ref C :: bm)) (hK : h.get? K = some (excClassObj nm' q' K N' bs' bm' hdct' sn' sub' ab' col' dd' k0' k1' k2' k3' k5' newId'))
    (hx : h.get? a = some o) (hc : o.cls = .ref C) (hb : (Value.ref C :: bm).contains (.ref K) = b) (h1 : Q (.bool b) ⟨h, g, d, t, os⟩) (h2 : Q (.bool b) ⟨h, g, d, t + 1, os⟩) :
    wpAny (model prog w) A (call (.builtin "isinstance") [.ref a, .ref K]) Q E ⟨h, g, d, t, os⟩ :=
  call_isinstance (S := fun _ R s => s = ⟨h, g, d, t, os⟩ ∧ R (.ok (.ret (.bool b))) ⟨h, g, d, t, os⟩ ∧ R (.ok (.ret (.bool b))) ⟨h, g, d, t + 1, os⟩)
    (fun _ _ _ _ s hs => by obtain ⟨rfl, h1, h2⟩ := hs; exact isinstance_outer (nested_own hC T hK hx hc hb h1 h2)) ⟨rfl, h1, h2⟩
theorem isi_ve {Q : Value → Shared → Prop} (hC : h.get? C = some (excClassObj nm q C N bs bm hdct sn sub ab col dd k0 k1 k2 k3 k5 newId)) (T : TailC h (.ref C :: bm))
    (hx : h.get? a = some o) (hc : o.cls = .ref C) (h1 : Q (.bool true) ⟨h, g, d, t, os⟩) :
    wpAny (model prog w) A (call (.builtin "isinstance") [.ref a, .type "ValueError"]) Q E ⟨h, g, d, t, os⟩ :=
  call_isinstance (S := fun _ R s => s = ⟨h, g, d, t, os⟩ ∧ R (.ok (.ret (.bool true))) ⟨h, g, d, t, os⟩)
    (fun _ _ _ _ s hs => by obtain ⟨rfl, h1⟩ := hs; exact isinstance_outer (nested_ve hC T hx hc h1)) ⟨rfl, h1⟩
end
end Mine
end

/-! # Core -/
section
set_option autoImplicit false
namespace Mine
open PySem
inductive Cls where
  | FlowError | NoDeed | NoLines | NoItem | NoNumber | FullBook | NoOrder | SameOrder | NoLine | TooMuch | NothingDone | ValueError
  deriving DecidableEq
noncomputable def Cls.sub (c d : Cls) : Bool := c == d || d == .ValueError || (d == .FlowError && c != .ValueError)
inductive V where
  | undef
  | none
  | bool (b : Bool)
  | int (i : Int)
  | str (s : Str)
  | tup (xs : List V)
  | lst (xs : List V)
  | ref (n : Nat)
  | exc (c : Cls)
  | parts
inductive O where
  | list (xs : List V)
  | dict (es : List (Int × V))
  | inst (attrs : List (Nat × V))
noncomputable abbrev Sto := List O
inductive R (α : Type) where
  | ok (a : α) (σ : Sto)
  | exc (c : Cls) (σ : Sto)
  | stuck
noncomputable def R.bind {α β : Type} : R α → (α → Sto → R β) → R β
  | .ok a σ, f => f a σ
  | .exc c σ, _ => .exc c σ
  | .stuck, _ => .stuck
@[simp] theorem R.bind_ok {α β : Type} (a : α) (σ : Sto) (f : α → Sto → R β) : (R.ok a σ).bind f = f a σ := rfl
@[simp] theorem R.bind_exc {α β : Type} (c : Cls) (σ : Sto) (f : α → Sto → R β) : (R.exc c σ : R α).bind f = .exc c σ := rfl
@[simp] theorem R.bind_stuck {α β : Type} (f : α → Sto → R β) : (R.stuck : R α).bind f = .stuck := rfl
noncomputable def R.lift {α : Type} (σ : Sto) : Option α → R α
  | some a => .ok a σ
  | none => .stuck
@[simp] theorem R.lift_some {α : Type} (σ : Sto) (a : α) : R.lift σ (some a) = .ok a σ := rfl
@[simp] theorem R.lift_none {α : Type} (σ : Sto) : R.lift σ (none : Option α) = .stuck := rfl
inductive Kd where
  | int | bool | str | list | tuple | exc (c : Cls)
  deriving DecidableEq
inductive P1 where
  | not | neg | abs | len | toList | toTup | toInt | toStr | sum | min | max | all | isNone | isNotNone | isInst (k : Kd) | count
inductive P2 where
  | add | sub | mul | fdiv | mod | pow
  | eq | ne | lt | le | gt | ge | isIn | notIn
  | index | min | max | join | split | partition | startswith | count
noncomputable def itemsOf (σ : Sto) : V → Option (List V)
  | .tup xs => some xs
  | .lst xs => some xs
  | .ref n => match σ[n]? with
    | some (.list xs) => some xs
    | _ => none
  | _ => none
noncomputable def listR : Option O → Option (List V)
  | some (.list xs) => some xs
  | _ => none
noncomputable def listOf? (σ : Sto) : V → Option (List V)
  | .lst xs => some xs
  | .ref n => listR σ[n]?
  | _ => none
noncomputable def intOf? : V → Option Int
  | .int i => some i
  | _ => none
noncomputable def strOf? : V → Option Str
  | .str s => some s
  | _ => none
noncomputable def boolOf? : V → Option Bool
  | .bool b => some b
  | _ => none
noncomputable def ints? (xs : List V) : Option (List Int) := xs.mapM intOf?
noncomputable def strs? (xs : List V) : Option (List Str) := xs.mapM strOf?
noncomputable def bools? (xs : List V) : Option (List Bool) := xs.mapM boolOf?
noncomputable def truthy (σ : Sto) : V → Option Bool
  | .none => some false
  | .bool b => some b
  | .int i => some (i != 0)
  | .str s => some (s.length != 0)
  | .tup xs => some (!xs.isEmpty)
  | .lst xs => some (!xs.isEmpty)
  | .ref n => match σ[n]? with
    | some (.list xs) => some (!xs.isEmpty)
    | _ => none
  | _ => none
noncomputable def LIM : Nat := 1048576
noncomputable def toPyO (g : V → Option PyData) : Option O → Option PyData
  | some (.list xs) => (xs.mapM g).map .list
  | _ => none
noncomputable def toPy (σ : Sto) : Nat → V → Option PyData
  | 0, _ => none
  | d + 1, v => match v with
    | .none => some .none
    | .bool b => some (.bool b)
    | .int i => some (.int i)
    | .str s => some (.str s)
    | .tup xs => (xs.mapM (toPy σ d)).map .tuple
    | .lst xs => (xs.mapM (toPy σ d)).map .list
    | .ref n => toPyO (toPy σ d) σ[n]?
    | _ => none
noncomputable def eqDepth : Nat := 8
noncomputable def eqV (σ : Sto) (a b : V) : Option Bool :=
  match listOf? σ a, listOf? σ b with
  | some xs, some ys => if xs.length != ys.length then some false else eqD a b
  | _, _ => eqD a b
where
  eqD (a b : V) : Option Bool := (toPy σ eqDepth a).bind fun x => (toPy σ eqDepth b).map fun y => PyData.eqv x y
noncomputable def mkS (l : List Nat) : Str := ⟨l.toArray⟩
noncomputable def codes (s : Str) : List Nat := s.cps.toList
noncomputable def partsTable : List (Str × Int) := [("order", 2), ("deliver", 4), ("back", 4), ("swap", 4), ("credit", 4), ("pay", 3), ("refund", 3), ("move", 4)]
noncomputable def smallFactor (a : Int) : Bool := a.natAbs < 2 ^ 64
noncomputable def normIndex (n : Nat) (i : Int) : Option Nat :=
  if 0 ≤ i then (if i.toNat < n then some i.toNat else none)
  else if 0 ≤ i + n then some (i + n).toNat else none
noncomputable def sliceStart (n : Nat) : Option Int → Nat
  | none => 0
  | some i => if i < 0 then (i + n).toNat else min i.toNat n
noncomputable def sliceStop (n : Nat) : Option Int → Nat
  | none => n
  | some i => if i < 0 then (i + n).toNat else min i.toNat n
noncomputable def sliceL {α : Type} (xs : List α) (lo hi : Option Int) : List α :=
  (xs.take (sliceStop xs.length hi)).drop (sliceStart xs.length lo)
noncomputable def minL : List Int → Option Int
  | [] => none
  | x :: xs => some (xs.foldl (fun m y => if y < m then y else m) x)
noncomputable def maxL : List Int → Option Int
  | [] => none
  | x :: xs => some (xs.foldl (fun m y => if y > m then y else m) x)
noncomputable def refK : Option O → Kd → Option Bool
  | some (.list _), k => (match k with
    | .list => some true
    | .tuple => some false
    | .str => some false
    | .int => some false
    | _ => none)
  | _, _ => none
noncomputable def instK (σ : Sto) (k : Kd) : V → Option Bool
  | .undef => none
  | .parts => none
  | .none => (match k with | .exc _ => none | _ => some false)
  | .int _ => (match k with | .int => some true | .exc _ => none | _ => some false)
  | .bool _ => (match k with | .int => some true | .bool => some true | .exc _ => none | _ => some false)
  | .str _ => (match k with | .str => some true | .exc _ => none | _ => some false)
  | .tup _ => (match k with | .tuple => some true | .exc _ => none | _ => some false)
  | .lst _ => (match k with | .list => some true | .exc _ => none | _ => some false)
  | .exc c => (match k with | .exc d => some (c.sub d) | _ => none)
  | .ref n => refK σ[n]? k
noncomputable def ev1 (o : P1) (σ : Sto) (a : V) : Option V :=
  match o with
  | .not => (truthy σ a).map fun b => .bool !b
  | .neg => match a with | .int i => some (.int (-i)) | _ => none
  | .abs => match a with | .int i => some (.int i.natAbs) | _ => none
  | .len => match a with
    | .str s => some (.int s.length)
    | .ref n => match σ[n]? with
      | some (.list xs) => some (.int xs.length)
      | _ => none
    | a => (itemsOf σ a).map fun xs => .int xs.length
  | .toList => (itemsOf σ a).map .lst
  | .toTup => (listOf? σ a).map .tup
  | .toInt => match a with
    | .bool b => some (.int (if b then 1 else 0))
    | .int i => some (.int i)
    | .str x => if x.length ≤ 640 then (intText? x).map .int else none
    | _ => none
  | .toStr => match a with | .int i => if 0 ≤ i ∧ i < 10 ^ 100 then some (.str (Str.ofString (toString i))) else none | _ => none
  | .sum => (listOf? σ a).bind fun xs => (ints? xs).map fun l => .int l.sum
  | .min => (listOf? σ a).bind fun xs => (ints? xs).bind fun l => (minL l).map .int
  | .max => (listOf? σ a).bind fun xs => (ints? xs).bind fun l => (maxL l).map .int
  | .all => (listOf? σ a).bind fun xs => (bools? xs).map fun l => .bool (l.all id)
  | .isNone => match a with | .undef => none | .none => some (.bool true) | _ => some (.bool false)
  | .isNotNone => match a with | .undef => none | .none => some (.bool false) | _ => some (.bool true)
  | .isInst k => (instK σ k a).map .bool
  | .count => (listOf? σ a).bind fun xs => (bools? xs).map fun l => .int (l.count true)
noncomputable def inV (σ : Sto) (a b : V) : Option Bool :=
  match a, b with
  | .str x, .str y => match codes x with
    | [c] => some ((codes y).contains c)
    | _ => none
  | .str x, .parts => some (partsTable.any fun p => p.1 == x)
  | .str x, b => (itemsOf σ b).bind fun xs => (strs? xs).map fun l => l.contains x
  | _, _ => none
noncomputable def joinV (σ : Sto) (a b : V) : Option V := (strOf? a).bind fun sep => (listOf? σ b).bind fun xs => (strs? xs).bind fun l =>
  if (l.map (·.length)).sum + l.length * sep.length ≤ 100000 then some (.str (Txt.join sep l)) else none
noncomputable def splitV (a b : V) : Option V := (strOf? a).bind fun s => (strOf? b).bind fun sep =>
  if (sep.length == 0) || decide (10000 < s.length) then none else some (.lst ((Txt.split s sep).map .str))
noncomputable def partV (a b : V) : Option V := (strOf? a).bind fun s => (strOf? b).bind fun sep =>
  if (sep.length == 0) || decide (10000 < s.length) then none else some (.tup [.str (Txt.partition s sep).1, .str (Txt.partition s sep).2.1, .str (Txt.partition s sep).2.2])
noncomputable def strMul (x : Str) : V → Option V
  | .int y => if y == 31 && x.length == 1 && PyData.strOk (Txt.mul x y) && decide ((Txt.mul x y).length ≤ 100) then some (.str (Txt.mul x y)) else none
  | _ => none
noncomputable def startV (a b : V) : Option V := (strOf? a).bind fun x => (strOf? b).map fun y => .bool (Txt.startswith x y)
noncomputable def isBool (k : Bool) : V → Bool
  | .bool b => b == k
  | _ => false
noncomputable def countV (σ : Sto) (a b : V) : Option V :=
  match b with
  | .bool k => (listOf? σ a).bind fun xs => if xs.all fun x => isBool true x || isBool false x then some (.int (xs.countP (isBool k) : Nat)) else none
  | _ => none
noncomputable def ev2 (o : P2) (σ : Sto) (a b : V) : Option V :=
  match o with
  | .add => match a, b with
    | .int x, .int y => some (.int (x + y))
    | .str x, .str y => if x.length + y.length ≤ 10000 then some (.str (x ++ y)) else none
    | .tup xs, .tup ys => if xs.length + ys.length ≤ LIM then some (.tup (xs ++ ys)) else none
    | a, b => (listOf? σ a).bind fun xs => (listOf? σ b).bind fun ys => if xs.length + ys.length ≤ LIM then some (.lst (xs ++ ys)) else none
  | .sub => match a, b with | .int x, .int y => some (.int (x - y)) | _, _ => none
  | .mul => (match a with
    | .str x => strMul x b
    | a => match a, b with
      | .int x, .int y => if smallFactor x || smallFactor y then some (.int (x * y)) else none
      | _, _ => none)
  | .fdiv => match a, b with | .int x, .int y => if y == 0 || 1073741824 ≤ y.natAbs then none else some (.int (x.fdiv y)) | _, _ => none
  | .mod => match a, b with | .int x, .int y => if y == 0 then none else some (.int (x.fmod y)) | _, _ => none
  | .pow => match a, b with | .int x, .int y => if x == 10 && 0 ≤ y && y ≤ 40 then some (.int (x ^ y.toNat)) else none | _, _ => none
  | .eq => (eqV σ a b).map .bool
  | .ne => (eqV σ a b).map fun r => .bool !r
  | .lt => match a, b with | .int x, .int y => some (.bool (x < y)) | _, _ => none
  | .le => match a, b with | .int x, .int y => some (.bool (x ≤ y)) | _, _ => none
  | .gt => match a, b with | .int x, .int y => some (.bool (x > y)) | _, _ => none
  | .ge => match a, b with | .int x, .int y => some (.bool (x ≥ y)) | _, _ => none
  | .isIn => (inV σ a b).map .bool
  | .notIn => (inV σ a b).map fun r => .bool !r
  | .index => match a, b with
    | .str s, .int i => (normIndex s.length i).bind fun k => (codes s)[k]?.map fun c => .str (mkS [c])
    | .parts, .str x => (partsTable.find? fun p => p.1 == x).map fun p => .int p.2
    | .ref n, .int i => match σ[n]? with
      | some (.list xs) => (normIndex xs.length i).bind fun k => xs[k]?
      | some (.dict es) => (es.find? fun p => p.1 == i).map fun p => p.2
      | _ => none
    | a, .int i => (itemsOf σ a).bind fun xs => (normIndex xs.length i).bind fun k => xs[k]?
    | _, _ => none
  | .min => match a, b with | .int x, .int y => some (.int (if y < x then y else x)) | _, _ => none
  | .max => match a, b with | .int x, .int y => some (.int (if y > x then y else x)) | _, _ => none
  | .join => joinV σ a b
  | .split => splitV a b
  | .partition => partV a b
  | .count => countV σ a b
  | .startswith => startV a b
noncomputable def evSlice (σ : Sto) (a : V) (lo hi : Option Int) : Option V :=
  match a with
  | .tup xs => some (.tup (sliceL xs lo hi))
  | .str x => if PyData.strOk (Txt.slice x lo hi) then some (.str (Txt.slice x lo hi)) else none
  | a => (listOf? σ a).map fun xs => .lst (sliceL xs lo hi)
inductive SK where
  | val | range1 | range2
  deriving DecidableEq
inductive CE where
  | lit (v : V)
  | var (i : Nat)
  | p1 (o : P1) (a : CE)
  | p2 (o : P2) (a b : CE)
  | chain (a : CE) (ops : List P2) (es : List CE)
  | slice (a : CE) (lo hi : Option CE)
  | and (a b : CE)
  | or (a b : CE)
  | tup (es : List CE)
  | list (es : List CE)
  | dict0
  | dict1 (k v : CE)
  | comp (elt : CE) (k : SK) (src : List CE) (cond : Option CE)
  | call (f : Nat) (args : List CE)
  | callm (f : Nat) (o : CE) (args : List CE)
  | new
  | attr (e : CE) (a : Nat)
  | append (l x : CE)
  | sm (o : P2) (a b : CE)
  | pop (l : CE)
  | clear (l : CE)
  | trk (e : CE)
inductive TK where
  | ret
  | asg (i : Nat)
  | exp
structure Hd where
  cls : Cls
  as : Option Nat
  tk : TK
  e : CE
inductive CS where
  | asg (i : Nat) (e : CE)
  | setItem (o i v : CE)
  | setAttr (o : CE) (a : Nat) (v : CE)
  | unpack3 (i j k : Nat) (e : CE)
  | ite (c : CE) (a b : List CS)
  | for (i : Nat) (k : SK) (src : List CE) (body : List CS)
  | while (c : CE) (body : List CS)
  | ret (e : CE)
  | exp (e : CE)
  | raise (c : Cls)
  | try (k : TK) (e : CE) (hs : List Hd)
  | pass
  | stuck
inductive Fl where
  | next (ρ : List V)
  | ret (v : V)
structure Fn where
  params : Nat
  slots : Nat
  body : List CS
noncomputable def readVar (ρ : List V) (i : Nat) : Option V :=
  match ρ[i]? with
  | none | some .undef => none
  | some v => some v
noncomputable def rangeL (lo hi : Int) : List V := (List.range (hi - lo).toNat).map fun (k : Nat) => V.int (lo + (k : Int))
inductive Items where
  | now (xs : List V)
  | live (n : Nat)
  | keys (n : Nat) (ks : List Int)
noncomputable def charsOf (x : Str) : List V := (codes x).map fun c => .str (mkS [c])
noncomputable def refItems (n : Nat) : Option O → Option Items
  | some (.list _) => some (.live n)
  | _ => none
noncomputable def valItems (σ : Sto) : V → Option Items
  | .tup xs => some (.now xs)
  | .lst xs => some (.now xs)
  | .ref n => refItems n σ[n]?
  | .str x => if x.cps.all (· < 128) then some (.now (charsOf x)) else none
  | _ => none
noncomputable def int1 (g : Int → Option Items) : V → Option Items
  | .int i => g i
  | _ => none
noncomputable def itemsBy (σ : Sto) (k : SK) : List V → Option Items
  | [] => none
  | [v] => (match k with
    | .range1 => int1 (fun n => if n.natAbs ≤ LIM then some (.now (rangeL 0 n)) else none) v
    | .val => valItems σ v
    | .range2 => none)
  | [v, w] => (match k with
    | .range2 => int1 (fun a => int1 (fun b => if 0 ≤ a && a ≤ LIM && b.natAbs ≤ LIM then some (.now (rangeL a b)) else none) w) v
    | _ => none)
  | _ => none
noncomputable def nextIt (σ : Sto) (it : Items) (i : Nat) : Option (Option V) :=
  match it with
  | .now xs => some xs[i]?
  | .live n => match σ[n]? with
    | some (.list xs) => some xs[i]?
    | _ => none
  | .keys n ks => match σ[n]? with
    | some (.dict es) => if es.map (·.1) = ks then some (ks[i]?.map .int) else none
    | _ => none
noncomputable def itFuel (σ : Sto) (it : Items) : Nat :=
  match it with
  | .now xs => xs.length + 1
  | .live n => match σ[n]? with
    | some (.list xs) => xs.length + 1
    | _ => 0
  | .keys _ ks => ks.length + 1
noncomputable def foldIt {β : Type} (it : Items) (f : V → β → Sto → R β) : Nat → Nat → β → Sto → R β
  | 0, _, _, _ => .stuck
  | fuel + 1, i, b, σ => match nextIt σ it i with
    | none => .stuck
    | some none => .ok b σ
    | some (some x) => (f x b σ).bind fun b σ => foldIt it f fuel (i + 1) b σ
noncomputable def foldItems {β : Type} (it : Items) (f : V → β → Sto → R β) (b : β) (σ : Sto) : R β := foldIt it f (itFuel σ it) 0 b σ
noncomputable def R.calm {α : Type} : R α → R α
  | .ok a σ => .ok a σ
  | _ => .stuck
noncomputable abbrev R.calmE {α : Type} (r : R α) : R α := r
noncomputable def isInst (σ : Sto) : V → Bool
  | .ref n => match σ[n]? with
    | some (.inst _) => true
    | _ => false
  | _ => false
noncomputable def isListV (σ : Sto) (v : V) : Bool := (listOf? σ v).isSome
noncomputable def setDict (es : List (Int × V)) (k : Int) (v : V) : List (Int × V) :=
  if es.any (fun p => p.1 == k) then es.map fun p => if p.1 == k then (k, v) else p else es ++ [(k, v)]
noncomputable def setObj (σ : Sto) (n : Nat) (k : Int) (v : V) : Option O → R Unit
  | some (.list xs) => if 0 ≤ k ∧ k.toNat < xs.length then .ok () (σ.set n (.list (xs.set k.toNat v))) else .stuck
  | some (.dict es) => if es.length < LIM then .ok () (σ.set n (.dict (setDict es k v))) else .stuck
  | _ => .stuck
noncomputable def doSetItem (σ : Sto) (o i v : V) : R Unit :=
  match o, i with
  | .ref n, .int k => setObj σ n k v σ[n]?
  | _, _ => .stuck
noncomputable def setAttrO (σ : Sto) (n a : Nat) (v : V) : Option O → R Unit
  | some (.inst es) => if a < 2 then .ok () (σ.set n (.inst ((a, v) :: es))) else .stuck
  | _ => .stuck
noncomputable def doSetAttr (σ : Sto) (o : V) (a : Nat) (v : V) : R Unit :=
  match o with
  | .ref n => setAttrO σ n a v σ[n]?
  | _ => .stuck
noncomputable def attrO (a : Nat) : Option O → Option V
  | some (.inst es) => es.lookup a
  | _ => none
noncomputable def doAttr (σ : Sto) (o : V) (a : Nat) : Option V :=
  match o with
  | .ref n => attrO a σ[n]?
  | _ => none
noncomputable def doAppend (σ : Sto) (o x : V) : R V :=
  match o with
  | .ref n => match σ[n]? with
    | some (.list xs) => if xs.length < LIM then .ok .none (σ.set n (.list (xs ++ [x]))) else .stuck
    | _ => .stuck
  | _ => .stuck
noncomputable def doPop (σ : Sto) (o : V) : R V :=
  match o with
  | .ref n => match σ[n]? with
    | some (.list xs) => match xs[xs.length - 1]? with
      | some x => .ok x (σ.set n (.list (xs.eraseIdx (xs.length - 1))))
      | none => .stuck
    | _ => .stuck
  | _ => .stuck
noncomputable def doClear (σ : Sto) (o : V) : R V :=
  match o with
  | .ref n => match σ[n]? with
    | some (.list _) => .ok .none (σ.set n (.list []))
    | _ => .stuck
  | _ => .stuck
noncomputable def doTrk (σ : Sto) : V → R V
  | .lst xs => .ok (.ref σ.length) (σ ++ [.list xs])
  | _ => .stuck
noncomputable def dict1O (n : Nat) (σ : Sto) (k : Int) (v : V) : Option O → R V
  | some (.dict []) => .ok (.ref n) (σ.set n (.dict [(k, v)]))
  | _ => .stuck
noncomputable def doDict1 (n : Nat) (σ : Sto) (k v : V) : R V :=
  match k with
  | .int k => dict1O n σ k v σ[n]?
  | _ => .stuck
noncomputable def newEnd (n : Nat) : V → Sto → R V
  | .none, σ => .ok (.ref n) σ
  | _, _ => .stuck
noncomputable abbrev Calls := Nat → List V → Sto → R V
noncomputable def selfOk (o : P2) (σ : Sto) (a : V) : Bool :=
  match o with
  | .count => (listOf? σ a).isSome
  | _ => (strOf? a).isSome
noncomputable def loud1 : P1 → Bool
  | .sum | .min | .max | .all => true
  | _ => false
noncomputable def loud2 : P2 → Bool
  | .min | .max | .join => true
  | _ => false
mutual
noncomputable def evE (F : Calls) (q : Bool) : CE → List V → Sto → R V
  | .lit v, _, σ => .ok v σ
  | .var i, ρ, σ => R.lift σ (readVar ρ i)
  | .p1 o a, ρ, σ => if loud1 o && q then .stuck else (evE F q a ρ σ).bind fun a σ => R.lift σ (ev1 o σ a)
  | .p2 o a b, ρ, σ => if loud2 o && q then .stuck else (evE F q a ρ σ).bind fun a σ => (evE F q b ρ σ).bind fun b σ => R.lift σ (ev2 o σ a b)
  | .chain a ops es, ρ, σ => (evE F q a ρ σ).bind fun a σ => evChain F q ops es a ρ σ
  | .slice a lo hi, ρ, σ => (evE F q a ρ σ).bind fun a σ => (evO F q lo ρ σ).bind fun lo σ => (evO F q hi ρ σ).bind fun hi σ => R.lift σ (evSlice σ a lo hi)
  | .and a b, ρ, σ => (evE F q a ρ σ).bind fun a σ => (R.lift σ (truthy σ a)).bind fun t σ => if t then evE F q b ρ σ else .ok a σ
  | .or a b, ρ, σ => (evE F q a ρ σ).bind fun a σ => (R.lift σ (truthy σ a)).bind fun t σ => if t then .ok a σ else evE F q b ρ σ
  | .tup es, ρ, σ => (evL F q es ρ σ).bind fun vs σ => .ok (.tup vs) σ
  | .list es, ρ, σ => (evL F q es ρ σ).bind fun vs σ => .ok (.lst vs) σ
  | .dict0, _, σ => .ok (.ref σ.length) (σ ++ [.dict []])
  | .dict1 k v, ρ, σ => (evE F q k ρ (σ ++ [.dict []])).bind fun a σ₁ => (evE F q v ρ σ₁).bind fun b σ₂ => doDict1 σ.length σ₂ a b
  | .comp elt k src cond, ρ, σ => if q then .stuck else (evL F q src ρ σ).bind fun vs σ => (R.lift σ (itemsBy σ k vs)).bind fun it σ =>
      (foldItems it (fun x acc σ => (evC F q cond (ρ ++ [x]) σ).calm.bind fun t σ => if t then (evE F q elt (ρ ++ [x]) σ).calmE.bind fun y σ => (if acc.length < LIM then .ok (acc ++ [y]) σ else .stuck) else .ok acc σ) [] σ).bind fun acc σ => .ok (.lst acc) σ
  | .call f args, ρ, σ => (evL F q args ρ σ).bind fun vs σ => F f vs σ
  | .callm f o args, ρ, σ => (evE F q o ρ σ).bind fun o σ => if isInst σ o then (evL F q args ρ σ).bind fun vs σ => F f (o :: vs) σ else .stuck
  | .new, _, σ => (F 0 [.ref σ.length] (σ ++ [.inst []])).bind (newEnd σ.length)
  | .attr e a, ρ, σ => (evE F q e ρ σ).bind fun o σ => R.lift σ (doAttr σ o a)
  | .sm o a b, ρ, σ => (evE F q a ρ σ).bind fun a σ => if selfOk o σ a then (evE F q b ρ σ).bind fun b σ => R.lift σ (ev2 o σ a b) else .stuck
  | .append l x, ρ, σ => (evE F q l ρ σ).bind fun o σ => if isListV σ o then (evE F q x ρ σ).bind fun x σ => doAppend σ o x else .stuck
  | .pop l, ρ, σ => (evE F q l ρ σ).bind fun o σ => doPop σ o
  | .clear l, ρ, σ => (evE F q l ρ σ).bind fun o σ => doClear σ o
  | .trk e, ρ, σ => (evE F q e ρ σ).bind fun v σ => doTrk σ v
noncomputable def evL (F : Calls) (q : Bool) : List CE → List V → Sto → R (List V)
  | [], _, σ => .ok [] σ
  | e :: es, ρ, σ => (evE F q e ρ σ).bind fun v σ => (evL F q es ρ σ).bind fun vs σ => .ok (v :: vs) σ
noncomputable def evO (F : Calls) (q : Bool) : Option CE → List V → Sto → R (Option Int)
  | none, _, σ => .ok none σ
  | some e, ρ, σ => (evE F q e ρ σ).bind fun v σ => match v with
    | .int i => .ok (some i) σ
    | _ => .stuck
noncomputable def evC (F : Calls) (q : Bool) : Option CE → List V → Sto → R Bool
  | none, _, σ => .ok true σ
  | some e, ρ, σ => (evE F q e ρ σ).bind fun v σ => R.lift σ (truthy σ v)
noncomputable def evChain (F : Calls) (q : Bool) : List P2 → List CE → V → List V → Sto → R V
  | [op], [e], a, ρ, σ => if loud2 op && q then .stuck else (evE F q e ρ σ).bind fun b σ => R.lift σ (ev2 op σ a b)
  | op :: ops, e :: es, a, ρ, σ => if loud2 op && q then .stuck else (evE F q e ρ σ).bind fun b σ => (R.lift σ (ev2 op σ a b)).bind fun c σ => (R.lift σ (truthy σ c)).bind fun t σ => if t then evChain F q ops es b ρ σ else .ok c σ
  | _, _, _, _, _ => .stuck
end
noncomputable def whileL (c : List V → Sto → R Bool) (b : List V → Sto → R Fl) : Nat → List V → Sto → R Fl
  | 0, _, _ => .stuck
  | n + 1, ρ, σ => (c ρ σ).bind fun t σ => if t then (b ρ σ).bind fun fl σ => match fl with
      | .next ρ => whileL c b n ρ σ
      | .ret v => .ok (.ret v) σ
    else .ok (.next ρ) σ
noncomputable def forIt (it : Items) (f : V → List V → Sto → R Fl) : Nat → Nat → List V → Sto → R Fl
  | 0, _, _, _ => .stuck
  | fuel + 1, i, ρ, σ => match nextIt σ it i with
    | none => .stuck
    | some none => .ok (.next ρ) σ
    | some (some x) => (f x ρ σ).bind fun fl σ => match fl with
      | .next ρ => forIt it f fuel (i + 1) ρ σ
      | .ret v => .ok (.ret v) σ
noncomputable def forItems (it : Items) (f : V → List V → Sto → R Fl) (ρ : List V) (σ : Sto) : R Fl := forIt it f (itFuel σ it) 0 ρ σ
noncomputable def R.orElse {α β : Type} (r : R α) (f : α → Sto → R β) (g : Cls → Sto → R β) : R β :=
  match r with
  | .ok a σ => f a σ
  | .exc c σ => g c σ
  | .stuck => .stuck
noncomputable def tkFl (k : TK) (v : V) (ρ : List V) : Fl :=
  match k with
  | .ret => .ret v
  | .asg i => .next (ρ.set i v)
  | .exp => .next ρ
noncomputable def Fl.unset (i : Nat) : Fl → Fl
  | .next ρ => .next (ρ.set i .undef)
  | .ret v => .ret v
noncomputable def hdEnv (as : Option Nat) (c : Cls) (ρ : List V) : List V :=
  match as with
  | none => ρ
  | some i => ρ.set i (.exc c)
noncomputable def hdEnd (as : Option Nat) (fl : Fl) : Fl :=
  match as with
  | none => fl
  | some i => fl.unset i
noncomputable def exH (Fq : Calls) : List Hd → List V → Cls → Sto → R Fl
  | [], _, _, _ => .stuck
  | h :: hs, ρ, c, σ => if c.sub h.cls then ((evE Fq true h.e (hdEnv h.as c ρ) σ).calm.bind fun v σ => .ok (hdEnd h.as (tkFl h.tk v (hdEnv h.as c ρ))) σ) else exH Fq hs ρ c σ
noncomputable def wFuel : Nat := 100000
mutual
noncomputable def exS (F Fq : Calls) (q : Bool) : CS → List V → Sto → R Fl
  | .asg i e, ρ, σ => (evE F q e ρ σ).bind fun v σ => .ok (.next (ρ.set i v)) σ
  | .setItem o i v, ρ, σ => (evE F q v ρ σ).bind fun v σ => (evE F q o ρ σ).bind fun o σ => (evE F q i ρ σ).bind fun i σ => (doSetItem σ o i v).bind fun _ σ => .ok (.next ρ) σ
  | .setAttr o a v, ρ, σ => (evE F q v ρ σ).bind fun v σ => (evE F q o ρ σ).bind fun o σ => (doSetAttr σ o a v).bind fun _ σ => .ok (.next ρ) σ
  | .unpack3 i j k e, ρ, σ => if q then .stuck else (evE F q e ρ σ).bind fun v σ => match v with
    | .tup [x, y, z] => .ok (.next (((ρ.set i x).set j y).set k z)) σ
    | _ => .stuck
  | .ite c a b, ρ, σ => (evE F q c ρ σ).bind fun v σ => (R.lift σ (truthy σ v)).bind fun t σ => if t then exL F Fq q a ρ σ else exL F Fq q b ρ σ
  | .for i k src body, ρ, σ => if q then .stuck else (evL F q src ρ σ).bind fun vs σ => (R.lift σ (itemsBy σ k vs)).bind fun it σ =>
      forItems it (fun x ρ σ => exL F Fq q body (ρ.set i x) σ) ρ σ
  | .while c body, ρ, σ => if q then .stuck else whileL (fun ρ σ => ((evE F q c ρ σ).bind fun v σ => R.lift σ (truthy σ v)).calm) (fun ρ σ => (exL F Fq q body ρ σ).calm) wFuel ρ σ
  | .ret e, ρ, σ => (evE F q e ρ σ).bind fun v σ => .ok (.ret v) σ
  | .exp e, ρ, σ => (evE F q e ρ σ).bind fun _ σ => .ok (.next ρ) σ
  | .raise c, _, σ => if q then .stuck else .exc c σ
  | .try k e hs, ρ, σ => if q then .stuck else (evE F q e ρ σ).orElse (fun v σ => .ok (tkFl k v ρ) σ) (exH Fq hs ρ)
  | .pass, ρ, σ => .ok (.next ρ) σ
  | .stuck, _, _ => .stuck
noncomputable def exL (F Fq : Calls) (q : Bool) : List CS → List V → Sto → R Fl
  | [], ρ, σ => .ok (.next ρ) σ
  | s :: ss, ρ, σ => (exS F Fq q s ρ σ).bind fun fl σ => match fl with
    | .next ρ => exL F Fq q ss ρ σ
    | .ret v => .ok (.ret v) σ
end
noncomputable def fnEnd : Fl → Sto → R V
  | .ret v, σ => .ok v σ
  | .next _, σ => .ok .none σ
noncomputable def callFn (T : Nat → Option Fn) : Nat → Bool → Calls
  | 0, _, _, _, _ => .stuck
  | d + 1, q, f, args, σ => match T f with
    | none => .stuck
    | some fn => if args.length = fn.params then
        (exL (callFn T d q) (callFn T d true) q fn.body (args ++ List.replicate (fn.slots - fn.params) .undef) σ).bind fnEnd
      else .stuck
end Mine
end

/-! # Comp -/
section
set_option autoImplicit false
namespace Mine
theorem zAA {α : Type} {x : α} {P : Prop} (h : none = some x) : P := nomatch h
theorem ff_tt {P : Prop} (h : false = true) : P := nomatch h
open PySem
structure Ctx where
  fns : List (Str × Nat)
  meths : List (Str × Nat)
  consts : List (Str × V)
  excs : List (Str × Cls)
  attrs : List (Str × Nat)
  book : Bool
  trks : List (Nat × Nat × Nat)
noncomputable def kindNames : List (Str × Kd) := [("int", .int), ("bool", .bool), ("str", .str), ("list", .list), ("tuple", .tuple)
  , ("ValueError", .exc .ValueError)
  ]
noncomputable def kindOf? (C : Ctx) (x : Str) : Option Kd := if (C.fns.lookup x).isSome then none else kindNames.lookup x
noncomputable def attrNames : List (Str × Nat) := [("entries", 0), ("history", 1)]
noncomputable def lastIdx (x : Str) : List Str → Option Nat
  | [] => none
  | y :: ys => match lastIdx x ys with
    | some i => some (i + 1)
    | none => if y == x then some 0 else none
noncomputable def isVar (sc : Scope) (x : Str) : Bool := match sc.names.lookup x with
  | some .local | some .cell | some .free => true
  | _ => false
noncomputable def isGlob (sc : Scope) (x : Str) : Bool := sc.names.lookup x == some .globalImplicit
noncomputable def cmpOf : CmpOp → Option P2
  | .Eq => some .eq | .NotEq => some .ne | .Lt => some .lt | .LtE => some .le | .Gt => some .gt | .GtE => some .ge
  | .In => some .isIn | .NotIn => some .notIn | _ => none
noncomputable def binOf : Operator → Option P2
  | .Add => some .add | .Sub => some .sub | .Mult => some .mul | .FloorDiv => some .fdiv | .Mod => some .mod
  | .Pow => some .pow
  | _ => none
noncomputable def b1Names : List (Str × P1) := [("len", .len),
  ("int", .toInt),
  ("str", .toStr),
  ("min", .min), ("max", .max),
  ("all", .all), ("list", .toList), ("tuple", .toTup), ("sum", .sum)]
noncomputable def b2Names : List (Str × P2) := [("min", .min), ("max", .max)]
noncomputable def m1Names : List (Str × P2) := [("join", .join)
  , ("count", .count)
  , ("split", .split), ("partition", .partition)
  , ("startswith", .startswith)
  ]
noncomputable def trkAt (C : Ctx) (p : Pos) (e : CE) : CE := if C.trks.contains (p.line, p.col, p.endCol) then .trk e else e
noncomputable def foldBool (isAnd : Bool) : List CE → Option CE
  | [] => none
  | [e] => some e
  | e :: es => (foldBool isAnd es).map fun r => if isAnd then .and e r else .or e r
noncomputable def cName (C : Ctx) (Γ : List Str) (sc : Scope) (x : Str) : Option CE :=
  if x == ("__debug__" : Str) || x == ("__classdict__" : Str) then none else if isVar sc x then (lastIdx x Γ).map .var else if isGlob sc x then (C.consts.lookup x).map .lit else none
noncomputable def dot0 : Str := ".0"
noncomputable def compOk (Γ : List Str) (sc scope : Scope) (x : Str) : Bool :=
  scope.kind == .function && scope.names.lookup x == some .local && !Γ.contains dot0 && x != dot0 &&
    scope.names.all fun p => match p.2 with
      | .cell => false
      | .local => (p.1 == x || p.1 == dot0) && scope.names.lookup p.1 == some .local
      | .free => sc.names.lookup p.1 == some .cell || sc.names.lookup p.1 == some .free
      | _ => true
inductive EV where
  | non
  | str (s : Str)
  | name (x : Str)
  | call (f : Expr) (a : List Expr) (k : List Keyword)
  | slice (lo hi : Option Expr)
  | attr (o : Expr) (m : Str) (p : Pos)
  | sub (o i : Expr)
  | star
  | lcomp
  | other
noncomputable def eview : Expr → EV
  | .Constant .none _ _ => .non
  | .Constant (.str s) _ _ => .str s
  | .Name x _ => .name x
  | .Call f a k _ => .call f a k
  | .Slice lo hi none _ => .slice lo hi
  | .Attribute o m p => .attr o m p
  | .Subscript o i _ => .sub o i
  | .Starred .. => .star
  | .ListComp .. => .lcomp
  | _ => .other
noncomputable def EVOk (e : Expr) : EV → Prop
  | .non => ∃ k p, e = .Constant .none k p
  | .str s => ∃ k p, e = .Constant (.str s) k p
  | .name x => ∃ p, e = .Name x p
  | .call f a k => ∃ p, e = .Call f a k p
  | .slice lo hi => ∃ p, e = .Slice lo hi none p
  | .attr o m p => e = .Attribute o m p
  | .sub o i => ∃ p, e = .Subscript o i p
  | _ => True
theorem zBX (e : Expr) : EVOk e (eview e) := by
  cases e with
  | Constant k n p =>
    cases k with
    | none => exact ⟨_, _, rfl⟩
    | str s => exact ⟨_, _, rfl⟩
    | _ => exact True.intro
  | Name x p => exact ⟨_, rfl⟩
  | Call f a k p => exact ⟨_, rfl⟩
  | Slice lo hi st p =>
    cases st with
    | none => exact ⟨_, rfl⟩
    | some _ => exact True.intro
  | Attribute o m p => exact (rfl : Expr.Attribute o m p = .Attribute o m p)
  | Subscript o i p => exact ⟨_, rfl⟩
  | _ => exact True.intro
noncomputable def EV.isNon : EV → Bool
  | .non => true
  | _ => false
noncomputable def EV.str? : EV → Option Str
  | .str s => some s
  | _ => none
noncomputable def EV.name? : EV → Option Str
  | .name x => some x
  | _ => none
noncomputable def EV.call? : EV → Option (Expr × List Expr × List Keyword)
  | .call f a k => some (f, a, k)
  | _ => none
noncomputable def EV.slice? : EV → Option (Option Expr × Option Expr)
  | .slice l h => some (l, h)
  | _ => none
noncomputable def EV.attr? : EV → Option (Expr × Str × Pos)
  | .attr o m p => some (o, m, p)
  | _ => none
noncomputable def EV.isStar : EV → Bool
  | .star => true
  | _ => false
noncomputable def EV.isComp : EV → Bool
  | .lcomp => true
  | _ => false
noncomputable def EV.noSuper : EV → Bool
  | .call f [] [] => (eview f).name?.isNone
  | _ => true
noncomputable def isStar (e : Expr) : Bool := (eview e).isStar
noncomputable def isComp (e : Expr) : Bool := (eview e).isComp
noncomputable def noSuper (e : Expr) : Bool := (eview e).noSuper
noncomputable def isNoneC (e : Expr) : Bool := (eview e).isNon
noncomputable def nameOf? (e : Expr) : Option Str := (eview e).name?
noncomputable def callParts? (e : Expr) : Option (Expr × List Expr × List Keyword) := (eview e).call?
noncomputable def sliceParts? (e : Expr) : Option (Option Expr × Option Expr) := (eview e).slice?
noncomputable def attrParts? (e : Expr) : Option (Expr × Str × Pos) := (eview e).attr?
noncomputable def strC? (e : Expr) : Option Str := (eview e).str?
theorem zDk {e : Expr} (h : isNoneC e = true) : ∃ k p, e = .Constant .none k p := by
  have hv := zBX e
  have h : (eview e).isNon = true := h
  generalize eview e = v at hv h
  cases v with
  | non => exact hv
  | _ => exact ff_tt h
theorem nameOf?_eq {e : Expr} {x : Str} (h : nameOf? e = some x) : ∃ p, e = .Name x p := by
  have hv := zBX e
  have h : (eview e).name? = some x := h
  generalize eview e = v at hv h
  cases v with
  | name => cases h; exact hv
  | _ => exact zAA h
theorem callParts?_eq {e fn : Expr} {args : List Expr} {kws : List Keyword} (h : callParts? e = some (fn, args, kws)) : ∃ p, e = .Call fn args kws p := by
  have hv := zBX e
  have h : (eview e).call? = some _ := h
  generalize eview e = v at hv h
  cases v with
  | call => cases h; exact hv
  | _ => exact zAA h
theorem sliceParts?_eq {e : Expr} {lo hi : Option Expr} (h : sliceParts? e = some (lo, hi)) : ∃ p, e = .Slice lo hi none p := by
  have hv := zBX e
  have h : (eview e).slice? = some _ := h
  generalize eview e = v at hv h
  cases v with
  | slice => cases h; exact hv
  | _ => exact zAA h
theorem attrParts?_eq {e o : Expr} {m : Str} {p : Pos} (h : attrParts? e = some (o, m, p)) : e = .Attribute o m p := by
  have hv := zBX e
  have h : (eview e).attr? = some _ := h
  generalize eview e = v at hv h
  cases v with
  | attr => cases h; exact hv
  | _ => exact zAA h
theorem strC?_eq {e : Expr} {s : Str} (h : strC? e = some s) : ∃ k p, e = .Constant (.str s) k p := by
  have hv := zBX e
  have h : (eview e).str? = some _ := h
  generalize eview e = v at hv h
  cases v with
  | str => cases h; exact hv
  | _ => exact zAA h
section
variable (C : Ctx) (rec : List Str → Scope → Expr → Option CE)
noncomputable def cL (Γ : List Str) (sc : Scope) : List Expr → Option (List CE)
  | [] => some []
  | e :: es => if isStar e then none else (rec Γ sc e).bind fun a => (cL Γ sc es).map fun as => a :: as
noncomputable def cOpt (Γ : List Str) (sc : Scope) : Option Expr → Option (Option CE)
  | none => some none
  | some e => (rec Γ sc e).map some
noncomputable def cIf (Γ : List Str) (sc : Scope) : List Expr → Option (Option CE)
  | [] => some none
  | [e] => (rec Γ sc e).map some
  | _ => none
noncomputable def cConst : Const → Option CE
  | .none => some (.lit .none)
  | .bool b => some (.lit (.bool b))
  | .int i => some (.lit (.int i))
  | .str s => if s.length ≤ 1000 && PyData.strOk s then some (.lit (.str s)) else none
  | _ => none
noncomputable def cCmp (Γ : List Str) (sc : Scope) (a : Expr) (ops : List CmpOp) (cs : List Expr) : Option CE :=
  if ops.length != cs.length then none else match cs, ops with
    | [b], [op] =>
      if op == .Is && isNoneC b then (rec Γ sc a).map (.p1 .isNone)
      else if op == .IsNot && isNoneC b then (rec Γ sc a).map (.p1 .isNotNone) else
      (cmpOf op).bind fun o => (rec Γ sc a).bind fun x => (rec Γ sc b).map fun y => .p2 o x y
    | cs, ops => (ops.mapM cmpOf).bind fun os => (rec Γ sc a).bind fun x => (cL rec Γ sc cs).map fun ys => .chain x os ys
noncomputable def cSrc (Γ : List Str) (sc : Scope) (e : Expr) : Option (SK × List CE) :=
  match callParts? e with
  | some (fn, args, kws) => (match nameOf? fn with
    | some f => if f == ("range" : Str) then (if isGlob sc f && kws.isEmpty then (cL rec Γ sc args).bind fun es => (match es with
        | [a] => some (.range1, [a])
        | _ => none) else none)
      else (rec Γ sc e).map fun a => (.val, [a])
    | none => (rec Γ sc e).map fun a => (.val, [a]))
  | none => (rec Γ sc e).map fun a => (.val, [a])
noncomputable def cComp (Γ : List Str) (sc : Scope) (elt : Expr) (gens : List Comprehension) (scope : Scope) : Option CE :=
  match gens with
  | [g] => (nameOf? g.target).bind fun x =>
      if g.is_async != 0 || !compOk Γ sc scope x then none else (cSrc rec Γ sc g.iter).bind fun s => (cIf rec (Γ ++ [x]) scope g.ifs).bind fun c => (rec (Γ ++ [x]) scope elt).map fun e => .comp e s.1 s.2 c
  | _ => none
noncomputable def cSub (Γ : List Str) (sc : Scope) (o i : Expr) (pos : Pos) : Option CE :=
  match sliceParts? i with
  | some (lo, hi) => (rec Γ sc o).bind fun a => (cOpt rec Γ sc lo).bind fun l => (cOpt rec Γ sc hi).map fun h => trkAt C pos (.slice a l h)
  | none => (rec Γ sc o).bind fun a => (rec Γ sc i).map fun b => .p2 .index a b
noncomputable def cMethB (Γ : List Str) (sc : Scope) (o : Expr) (m : Str) (args : List Expr) : Option CE :=
  match args with
  | [x] => if isStar x then none else if m == ("append" : Str) then (rec Γ sc o).bind fun a => (rec Γ sc x).map fun b => .append a b
    else (m1Names.lookup m).bind fun p => (rec Γ sc o).bind fun a => (rec Γ sc x).map fun b => .sm p a b
  | _ => none
noncomputable def cMeth (Γ : List Str) (sc : Scope) (o : Expr) (m : Str) (apos : Pos) (args : List Expr) (pos : Pos) : Option CE :=
  if !noSuper o || apos.endLine != pos.line then none else
    match C.meths.lookup m with
    | some _ => none
    | none =>
    cMethB rec Γ sc o m args
noncomputable def excOf (sc : Scope) (x : Str) : Option Cls := if isGlob sc x && x != ("__debug__" : Str) && x != ("ValueError" : Str) then C.excs.lookup x else none
noncomputable def cIsinst (Γ : List Str) (sc : Scope) (args : List Expr) : Option CE :=
  match args with
  | [x, k] => if isStar x then none else (nameOf? k).bind fun kn => if isGlob sc kn then (match kindOf? C kn with
    | some kd => (rec Γ sc x).map fun a => .p1 (.isInst kd) a
    | none => (excOf C sc kn).bind fun k => (rec Γ sc x).map fun a => .p1 (.isInst (.exc k)) a) else none
  | _ => none
noncomputable def cFun (Γ : List Str) (sc : Scope) (f : Str) (args : List Expr) (pos : Pos) : Option CE :=
  if !isGlob sc f then none
  else if f == ("isinstance" : Str) then cIsinst C rec Γ sc args
  else (cL rec Γ sc args).bind fun es => match C.fns.lookup f with
    | some n => some (.call n es)
    | none =>
      (match es with
      | [a] => (b1Names.lookup f).map fun o => if f == ("list" : Str) then trkAt C pos (.p1 o a) else .p1 o a
      | [a, b] => (b2Names.lookup f).map fun o => .p2 o a b
      | _ => none)
noncomputable def cCall (Γ : List Str) (sc : Scope) (fn : Expr) (args : List Expr) (kws : List Keyword) (pos : Pos) : Option CE :=
  if !kws.isEmpty || 20 < args.length then none else match attrParts? fn with
    | some (o, m, apos) => cMeth C rec Γ sc o m apos args pos
    | none => (nameOf? fn).bind fun f => cFun C rec Γ sc f args pos
noncomputable def stepE (Γ : List Str) (sc : Scope) : Expr → Option CE
  | .Constant k _ _ => cConst k
  | .Name x _ => cName C Γ sc x
  | .BoolOp op vs _ => (cL rec Γ sc vs).bind fun es => foldBool (op == .And) es
  | .BinOp l op r pos => (binOf op).bind fun o => (rec Γ sc l).bind fun a => (rec Γ sc r).map fun b => trkAt C pos (.p2 o a b)
  | .UnaryOp .Not x _ => (rec Γ sc x).map (.p1 .not)
  | .UnaryOp .USub x _ => (rec Γ sc x).map (.p1 .neg)
  | .Compare a ops cs _ => cCmp rec Γ sc a ops cs
  | .List es pos => if es.length ≤ 1000 then (cL rec Γ sc es).map fun es => trkAt C pos (.list es) else none
  | .Tuple es _ _ => if es.length ≤ 1000 then (cL rec Γ sc es).map .tup else none
  | .ListComp elt gens scope pos => (cComp rec Γ sc elt gens scope).map fun e => trkAt C pos e
  | .Subscript o i pos => cSub C rec Γ sc o i pos
  | .Call fn args kws pos => cCall C rec Γ sc fn args kws pos
  | _ => none
end
noncomputable def cE (C : Ctx) : Nat → List Str → Scope → Expr → Option CE
  | 0 => fun _ _ _ => none
  | n + 1 => stepE C (cE C n)
noncomputable def deep : Nat := 30
noncomputable def slotOf (Γ : List Str) (sc : Scope) (x : Str) : Option Nat := if sc.names.lookup x == some .local || sc.names.lookup x == some .cell then lastIdx x Γ else none
section
variable (C : Ctx) (Γ : List Str) (sc : Scope) (rec : Stmt → CS)
noncomputable def tup3? : Expr → Option (Str × Str × Str)
  | .Tuple [a, b, c] _ _ => (nameOf? a).bind fun x => (nameOf? b).bind fun y => (nameOf? c).map fun z => (x, y, z)
  | _ => none
noncomputable def cAsg3 (t e : Expr) : Option CS := (tup3? t).bind fun p => if (callParts? e).isNone then none else (slotOf Γ sc p.1).bind fun i => (slotOf Γ sc p.2.1).bind fun j => (slotOf Γ sc p.2.2).bind fun k => (cE C deep Γ sc e).map fun c => .unpack3 i j k c
noncomputable def cAsg (t e : Expr) : Option CS :=
  match nameOf? t with
  | some x => (slotOf Γ sc x).bind fun i => (cE C deep Γ sc e).map (.asg i)
  | none => cAsg3 C Γ sc t e
noncomputable def cTKr : Option Expr → Option (TK × CE)
  | some e => (cE C deep Γ sc e).map fun c => (.ret, c)
  | none => none
noncomputable def cTKa (e : Expr) : List Expr → Option (TK × CE)
  | [t] => if isComp e then none else (nameOf? t).bind fun x => (slotOf Γ sc x).bind fun i => (cE C deep Γ sc e).map fun c => (.asg i, c)
  | _ => none
noncomputable def cTK1 : Stmt → Option (TK × CE)
  | .Return v _ => cTKr C Γ sc v
  | .Assign ts e _ => cTKa C Γ sc e ts
  | .Expr e _ => if isComp e then none else (cE C deep Γ sc e).map fun c => (.exp, c)
  | _ => none
noncomputable def cTK : List Stmt → Option (TK × CE)
  | [s] => cTK1 C Γ sc s
  | _ => none
noncomputable def cAs : Option Str → Option (Option Nat)
  | none => some none
  | some n => if sc.names.lookup n == some .local then (slotOf Γ sc n).map some else none
noncomputable def cHd : ExceptHandler → Option Hd
  | .ExceptHandler (some t) n body _ => (nameOf? t).bind fun x => (excOf C sc x).bind fun k => (cAs Γ sc n).bind fun as => (cTK C Γ sc body).map fun p => ⟨k, as, p.1, p.2⟩
  | _ => none
noncomputable def cHds : List ExceptHandler → Option (List Hd)
  | [] => some []
  | h :: hs => (cHd C Γ sc h).bind fun a => (cHds hs).map fun as => a :: as
noncomputable def cRaiseA (fn : Expr) (kws : List Keyword) : List Expr → Option CS
  | [x] => if kws.isEmpty then (strC? x).bind fun s => (nameOf? fn).bind fun f => if s.length ≤ 1000 && PyData.strOk s then (excOf C sc f).map .raise else none else none
  | _ => none
noncomputable def cRaise (e : Expr) : Option CS := (callParts? e).bind fun p => cRaiseA C sc p.1 p.2.2 p.2.1
noncomputable def stepS : Stmt → Option CS
  | .Return (some e) _ => (cE C deep Γ sc e).map .ret
  | .Assign [t] e _ => cAsg C Γ sc t e
  | .If t a b _ => (cE C deep Γ sc t).map fun t => .ite t (a.map rec) (b.map rec)
  | .For x iter body [] _ => (nameOf? x).bind fun x => (slotOf Γ sc x).bind fun i => (cSrc (cE C deep) Γ sc iter).map fun s => .for i s.1 s.2 (body.map rec)
  | .Expr e _ => if isComp e then none else (cE C deep Γ sc e).map .exp
  | .Pass _ => some .pass
  | .Raise (some e) none _ => cRaise C sc e
  | .Try body (h :: hs) [] [] _ => (cTK C Γ sc body).bind fun p => (cHds C Γ sc (h :: hs)).map fun hs => .try p.1 p.2 hs
  | _ => none
end
noncomputable def cS (C : Ctx) (Γ : List Str) (sc : Scope) : Nat → Stmt → CS
  | 0 => fun _ => .stuck
  | n + 1 => fun s => (stepS C Γ sc (cS C Γ sc n) s).getD .stuck
noncomputable def cSL (C : Ctx) (Γ : List Str) (sc : Scope) (l : List Stmt) : List CS := l.map (cS C Γ sc deep)
noncomputable def slotsOf (params : List Str) (sc : Scope) : List Str :=
  params ++ (sc.names.filter fun p => (p.2 == .local || p.2 == .cell) && !params.contains p.1).map (·.1)
end Mine
end

/-! # Xl -/
section
set_option autoImplicit false
namespace Mine
open PySem
section
variable (F Fq : Calls) (q : Bool) (ρ : List V) (σ : Sto)
@[simp] theorem x_lit (v : V) : evE F q (.lit v) ρ σ = .ok v σ := id rfl
@[simp] theorem x_var (i : Nat) : evE F q (.var i) ρ σ = R.lift σ (readVar ρ i) := id rfl
@[simp] theorem x_p1 (o : P1) (a : CE) : evE F q (.p1 o a) ρ σ = if loud1 o && q then .stuck else (evE F q a ρ σ).bind fun a σ => R.lift σ (ev1 o σ a) := id rfl
@[simp] theorem x_p2 (o : P2) (a b : CE) : evE F q (.p2 o a b) ρ σ = if loud2 o && q then .stuck else (evE F q a ρ σ).bind fun a σ => (evE F q b ρ σ).bind fun b σ => R.lift σ (ev2 o σ a b) := id rfl
@[simp] theorem zDs (a : CE) (ops : List P2) (es : List CE) : evE F q (.chain a ops es) ρ σ = (evE F q a ρ σ).bind fun a σ => evChain F q ops es a ρ σ := id rfl
@[simp] theorem x_slice (a : CE) (lo hi : Option CE) : evE F q (.slice a lo hi) ρ σ = (evE F q a ρ σ).bind fun a σ => (evO F q lo ρ σ).bind fun lo σ => (evO F q hi ρ σ).bind fun hi σ => R.lift σ (evSlice σ a lo hi) := id rfl
@[simp] theorem x_and (a b : CE) : evE F q (.and a b) ρ σ = (evE F q a ρ σ).bind fun a σ => (R.lift σ (truthy σ a)).bind fun t σ => if t then evE F q b ρ σ else .ok a σ := id rfl
@[simp] theorem x_or (a b : CE) : evE F q (.or a b) ρ σ = (evE F q a ρ σ).bind fun a σ => (R.lift σ (truthy σ a)).bind fun t σ => if t then .ok a σ else evE F q b ρ σ := id rfl
@[simp] theorem x_tup (es : List CE) : evE F q (.tup es) ρ σ = (evL F q es ρ σ).bind fun vs σ => .ok (.tup vs) σ := id rfl
@[simp] theorem x_list (es : List CE) : evE F q (.list es) ρ σ = (evL F q es ρ σ).bind fun vs σ => .ok (.lst vs) σ := id rfl
@[simp] theorem x_call (f : Nat) (args : List CE) : evE F q (.call f args) ρ σ = (evL F q args ρ σ).bind fun vs σ => F f vs σ := id rfl
@[simp] theorem x_sm (o : P2) (a b : CE) : evE F q (.sm o a b) ρ σ = (evE F q a ρ σ).bind fun a σ => if selfOk o σ a then (evE F q b ρ σ).bind fun b σ => R.lift σ (ev2 o σ a b) else .stuck := id rfl
@[simp] theorem zGm (l x : CE) : evE F q (.append l x) ρ σ = (evE F q l ρ σ).bind fun o σ => if isListV σ o then (evE F q x ρ σ).bind fun x σ => doAppend σ o x else .stuck := id rfl
@[simp] theorem x_pop (l : CE) : evE F q (.pop l) ρ σ = (evE F q l ρ σ).bind fun o σ => doPop σ o := id rfl
@[simp] theorem x_clear (l : CE) : evE F q (.clear l) ρ σ = (evE F q l ρ σ).bind fun o σ => doClear σ o := id rfl
@[simp] theorem x_trk (e : CE) : evE F q (.trk e) ρ σ = (evE F q e ρ σ).bind fun v σ => doTrk σ v := id rfl
@[simp] theorem x_nil : evL F q [] ρ σ = .ok [] σ := id rfl
@[simp] theorem zDZ (e : CE) (es : List CE) : evL F q (e :: es) ρ σ = (evE F q e ρ σ).bind fun v σ => (evL F q es ρ σ).bind fun vs σ => .ok (v :: vs) σ := id rfl
@[simp] theorem x_onone : evO F q none ρ σ = .ok none σ := id rfl
@[simp] theorem x_osome (e : CE) : evO F q (some e) ρ σ = (evE F q e ρ σ).bind fun v σ => match v with | .int i => .ok (some i) σ | _ => .stuck := id rfl
@[simp] theorem x_cnone : evC F q none ρ σ = .ok true σ := id rfl
@[simp] theorem zDr (e : CE) : evC F q (some e) ρ σ = (evE F q e ρ σ).bind fun v σ => R.lift σ (truthy σ v) := id rfl
@[simp] theorem x_asg (i : Nat) (e : CE) : exS F Fq q (.asg i e) ρ σ = (evE F q e ρ σ).bind fun v σ => .ok (.next (ρ.set i v)) σ := id rfl
@[simp] theorem x_setItem (o i v : CE) : exS F Fq q (.setItem o i v) ρ σ = (evE F q v ρ σ).bind fun v σ => (evE F q o ρ σ).bind fun o σ => (evE F q i ρ σ).bind fun i σ => (doSetItem σ o i v).bind fun _ σ => .ok (.next ρ) σ := id rfl
@[simp] theorem x_ite (c : CE) (a b : List CS) : exS F Fq q (.ite c a b) ρ σ = (evE F q c ρ σ).bind fun v σ => (R.lift σ (truthy σ v)).bind fun t σ => if t then exL F Fq q a ρ σ else exL F Fq q b ρ σ := id rfl
@[simp] theorem x_ret (e : CE) : exS F Fq q (.ret e) ρ σ = (evE F q e ρ σ).bind fun v σ => .ok (.ret v) σ := id rfl
@[simp] theorem x_exp (e : CE) : exS F Fq q (.exp e) ρ σ = (evE F q e ρ σ).bind fun _ σ => .ok (.next ρ) σ := id rfl
@[simp] theorem zEn (i j k : Nat) (e : CE) : exS F Fq q (.unpack3 i j k e) ρ σ = if q then .stuck else (evE F q e ρ σ).bind fun v σ => match v with
    | .tup [x, y, z] => .ok (.next (((ρ.set i x).set j y).set k z)) σ
    | _ => .stuck := id rfl
@[simp] theorem x_try (k : TK) (e : CE) (hs : List Hd) : exS F Fq q (.try k e hs) ρ σ = if q then .stuck else (evE F q e ρ σ).orElse (fun v σ => .ok (tkFl k v ρ) σ) (exH Fq hs ρ) := id rfl
@[simp] theorem x_pass : exS F Fq q .pass ρ σ = .ok (.next ρ) σ := id rfl
@[simp] theorem x_lnil : exL F Fq q [] ρ σ = .ok (.next ρ) σ := id rfl
@[simp] theorem x_lcons (s : CS) (ss : List CS) : exL F Fq q (s :: ss) ρ σ = (exS F Fq q s ρ σ).bind fun fl σ => match fl with | .next ρ => exL F Fq q ss ρ σ | .ret v => .ok (.ret v) σ := id rfl
@[simp] theorem x_attr (e : CE) (a : Nat) : evE F q (.attr e a) ρ σ = (evE F q e ρ σ).bind fun o σ => R.lift σ (doAttr σ o a) := id rfl
@[simp] theorem x_callm (f : Nat) (o : CE) (args : List CE) : evE F q (.callm f o args) ρ σ = (evE F q o ρ σ).bind fun o σ => if isInst σ o then (evL F q args ρ σ).bind fun vs σ => F f (o :: vs) σ else .stuck := id rfl
@[simp] theorem x_new : evE F q .new ρ σ = (F 0 [.ref σ.length] (σ ++ [.inst []])).bind (newEnd σ.length) := id rfl
@[simp] theorem x_dict0 : evE F q .dict0 ρ σ = .ok (.ref σ.length) (σ ++ [.dict []]) := id rfl
@[simp] theorem x_dict1 (k v : CE) : evE F q (.dict1 k v) ρ σ = (evE F q k ρ (σ ++ [.dict []])).bind fun a σ₁ => (evE F q v ρ σ₁).bind fun b σ₂ => doDict1 σ.length σ₂ a b := id rfl
@[simp] theorem x_setAttr (o : CE) (a : Nat) (v : CE) : exS F Fq q (.setAttr o a v) ρ σ = (evE F q v ρ σ).bind fun v σ => (evE F q o ρ σ).bind fun o σ => (doSetAttr σ o a v).bind fun _ σ => .ok (.next ρ) σ := id rfl
@[simp] theorem x_raise (c : Cls) : exS F Fq q (.raise c) ρ σ = if q then .stuck else .exc c σ := id rfl
@[simp] theorem x_ch1 (op : P2) (e : CE) (a : V) : evChain F q [op] [e] a ρ σ = if loud2 op && q then .stuck else (evE F q e ρ σ).bind fun b σ => R.lift σ (ev2 op σ a b) := id rfl
@[simp] theorem x_ch2 (op op' : P2) (ops : List P2) (e e' : CE) (es : List CE) (a : V) : evChain F q (op :: op' :: ops) (e :: e' :: es) a ρ σ = if loud2 op && q then .stuck else (evE F q e ρ σ).bind fun b σ => (R.lift σ (ev2 op σ a b)).bind fun c σ => (R.lift σ (truthy σ c)).bind fun t σ => if t then evChain F q (op' :: ops) (e' :: es) b ρ σ else .ok c σ := id rfl
@[simp] theorem x_comp (elt : CE) (k : SK) (src : List CE) (cond : Option CE) : evE F q (.comp elt k src cond) ρ σ = if q then .stuck else (evL F q src ρ σ).bind fun vs σ => (R.lift σ (itemsBy σ k vs)).bind fun it σ =>
      (foldItems it (fun x acc σ => (evC F q cond (ρ ++ [x]) σ).calm.bind fun t σ => if t then (evE F q elt (ρ ++ [x]) σ).calmE.bind fun y σ => (if acc.length < LIM then .ok (acc ++ [y]) σ else .stuck) else .ok acc σ) [] σ).bind fun acc σ => .ok (.lst acc) σ := id rfl
theorem x_for (i : Nat) (k : SK) (src : List CE) (body : List CS) : exS F Fq q (.for i k src body) ρ σ = if q then .stuck else (evL F q src ρ σ).bind fun vs σ => (R.lift σ (itemsBy σ k vs)).bind fun it σ =>
      forItems it (fun x ρ σ => exL F Fq q body (ρ.set i x) σ) ρ σ := id rfl
end
theorem forIt_zero {it : Items} {f : V → List V → Sto → R Fl} {i : Nat} {ρ : List V} {σ : Sto} : forIt it f 0 i ρ σ = .stuck := rfl
theorem zCD {it : Items} {f : V → List V → Sto → R Fl} {n i : Nat} {ρ : List V} {σ : Sto} : forIt it f (n + 1) i ρ σ = match nextIt σ it i with
    | none => .stuck
    | some none => .ok (.next ρ) σ
    | some (some x) => (f x ρ σ).bind fun fl σ => match fl with
      | .next ρ => forIt it f n (i + 1) ρ σ
      | .ret v => .ok (.ret v) σ := rfl
theorem zGd {β : Type} {it : Items} {f : V → β → Sto → R β} {i : Nat} {b : β} {σ : Sto} : foldIt it f 0 i b σ = .stuck := rfl
theorem zBi {β : Type} {it : Items} {f : V → β → Sto → R β} {n i : Nat} {b : β} {σ : Sto} : foldIt it f (n + 1) i b σ = match nextIt σ it i with
    | none => .stuck
    | some none => .ok b σ
    | some (some x) => (f x b σ).bind fun b σ => foldIt it f n (i + 1) b σ := rfl
theorem zDR {T : Nat → Option Fn} {d : Nat} {q : Bool} {k : Nat} {vs : List V} {σ : Sto} : callFn T (d + 1) q k vs σ = match T k with
    | none => .stuck
    | some fn => if vs.length = fn.params then
        (exL (callFn T d q) (callFn T d true) q fn.body (vs ++ List.replicate (fn.slots - fn.params) .undef) σ).bind fnEnd
      else .stuck := rfl
end Mine
end

/-! # Plain -/
section
set_option autoImplicit false
namespace Mine
open PySem
noncomputable def Gives (σ : Sto) (it : Items) (xs : List V) : Prop := it = .now xs ∨ ∃ n, it = .live n ∧ σ[n]? = some (.list xs)
theorem Gives.next {σ : Sto} {it : Items} {xs : List V} (h : Gives σ it xs) (i : Nat) : nextIt σ it i = some xs[i]? := by
  rcases h with rfl | ⟨n, rfl, h⟩
  · rfl
  · simp [nextIt, h]
theorem Gives.fuel {σ : Sto} {it : Items} {xs : List V} (h : Gives σ it xs) : itFuel σ it = xs.length + 1 := by
  rcases h with rfl | ⟨n, rfl, h⟩
  · rfl
  · simp [itFuel, h]
theorem fold_same {β : Type} {it : Items} {f : V → β → Sto → R β} {xs : List V} {σ : Sto} (g : Nat → β) (hit : Gives σ it xs)
    (h : ∀ i x, xs[i]? = some x → f x (g i) σ = .ok (g (i + 1)) σ) : foldItems it f (g 0) σ = .ok (g xs.length) σ := by
  have key : ∀ k i, k + i = xs.length → foldIt it f (k + 1) i (g i) σ = .ok (g xs.length) σ := by
    intro k
    induction k with
    | zero =>
      intro i hi
      obtain rfl : i = xs.length := by omega
      simp [foldIt, hit.next]
    | succ k ih =>
      intro i hi
      have hlt : i < xs.length := by omega
      rw [foldIt, hit.next, List.getElem?_eq_getElem hlt]
      simp only
      rw [h i _ (List.getElem?_eq_getElem hlt)]
      exact ih (i + 1) (by omega)
  have := key xs.length 0 rfl
  rw [foldItems, hit.fuel]
  exact this
theorem R.calm_ok {α : Type} {a : α} {σ : Sto} : (R.ok a σ).calm = .ok a σ := rfl
theorem zBD {F : Calls} {elt : CE} {k : SK} {src : List CE} {cond : Option CE} {ρ vs : List V} {σ σ₁ : Sto} {it : Items} {α : Type} {l : List α} {φ : α → V}
    (p : α → Bool) (g : α → V) (hsrc : evL F false src ρ σ = .ok vs σ₁) (hit : itemsBy σ₁ k vs = some it) (hg : Gives σ₁ it (l.map φ)) (hl : l.length < LIM)
    (hc : ∀ x ∈ l, evC F false cond (ρ ++ [φ x]) σ₁ = .ok (p x) σ₁) (he : ∀ x ∈ l, p x = true → evE F false elt (ρ ++ [φ x]) σ₁ = .ok (g x) σ₁) :
    evE F false (.comp elt k src cond) ρ σ = .ok (.lst ((l.filter p).map g)) σ₁ := by
  show ((evL F false src ρ σ).bind fun vs σ => (R.lift σ (itemsBy σ k vs)).bind fun it σ =>
      (foldItems it (fun x acc σ => (evC F false cond (ρ ++ [x]) σ).calm.bind fun t σ => if t then (evE F false elt (ρ ++ [x]) σ).calmE.bind fun y σ => (if acc.length < LIM then .ok (acc ++ [y]) σ else .stuck) else .ok acc σ) [] σ).bind fun acc σ => R.ok (V.lst acc) σ) = _
  simp only [hsrc, R.bind_ok, hit, R.lift_some]
  have := fold_same (f := fun x acc σ => (evC F false cond (ρ ++ [x]) σ).calm.bind fun t σ => if t then (evE F false elt (ρ ++ [x]) σ).calmE.bind fun y σ => (if acc.length < LIM then .ok (acc ++ [y]) σ else .stuck) else .ok acc σ)
    (fun i => ((l.take i).filter p).map g) hg (fun i x hx => by
      rw [List.getElem?_map] at hx
      cases hi : l[i]? with
      | none => rw [hi] at hx; cases hx
      | some a =>
        rw [hi] at hx
        obtain rfl : φ a = x := by simpa using hx
        have ha : a ∈ l := List.mem_of_getElem? hi
        have hlt : i < l.length := (List.getElem?_eq_some_iff.mp hi).1
        have ht : l.take (i + 1) = l.take i ++ [a] := by rw [List.take_add_one, hi]; rfl
        simp only [hc a ha, R.calm_ok, R.bind_ok, ht, List.filter_append, List.map_append]
        cases hp : p a with
        | false => simp [hp]
        | true =>
          have hle : (((l.take i).filter p).map g).length < LIM := by
            have := List.length_filter_le p (l.take i)
            rw [List.length_map]
            have := List.length_take_le i l
            omega
          simp [he a ha hp, R.calmE, R.calm_ok, hp, List.length_map] at hle ⊢
          exact hle)
  simp only [List.take_zero, List.filter_nil, List.map_nil, List.length_map, List.take_length] at this
  rw [this]
  rfl
theorem for_inv {it : Items} {f : V → List V → Sto → R Fl} {xs : List V} {ρ : List V} {σ : Sto} (I : Nat → List V → Sto → Prop) (hit : ∀ i ρ σ, I i ρ σ → Gives σ it xs) (h0 : I 0 ρ σ)
    (hs : ∀ i x ρ σ, xs[i]? = some x → I i ρ σ → ∃ ρ' σ', f x ρ σ = .ok (.next ρ') σ' ∧ I (i + 1) ρ' σ') :
    ∃ ρ' σ', forItems it f ρ σ = .ok (.next ρ') σ' ∧ I xs.length ρ' σ' := by
  have key : ∀ k i ρ σ, k + i = xs.length → I i ρ σ → ∃ ρ' σ', forIt it f (k + 1) i ρ σ = .ok (.next ρ') σ' ∧ I xs.length ρ' σ' := by
    intro k
    induction k with
    | zero =>
      intro i ρ σ hi h
      obtain rfl : i = xs.length := by omega
      exact ⟨ρ, σ, by simp [forIt, (hit _ _ _ h).next], h⟩
    | succ k ih =>
      intro i ρ σ hi h
      have hlt : i < xs.length := by omega
      obtain ⟨ρ', σ', e, h'⟩ := hs i _ ρ σ (List.getElem?_eq_getElem hlt) h
      obtain ⟨ρ'', σ'', e', h''⟩ := ih (i + 1) ρ' σ' (by omega) h'
      refine ⟨ρ'', σ'', ?_, h''⟩
      rw [forIt, (hit _ _ _ h).next, List.getElem?_eq_getElem hlt]
      simp only [e, R.bind_ok]
      exact e'
  rw [forItems, (hit _ _ _ h0).fuel]
  exact key xs.length 0 ρ σ rfl h0
section
variable (σ : Sto)
@[simp] theorem ev2_add (x y : Int) : ev2 .add σ (.int x) (.int y) = some (.int (x + y)) := rfl
@[simp] theorem ev2_sub (x y : Int) : ev2 .sub σ (.int x) (.int y) = some (.int (x - y)) := rfl
@[simp] theorem ev2_lt (x y : Int) : ev2 .lt σ (.int x) (.int y) = some (.bool (x < y)) := rfl
@[simp] theorem ev2_le (x y : Int) : ev2 .le σ (.int x) (.int y) = some (.bool (x ≤ y)) := rfl
@[simp] theorem ev2_gt (x y : Int) : ev2 .gt σ (.int x) (.int y) = some (.bool (x > y)) := rfl
@[simp] theorem ev2_ge (x y : Int) : ev2 .ge σ (.int x) (.int y) = some (.bool (x ≥ y)) := rfl
@[simp] theorem ev2_min (x y : Int) : ev2 .min σ (.int x) (.int y) = some (.int (if y < x then y else x)) := rfl
@[simp] theorem ev2_max (x y : Int) : ev2 .max σ (.int x) (.int y) = some (.int (if y > x then y else x)) := rfl
theorem ev2_pow (y : Nat) (h : y ≤ 40) : ev2 .pow σ (.int 10) (.int y) = some (.int (10 ^ y)) := by
  show (if ((10 : Int) == 10 && decide (0 ≤ (y : Int)) && decide ((y : Int) ≤ 40)) = true then some (V.int (10 ^ (y : Int).toNat)) else none) = _
  rw [if_pos (by simp; omega), Int.toNat_natCast]
theorem zEh (x y : Int) (h : smallFactor x = true ∨ smallFactor y = true) : ev2 .mul σ (.int x) (.int y) = some (.int (x * y)) := by
  show (if (smallFactor x || smallFactor y) = true then some (V.int (x * y)) else none) = _
  rw [← Bool.or_eq_true] at h; rw [if_pos h]
theorem zBY (x y : Int) (h : (y == 0 || decide (1073741824 ≤ y.natAbs)) = false) : ev2 .fdiv σ (.int x) (.int y) = some (.int (x.fdiv y)) := by
  show (if (y == 0 || decide (1073741824 ≤ y.natAbs)) = true then none else some (V.int (x.fdiv y))) = _
  rw [h]; rfl
theorem zAi (x y : Int) (h : (y == 0) = false) : ev2 .mod σ (.int x) (.int y) = some (.int (x.fmod y)) := by
  show (if (y == 0) = true then none else some (V.int (x.fmod y))) = _
  rw [h]; rfl
@[simp] theorem eqV_int (a b : Int) : eqV σ (.int a) (.int b) = some (a == b) := rfl
@[simp] theorem zHJ (x y : Int) : ev2 .eq σ (.int x) (.int y) = some (.bool (x == y)) := rfl
@[simp] theorem ev2_ne (x y : Int) : ev2 .ne σ (.int x) (.int y) = some (.bool (x != y)) := rfl
@[simp] theorem ev1_neg (x : Int) : ev1 .neg σ (.int x) = some (.int (-x)) := rfl
@[simp] theorem ev1_abs (x : Int) : ev1 .abs σ (.int x) = some (.int x.natAbs) := rfl
@[simp] theorem zAk (xs : List V) : ev1 .len σ (.lst xs) = some (.int xs.length) := rfl
@[simp] theorem ev1_len_tup (xs : List V) : ev1 .len σ (.tup xs) = some (.int xs.length) := rfl
theorem zGg {n : Nat} {xs : List V} (h : σ[n]? = some (.list xs)) : ev1 .len σ (.ref n) = some (.int xs.length) := by
  show (match σ[n]? with | some (.list xs) => some (V.int xs.length) | _ => none) = _
  rw [h]
@[simp] theorem ev1_not_bool (b : Bool) : ev1 .not σ (.bool b) = some (.bool !b) := rfl
@[simp] theorem ev1_toList_lst (xs : List V) : ev1 .toList σ (.lst xs) = some (.lst xs) := rfl
@[simp] theorem ev1_toList_tup (xs : List V) : ev1 .toList σ (.tup xs) = some (.lst xs) := rfl
@[simp] theorem zDM (x : Str) : ev1 .len σ (.str x) = some (.int x.length) := rfl
@[simp] theorem instK_ss (x : Str) : instK σ .str (.str x) = some true := rfl
@[simp] theorem instK_si (i : Int) : instK σ .str (.int i) = some false := rfl
@[simp] theorem strOf_str (x : Str) : strOf? (.str x) = some x := rfl
@[simp] theorem truthy_bool (b : Bool) : truthy σ (.bool b) = some b := rfl
@[simp] theorem truthy_int (b : Int) : truthy σ (.int b) = some (b != 0) := rfl
noncomputable def iv (l : List Int) : List V := l.map V.int
@[simp] theorem zHF (l : List Int) : (iv l).length = l.length := by simp [iv]
noncomputable def gI (l : List Int) (k : Nat) : Int := l.getD k 0
theorem ints_iv (l : List Int) : ints? (iv l) = some l := by
  induction l with
  | nil => rfl
  | cons x l ih =>
    simp only [ints?, iv, List.map_cons, List.mapM_cons] at ih ⊢
    simp [ih, intOf?]
@[simp] theorem ev1_sum_lst (l : List Int) : ev1 .sum σ (.lst (iv l)) = some (.int l.sum) := by
  show (ints? (iv l)).map (fun l => V.int l.sum) = _
  rw [ints_iv]; rfl
theorem zAm {n i : Nat} (h : i < n) : normIndex n (i : Int) = some i := by
  unfold normIndex
  rw [if_pos (Int.natCast_nonneg i), Int.toNat_natCast, if_pos h]
theorem zCB {l : List V} {i : Nat} {v : V} (h : l[i]? = some v) : ev2 .index σ (.lst l) (.int i) = some v := by
  show ((normIndex l.length i).bind fun k => l[k]?) = some v
  rw [zAm (List.getElem?_eq_some_iff.mp h).1]; exact h
theorem zDJ {l : List V} {i : Nat} {v : V} (h : l[i]? = some v) : ev2 .index σ (.tup l) (.int i) = some v := by
  show ((normIndex l.length i).bind fun k => l[k]?) = some v
  rw [zAm (List.getElem?_eq_some_iff.mp h).1]; exact h
theorem iv_get {l : List Int} {i : Nat} (h : i < l.length) : (iv l)[i]? = some (.int (gI l i)) := by simp [iv, gI, h]
theorem index_lst {l : List Int} {i : Nat} (h : i < l.length) : ev2 .index σ (.lst (iv l)) (.int i) = some (.int (gI l i)) := zCB σ (iv_get h)
theorem zBE {n : Int} (h : n.natAbs ≤ LIM) : itemsBy σ .range1 [.int n] = some (.now (rangeL 0 n)) := by
  show (if n.natAbs ≤ LIM then some (Items.now (rangeL 0 n)) else none) = _
  rw [if_pos h]
theorem zDG {n : Nat} {xs : List V} (h : σ[n]? = some (.list xs)) : itemsBy σ .val [.ref n] = some (.live n) := by
  show refItems n σ[n]? = _
  rw [h]; rfl
@[simp] theorem ev1_isInst (k : Kd) (v : V) : ev1 (.isInst k) σ v = (instK σ k v).map .bool := rfl
@[simp] theorem instK_ii (i : Int) : instK σ .int (.int i) = some true := rfl
@[simp] theorem instK_bi (i : Int) : instK σ .bool (.int i) = some false := rfl
@[simp] theorem instK_tt (xs : List V) : instK σ .tuple (.tup xs) = some true := rfl
@[simp] theorem instK_ll (xs : List V) : instK σ .list (.lst xs) = some true := rfl
theorem zGE {n : Nat} {xs : List V} {x : V} (hn : σ[n]? = some (.list xs)) (h : xs.length < LIM) : doAppend σ (.ref n) x = .ok .none (σ.set n (.list (xs ++ [x]))) := by
  show (match σ[n]? with | some (.list xs) => if xs.length < LIM then R.ok V.none (σ.set n (.list (xs ++ [x]))) else .stuck | _ => .stuck) = _
  rw [hn]
  show (if xs.length < LIM then R.ok V.none (σ.set n (.list (xs ++ [x]))) else .stuck) = _
  rw [if_pos h]
@[simp] theorem zBs (a : V) (l : List V) : ev2 .index σ (.tup (a :: l)) (.int 0) = some a := zDJ σ (i := 0) rfl
@[simp] theorem zEa (a b : V) (l : List V) : ev2 .index σ (.tup (a :: b :: l)) (.int 1) = some b := zDJ σ (i := 1) rfl
@[simp] theorem index_t2 (a b c : V) (l : List V) : ev2 .index σ (.tup (a :: b :: c :: l)) (.int 2) = some c := zDJ σ (i := 2) rfl
end
theorem zAD {T : Nat → Option Fn} {d : Nat} {q : Bool} {f : Nat} {fn : Fn} {args : List V} {σ σ' : Sto} {v : V} (hT : T f = some fn) (hl : args.length = fn.params)
    (h : exL (callFn T d q) (callFn T d true) q fn.body (args ++ List.replicate (fn.slots - fn.params) .undef) σ = .ok (.ret v) σ') : callFn T (d + 1) q f args σ = .ok v σ' := by
  rw [callFn, hT]; simp only [hl, if_true, h]; rfl
theorem zHH {F Fq : Calls} {i : Nat} {k : SK} {src : List CE} {body : List CS} {ρ vs : List V} {σ σ₁ : Sto} {it : Items} {xs : List V} (I : Nat → List V → Sto → Prop)
    (hsrc : evL F false src ρ σ = .ok vs σ₁) (hit : itemsBy σ₁ k vs = some it) (hI : ∀ j ρ σ, I j ρ σ → Gives σ it xs) (h0 : I 0 ρ σ₁)
    (hs : ∀ j x ρ σ, xs[j]? = some x → I j ρ σ → ∃ ρ' σ', exL F Fq false body (ρ.set i x) σ = .ok (.next ρ') σ' ∧ I (j + 1) ρ' σ') :
    ∃ ρ' σ', exS F Fq false (.for i k src body) ρ σ = .ok (.next ρ') σ' ∧ I xs.length ρ' σ' := by
  have e : exS F Fq false (.for i k src body) ρ σ = forItems it (fun x ρ σ => (exL F Fq false body (ρ.set i x) σ)) ρ σ₁ := by
    show ((evL F false src ρ σ).bind fun vs σ => (R.lift σ (itemsBy σ k vs)).bind fun it σ => forItems it (fun x ρ σ => (exL F Fq false body (ρ.set i x) σ)) ρ σ) = _
    simp only [hsrc, R.bind_ok, hit, R.lift_some]
  rw [e]
  exact for_inv (it := it) (f := fun x ρ σ => (exL F Fq false body (ρ.set i x) σ)) I hI h0 (fun j x ρ σ hx h => by
    exact hs j x ρ σ hx h)
theorem zAo {α : Type} (l : List α) : l.filter (fun _ => true) = l := by simp
end Mine
end

/-! # Rel -/
section
set_option autoImplicit false
namespace Mine
open PySem
noncomputable abbrev Loc := Addr × Option Addr
noncomputable def Loc.addrs : Loc → List Addr
  | (a, none) => [a]
  | (a, some d) => [a, d]
noncomputable def addrs (f : List Loc) : List Addr := f.flatMap Loc.addrs
theorem zCR (f g : List Loc) : addrs (f ++ g) = addrs f ++ addrs g := by simp [addrs]
theorem zAC {f g : List Loc} {a : Addr} : a ∈ addrs (f ++ g) ↔ a ∈ addrs f ∨ a ∈ addrs g := by rw [zCR, List.mem_append]
structure Stat where
  prog : Program
  w : World
  hb : Heap
  cl : Cls → Value
  book : Addr
  parts : Value
  hasParts : Bool
  fn : Nat → Addr
  kn : List Cls
noncomputable def bmV : List Value := [.type "ValueError", .type "Exception", .type "BaseException", .type "object"]
inductive ExcCl (S : Stat) (c : Cls) : Prop where
  | mk (Ca : Addr) (bm : List Value) (N : Addr) (nm q : Str) (bs : List Value) (hdct : Bool) (sn : List Str) (sub : List Value) (ab : Bool) (col : Option Bool) (dd : Option Addr) (k0 k1 k2 k3 k5 : Option Value) (mN : Str → Option Value)
      (hcl : S.cl c = .ref Ca) (hC : S.hb.get? Ca = some (excClassObj nm q Ca N bs bm hdct sn sub ab col dd k0 k1 k2 k3 k5 "ValueError.__new__")) (hN : S.hb.Ns N mN) (hni : mN "__init__" = none) (OT : OwnTail S.hb bmV bm)
      (hm : ∀ d ∈ S.kn, (Value.ref Ca :: bm).contains (S.cl d) = c.sub d)
      (TC : TailC S.hb (.ref Ca :: bm))
inductive SeqAt (X : List Addr) (f : List Loc) (I : Addr → Array Value → Nat → Prop) (P : List Value → Prop) (k : Nat) (v : Value) : Prop
  | mk (a : Addr) (vs : Array Value) (n : Nat) (e : v = .ref a) (ha : a ∉ addrs f ∧ a ∉ X) (i : I a vs n) (p : P vs.toList) (hl : k ≤ LIM)
mutual
noncomputable def VR (S : Stat) (X : List Addr) (f : List Loc) (h : Heap) : V → Value → Prop
  | .undef, _ => False
  | .none, v => v = .none
  | .bool b, v => v = .bool b
  | .int i, v => ∃ t, v = .int i t
  | .str x, v => (∃ t, v = .str x t) ∧ x.length ≤ LIM ∧ PyData.strOk x = true
  | .tup xs, v => SeqAt X f (IsT h) (VRs S X f h xs) xs.length v
  | .lst xs, v => SeqAt X f (IsL h) (VRs S X f h xs) xs.length v
  | .ref n, v => ∃ l, f[n]? = some l ∧ v = .ref l.1
  | .exc c, v => ∃ a o, v = .ref a ∧ (a ∉ addrs f ∧ a ∉ X) ∧ h.get? a = some o ∧ o.cls = S.cl c ∧ ExcCl S c
  | .parts, v => S.hasParts = true ∧ v = S.parts
noncomputable def VRs (S : Stat) (X : List Addr) (f : List Loc) (h : Heap) : List V → List Value → Prop
  | [], [] => True
  | x :: xs, v :: vs => VR S X f h x v ∧ VRs S X f h xs vs
  | [], _ :: _ => False
  | _ :: _, [] => False
end
theorem zBH {S : Stat} {X : List Addr} {f : List Loc} {h : Heap} : ∀ {xs : List V} {vs : List Value}, VRs S X f h xs vs → xs.length = vs.length
  | [], [], _ => rfl
  | _ :: _, _ :: _, e => by rw [VRs] at e; simp [zBH e.2]
  | [], _ :: _, e => by rw [VRs] at e; exact e.elim
  | _ :: _, [], e => by rw [VRs] at e; exact e.elim
noncomputable def SameObj (o o' : Obj) : Prop := o' = o ∨ ((∃ es n, o.data = .dict es n) ∧ o'.cls = o.cls ∧ o'.dict = o.dict ∧ o'.data = o.data)
theorem SameObj.refl (o : Obj) : SameObj o o := .inl rfl
theorem SameObj.data {o o' : Obj} (x : SameObj o o') : o'.data = o.data := x.elim (fun e => by rw [e]) fun e => e.2.2.2
theorem SameObj.cls {o o' : Obj} (x : SameObj o o') : o'.cls = o.cls := x.elim (fun e => by rw [e]) fun e => e.2.1
theorem SameObj.dict {o o' : Obj} (x : SameObj o o') : o'.dict = o.dict := x.elim (fun e => by rw [e]) fun e => e.2.2.1
theorem SameObj.exact {o o' : Obj} (x : SameObj o o') (h : ∀ es n, o.data ≠ .dict es n) : o' = o := x.elim id fun e => by obtain ⟨⟨es, n, q⟩, _⟩ := e; exact absurd q (h es n)
theorem SameObj.trans {a b c : Obj} (x : SameObj a b) (y : SameObj b c) : SameObj a c := by
  rcases x with rfl | ⟨x1, x2, x3, x4⟩
  · exact y
  · exact .inr ⟨x1, y.cls.trans x2, y.dict.trans x3, y.data.trans x4⟩
structure Kp (f : List Loc) (Y : List Addr) (s s' : Shared) : Prop where
  rest : s' = { s with heap := s'.heap, toks := s'.toks }
  live : ∀ a o, s.heap.get? a = some o → ∃ o', s'.heap.get? a = some o'
  kept : ∀ a o, s.heap.get? a = some o → a ∉ addrs f → a ∉ Y → ∃ o', s'.heap.get? a = some o' ∧ SameObj o o'
  dicts : ∀ a o es n, s.heap.get? a = some o → o.data = .dict es n → a ∉ addrs f → ∃ o' es' n', s'.heap.get? a = some o' ∧ o'.data = .dict es' n'
noncomputable def Fresh (g : List Loc) (s : Shared) : Prop := ∀ a ∈ addrs g, s.heap.get? a = none
theorem Fresh.nil (s : Shared) : Fresh [] s := fun _ h => nomatch h
theorem Kp.refl (f : List Loc) (Y : List Addr) (s : Shared) : Kp f Y s s :=
  ⟨rfl, fun _ o e => ⟨o, e⟩, fun _ o e _ _ => ⟨o, e, .refl o⟩, fun _ o es n e d _ => ⟨o, es, n, e, d⟩⟩
theorem Kp.mono {f : List Loc} {Y Z : List Addr} {s s' : Shared} (k : Kp f Y s s') (h : ∀ a ∈ Y, a ∈ Z) : Kp f Z s s' :=
  ⟨k.rest, k.live, fun a o e h1 h2 => k.kept a o e h1 fun h3 => h2 (h a h3), k.dicts⟩
theorem zAL {g : List Loc} {s : Shared} (hg : Fresh g s) {a : Addr} {o : Obj} (e : s.heap.get? a = some o) : a ∉ addrs g :=
  fun h => by rw [hg a h] at e; cases e
theorem Kp.trans {f g : List Loc} {Y : List Addr} {s s₁ s₂ : Shared} (k : Kp f Y s s₁) (hg : Fresh g s) (k' : Kp (f ++ g) Y s₁ s₂) : Kp f Y s s₂ where
  rest := by rw [k'.rest, k.rest]
  live a o e := let ⟨o₁, e₁⟩ := k.live a o e; k'.live a o₁ e₁
  kept a o e h1 h2 := by
    obtain ⟨o₁, e₁, q₁⟩ := k.kept a o e h1 h2
    obtain ⟨o₂, e₂, q₂⟩ := k'.kept a o₁ e₁ (fun h => (zAC.mp h).elim h1 (zAL hg e)) h2
    exact ⟨o₂, e₂, q₁.trans q₂⟩
  dicts a o es n e d h1 := by
    obtain ⟨o₁, es₁, n₁, e₁, d₁⟩ := k.dicts a o es n e d h1
    exact k'.dicts a o₁ es₁ n₁ e₁ d₁ (fun h => (zAC.mp h).elim h1 (zAL hg e))
theorem zAN {s s₁ : Shared} (hs : ∀ a o, s.heap.get? a = some o → ∃ o', s₁.heap.get? a = some o') {a : Addr} (h : s₁.heap.get? a = none) : s.heap.get? a = none := by
  cases e : s.heap.get? a with
  | none => rfl
  | some o => obtain ⟨o', e'⟩ := hs a o e; rw [h] at e'; cases e'
theorem Fresh.trans {g g' : List Loc} {s s₁ : Shared} (hg : Fresh g s) (hs : ∀ a o, s.heap.get? a = some o → ∃ o', s₁.heap.get? a = some o') (hg' : Fresh g' s₁) : Fresh (g ++ g') s :=
  fun a h => (zAC.mp h).elim (hg a) fun h => zAN hs (hg' a h)
mutual
theorem VR.keep {S : Stat} {X X' : List Addr} {f f' : List Loc} {h h' : Heap}
    (kf : ∀ (i : Nat) (l : Loc), f[i]? = some l → f'[i]? = some l)
    (kh : ∀ a o, h.get? a = some o → a ∉ addrs f → a ∉ X → (a ∉ addrs f' ∧ a ∉ X') ∧ ∃ o', h'.get? a = some o' ∧ SameObj o o') :
    ∀ (x : V) (v : Value), VR S X f h x v → VR S X' f' h' x v
  | .undef, _, e => by rw [VR] at e; exact e.elim
  | .none, _, e => by rw [VR] at e ⊢; exact e
  | .bool _, _, e => by rw [VR] at e ⊢; exact e
  | .int _, _, e => by rw [VR] at e ⊢; exact e
  | .str _, _, e => by rw [VR] at e ⊢; exact e
  | .ref n, _, e => by
    rw [VR] at e ⊢
    obtain ⟨l, e1, e2⟩ := e
    exact ⟨l, kf _ _ e1, e2⟩
  | .exc c, _, e => by
    rw [VR] at e ⊢
    obtain ⟨a, o, e1, e2, e3, e4, e5⟩ := e
    obtain ⟨q1, o', q2, q3⟩ := kh a o e3 e2.1 e2.2
    exact ⟨a, o', e1, q1, q2, q3.cls.trans e4, e5⟩
  | .parts, _, e => by rw [VR] at e ⊢; exact e
  | .tup xs, _, e => by
    rw [VR] at e ⊢
    obtain ⟨a, vs, n, e1, e2, e3, e7, e8⟩ := e
    obtain ⟨q1, o', q2, q3⟩ := kh a _ e3 e2.1 e2.2
    exact ⟨a, vs, n, e1, q1, q2.trans (congrArg some (q3.exact fun _ _ q => by cases q)), VRs.keep kf kh xs vs.toList e7, e8⟩
  | .lst xs, _, e => by
    rw [VR] at e ⊢
    obtain ⟨a, vs, n, e1, e2, e3, e7, e8⟩ := e
    obtain ⟨q1, o', q2, q3⟩ := kh a _ e3 e2.1 e2.2
    exact ⟨a, vs, n, e1, q1, q2.trans (congrArg some (q3.exact fun _ _ q => by cases q)), VRs.keep kf kh xs vs.toList e7, e8⟩
theorem VRs.keep {S : Stat} {X X' : List Addr} {f f' : List Loc} {h h' : Heap}
    (kf : ∀ (i : Nat) (l : Loc), f[i]? = some l → f'[i]? = some l)
    (kh : ∀ a o, h.get? a = some o → a ∉ addrs f → a ∉ X → (a ∉ addrs f' ∧ a ∉ X') ∧ ∃ o', h'.get? a = some o' ∧ SameObj o o') :
    ∀ (xs : List V) (vs : List Value), VRs S X f h xs vs → VRs S X' f' h' xs vs
  | [], [], e => by rw [VRs] at e ⊢; exact e
  | x :: xs, v :: vs, e => by
    rw [VRs] at e ⊢
    exact ⟨VR.keep kf kh x v e.1, VRs.keep kf kh xs vs e.2⟩
  | [], _ :: _, e => by rw [VRs] at e; exact e.elim
  | _ :: _, [], e => by rw [VRs] at e; exact e.elim
end
theorem VR.keepK {S : Stat} {X : List Addr} {f g : List Loc} {Y : List Addr} {s s' : Shared} (k : Kp f Y s s') (hg : Fresh g s) (hY : ∀ a ∈ Y, a ∈ X)
    {x : V} {v : Value} (e : VR S X f s.heap x v) : VR S X (f ++ g) s'.heap x v :=
  VR.keep (fun _ _ e => List.getElem?_append_left (List.getElem?_eq_some_iff.mp e).1 ▸ e)
    (fun a o ho h1 h2 => ⟨⟨fun h => (zAC.mp h).elim h1 (zAL hg ho), h2⟩, k.kept a o ho h1 fun h => h2 (hY a h)⟩) x v e
theorem VRs.keepK {S : Stat} {X : List Addr} {f g : List Loc} {Y : List Addr} {s s' : Shared} (k : Kp f Y s s') (hg : Fresh g s) (hY : ∀ a ∈ Y, a ∈ X)
    {x : List V} {v : List Value} (e : VRs S X f s.heap x v) : VRs S X (f ++ g) s'.heap x v :=
  VRs.keep (fun _ _ e => List.getElem?_append_left (List.getElem?_eq_some_iff.mp e).1 ▸ e)
    (fun a o ho h1 h2 => ⟨⟨fun h => (zAC.mp h).elim h1 (zAL hg ho), h2⟩, k.kept a o ho h1 fun h => h2 (hY a h)⟩) x v e
theorem VR.less {S : Stat} {X X' : List Addr} {f : List Loc} {h : Heap} (hX : ∀ a ∈ X', a ∈ X) {x : V} {v : Value} (e : VR S X f h x v) : VR S X' f h x v :=
  VR.keep (fun _ _ e => e) (fun _ o ho h1 h2 => ⟨⟨h1, fun h => h2 (hX _ h)⟩, o, ho, .refl o⟩) x v e
theorem VRs.less {S : Stat} {X X' : List Addr} {f : List Loc} {h : Heap} (hX : ∀ a ∈ X', a ∈ X) {x : List V} {v : List Value} (e : VRs S X f h x v) : VRs S X' f h x v :=
  VRs.keep (fun _ _ e => e) (fun _ o ho h1 h2 => ⟨⟨h1, fun h => h2 (hX _ h)⟩, o, ho, .refl o⟩) x v e
theorem VR.more {S : Stat} {X X' : List Addr} {f : List Loc} {h : Heap} (hX : ∀ a ∈ X', a ∈ X ∨ h.get? a = none) {x : V} {v : Value} (e : VR S X f h x v) : VR S X' f h x v :=
  VR.keep (fun _ _ e => e) (fun a o ho h1 h2 => ⟨⟨h1, fun h => (hX _ h).elim h2 fun q => by rw [q] at ho; cases ho⟩, o, ho, .refl o⟩) x v e
theorem VRs.more {S : Stat} {X X' : List Addr} {f : List Loc} {h : Heap} (hX : ∀ a ∈ X', a ∈ X ∨ h.get? a = none) {x : List V} {v : List Value} (e : VRs S X f h x v) : VRs S X' f h x v :=
  VRs.keep (fun _ _ e => e) (fun a o ho h1 h2 => ⟨⟨h1, fun h => (hX _ h).elim h2 fun q => by rw [q] at ho; cases ho⟩, o, ho, .refl o⟩) x v e
noncomputable def attrName (k : Nat) : Str := if k = 0 then "entries" else "history"
noncomputable def OR (S : Stat) (X : List Addr) (f : List Loc) (h : Heap) : Loc → O → Prop
  | (a, none), .list xs => ∃ vs n, IsL h a vs n ∧ VRs S X f h xs vs.toList ∧ xs.length ≤ LIM
  | (a, none), .dict es => ∃ kvs, h.DictOf (intKind S.prog S.w) a kvs ∧ kvs.map (·.1) = es.map (·.1) ∧ VRs S X f h (es.map (·.2)) (kvs.map (·.2)) ∧ es.length ≤ LIM
  | (a, some d), .inst as => ∃ ob mA, h.get? a = some ob ∧ (ob.cls = .ref S.book ∧ ob.dict = some d ∧ (∀ c, ob.data ≠ .cls c) ∧ d ≠ a) ∧ h.Ns1 d mA ∧ (∀ k x, as.lookup k = some x → ∃ v, mA (attrName k) = some v ∧ VR S X f h x v) ∧ (∀ x v, mA x = some v → x = attrName 0 ∨ x = attrName 1) ∧ ∀ k, k ∈ as.map (·.1) → k < 2
  | _, _ => False
theorem dictOf_at {prog : Program} {w : World} {h h' : Heap} {a : Addr} {kvs : List (Int × Value)} (e : h'.get? a = h.get? a) (x : h.DictOf (intKind prog w) a kvs) : h'.DictOf (intKind prog w) a kvs := by
  obtain ⟨o, es, ep, ho, r⟩ := x
  exact ⟨o, es, ep, e.trans ho, r⟩
theorem OR.keep {S : Stat} {X X' : List Addr} {f f' : List Loc} {h h' : Heap} (k : ∀ x v, VR S X f h x v → VR S X' f' h' x v) (ks : ∀ x v, VRs S X f h x v → VRs S X' f' h' x v) {l : Loc} {o : O}
    (hl : ∀ a ∈ l.addrs, h'.get? a = h.get? a) (e : OR S X f h l o) : OR S X' f' h' l o := by
  obtain ⟨a, d⟩ := l
  cases d with
  | none =>
    have ha := hl a (List.mem_singleton.mpr rfl)
    cases o with
    | list xs =>
      obtain ⟨vs, n, e1, e5, e6⟩ := e
      exact ⟨vs, n, ha.trans e1, ks _ _ e5, e6⟩
    | dict es =>
      obtain ⟨kvs, e1, e2, e3, e4⟩ := e
      exact ⟨kvs, dictOf_at ha e1, e2, ks _ _ e3, e4⟩
    | inst as => exact e.elim
  | some d =>
    have ha := hl a (List.mem_cons_self)
    have hd := hl d (List.mem_cons_of_mem _ (List.mem_singleton.mpr rfl))
    cases o with
    | list xs => exact e.elim
    | dict es => exact e.elim
    | inst as =>
      obtain ⟨ob, mA, e1, e0, ⟨o, es, ep, e2, r⟩, e3, e4⟩ := e
      exact ⟨ob, mA, ha.trans e1, e0, ⟨o, es, ep, hd.trans e2, r⟩, fun i x q => let ⟨v, q1, q2⟩ := e3 i x q; ⟨v, q1, k _ _ q2⟩, e4⟩
structure Lk (S : Stat) (X : List Addr) (f : List Loc) (σ : Sto) (h : Heap) : Prop where
  base : ∀ b o, S.hb.get? b = some o → h.get? b = some o
  len : f.length = σ.length
  nodup : (addrs f).Nodup
  fresh : ∀ a ∈ addrs f, S.hb.get? a = none
  hid : ∀ a ∈ X, S.hb.get? a = none ∧ a ∉ addrs f ∧ ∃ o, h.get? a = some o
  obj : ∀ (i : Nat) (l : Loc) (o : O), f[i]? = some l → σ[i]? = some o → OR S X f h l o
theorem OR.live {S : Stat} {X : List Addr} {f : List Loc} {h : Heap} {l : Loc} {o : O} (e : OR S X f h l o) : ∀ a ∈ l.addrs, ∃ ob, h.get? a = some ob := by
  obtain ⟨a, d⟩ := l
  intro b hb
  cases d with
  | none =>
    obtain rfl := List.mem_singleton.mp hb
    cases o with
    | list xs => obtain ⟨vs, n, e1, _⟩ := e; exact ⟨_, e1⟩
    | dict es => obtain ⟨kvs, ⟨o, _, _, e1, _⟩, _⟩ := e; exact ⟨o, e1⟩
    | inst as => exact e.elim
  | some d =>
    cases o with
    | list xs => exact e.elim
    | dict es => exact e.elim
    | inst as =>
      obtain ⟨ob, mA, e1, e0, ⟨o, es, ep, e2, r⟩, _⟩ := e
      rcases List.mem_cons.mp hb with rfl | hb
      · exact ⟨_, e1⟩
      · obtain rfl := List.mem_singleton.mp hb; exact ⟨_, e2⟩
theorem mem_addrs {f : List Loc} {a : Addr} (h : a ∈ addrs f) : ∃ (i : Nat) (l : Loc), f[i]? = some l ∧ a ∈ l.addrs := by
  obtain ⟨l, hl, ha⟩ := List.mem_flatMap.mp h
  obtain ⟨i, hi⟩ := List.getElem?_of_mem hl
  exact ⟨i, l, hi, ha⟩
theorem zAf {f : List Loc} {i : Nat} {l : Loc} {a : Addr} (h : f[i]? = some l) (ha : a ∈ l.addrs) : a ∈ addrs f :=
  List.mem_flatMap.mpr ⟨l, List.mem_of_getElem? h, ha⟩
theorem Lk.live {S : Stat} {X : List Addr} {f : List Loc} {σ : Sto} {h : Heap} (L : Lk S X f σ h) {a : Addr} (ha : a ∈ addrs f) : ∃ ob, h.get? a = some ob := by
  obtain ⟨i, l, hi, hl⟩ := mem_addrs ha
  have hlt : i < σ.length := L.len ▸ (List.getElem?_eq_some_iff.mp hi).1
  exact (L.obj i l _ hi (List.getElem?_eq_getElem hlt)).live a hl
inductive ExcR (S : Stat) (X : List Addr) (f : List Loc) (σ : Sto) (h h₀ : Heap) (ea : Addr) (k : Cls) : Prop where
  | mk (e1 : h₀.get? ea = none) (ec : ExcCl S k) (hs : List Addr) (oe : Obj) (vs : Array Value) (L : Lk S (hs ++ X) f σ h) (e4 : h.get? ea = some oe) (e5 : oe.cls = S.cl k) (e6 : oe.data = .fields vs) (e8 : (hs = [ea] ∧ vs[1]? = some .none) ∨
      ∃ T oT ts, hs = [ea, T] ∧ h₀.get? T = none ∧ T ≠ ea ∧ vs[1]? = some (.ref T) ∧ h.get? T = some oT ∧ oT.data = .fields ts ∧ 3 < ts.size)
theorem ExcR.back {S : Stat} {X : List Addr} {f : List Loc} {σ : Sto} {h h₀ h₁ : Heap} {ea : Addr} {k : Cls} (e : ExcR S X f σ h h₁ ea k) (hl : ∀ a, h₁.get? a = none → h₀.get? a = none) : ExcR S X f σ h h₀ ea k := by
  obtain ⟨e1, ec, hs, oe, vs, L, e4, e5, e6, e8⟩ := e
  refine ⟨hl _ e1, ec, hs, oe, vs, L, e4, e5, e6, e8.imp id ?_⟩
  rintro ⟨T, oT, ts, t0, t1, t2⟩
  exact ⟨T, oT, ts, t0, hl _ t1, t2⟩
section
variable {α β γ δ : Type}
inductive QS (S : Stat) (X Y : List Addr) (f : List Loc) (P : α → β → List Loc → Shared → Prop) (s : Shared) (r : R β) (a : α) (s' : Shared) : Prop where
  | mk (b : β) (σ' : Sto) (g : List Loc) (e : r = .ok b σ') (hg : Fresh g s) (k : Kp f Y s s') (L : Lk S X (f ++ g) σ' s'.heap) (p : P a b (f ++ g) s')
inductive ES (S : Stat) (X Y : List Addr) (f : List Loc) (tr : Bool) (s : Shared) (r : R β) (e : Value) (s' : Shared) : Prop where
  | mk (k : Cls) (σ' : Sto) (g : List Loc) (ea : Addr) (e1 : e = .ref ea) (e2 : r = .exc k σ') (hg : Fresh g s) (kp : Kp f Y s s') (L : Lk S X (f ++ g) σ' s'.heap) (x : ExcR S X (f ++ g) σ' s'.heap s.heap ea k)
noncomputable def Sim (S : Stat) (A : Around) (X Y : List Addr) (f : List Loc) (P : α → β → List Loc → Shared → Prop) (t : Sem α) (r : R β) (s : Shared) : Prop :=
  r ≠ .stuck → wpAny (model S.prog S.w) A t (QS S X Y f P s r) (ES S X Y f false s r) s
variable {S : Stat} {A : Around} {X Y : List Addr} {f : List Loc} {P : α → β → List Loc → Shared → Prop} {P' : γ → δ → List Loc → Shared → Prop}
theorem QS.lift {s s₁ : Shared} {b : β} {σ' : Sto} {g : List Loc} {rk : β → Sto → R δ} {a : γ} {s' : Shared} (hg : Fresh g s) (k : Kp f Y s s₁)
    (q : QS S X Y (f ++ g) P' s₁ (rk b σ') a s') : QS S X Y f P' s ((R.ok b σ').bind rk) a s' := by
  obtain ⟨b', σ'', g', e, hg', k', L, p⟩ := q
  rw [List.append_assoc] at L p
  exact ⟨b', σ'', g ++ g', e, hg.trans k.live hg', k.trans hg k', L, p⟩
theorem ES.lift {s s₁ : Shared} {b : β} {σ' : Sto} {g : List Loc} {tr : Bool} {rk : β → Sto → R δ} {e : Value} {s' : Shared} (hg : Fresh g s) (k : Kp f Y s s₁)
    (q : ES S X Y (f ++ g) tr s₁ (rk b σ') e s') : ES S X Y f tr s ((R.ok b σ').bind rk) e s' := by
  obtain ⟨c, σ'', g', ea, e1, e2, hg', k', L, x⟩ := q
  rw [List.append_assoc] at L x
  exact ⟨c, σ'', g ++ g', ea, e1, e2, hg.trans k.live hg', k.trans hg k', L, x.back fun a h => zAN k.live h⟩
theorem Sim.seq {t : Sem α} {r : R β} {rk : β → Sto → R δ} {s : Shared} {W : α → Shared → Prop} (h : Sim S A X Y f P t r s) (hne : r.bind rk ≠ .stuck)
    (hk : ∀ a b σ' g s', rk b σ' ≠ .stuck → Fresh g s → Kp f Y s s' → Lk S X (f ++ g) σ' s'.heap → P a b (f ++ g) s' → (∀ c s'', QS S X Y (f ++ g) P' s' (rk b σ') c s'' → QS S X Y f P' s (r.bind rk) c s'') →
      (∀ e s'', ES S X Y (f ++ g) false s' (rk b σ') e s'' → ES S X Y f false s (r.bind rk) e s'') → W a s') :
    wpAny (model S.prog S.w) A t W (ES S X Y f false s (r.bind rk)) s := by
  have hr : r ≠ .stuck := fun e => hne (by rw [e]; rfl)
  refine wpAny_mono (h hr) (fun a s' q => ?_) fun e s' q => ?_
  · obtain ⟨b, σ', g, rfl, hg, k, L, p⟩ := q
    exact hk a b σ' g s' hne hg k L p (fun c s'' q => q.lift hg k) (fun e s'' q => q.lift hg k)
  · obtain ⟨c, σ', g, ea, e1, rfl, hg, k, L, x⟩ := q
    exact ⟨c, σ', g, ea, e1, rfl, hg, k, L, x⟩
theorem Sim.bind {t : Sem α} {m : α → Sem γ} {r : R β} {rk : β → Sto → R δ} {s : Shared} (h : Sim S A X Y f P t r s)
    (hk : ∀ a b σ' g s', Fresh g s → Kp f Y s s' → Lk S X (f ++ g) σ' s'.heap → P a b (f ++ g) s' → Sim S A X Y (f ++ g) P' (m a) (rk b σ') s') :
    Sim S A X Y f P' (t >>= m) (r.bind rk) s := fun hne =>
  wpAny_bind (Sim.seq (P' := P') h hne fun a b σ' g s' hn hg k L p l1 l2 => wpAny_mono (hk a b σ' g s' hg k L p hn) l1 l2)
theorem Sim.stuck {t : Sem α} {s : Shared} : Sim S A X Y f P t (.stuck : R β) s := fun h => (h rfl).elim
theorem QS.here {s : Shared} {σ : Sto} {a : α} {b : β} (L : Lk S X f σ s.heap) (p : P a b f s) : QS S X Y f P s (.ok b σ) a s :=
  ⟨b, σ, [], rfl, .nil s, .refl f Y s, by rwa [List.append_nil], by rwa [List.append_nil]⟩
end
end Mine
end

/-! # Ops -/
section
set_option autoImplicit false
namespace Mine
open PySem PyProof.Rows
structure Ext (s s' : Shared) : Prop where
  rest : s' = { s with heap := s'.heap, toks := s'.toks }
  keep : ∀ b o, s.heap.get? b = some o → s'.heap.get? b = some o
theorem Ext.refl (s : Shared) : Ext s s := ⟨rfl, fun _ _ e => e⟩
theorem Ext.toks (s : Shared) (t : Nat) : Ext s { s with toks := t } := ⟨rfl, fun _ _ e => e⟩
theorem Ext.heap {s : Shared} {h : Heap} {t : Nat} (k : ∀ b o, s.heap.get? b = some o → h.get? b = some o) : Ext s { s with heap := h, toks := t } := ⟨rfl, k⟩
theorem Ext.push (s : Shared) (o : Obj) : Ext s { s with heap := s.heap.push o } := ⟨rfl, fun _ _ e => Heap.get?_push_of_some _ e⟩
theorem Ext.trans {a b c : Shared} (x : Ext a b) (y : Ext b c) : Ext a c := ⟨by rw [y.rest, x.rest], fun d o e => y.keep d o (x.keep d o e)⟩
theorem Ext.kp {s s' : Shared} (e : Ext s s') (f : List Loc) (Y : List Addr) : Kp f Y s s' :=
  ⟨e.rest, fun a o h => ⟨o, e.keep a o h⟩, fun a o h _ _ => ⟨o, e.keep a o h, .refl o⟩, fun a o es n h d _ => ⟨o, es, n, e.keep a o h, d⟩⟩
section
variable {S : Stat} {X Y : List Addr} {f : List Loc} {σ : Sto} {s s' : Shared}
theorem Ext.vr (e : Ext s s') {x : V} {v : Value} (h : VR S X f s.heap x v) : VR S X f s'.heap x v :=
  VR.keep (fun _ _ e => e) (fun a o h h1 h2 => ⟨⟨h1, h2⟩, o, e.keep a o h, .refl o⟩) x v h
theorem Ext.vrs (e : Ext s s') {x : List V} {v : List Value} (h : VRs S X f s.heap x v) : VRs S X f s'.heap x v :=
  VRs.keep (fun _ _ e => e) (fun a o h h1 h2 => ⟨⟨h1, h2⟩, o, e.keep a o h, .refl o⟩) x v h
theorem Ext.lk (e : Ext s s') (L : Lk S X f σ s.heap) : Lk S X f σ s'.heap where
  base b o h := e.keep b o (L.base b o h)
  len := L.len
  nodup := L.nodup
  fresh := L.fresh
  hid a ha := ⟨(L.hid a ha).1, (L.hid a ha).2.1, let ⟨o, q⟩ := (L.hid a ha).2.2; ⟨o, e.keep a o q⟩⟩
  obj i l o hi ho := (L.obj i l o hi ho).keep (fun _ _ => e.vr) (fun _ _ => e.vrs) fun a ha => by
    obtain ⟨ob, h⟩ := L.live (zAf hi ha)
    rw [h]; exact e.keep a ob h
noncomputable def PV (S : Stat) (X : List Addr) (v : Value) (x : V) (f : List Loc) (s : Shared) : Prop := VR S X f s.heap x v
theorem QS.leaf {x : V} {v : Value} (L : Lk S X f σ s.heap) (e : Ext s s') (h : VR S X f s'.heap x v) : QS S X Y f (PV S X) s (.ok x σ) v s' :=
  ⟨x, σ, [], rfl, .nil s, e.kp f Y, by rw [List.append_nil]; exact e.lk L, by rw [List.append_nil]; exact h⟩
theorem Lk.new (L : Lk S X f σ s.heap) {a : Addr} (h : s.heap.get? a = none) : a ∉ addrs f ∧ a ∉ X :=
  ⟨fun q => (by obtain ⟨o, e⟩ := L.live q; rw [h] at e; cases e), fun q => (by obtain ⟨o, e⟩ := (L.hid a q).2.2; rw [h] at e; cases e)⟩
theorem zAe (h : Heap) : h.get? h.objs.size = none := Heap.get?_none_of_le (Nat.le_refl _)
inductive NewL (S : Stat) (X : List Addr) (f : List Loc) (s s' : Shared) (xs : List V) (v : Value) : Prop
  | mk (a : Addr) (vs : Array Value) (n : Nat) (e : v = .ref a) (hn : s.heap.get? a = none) (i : IsL s'.heap a vs n) (p : VRs S X f s.heap xs vs.toList) (hl : xs.length ≤ LIM)
theorem NewL.vr {xs : List V} {v : Value} (L : Lk S X f σ s.heap) (e : Ext s s') (h : NewL S X f s s' xs v) : VR S X f s'.heap (.lst xs) v := by
  obtain ⟨a, vs, n, e1, e2, e3, e4, e5⟩ := h
  rw [VR]; exact ⟨a, vs, n, e1, L.new e2, e3, e.vrs e4, e5⟩
end
section
variable {S : Stat} {X : List Addr} {f : List Loc} {σ : Sto} {h : Heap}
inductive ListAt (S : Stat) (X : List Addr) (f : List Loc) (h : Heap) (xs : List V) (v : Value) : Prop
  | mk (a : Addr) (vs : Array Value) (n : Nat) (e : v = .ref a) (i : IsL h a vs n) (p : VRs S X f h xs vs.toList) (hl : xs.length ≤ LIM)
theorem zAU (L : Lk S X f σ h) {x : V} {v : Value} {xs : List V} (e : listOf? σ x = some xs) (r : VR S X f h x v) : ListAt S X f h xs v := by
  cases x with
  | lst ys =>
    cases e
    rw [VR] at r
    obtain ⟨a, vs, n, e1, _, e3, e4, e5⟩ := r
    exact ⟨a, vs, n, e1, e3, e4, e5⟩
  | ref k =>
    rw [VR] at r
    obtain ⟨l, hl, rfl⟩ := r
    cases ho : σ[k]? with
    | none => simp only [listOf?, ho, listR] at e; cases e
    | some o =>
      simp only [listOf?, ho] at e
      cases o <;> cases e
      have := L.obj k l _ hl ho
      obtain ⟨a, d⟩ := l
      cases d with
      | none => obtain ⟨vs, n, e1, e2, e3⟩ := this; exact ⟨a, vs, n, rfl, e1, e2, e3⟩
      | some d => exact this.elim
  | _ => first | exact zAA e | exact ff_tt e | cases e
inductive ItemsAt (S : Stat) (X : List Addr) (f : List Loc) (h : Heap) (xs : List V) (v : Value) : Prop
  | mk (a : Addr) (vs : Array Value) (n : Nat) (e : v = .ref a) (i : IsL h a vs n ∨ IsT h a vs n) (p : VRs S X f h xs vs.toList) (hl : xs.length ≤ LIM)
theorem zBr (L : Lk S X f σ h) {x : V} {v : Value} {xs : List V} (e : itemsOf σ x = some xs) (r : VR S X f h x v) :
    ItemsAt S X f h xs v := by
  cases x with
  | tup ys =>
    cases e
    rw [VR] at r
    obtain ⟨a, vs, n, e1, _, e3, e4, e5⟩ := r
    exact ⟨a, vs, n, e1, .inr e3, e4, e5⟩
  | lst ys =>
    obtain ⟨a, vs, n, e1, e2, e3, e4⟩ := zAU L (x := .lst ys) (xs := xs) e r
    exact ⟨a, vs, n, e1, .inl e2, e3, e4⟩
  | ref k =>
    obtain ⟨a, vs, n, e1, e2, e3, e4⟩ := zAU L (x := .ref k) (xs := xs) e r
    exact ⟨a, vs, n, e1, .inl e2, e3, e4⟩
  | _ => first | exact zAA e | exact ff_tt e | cases e
theorem zCK : ∀ {xs : List V} {vs : List Value}, VRs S X f h xs vs → ∀ {i : Nat} {x : V}, xs[i]? = some x → ∃ v, vs[i]? = some v ∧ VR S X f h x v
  | x :: xs, v :: vs, r, 0, y, e => by rw [VRs] at r; simp at e; subst e; exact ⟨v, by simp, r.1⟩
  | x :: xs, v :: vs, r, i + 1, y, e => by rw [VRs] at r; simp at e; obtain ⟨w, h1, h2⟩ := zCK r.2 e; exact ⟨w, by simpa using h1, h2⟩
  | [], _, _, _, _, e => by simp at e
  | _ :: _, [], r, _, _, _ => by rw [VRs] at r; exact r.elim
theorem zBI : ∀ {xs ys : List V} {vs ws : List Value}, VRs S X f h xs vs → VRs S X f h ys ws → VRs S X f h (xs ++ ys) (vs ++ ws)
  | [], _, [], _, _, b => b
  | x :: xs, ys, v :: vs, ws, a, b => by rw [VRs] at a; show VRs S X f h (x :: (xs ++ ys)) (v :: (vs ++ ws)); rw [VRs]; exact ⟨a.1, zBI a.2 b⟩
  | [], _, _ :: _, _, a, _ => by rw [VRs] at a; exact a.elim
  | _ :: _, _, [], _, a, _ => by rw [VRs] at a; exact a.elim
theorem zEl : ∀ {xs : List V} {vs : List Value}, VRs S X f h xs vs → ∀ n, VRs S X f h (xs.take n) (vs.take n)
  | [], [], _, n => by simp [VRs]
  | x :: xs, v :: vs, r, 0 => by simp [VRs]
  | x :: xs, v :: vs, r, n + 1 => by rw [VRs] at r; simp only [List.take_succ_cons]; rw [VRs]; exact ⟨r.1, zEl r.2 n⟩
  | [], _ :: _, a, _ => by rw [VRs] at a; exact a.elim
  | _ :: _, [], a, _ => by rw [VRs] at a; exact a.elim
theorem zEm : ∀ {xs : List V} {vs : List Value}, VRs S X f h xs vs → ∀ n, VRs S X f h (xs.drop n) (vs.drop n)
  | [], [], _, n => by simp [VRs]
  | x :: xs, v :: vs, r, 0 => by simpa using r
  | x :: xs, v :: vs, r, n + 1 => by rw [VRs] at r; simp only [List.drop_succ_cons]; exact zEm r.2 n
  | [], _ :: _, a, _ => by rw [VRs] at a; exact a.elim
  | _ :: _, [], a, _ => by rw [VRs] at a; exact a.elim
theorem ints_at : ∀ {xs : List V} {vs : List Value} {l : List Int}, ints? xs = some l → VRs S X f h xs vs → ∃ ys : List (Int × Tok), vs = ys.map (fun p => .int p.1 p.2) ∧ ys.map (·.1) = l
  | [], [], l, e, _ => by simp [ints?] at e; subst e; exact ⟨[], rfl, rfl⟩
  | x :: xs, v :: vs, l, e, r => by
    rw [VRs] at r
    simp only [ints?, List.mapM_cons] at e
    cases x with
    | int i =>
      obtain ⟨t, rfl⟩ := (by simpa [VR] using r.1 : ∃ t, v = .int i t)
      simp only [intOf?] at e
      cases hl : xs.mapM intOf? with
      | none => first | (rw [hl] at e; exact zAA e) | simp [hl] at e
      | some l' =>
        simp [hl] at e
        obtain ⟨ys, e1, e2⟩ := ints_at (l := l') hl r.2
        subst e
        exact ⟨(i, t) :: ys, by simp [e1], by simp [e2]⟩
    | _ => simp [intOf?] at e
  | [], _ :: _, _, _, a => by rw [VRs] at a; exact a.elim
  | _ :: _, [], _, _, a => by rw [VRs] at a; exact a.elim
theorem zHV : ∀ {xs : List V} {vs : List Value} {l : List Bool}, bools? xs = some l → VRs S X f h xs vs → vs = l.map .bool
  | [], [], l, e, _ => by simp [bools?] at e; subst e; rfl
  | x :: xs, v :: vs, l, e, r => by
    rw [VRs] at r
    simp only [bools?, List.mapM_cons] at e
    cases x with
    | bool i =>
      obtain rfl := (by simpa [VR] using r.1 : v = .bool i)
      simp only [boolOf?] at e
      cases hl : xs.mapM boolOf? with
      | none => first | (rw [hl] at e; exact zAA e) | simp [hl] at e
      | some l' =>
        simp [hl] at e
        subst e
        rw [List.map_cons, zHV (l := l') hl r.2]
    | _ => simp [boolOf?] at e
  | [], _ :: _, _, _, a => by rw [VRs] at a; exact a.elim
  | _ :: _, [], _, _, a => by rw [VRs] at a; exact a.elim
theorem strs_at : ∀ {xs : List V} {vs : List Value} {l : List Str}, strs? xs = some l → VRs S X f h xs vs → ∃ ys : List (Str × Tok), vs = ys.map (fun p => .str p.1 p.2) ∧ ys.map (·.1) = l ∧ ∀ x ∈ l, x.length ≤ LIM ∧ PyData.strOk x = true
  | [], [], l, e, _ => by simp [strs?] at e; subst e; exact ⟨[], rfl, rfl, fun _ h => nomatch h⟩
  | x :: xs, v :: vs, l, e, r => by
    rw [VRs] at r
    simp only [strs?, List.mapM_cons] at e
    cases x with
    | str i =>
      obtain ⟨⟨t, rfl⟩, q⟩ := (by simpa [VR] using r.1 : (∃ t, v = .str i t) ∧ i.length ≤ LIM ∧ PyData.strOk i = true)
      simp only [strOf?] at e
      cases hl : xs.mapM strOf? with
      | none => first | (rw [hl] at e; exact zAA e) | simp [hl] at e
      | some l' =>
        simp [hl] at e
        obtain ⟨ys, e1, e2, e3⟩ := strs_at (l := l') hl r.2
        subst e
        exact ⟨(i, t) :: ys, by simp [e1], by simp [e2], fun x hx => (List.mem_cons.mp hx).elim (fun e => e ▸ q) (e3 x)⟩
    | _ => simp [strOf?] at e
  | [], _ :: _, _, _, a => by rw [VRs] at a; exact a.elim
  | _ :: _, [], _, _, a => by rw [VRs] at a; exact a.elim
end
end Mine
end

/-! # Ops2 -/
section
set_option autoImplicit false
namespace Mine
open PySem PyProof.Rows
theorem zAV : LIM ≤ sizeLine := by decide
theorem zAs {n : Nat} (h : n ≤ LIM) : (n : Int) < 2 ^ 63 := by have : LIM = 1048576 := rfl; omega
theorem app_arr (vs ws : Array Value) : (vs.toList ++ ws.toList).toArray = vs ++ ws := by apply Array.toList_inj.mp; simp
theorem zDo {a : Int} (h : smallFactor a = true) : Builtin.Int.intBits a ≤ 64 := by
  have h' : a.natAbs < 2 ^ 64 := of_decide_eq_true h
  unfold Builtin.Int.intBits
  split
  · omega
  · rename_i hz
    have hne : a.natAbs ≠ 0 := by intro e; apply hz; simp; omega
    have := (Nat.log2_lt hne).mpr h'
    omega
section
variable {S : Stat} {A : Around} {X : List Addr} {f : List Loc} {σ : Sto} {s : Shared} {E : Value → Shared → Prop}
noncomputable def PE (S : Stat) (X : List Addr) (f : List Loc) (s : Shared) (x : V) (v : Value) (s' : Shared) : Prop := Ext s s' ∧ VR S X f s'.heap x v ∧ ∀ xs, x = .lst xs → NewL S X f s s' xs v
theorem PE.int {i : Int} {t tk : Nat} : PE S X f s (.int i) (.int i t) { s with toks := tk } := ⟨.toks s tk, by rw [VR]; exact ⟨t, rfl⟩, fun _ e => by cases e⟩
theorem PE.bool {b : Bool} {tk : Nat} : PE S X f s (.bool b) (.bool b) { s with toks := tk } := ⟨.toks s tk, by rw [VR], fun _ e => by cases e⟩
theorem PE.bool0 {b : Bool} : PE S X f s (.bool b) (.bool b) s := ⟨.refl s, by rw [VR], fun _ e => by cases e⟩
theorem PE.str {x : Str} {t tk : Nat} (h1 : x.length ≤ LIM) (h2 : PyData.strOk x = true) : PE S X f s (.str x) (.str x t) { s with toks := tk } := ⟨.toks s tk, by rw [VR]; exact ⟨⟨t, rfl⟩, h1, h2⟩, fun _ e => by cases e⟩
theorem PE.intH {i : Int} {t : Tok} {h' : Heap} {tk : Nat} (k : ∀ b o, s.heap.get? b = some o → h'.get? b = some o) : PE S X f s (.int i) (.int i t) { s with heap := h', toks := tk } := ⟨.heap k, by rw [VR]; exact ⟨t, rfl⟩, fun _ e => by cases e⟩
theorem PE.boolH {i : Bool} {h' : Heap} {tk : Nat} (k : ∀ b o, s.heap.get? b = some o → h'.get? b = some o) : PE S X f s (.bool i) (.bool i) { s with heap := h', toks := tk } := ⟨.heap k, by rw [VR], fun _ e => by cases e⟩
theorem zAW {i : Int} {v : Value} {h : Heap} (r : VR S X f h (.int i) v) : ∃ t, v = .int i t := by rwa [VR] at r
theorem zAt {i : Bool} {v : Value} {h : Heap} (r : VR S X f h (.bool i) v) : v = .bool i := by rwa [VR] at r
theorem zAR {i : Str} {v : Value} {h : Heap} (r : VR S X f h (.str i) v) : (∃ t, v = .str i t) ∧ i.length ≤ LIM ∧ PyData.strOk i = true := by rwa [VR] at r
theorem zCv {v : Value} {h : Heap} (r : VR S X f h .none v) : v = .none := by rwa [VR] at r
theorem zBb {xs : List V} {v : Value} {h : Heap} (r : VR S X f h (.tup xs) v) : SeqAt X f (IsT h) (VRs S X f h xs) xs.length v := by rwa [VR] at r
theorem zBO {x y : Str} (hx : PyData.strOk x = true) (hy : PyData.strOk y = true) : PyData.strOk (x ++ y) = true := by
  show (x.cps ++ y.cps).all _ = true
  rw [Array.all_append]
  exact Bool.and_eq_true_iff.mpr ⟨hx, hy⟩
theorem length_append (x y : Str) : (x ++ y).length = x.length + y.length := by show (x.cps ++ y.cps).size = _; simp [Str.length]
theorem zAK {xs : List V} {vs : Array Value} {h : Heap} (r : VRs S X f h xs vs.toList) : vs.size = xs.length := by
  have := zBH r; simpa using this.symm
theorem zBG {vs : List Value} {xs : List V} {tk : Nat} (L : Lk S X f σ s.heap) (r : VRs S X f s.heap xs vs) (hl : xs.length ≤ LIM) :
    PE S X f s (.lst xs) (.ref s.heap.objs.size) { s with heap := s.heap.push { cls := .type "list", data := .seq vs.toArray }, toks := tk } := by
  have e : Ext s { s with heap := s.heap.push { cls := .type "list", data := .seq vs.toArray }, toks := tk } := .heap fun b o h => Heap.get?_push_of_some _ h
  have nl : NewL S X f s { s with heap := s.heap.push { cls := .type "list", data := .seq vs.toArray }, toks := tk } xs (.ref s.heap.objs.size) :=
    ⟨_, vs.toArray, 0, rfl, zAe _, Heap.get?_push_size _ rfl, by simpa using r, hl⟩
  exact ⟨e, nl.vr L e, fun ys q => by cases q; exact nl⟩
theorem zBP {vs : List Value} {xs : List V} {tk : Nat} (L : Lk S X f σ s.heap) (r : VRs S X f s.heap xs vs) (hl : xs.length ≤ LIM) :
    PE S X f s (.tup xs) (.ref s.heap.objs.size) { s with heap := s.heap.push { cls := .type "tuple", data := .seq vs.toArray }, toks := tk } := by
  have e : Ext s { s with heap := s.heap.push { cls := .type "tuple", data := .seq vs.toArray }, toks := tk } := .heap fun b o h => Heap.get?_push_of_some _ h
  refine ⟨e, ?_, fun ys q => by cases q⟩
  rw [VR]
  exact ⟨_, vs.toArray, 0, rfl, L.new (zAe _), Heap.get?_push_size _ rfl, by simpa using e.vrs r, hl⟩
theorem bin_int {op : Operator} {o : P2} (ho : binOf op = some o) {i j : Int} {x : V} {t u : Tok} (e : ev2 o σ (.int i) (.int j) = some x) :
    wpAny (model S.prog S.w) A (binaryOp op (.int i t) (.int j u)) (PE S X f s x) E s := by
  cases op <;> cases ho
  · cases e; exact PyProof.Rows.add_int .int
  · cases e; exact PyProof.Rows.sub_int .int
  · delta ev2 at e; dsimp only at e
    split at e
    · rename_i h
      cases e
      exact PyProof.Rows.mul_int .int ((Bool.or_eq_true_iff.mp h).elim (fun h => .of_left (zDo h)) fun h => .of_right (zDo h))
    · first | exact zAA e | exact ff_tt e | cases e
  · delta ev2 at e; dsimp only at e
    split at e
    · first | exact zAA e | exact ff_tt e | cases e
    · rename_i h
      cases e
      exact PyProof.Rows.mod_int (by simpa using h) .int
  · delta ev2 at e; dsimp only at e
    split at e
    · rename_i h
      cases e
      simp only [Bool.and_eq_true, beq_iff_eq, decide_eq_true_eq] at h
      obtain ⟨⟨rfl, h1⟩, h2⟩ := h
      exact pow_int_small h1 (by omega) (by decide) .int
    · first | exact zAA e | exact ff_tt e | cases e
  · delta ev2 at e; dsimp only at e
    split at e
    · first | exact zAA e | exact ff_tt e | cases e
    · rename_i h
      cases e
      simp only [Bool.or_eq_true, beq_iff_eq, decide_eq_true_eq, not_or, Nat.not_le] at h
      exact floordiv_int h.1 .int (.inl (PyProof.noPylong_small h.2))
theorem add_sound {a b x : V} {va vb : Value} (L : Lk S X f σ s.heap) (e : ev2 .add σ a b = some x) (ra : VR S X f s.heap a va) (rb : VR S X f s.heap b vb) :
    wpAny (model S.prog S.w) A (binaryOp .Add va vb) (PE S X f s x) E s := by
  have lists : ∀ {xs ys : List V}, listOf? σ a = some xs → listOf? σ b = some ys → xs.length + ys.length ≤ LIM → wpAny (model S.prog S.w) A (binaryOp .Add va vb) (PE S X f s (.lst (xs ++ ys))) E s := by
    intro xs ys h1 h2 h3
    obtain ⟨p, vs, n, rfl, il, r1, l1⟩ := zAU L h1 ra
    obtain ⟨q, ws, m, rfl, il', r2, l2⟩ := zAU L h2 rb
    have z1 := zAK r1
    have z2 := zAK r2
    refine P.add_list il il' ?_ (by rw [z1, z2]; exact Nat.le_trans h3 zAV)
    have := zBG (tk := s.toks) L (zBI r1 r2) (by simpa using h3)
    rwa [app_arr] at this
  have gen : ((listOf? σ a).bind fun xs => (listOf? σ b).bind fun ys => if xs.length + ys.length ≤ LIM then some (V.lst (xs ++ ys)) else none) = some x → wpAny (model S.prog S.w) A (binaryOp .Add va vb) (PE S X f s x) E s := by
    intro e
    cases h1 : listOf? σ a with
    | none => first | (rw [h1] at e; exact zAA e) | simp [h1] at e
    | some xs =>
      cases h2 : listOf? σ b with
      | none => first | (rw [h1, h2] at e; exact zAA e) | (rw [h1, Option.bind_some, h2] at e; exact zAA e) | simp [h1, h2] at e
      | some ys =>
        simp only [h1, h2, Option.bind_some] at e
        split at e
        · rename_i h3; cases e; exact lists h1 h2 h3
        · first | exact zAA e | exact ff_tt e | cases e
  cases a with
  | int i =>
    cases b with
    | int j =>
      obtain ⟨t, rfl⟩ := zAW ra
      obtain ⟨u, rfl⟩ := zAW rb
      exact bin_int rfl e
    | _ => first | exact zAA e | exact ff_tt e | cases e
  | str i =>
    cases b with
    | str j =>
      obtain ⟨⟨t, rfl⟩, a1, a2⟩ := zAR ra
      obtain ⟨⟨u, rfl⟩, b1, b2⟩ := zAR rb
      delta ev2 at e; dsimp only at e
      split at e
      · rename_i h
        cases e
        refine PyProof.Rows.add_str (fun t' tk => .str ?_ (zBO a2 b2)) (Nat.le_trans h (by decide))
        rw [length_append]; exact Nat.le_trans h (by decide)
      · first | exact zAA e | exact ff_tt e | cases e
    | _ => first | exact zAA e | exact ff_tt e | cases e
  | tup xs =>
    cases b with
    | tup ys =>
      obtain ⟨p, vs, n, rfl, q1, il, r1, l1⟩ := zBb ra
      obtain ⟨q, ws, m, rfl, q2, il', r2, l2⟩ := zBb rb
      delta ev2 at e; dsimp only at e
      split at e
      · rename_i h3
        cases e
        have z1 := zAK r1
        have z2 := zAK r2
        by_cases hv : vs = #[]
        · subst hv
          have : xs = [] := List.length_eq_zero_iff.mp (by simpa using z1.symm)
          subst this
          refine concat_meets ⟨_, il, rfl⟩ ⟨_, il', rfl⟩ noFill_tuple_add seq_tuple_add PySem.F.slot_tuple_add PySem.F.entry_tuple_add (PySem.F.args_tuple_add_2 _ _) (tuple_addW0 p q #[] ws n m none none #[] #[] (by simp)) ⟨il, il', ?_⟩
          exact ⟨.refl s, rb, fun _ q => by cases q⟩
        · by_cases hw : ws = #[]
          · subst hw
            have : ys = [] := List.length_eq_zero_iff.mp (by simpa using z2.symm)
            subst this
            refine concat_meets ⟨_, il, rfl⟩ ⟨_, il', rfl⟩ noFill_tuple_add seq_tuple_add PySem.F.slot_tuple_add PySem.F.entry_tuple_add (PySem.F.args_tuple_add_2 _ _) (tuple_addW1 p q vs #[] n m none none #[] #[] (by simpa using hv) (by simp)) ⟨il, il', ?_⟩
            rw [List.append_nil]
            exact ⟨.refl s, ra, fun _ q => by cases q⟩
          · refine P.add_tuple il il' (by simpa using hv) (by simpa using hw) ?_ (by rw [z1, z2]; exact Nat.le_trans h3 zAV)
            have := zBP (tk := s.toks) L (zBI r1 r2) (by simpa using h3)
            rwa [app_arr] at this
      · first | exact zAA e | exact ff_tt e | cases e
    | _ => first | exact zAA e | exact ff_tt e | cases e
  | lst xs => exact gen e
  | ref n => exact gen e
  | _ => first | exact zAA e | exact ff_tt e | cases e
theorem cmp_int {op : CmpOp} {o : P2} (ho : cmpOf op = some o) (hn : op ≠ .Eq ∧ op ≠ .NotEq ∧ op ≠ .In ∧ op ≠ .NotIn) {i j : Int} {x : V} {t u : Tok} (e : ev2 o σ (.int i) (.int j) = some x) :
    wpAny (model S.prog S.w) A (compareOp op (.int i t) (.int j u)) (PE S X f s x) E s := by
  cases op <;> cases ho
  · exact absurd rfl hn.1
  · exact absurd rfl hn.2.1
  · cases e; exact P.lt_int .bool0
  · cases e; exact P.le_int .bool0
  · cases e; exact P.gt_int .bool0
  · cases e; exact P.ge_int .bool0
  · exact absurd rfl hn.2.2.1
  · exact absurd rfl hn.2.2.2
theorem zBV {g : Int → Int → Option V} {a b x : V} (e : (match a, b with | .int x, .int y => g x y | _, _ => none) = some x) : ∃ i j, a = .int i ∧ b = .int j := by
  cases a with
  | int i =>
    cases b with
    | int j => exact ⟨_, _, rfl, rfl⟩
    | _ => first | exact zAA e | exact ff_tt e | cases e
  | _ => first | exact zAA e | exact ff_tt e | cases e
theorem cmp_ints {op : CmpOp} {o : P2} (ho : cmpOf op = some o) (hn : op ≠ .Eq ∧ op ≠ .NotEq ∧ op ≠ .In ∧ op ≠ .NotIn) {a b x : V} (e : ev2 o σ a b = some x) : ∃ i j, a = .int i ∧ b = .int j := by
  cases op <;> cases ho
  · exact absurd rfl hn.1
  · exact absurd rfl hn.2.1
  all_goals first
    | exact absurd rfl hn.2.2.1
    | exact absurd rfl hn.2.2.2
    | exact zBV e
theorem zAX {a : V} {va : Value} {b : Bool} (L : Lk S X f σ s.heap) (e : truthy σ a = some b) (ra : VR S X f s.heap a va) :
    wpAny (model S.prog S.w) A (PySem.truthy va) (fun c s' => c = b ∧ Ext s s') E s := by
  cases a with
  | none => obtain rfl := zCv ra; cases e; exact wpAny_pure ⟨rfl, .refl s⟩
  | bool c => obtain rfl := zAt ra; cases e; exact wpAny_truthy_bool ⟨rfl, .refl s⟩
  | int i => obtain ⟨t, rfl⟩ := zAW ra; cases e; exact P.truthy_int ⟨rfl, .refl s⟩
  | str x =>
    obtain ⟨⟨t, rfl⟩, h1, h2⟩ := zAR ra
    cases e
    refine P.truthy_str (by have := zAs h1; omega) ⟨?_, .toks s _⟩
    cases h : x.length <;> simp
    omega
  | tup xs =>
    obtain ⟨p, vs, n, rfl, q1, il, r1, l1⟩ := zBb ra
    cases e
    have z := zAK r1
    refine PyProof.Rows.truthy_tuple ⟨_, il, rfl, n, rfl⟩ (by rw [z]; exact zAs l1) ⟨?_, .toks s _⟩
    cases xs <;> simp_all [Array.isEmpty]
  | lst xs =>
    cases e
    obtain ⟨p, vs, n, rfl, il, r1, l1⟩ := zAU L (x := .lst xs) rfl ra
    have z := zAK r1
    refine wpAny_truthy_list (IsL.isList il) (by rw [z]; exact zAs l1) ⟨?_, .toks s _⟩
    cases xs <;> simp_all [Array.isEmpty]
  | ref k =>
    delta truthy at e; dsimp only at e
    split at e
    · rename_i ys ho
      cases e
      obtain ⟨p, vs, n, rfl, il, r1, l1⟩ := zAU L (x := .ref k) (xs := ys) (by simp [listOf?, ho, listR]) ra
      have z := zAK r1
      refine wpAny_truthy_list (IsL.isList il) (by rw [z]; exact zAs l1) ⟨?_, .toks s _⟩
      cases ys <;> simp_all [Array.isEmpty]
    · first | exact zAA e | exact ff_tt e | cases e
  | undef => first | exact zAA e | exact ff_tt e | cases e
  | exc _ => first | exact zAA e | exact ff_tt e | cases e
  | parts => first | exact zAA e | exact ff_tt e | cases e
theorem len_seq {v : Value} {xs : List V} {a : Addr} {vs : Array Value} {n : Nat} (hv : v = .ref a) (il : IsL s.heap a vs n ∨ IsT s.heap a vs n) (r : VRs S X f s.heap xs vs.toList) (l : xs.length ≤ LIM) :
    wpAny (model S.prog S.w) A (call (.builtin "len") [v]) (PE S X f s (.int xs.length)) E s := by
  subst hv
  have z := zAK r
  rcases il with il | il
  · have := Calls.call_len_list (prog := S.prog) (w := S.w) (A := A) (E := E) (Q := PE S X f s (.int xs.length)) (IsL.isList il) (by rw [z]; exact zAs l) (by rw [z]; exact .int)
    exact this
  · exact PyProof.Rows.len_tuple ⟨_, il, rfl, n, rfl⟩ (by rw [z]; exact zAs l) (by rw [z]; exact .int)
theorem len_sound {a x : V} {va : Value} (L : Lk S X f σ s.heap) (e : ev1 .len σ a = some x) (ra : VR S X f s.heap a va) :
    wpAny (model S.prog S.w) A (call (.builtin "len") [va]) (PE S X f s x) E s := by
  have gen : ∀ {xs : List V}, itemsOf σ a = some xs → x = .int xs.length → wpAny (model S.prog S.w) A (call (.builtin "len") [va]) (PE S X f s x) E s := by
    intro xs h1 h2
    obtain ⟨p, vs, n, h3, il, r1, l1⟩ := zBr L h1 ra
    rw [h2]; exact len_seq h3 il r1 l1
  cases a with
  | str y =>
    obtain ⟨⟨t, rfl⟩, h1, h2⟩ := zAR ra
    cases e
    exact PyProof.Rows.len_str (by have := zAs h1; omega) .int
  | tup xs => cases e; exact gen rfl rfl
  | lst xs => cases e; exact gen rfl rfl
  | ref k =>
    delta ev1 at e; dsimp only at e
    split at e
    · rename_i ys ho
      cases e
      exact gen (xs := ys) (by simp [itemsOf, ho]) rfl
    · first | exact zAA e | exact ff_tt e | cases e
  | _ => first | exact zAA e | exact ff_tt e | cases e
theorem zBd {n : Nat} {i : Int} {k : Nat} (h : normIndex n i = some k) : seqIndex? i n = some k ∧ k < n ∧ (0 ≤ i → k = i.toNat) ∧ (i < 0 → 0 ≤ i + n ∧ k = (i + n).toNat) := by
  unfold normIndex at h
  split at h
  · rename_i h0
    split at h
    · rename_i h1
      cases h
      refine ⟨seqIndex_of h0 (by omega), h1, fun _ => rfl, fun h => by omega⟩
    · first | exact zAA h | exact ff_tt h | cases h
  · rename_i h0
    split at h
    · rename_i h1
      cases h
      refine ⟨seqIndex_neg (by omega) (by omega), by omega, fun h => by omega, fun _ => ⟨h1, rfl⟩⟩
    · first | exact zAA h | exact ff_tt h | cases h
theorem zGb {xs : List V} {a : Addr} {vs : Array Value} {n : Nat} {i : Int} {t : Tok} {k : Nat} {x : V} (il : IsL s.heap a vs n ∨ IsT s.heap a vs n) (r : VRs S X f s.heap xs vs.toList) (l : xs.length ≤ LIM)
    (hk : normIndex xs.length i = some k) (hx : xs[k]? = some x) :
    wpAny (model S.prog S.w) A (getItem (.ref a) (.int i t)) (fun v s' => s' = s ∧ VR S X f s.heap x v) E s := by
  have z := zAK r
  obtain ⟨v, hv, rv⟩ := zCK r hx
  rw [Array.getElem?_toList] at hv
  obtain ⟨h1, h2, h3, h4⟩ := zBd hk
  have hl := zAs l
  rcases il with il | il
  · by_cases h0 : 0 ≤ i
    · rw [h3 h0] at hv
      exact wpAny_getItem_list (IsL.isList il) h0 (by have := h3 h0; omega) hv ⟨rfl, rv⟩
    · obtain ⟨h5, h6⟩ := h4 (by omega)
      rw [h6] at hv
      exact wpAny_getItem_list_neg (IsL.isList il) (by omega) (by rw [z]; omega) (by omega) (by rw [z]; exact hv) ⟨rfl, rv⟩
  · refine PyProof.Rows.getItem_tuple ⟨_, il, rfl, n, rfl⟩ ?_ ?_ (by rw [z]; exact h1) hv ⟨rfl, rv⟩
    · by_cases h0 : 0 ≤ i
      · omega
      · have := h4 (by omega); omega
    · by_cases h0 : 0 ≤ i
      · have := h3 h0; omega
      · omega
end
end Mine
end

/-! # Ops3 -/
section
set_option autoImplicit false
namespace Mine
open PySem PyProof.Rows
theorem zHT (n : Nat) (i : Int) : ((if i < 0 then (i + n).toNat else min i.toNat n : Nat) : Int) = if i < 0 then max (i + n) 0 else min i n := by
  split
  · rw [Int.max_comm]; exact Int.toNat_eq_max (i + n) |>.trans (Int.max_comm _ _)
  · rename_i h
    rw [Lean.Omega.Int.ofNat_min, Int.toNat_of_nonneg (Int.not_lt.mp h)]
theorem clip_eq (n : Nat) (i : Int) : (if i < 0 then (i + n).toNat else min i.toNat n) = (max 0 (min (if i < 0 then i + n else i) n)).toNat := by
  split
  · rename_i h
    rw [Int.min_eq_left (by omega), Int.max_comm, ← Int.toNat_eq_max, Int.toNat_natCast]
  · rename_i h
    have h := Int.not_lt.mp h
    have e : (i : Int) = (i.toNat : Int) := (Int.toNat_of_nonneg h).symm
    rw [Int.max_eq_right (Int.le_min.mpr ⟨h, Int.natCast_nonneg n⟩)]
    generalize i.toNat = k at e
    subst e
    rw [← Lean.Omega.Int.ofNat_min, Int.toNat_natCast]
theorem clip_start (n : Nat) (lo : Option Int) : sliceStart n lo = lo.elim 0 (clipAt n) := by
  cases lo with
  | none => rfl
  | some i =>
    exact clip_eq n i
theorem clip_stop (n : Nat) (hi : Option Int) : sliceStop n hi = hi.elim n (clipAt n) := by
  cases hi with
  | none => rfl
  | some i =>
    exact clip_eq n i
theorem zDA {α : Type} (xs : List α) (lo hi : Option Int) : sliceL xs lo hi = (xs.drop (sliceStart xs.length lo)).take (sliceStop xs.length hi - sliceStart xs.length lo) := by
  unfold sliceL; rw [List.drop_take]
theorem zBz {α : Type} (xs : List α) (lo hi : Option Int) : (sliceL xs lo hi).length ≤ xs.length := by
  unfold sliceL; simp; omega
theorem zGF (lo hi : Option Int) (n : Nat) : Builtin.Slice.sliceAdjust lo hi 1 (n : Int) = ((sliceStart n lo : Int), (sliceStop n hi : Int)) := by
  have h1 : ¬ ((1 : Int) < 0) := by omega
  unfold Builtin.Slice.sliceAdjust
  simp only [h1, if_false]
  congr 1
  · cases lo with
    | none => rfl
    | some i => exact (zHT n i).symm
  · cases hi with
    | none => rfl
    | some i => exact (zHT n i).symm
theorem zFD (a b : Nat) : Builtin.Slice.slicePlaces (a : Int) (b : Int) 1 = b - a := by
  unfold Builtin.Slice.slicePlaces
  have h1 : (1 : Int) > 0 := by omega
  simp only [h1, if_true, Int.ediv_one]
  split <;> omega
theorem zHj (xs : Array Value) (a k : Nat) : ((List.range k).filterMap fun (i : Nat) => xs[((a : Int) + (i : Int) * 1).toNat]?).toArray = ((xs.toList.drop a).take k).toArray := by
  have e : (fun (i : Nat) => xs[((a : Int) + (i : Int) * 1).toNat]?) = fun i => xs[a + i]? := by
    funext i
    have : ((a : Int) + (i : Int) * 1).toNat = a + i := by omega
    rw [this]
  rw [e]
  have := pick_run xs a k
  rw [List.filterMap_map] at this
  have e2 : ((fun x => xs[x]?) ∘ fun x => a + x) = fun k => xs[a + k]? := rfl
  rw [e2] at this
  rw [this]
section
variable {S : Stat} {A : Around} {X : List Addr} {f : List Loc} {σ : Sto} {s : Shared} {E : Value → Shared → Prop}
theorem zBn {v : Value} {k : Option Int} {Q : Option Int → Shared → Prop} (hv : IsPart v k) (h : Q k s) : wpAny (model S.prog S.w) A (Builtin.Slice.slicePartIndex v) Q E s := by
  cases hv with
  | none => exact slicePart_none h
  | int i t => exact slicePart_int h
theorem zBo {sl : Addr} {vl vu : Value} {lo hi : Option Int} {n : Nat} {Q : Int × Int × Nat → Shared → Prop} (hs : s.heap.IsSliceOf sl vl vu .none) (pl : IsPart vl lo) (pu : IsPart vu hi)
    (h : Q ((sliceStart n lo : Int), 1, sliceStop n hi - sliceStart n lo) s) :
    wpAny (model S.prog S.w) A (Builtin.Slice.sliceApplied (.ref sl) (pure (n : Int))) Q E s := by
  obtain ⟨os, hos, hcs, hds⟩ := id hs
  unfold Builtin.Slice.sliceApplied Builtin.Slice.sliceFields
  refine wpAny_bind (wpAny_bind (wpAny_field hos hds (x := vl) rfl (wpAny_bind (wpAny_field hos hds (x := vu) rfl (wpAny_bind (wpAny_field hos hds (x := .none) rfl (wpAny_pure ?_)))))))
  refine wpAny_bind (slicePart_none ?_)
  show wpAny _ _ (if ((1 : Int) == 0) = true then _ else _) _ _ s
  rw [if_neg (by decide)]
  refine wpAny_bind (zBn pl (wpAny_bind (zBn pu (wpAny_bind (wpAny_pure ?_)))))
  show wpAny _ _ (match Builtin.Slice.sliceAdjust lo hi 1 (n : Int) with | (lo, hi) => pure (lo, (1 : Int), Builtin.Slice.slicePlaces lo hi 1)) _ _ s
  rw [zGF]
  show wpAny _ _ (pure ((sliceStart n lo : Int), (1 : Int), Builtin.Slice.slicePlaces (sliceStart n lo : Int) (sliceStop n hi : Int) 1)) _ _ s
  rw [zFD]
  exact wpAny_pure h
theorem zBx {t sl : Addr} {xs : List V} {vs : Array Value} {n : Nat} {vl vu : Value} {lo hi : Option Int} (L : Lk S X f σ s.heap) (q : t ∉ addrs f ∧ t ∉ X) (il : IsT s.heap t vs n) (r : VRs S X f s.heap xs vs.toList) (l : xs.length ≤ LIM)
    (hs : s.heap.IsSliceOf sl vl vu .none) (pl : IsPart vl lo) (pu : IsPart vu hi) :
    wpAny (model S.prog S.w) A (getItem (.ref t) (.ref sl)) (PE S X f s (.tup (sliceL xs lo hi))) E s := by
  have ht : IsTup s.heap t vs := ⟨_, il, rfl, n, rfl⟩
  have z := zAK r
  obtain ⟨os, hos, hcs, hds⟩ := id hs
  have hTs : s.TypeIs (.ref sl) "slice" := ⟨os, hos, hcs⟩
  unfold getItem
  try with_reducible refine wpAny_holding ?_
  first | refine wpAny_bind (wpAny_pure ?_) | skip
  refine wpAny_bind (wpAny_sequenceKey ht.typeIs (by decide) ?_)
  refine wpAny_bind (wpAny_callSpecial?_slot (name := Str.ofString "__getitem__") ht.typeIs slot_tuple_getitem
    (wpAny_call_entry slot_tuple_getitem ht.typeIs entry_tuple_getitem ?_ (args_tuple_getitem _ _)))
  show wpAny _ _ (Builtin.Tuple.tupleItemsOf (.ref t) >>= _) _ _ s
  refine wpAny_bind (tupleItemsOf_ ht ?_)
  refine wpAny_bind (wpAny_typeOf hTs ?_)
  rw [if_pos (by decide)]
  refine wpAny_bind (zBo hs pl pu ?_)
  show wpAny _ _ (if ((sliceStart vs.size lo : Int) == 0 && (1 : Int) == 1 && (sliceStop vs.size hi - sliceStart vs.size lo) == vs.size) = true then _ else _) _ _ s
  by_cases hw : ((sliceStart vs.size lo : Int) == 0 && (1 : Int) == 1 && (sliceStop vs.size hi - sliceStart vs.size lo) == vs.size) = true
  · rw [if_pos hw]
    simp only [Bool.and_eq_true, beq_iff_eq] at hw
    have hz : sliceStart vs.size lo = 0 := by have := hw.1.1; omega
    have he : sliceL xs lo hi = xs := by
      rw [zDA, ← z, hz, List.drop_zero, List.take_of_length_le]
      have := hw.2; rw [hz] at this; omega
    rw [he]
    have fin : PE S X f s (.tup xs) (.ref t) s := ⟨.refl s, by rw [VR]; exact ⟨t, vs, n, rfl, q, il, r, l⟩, fun _ q => by cases q⟩
    unfold Builtin.Tuple.tupleIsExact
    refine wpAny_bind (wpAny_bind (wpAny_typeOf ht.typeIs (wpAny_pure ?_)))
    rw [if_pos (by decide)]
    exact wpAny_bind (wpAny_rule (wpAny_pure ⟨_, rfl, wpAny_pure fin⟩))
  · rw [if_neg hw, zHj]
    have hd : ((vs.toList.drop (sliceStart vs.size lo)).take (sliceStop vs.size hi - sliceStart vs.size lo)) = sliceL vs.toList lo hi := by rw [zDA]; simp
    rw [hd]
    have hdrop : sizeOk (.seq (sliceL vs.toList lo hi).toArray) := by
      show (sliceL vs.toList lo hi).toArray.size ≤ sizeLine
      rw [List.size_toArray]
      have := zBz vs.toList lo hi
      have h2 : vs.toList.length = xs.length := by simpa using z
      have := zAV
      omega
    have rr : VRs S X f s.heap (sliceL xs lo hi) (sliceL vs.toList lo hi) := by
      unfold sliceL
      have h2 : vs.toList.length = xs.length := by simpa using z
      rw [h2]
      exact zEm (zEl r _) _
    have h := zBP (tk := s.toks) L rr (Nat.le_trans (zBz xs lo hi) l)
    first
      | exact wpAny_bind (m := Builtin.Tuple.tupleExact _) (wpAny_newObj_type (wpAny_pure ⟨_, rfl, wpAny_pure h⟩) hdrop)
      | exact wpAny_bind (m := Builtin.Tuple.tupleExact _) (wpAny_newObj_type (wpAny_bind (wpAny_pure (wpAny_pure ⟨_, rfl, wpAny_pure h⟩))) hdrop)
      | exact wpAny_bind (wpAny_bind (m := Builtin.Tuple.tupleExact _) (wpAny_newObj_type (wpAny_pure (wpAny_pure ⟨_, rfl, wpAny_pure h⟩)) hdrop))
      | exact wpAny_bind (wpAny_bind (m := Builtin.Tuple.tupleExact _) (wpAny_newObj_type (wpAny_pure ⟨_, rfl, wpAny_pure h⟩) hdrop))
theorem zCw {y : Str} {t : Tok} {sl : Addr} {vl vu : Value} {lo hi : Option Int} (hl : y.length ≤ LIM) (hok : PyData.strOk (Txt.slice y lo hi) = true) (hs : s.heap.IsSliceOf sl vl vu .none) (pl : IsPart vl lo) (pu : IsPart vu hi) :
    wpAny (model S.prog S.w) A (getItem (.str y t) (.ref sl)) (PE S X f s (.str (Txt.slice y lo hi))) E s := by
  have hz : (Txt.slice y lo hi).length ≤ LIM := Nat.le_trans (Txt.slice_le y lo hi) hl
  cases pl with
  | none =>
    cases pu with
    | none => exact wpAny_getItem_str_slice (l := none) (u := none) (st := none) hs rfl (post_val_or_str ⟨Nat.le_trans hz zAV, fun t' k => PE.str hz hok⟩)
    | int j u => exact wpAny_getItem_str_slice (l := none) (u := some (j, u)) (st := none) hs rfl (post_val_or_str ⟨Nat.le_trans hz zAV, fun t' k => PE.str hz hok⟩)
  | int i v =>
    cases pu with
    | none => exact wpAny_getItem_str_slice (l := some (i, v)) (u := none) (st := none) hs rfl (post_val_or_str ⟨Nat.le_trans hz zAV, fun t' k => PE.str hz hok⟩)
    | int j u => exact wpAny_getItem_str_slice (l := some (i, v)) (u := some (j, u)) (st := none) hs rfl (post_val_or_str ⟨Nat.le_trans hz zAV, fun t' k => PE.str hz hok⟩)
theorem zCS {t sl : Addr} {xs : List V} {vs : Array Value} {n : Nat} {vl vu : Value} {lo hi : Option Int} (L : Lk S X f σ s.heap) (il : IsL s.heap t vs n) (r : VRs S X f s.heap xs vs.toList) (l : xs.length ≤ LIM)
    (hs : s.heap.IsSliceOf sl vl vu .none) (pl : IsPart vl lo) (pu : IsPart vu hi) :
    wpAny (model S.prog S.w) A (getItem (.ref t) (.ref sl)) (PE S X f s (.lst (sliceL xs lo hi))) E s := by
  have z := zAK r
  refine wpAny_getItem_list_slice (IsL.isList il) hs pl pu .none (by simp) ?_ (by rw [z]; exact Nat.le_trans l zAV)
  rw [slicePick_plain, ← clip_start, ← clip_stop]
  have hd : ((vs.toList.drop (sliceStart vs.size lo)).take (sliceStop vs.size hi - sliceStart vs.size lo)) = sliceL vs.toList lo hi := by rw [zDA]; simp
  rw [hd]
  have rr : VRs S X f s.heap (sliceL xs lo hi) (sliceL vs.toList lo hi) := by
    unfold sliceL
    have h2 : vs.toList.length = xs.length := by simpa using z
    rw [h2]
    exact zEm (zEl r _) _
  exact zBG (tk := s.toks) L rr (Nat.le_trans (zBz xs lo hi) l)
end
end Mine
end

/-! # Ops4 -/
section
set_option autoImplicit false
namespace Mine
open PySem PyProof.Rows
section
variable {S : Stat} {A : Around} {X : List Addr} {f : List Loc} {σ : Sto} {s : Shared} {E : Value → Shared → Prop}
theorem zGZ (ys : List (Int × Tok)) : (ys.map fun p => Value.int p.1 p.2).toArray = intItems ys.toArray := by simp [intItems]
theorem zDI {a : V} {va : Value} {xs : List V} {l : List Int} (L : Lk S X f σ s.heap) (h1 : listOf? σ a = some xs) (h2 : ints? xs = some l) (ra : VR S X f s.heap a va) :
    ∃ (p : Addr) (ys : List (Int × Tok)), va = .ref p ∧ s.heap.IsList p (intItems ys.toArray) ∧ ys.map (·.1) = l := by
  obtain ⟨p, vs, n, rfl, il, r, _⟩ := zAU L h1 ra
  obtain ⟨ys, e1, e2⟩ := ints_at h2 r
  refine ⟨p, ys, rfl, ?_, e2⟩
  rw [← zGZ, ← e1]
  exact IsL.isList il
theorem sum_sound {a x : V} {va : Value} (hh : A.handled = none) (L : Lk S X f σ s.heap) (e : ev1 .sum σ a = some x) (ra : VR S X f s.heap a va) :
    wpAny (model S.prog S.w) A (call (.builtin "sum") [va]) (PE S X f s x) E s := by
  delta ev1 at e; dsimp only at e
  cases h1 : listOf? σ a with
  | none => first | (rw [h1] at e; exact zAA e) | simp [h1] at e
  | some xs =>
    cases h2 : ints? xs with
    | none => first | (rw [h1, h2] at e; exact zAA e) | (rw [h1, Option.bind_some, h2] at e; exact zAA e) | simp [h1, h2] at e
    | some l =>
      simp [h1, h2] at e
      subst e
      obtain ⟨p, ys, rfl, il, rfl⟩ := zDI L h1 h2 ra
      refine sum_intListG hh il fun h' tk t' k => ?_
      rw [preSum_eq, List.take_of_length_le (by simp)]
      exact .intH k
theorem best_min (l : List Int) (m : Int) (hm : m ∈ l) (hle : ∀ a ∈ l, m ≤ a) : minL l = some m := by
  cases l with
  | nil => first | exact zAA hm | exact ff_tt hm | cases hm
  | cons x xs =>
    simp only [minL]
    congr 1
    have key : ∀ (ys : List Int) (b : Int), (ys.foldl (fun m y => if y < m then y else m) b ∈ b :: ys) ∧ ∀ a ∈ b :: ys, ys.foldl (fun m y => if y < m then y else m) b ≤ a := by
      intro ys
      induction ys with
      | nil => intro b; simp
      | cons y ys ih =>
        intro b
        simp only [List.foldl_cons]
        obtain ⟨h1, h2⟩ := ih (if y < b then y else b)
        constructor
        · rcases List.mem_cons.mp h1 with h | h
          · rw [h]; split <;> simp
          · exact List.mem_cons_of_mem _ (List.mem_cons_of_mem _ h)
        · intro a ha
          have h0 := h2 (if y < b then y else b) (List.mem_cons_self)
          have hb : (if y < b then y else b) ≤ b := by split <;> omega
          have hy : (if y < b then y else b) ≤ y := by split <;> omega
          rcases List.mem_cons.mp ha with rfl | ha
          · exact Int.le_trans h0 hb
          · rcases List.mem_cons.mp ha with rfl | ha
            · exact Int.le_trans h0 hy
            · exact h2 a (List.mem_cons_of_mem _ ha)
    obtain ⟨h1, h2⟩ := key xs x
    exact Int.le_antisymm (h2 m hm) (hle _ h1)
theorem best_max (l : List Int) (m : Int) (hm : m ∈ l) (hle : ∀ a ∈ l, a ≤ m) : maxL l = some m := by
  cases l with
  | nil => first | exact zAA hm | exact ff_tt hm | cases hm
  | cons x xs =>
    simp only [maxL]
    congr 1
    have key : ∀ (ys : List Int) (b : Int), (ys.foldl (fun m y => if y > m then y else m) b ∈ b :: ys) ∧ ∀ a ∈ b :: ys, a ≤ ys.foldl (fun m y => if y > m then y else m) b := by
      intro ys
      induction ys with
      | nil => intro b; simp
      | cons y ys ih =>
        intro b
        simp only [List.foldl_cons]
        obtain ⟨h1, h2⟩ := ih (if y > b then y else b)
        constructor
        · rcases List.mem_cons.mp h1 with h | h
          · rw [h]; split <;> simp
          · exact List.mem_cons_of_mem _ (List.mem_cons_of_mem _ h)
        · intro a ha
          have h0 := h2 (if y > b then y else b) (List.mem_cons_self)
          have hb : b ≤ (if y > b then y else b) := by split <;> omega
          have hy : y ≤ (if y > b then y else b) := by split <;> omega
          rcases List.mem_cons.mp ha with rfl | ha
          · exact Int.le_trans hb h0
          · rcases List.mem_cons.mp ha with rfl | ha
            · exact Int.le_trans hy h0
            · exact h2 a (List.mem_cons_of_mem _ ha)
    obtain ⟨h1, h2⟩ := key xs x
    exact Int.le_antisymm (hle _ h1) (h2 m hm)
theorem min_sound {a x : V} {va : Value} (hh : A.handled = none) (L : Lk S X f σ s.heap) (e : ev1 .min σ a = some x) (ra : VR S X f s.heap a va) :
    wpAny (model S.prog S.w) A (call (.builtin "min") [va]) (PE S X f s x) E s := by
  delta ev1 at e; dsimp only at e
  cases h1 : listOf? σ a with
  | none => first | (rw [h1] at e; exact zAA e) | simp [h1] at e
  | some xs =>
    cases h2 : ints? xs with
    | none => first | (rw [h1, h2] at e; exact zAA e) | (rw [h1, Option.bind_some, h2] at e; exact zAA e) | simp [h1, h2] at e
    | some l =>
      cases h3 : minL l with
      | none => first | (rw [h1, h2, h3] at e; exact zAA e) | (rw [h1, Option.bind_some, h2, Option.bind_some, h3] at e; exact zAA e) | simp [h1, h2, h3] at e
      | some m =>
        simp [h1, h2, h3] at e
        subst e
        obtain ⟨p, ys, rfl, il, rfl⟩ := zDI L h1 h2 ra
        have hne : 0 < ys.toArray.size := by
          cases ys with
          | nil => simp [minL] at h3
          | cons y ys => simp
        refine min_intList hh il hne fun v h' tk hv k => ?_
        obtain ⟨t, rfl⟩ := intItems_at hv
        obtain ⟨g1, g2⟩ := argBest_lt (numAt ys.toArray) (ys.toArray.size - 1)
        have := best_min (ys.map (·.1)) (numAt ys.toArray (argBest (fun i j => decide (numAt ys.toArray i < numAt ys.toArray j)) (ys.toArray.size - 1)))
          (by rw [numAt_eq]; exact PySem.getD_mem (by simp; simp at g1 hne; omega))
          (fun a ha => by obtain ⟨j, hj, rfl⟩ := PySem.mem_getD ha; have := g2 j (by simp at hj ⊢; omega); rw [numAt_eq ys.toArray j] at this; simpa using this)
        rw [h3] at this
        cases this
        exact .intH k
theorem max_sound {a x : V} {va : Value} (hh : A.handled = none) (L : Lk S X f σ s.heap) (e : ev1 .max σ a = some x) (ra : VR S X f s.heap a va) :
    wpAny (model S.prog S.w) A (call (.builtin "max") [va]) (PE S X f s x) E s := by
  delta ev1 at e; dsimp only at e
  cases h1 : listOf? σ a with
  | none => first | (rw [h1] at e; exact zAA e) | simp [h1] at e
  | some xs =>
    cases h2 : ints? xs with
    | none => first | (rw [h1, h2] at e; exact zAA e) | (rw [h1, Option.bind_some, h2] at e; exact zAA e) | simp [h1, h2] at e
    | some l =>
      cases h3 : maxL l with
      | none => first | (rw [h1, h2, h3] at e; exact zAA e) | (rw [h1, Option.bind_some, h2, Option.bind_some, h3] at e; exact zAA e) | simp [h1, h2, h3] at e
      | some m =>
        simp [h1, h2, h3] at e
        subst e
        obtain ⟨p, ys, rfl, il, rfl⟩ := zDI L h1 h2 ra
        have hne : 0 < ys.toArray.size := by
          cases ys with
          | nil => simp [maxL] at h3
          | cons y ys => simp
        refine max_intList hh il hne fun v h' tk hv k => ?_
        obtain ⟨t, rfl⟩ := intItems_at hv
        obtain ⟨g1, g2⟩ := argBest_gt (numAt ys.toArray) (ys.toArray.size - 1)
        have := best_max (ys.map (·.1)) (numAt ys.toArray (argBest (fun i j => decide (numAt ys.toArray i > numAt ys.toArray j)) (ys.toArray.size - 1)))
          (by rw [numAt_eq]; exact PySem.getD_mem (by simp; simp at g1 hne; omega))
          (fun a ha => by obtain ⟨j, hj, rfl⟩ := PySem.mem_getD ha; have := g2 j (by simp at hj ⊢; omega); rw [numAt_eq ys.toArray j] at this; simpa using this)
        rw [h3] at this
        cases this
        exact .intH k
theorem zEs {a x : V} {va : Value} (L : Lk S X f σ s.heap) (e : ev1 .toList σ a = some x) (ra : VR S X f s.heap a va) :
    wpAny (model S.prog S.w) A (call (.type "list") [va]) (PE S X f s x) E s := by
  delta ev1 at e; dsimp only at e
  cases h1 : itemsOf σ a with
  | none => first | (rw [h1] at e; exact zAA e) | simp [h1] at e
  | some xs =>
    simp [h1] at e
    subst e
    obtain ⟨p, vs, n, rfl, il, r, l⟩ := zBr L h1 ra
    have z := zAK r
    have fin : ∀ (h' : Heap) (c' : Nat), (∀ b o', s.heap.get? b = some o' → h'.get? b = some o') → h'.get? s.heap.objs.size = some { cls := .type "list", data := .seq vs c' } → PE S X f s (.lst xs) (.ref s.heap.objs.size) { s with heap := h' } := by
      intro h' c' k hl
      have e : Ext s { s with heap := h' } := .heap (t := s.toks) k
      have nl : NewL S X f s { s with heap := h' } xs (.ref s.heap.objs.size) := ⟨_, vs, c', rfl, zAe _, hl, r, l⟩
      exact ⟨e, nl.vr L e, fun ys q => by cases q; exact nl⟩
    rcases il with il | il
    · exact call_list_seq p (T := "list") (.inl rfl) il rfl rfl fin (by rw [z]; exact Nat.le_trans l zAV)
    · exact call_list_seq p (T := "tuple") (.inr rfl) il rfl rfl fin (by rw [z]; exact Nat.le_trans l zAV)
theorem neg_sound {i : Int} {t : Tok} : wpAny (model S.prog S.w) A (unaryOp .USub (.int i t)) (PE S X f s (.int (-i))) E s := PyProof.Rows.neg_int .int
theorem min2_sound {i j : Int} {t u : Tok} (hh : A.handled = none) : wpAny (model S.prog S.w) A (call (.builtin "min") [.int i t, .int j u]) (PE S X f s (.int (if j < i then j else i))) E s := by
  refine min_two_ints hh fun h' tk k => ?_
  split <;> exact .intH k
theorem max2_sound {i j : Int} {t u : Tok} (hh : A.handled = none) : wpAny (model S.prog S.w) A (call (.builtin "max") [.int i t, .int j u]) (PE S X f s (.int (if j > i then j else i))) E s := by
  refine max_two_ints hh fun h' tk k => ?_
  split <;> exact .intH k
noncomputable def ReadsD (h : Heap) (v : Value) (p : PyData) (d : Nat) : Prop := (∃ as, Reads h v p as) ∧ p.canLay0 = true ∧ p.depth ≤ d
noncomputable def ReadsDs (h : Heap) (vs : List Value) (ps : List PyData) (d : Nat) : Prop := (∃ as, ReadsAll h vs ps as) ∧ PyData.canLayAll0 ps = true ∧ PyData.depthAll ps ≤ d
theorem zGq {h : Heap} {d : Nat} (ih : ∀ (x : V) (v : Value) (p : PyData), toPy σ d x = some p → VR S X f h x v → ReadsD h v p d) : ∀ (xs : List V) (vs : List Value) (ps : List PyData), xs.mapM (toPy σ d) = some ps → VRs S X f h xs vs → ReadsDs h vs ps d := by
  intro xs
  induction xs with
  | nil =>
    intro vs ps e r
    cases vs with
    | nil => cases e; exact ⟨⟨_, .nil⟩, rfl, Nat.zero_le _⟩
    | cons _ _ => rw [VRs] at r; exact r.elim
  | cons x xs ih2 =>
    intro vs ps e r
    cases vs with
    | nil => rw [VRs] at r; exact r.elim
    | cons v vs =>
      rw [VRs] at r
      rw [List.mapM_cons] at e
      obtain ⟨p, h1, e⟩ := Option.bind_eq_some_iff.mp e
      obtain ⟨ps', h2, e⟩ := Option.bind_eq_some_iff.mp e
      cases e
      obtain ⟨⟨as, a1⟩, a2, a3⟩ := ih x v p h1 r.1
      obtain ⟨⟨bs, b1⟩, b2, b3⟩ := ih2 vs ps' h2 r.2
      exact ⟨⟨_, .cons a1 b1⟩, by rw [PyData.canLayAll0, a2, b2]; rfl, by rw [PyData.depthAll]; exact Nat.max_le.mpr ⟨a3, b3⟩⟩
theorem zDa {h : Heap} (L : Lk S X f σ h) (d : Nat) : ∀ (x : V) (v : Value) (p : PyData), toPy σ d x = some p → VR S X f h x v → ReadsD h v p d := by
  induction d with
  | zero => intro x v p e; cases e
  | succ d ih =>
    intro x v p e r
    have lists : ∀ {xs : List V}, listOf? σ x = some xs → (xs.mapM (toPy σ d)).map PyData.list = some p → ReadsD h v p (d + 1) := fun h1 e => by
      obtain ⟨a, vs, n, rfl, il, rs, _⟩ := zAU L h1 r
      obtain ⟨ps, e1, rfl⟩ := Option.map_eq_some_iff.mp e
      obtain ⟨⟨as, r1⟩, r2, r3⟩ := zGq ih _ _ _ e1 rs
      exact ⟨⟨_, .list il rfl rfl r1⟩, r2, by rw [PyData.depth]; omega⟩
    cases x with
    | none => cases e; obtain rfl := zCv r; exact ⟨⟨_, .none⟩, rfl, Nat.zero_le _⟩
    | bool b => cases e; obtain rfl := zAt r; exact ⟨⟨_, .bool b⟩, rfl, Nat.zero_le _⟩
    | int i => cases e; obtain ⟨t, rfl⟩ := zAW r; exact ⟨⟨_, .int i t⟩, rfl, Nat.zero_le _⟩
    | str y => cases e; obtain ⟨⟨t, rfl⟩, h1, h2⟩ := zAR r; exact ⟨⟨_, .str y t⟩, h2, Nat.zero_le _⟩
    | tup xs =>
      obtain ⟨a, vs, n, rfl, _, il, rs, _⟩ := zBb r
      have e : (xs.mapM (toPy σ d)).map PyData.tuple = some p := e
      obtain ⟨ps, e1, rfl⟩ := Option.map_eq_some_iff.mp e
      obtain ⟨⟨as, r1⟩, r2, r3⟩ := zGq ih _ _ _ e1 rs
      exact ⟨⟨_, .tuple il rfl rfl r1⟩, r2, by rw [PyData.depth]; omega⟩
    | lst xs => exact lists rfl e
    | ref k =>
      have e : toPyO (toPy σ d) σ[k]? = some p := e
      cases ho : σ[k]? with
      | none => rw [ho] at e; first | exact zAA e | exact ff_tt e | cases e
      | some o =>
        rw [ho] at e
        cases o with
        | list xs => exact lists (show listR σ[k]? = some xs by rw [ho]; rfl) e
        | _ => first | exact zAA e | exact ff_tt e | cases e
    | undef => first | exact zAA e | exact ff_tt e | cases e
    | exc _ => first | exact zAA e | exact ff_tt e | cases e
    | parts => first | exact zAA e | exact ff_tt e | cases e
theorem zFv {a b : V} {va vb : Value} {r : Bool} (hu : A.units + 64 < cLine) (L : Lk S X f σ s.heap) (e : eqV.eqD σ a b = some r) (ra : VR S X f s.heap a va) (rb : VR S X f s.heap b vb) :
    wpAny (model S.prog S.w) A (compareOp .Eq va vb) (PE S X f s (.bool r)) E s ∧ wpAny (model S.prog S.w) A (compareOp .NotEq va vb) (PE S X f s (.bool !r)) E s := by
  unfold eqV.eqD at e
  cases h1 : toPy σ eqDepth a with
  | none => first | (rw [h1] at e; exact zAA e) | simp [h1] at e
  | some p =>
    cases h2 : toPy σ eqDepth b with
    | none => first | (rw [h1, h2] at e; exact zAA e) | (rw [h1, Option.bind_some, h2] at e; exact zAA e) | simp [h1, h2] at e
    | some q =>
      simp [h1, h2] at e
      subst e
      obtain ⟨⟨as, a1⟩, a2, a3⟩ := zDa L _ _ _ _ h1 ra
      obtain ⟨⟨bs, b1⟩, b2, b3⟩ := zDa L _ _ _ _ h2 rb
      have sa : SeqAt.shaped p = true := by unfold SeqAt.shaped; rw [a2, Bool.true_and]; exact decide_eq_true (Nat.le_trans a3 (by decide))
      have sb : SeqAt.shaped q = true := by unfold SeqAt.shaped; rw [b2, Bool.true_and]; exact decide_eq_true (Nat.le_trans b3 (by decide))
      exact ⟨SeqAt.compareEq_shaped a1 b1 sa sb hu .bool0, SeqAt.compareNe_shaped a1 b1 sa sb hu .bool0⟩
end
end Mine
end

/-! # Ops5 -/
section
set_option autoImplicit false
namespace Mine
open PySem PyProof.Rows
section
variable {S : Stat} {A : Around} {X : List Addr} {f : List Loc} {σ : Sto} {s : Shared} {E : Value → Shared → Prop}
theorem zDU (l : List Bool) : (List.range l.length).all (fun i => (l[i]?).getD true) = l.all id := by
  rw [Bool.eq_iff_iff, List.all_eq_true, List.all_eq_true]
  constructor
  · intro h x hx
    obtain ⟨i, hi, rfl⟩ := List.getElem_of_mem hx
    have := h i (List.mem_range.mpr hi)
    rw [List.getElem?_eq_getElem hi] at this
    exact this
  · intro h i hi
    rw [List.getElem?_eq_getElem (List.mem_range.mp hi)]
    exact h _ (List.getElem_mem _)
theorem zGH {a x : V} {va : Value} (L : Lk S X f σ s.heap) (e : ev1 .toTup σ a = some x) (ra : VR S X f s.heap a va) :
    wpAny (model S.prog S.w) A (call (.type "tuple") [va]) (PE S X f s x) E s := by
  delta ev1 at e; dsimp only at e; simp only [Option.map_eq_some_iff] at e
  obtain ⟨xs, h1, rfl⟩ := e
  obtain ⟨p, vs, n, rfl, il, r, l⟩ := zAU L h1 ra
  have z := zAK r
  refine call_tuple_list (IsL.isList il) (fun h' k => ?_) (by rw [z]; exact Nat.le_trans l zAV)
  have e1 : Ext s { s with heap := h'.push { cls := .type "tuple", data := .seq vs } } := .heap (t := s.toks) fun b o q => Heap.get?_push_of_some _ (k b o q)
  have hn : s.heap.get? h'.objs.size = none := by
    cases q : s.heap.get? h'.objs.size with
    | none => rfl
    | some o => have := zAe h'; rw [k _ _ q] at this; cases this
  refine ⟨e1, ?_, fun _ q => by cases q⟩
  rw [VR]
  exact ⟨_, vs, 0, rfl, L.new hn, Heap.get?_push_size _ rfl, e1.vrs r, l⟩
theorem zGJ {a x : V} {va : Value} (e : ev1 .toInt σ a = some x) (ra : VR S X f s.heap a va) :
    wpAny (model S.prog S.w) A (call (.type "int") [va]) (PE S X f s x) E s := by
  cases a with
  | bool b => obtain rfl := zAt ra; cases e; exact call_int_bool .int
  | int i => obtain ⟨t, rfl⟩ := zAW ra; cases e; exact call_int_int (.int (tk := s.toks))
  | str y =>
    obtain ⟨⟨t, rfl⟩, _⟩ := zAR ra
    have e : (if y.length ≤ 640 then (intText? y).map V.int else none) = some x := e
    split at e
    · rename_i hl
      simp only [Option.map_eq_some_iff] at e
      obtain ⟨n, hn, rfl⟩ := e
      exact PySem.W.KIN.call_text hn hl .int
    · first | exact zAA e | exact ff_tt e | cases e
  | _ => first | exact zAA e | exact ff_tt e | cases e
theorem zFo {a x : V} {va : Value} (e : ev1 .isNone σ a = some x) (ra : VR S X f s.heap a va) (hp : S.parts ≠ .none) :
    wpAny (model S.prog S.w) A (compareOp .Is va .none) (PE S X f s x) E s := by
  refine is_none ?_
  cases a with
  | none => obtain rfl := zCv ra; simp [ev1] at e; subst e; exact .bool0
  | bool b => obtain rfl := zAt ra; simp [ev1] at e; subst e; exact .bool0
  | int i => obtain ⟨t, rfl⟩ := zAW ra; simp [ev1] at e; subst e; exact .bool0
  | str y => obtain ⟨⟨t, rfl⟩, _⟩ := zAR ra; simp [ev1] at e; subst e; exact .bool0
  | tup xs => obtain ⟨p, vs, n, rfl, _⟩ := zBb ra; simp [ev1] at e; subst e; exact .bool0
  | lst xs => rw [VR] at ra; obtain ⟨p, vs, n, rfl, _⟩ := ra; simp [ev1] at e; subst e; exact .bool0
  | ref k => rw [VR] at ra; obtain ⟨l, _, rfl⟩ := ra; simp [ev1] at e; subst e; exact .bool0
  | exc c => rw [VR] at ra; obtain ⟨p, o, rfl, _⟩ := ra; simp [ev1] at e; subst e; exact .bool0
  | parts =>
    rw [VR] at ra; obtain ⟨_, rfl⟩ := ra; simp [ev1] at e; subst e
    have : (S.parts == Value.none) = false := by simpa using hp
    rw [this]; exact .bool0
  | undef => rw [VR] at ra; exact ra.elim
theorem zDH {a x : V} {va : Value} (e : ev1 .isNotNone σ a = some x) (ra : VR S X f s.heap a va) (hp : S.parts ≠ .none) :
    wpAny (model S.prog S.w) A (compareOp .IsNot va .none) (PE S X f s x) E s := by
  refine isNot_none ?_
  cases a with
  | none => obtain rfl := zCv ra; simp [ev1] at e; subst e; exact .bool0
  | bool b => obtain rfl := zAt ra; simp [ev1] at e; subst e; exact .bool0
  | int i => obtain ⟨t, rfl⟩ := zAW ra; simp [ev1] at e; subst e; exact .bool0
  | str y => obtain ⟨⟨t, rfl⟩, _⟩ := zAR ra; simp [ev1] at e; subst e; exact .bool0
  | tup xs => obtain ⟨p, vs, n, rfl, _⟩ := zBb ra; simp [ev1] at e; subst e; exact .bool0
  | lst xs => rw [VR] at ra; obtain ⟨p, vs, n, rfl, _⟩ := ra; simp [ev1] at e; subst e; exact .bool0
  | ref k => rw [VR] at ra; obtain ⟨l, _, rfl⟩ := ra; simp [ev1] at e; subst e; exact .bool0
  | exc c => rw [VR] at ra; obtain ⟨p, o, rfl, _⟩ := ra; simp [ev1] at e; subst e; exact .bool0
  | parts =>
    rw [VR] at ra; obtain ⟨_, rfl⟩ := ra; simp [ev1] at e; subst e
    have : (S.parts == Value.none) = false := by simpa using hp
    rw [this]; exact .bool0
  | undef => rw [VR] at ra; exact ra.elim
noncomputable def tyName : Kd → String
  | .int => "int" | .bool => "bool" | .str => "str" | .list => "list" | .tuple => "tuple" | .exc _ => "ValueError"
theorem of_pe {x a : V} {t : Sem Value} (e : some a = some x) (h : wpAny (model S.prog S.w) A t (PE S X f s a) E s) : wpAny (model S.prog S.w) A t (PE S X f s x) E s := Option.some.inj e ▸ h
theorem sub_ve (c : Cls) : c.sub .ValueError = true := by cases c <;> rfl
theorem zFp {a x : V} {va : Value} {k : Kd}
    (hk : ∀ c, k = .exc c → c = .ValueError)
    (L : Lk S X f σ s.heap) (e : ev1 (.isInst k) σ a = some x) (ra : VR S X f s.heap a va) :
    wpAny (model S.prog S.w) A (call (.builtin "isinstance") [va, .type (tyName k)]) (PE S X f s x) E s := by
  cases a with
  | undef => first | exact zAA e | exact ff_tt e | cases e
  | parts => first | exact zAA e | exact ff_tt e | cases e
  | exc c =>
    cases k with
    | exc d =>
      obtain rfl := hk d rfl
      rw [VR] at ra
      obtain ⟨p, o, rfl, -, e3, e4, e5⟩ := ra
      obtain ⟨Ca, bm, N, nm, qn, bs, hdct, sn, sub, ab, col, dd, k0, k1, k2, k3, k5, mN, hcl, hC, hN, hni, OT, hm, TC⟩ := e5
      obtain ⟨hp, g, d, tk, os⟩ := s
      refine of_pe e (isi_ve (L.base _ _ hC) (TC.keeps L.base) e3 (e4.trans hcl) ?_)
      rw [sub_ve]
      exact .bool0
    | _ => exact zAA e
  | none =>
    obtain rfl := zCv ra
    cases k <;> first | exact zAA e | skip
    · exact of_pe e (IsiPair.NoneType_int .bool)
    · exact of_pe e (IsiPair.NoneType_bool .bool)
    · exact of_pe e (IsiPair.NoneType_str .bool)
    · exact of_pe e (IsiPair.NoneType_list .bool)
    · exact of_pe e (IsiPair.NoneType_tuple .bool)
  | bool b =>
    obtain rfl := zAt ra
    cases k <;> first | exact zAA e | skip
    · exact of_pe e (IsiPair.bool_int .bool0)
    · exact of_pe e (IsiPair.bool_bool .bool0)
    · exact of_pe e (IsiPair.bool_str .bool)
    · exact of_pe e (IsiPair.bool_list .bool)
    · exact of_pe e (IsiPair.bool_tuple .bool)
  | int i =>
    obtain ⟨t, rfl⟩ := zAW ra
    cases k <;> first | exact zAA e | skip
    · exact of_pe e (IsiPair.int_int .bool0)
    · exact of_pe e (IsiPair.int_bool .bool)
    · exact of_pe e (IsiPair.int_str .bool)
    · exact of_pe e (IsiPair.int_list .bool)
    · exact of_pe e (IsiPair.int_tuple .bool)
  | str y =>
    obtain ⟨⟨t, rfl⟩, _⟩ := zAR ra
    cases k <;> first | exact zAA e | skip
    · exact of_pe e (IsiPair.str_int .bool)
    · exact of_pe e (IsiPair.str_bool .bool)
    · exact of_pe e (IsiPair.str_str .bool0)
    · exact of_pe e (IsiPair.str_list .bool)
    · exact of_pe e (IsiPair.str_tuple .bool)
  | tup xs =>
    obtain ⟨p, vs, n, rfl, _, il, _⟩ := zBb ra
    cases k <;> first | exact zAA e | skip
    · exact of_pe e (IsiPair.tuple_int il rfl .bool)
    · exact of_pe e (IsiPair.tuple_bool il rfl .bool)
    · exact of_pe e (IsiPair.tuple_str il rfl .bool)
    · exact of_pe e (IsiPair.tuple_list il rfl .bool)
    · exact of_pe e (IsiPair.tuple_tuple il rfl .bool0)
  | lst xs =>
    obtain ⟨p, vs, n, rfl, il, _⟩ := zAU L (x := .lst xs) rfl ra
    cases k <;> first | exact zAA e | skip
    · exact of_pe e (IsiPair.list_int il rfl .bool)
    · exact of_pe e (IsiPair.list_bool il rfl .bool)
    · exact of_pe e (IsiPair.list_str il rfl .bool)
    · exact of_pe e (IsiPair.list_list il rfl .bool0)
    · exact of_pe e (IsiPair.list_tuple il rfl .bool)
  | ref m =>
    cases ho : σ[m]? with
    | none => have e : (refK σ[m]? k).map V.bool = some x := e; rw [ho] at e; cases e
    | some o =>
      cases o with
      | list ys =>
        obtain ⟨p, vs, n, rfl, il, _⟩ := zAU L (x := .ref m) (xs := ys) (by simp [listOf?, ho, listR]) ra
        have e : (refK σ[m]? k).map V.bool = some x := e
        rw [ho] at e
        cases k <;> first | exact zAA e | skip
        · exact of_pe e (IsiPair.list_int il rfl .bool)
        · exact of_pe e (IsiPair.list_str il rfl .bool)
        · exact of_pe e (IsiPair.list_list il rfl .bool0)
        · exact of_pe e (IsiPair.list_tuple il rfl .bool)
      | dict es => have e : (refK σ[m]? k).map V.bool = some x := e; rw [ho] at e; cases e
      | inst es => have e : (refK σ[m]? k).map V.bool = some x := e; rw [ho] at e; cases e
end
end Mine
end

/-! # Ops6 -/
section
set_option autoImplicit false
namespace Mine
open PySem PyProof.Rows
section
variable {S : Stat} {A : Around} {X : List Addr} {f : List Loc} {σ : Sto} {s : Shared} {E : Value → Shared → Prop}
theorem all_sound {a x : V} {va : Value} (hh : A.handled = none) (L : Lk S X f σ s.heap) (e : ev1 .all σ a = some x) (ra : VR S X f s.heap a va) :
    wpAny (model S.prog S.w) A (call (.builtin "all") [va]) (PE S X f s x) E s := by
  delta ev1 at e; dsimp only at e
  cases h1 : listOf? σ a with
  | none => first | (rw [h1] at e; exact zAA e) | simp [h1] at e
  | some xs =>
    cases h2 : bools? xs with
    | none => first | (rw [h1, h2] at e; exact zAA e) | (rw [h1, Option.bind_some, h2] at e; exact zAA e) | simp [h1, h2] at e
    | some l =>
      simp [h1, h2] at e
      subst e
      obtain ⟨p, vs, n, rfl, il, r, _⟩ := zAU L h1 ra
      have hv := zHV h2 r
      have hlist := IsL.isList il
      have hlt : p < s.heap.objs.size := Heap.lt_size il
      refine call_all_walk (wpAny_pyIter_list hlist ?_)
      refine ⟨s.heap.objs.size, _, _, vs.size, _, _, fun i => (l[i]?).getD true, rfl, Walks.list (A := A.in1) hh s.heap.objs.size p (Nat.ne_of_lt hlt) vs,
        ⟨⟨_, Heap.get?_push_size _ rfl, rfl, rfl⟩, hlist.push _⟩, ?_, fun h' tk k => ?_⟩
      · intro i v s₁ Q E' hP hQ
        rw [← Array.getElem?_toList, hv, List.getElem?_map] at hP
        cases hl : l[i]? with
        | none => rw [hl] at hP; first | exact zAA hP | exact ff_tt hP | cases hP
        | some b => rw [hl] at hP; cases hP; exact wpAny_truthy_bool (by simpa [hl] using hQ)
      · have hz : vs.size = l.length := by rw [← Array.length_toList, hv, List.length_map]
        rw [hz, zDU]
        exact .boolH (old_kept k)
theorem zGA (l : List Str) (x : Str) (ys : List (Str × Tok)) (h : ys.map (·.1) = l) : (ys.map fun p => Value.str p.1 p.2).any (fun y => match y with | .str z _ => z.cps.toList == x.cps.toList | _ => false) = l.contains x := by
  subst h
  induction ys with
  | nil => rfl
  | cons p ps ih =>
    simp only [List.map_cons, List.any_cons, List.contains_cons, ih]
    congr 1
    rw [Bool.eq_iff_iff]
    constructor
    · intro h
      have : p.1.cps.toList = x.cps.toList := beq_iff_eq.mp h
      have : p.1 = x := by cases hp : p.1; cases hx : x; rw [hp, hx] at this; simp at this; rw [this]
      simp [this]
    · intro h
      rw [beq_iff_eq.mp h]; simp
theorem zFr {y : Str} {u : Tok} {xs : List V} {l : List Str} {p : Addr} {vs : Array Value} {n : Nat} (il : IsL s.heap p vs n ∨ IsT s.heap p vs n) (r : VRs S X f s.heap xs vs.toList) (h2 : strs? xs = some l) :
    wpAny (model S.prog S.w) A (compareOp .In (.str y u) (.ref p)) (PE S X f s (.bool (l.contains y))) E s ∧ wpAny (model S.prog S.w) A (compareOp .NotIn (.str y u) (.ref p)) (PE S X f s (.bool !(l.contains y))) E s := by
  obtain ⟨ys, e1, e2, _⟩ := strs_at h2 r
  have hany : vs.any (fun y' => match y' with | .str z _ => z.cps.toList == y.cps.toList | _ => false) = l.contains y := by
    rw [← zGA l y ys e2, ← e1]
    exact (Array.any_toList ..).symm
  have he : ∀ v, v ∈ vs → MeetsSeq.EqGives v (.str y u) (match v with | .str z _ => z.cps.toList == y.cps.toList | _ => false) := by
    intro v hv
    have : v ∈ vs.toList := by simpa using hv
    rw [e1] at this
    obtain ⟨q, _, rfl⟩ := List.mem_map.mp this
    exact SeqRoads2.EqGives.str q.1 y q.2 u
  rcases il with il | il
  · exact ⟨SeqRoads2.in_list _ he il (by rw [hany]; exact .bool0), SeqRoads2.notIn_list _ he il (by rw [hany]; exact .bool0)⟩
  · exact ⟨SeqRoads2.in_tuple _ he il (by rw [hany]; exact .bool0), SeqRoads2.notIn_tuple _ he il (by rw [hany]; exact .bool0)⟩
theorem zFq {x y : Str} {c : Nat} {t u : Tok} (hc : codes x = [c]) :
    wpAny (model S.prog S.w) A (compareOp .In (.str x t) (.str y u)) (PE S X f s (.bool ((codes y).contains c))) E s ∧ wpAny (model S.prog S.w) A (compareOp .NotIn (.str x t) (.str y u)) (PE S X f s (.bool !((codes y).contains c))) E s := by
  have hx : x = ⟨#[c]⟩ := by cases x with | mk a => simp [codes] at hc; rw [show a = #[c] from Array.toList_inj.mp hc]
  subst hx
  have e : (!(Builtin.Str.occurrences y ⟨#[c]⟩ 0 y.length 1).isEmpty) = (codes y).contains c := by
    rw [StrLaws.found_one]
    rw [Bool.eq_iff_iff]; simp [codes]
  exact ⟨PyProof.Rows.in_str (by rw [e]; exact .bool0), PyProof.Rows.notIn_str (by rw [e]; exact .bool0)⟩
noncomputable def PartsAt (S : Stat) (h : Heap) : Prop := S.hasParts = true → ∃ d g, S.parts = .ref d ∧ (d == sysModules) = false ∧ h.MapOf (strKind S.prog S.w) d g ∧ ∀ x, ∃ t, g x = ((partsTable.find? fun p => p.1 == x).map fun p => Value.int p.2 t)
theorem zFE (x : Str) : ((partsTable.find? fun p => p.1 == x).map fun p => p.2).isSome = partsTable.any fun p => p.1 == x := by
  rw [Option.isSome_map, Bool.eq_iff_iff, List.find?_isSome, List.any_eq_true]
theorem zDW {x : Str} {t : Tok} (hp : PartsAt S s.heap) (hh : S.hasParts = true) :
    wpAny (model S.prog S.w) A (compareOp .In (.str x t) S.parts) (PE S X f s (.bool (partsTable.any fun p => p.1 == x))) E s ∧ wpAny (model S.prog S.w) A (compareOp .NotIn (.str x t) S.parts) (PE S X f s (.bool !(partsTable.any fun p => p.1 == x))) E s := by
  obtain ⟨d, g, e, hd, hm, hg⟩ := hp hh
  rw [e]
  obtain ⟨tk, hgx⟩ := hg x
  have hs : (g x).isSome = partsTable.any fun p => p.1 == x := by rw [hgx, ← zFE x, Option.isSome_map, Option.isSome_map]
  have hk : (strKind S.prog S.w).is x (.str x t) = true := by show Value.isStrOf x (.str x t) = true; simp [Value.isStrOf]
  exact ⟨wpAny_in_of hk hd hm (by rw [hs]; exact .bool), wpAny_notIn_of hk hd hm (by rw [hs]; exact .bool)⟩
theorem zHG {a b : V} {va vb : Value} {r : Bool} (hp : PartsAt S s.heap) (L : Lk S X f σ s.heap) (e : inV σ a b = some r) (ra : VR S X f s.heap a va) (rb : VR S X f s.heap b vb) :
    wpAny (model S.prog S.w) A (compareOp .In va vb) (PE S X f s (.bool r)) E s ∧ wpAny (model S.prog S.w) A (compareOp .NotIn va vb) (PE S X f s (.bool !r)) E s := by
  cases a with
  | str x =>
    obtain ⟨⟨t, rfl⟩, _⟩ := zAR ra
    have gen : ∀ {xs : List V}, itemsOf σ b = some xs → ((strs? xs).map fun l => l.contains x) = some r →
        wpAny (model S.prog S.w) A (compareOp .In (.str x t) vb) (PE S X f s (.bool r)) E s ∧ wpAny (model S.prog S.w) A (compareOp .NotIn (.str x t) vb) (PE S X f s (.bool !r)) E s := by
      intro xs h1 h2
      obtain ⟨p, vs, n, rfl, il, rs, _⟩ := zBr L h1 rb
      cases h3 : strs? xs with
      | none => first | (rw [h3] at h2; exact zAA h2) | simp [h3] at h2
      | some l => rw [h3, Option.map_some, Option.some.injEq] at h2; subst h2; exact zFr il rs h3
    cases b with
    | str y =>
      obtain ⟨⟨u, rfl⟩, _⟩ := zAR rb
      delta inV at e; dsimp only at e
      split at e
      · rename_i c hc; cases e; exact zFq hc
      · first | exact zAA e | exact ff_tt e | cases e
    | parts => rw [VR] at rb; obtain ⟨hh, rfl⟩ := rb; cases e; exact zDW hp hh
    | tup xs => exact gen rfl e
    | lst xs => exact gen rfl e
    | ref k =>
      delta inV at e; dsimp only at e
      cases h1 : itemsOf σ (.ref k) with
      | none => first | (rw [h1] at e; exact zAA e) | simp [h1] at e
      | some xs => simp only [h1, Option.bind_some] at e; exact gen h1 e
    | _ => first | exact zAA e | exact ff_tt e | cases e
  | _ => first | exact zAA e | exact ff_tt e | cases e
theorem zDK {y : Str} {i : Int} {t u : Tok} {k : Nat} {c : Nat} (hl : y.length ≤ LIM) (hok : PyData.strOk y = true) (h1 : normIndex y.length i = some k) (h2 : (codes y)[k]? = some c) :
    wpAny (model S.prog S.w) A (getItem (.str y t) (.int i u)) (PE S X f s (.str (mkS [c]))) E s := by
  obtain ⟨g1, g2, g3, g4⟩ := zBd h1
  have hll := zAs hl
  refine PyProof.Rows.getItem_str (c := c) ?_ ?_ ?_
  · by_cases h0 : 0 ≤ i
    · have := g3 h0; simp; omega
    · have := g4 (by omega); simp; omega
  · rw [g1]; simpa [codes] using h2
  · have hc : c < 0x110000 := by
      have hm : c ∈ y.cps.toList := List.mem_of_getElem? h2
      have := Array.all_eq_true.mp hok
      obtain ⟨j, hj, rfl⟩ := List.getElem_of_mem hm
      have := this j (by simpa using hj)
      simpa using this
    have : PyData.strOk (mkS [c]) = true := by simp [PyData.strOk, mkS, hc]
    exact PE.str (s := s) (by simp [mkS, Str.length]; decide) this
theorem zHQ {h : Heap} {i : Int} {x : V} : ∀ {es : List (Int × V)} {kvs : List (Int × Value)}, ((es.find? fun p => p.1 == i).map fun p => p.2) = some x → kvs.map (·.1) = es.map (·.1) → VRs S X f h (es.map (·.2)) (kvs.map (·.2)) → ∃ v, valueAt kvs i = some v ∧ VR S X f h x v
  | [], _, e, _, _ => zAA e
  | q :: qs, [], _, hk, _ => by cases hk
  | q :: qs, r :: rs, e, hk, hv => by
    simp only [List.map_cons, List.cons.injEq] at hk
    rw [List.map_cons, List.map_cons, VRs] at hv
    rw [List.find?_cons] at e
    unfold valueAt
    rw [List.find?_cons, hk.1]
    by_cases hq : q.1 = i
    · rw [hq, beq_self_eq_true] at e
      rw [hq, decide_eq_true rfl]
      cases e
      exact ⟨_, rfl, hv.1⟩
    · rw [beq_eq_false_iff_ne.mpr hq] at e
      rw [decide_eq_false hq]
      exact zHQ e hk.2 hv.2
inductive IxInv (σ : Sto) (x : V) : V → V → Prop
  | str (y : Str) (i : Int) (k c : Nat) (h4 : normIndex y.length i = some k) (h5 : (codes y)[k]? = some c) (ex : V.str (mkS [c]) = x) : IxInv σ x (.str y) (.int i)
  | seq (a : V) (xs : List V) (i : Int) (k : Nat) (h1 : itemsOf σ a = some xs) (h4 : normIndex xs.length i = some k) (h3 : xs[k]? = some x) : IxInv σ x a (.int i)
  | dict (n : Nat) (es : List (Int × V)) (i : Int) (ho : σ[n]? = some (.dict es)) (h : ((es.find? fun p => p.1 == i).map fun p => p.2) = some x) : IxInv σ x (.ref n) (.int i)
  | parts (y : Str) (h : ((partsTable.find? fun p => p.1 == y).map fun p => V.int p.2) = some x) : IxInv σ x .parts (.str y)
theorem ixSeq {σ : Sto} {a x : V} {xs : List V} {i : Int} (h1 : itemsOf σ a = some xs) (h : ((normIndex xs.length i).bind fun k => xs[k]?) = some x) : IxInv σ x a (.int i) := by
  obtain ⟨k, h4, h3⟩ := Option.bind_eq_some_iff.mp h
  exact .seq a xs i k h1 h4 h3
theorem ixRef {σ : Sto} {n : Nat} {x : V} {i : Int} (e : ev2 .index σ (.ref n) (.int i) = some x) : IxInv σ x (.ref n) (.int i) := by
  delta ev2 at e; dsimp only at e
  cases ho : σ[n]? with
  | none => rw [ho] at e; exact zAA e
  | some ob =>
    rw [ho] at e
    cases ob with
    | list xs => exact ixSeq (xs := xs) (by delta itemsOf; dsimp only; rw [ho]) e
    | dict es => exact .dict n es i ho e
    | inst _ => first | exact zAA e | exact ff_tt e | cases e
theorem ixInv {σ : Sto} {a b x : V} (e : ev2 .index σ a b = some x) : IxInv σ x a b := by
  cases b with
  | int i =>
    cases a with
    | str y =>
      obtain ⟨k, h4, e⟩ := Option.bind_eq_some_iff.mp (show ((normIndex y.length i).bind fun k => (codes y)[k]?.map fun c => V.str (mkS [c])) = some x from e)
      obtain ⟨c, h5, ex⟩ := Option.map_eq_some_iff.mp e
      exact .str y i k c h4 h5 ex
    | ref n => exact ixRef e
    | tup xs => exact ixSeq rfl e
    | lst xs => exact ixSeq rfl e
    | _ => first | exact zAA e | exact ff_tt e | cases e
  | str y =>
    cases a with
    | parts => exact .parts y e
    | _ => first | exact zAA e | exact ff_tt e | cases e
  | _ => cases a <;> exact zAA e
theorem zGa {a b x : V} {va vb : Value} (hp : PartsAt S s.heap) (L : Lk S X f σ s.heap) (e : ev2 .index σ a b = some x) (ra : VR S X f s.heap a va) (rb : VR S X f s.heap b vb) :
    wpAny (model S.prog S.w) A (getItem va vb) (fun v s' => Ext s s' ∧ VR S X f s'.heap x v) E s := by
  have q := ixInv e
  clear e
  cases q with
  | str y i k c h4 h5 ex =>
    obtain ⟨⟨t, rfl⟩, l1, l2⟩ := zAR ra
    obtain ⟨u, rfl⟩ := zAW rb
    subst ex
    exact wpAny_mono (zDK l1 l2 h4 h5) (fun v s' q => ⟨q.1, q.2.1⟩) fun _ _ q => q
  | seq a xs i k h1 h4 h3 =>
    obtain ⟨u, rfl⟩ := zAW rb
    obtain ⟨p, vs, n, rfl, il, rs, l⟩ := zBr L h1 ra
    exact wpAny_mono (zGb il rs l h4 h3) (fun v s' q => by obtain ⟨rfl, q⟩ := q; exact ⟨.refl _, q⟩) fun _ _ q => q
  | dict n es i ho h =>
    obtain ⟨u, rfl⟩ := zAW rb
    rw [VR] at ra
    obtain ⟨l, hl, rfl⟩ := ra
    have ob := L.obj n l _ hl ho
    obtain ⟨p, d⟩ := l
    cases d with
    | some d => exact ob.elim
    | none =>
      obtain ⟨kvs, hd, hk, hv, hlen⟩ := ob
      obtain ⟨v, h1, h2⟩ := zHQ h hk hv
      exact wpAny_getItem_of (knd := intKind S.prog S.w) (k := i) (by show Value.isInt i (.int i u) = true; simp [Value.isInt]) hd.mapOf h1 ⟨.toks s _, h2⟩
  | parts y h =>
    rw [VR] at ra; obtain ⟨hh, rfl⟩ := ra
    obtain ⟨⟨u, rfl⟩, _⟩ := zAR rb
    obtain ⟨d, g, h1, hd, hm, hg⟩ := hp hh
    obtain ⟨tk, hgx⟩ := hg y
    obtain ⟨q, h2, rfl⟩ := Option.map_eq_some_iff.mp h
    rw [h2] at hgx
    rw [h1]
    exact wpAny_getItem_of (knd := strKind S.prog S.w) (k := y) (by show Value.isStrOf y (.str y u) = true; simp [Value.isStrOf]) hm hgx ⟨.toks s _, by rw [VR]; exact ⟨tk, rfl⟩⟩
end
end Mine
end

/-! # OpsS -/
section
set_option autoImplicit false
namespace Mine
open PySem PyProof.Rows Builtin Builtin.Str
theorem zDV (s : String) : PyData.strOk (Str.ofString s) = true := by
  rw [Str.ofString_eq_toList]
  unfold PyData.strOk
  rw [Array.all_eq_true']
  intro c hc
  simp only [List.mem_toArray, List.mem_map] at hc
  obtain ⟨ch, _, rfl⟩ := hc
  have := ch.valid
  simp only [decide_eq_true_eq]
  rcases this with h | h
  · have : ch.toNat < 55296 := h
    omega
  · exact h.2
theorem zCx {x : Str} (h : PyData.strOk x = true) (i j : Nat) : PyData.strOk (strSub x i j) = true := by
  unfold PyData.strOk at h ⊢
  rw [Array.all_eq_true'] at h ⊢
  intro c hc
  refine h c ?_
  have hc : c ∈ x.cps.extract i j := hc
  rw [Array.mem_extract_iff_getElem] at hc
  obtain ⟨k, hk, e⟩ := hc
  exact e ▸ Array.getElem_mem _
section
variable {S : Stat} {A : Around} {X : List Addr} {f : List Loc} {σ : Sto} {s : Shared} {E : Value → Shared → Prop}
theorem lt_pow2 {n k m : Nat} (h : n < 10 ^ k) (hm : 4 * k ≤ m) : n < 2 ^ m :=
  Nat.lt_of_lt_of_le h (Nat.le_trans (Nat.pow_le_pow_left (by decide : 10 ≤ 2 ^ 4) k) (by rw [← Nat.pow_mul]; exact Nat.pow_le_pow_right (by decide) hm))
theorem zGI {a x : V} {va : Value} (e : ev1 .toStr σ a = some x) (ra : VR S X f s.heap a va) : wpAny (model S.prog S.w) A (call (.type "str") [va]) (PE S X f s x) E s := by
  cases a with
  | int i =>
    obtain ⟨t, rfl⟩ := zAW ra
    have e : (if 0 ≤ i ∧ i < 10 ^ 100 then some (V.str (Str.ofString (toString i))) else none) = some x := e
    split at e
    · rename_i hi
      cases e
      refine PySem.P.str_of_int ?_ (.str ?_ (zDV _))
      · by_cases h0 : i.natAbs = 0
        · rw [h0]; decide
        · rw [Nat.log2_lt h0]
          have : i.natAbs < 10 ^ 100 := by omega
          exact lt_pow2 (k := 100) this (by decide)
      · exact Nat.le_trans (toString_length_le hi.1 (k := 100) (by decide) hi.2) (by decide)
    · first | exact zAA e | exact ff_tt e | cases e
  | _ => first | exact zAA e | exact ff_tt e | cases e
theorem zGs {h : Heap} : ∀ {xs : List V} {vs : List Value} {l : List Str}, VRs S X f h xs vs → strs? xs = some l → StrsAre vs l
  | [], [], l, _, e => by cases e; exact .nil
  | x :: xs, v :: vs, l, r, e => by
    rw [VRs] at r
    unfold strs? at e
    rw [List.mapM_cons] at e
    cases x with
    | str y =>
      cases e2 : xs.mapM strOf? with
      | none => rw [e2] at e; cases e
      | some l' =>
        rw [e2] at e
        cases e
        obtain ⟨⟨t, rfl⟩, _⟩ := zAR r.1
        exact .cons y t (zGs r.2 e2)
    | _ => first | exact zAA e | exact ff_tt e | cases e
  | [], _ :: _, _, r, _ => by rw [VRs] at r; exact r.elim
  | _ :: _, [], _, r, _ => by rw [VRs] at r; exact r.elim
theorem zBf : PyData.strOk Str.empty = true := by unfold PyData.strOk Str.empty; simp
theorem zDd {sep : Str} (hs : PyData.strOk sep = true) : ∀ {l : List Str}, (∀ x ∈ l, PyData.strOk x = true) → PyData.strOk (Str.join sep l) = true
  | [], _ => zBf
  | [x], h => h x List.mem_cons_self
  | x :: y :: r, h => by
    show PyData.strOk (x ++ sep ++ Str.join sep (y :: r)) = true
    exact zBO (zBO (h x List.mem_cons_self) hs) (zDd hs fun z hz => h z (List.mem_cons_of_mem _ hz))
theorem strs_ok {h : Heap} : ∀ {xs : List V} {vs : List Value} {l : List Str}, VRs S X f h xs vs → strs? xs = some l → ∀ x ∈ l, PyData.strOk x = true
  | [], [], l, _, e => by cases e; intro x hx; cases hx
  | x :: xs, v :: vs, l, r, e => by
    rw [VRs] at r
    unfold strs? at e
    rw [List.mapM_cons] at e
    cases x with
    | str y =>
      cases e2 : xs.mapM strOf? with
      | none => rw [e2] at e; cases e
      | some l' =>
        rw [e2] at e
        cases e
        obtain ⟨_, _, hk⟩ := zAR r.1
        intro z hz
        rcases List.mem_cons.mp hz with rfl | hz
        · exact hk
        · exact strs_ok r.2 e2 z hz
    | _ => first | exact zAA e | exact ff_tt e | cases e
  | [], _ :: _, _, r, _ => by rw [VRs] at r; exact r.elim
  | _ :: _, [], _, r, _ => by rw [VRs] at r; exact r.elim
theorem join_sound {a b x : V} {va vb : Value} (L : Lk S X f σ s.heap) (e : ev2 .join σ a b = some x) (ra : VR S X f s.heap a va) (rb : VR S X f s.heap b vb) :
    wpAny (model S.prog S.w) A (call (.builtin "str.join") [va, vb]) (PE S X f s x) E s := by
  have e : joinV σ a b = some x := e
  unfold joinV at e
  simp only [Option.bind_eq_some_iff] at e
  obtain ⟨sep, h1, xs, h2, l, h3, e⟩ := e
  split at e
  · rename_i hl
    cases e
    cases a with
    | str y =>
      cases h1
      obtain ⟨⟨t, rfl⟩, _, hk⟩ := zAR ra
      obtain ⟨p, vs, n, rfl, il, rs, _⟩ := zAU L h2 rb
      refine join_list (IsL.isList il) (zGs rs h3) (by omega) fun t' k => .str ?_ ?_
      · show (glued sep l).length ≤ LIM
        rw [StrLaws.glued_eq_join]
        have := StrLaws.join_length_le sep l
        simp only [LIM]; omega
      · show PyData.strOk (glued sep l) = true
        rw [StrLaws.glued_eq_join]
        exact zDd hk (strs_ok rs h3)
    | _ => first | exact zAA h1 | exact ff_tt h1 | cases h1
  · first | exact zAA e | exact ff_tt e | cases e
theorem zGo {h : Heap} {n : Nat} (hn : n ≤ LIM) : ∀ (l : List Str) (t : Tok), (∀ x ∈ l, x.length ≤ n ∧ PyData.strOk x = true) → VRs S X f h (l.map V.str) (strsFrom t l)
  | [], t, _ => by rw [List.map_nil]; show VRs _ _ _ _ [] []; rw [VRs]; trivial
  | x :: l, t, hx => by
    show VRs _ _ _ _ (V.str x :: l.map V.str) (.str x t :: strsFrom (t + 1) l)
    rw [VRs]
    have := hx x List.mem_cons_self
    exact ⟨by rw [VR]; exact ⟨⟨t, rfl⟩, Nat.le_trans this.1 hn, this.2⟩, zGo hn l (t + 1) fun z hz => hx z (List.mem_cons_of_mem _ hz)⟩
theorem zHb {x y a : Str} (hx : PyData.strOk x = true) (h : a ∈ Txt.split x y) : PyData.strOk a = true := by
  unfold Txt.split at h
  split at h
  · rw [List.mem_singleton.mp h]; exact hx
  · split at h
    · rw [List.mem_singleton.mp h]; exact hx
    · obtain ⟨p, _, rfl⟩ := List.mem_map.mp h
      exact zCx hx _ _
theorem zCy {x y : Str} : (partsBetween x (occurrences x y 0 x.length (x.length + 1)) y.length).length ≤ x.length + 2 := by
  rw [length_partsBetween]
  have := StrLaws.occ_length_le x y 0 x.length (x.length + 1)
  omega
theorem zGM {a b x : V} {va vb : Value} (L : Lk S X f σ s.heap) (e : ev2 .split σ a b = some x) (ra : VR S X f s.heap a va) (rb : VR S X f s.heap b vb) :
    wpAny (model S.prog S.w) A (call (.builtin "str.split") [va, vb]) (PE S X f s x) E s := by
  have e : splitV a b = some x := e
  unfold splitV at e
  simp only [Option.bind_eq_some_iff] at e
  obtain ⟨y, h1, z, h2, e⟩ := e
  split at e
  · first | exact zAA e | exact ff_tt e | cases e
  rename_i hc
  simp only [Bool.or_eq_true, not_or, Bool.not_eq_true, decide_eq_true_eq] at hc
  obtain ⟨hz, hl⟩ := hc
  cases e
  cases a <;> cases h1
  cases b <;> cases h2
  obtain ⟨⟨t, rfl⟩, _, hk⟩ := zAR ra
  obtain ⟨⟨u, rfl⟩, _⟩ := zAR rb
  have hyl : y.length ≤ 10000 := by omega
  have hL : (10000 : Nat) ≤ LIM := by decide
  have hS : (10002 : Nat) ≤ sizeLine := by decide
  have hlen : ∀ p ∈ Txt.split y z, p.length ≤ 10000 ∧ PyData.strOk p = true := fun p hp => ⟨Nat.le_trans (part_short hp) hyl, zHb hk hp⟩
  have self : VRs S X f s.heap [V.str y] [.str y t] := by rw [VRs, VRs]; exact ⟨ra, trivial⟩
  cases h1 : (decide (y.length < z.length) || decide (strKind y < strKind z))
  · cases hf : (occurrences y z 0 y.length (y.length + 1)).isEmpty
    · have hT : Txt.split y z = partsBetween y (occurrences y z 0 y.length (y.length + 1)) z.length := by unfold Txt.split; rw [if_neg (by rw [h1]; simp), if_neg (by rw [hf]; simp)]
      refine call_meets F.slot_str_split (typeIs_str _ _ _) F.entry_str_split (F.args_str_split_2 _ _) (meets_str_split_sep y z t u h1 hz hf (by omega) (Nat.le_trans zCy (by omega))) ?_
      rw [← hT]
      have hn : (Txt.split y z).length ≤ LIM := by rw [hT]; exact Nat.le_trans zCy (by simp only [LIM]; omega)
      exact zBG (tk := s.toks + (Txt.split y z).length) L (zGo hL _ _ hlen) (by simpa using hn)
    · have hT : Txt.split y z = [y] := by unfold Txt.split; rw [if_neg (by rw [h1]; simp), if_pos hf]
      rw [hT]
      exact call_meets F.slot_str_split (typeIs_str _ _ _) F.entry_str_split (F.args_str_split_2 _ _) (meets_str_split_not_found y z t u h1 hz hf) (zBG (tk := s.toks) L self (by show 1 ≤ LIM; decide))
  · have hT : Txt.split y z = [y] := by unfold Txt.split; rw [if_pos h1]
    rw [hT]
    exact call_meets F.slot_str_split (typeIs_str _ _ _) F.entry_str_split (F.args_str_split_2 _ _) (meets_str_split_cannot_occur y z t u h1) (zBG (tk := s.toks) L self (by show 1 ≤ LIM; decide))
theorem zGL {a b x : V} {va vb : Value} (e : ev2 .startswith σ a b = some x) (ra : VR S X f s.heap a va) (rb : VR S X f s.heap b vb) :
    wpAny (model S.prog S.w) A (call (.builtin "str.startswith") [va, vb]) (PE S X f s x) E s := by
  have e : startV a b = some x := e
  unfold startV at e
  simp only [Option.bind_eq_some_iff, Option.map_eq_some_iff] at e
  obtain ⟨y, h1, z, h2, rfl⟩ := e
  cases a <;> cases h1
  cases b <;> cases h2
  obtain ⟨⟨t, rfl⟩, -⟩ := zAR ra
  obtain ⟨⟨u, rfl⟩, -⟩ := zAR rb
  exact PySem.SC.startswith .bool0
theorem part_sound {a b x : V} {va vb : Value} (L : Lk S X f σ s.heap) (e : ev2 .partition σ a b = some x) (ra : VR S X f s.heap a va) (rb : VR S X f s.heap b vb) :
    wpAny (model S.prog S.w) A (call (.builtin "str.partition") [va, vb]) (PE S X f s x) E s := by
  have e : partV a b = some x := e
  unfold partV at e
  simp only [Option.bind_eq_some_iff] at e
  obtain ⟨y, h1, z, h2, e⟩ := e
  split at e
  · first | exact zAA e | exact ff_tt e | cases e
  rename_i hc
  simp only [Bool.or_eq_true, not_or, Bool.not_eq_true, decide_eq_true_eq] at hc
  obtain ⟨hz, hl⟩ := hc
  cases e
  cases a <;> cases h1
  cases b <;> cases h2
  obtain ⟨⟨t, rfl⟩, ly, hk⟩ := zAR ra
  obtain ⟨⟨u, rfl⟩, lz, hkz⟩ := zAR rb
  have hS : (10002 : Nat) ≤ sizeLine := by decide
  refine call_meets F.slot_str_partition (typeIs_str _ _ _) F.entry_str_partition (F.args_str_partition_2 _ _) (meets_str_partition y z t u hz (by omega)) ?_
  have vs : ∀ (w : Str) (tk : Tok), w.length ≤ LIM → PyData.strOk w = true → VR S X f s.heap (.str w) (.str w tk) := fun w tk h1 h2 => by rw [VR]; exact ⟨⟨tk, rfl⟩, h1, h2⟩
  unfold Txt.partition
  cases occurrences y z 0 y.length 1 with
  | nil =>
    refine zBP (tk := s.toks + 1) L ?_ (by show 3 ≤ LIM; decide)
    rw [VRs, VRs, VRs, VRs]
    exact ⟨ra, vs Str.empty _ (by show 0 ≤ LIM; decide) zBf, vs Str.empty _ (by show 0 ≤ LIM; decide) zBf, trivial⟩
  | cons i r =>
    refine zBP (tk := s.toks + 1 + 1) L ?_ (by show 3 ≤ LIM; decide)
    rw [VRs, VRs, VRs, VRs]
    exact ⟨vs _ _ (Nat.le_trans (strSub_length_le _ _ _) ly) (zCx hk _ _), rb, vs _ _ (Nat.le_trans (strSub_length_le _ _ _) ly) (zCx hk _ _), trivial⟩
end
end Mine
end

/-! # Steps -/
section
set_option autoImplicit false
namespace Mine
open PySem PyProof.Rows
section
variable {M : Model} {A : Around} {E : Value → Shared → Prop} {s : Shared} {env : Env}
theorem zBg {x : Str} {mg : Str → Option Value} {v : Value} {Q : Value → Shared → Prop} (hk : env.scope.kind = .function) (hl : env.kindOf x = some .globalImplicit) (hg : s.heap.Ns env.globals mg) (hv : mg x = some v) (h : Q v s) :
    wpAny M A (loadName env x) Q E s := by
  unfold loadName
  simp only [Env.blockKind, hk, hl, ScopeKind.isAnnotationScope, Bool.false_and, Bool.false_eq_true, if_false]
  unfold loadGlobal
  refine wpAny_bind (wpAny_nsGet hg ?_)
  rw [hv]
  exact wpAny_pure h
theorem zCN {x : Str} {mg mb : Str → Option Value} {v : Value} {Q : Value → Shared → Prop} (hk : env.scope.kind = .function) (hl : env.kindOf x = some .globalImplicit) (hg : s.heap.Ns env.globals mg) (hn : mg x = none)
    (hb : s.heap.Ns env.builtins mb) (hv : mb x = some v) (h : Q v s) : wpAny M A (loadName env x) Q E s := by
  unfold loadName
  simp only [Env.blockKind, hk, hl, ScopeKind.isAnnotationScope, Bool.false_and, Bool.false_eq_true, if_false]
  unfold loadGlobal
  refine wpAny_bind (wpAny_nsGet hg ?_)
  rw [hn]
  refine wpAny_bind (wpAny_nsGet hb ?_)
  rw [hv]
  exact wpAny_pure h
noncomputable def Callable (s : Shared) (f : Value) : Prop := (∀ a, f ≠ .ref a) ∨ ∃ a o fd, f = .ref a ∧ s.heap.get? a = some o ∧ o.data = .func fd
theorem keeper_of {f : Value} {Q : Keeper → Shared → Prop} (hc : Callable s f) (h : ∀ k, (k = .machine ∨ k = .frame) → Q k s) : wpAny M A (keeperOf f) Q E s := by
  unfold keeperOf
  rcases hc with hc | ⟨a, o, fd, rfl, ho, hd⟩
  · cases f with
    | ref a => exact absurd rfl (hc a)
    | _ => exact wpAny_pure (h _ (.inl rfl))
  · refine wpAny_bind (wpAny_load ho ?_)
    rw [hd]
    exact wpAny_pure (h _ (.inr rfl))
theorem zAO {e : Expr} {r : List Expr} (h : isStar e = false) : starEach (e :: r) env = (false, eval e env) :: starEach r env := by
  cases e <;> first | rfl | exact ff_tt h.symm
theorem zAM {pos : Pos} (args : List Expr) (h : args.any isStar = false) : (backTo pos (starEach args env)).any (·.1) = false := by
  induction args with
  | nil => rfl
  | cons e r ih =>
    have h1 := Bool.or_eq_false_iff.mp ((List.any_cons).symm.trans h)
    rw [zAO h1.1]
    exact ih h1.2
theorem zBR {f : Value} {trees : List (Bool × Sem Value)} {Q : Args → Shared → Prop} (hn : trees.any (·.1) = false)
    (h : wpAny M A (spliced trees) (fun vs s' => Q ⟨vs, []⟩ s') E s) : wpAny M A (evalArgs f true trees []) Q E s := by
  cases trees with
  | nil => exact fun Γ p hΓ => (PyProof.Rows.evalArgs_none (show Q ⟨[], []⟩ s from h Γ p hΓ)) Γ p hΓ
  | cons t r =>
    obtain ⟨b, x⟩ := t
    have hb : b = false := by simp only [List.any_cons, Bool.or_eq_false_iff] at hn; exact hn.1
    subst hb
    exact Calls.evalArgs_plain h
theorem zAT {pos : Pos} {f : Value} {first : List Value} {trees : List (Bool × Sem Value)} {Q : Value → Shared → Prop} (hn : trees.any (·.1) = false)
    (h : wpAny M A (spliced trees) (fun vs s₁ => Callable s₁ f ∧ wpAny M A (call f (first ++ vs) []) Q E s₁) E s) : wpAny M A (callWith pos f first trees []) Q E s := by
  unfold callWith
  refine wpAny_bind (wpAny_holding (zBR hn (wpAny_mono h (fun vs s₁ h₁ => ?_) fun _ _ q => q)))
  refine wpAny_bind (wpAny_standAt ?_)
  simp only [hn, Bool.false_or, List.any_nil]
  have fin : wpAny M A (call f (first ++ vs) []) (fun r s' => wpAny M A (do holding [r] point; pure r) Q E s') E s₁ := wpAny_mono h₁.2 (fun r s' q => wpAny_bind (wpAny_holding (wpAny_point (wpAny_pure q)))) fun _ _ q => q
  refine wpAny_bind (keeper_of h₁.1 fun k hk => ?_)
  rcases hk with rfl | rfl
  · exact wpAny_bind fin
  · show wpAny M A (if trees.length + 2 * 0 > 30 then (call f (first ++ vs) [] >>= fun r => do holding [r] point; pure r) else (callMarked plainCall f (first ++ vs) [] >>= fun r => do holding [r] point; pure r)) Q E s₁
    split
    · exact wpAny_bind fin
    · exact wpAny_bind (Calls.wpAny_keep fin)
theorem zCJ {o : Expr} {name : Str} (h : noSuper o = true) : attributeBase o name env (eval o env) = eval o env := by
  cases o with
  | Call fn args kws pos =>
    cases fn with
    | Name id p =>
      cases args with
      | nil =>
        cases kws with
        | nil => first | exact zAA h | exact ff_tt h | cases h
        | cons _ _ => rfl
      | cons _ _ => rfl
    | _ => rfl
  | _ => rfl
end
end Mine
end

/-! # Mut -/
section
set_option autoImplicit false
namespace Mine
open PySem PyProof.Rows
section
variable {S : Stat} {X Y : List Addr} {f g : List Loc} {σ : Sto} {s s' : Shared}
theorem nodup_at {f : List Loc} (h : (addrs f).Nodup) {i j : Nat} {l l' : Loc} (hi : f[i]? = some l) (hj : f[j]? = some l') (hne : i ≠ j) : ∀ a ∈ l.addrs, a ∉ l'.addrs := by
  induction f generalizing i j with
  | nil => simp at hi
  | cons x f ih =>
    have h1 : (x.addrs ++ addrs f).Nodup := by simpa [addrs] using h
    obtain ⟨_, h2, h3⟩ := List.nodup_append.mp h1
    cases i with
    | zero =>
      cases j with
      | zero => exact absurd rfl hne
      | succ j =>
        simp at hi hj
        subst hi
        intro a ha hb
        exact h3 a ha a (zAf hj hb) rfl
    | succ i =>
      cases j with
      | zero =>
        simp at hi hj
        subst hj
        intro a ha hb
        exact h3 a hb a (zAf hi ha) rfl
      | succ j =>
        simp at hi hj
        exact ih h2 hi hj (by omega)
theorem Lk.upd {n : Nat} {l : Loc} {o' : O} {h' : Heap} (L : Lk S X f σ s.heap) (hn : f[n]? = some l) (hs : ∀ b o, b ∉ l.addrs → s.heap.get? b = some o → h'.get? b = some o) (ho : OR S X f h' l o') : Lk S X f (σ.set n o') h' := by
  have nb : ∀ b o, b ∉ addrs f → s.heap.get? b = some o → h'.get? b = some o := fun b o hb => hs b o fun q => hb (zAf hn q)
  have kv : ∀ x v, VR S X f s.heap x v → VR S X f h' x v := VR.keep (fun _ _ e => e) fun a o q h1 h2 => ⟨⟨h1, h2⟩, o, nb a o h1 q, .refl o⟩
  have kvs : ∀ x v, VRs S X f s.heap x v → VRs S X f h' x v := VRs.keep (fun _ _ e => e) fun a o q h1 h2 => ⟨⟨h1, h2⟩, o, nb a o h1 q, .refl o⟩
  refine ⟨fun b o e => ?_, by rw [List.length_set]; exact L.len, L.nodup, L.fresh, fun a ha => ?_, fun i l' o hi hoo => ?_⟩
  · exact nb b o (fun q => by rw [L.fresh b q] at e; cases e) (L.base b o e)
  · obtain ⟨h1, h2, o, h3⟩ := L.hid a ha
    exact ⟨h1, h2, o, nb a o h2 h3⟩
  · by_cases hin : i = n
    · subst hin
      rw [hn] at hi; cases hi
      have hlt : i < σ.length := L.len ▸ (List.getElem?_eq_some_iff.mp hn).1
      rw [List.getElem?_set_self hlt] at hoo
      cases hoo
      exact ho
    · rw [List.getElem?_set_ne (fun q => hin q.symm)] at hoo
      refine (L.obj i l' o hi hoo).keep kv kvs fun a ha => ?_
      obtain ⟨ob, e⟩ := (L.obj i l' o hi hoo).live a ha
      rw [e, hs a ob (fun q => nodup_at L.nodup hi hn hin a ha q) e]
theorem Kp.upd {n : Nat} {l : Loc} {h' : Heap} {t : Nat} (hn : f[n]? = some l) (hs : ∀ b o, b ∉ l.addrs → s.heap.get? b = some o → h'.get? b = some o) (hl : ∀ a ∈ l.addrs, ∃ o, h'.get? a = some o) : Kp f Y s { s with heap := h', toks := t } := by
  have nb : ∀ b o, b ∉ addrs f → s.heap.get? b = some o → h'.get? b = some o := fun b o hb => hs b o fun q => hb (zAf hn q)
  refine ⟨rfl, fun a o e => ?_, fun a o e h1 _ => ⟨o, nb a o h1 e, .refl o⟩, fun a o es k e d h1 => ⟨o, es, k, nb a o h1 e, d⟩⟩
  by_cases ha : a ∈ l.addrs
  · exact hl a ha
  · exact ⟨o, hs a o ha e⟩
theorem Lk.track {l : Loc} {o : O} {h : Heap} (L : Lk S (l.addrs ++ X) f σ h) (hnd : l.addrs.Nodup) (hX : ∀ a ∈ l.addrs, a ∉ X) (ho : OR S X (f ++ [l]) h l o) : Lk S X (f ++ [l]) (σ ++ [o]) h := by
  have hdis : ∀ a ∈ l.addrs, a ∉ addrs f := fun a ha => (L.hid a (List.mem_append_left _ ha)).2.1
  have hl : addrs [l] = l.addrs := by simp [addrs]
  have kf : ∀ (i : Nat) (l' : Loc), f[i]? = some l' → (f ++ [l])[i]? = some l' := fun i l' e => List.getElem?_append_left (List.getElem?_eq_some_iff.mp e).1 ▸ e
  have kh : ∀ a ob, h.get? a = some ob → a ∉ addrs f → a ∉ l.addrs ++ X → (a ∉ addrs (f ++ [l]) ∧ a ∉ X) ∧ ∃ o', h.get? a = some o' ∧ SameObj ob o' := fun a ob q h1 h2 =>
    ⟨⟨fun h3 => (zAC.mp h3).elim h1 fun h4 => h2 (List.mem_append_left _ (hl ▸ h4)), fun h3 => h2 (List.mem_append_right _ h3)⟩, ob, q, .refl ob⟩
  refine ⟨L.base, by simp [L.len], ?_, fun a ha => ?_, fun a ha => ?_, fun i l' o' hi ho' => ?_⟩
  · rw [zCR, hl]
    exact List.nodup_append.mpr ⟨L.nodup, hnd, fun a ha b hb e => hdis b hb (e ▸ ha)⟩
  · rcases zAC.mp ha with ha | ha
    · exact L.fresh a ha
    · exact (L.hid a (List.mem_append_left _ (hl ▸ ha))).1
  · obtain ⟨h1, h2, h3⟩ := L.hid a (List.mem_append_right _ ha)
    exact ⟨h1, fun q => (zAC.mp q).elim h2 fun q => hX a (hl ▸ q) ha, h3⟩
  · by_cases hlt : i < f.length
    · rw [List.getElem?_append_left hlt] at hi
      rw [List.getElem?_append_left (L.len ▸ hlt)] at ho'
      exact (L.obj i l' o' hi ho').keep (VR.keep kf kh) (VRs.keep kf kh) fun _ _ => rfl
    · have hi' : i = f.length := by
        have := (List.getElem?_eq_some_iff.mp hi).1
        simp at this; omega
      subst hi'
      rw [List.getElem?_append_right (Nat.le_refl _)] at hi
      rw [L.len, List.getElem?_append_right (Nat.le_refl _)] at ho'
      simp at hi ho'
      subst hi ho'
      exact ho
theorem Lk.hideNew {a : Addr} (L : Lk S X f σ s.heap) (e : Ext s s') (hn : s.heap.get? a = none) {o : Obj} (hl : s'.heap.get? a = some o) : Lk S (a :: X) f σ s'.heap := by
  have hb : S.hb.get? a = none := by
    cases q : S.hb.get? a with
    | none => rfl
    | some o => rw [L.base a o q] at hn; first | exact zAA hn | exact ff_tt hn | cases hn
  have kv : ∀ x v, VR S X f s.heap x v → VR S (a :: X) f s'.heap x v := VR.keep (fun _ _ e => e) fun b ob q h1 h2 =>
    ⟨⟨h1, fun h => (List.mem_cons.mp h).elim (fun h => by subst h; rw [hn] at q; cases q) h2⟩, ob, e.keep b ob q, .refl ob⟩
  have kvs : ∀ x v, VRs S X f s.heap x v → VRs S (a :: X) f s'.heap x v := VRs.keep (fun _ _ e => e) fun b ob q h1 h2 =>
    ⟨⟨h1, fun h => (List.mem_cons.mp h).elim (fun h => by subst h; rw [hn] at q; cases q) h2⟩, ob, e.keep b ob q, .refl ob⟩
  have L' := e.lk L
  refine ⟨L'.base, L'.len, L'.nodup, L'.fresh, fun b hb' => ?_, fun i l ob hi ho => (L.obj i l ob hi ho).keep kv kvs fun b hb' => ?_⟩
  · rcases List.mem_cons.mp hb' with rfl | hb'
    · exact ⟨hb, (L.new hn).1, o, hl⟩
    · exact L'.hid b hb'
  · obtain ⟨ob', q⟩ := L.live (zAf hi hb')
    rw [q]; exact e.keep b ob' q
theorem VRs.hideNew {a : Addr} (e : Ext s s') (hn : s.heap.get? a = none) {xs : List V} {vs : List Value} (r : VRs S X f s.heap xs vs) : VRs S (a :: X) f s'.heap xs vs :=
  VRs.keep (fun _ _ e => e) (fun b ob q h1 h2 => ⟨⟨h1, fun h => (List.mem_cons.mp h).elim (fun h => by subst h; rw [hn] at q; cases q) h2⟩, ob, e.keep b ob q, .refl ob⟩) xs vs r
theorem Lk.less {X' : List Addr} {h : Heap} (L : Lk S X f σ h) (hX : ∀ a ∈ X', a ∈ X) : Lk S X' f σ h :=
  ⟨L.base, L.len, L.nodup, L.fresh, fun a ha => L.hid a (hX a ha), fun i l o hi ho => (L.obj i l o hi ho).keep (fun _ _ => VR.less hX) (fun _ _ => VRs.less hX) fun _ _ => rfl⟩
theorem Lk.enter {X N : List Addr} {f : List Loc} {σ : Sto} {s s₁ : Shared} (L : Lk S X f σ s.heap) (hk : ∀ b o, s.heap.get? b = some o → s₁.heap.get? b = some o)
    (hN : ∀ a ∈ N, s.heap.get? a = none ∧ ∃ o, s₁.heap.get? a = some o) : Lk S (N ++ X) f σ s₁.heap := by
  have kv : ∀ x v, VR S X f s.heap x v → VR S (N ++ X) f s₁.heap x v := fun x v e =>
    VR.keep (fun _ _ e => e) (fun a o ho h1 h2 => ⟨⟨h1, fun h => (List.mem_append.mp h).elim (fun h => by rw [(hN a h).1] at ho; cases ho) h2⟩, o, hk a o ho, .refl o⟩) x v e
  have kvs : ∀ x v, VRs S X f s.heap x v → VRs S (N ++ X) f s₁.heap x v := fun x v e =>
    VRs.keep (fun _ _ e => e) (fun a o ho h1 h2 => ⟨⟨h1, fun h => (List.mem_append.mp h).elim (fun h => by rw [(hN a h).1] at ho; cases ho) h2⟩, o, hk a o ho, .refl o⟩) x v e
  refine ⟨fun b o h => hk b o (L.base b o h), L.len, L.nodup, L.fresh, fun a ha => ?_, fun i l o hi ho => (L.obj i l o hi ho).keep kv kvs fun a ha => ?_⟩
  · rcases List.mem_append.mp ha with h | h
    · refine ⟨?_, fun hf => ?_, (hN a h).2⟩
      · cases e : S.hb.get? a with
        | none => rfl
        | some o => have := L.base a o e; rw [(hN a h).1] at this; cases this
      · obtain ⟨o, e⟩ := L.live hf; rw [(hN a h).1] at e; cases e
    · obtain ⟨h1, h2, o, h3⟩ := L.hid a h
      exact ⟨h1, h2, o, hk a o h3⟩
  · obtain ⟨o', e⟩ := (L.obj i l o hi ho).live a ha
    rw [e, hk a o' e]
theorem ExcR.less {X' : List Addr} {h h₀ : Heap} {ea : Addr} {k : Cls} (e : ExcR S X f σ h h₀ ea k) (hX : ∀ a ∈ X', a ∈ X) : ExcR S X' f σ h h₀ ea k := by
  obtain ⟨e1, ec, hs, oe, vs, L, e4, e5, e6, e8⟩ := e
  exact ⟨e1, ec, hs, oe, vs, L.less fun a ha => (List.mem_append.mp ha).elim (fun h => List.mem_append_left _ h) fun h => List.mem_append_right _ (hX a h), e4, e5, e6, e8⟩
inductive NewQ (S : Stat) (X : List Addr) (f : List Loc) (σ : Sto) (s s' : Shared) (xs : List V) (v : Value) : Prop where
  | mk (a : Addr) (vs : Array Value) (n : Nat) (e : v = .ref a) (hn : s.heap.get? a = none) (hX : a ∉ X) (L : Lk S (a :: X) f σ s'.heap) (il : IsL s'.heap a vs n) (rs : VRs S (a :: X) f s'.heap xs vs.toList) (hl : xs.length ≤ LIM)
inductive QN (S : Stat) (X Y : List Addr) (f : List Loc) (s : Shared) (r : R V) (v : Value) (s' : Shared) : Prop where
  | mk (x : V) (σ' : Sto) (g : List Loc) (e : r = .ok x σ') (hg : Fresh g s) (k : Kp f Y s s') (L : Lk S X (f ++ g) σ' s'.heap) (p : VR S X (f ++ g) s'.heap x v) (hl : ∀ xs, x = .lst xs → NewQ S X (f ++ g) σ' s s' xs v)
theorem QN.qs {r : R V} {v : Value} (q : QN S X Y f s r v s') : QS S X Y f (PV S X) s r v s' := by
  obtain ⟨x, σ', g, e, hg, k, L, p, _⟩ := q
  exact ⟨x, σ', g, e, hg, k, L, p⟩
theorem QN.trk {r : R V} {v : Value} (hne : (r.bind fun v σ => doTrk σ v) ≠ .stuck) (q : QN S X Y f s r v s') : QS S X Y f (PV S X) s (r.bind fun v σ => doTrk σ v) v s' := by
  obtain ⟨x, σ', g, rfl, hg, k, L, p, hl⟩ := q
  cases x with
  | lst xs =>
    obtain ⟨a, vs, n, rfl, hn, hX, L', il, r, hlen⟩ := hl xs rfl
    refine ⟨.ref σ'.length, σ' ++ [.list xs], g ++ [(a, none)], rfl, ?_, k, ?_, ?_⟩
    · intro b hb
      rcases zAC.mp hb with hb | hb
      · exact hg b hb
      · have : b = a := by simpa [addrs, Loc.addrs] using hb
        rw [this]; exact hn
    · rw [← List.append_assoc]
      refine Lk.track (l := (a, none)) (X := X) L' (by simp [Loc.addrs]) (fun b hb => by have : b = a := by simpa [Loc.addrs] using hb
                                                                                         rw [this]; exact hX) ⟨vs, n, il, ?_, hlen⟩
      refine VRs.keep (fun i l' e => List.getElem?_append_left (List.getElem?_eq_some_iff.mp e).1 ▸ e) (fun b ob q h1 h2 => ⟨⟨fun h3 => ?_, fun h3 => h2 (List.mem_cons_of_mem _ h3)⟩, ob, q, .refl ob⟩) xs vs.toList r
      rcases zAC.mp h3 with h3 | h3
      · exact h1 h3
      · have : b = a := by simpa [addrs, Loc.addrs] using h3
        exact h2 (this ▸ List.mem_cons_self)
    · show VR S X (f ++ (g ++ [(a, none)])) s'.heap (.ref σ'.length) (.ref a)
      rw [VR]
      refine ⟨(a, none), ?_, rfl⟩
      rw [← List.append_assoc, ← L.len, List.getElem?_append_right (Nat.le_refl _)]
      simp
  | _ => exact absurd rfl hne
theorem PE.qn {s₁ : Shared} {x : V} {v : Value} (hg : Fresh g s) (k : Kp f Y s s₁) (L : Lk S X (f ++ g) σ s₁.heap) (p : PE S X (f ++ g) s₁ x v s') : QN S X Y f s (.ok x σ) v s' := by
  obtain ⟨e, r, hl⟩ := p
  refine ⟨x, σ, g, rfl, hg, k.trans hg (e.kp _ _), e.lk L, r, fun xs hx => ?_⟩
  obtain ⟨a, vs, n, e1, e2, e3, e4, e5⟩ := hl xs hx
  refine ⟨a, vs, n, e1, zAN k.live e2, (L.new e2).2, L.hideNew e e2 e3, e3, ?_, e5⟩
  exact VRs.hideNew e e2 e4
end
end Mine
end

/-! # Frame -/
section
set_option autoImplicit false
namespace Mine
open PySem PyProof.Rows
noncomputable def isCellKind (k : Option NameKind) : Prop := k = some .cell ∨ k = some .free
noncomputable def NameIs (env : Env) (h : Heap) (x : Str) (w : Value) : Prop :=
  (env.kindOf x = some .local ∧ ∃ m, h.Ns env.locals m ∧ m x = some w) ∨ (isCellKind (env.kindOf x) ∧ ∃ c, env.cells.lookup x = some c ∧ h.IsCell c (some w))
structure FR (S : Stat) (X : List Addr) (f : List Loc) (h : Heap) (env : Env) (Γ : List Str) (sc : Scope) (ρ : List V) : Prop where
  kind : env.scope.kind = .function
  glob : env.globals = mainGlobals
  blt : env.builtins = builtinsNs
  names : ∀ x, env.kindOf x = sc.names.lookup x ∨ (sc.names.lookup x = some .free ∧ env.kindOf x = some .cell)
  loc : env.locals ∈ X ∧ ∃ m, h.Ns env.locals m
  cells : ∀ x, isCellKind (env.kindOf x) → ∃ c o, env.cells.lookup x = some c ∧ c ∈ X ∧ h.IsCell c o
  vals : ∀ x i v, isVar sc x = true → lastIdx x Γ = some i → ρ[i]? = some v → v ≠ .undef → ∃ w, NameIs env h x w ∧ VR S X f h v w
  len : ρ.length = Γ.length
noncomputable def FrL (S : Stat) (f : List Loc) (h : Heap) (l : List Env) : Prop :=
  ∀ e ∈ l, e.scope.kind ≠ .module ∧ ∃ L o es n, e.frame = some L ∧ S.hb.get? L = none ∧ L ∉ addrs f ∧ h.get? L = some o ∧ o.data = .dict es n
structure Cx (S : Stat) (A : Around) (q : Bool) (d : Nat) (f : List Loc) (h : Heap) (fr : Option Addr) : Prop where
  depth : A.depth + 2 * d + 3 ≤ 900
  units : A.units + 5 * d + 202 ≤ 9900
  hand : q = false → A.handled = none
  frs : ∃ e0 l, A.frames = some (e0 :: l) ∧ e0.frame = fr ∧ FrL S f h (e0 :: l)
structure CxC (S : Stat) (A : Around) (q : Bool) (d : Nat) (f : List Loc) (h : Heap) : Prop where
  depth : A.depth + 2 * d + 2 ≤ 900
  units : A.units + 5 * d + 200 ≤ 9900
  hand : q = false → A.handled = none
  frs : ∃ l, A.frames = some l ∧ FrL S f h l
theorem Cx.call {S : Stat} {A : Around} {q : Bool} {d : Nat} {f : List Loc} {h : Heap} {fr : Option Addr} (c : Cx S A q d f h fr) : CxC S A q d f h :=
  ⟨by have := c.depth; omega, by have := c.units; omega, c.hand, let ⟨e0, l, h1, _, h3⟩ := c.frs; ⟨e0 :: l, h1, h3⟩⟩
section
variable {S : Stat} {A : Around} {X Y : List Addr} {f g : List Loc} {s s' : Shared} {env : Env} {Γ : List Str} {sc : Scope} {ρ : List V} {q : Bool} {d : Nat} {fr : Option Addr}
theorem kp_ns {a : Addr} {m : Str → Option Value} (k : Kp f Y s s') (hf : a ∉ addrs f) (hY : a ∉ Y) (h : s.heap.Ns a m) : s'.heap.Ns a m := by
  obtain ⟨o, es, ep, ho, hd, r⟩ := h
  obtain ⟨o', ho', e⟩ := k.kept a o ho hf hY
  exact ⟨o', es, ep, ho', e.data.trans hd, r⟩
theorem zGY {a : Addr} {m : Option Value} (k : Kp f Y s s') (hf : a ∉ addrs f) (hY : a ∉ Y) (h : s.heap.IsCell a m) : s'.heap.IsCell a m := by
  obtain ⟨o, ho, hd⟩ := h
  obtain ⟨o', ho', e⟩ := k.kept a o ho hf hY
  exact ⟨o', ho', e.data.trans hd⟩
theorem NameIs.keep {x : Str} {w : Value} (k : Kp f Y s s') (hl : env.locals ∉ addrs f ∧ env.locals ∉ Y) (hc : ∀ x c, env.cells.lookup x = some c → isCellKind (env.kindOf x) → c ∉ addrs f ∧ c ∉ Y) (h : NameIs env s.heap x w) : NameIs env s'.heap x w := by
  rcases h with ⟨h1, m, h2, h3⟩ | ⟨h1, c, h2, h3⟩
  · exact .inl ⟨h1, m, kp_ns k hl.1 hl.2 h2, h3⟩
  · exact .inr ⟨h1, c, h2, zGY k (hc x c h2 h1).1 (hc x c h2 h1).2 h3⟩
theorem FR.keep {σ : Sto} (F : FR S X f s.heap env Γ sc ρ) (L : Lk S X f σ s.heap) (k : Kp f [] s s') (hg : Fresh g s) : FR S X (f ++ g) s'.heap env Γ sc ρ := by
  have hl : env.locals ∉ addrs f := (L.hid _ F.loc.1).2.1
  have hc : ∀ x c, env.cells.lookup x = some c → isCellKind (env.kindOf x) → c ∉ addrs f := fun x c e hk => by
    obtain ⟨c', o, e', hX, _⟩ := F.cells x hk
    rw [e] at e'; cases e'
    exact (L.hid c hX).2.1
  refine ⟨F.kind, F.glob, F.blt, F.names, ⟨F.loc.1, let ⟨m, h⟩ := F.loc.2; ⟨m, kp_ns k hl (by simp) h⟩⟩, fun x hx => ?_, fun x i v h1 h2 h3 h4 => ?_, F.len⟩
  · obtain ⟨c, o, e, hX, h⟩ := F.cells x hx
    exact ⟨c, o, e, hX, zGY k (hc x c e hx) (by simp) h⟩
  · obtain ⟨w, h5, h6⟩ := F.vals x i v h1 h2 h3 h4
    exact ⟨w, h5.keep k ⟨hl, by simp⟩ fun x c e hk => ⟨hc x c e hk, by simp⟩, h6.keepK k hg fun a ha => nomatch ha⟩
theorem FrL.keep {l : List Env} (F : FrL S f s.heap l) (k : Kp f Y s s') (hg : Fresh g s) : FrL S (f ++ g) s'.heap l := fun e he => by
  obtain ⟨h1, L, o, es, n, h2, h3, h4, h5, h6⟩ := F e he
  obtain ⟨o', es', n', h7, h8⟩ := k.dicts L o es n h5 h6 h4
  exact ⟨h1, L, o', es', n', h2, h3, fun h => (zAC.mp h).elim h4 (zAL hg h5), h7, h8⟩
theorem Cx.keep (c : Cx S A q d f s.heap fr) (k : Kp f Y s s') (hg : Fresh g s) : Cx S A q d (f ++ g) s'.heap fr :=
  ⟨c.depth, c.units, c.hand, let ⟨e0, l, h1, h2, h3⟩ := c.frs; ⟨e0, l, h1, h2, h3.keep k hg⟩⟩
end
inductive BookAt (S : Stat) (C : Ctx) : Prop where
  | mk (N : Addr) (mN : Str → Option Value) (nm q : Str) (bs : List Value) (sn : List Str) (sub : List Value) (col : Option Bool) (dd : Option Addr) (k0 k1 k2 k3 k5 : Option Value)
      (hC : S.hb.get? S.book = some (excClassObj nm q S.book N bs [.type "object"] true sn sub false col dd k0 k1 k2 k3 k5 "object.__new__")) (hN : S.hb.Ns N mN)
      (hq : mN "__getattribute__" = none ∧ mN "__getattr__" = none ∧ mN "__setattr__" = none ∧ mN (attrName 0) = none ∧ mN (attrName 1) = none) (hini : mN "__init__" = some (.ref (S.fn 0))) (h0 : ∃ o, S.hb.get? (S.fn 0) = some o ∧ o.cls = .type "function")
      (hms : ∀ m k, C.meths.lookup m = some k → mN m = some (.ref (S.fn k)) ∧ ∃ o, S.hb.get? (S.fn k) = some o ∧ o.cls = .type "function")
inductive GF (S : Stat) (C : Ctx) : Prop where
  | mk (mg mb : Str → Option Value) (g1 : S.hb.Ns mainGlobals mg) (g2 : S.hb.Ns builtinsNs mb)
      (g3 : ∀ x v, C.consts.lookup x = some v → ∃ w, mg x = some w ∧ VR S [] [] S.hb v w)
      (g4 : ∀ x k, C.fns.lookup x = some k → mg x = some (.ref (S.fn k)))
      (g5 : ∀ x : Str, (x ∈ b1Names.map (·.1) ∨ x ∈ b2Names.map (·.1) ∨ x ∈ kindNames.map (·.1) ∨ x = ("isinstance" : Str) ∨ x = ("range" : Str)) → C.fns.lookup x = none → mg x = none ∧ mb x = bootBuiltins x)
      (g6 : C.book = true → mg "Book" = some (.ref S.book))
      (g7 : ∀ x c, C.excs.lookup x = some c → (mg x = some (S.cl c)) ∨ (mg x = none ∧ mb x = some (S.cl c)))
structure Facts (S : Stat) (C : Ctx) (T : Nat → Option Fn) : Prop where
  g : GF S C
  nolimit : S.hb.NoLimit
  book : (C.book = false ∧ C.meths = [] ∧ C.attrs = []) ∨ (C.attrs = attrNames ∧ BookAt S C)
  exc : ∀ x c, C.excs.lookup x = some c → c ∈ S.kn ∧ (x ≠ ("ValueError" : Str) → ExcCl S c)
  parts : PartsAt S S.hb
  pnn : S.parts ≠ .none
  fnObj : ∀ k fn, T k = some fn → ∃ o fd, S.hb.get? (S.fn k) = some o ∧ o.data = .func fd
section
variable (S : Stat) (C : Ctx) (F : Calls) (q : Bool) (d : Nat)
noncomputable def FS : Prop := ∀ (k : Nat) (vs : List V) (σ : Sto) (f : List Loc) (X : List Addr) (A : Around) (s : Shared) (vals : List Value), CxC S A q d f s.heap → Lk S X f σ s.heap → VRs S X f s.heap vs vals →
  F k vs σ ≠ .stuck → (∃ o fd, S.hb.get? (S.fn k) = some o ∧ o.data = .func fd) ∧
    codeAny (model S.prog S.w) A (.call (.ref (S.fn k)) ⟨vals, []⟩) (fun r s' => match r with | .ok (.ret v) => QS S X [] f (PV S X) s (F k vs σ) v s' | .ok _ => False | .error e => ES S X [] f false s (F k vs σ) e s') s
structure St (Γ : List Str) (sc : Scope) (env : Env) (ρ : List V) (f : List Loc) (X : List Addr) (σ : Sto) (s : Shared) (A : Around) : Prop where
  cx : Cx S A q d f s.heap env.frame
  fr : FR S X f s.heap env Γ sc ρ
  lk : Lk S X f σ s.heap
noncomputable def EOk (Γ : List Str) (sc : Scope) (e : Expr) (c : CE) : Prop := ∀ (env : Env) (ρ : List V) (f : List Loc) (X : List Addr) (σ : Sto) (s : Shared) (A : Around), St S q d Γ sc env ρ f X σ s A →
  Sim S A X [] f (PV S X) (eval e env) (evE F q c ρ σ) s
noncomputable def NOk (Γ : List Str) (sc : Scope) (e : Expr) (c : CE) : Prop := ∀ (env : Env) (ρ : List V) (f : List Loc) (X : List Addr) (σ : Sto) (s : Shared) (A : Around), St S q d Γ sc env ρ f X σ s A →
  evE F q c ρ σ ≠ .stuck → wpAny (model S.prog S.w) A (eval e env) (QN S X [] f s (evE F q c ρ σ)) (ES S X [] f false s (evE F q c ρ σ)) s
noncomputable def LOk (Γ : List Str) (sc : Scope) (es : List Expr) (cs : List CE) : Prop := es.any isStar = false ∧ ∀ (env : Env) (pos : Pos) (ρ : List V) (f : List Loc) (X : List Addr) (σ : Sto) (s : Shared) (A : Around), St S q d Γ sc env ρ f X σ s A →
  Sim S A X [] f (fun vs xs f s => VRs S X f s.heap xs vs) (spliced (backTo pos (starEach es env))) (evL F q cs ρ σ) s
noncomputable def TOk (Γ : List Str) (sc : Scope) (e : Expr) (c : CE) : Prop := ∀ (env : Env) (ρ : List V) (f : List Loc) (X : List Addr) (σ : Sto) (s : Shared) (A : Around), St S q d Γ sc env ρ f X σ s A →
  Sim S A X [] f (fun b t _ _ => b = t) (isTrue e env (eval e env)) ((evE F q c ρ σ).bind fun v σ => R.lift σ (truthy σ v)) s
end
theorem FR.isGlob {S : Stat} {X : List Addr} {f : List Loc} {h : Heap} {env : Env} {Γ : List Str} {sc : Scope} {ρ : List V} (fr : FR S X f h env Γ sc ρ) {x : Str} (hg : isGlob sc x = true) : env.kindOf x = some .globalImplicit := by
  have h : sc.names.lookup x = some .globalImplicit := by simpa [Mine.isGlob] using hg
  rcases fr.names x with e | ⟨e, _⟩
  · exact e.trans h
  · rw [h] at e; first | exact zAA e | exact ff_tt e | cases e
section
variable {S : Stat} {C : Ctx} {F : Calls} {q : Bool} {d : Nat} {Γ : List Str} {sc : Scope}
theorem St.keep {env : Env} {ρ : List V} {f g : List Loc} {X : List Addr} {σ σ' : Sto} {s s' : Shared} {A : Around} (st : St S q d Γ sc env ρ f X σ s A) (hg : Fresh g s) (k : Kp f [] s s') (L : Lk S X (f ++ g) σ' s'.heap) : St S q d Γ sc env ρ (f ++ g) X σ' s' A :=
  ⟨st.cx.keep k hg, st.fr.keep st.lk k hg, L⟩
theorem NOk.eok {e : Expr} {c : CE} (h : NOk S F q d Γ sc e c) : EOk S F q d Γ sc e c := fun env ρ f X σ s A st hne => wpAny_mono (h env ρ f X σ s A st hne) (fun _ _ x => x.qs) fun _ _ x => x
theorem NOk.trk {e : Expr} {c : CE} (h : NOk S F q d Γ sc e c) : EOk S F q d Γ sc e (.trk c) := fun env ρ f X σ s A st hne => by
  have hr : evE F q c ρ σ ≠ .stuck := fun e => hne (by rw [x_trk, e]; rfl)
  rw [x_trk] at hne ⊢
  refine wpAny_mono (h env ρ f X σ s A st hr) (fun _ _ x => x.trk hne) fun e s' x => ?_
  obtain ⟨k, σ', g, ea, e1, e2, hgE, kE, LE, xE⟩ := x
  exact ⟨k, σ', g, ea, e1, by rw [e2]; rfl, hgE, kE, LE, xE⟩
theorem zBl {e : Expr} {c : CE} {p : Pos} (h : NOk S F q d Γ sc e c) : EOk S F q d Γ sc e (trkAt C p c) := by
  unfold trkAt; split
  · exact h.trk
  · exact h.eok
noncomputable def Lifts {γ δ : Type} (Y : List Addr) (K : List Loc → Shared → R δ → γ → Shared → Prop) : Prop := ∀ f g s s₁ r c s', Fresh g s → Kp f Y s s₁ → K (f ++ g) s₁ r c s' → K f s r c s'
theorem QS.lifts {α β : Type} {X Y : List Addr} {P : α → β → List Loc → Shared → Prop} : Lifts Y (fun f s r a s' => QS S X Y f P s r a s') := fun f g s s₁ r c s' hg k q => by
  obtain ⟨b', σ'', g', e, hg', k', L, p⟩ := q
  rw [List.append_assoc] at L p
  exact ⟨b', σ'', g ++ g', e, hg.trans k.live hg', k.trans hg k', L, p⟩
theorem ES.lifts {β : Type} {X Y : List Addr} {tr : Bool} : Lifts (δ := β) Y (fun f s r a s' => ES S X Y f tr s r a s') := fun f g s s₁ r c s' hg k q => by
  obtain ⟨c, σ'', g', ea, e1, e2, hg', k', L, x⟩ := q
  rw [List.append_assoc] at L x
  exact ⟨c, σ'', g ++ g', ea, e1, e2, hg.trans k.live hg', k.trans hg k', L, x.back fun a h => zAN k.live h⟩
theorem QN.lifts {X Y : List Addr} : Lifts Y (fun f s r a s' => QN S X Y f s r a s') := fun f g s s₁ r c s' hg k q => by
  obtain ⟨x, σ', g', e, hg', k', L, p, hl⟩ := q
  rw [List.append_assoc] at L p
  refine ⟨x, σ', g ++ g', e, hg.trans k.live hg', k.trans hg k', L, p, fun xs hx => ?_⟩
  obtain ⟨a, vs, n, e1, e2, e3, e4, e5, e6, e7⟩ := hl xs hx
  rw [List.append_assoc] at e4 e6
  exact ⟨a, vs, n, e1, zAN k.live e2, e3, e4, e5, e6, e7⟩
theorem Sim.go {α β γ δ : Type} {A : Around} {X Y : List Addr} {f : List Loc} {P : α → β → List Loc → Shared → Prop} {K : List Loc → Shared → R δ → γ → Shared → Prop} (hK : Lifts Y K)
    {t : Sem α} {r : R β} {rk : β → Sto → R δ} {s : Shared} {W : α → Shared → Prop} {Q' : γ → Shared → Prop} {E' : Value → Shared → Prop} (h : Sim S A X Y f P t r s) (hne : r.bind rk ≠ .stuck)
    (hQ : ∀ c s'', K f s (r.bind rk) c s'' → Q' c s'') (hE : ∀ e s'', ES S X Y f false s (r.bind rk) e s'' → E' e s'')
    (hk : ∀ a b σ' g s', rk b σ' ≠ .stuck → Fresh g s → Kp f Y s s' → Lk S X (f ++ g) σ' s'.heap → P a b (f ++ g) s' → (∀ c s'', K (f ++ g) s' (rk b σ') c s'' → Q' c s'') →
      (∀ e s'', ES S X Y (f ++ g) false s' (rk b σ') e s'' → E' e s'') → W a s') : wpAny (model S.prog S.w) A t W E' s := by
  have hr : r ≠ .stuck := fun e => hne (by rw [e]; rfl)
  refine wpAny_mono (h hr) (fun a s' q => ?_) fun e s' q => hE e s' ?_
  · obtain ⟨b, σ', g, rfl, hg, k, L, p⟩ := q
    exact hk a b σ' g s' hne hg k L p (fun c s'' q => hQ c s'' (hK f g s s' _ c s'' hg k q)) fun e s'' q => hE e s'' (ES.lifts f g s s' _ e s'' hg k q)
  · obtain ⟨c, σ', g, ea, e1, rfl, hg, k, L, x⟩ := q
    exact ⟨c, σ', g, ea, e1, rfl, hg, k, L, x⟩
theorem R.bind_assoc {α β γ : Type} (r : R α) (f : α → Sto → R β) (g : β → Sto → R γ) : (r.bind f).bind g = r.bind fun a σ => (f a σ).bind g := by cases r <;> rfl
theorem PE.here {X Y : List Addr} {f : List Loc} {σ : Sto} {s s' : Shared} {x : V} {v : Value} (L : Lk S X f σ s.heap) (p : PE S X f s x v s') : QN S X Y f s (.ok x σ) v s' := by
  have := PE.qn (f := f) (g := []) (Y := Y) (.nil s) (.refl f Y s) (by rwa [List.append_nil]) (by rw [List.append_nil]; exact p)
  exact this
theorem Sim.goN {α β : Type} {A : Around} {X Y : List Addr} {f : List Loc} {P : α → β → List Loc → Shared → Prop}
    {t : Sem α} {r : R β} {rk : β → Sto → R V} {s : Shared} {W : α → Shared → Prop} {Q' : Value → Shared → Prop} {E' : Value → Shared → Prop} (h : Sim S A X Y f P t r s) (hne : r.bind rk ≠ .stuck)
    (hQ : ∀ c s'', QN S X Y f s (r.bind rk) c s'' → Q' c s'') (hE : ∀ e s'', ES S X Y f false s (r.bind rk) e s'' → E' e s'')
    (hk : ∀ a b σ' g s', rk b σ' ≠ .stuck → Fresh g s → Kp f Y s s' → Lk S X (f ++ g) σ' s'.heap → P a b (f ++ g) s' → (∀ c s'', QN S X Y (f ++ g) s' (rk b σ') c s'' → Q' c s'') →
      (∀ e s'', ES S X Y (f ++ g) false s' (rk b σ') e s'' → E' e s'') → W a s') : wpAny (model S.prog S.w) A t W E' s :=
  Sim.go (K := fun f s r a s' => QN S X Y f s r a s') QN.lifts h hne hQ hE hk
theorem Sim.goQ {α β γ δ : Type} {A : Around} {X Y : List Addr} {f : List Loc} {P : α → β → List Loc → Shared → Prop} {P' : γ → δ → List Loc → Shared → Prop}
    {t : Sem α} {r : R β} {rk : β → Sto → R δ} {s : Shared} {W : α → Shared → Prop} {Q' : γ → Shared → Prop} {E' : Value → Shared → Prop} (h : Sim S A X Y f P t r s) (hne : r.bind rk ≠ .stuck)
    (hQ : ∀ c s'', QS S X Y f P' s (r.bind rk) c s'' → Q' c s'') (hE : ∀ e s'', ES S X Y f false s (r.bind rk) e s'' → E' e s'')
    (hk : ∀ a b σ' g s', rk b σ' ≠ .stuck → Fresh g s → Kp f Y s s' → Lk S X (f ++ g) σ' s'.heap → P a b (f ++ g) s' → (∀ c s'', QS S X Y (f ++ g) P' s' (rk b σ') c s'' → Q' c s'') →
      (∀ e s'', ES S X Y (f ++ g) false s' (rk b σ') e s'' → E' e s'') → W a s') : wpAny (model S.prog S.w) A t W E' s :=
  Sim.go (K := fun f s r a s' => QS S X Y f P' s r a s') QS.lifts h hne hQ hE hk
end
end Mine
end

/-! # DictS -/
section
set_option autoImplicit false
namespace Mine
open PySem PyProof.Rows
section
variable {S : Stat} {C : Ctx} {T : Nat → Option Fn} {F Fq : Calls} {q : Bool} {d : Nat} {Γ : List Str} {sc : Scope}
variable {X X' Y Z : List Addr} {f g : List Loc} {σ : Sto} {s s' : Shared} {A : Around} {E : Value → Shared → Prop} {env : Env} {ρ : List V}
end
end Mine
end

/-! # Exc1 -/
section
set_option autoImplicit false
namespace Mine
open PySem PyProof.Rows
noncomputable def hideAll (h : Heap) : List Addr → Heap
  | [] => h
  | a :: l => (hideAll h l).hide a
theorem zCC {h : Heap} {a : Addr} : ∀ {l : List Addr}, a ∈ l → (hideAll h l).get? a = none
  | b :: l, m => by
    unfold hideAll
    by_cases e : a = b
    · rw [e]; exact Heap.hide_self _ _
    · rw [Heap.hide_ne _ e]; exact zCC ((List.mem_cons.mp m).resolve_left e)
theorem zBK {h : Heap} {a : Addr} : ∀ {l : List Addr}, a ∉ l → (hideAll h l).get? a = h.get? a
  | [], _ => rfl
  | b :: l, m => by
    unfold hideAll
    have hne : a ≠ b := fun e => m (by rw [e]; exact List.mem_cons_self)
    rw [Heap.hide_ne _ hne]
    exact zBK fun q => m (List.mem_cons_of_mem _ q)
theorem zEb (h : Heap) (l : List Addr) : (hideAll h l).StaysIn h := fun b o e => by
  by_cases m : b ∈ l
  · rw [zCC m] at e; first | exact zAA e | exact ff_tt e | cases e
  · rwa [zBK m] at e
section
variable {M : Model} {A : Around} {E : Value → Shared → Prop} {s : Shared} {env : Env} {outer : List Env} {base : Heap} {L e : Addr} {Q : Unit → Shared → Prop}
inductive Entered (base : Heap) (e : Addr) (cls : Value) (h h' : Heap) : Prop where
  | mk (stays : base.StaysIn h') (oe : Obj) (vs : Array Value) (T : Addr) (oT : Obj) (ts : Array Value) (p1 : h'.get? e = some oe) (p2 : oe.cls = cls) (p3 : oe.data = .fields vs) (p4 : vs[1]? = some (.ref T)) (p5 : base.get? T = none) (p6 : T ≠ e)
      (p7 : h'.get? T = some oT) (p8 : oT.data = .fields ts) (p9 : 3 < ts.size) (same : ∀ b o, h.get? b = some o → (∀ vs, o.data ≠ .fields vs) → ∃ sl, h'.get? b = some { o with slots := sl })
theorem zFj {head : Value} {hadNext : Bool} {oe : Obj} {vs : Array Value} (hfr : A.frames = some (env :: outer)) (hl : s.heap.FunFrames base (env :: outer)) (hf : env.frame = some L)
    (he : s.heap.get? e = some oe) (hkb : base.StaysIn s.heap) (hen : base.get? e = none) (hd : oe.data = .fields vs) (hsz : 1 < vs.size)
    (h : ∀ h', Entered base e oe.cls s.heap h' → Q () { s with heap := h' }) :
    wpAny M A (do let a ← frameOf env; let pl ← entryPlaceOf L hadNext; let b ← EntryCells.newEntry head a .none (rawInt L) .none pl; setField (.ref e) 1 b) Q E s := by
  have out : e ∉ (env :: outer).filterMap (·.frame) := fun hm => by
    obtain ⟨_, o, ho, hnf⟩ := hl.mem hm
    rw [he] at ho; cases ho; exact hnf vs hd
  refine wpAny_bind (wpAny_frameOf_fun hfr hl hf fun h₁ so => ?_)
  refine wpAny_bind (wpAny_entryPlaceOf fun pl hpl => ?_)
  unfold EntryCells.newEntry newFields
  refine wpAny_bind (wpAny_newObj_type ?_ (hpl.sizeOk5 _ _ _ _ _))
  have he₁ : h₁.get? e = some oe := (so.2.1 e out).trans he
  have kb₁ : base.StaysIn h₁ := fun b o hbo => (so.2.1 b fun hm => by rw [(hl.mem hm).1] at hbo; cases hbo).trans (hkb b o hbo)
  have hTe : h₁.objs.size ≠ e := Nat.ne_of_gt (Heap.lt_size he₁)
  refine wpAny_setField (Heap.get?_push_of_some _ he₁) hd hsz (h _ ?_)
  have keep : ∀ (ob : Obj) b o, b ≠ e → h₁.get? b = some o → ((h₁.push ob).update e (Obj.mapFields (·.setIfInBounds 1 (Value.ref h₁.objs.size)))).get? b = some o := fun ob b o hb q =>
    (Heap.get?_update_other _ _ (Ne.symm hb)).trans (Heap.get?_push_of_some _ q)
  have hd₃ := Obj.data_mapFields hd (·.setIfInBounds 1 (Value.ref h₁.objs.size))
  refine ⟨fun b o hbo => keep _ b o (fun q => by rw [q, hen] at hbo; cases hbo) (kb₁ b o hbo), _, _, h₁.objs.size, _, _, Heap.get?_update_self _ (Heap.get?_push_of_some _ he₁) (Obj.isFreed_of_fields hd₃), Obj.cls_mapFields _ _, hd₃, by simp [hsz], kb₁.fresh, hTe,
    (Heap.get?_update_other _ _ (Ne.symm hTe)).trans (Heap.get?_push_size h₁ rfl), rfl, ?_, fun b o hb hnf => ?_⟩
  · simp only [List.size_toArray, List.length_append, List.length_cons, List.length_nil]
    exact Nat.lt_of_lt_of_le (by decide) (Nat.le_add_right 5 _)
  · obtain ⟨sl, q⟩ := so.2.2 b o hb
    exact ⟨sl, keep _ b _ (fun z => by rw [z, he] at hb; cases hb; exact hnf vs hd) q⟩
theorem note_first {oe : Obj} {vs : Array Value} (hfr : A.frames = some (env :: outer)) (hl : s.heap.FunFrames base (env :: outer)) (hf : env.frame = some L)
    (he : s.heap.get? e = some oe) (hkb : base.StaysIn s.heap) (hen : base.get? e = none) (hd : oe.data = .fields vs) (h1 : vs[1]? = some .none)
    (h : ∀ h', Entered base e oe.cls s.heap h' → Q () { s with heap := h' }) :
    wpAny M A (noteFrame (.ref e) env) Q E s := by
  unfold noteFrame
  simp only [hf]
  refine wpAny_bind (wpAny_field he hd h1 ?_)
  rw [if_neg (by decide)]
  exact zFj hfr hl hf he hkb hen hd (Array.getElem?_eq_some_iff.mp h1).1 h
theorem note_next {oe oT : Obj} {vs ts : Array Value} {T : Addr} {z : Value} (hfr : A.frames = some (env :: outer)) (hl : s.heap.FunFrames base (env :: outer)) (hf : env.frame = some L)
    (he : s.heap.get? e = some oe) (hkb : base.StaysIn s.heap) (hen : base.get? e = none) (hd : oe.data = .fields vs) (h1 : vs[1]? = some (.ref T))
    (hnT : base.get? T = none) (hTe : T ≠ e) (hT : s.heap.get? T = some oT) (hdT : oT.data = .fields ts) (h3 : ts[3]? = some z)
    (h0 : Q () s) (h : ∀ h', Entered base e oe.cls s.heap h' → Q () { s with heap := h' }) :
    wpAny M A (noteFrame (.ref e) env) Q E s := by
  unfold noteFrame
  simp only [hf]
  refine wpAny_bind (wpAny_field he hd h1 ?_)
  rw [if_pos (show (Value.ref T != Value.none) = true from by simp)]
  refine wpAny_bind (wpAny_field hT hdT h3 ?_)
  by_cases hz : (z == rawInt L) = true
  · rw [if_pos hz]; exact wpAny_pure h0
  rw [if_neg hz]
  refine wpAny_bind (wpAny_setField hT hdT (Array.getElem?_eq_some_iff.mp h3).1 ?_)
  have other : ∀ b, b ≠ T → (s.heap.update T (Obj.mapFields (·.setIfInBounds 3 Value.none))).get? b = s.heap.get? b := fun b hb => Heap.get?_update_other _ _ (Ne.symm hb)
  have noRecord : ∀ b o, s.heap.get? b = some o → (∀ vs, o.data ≠ .fields vs) → b ≠ T := fun b o hb hnf q => by
    rw [q, hT] at hb; cases hb; exact hnf ts hdT
  exact zFj hfr (hl.of_keeps fun b o hb hnf => ⟨o, (other b (noRecord b o hb hnf)).trans hb, rfl⟩) hf ((other e (Ne.symm hTe)).trans he)
    (fun b o hbo => (other b fun q => by rw [q, hnT] at hbo; cases hbo).trans (hkb b o hbo)) hen hd (Array.getElem?_eq_some_iff.mp h1).1
    fun h' ⟨x1, oe, vs, T, oT, ts, p1, p2, p3, p4, p5, p6, p7, p8, p9, x4⟩ => h h' ⟨x1, oe, vs, T, oT, ts, p1, p2, p3, p4, p5, p6, p7, p8, p9, fun b o hb hnf => x4 b o ((other b (noRecord b o hb hnf)).trans hb) hnf⟩
end
section
variable {S : Stat} {X Y : List Addr} {f f₀ : List Loc} {σ : Sto} {h h' h₀ : Heap} {ea : Addr} {k : Cls} {s s' s₀ : Shared} {l : List Env}
noncomputable def frameAddrs (l : List Env) : List Addr := l.filterMap (·.frame)
theorem FrL.mem (F : FrL S f h l) {a : Addr} (ha : a ∈ frameAddrs l) : S.hb.get? a = none ∧ a ∉ addrs f ∧ ∃ o es n, h.get? a = some o ∧ o.data = .dict es n := by
  obtain ⟨e, he, hf⟩ := List.mem_filterMap.mp ha
  obtain ⟨_, L, o, es, n, h1, h2, h3, h4, h5⟩ := F e he
  rw [h1] at hf; cases hf
  exact ⟨h2, h3, o, es, n, h4, h5⟩
theorem FrL.fun {base : Heap} (F : FrL S f h l) (hb : ∀ a ∈ frameAddrs l, base.get? a = none) : h.FunFrames base l := by
  induction l with
  | nil => trivial
  | cons e l ih =>
    obtain ⟨h0, L, o, es, n, h1, h2, h3, h4, h5⟩ := F e List.mem_cons_self
    exact ⟨h0, ⟨L, o, h1, hb L (List.mem_filterMap.mpr ⟨e, List.mem_cons_self, h1⟩), h4, fun vs q => by rw [h5] at q; cases q⟩,
      ih (fun e he => F e (List.mem_cons_of_mem _ he)) fun a ha => hb a (by
        obtain ⟨e', he, hf⟩ := List.mem_filterMap.mp ha
        exact List.mem_filterMap.mpr ⟨e', List.mem_cons_of_mem _ he, hf⟩)⟩
structure Noted (S : Stat) (f : List Loc) (h h' : Heap) (hs : List Addr) : Prop where
  same : ∀ b o, b ∉ hs → h.get? b = some o → ∃ o', h'.get? b = some o' ∧ SameObj o o'
  base : ∀ b o, S.hb.get? b = some o → h'.get? b = some o
  trk : ∀ b ∈ addrs f, h'.get? b = h.get? b
theorem Noted.lk {hs hs' : List Addr} (N : Noted S f h h' hs) (L : Lk S (hs ++ X) f σ h) (hX : ∀ a ∈ X, a ∉ hs) (hn : ∀ a ∈ hs', (a ∈ hs ∨ h.get? a = none) ∧ ∃ o, h'.get? a = some o) : Lk S (hs' ++ X) f σ h' := by
  have nf : ∀ a, a ∈ addrs f → ∃ o, h.get? a = some o := fun a ha => L.live ha
  have ho : ∀ a o, h.get? a = some o → a ∉ addrs f → a ∉ hs ++ X → (a ∉ addrs f ∧ a ∉ hs' ++ X) ∧ ∃ o', h'.get? a = some o' ∧ SameObj o o' := fun a o e h1 h2 => by
    refine ⟨⟨h1, fun q => ?_⟩, N.same a o (fun q => h2 (List.mem_append_left _ q)) e⟩
    rcases List.mem_append.mp q with q | q
    · rcases (hn a q).1 with z | z
      · exact h2 (List.mem_append_left _ z)
      · rw [z] at e; first | exact zAA e | exact ff_tt e | cases e
    · exact h2 (List.mem_append_right _ q)
  refine ⟨N.base, L.len, L.nodup, L.fresh, fun a ha => ?_, fun i l o hi hσ => (L.obj i l o hi hσ).keep (fun x v e => VR.keep (fun _ _ e => e) ho x v e) (fun x v e => VRs.keep (fun _ _ e => e) ho x v e) fun a ha => N.trk a (zAf hi ha)⟩
  rcases List.mem_append.mp ha with q | q
  · obtain ⟨z, o, e⟩ := hn a q
    rcases z with z | z
    · obtain ⟨h1, h2, _⟩ := L.hid a (List.mem_append_left _ z)
      exact ⟨h1, h2, o, e⟩
    · refine ⟨?_, fun hf => ?_, o, e⟩
      · cases hb : S.hb.get? a with
        | none => rfl
        | some o => have := L.base a o hb; rw [z] at this; cases this
      · obtain ⟨o, q⟩ := nf a hf; rw [z] at q; cases q
  · obtain ⟨h1, h2, o, e⟩ := L.hid a (List.mem_append_right _ q)
    exact ⟨h1, h2, let ⟨o', q', _⟩ := N.same a o (hX a q) e; ⟨o', q'⟩⟩
theorem Noted.kp {hs : List Addr} (N : Noted S f s.heap h' hs) (K : Kp f₀ Y s₀ s) (hn : ∀ a ∈ hs, s₀.heap.get? a = none) : Kp f₀ Y s₀ { s with heap := h' } := by
  have no : ∀ a o, s₀.heap.get? a = some o → a ∉ hs := fun a o e m => by rw [hn a m] at e; cases e
  refine ⟨?_, fun a o e => ?_, fun a o e h1 h2 => ?_, fun a o es n e d h1 => ?_⟩
  · show ({ s with heap := h' } : Shared) = _
    rw [K.rest]
  · obtain ⟨o₁, e₁⟩ := K.live a o e
    exact let ⟨o', q', _⟩ := N.same a o₁ (no a o e) e₁; ⟨o', q'⟩
  · obtain ⟨o₁, e₁, q₁⟩ := K.kept a o e h1 h2
    obtain ⟨o₂, e₂, q₂⟩ := N.same a o₁ (no a o e) e₁
    exact ⟨o₂, e₂, q₁.trans q₂⟩
  · obtain ⟨o₁, es₁, n₁, e₁, d₁⟩ := K.dicts a o es n e d h1
    obtain ⟨o₂, e₂, q₂⟩ := N.same a o₁ (no a o e) e₁
    exact ⟨o₂, es₁, n₁, e₂, q₂.data.trans d₁⟩
theorem zAn {M : Model} {A : Around} {E : Value → Shared → Prop} {Q : Unit → Shared → Prop} {fr : Option Addr} (x : ExcR S X f σ s.heap h₀ ea k) (hX : ∀ a ∈ X, ∃ o, h₀.get? a = some o)
    (hQ : ∀ h' hs, (∀ a ∈ hs, h₀.get? a = none) → Noted S f s.heap h' hs → Lk S X f σ h' → ExcR S X f σ h' h₀ ea k → Q () { s with heap := h' }) : wpAny M A (setFlight (.ref ea) fr) Q E s := by
  obtain ⟨e1, ec, hs, oe, vs, Lh, e4, e5, e6, e8⟩ := id x
  rcases e8 with ⟨rfl, v1⟩ | ⟨T, oT, ts, rfl, t0, t1, t2, t3, t4, t5⟩
  · unfold setFlight
    refine wpAny_bind (wpAny_field e4 e6 v1 ?_)
    rw [if_neg (by decide)]
    refine wpAny_pure ?_
    exact hQ s.heap [] (fun a ha => nomatch ha) ⟨fun b o _ e => ⟨o, e, .refl o⟩, Lh.base, fun _ _ => rfl⟩ (Lh.less fun a ha => List.mem_append_right _ ha) x
  · unfold setFlight
    refine wpAny_bind (wpAny_field e4 e6 t2 ?_)
    rw [if_pos (show (Value.ref T != Value.none) = true from by simp)]
    refine wpAny_setField t3 t4 t5 ?_
    generalize (fr.elim Value.none fun f => rawInt f) = z
    have hd₃ := Obj.data_mapFields t4 (·.setIfInBounds 3 z)
    have hT := Heap.get?_update_self (Obj.mapFields (·.setIfInBounds 3 z)) t3 (Obj.isFreed_of_fields hd₃)
    have other : ∀ b, b ≠ T → (s.heap.update T (Obj.mapFields (·.setIfInBounds 3 z))).get? b = s.heap.get? b := fun b hb => Heap.get?_update_other _ _ (Ne.symm hb)
    have hfree : ∀ a ∈ [ea, T], h₀.get? a = none := fun a ha => by
      rcases List.mem_cons.mp ha with rfl | ha
      · exact e1
      · rw [List.mem_singleton.mp ha]; exact t0
    have hTm : T ∈ [ea, T] ++ X := List.mem_append_left _ (List.mem_cons_of_mem _ (List.mem_singleton.mpr rfl))
    have N : Noted S f s.heap (s.heap.update T (Obj.mapFields (·.setIfInBounds 3 z))) [ea, T] := by
      refine ⟨fun b o hb e => ⟨o, (other b fun q => hb (q ▸ List.mem_cons_of_mem _ (List.mem_singleton.mpr rfl))).trans e, .refl o⟩, fun b o e => ?_, fun b hb => other b fun q => ?_⟩
      · exact (other b fun q => by rw [q, (Lh.hid T hTm).1] at e; cases e).trans (Lh.base b o e)
      · exact (Lh.hid T hTm).2.1 (q ▸ hb)
    have hXs : ∀ a ∈ X, a ∉ [ea, T] := fun a ha m => by obtain ⟨o, e⟩ := hX a ha; rw [hfree a m] at e; cases e
    have L1 : Lk S ([ea, T] ++ X) f σ (s.heap.update T (Obj.mapFields (·.setIfInBounds 3 z))) := N.lk Lh hXs fun a ha => ⟨.inl ha, by
      rcases List.mem_cons.mp ha with rfl | ha
      · exact ⟨_, (other a (Ne.symm t1)).trans e4⟩
      · rw [List.mem_singleton.mp ha]; exact ⟨_, hT⟩⟩
    refine hQ _ [ea, T] hfree N (L1.less fun a ha => List.mem_append_right _ ha) ⟨e1, ec, [ea, T], oe, vs, L1, (other ea (Ne.symm t1)).trans e4, e5, e6, .inr ⟨T, _, _, rfl, t0, t1, t2, hT, hd₃, by rw [Array.size_setIfInBounds]; exact t5⟩⟩
theorem zGT {M : Model} {A : Around} {E : Value → Shared → Prop} {Q : Unit → Shared → Prop} {env : Env} {outer : List Env} {L : Addr} (hfr : A.frames = some (env :: outer)) (F : FrL S f s.heap (env :: outer)) (hf : env.frame = some L)
    (x : ExcR S X f σ s.heap h₀ ea k) (hX : ∀ a ∈ X, ∃ o, h₀.get? a = some o) (hback : ∀ a, s.heap.get? a = none → h₀.get? a = none)
    (hQ : ∀ h' hs oe vs T, (∀ a ∈ hs, h₀.get? a = none) → Noted S f s.heap h' hs → ExcR S X f σ h' h₀ ea k → h'.get? ea = some oe → oe.data = .fields vs → vs[1]? = some (.ref T) → Q () { s with heap := h' }) :
    wpAny M A (noteFrame (.ref ea) env) Q E s := by
  have x0 := x
  obtain ⟨e1, ec, hs, oe, vs, Lh, e4, e5, e6, e8⟩ := x
  have hea : ea ∈ hs := by rcases e8 with ⟨rfl, _⟩ | ⟨T, _, _, rfl, _⟩ <;> exact List.mem_cons_self
  have hfree : ∀ a ∈ hs, h₀.get? a = none := by
    rcases e8 with ⟨rfl, _⟩ | ⟨T, _, _, rfl, t1, _⟩
    · intro a ha; rw [List.mem_singleton.mp ha]; exact e1
    · intro a ha
      rcases List.mem_cons.mp ha with rfl | ha
      · exact e1
      · rw [List.mem_singleton.mp ha]; exact t1
  have Fr : ∀ {a : Addr}, a ∈ frameAddrs (env :: outer) → S.hb.get? a = none ∧ a ∉ addrs f ∧ ∃ o es n, s.heap.get? a = some o ∧ o.data = .dict es n := FrL.mem F
  have hB : ∀ a ∈ frameAddrs (env :: outer) ++ hs, (hideAll s.heap (frameAddrs (env :: outer) ++ hs)).get? a = none := fun a ha => zCC ha
  have hFF : s.heap.FunFrames (hideAll s.heap (frameAddrs (env :: outer) ++ hs)) (env :: outer) := F.fun fun a ha => hB a (List.mem_append_left _ ha)
  have hst := zEb s.heap (frameAddrs (env :: outer) ++ hs)
  have fin : ∀ h', Entered (hideAll s.heap (frameAddrs (env :: outer) ++ hs)) ea oe.cls s.heap h' → Q () { s with heap := h' } := fun h' q => by
    obtain ⟨q1, oe', vs', T', oT', ts', p1, p2, p3, p4, p5, p6, p7, p8, p9, q4⟩ := q
    have exact' : ∀ b o, b ∉ frameAddrs (env :: outer) → b ∉ hs → s.heap.get? b = some o → h'.get? b = some o := fun b o h1 h2 e =>
      q1 b o ((zBK fun m => (List.mem_append.mp m).elim h1 h2).trans e)
    have same : ∀ b o, b ∉ hs → s.heap.get? b = some o → ∃ o', h'.get? b = some o' ∧ SameObj o o' := fun b o h2 e => by
      by_cases h1 : b ∈ frameAddrs (env :: outer)
      · obtain ⟨_, _, o2, es, n, r1, r2⟩ := Fr h1
        rw [e] at r1; cases r1
        obtain ⟨sl, r3⟩ := q4 b o e fun vs q => by rw [r2] at q; cases q
        exact ⟨_, r3, .inr ⟨⟨es, n, r2⟩, rfl, rfl, rfl⟩⟩
      · exact ⟨o, exact' b o h1 h2 e, .refl o⟩
    have hT' : T' ∈ hs ∨ s.heap.get? T' = none := by
      cases e : s.heap.get? T' with
      | none => exact .inr rfl
      | some o =>
        by_cases m : T' ∈ frameAddrs (env :: outer) ++ hs
        · rcases List.mem_append.mp m with m | m
          · obtain ⟨_, _, o2, es, n, r1, r2⟩ := Fr m
            obtain ⟨sl, r3⟩ := q4 T' o2 r1 fun vs q => by rw [r2] at q; cases q
            rw [p7] at r3; cases r3
            rw [r2] at p8; cases p8
          · exact .inl m
        · rw [zBK m, e] at p5; first | exact zAA p5 | exact ff_tt p5 | cases p5
    have N : Noted S f s.heap h' hs := by
      refine ⟨same, fun b o e => ?_, fun b hb => ?_⟩
      · have hb : s.heap.get? b = some o := Lh.base b o e
        refine exact' b o (fun m => ?_) (fun m => ?_) hb
        · rw [(Fr m).1] at e; first | exact zAA e | exact ff_tt e | cases e
        · rw [(Lh.hid b (List.mem_append_left _ m)).1] at e; first | exact zAA e | exact ff_tt e | cases e
      · obtain ⟨o, e⟩ := Lh.live hb
        rw [e]
        exact exact' b o (fun m => (Fr m).2.1 hb) (fun m => (Lh.hid b (List.mem_append_left _ m)).2.1 hb) e
    have hXs : ∀ a ∈ X, a ∉ hs := fun a ha m => by obtain ⟨o, e⟩ := hX a ha; rw [hfree a m] at e; cases e
    have L1 : Lk S ([ea, T'] ++ X) f σ h' := N.lk Lh hXs fun a ha => by
      rcases List.mem_cons.mp ha with rfl | ha
      · exact ⟨.inl hea, _, p1⟩
      · obtain rfl := List.mem_singleton.mp ha; exact ⟨hT', _, p7⟩
    refine hQ h' hs oe' vs' T' hfree N ⟨e1, ec, [ea, T'], oe', vs', L1, p1, p2.trans e5, p3, .inr ⟨T', oT', ts', rfl, ?_, p6, p4, p7, p8, p9⟩⟩ p1 p3 p4
    rcases hT' with m | m
    · exact hfree T' m
    · exact hback T' m
  rcases e8 with ⟨rfl, v1⟩ | ⟨T, oT, ts, rfl, t0, t1, t2, t3, t4, t5⟩
  · exact note_first hfr hFF hf e4 hst (hB ea (List.mem_append_right _ hea)) e6 v1 fin
  · exact note_next hfr hFF hf e4 hst (hB ea (List.mem_append_right _ hea)) e6 t2 (hB T (List.mem_append_right _ (List.mem_cons_of_mem _ (List.mem_singleton.mpr rfl)))) t1 t3 t4 (Array.getElem?_eq_getElem t5) (hQ s.heap [] oe vs T (fun a ha => nomatch ha) ⟨fun b o _ e => ⟨o, e, .refl o⟩, Lh.base, fun _ _ => rfl⟩ x0 e4 e6 t2) fin
theorem zDh {M : Model} {A : Around} {E : Value → Shared → Prop} {Q : Unit → Shared → Prop} {env : Env} {outer : List Env} {L : Addr} (hfr : A.frames = some (env :: outer)) (F : FrL S f s.heap (env :: outer)) (hf : env.frame = some L)
    (x : ExcR S X f σ s.heap s₀.heap ea k) (hX : ∀ a ∈ X, ∃ o, s₀.heap.get? a = some o) (kp : Kp f₀ Y s₀ s)
    (hQ : ∀ h', Kp f₀ Y s₀ { s with heap := h' } → Lk S X f σ h' → ExcR S X f σ h' s₀.heap ea k → Q () { s with heap := h' }) :
    wpAny M A (noteFrame (.ref ea) env) (fun _ s₂ => wpAny M A (setFlight (.ref ea) none) Q E s₂) E s :=
  zGT hfr F hf x hX (fun _ h => zAN kp.live h) fun h₁ hs _ _ _ h1 N x1 _ _ _ => zAn (s := { s with heap := h₁ }) x1 hX fun h₂ hs2 h2 N2 L2 x2 => hQ h₂ (N2.kp (N.kp kp h1) h2) L2 x2
theorem zBB {e : Value} {env env' : Env} (h : env'.frame = env.frame) : noteFrame e env = noteFrame e env' := by
  unfold noteFrame PySem.frameOf
  rw [h]
end
end Mine
end

/-! # Expr1 -/
section
set_option autoImplicit false
namespace Mine
open PySem PyProof.Rows
section
variable {S : Stat} {C : Ctx} {T : Nat → Option Fn} {F : Calls} {q : Bool} {d : Nat} {Γ : List Str} {sc : Scope}
theorem Lk.ofBase {X : List Addr} {f : List Loc} {σ : Sto} {h : Heap} (L : Lk S X f σ h) {v : V} {w : Value} (r : VR S [] [] S.hb v w) : VR S X f h v w :=
  VR.keep (fun i l e => by simp at e) (fun a o ho _ _ => ⟨⟨fun q => (by rw [L.fresh a q] at ho; cases ho), fun q => (by rw [(L.hid a q).1] at ho; cases ho)⟩, o, L.base a o ho, .refl o⟩) v w r
theorem Lk.ns {X : List Addr} {f : List Loc} {σ : Sto} {h : Heap} {a : Addr} {m : Str → Option Value} (L : Lk S X f σ h) (n : S.hb.Ns a m) : h.Ns a m := by
  obtain ⟨o, es, ep, ho, r⟩ := n
  exact ⟨o, es, ep, L.base a o ho, r⟩
theorem ok_none {k pos} : EOk S F q d Γ sc (.Constant .none k pos) (.lit .none) := fun env ρ f X σ s A st _ => by
  rw [x_lit]
  exact wpAny_Constant_none (.leaf st.lk (.refl s) (by rw [VR]))
theorem ok_bool {b k pos} : EOk S F q d Γ sc (.Constant (.bool b) k pos) (.lit (.bool b)) := fun env ρ f X σ s A st _ => by
  rw [x_lit]
  exact wpAny_Constant_bool (.leaf st.lk (.refl s) (by rw [VR]))
theorem ok_int {i k pos} : EOk S F q d Γ sc (.Constant (.int i) k pos) (.lit (.int i)) := fun env ρ f X σ s A st _ => by
  rw [x_lit]
  exact wpAny_Constant_int (.leaf st.lk (.toks s _) (by rw [VR]; exact ⟨_, rfl⟩))
theorem ok_str {x : Str} {k pos} (h : (x.length ≤ 1000 && PyData.strOk x) = true) : EOk S F q d Γ sc (.Constant (.str x) k pos) (.lit (.str x)) := fun env ρ f X σ s A st _ => by
  rw [x_lit]
  rw [Bool.and_eq_true] at h
  have := of_decide_eq_true h.1
  exact wpAny_Constant_str (.leaf st.lk (.toks s _) (by rw [VR]; exact ⟨⟨_, rfl⟩, by unfold LIM; omega, h.2⟩))
theorem load_name {env : Env} {x : Str} {w : Value} {s : Shared} {A : Around} {Q : Value → Shared → Prop} {E : Value → Shared → Prop} (hk : env.scope.kind = .function) (hc : (x == ("__classdict__" : Str)) = false) (n : NameIs env s.heap x w) (h : Q w s) :
    wpAny (model S.prog S.w) A (loadName env x) Q E s := by
  rcases n with ⟨h1, m, h2, h3⟩ | ⟨h1, c, h2, h3⟩
  · exact wpAny_loadName_local hk h1 h2 h3 h
  · rcases h1 with h1 | h1
    · exact wpAny_loadName_cell hk h1 h2 h3 h
    · exact wpAny_loadName_free hk h1 h2 h3 h hc
theorem zEz {ρ : List V} {i : Nat} {v : V} (h : readVar ρ i = some v) : ρ[i]? = some v ∧ v ≠ .undef := by
  unfold readVar at h
  split at h
  · first | exact zAA h | exact ff_tt h | cases h
  · first | exact zAA h | exact ff_tt h | cases h
  · rename_i w h1 h2
    cases h
    exact ⟨h2, fun e => h1 e⟩
theorem ok_name (fs : Facts S C T) {x : Str} {pos : Pos} {c : CE} (h : cName C Γ sc x = some c) : EOk S F q d Γ sc (.Name x pos) c := fun env ρ f X σ s A st hne => by
  unfold cName at h
  split at h
  · first | exact zAA h | exact ff_tt h | cases h
  rename_i hn
  simp only [Bool.or_eq_true, not_or, Bool.not_eq_true] at hn
  refine wpAny_Name ?_ hn.1
  split at h
  · rename_i hv
    simp only [Option.map_eq_some_iff] at h
    obtain ⟨i, hi, rfl⟩ := h
    rw [x_var] at hne ⊢
    cases hr : readVar ρ i with
    | none => rw [hr] at hne; exact absurd rfl hne
    | some v =>
      obtain ⟨h1, h2⟩ := zEz hr
      obtain ⟨w, n, r⟩ := st.fr.vals x i v hv hi h1 h2
      exact load_name st.fr.kind hn.2 n (QS.leaf st.lk (.refl s) r)
  · split at h
    · rename_i hg
      simp only [Option.map_eq_some_iff] at h
      obtain ⟨v, hv, rfl⟩ := h
      rw [x_lit]
      obtain ⟨mg, mb, g1, g2, g3, _⟩ := fs.g
      obtain ⟨w, e1, e2⟩ := g3 x v hv
      exact zBg st.fr.kind (st.fr.isGlob hg) (by rw [st.fr.glob]; exact st.lk.ns g1) e1 (QS.leaf st.lk (.refl s) (st.lk.ofBase e2))
    · first | exact zAA h | exact ff_tt h | cases h
theorem zAg {β : Type} {σ : Sto} {o : Option β} (h : R.lift σ o ≠ .stuck) : ∃ x, o = some x := by
  cases o with
  | none => exact absurd rfl h
  | some x => exact ⟨x, rfl⟩
theorem zHd {X : List Addr} {f : List Loc} {σ : Sto} {s : Shared} {A : Around} {E : Value → Shared → Prop} {y : Str} {b x : V} {va vb : Value} (e : ev2 .mul σ (.str y) b = some x) (ra : VR S X f s.heap (.str y) va) (rb : VR S X f s.heap b vb) :
    wpAny (model S.prog S.w) A (binaryOp .Mult va vb) (PE S X f s x) E s := by
  have e : strMul y b = some x := e
  cases b with
  | int n =>
    obtain ⟨u, rfl⟩ := zAW rb
    obtain ⟨⟨t, rfl⟩, -⟩ := zAR ra
    have e : (if (n == 31 && y.length == 1 && PyData.strOk (Txt.mul y n) && decide ((Txt.mul y n).length ≤ 100)) = true then some (V.str (Txt.mul y n)) else none) = some x := e
    split at e
    · rename_i hc
      cases e
      simp only [Bool.and_eq_true, beq_iff_eq, decide_eq_true_eq] at hc
      obtain ⟨⟨⟨rfl, hl⟩, hk⟩, h100⟩ := hc
      refine PySem.SB.mul ⟨by decide, fun _ _ => by rw [hl]; decide, fun _ _ => by rw [hl]; decide⟩ fun t' k => .str (Nat.le_trans h100 (by decide)) hk
    · exact zAA e
  | _ => exact zAA e
theorem bin_sound {X : List Addr} {f : List Loc} {σ : Sto} {s : Shared} {A : Around} {E : Value → Shared → Prop} {op : Operator} {o : P2} {a b x : V} {va vb : Value} (ho : binOf op = some o) (L : Lk S X f σ s.heap) (e : ev2 o σ a b = some x) (ra : VR S X f s.heap a va) (rb : VR S X f s.heap b vb) :
    wpAny (model S.prog S.w) A (binaryOp op va vb) (PE S X f s x) E s := by
  by_cases hop : op = .Add
  · subst hop
    cases ho
    exact add_sound L e ra rb
  by_cases hm : op = .Mult ∧ ∃ y, a = .str y
  · obtain ⟨rfl, y, rfl⟩ := hm
    cases ho
    exact zHd e ra rb
  · have : ∃ i j, a = .int i ∧ b = .int j := by
      cases op <;> first | exact absurd rfl hop | (cases ho; done) | (cases ho; exact zBV e) | (cases ho; cases a <;> first | exact absurd ⟨rfl, _, rfl⟩ hm | exact zAA e | exact zBV (g := fun x y => if smallFactor x || smallFactor y then some (.int (x * y)) else none) e)
    obtain ⟨i, j, rfl, rfl⟩ := this
    obtain ⟨t, rfl⟩ := zAW ra
    obtain ⟨u, rfl⟩ := zAW rb
    exact bin_int ho e
theorem zGk {op : Operator} {o : P2} (h : binOf op = some o) : loud2 o = false := by
  cases op <;> simp [binOf] at h <;> subst h <;> rfl
theorem zAy {op : CmpOp} {o : P2} (h : cmpOf op = some o) : loud2 o = false := by
  cases op <;> simp [cmpOf] at h <;> subst h <;> rfl
theorem ok_BinOp {l r : Expr} {op : Operator} {pos : Pos} {o : P2} {a b : CE} (ho : binOf op = some o) (hl : EOk S F q d Γ sc l a) (hr : EOk S F q d Γ sc r b) : NOk S F q d Γ sc (.BinOp l op r pos) (.p2 o a b) := fun env ρ f X σ s A st hne => by
  rw [x_p2, zGk ho, Bool.false_and, if_neg (by simp)] at hne ⊢
  refine wpAny_BinOp ?_
  refine Sim.goN (hl env ρ f X σ s A st) hne (fun _ _ x => x) (fun _ _ x => x) fun va a' σ₁ g₁ s₁ hne hg k L ra hQ hE => ?_
  have st₁ := st.keep hg k L
  refine Sim.goN (hr env ρ _ X σ₁ s₁ A st₁) hne hQ hE fun vb b' σ₂ g₂ s₂ hne hg₂ k₂ L₂ rb hQ hE => ?_
  obtain ⟨x, hx⟩ := zAg hne
  rw [hx] at hQ
  exact wpAny_mono (bin_sound ho L₂ hx (VR.keepK k₂ hg₂ (fun _ h => nomatch h) ra) rb) (fun v s' p => hQ v s' (p.here L₂)) fun _ _ x => x
end
end Mine
end

/-! # Expr2 -/
section
set_option autoImplicit false
namespace Mine
open PySem PyProof.Rows
section
variable {S : Stat} {C : Ctx} {T : Nat → Option Fn} {F : Calls} {q : Bool} {d : Nat} {Γ : List Str} {sc : Scope}
variable {X : List Addr} {f : List Loc} {σ : Sto} {s : Shared} {A : Around} {E : Value → Shared → Prop}
theorem Lk.parts {h : Heap} (fs : Facts S C T) (L : Lk S X f σ h) : PartsAt S h := fun hh => by
  obtain ⟨d, g, e, hd, hm, hg⟩ := fs.parts hh
  refine ⟨d, g, e, hd, ?_, hg⟩
  obtain ⟨o, es, ep, ho, r⟩ := hm
  exact ⟨o, es, ep, L.base d o ho, r⟩
theorem zHK {a b : V} {va vb : Value} {r : Bool} (hu : A.units + 64 < cLine) (L : Lk S X f σ s.heap) (e : eqV σ a b = some r) (ra : VR S X f s.heap a va) (rb : VR S X f s.heap b vb) :
    wpAny (model S.prog S.w) A (compareOp .Eq va vb) (PE S X f s (.bool r)) E s ∧ wpAny (model S.prog S.w) A (compareOp .NotEq va vb) (PE S X f s (.bool !r)) E s := by
  unfold eqV at e
  split at e
  · rename_i xs ys h1 h2
    split at e
    · rename_i hne
      cases e
      obtain ⟨p, vs, n, rfl, il, rs, hl⟩ := zAU L h1 ra
      obtain ⟨p2, vs2, n2, rfl, il2, rs2, hl2⟩ := zAU L h2 rb
      have hsz : (vs.size != vs2.size) = true := by rw [zAK rs, zAK rs2]; exact hne
      exact ⟨P.eq_list_lengths il il2 hsz (by omega) .bool0, SeqAt.RcNeAt.lists_lengths ⟨_, il, rfl, n, rfl⟩ ⟨_, il2, rfl, n2, rfl⟩ hsz (by omega) _ _ _ _ .bool0⟩
    · exact zFv hu L e ra rb
  · exact zFv hu L e ra rb
theorem zBU {op : CmpOp} {o : P2} (fs : Facts S C T) (hu : A.units + 64 < cLine) (ho : cmpOf op = some o) {a b x : V} {va vb : Value} (L : Lk S X f σ s.heap) (e : ev2 o σ a b = some x) (ra : VR S X f s.heap a va) (rb : VR S X f s.heap b vb) :
    wpAny (model S.prog S.w) A (compareOp op va vb) (PE S X f s x) E s := by
  by_cases h : op ≠ .Eq ∧ op ≠ .NotEq ∧ op ≠ .In ∧ op ≠ .NotIn
  · obtain ⟨i, j, rfl, rfl⟩ := cmp_ints ho h e
    obtain ⟨t, rfl⟩ := zAW ra
    obtain ⟨u, rfl⟩ := zAW rb
    exact cmp_int ho h e
  · have h' : op = .Eq ∨ op = .NotEq ∨ op = .In ∨ op = .NotIn := by
      by_cases h1 : op = .Eq
      · exact .inl h1
      by_cases h2 : op = .NotEq
      · exact .inr (.inl h2)
      by_cases h3 : op = .In
      · exact .inr (.inr (.inl h3))
      by_cases h4 : op = .NotIn
      · exact .inr (.inr (.inr h4))
      exact absurd ⟨h1, h2, h3, h4⟩ h
    rcases h' with rfl | rfl | rfl | rfl <;> cases ho
    · delta ev2 at e; dsimp only at e; simp only [Option.map_eq_some_iff] at e
      obtain ⟨r, h1, rfl⟩ := e
      exact (zHK hu L h1 ra rb).1
    · delta ev2 at e; dsimp only at e; simp only [Option.map_eq_some_iff] at e
      obtain ⟨r, h1, rfl⟩ := e
      exact (zHK hu L h1 ra rb).2
    · delta ev2 at e; dsimp only at e; simp only [Option.map_eq_some_iff] at e
      obtain ⟨r, h1, rfl⟩ := e
      exact (zHG (L.parts fs) L h1 ra rb).1
    · delta ev2 at e; dsimp only at e; simp only [Option.map_eq_some_iff] at e
      obtain ⟨r, h1, rfl⟩ := e
      exact (zHG (L.parts fs) L h1 ra rb).2
theorem St.room {env : Env} {ρ : List V} (st : St S q d Γ sc env ρ f X σ s A) : A.units + 64 < cLine := by
  have := st.cx.units
  have : cLine = 9900 := rfl
  omega
theorem zEp {v : V} {w : Value} {β : Type} {rk : Bool → Sto → R β} {W : Bool → Shared → Prop} (L : Lk S X f σ s.heap) (r : VR S X f s.heap v w) (hne : (R.lift σ (truthy σ v)).bind rk ≠ .stuck)
    (hk : ∀ t s', truthy σ v = some t → Ext s s' → rk t σ ≠ .stuck → W t s') : wpAny (model S.prog S.w) A (PySem.truthy w) W E s := by
  cases h : truthy σ v with
  | none => rw [h] at hne; exact absurd rfl hne
  | some t =>
    rw [h] at hne
    exact wpAny_mono (zAX L h r) (fun c s' q => by obtain ⟨rfl, e⟩ := q; exact hk c s' h e hne) fun _ _ x => x
theorem QS.moved {α β : Type} {Y : List Addr} {P : α → β → List Loc → Shared → Prop} {r : R β} {a : α} {s₁ s' : Shared} (e : Ext s s₁) (h : QS S X Y f P s₁ r a s') : QS S X Y f P s r a s' :=
  QS.lifts f [] s s₁ r a s' (.nil s) (e.kp f Y) (by rwa [List.append_nil])
theorem QN.moved {Y : List Addr} {r : R V} {a : Value} {s₁ s' : Shared} (e : Ext s s₁) (h : QN S X Y f s₁ r a s') : QN S X Y f s r a s' :=
  QN.lifts f [] s s₁ r a s' (.nil s) (e.kp f Y) (by rwa [List.append_nil])
theorem ES.moved {β : Type} {Y : List Addr} {tr : Bool} {r : R β} {a : Value} {s₁ s' : Shared} (e : Ext s s₁) (h : ES S X Y f tr s₁ r a s') : ES S X Y f tr s r a s' :=
  ES.lifts f [] s s₁ r a s' (.nil s) (e.kp f Y) (by rwa [List.append_nil])
theorem St.moved {env : Env} {ρ : List V} {s' : Shared} (st : St S q d Γ sc env ρ f X σ s A) (e : Ext s s') : St S q d Γ sc env ρ f X σ s' A := by
  have := st.keep (g := []) (.nil s) (e.kp f []) (by rw [List.append_nil]; exact e.lk st.lk)
  rwa [List.append_nil] at this
theorem QS.bool {Y : List Addr} {b : Bool} {s' : Shared} (L : Lk S X f σ s.heap) (e : Ext s s') : QS S X Y f (fun b t _ _ => b = t) s (.ok b σ) b s' :=
  ⟨b, σ, [], rfl, .nil s, e.kp f Y, by rw [List.append_nil]; exact e.lk L, rfl⟩
theorem ok_p1 {e e' : Expr} {c : CE} {o : P1} {t : Value → Sem Value} (hq : (loud1 o && q) = false) (h : EOk S F q d Γ sc e c)
    (rule : ∀ (env : Env) (A : Around) (Q E : Value → Shared → Prop) (s : Shared), wpAny (model S.prog S.w) A (eval e env) (fun v s₁ => wpAny (model S.prog S.w) A (t v) Q E s₁) E s → wpAny (model S.prog S.w) A (eval e' env) Q E s)
    (op : ∀ (X : List Addr) (f : List Loc) (σ : Sto) (s : Shared) (A : Around) (E : Value → Shared → Prop) (a x : V) (va : Value), (q = false → A.handled = none) → Lk S X f σ s.heap → ev1 o σ a = some x → VR S X f s.heap a va → wpAny (model S.prog S.w) A (t va) (PE S X f s x) E s) :
    NOk S F q d Γ sc e' (.p1 o c) := fun env ρ f X σ s A st hne => by
  rw [x_p1, hq, if_neg (by simp)] at hne ⊢
  refine rule _ _ _ _ _ ?_
  refine Sim.goN (h env ρ f X σ s A st) hne (fun _ _ x => x) (fun _ _ x => x) fun va a' σ₁ g₁ s₁ hne hg k L ra hQ hE => ?_
  obtain ⟨x, hx⟩ := zAg hne
  rw [hx] at hQ
  exact wpAny_mono (op X _ σ₁ s₁ A _ a' x va st.cx.hand L hx ra) (fun v s' p => hQ v s' (p.here L)) fun _ _ x => x
theorem ok_not {e : Expr} {c : CE} {pos : Pos} (h : EOk S F q d Γ sc e c) : EOk S F q d Γ sc (.UnaryOp .Not e pos) (.p1 .not c) :=
  NOk.eok <| ok_p1 (by simp [loud1]) h (fun env A Q E s h => UnaryOp_ h) fun X f σ s A E a x va _ L hx ra => by
    delta ev1 at hx; dsimp only at hx; simp only [Option.map_eq_some_iff] at hx
    obtain ⟨b, hb, rfl⟩ := hx
    exact not_of (wpAny_mono (zAX L hb ra) (fun c s' q => by obtain ⟨rfl, e⟩ := q; exact ⟨e, by rw [VR], fun _ e => by cases e⟩) fun _ _ x => x)
theorem ok_neg {e : Expr} {c : CE} {pos : Pos} (h : EOk S F q d Γ sc e c) : EOk S F q d Γ sc (.UnaryOp .USub e pos) (.p1 .neg c) :=
  NOk.eok <| ok_p1 (by simp [loud1]) h (fun env A Q E s h => UnaryOp_ h) fun X f σ s A E a x va _ L hx ra => by
    cases a with
    | int i => cases hx; obtain ⟨t, rfl⟩ := zAW ra; exact neg_sound
    | _ => first | exact zAA hx | exact ff_tt hx | cases hx
theorem zFF {e : Expr} {c : CE} {k p pos} (fs : Facts S C T) (h : EOk S F q d Γ sc e c) : EOk S F q d Γ sc (.Compare e [.Is] [.Constant .none k p] pos) (.p1 .isNone c) :=
  NOk.eok <| ok_p1 (by simp [loud1]) h (fun env A Q E s h => wpAny_Compare1 (wpAny_mono h (fun v s₁ h₁ => wpAny_Constant_none h₁) fun _ _ x => x) rfl) fun X f σ s A E a x va _ L hx ra => zFo hx ra fs.pnn
theorem zCM {e : Expr} {c : CE} {k p pos} (fs : Facts S C T) (h : EOk S F q d Γ sc e c) : EOk S F q d Γ sc (.Compare e [.IsNot] [.Constant .none k p] pos) (.p1 .isNotNone c) :=
  NOk.eok <| ok_p1 (by simp [loud1]) h (fun env A Q E s h => wpAny_Compare1 (wpAny_mono h (fun v s₁ h₁ => wpAny_Constant_none h₁) fun _ _ x => x) rfl) fun X f σ s A E a x va _ L hx ra => zDH hx ra fs.pnn
theorem ok_p2 {l r e' : Expr} {a b : CE} {o : P2} {t : Value → Value → Sem Value} (hq : (loud2 o && q) = false) (hl : EOk S F q d Γ sc l a) (hr : EOk S F q d Γ sc r b)
    (rule : ∀ (env : Env) (A : Around) (Q E : Value → Shared → Prop) (s : Shared), wpAny (model S.prog S.w) A (eval l env) (fun v s₁ => wpAny (model S.prog S.w) A (eval r env) (fun w s₂ => wpAny (model S.prog S.w) A (t v w) Q E s₂) E s₁) E s → wpAny (model S.prog S.w) A (eval e' env) Q E s)
    (op : ∀ (X : List Addr) (f : List Loc) (σ : Sto) (s : Shared) (A : Around) (E : Value → Shared → Prop) (a b x : V) (va vb : Value), (q = false → A.handled = none) → A.units + 64 < cLine → Lk S X f σ s.heap → ev2 o σ a b = some x → VR S X f s.heap a va → VR S X f s.heap b vb → wpAny (model S.prog S.w) A (t va vb) (fun v s' => Ext s s' ∧ VR S X f s'.heap x v) E s) :
    EOk S F q d Γ sc e' (.p2 o a b) := fun env ρ f X σ s A st hne => by
  rw [x_p2, hq, if_neg (by simp)] at hne ⊢
  refine rule _ _ _ _ _ ?_
  refine Sim.goQ (P' := PV S X) (hl env ρ f X σ s A st) hne (fun _ _ x => x) (fun _ _ x => x) fun va a' σ₁ g₁ s₁ hne hg k L ra hQ hE => ?_
  have st₁ := st.keep hg k L
  refine Sim.goQ (P' := PV S X) (hr env ρ _ X σ₁ s₁ A st₁) hne hQ hE fun vb b' σ₂ g₂ s₂ hne hg₂ k₂ L₂ rb hQ hE => ?_
  obtain ⟨x, hx⟩ := zAg hne
  rw [hx] at hQ
  exact wpAny_mono (op X _ σ₂ s₂ A _ a' b' x va vb st.cx.hand st.room L₂ hx (VR.keepK k₂ hg₂ (fun _ h => nomatch h) ra) rb) (fun v s' p => hQ v s' (.leaf L₂ p.1 p.2)) fun _ _ x => x
theorem PE.weak {x : V} {v : Value} {s' : Shared} (p : PE S X f s x v s') : Ext s s' ∧ VR S X f s'.heap x v := ⟨p.1, p.2.1⟩
theorem ok_cmp {l r : Expr} {a b : CE} {op : CmpOp} {o : P2} {pos : Pos} (fs : Facts S C T) (ho : cmpOf op = some o) (hm : behindInMarks op r = false) (hl : EOk S F q d Γ sc l a) (hr : EOk S F q d Γ sc r b) :
    EOk S F q d Γ sc (.Compare l [op] [r] pos) (.p2 o a b) :=
  ok_p2 (by rw [zAy ho, Bool.false_and]) hl hr (fun env A Q E s h => wpAny_Compare1 h hm) fun X f σ s A E a b x va vb _ hu L hx ra rb => wpAny_mono (zBU fs hu ho L hx ra rb) (fun _ _ p => p.weak) fun _ _ x => x
end
end Mine
end

/-! # Expr3 -/
section
set_option autoImplicit false
namespace Mine
open PySem PyProof.Rows
structure GOk (S : Stat) (F : Calls) (q : Bool) (d : Nat) (Γ : List Str) (sc : Scope) (e : Expr) (c : CE) : Prop where
  eo : EOk S F q d Γ sc e c
  to : TOk S F q d Γ sc e c
  star : isStar e = false
  marks : ∀ op, behindInMarks op e = false
  fold : ∀ env x, foldedSetIterable e env x = pure x
inductive All2 {α β : Type} (P : α → β → Prop) : List α → List β → Prop where
  | nil : All2 P [] []
  | cons {a : α} {b : β} {as : List α} {bs : List β} : P a b → All2 P as bs → All2 P (a :: as) (b :: bs)
section
variable {S : Stat} {C : Ctx} {T : Nat → Option Fn} {F : Calls} {q : Bool} {d : Nat} {Γ : List Str} {sc : Scope}
variable {X : List Addr} {f : List Loc} {σ : Sto} {s : Shared} {A : Around} {E : Value → Shared → Prop}
theorem TOk.plain {e : Expr} {c : CE} (h : EOk S F q d Γ sc e c) (he : ∀ env whole, isTrue e env whole = (do let v ← whole; standAt e.pos; holding [v] (PySem.truthy v))) : TOk S F q d Γ sc e c := fun env ρ f X σ s A st hne => by
  refine isTrue_plain ?_ (he env _)
  refine Sim.goQ (P' := fun b t _ _ => b = t) (h env ρ f X σ s A st) hne (fun _ _ x => x) (fun _ _ x => x) fun va a' σ₁ g₁ s₁ hne hg k L ra hQ hE => ?_
  obtain ⟨x, hx⟩ := zAg hne
  rw [hx] at hQ
  exact wpAny_mono (zAX L hx ra) (fun c s' p => by obtain ⟨rfl, e⟩ := p; exact hQ c s' (.bool L e)) fun _ _ x => x
theorem TOk.not {e : Expr} {c : CE} {pos : Pos} (h : TOk S F q d Γ sc e c) : TOk S F q d Γ sc (.UnaryOp .Not e pos) (.p1 .not c) := fun env ρ f X σ s A st hne => by
  have key : ((evE F q (.p1 .not c) ρ σ).bind fun v σ => R.lift σ (truthy σ v)) = ((evE F q c ρ σ).bind fun v σ => R.lift σ (truthy σ v)).bind fun b σ => .ok (!b) σ := by
    rw [x_p1, show loud1 .not = false from rfl, Bool.false_and, if_neg (by simp), R.bind_assoc, R.bind_assoc]
    congr 1
    funext v σ'
    simp only [ev1]
    cases truthy σ' v <;> simp [R.lift, truthy]
  rw [key] at hne ⊢
  refine isTrue_not ?_
  refine Sim.goQ (P' := fun b t _ _ => b = t) (h env ρ f X σ s A st) hne (fun _ _ x => x) (fun _ _ x => x) fun va a' σ₁ g₁ s₁ hne hg k L ra hQ hE => ?_
  have ra : va = a' := ra
  subst ra
  exact hQ _ _ (.bool L (.refl s₁))
theorem zBS {op : CmpOp} {o : P2} (ho : cmpOf op = some o) {σ : Sto} {a b x : V} (h : ev2 o σ a b = some x) : ∃ t, x = .bool t := by
  cases op <;> cases ho
  all_goals first
    | (obtain ⟨r, _, rfl⟩ := Option.map_eq_some_iff.mp h; exact ⟨_, rfl⟩)
    | (obtain ⟨i, j, rfl, rfl⟩ := zBV h; cases h; exact ⟨_, rfl⟩)
theorem chain_e (fs : Facts S C T) {pos : Pos} : ∀ {ops : List CmpOp} {os : List P2} {es : List Expr} {cs : List CE}, All2 (fun op o => cmpOf op = some o) ops os → All2 (GOk S F q d Γ sc) es cs → ops.length = es.length →
    ∀ (env : Env) (ρ : List V) (f : List Loc) (X : List Addr) (σ : Sto) (s : Shared) (A : Around) (a : V) (va : Value), St S q d Γ sc env ρ f X σ s A → VR S X f s.heap a va →
      Sim S A X [] f (PV S X) (compareChain pos va ops (evalEach es env)) (evChain F q os cs a ρ σ) s ∧
      Sim S A X [] f (fun b t _ _ => b = t) (testChain pos va ops (evalEach es env)) ((evChain F q os cs a ρ σ).bind fun v σ => R.lift σ (truthy σ v)) s := by
  intro ops os es cs ho
  induction ho generalizing es cs with
  | nil =>
    intro hes hlen env ρ f X σ s A a va st ra
    cases hes with
    | nil => exact ⟨fun h => absurd rfl h, fun h => absurd rfl h⟩
    | cons _ _ => simp at hlen
  | @cons op o ops os h1 h2 ih =>
    intro hes hlen env ρ f X σ s A a va st ra
    cases hes with
    | nil => simp at hlen
    | @cons e c es cs he hes =>
      cases h2 with
      | nil =>
        cases hes with
        | nil =>
          constructor
          · intro hne
            rw [x_ch1, zAy h1, Bool.false_and, if_neg (by simp)] at hne ⊢
            refine chain_last ?_
            refine Sim.goQ (P' := PV S X) (he.eo env ρ f X σ s A st) hne (fun _ _ x => x) (fun _ _ x => x) fun vb b' σ₁ g₁ s₁ hne hg k L rb hQ hE => ?_
            obtain ⟨x, hx⟩ := zAg hne
            rw [hx] at hQ
            exact wpAny_mono (zBU fs st.room h1 L hx (VR.keepK k hg (fun _ h => nomatch h) ra) rb) (fun v s' p => hQ v s' (.leaf L p.1 p.2.1)) fun _ _ x => x
          · intro hne
            rw [x_ch1, zAy h1, Bool.false_and, if_neg (by simp), R.bind_assoc] at hne ⊢
            refine test_last ?_
            refine Sim.goQ (P' := fun b t _ _ => b = t) (he.eo env ρ f X σ s A st) hne (fun _ _ x => x) (fun _ _ x => x) fun vb b' σ₁ g₁ s₁ hne hg k L rb hQ hE => ?_
            cases hx : ev2 o σ₁ a b' with
            | none => rw [hx] at hne; exact absurd rfl hne
            | some x =>
              rw [hx] at hne hQ
              obtain ⟨t, rfl⟩ := zBS h1 hx
              refine wpAny_mono (zBU fs st.room h1 L hx (VR.keepK k hg (fun _ h => nomatch h) ra) rb) (fun v s' p => ?_) fun _ _ x => x
              obtain rfl := zAt p.2.1
              exact wpAny_mono (zAX (p.1.lk L) (b := t) rfl p.2.1) (fun c s'' p2 => by obtain ⟨rfl, e⟩ := p2; exact hQ c s'' (.bool L (p.1.trans e))) fun _ _ x => x
        | cons _ _ => simp at hlen
      | @cons op' o' ops os h1' h2' =>
        cases hes with
        | nil => simp at hlen
        | @cons e2 c2 es cs he2 hes2 =>
          constructor
          · intro hne
            rw [x_ch2, zAy h1, Bool.false_and, if_neg (by simp)] at hne ⊢
            refine chain_link ?_
            refine Sim.goQ (P' := PV S X) (he.eo env ρ f X σ s A st) hne (fun _ _ x => x) (fun _ _ x => x) fun vb b' σ₁ g₁ s₁ hne hg k L rb hQ hE => ?_
            cases hx : ev2 o σ₁ a b' with
            | none => rw [hx] at hne; exact absurd rfl hne
            | some x =>
              rw [hx] at hne hQ hE
              obtain ⟨t, rfl⟩ := zBS h1 hx
              refine wpAny_mono (zBU fs st.room h1 L hx (VR.keepK k hg (fun _ h => nomatch h) ra) rb) (fun v s' p => ?_) fun _ _ x => x
              obtain rfl := zAt p.2.1
              refine wpAny_mono (zAX (p.1.lk L) (b := t) rfl p.2.1) (fun c s'' p2 => ?_) fun _ _ x => x
              obtain ⟨rfl, e⟩ := p2
              have ee := p.1.trans e
              have st₂ := (st.keep hg k L).moved ee
              cases c with
              | true => exact wpAny_mono ((ih (.cons he2 hes2) (by simpa using hlen) env ρ _ X σ₁ s'' A b' vb st₂ (ee.vr rb)).1 hne) (fun v s3 q3 => hQ v s3 (.moved ee q3)) fun v s3 q3 => hE v s3 (.moved ee q3)
              | false => exact hQ _ _ (.leaf L ee (by rw [VR]))
          · intro hne
            rw [x_ch2, zAy h1, Bool.false_and, if_neg (by simp), R.bind_assoc] at hne ⊢
            refine test_link ?_
            refine Sim.goQ (P' := fun b t _ _ => b = t) (he.eo env ρ f X σ s A st) hne (fun _ _ x => x) (fun _ _ x => x) fun vb b' σ₁ g₁ s₁ hne hg k L rb hQ hE => ?_
            cases hx : ev2 o σ₁ a b' with
            | none => rw [hx] at hne; exact absurd rfl hne
            | some x =>
              rw [hx] at hne hQ hE
              obtain ⟨t, rfl⟩ := zBS h1 hx
              refine wpAny_mono (zBU fs st.room h1 L hx (VR.keepK k hg (fun _ h => nomatch h) ra) rb) (fun v s' p => ?_) fun _ _ x => x
              obtain rfl := zAt p.2.1
              refine wpAny_mono (zAX (p.1.lk L) (b := t) rfl p.2.1) (fun c s'' p2 => ?_) fun _ _ x => x
              obtain ⟨rfl, e⟩ := p2
              have ee := p.1.trans e
              have st₂ := (st.keep hg k L).moved ee
              cases c with
              | true => exact wpAny_mono ((ih (.cons he2 hes2) (by simpa using hlen) env ρ _ X σ₁ s'' A b' vb st₂ (ee.vr rb)).2 hne) (fun v s3 q3 => hQ v s3 (.moved ee q3)) fun v s3 q3 => hE v s3 (.moved ee q3)
              | false => exact hQ _ _ (.bool L ee)
theorem zCO : ∀ {ops : List CmpOp} {es : List Expr} {cs : List CE}, All2 (GOk S F q d Γ sc) es cs → lastMarks ops es = false := by
  intro ops es cs h
  induction h generalizing ops with
  | nil => cases ops <;> simp [lastMarks]
  | @cons e c es cs he hes ih =>
    cases ops with
    | nil => simp [lastMarks]
    | cons op ops =>
      cases ops with
      | nil => cases es with
        | nil => simp only [lastMarks]; exact he.marks op
        | cons _ _ => simp only [lastMarks]
      | cons op2 ops => simp only [lastMarks]; exact ih
theorem ok_chain (fs : Facts S C T) {l : Expr} {a : CE} {ops : List CmpOp} {os : List P2} {es : List Expr} {cs : List CE} {pos : Pos} (hl : EOk S F q d Γ sc l a) (ho : All2 (fun op o => cmpOf op = some o) ops os) (hes : All2 (GOk S F q d Γ sc) es cs) (hlen : ops.length = es.length) :
    EOk S F q d Γ sc (.Compare l ops es pos) (.chain a os cs) ∧ TOk S F q d Γ sc (.Compare l ops es pos) (.chain a os cs) := by
  constructor
  · intro env ρ f X σ s A st hne
    rw [zDs] at hne ⊢
    show wpAny _ _ (do compareChain pos (← eval l env) ops (markedEach ops es (evalEach es env))) _ _ _
    rw [markedEach_of_false _ _ _ (zCO hes)]
    refine wpAny_bind ?_
    refine Sim.goQ (P' := PV S X) (hl env ρ f X σ s A st) hne (fun _ _ x => x) (fun _ _ x => x) fun va a' σ₁ g₁ s₁ hne hg k L ra hQ hE => ?_
    exact wpAny_mono ((chain_e fs ho hes hlen env ρ _ X σ₁ s₁ A a' va (st.keep hg k L) ra).1 hne) hQ hE
  · intro env ρ f X σ s A st hne
    rw [zDs, R.bind_assoc] at hne ⊢
    show wpAny _ _ (do testChain pos (← eval l env) ops (markedEach ops es (evalEach es env))) _ _ _
    rw [markedEach_of_false _ _ _ (zCO hes)]
    refine wpAny_bind ?_
    refine Sim.goQ (P' := fun b t _ _ => b = t) (hl env ρ f X σ s A st) hne (fun _ _ x => x) (fun _ _ x => x) fun va a' σ₁ g₁ s₁ hne hg k L ra hQ hE => ?_
    exact wpAny_mono ((chain_e fs ho hes hlen env ρ _ X σ₁ s₁ A a' va (st.keep hg k L) ra).2 hne) hQ hE
theorem TOk.cmp1 {l r : Expr} {op : CmpOp} {c : CE} {pos : Pos} (hm : behindInMarks op r = false) (h : EOk S F q d Γ sc (.Compare l [op] [r] pos) c) : TOk S F q d Γ sc (.Compare l [op] [r] pos) c := fun env ρ f X σ s A st hne => by
  rw [isTrue_Compare1, markedBehindIn_of_false hm]
  have he := h env ρ f X σ s A st
  have hr : (evE F q c ρ σ) ≠ .stuck := fun e => hne (by rw [e]; rfl)
  have key : wpAny (model S.prog S.w) A (eval (.Compare l [op] [r] pos) env >>= fun c => holding [c] (PySem.truthy c)) (QS S X [] f (fun b t _ _ => b = t) s ((evE F q c ρ σ).bind fun v σ => R.lift σ (truthy σ v))) (ES S X [] f false s ((evE F q c ρ σ).bind fun v σ => R.lift σ (truthy σ v))) s := by
    refine wpAny_bind ?_
    refine Sim.goQ (P' := fun b t _ _ => b = t) he hne (fun _ _ x => x) (fun _ _ x => x) fun va a' σ₁ g₁ s₁ hne hg k L ra hQ hE => ?_
    obtain ⟨x, hx⟩ := zAg hne
    rw [hx] at hQ
    exact wpAny_holding (wpAny_mono (zAX L hx ra) (fun c s' p => by obtain ⟨rfl, e⟩ := p; exact hQ c s' (.bool L e)) fun _ _ x => x)
  have e2 : eval (.Compare l [op] [r] pos) env = (do let a ← eval l env; let b ← holding [a] (markedBehindIn op r (eval r env)); standAt pos; operate [a, b] (compareOp op a b)) := rfl
  rw [e2, markedBehindIn_of_false hm] at key
  simpa only [bind_assoc] using key
theorem ok_bools {op : BoolOp} {pos : Pos} : ∀ {es : List Expr} {cs : List CE} {c : CE}, All2 (GOk S F q d Γ sc) es cs → foldBool (op == .And) cs = some c →
    EOk S F q d Γ sc (.BoolOp op es pos) c ∧ TOk S F q d Γ sc (.BoolOp op es pos) c := by
  intro es cs c h
  induction h generalizing c with
  | nil => intro e; simp [foldBool] at e
  | @cons x cx es cs hx hes ih =>
    intro e
    cases hes with
    | nil =>
      simp only [foldBool] at e
      cases e
      refine ⟨fun env ρ f X σ s A st hne => BoolOp_one (hx.eo env ρ f X σ s A st hne), fun env ρ f X σ s A st hne => ?_⟩
      have := hx.to env ρ f X σ s A st hne
      cases op with
      | And => exact isTrue_and (wpAny_mono this (fun c s' q => by cases c with | true => exact isTrue_and_nil q | false => exact q) fun _ _ x => x)
      | Or => exact isTrue_or (wpAny_mono this (fun c s' q => by cases c with | false => exact isTrue_or_nil q | true => exact q) fun _ _ x => x)
    | @cons y cy es cs hy hes =>
      simp only [foldBool, Option.map_eq_some_iff] at e
      obtain ⟨r, e1, rfl⟩ := e
      obtain ⟨ih1, ih2⟩ := ih e1
      cases op with
      | And =>
        constructor
        · intro env ρ f X σ s A st hne
          simp only [show (BoolOp.And == BoolOp.And) = true from rfl, if_true] at hne ⊢
          rw [x_and] at hne ⊢
          refine BoolOp_and ?_
          refine Sim.goQ (P' := PV S X) (hx.eo env ρ f X σ s A st) hne (fun _ _ x => x) (fun _ _ x => x) fun va a' σ₁ g₁ s₁ hne hg k L ra hQ hE => ?_
          refine zEp L ra hne fun t s₂ ht e hne => ?_
          rw [ht] at hQ hE
          cases t with
          | true => exact wpAny_mono (ih1 env ρ _ X σ₁ s₂ A ((st.keep hg k L).moved e) hne) (fun v s3 q3 => hQ v s3 (.moved e q3)) fun v s3 q3 => hE v s3 (.moved e q3)
          | false => exact hQ _ _ (.leaf L e (e.vr ra))
        · intro env ρ f X σ s A st hne
          simp only [show (BoolOp.And == BoolOp.And) = true from rfl, if_true] at hne ⊢
          have key : ((evE F q (.and cx r) ρ σ).bind fun v σ => R.lift σ (truthy σ v)) = ((evE F q cx ρ σ).bind fun v σ => R.lift σ (truthy σ v)).bind fun t σ => if t then (evE F q r ρ σ).bind fun v σ => R.lift σ (truthy σ v) else .ok false σ := by
            rw [x_and, R.bind_assoc, R.bind_assoc]
            congr 1
            funext v σ'
            rw [R.bind_assoc]
            cases ht : truthy σ' v with
            | none => simp
            | some t => cases t <;> simp [ht]
          rw [key] at hne ⊢
          refine isTrue_and ?_
          refine Sim.goQ (P' := fun b t _ _ => b = t) (hx.to env ρ f X σ s A st) hne (fun _ _ x => x) (fun _ _ x => x) fun va a' σ₁ g₁ s₁ hne hg k L ra hQ hE => ?_
          have ra : va = a' := ra
          subst ra
          cases va with
          | true => exact wpAny_mono (ih2 env ρ _ X σ₁ s₁ A (st.keep hg k L) hne) hQ hE
          | false => exact hQ _ _ (.bool L (.refl s₁))
      | Or =>
        constructor
        · intro env ρ f X σ s A st hne
          simp only [show (BoolOp.Or == BoolOp.And) = false from rfl, Bool.false_eq_true, if_false] at hne ⊢
          rw [x_or] at hne ⊢
          refine BoolOp_or ?_
          refine Sim.goQ (P' := PV S X) (hx.eo env ρ f X σ s A st) hne (fun _ _ x => x) (fun _ _ x => x) fun va a' σ₁ g₁ s₁ hne hg k L ra hQ hE => ?_
          refine zEp L ra hne fun t s₂ ht e hne => ?_
          rw [ht] at hQ hE
          cases t with
          | false => exact wpAny_mono (ih1 env ρ _ X σ₁ s₂ A ((st.keep hg k L).moved e) hne) (fun v s3 q3 => hQ v s3 (.moved e q3)) fun v s3 q3 => hE v s3 (.moved e q3)
          | true => exact hQ _ _ (.leaf L e (e.vr ra))
        · intro env ρ f X σ s A st hne
          simp only [show (BoolOp.Or == BoolOp.And) = false from rfl, Bool.false_eq_true, if_false] at hne ⊢
          have key : ((evE F q (.or cx r) ρ σ).bind fun v σ => R.lift σ (truthy σ v)) = ((evE F q cx ρ σ).bind fun v σ => R.lift σ (truthy σ v)).bind fun t σ => if t then .ok true σ else (evE F q r ρ σ).bind fun v σ => R.lift σ (truthy σ v) := by
            rw [x_or, R.bind_assoc, R.bind_assoc]
            congr 1
            funext v σ'
            rw [R.bind_assoc]
            cases ht : truthy σ' v with
            | none => simp
            | some t => cases t <;> simp [ht]
          rw [key] at hne ⊢
          refine isTrue_or ?_
          refine Sim.goQ (P' := fun b t _ _ => b = t) (hx.to env ρ f X σ s A st) hne (fun _ _ x => x) (fun _ _ x => x) fun va a' σ₁ g₁ s₁ hne hg k L ra hQ hE => ?_
          have ra : va = a' := ra
          subst ra
          cases va with
          | false => exact wpAny_mono (ih2 env ρ _ X σ₁ s₁ A (st.keep hg k L) hne) hQ hE
          | true => exact hQ _ _ (.bool L (.refl s₁))
end
end Mine
end

/-! # Expr4 -/
section
set_option autoImplicit false
namespace Mine
open PySem PyProof.Rows
section
variable {S : Stat} {C : Ctx} {T : Nat → Option Fn} {F : Calls} {q : Bool} {d : Nat} {Γ : List Str} {sc : Scope}
variable {X : List Addr} {f : List Loc} {σ : Sto} {s : Shared} {A : Around} {E : Value → Shared → Prop}
theorem LOk.of {es : List Expr} {cs : List CE} (h : All2 (GOk S F q d Γ sc) es cs) : LOk S F q d Γ sc es cs := by
  refine ⟨?_, ?_⟩
  · induction h with
    | nil => rfl
    | cons hx _ ih => rw [List.any_cons, hx.star, ih]; rfl
  · induction h with
    | nil =>
      intro env pos ρ f X σ s A st _
      rw [x_nil]
      exact wpAny_pure ⟨[], σ, [], rfl, .nil s, .refl f [] s, by rw [List.append_nil]; exact st.lk, (by show VRs S X _ s.heap [] []; rw [VRs]; trivial)⟩
    | @cons x c es cs hx _ ih =>
      intro env pos ρ f X σ s A st hne
      rw [zDZ] at hne ⊢
      rw [zAO hx.star]
      show wpAny _ _ (spliced ((false, eval x env) :: backTo pos (starEach es env))) _ _ _
      refine Calls.spliced_cons ?_
      refine Sim.goQ (P' := fun vs xs f s => VRs S X f s.heap xs vs) (hx.eo env ρ f X σ s A st) hne (fun _ _ x => x) (fun _ _ x => x) fun va a' σ₁ g₁ s₁ hne hg k L ra hQ hE => ?_
      refine Sim.goQ (P' := fun vs xs f s => VRs S X f s.heap xs vs) (ih env pos ρ _ X σ₁ s₁ A (st.keep hg k L)) hne hQ hE fun vs xs σ₂ g₂ s₂ hne hg₂ k₂ L₂ rs hQ hE => ?_
      refine hQ _ _ (QS.here L₂ ?_)
      show VRs S X _ s₂.heap (a' :: xs) (va :: vs)
      rw [VRs]
      exact ⟨VR.keepK k₂ hg₂ (fun _ h => nomatch h) ra, rs⟩
theorem evL_len : ∀ {cs : List CE} {ρ : List V} {σ σ' : Sto} {vs : List V}, evL F q cs ρ σ = .ok vs σ' → vs.length = cs.length
  | [], ρ, σ, σ', vs, h => by rw [x_nil] at h; cases h; rfl
  | c :: cs, ρ, σ, σ', vs, h => by
    rw [zDZ] at h
    cases h1 : evE F q c ρ σ with
    | ok v σ₁ =>
      rw [h1, R.bind_ok] at h
      cases h2 : evL F q cs ρ σ₁ with
      | ok ws σ₂ => rw [h2, R.bind_ok] at h; cases h; simp [evL_len h2]
      | exc _ _ => rw [h2] at h; first | exact zAA h | exact ff_tt h | cases h
      | stuck => rw [h2] at h; first | exact zAA h | exact ff_tt h | cases h
    | exc _ _ => rw [h1] at h; first | exact zAA h | exact ff_tt h | cases h
    | stuck => rw [h1] at h; first | exact zAA h | exact ff_tt h | cases h
theorem All2.len {α β : Type} {P : α → β → Prop} {as : List α} {bs : List β} (h : All2 P as bs) : as.length = bs.length := by
  induction h with
  | nil => rfl
  | cons _ _ ih => simp [ih]
theorem LOk.go {es : List Expr} {cs : List CE} {env : Env} {pos : Pos} {ρ : List V} {rk : List V → Sto → R V} {W : List Value → Shared → Prop} {Q' E' : Value → Shared → Prop} (h : LOk S F q d Γ sc es cs) (st : St S q d Γ sc env ρ f X σ s A) (hne : (evL F q cs ρ σ).bind rk ≠ .stuck)
    (hQ : ∀ c s'', QN S X [] f s ((evL F q cs ρ σ).bind rk) c s'' → Q' c s'') (hE : ∀ e s'', ES S X [] f false s ((evL F q cs ρ σ).bind rk) e s'' → E' e s'')
    (hk : ∀ vs xs σ' g s', xs.length = cs.length → rk xs σ' ≠ .stuck → Fresh g s → Kp f [] s s' → Lk S X (f ++ g) σ' s'.heap → VRs S X (f ++ g) s'.heap xs vs → (∀ c s'', QN S X [] (f ++ g) s' (rk xs σ') c s'' → Q' c s'') →
      (∀ e s'', ES S X [] (f ++ g) false s' (rk xs σ') e s'' → E' e s'') → W vs s') : wpAny (model S.prog S.w) A (spliced (backTo pos (starEach es env))) W E' s := by
  have hr : evL F q cs ρ σ ≠ .stuck := fun e => hne (by rw [e]; rfl)
  refine wpAny_mono (h.2 env pos ρ f X σ s A st hr) (fun a s' p => ?_) fun e s' p => hE e s' ?_
  · obtain ⟨b, σ', g, e, hg, k, L, p⟩ := p
    have hl := evL_len e
    rw [e] at hne hQ hE
    exact hk a b σ' g s' hl hne hg k L p (fun c s'' x => hQ c s'' (QN.lifts f g s s' _ c s'' hg k x)) fun e s'' x => hE e s'' (ES.lifts f g s s' _ e s'' hg k x)
  · obtain ⟨c, σ', g, ea, e1, e2, hg, k, L, x⟩ := p
    exact ⟨c, σ', g, ea, e1, by rw [e2]; rfl, hg, k, L, x⟩
theorem ok_list {es : List Expr} {cs : List CE} {pos : Pos} (hl : es.length ≤ 1000) (h : All2 (GOk S F q d Γ sc) es cs) : NOk S F q d Γ sc (.List es pos) (.list cs) := fun env ρ f X σ s A st hne => by
  rw [x_list] at hne ⊢
  refine wpAny_List ?_
  refine LOk.go (.of h) st hne (fun _ _ x => x) (fun _ _ x => x) fun vs xs σ₁ g s₁ hlen hne hg k L rs hQ hE => ?_
  have : xs.length ≤ 1000 := by rw [hlen, ← h.len]; exact hl
  have h2 : vs.length ≤ LIM := by rw [← zBH rs]; unfold LIM; omega
  refine ⟨Nat.le_trans h2 zAV, hQ _ _ (PE.here L ?_)⟩
  exact zBG (tk := s₁.toks) L rs (by unfold LIM; omega)
theorem ok_tuple {es : List Expr} {cs : List CE} {pos : Pos} {k : Nat} (hl : es.length ≤ 1000) (h : All2 (GOk S F q d Γ sc) es cs) : EOk S F q d Γ sc (.Tuple es k pos) (.tup cs) := fun env ρ f X σ s A st hne => by
  rw [x_tup] at hne ⊢
  refine wpAny_Tuple ?_
  refine LOk.go (.of h) st hne (fun _ _ x => x.qs) (fun _ _ x => x) fun vs xs σ₁ g s₁ hlen hne hg k L rs hQ hE => ?_
  have : xs.length ≤ 1000 := by rw [hlen, ← h.len]; exact hl
  have h2 : vs.length ≤ LIM := by rw [← zBH rs]; unfold LIM; omega
  refine ⟨Nat.le_trans h2 zAV, hQ _ _ (PE.here L ?_)⟩
  exact zBP (tk := s₁.toks) L rs (by unfold LIM; omega)
theorem sub_ops (slice : Expr) (o i : Value) : ∃ ops, subscripted slice false o i = operate ops (getItem o i) := by
  unfold subscripted
  split
  · exact ⟨_, rfl⟩
  · rename_i h; cases h
  · exact ⟨_, rfl⟩
theorem zCT {value slice : Expr} {o i : Value} {K id : String} {Q : Value → Shared → Prop} (hT : s.TypeIs o K)
    (hl : typeLookup (.type K) "__getitem__" = pure (some (.builtin id))) (h : wpAny (model S.prog S.w) A (getItem o i) Q E s) :
    wpAny (model S.prog S.w) A (subscriptTail value slice o i) Q E s := by
  obtain ⟨ops, hs⟩ := sub_ops slice o i
  unfold subscriptTail
  refine wpAny_bind ?_
  rw [getitemInPython_of_ne hT.not_modules]
  refine wpAny_bind (wpAny_specialOf hT hl ?_)
  have fin : wpAny (model S.prog S.w) A (subscripted slice false o i) (fun r s₃ => wpAny (model S.prog S.w) A (letTemporaryGo value o r >>= fun _ => pure r) Q E s₃) E s := by
    rw [hs]
    exact wpAny_operating (wpAny_mono h (fun r s₃ h₃ => wpAny_bind (wpAny_letTemporaryGo (wpAny_pure h₃))) fun _ _ x => x)
  first
    | exact wpAny_pure (wpAny_bind fin)
    | exact wpAny_bind (wpAny_pure (wpAny_bind fin))
    | exact wpAny_bind fin
theorem index_type (fs : Facts S C T) {a b x : V} {va : Value} (L : Lk S X f σ s.heap) (e : ev2 .index σ a b = some x) (ra : VR S X f s.heap a va) :
    ∃ K id, s.TypeIs va K ∧ typeLookup (.type K) "__getitem__" = pure (some (.builtin id)) := by
  have seq : ∀ {xs : List V}, itemsOf σ a = some xs → ∃ K id, s.TypeIs va K ∧ typeLookup (.type K) "__getitem__" = pure (some (.builtin id)) := by
    intro xs h1
    obtain ⟨p, vs, n, rfl, il | il, _⟩ := zBr L h1 ra
    · exact ⟨"list", _, ⟨_, il, rfl⟩, slot_list_getitem.lookup⟩
    · exact ⟨"tuple", _, ⟨_, il, rfl⟩, slot_tuple_getitem.lookup⟩
  cases a with
  | str y => obtain ⟨⟨t, rfl⟩, _⟩ := zAR ra; exact ⟨"str", _, typeIs_str s y t, F.slot_str_getitem.lookup⟩
  | parts =>
    rw [VR] at ra
    obtain ⟨hh, rfl⟩ := ra
    obtain ⟨d, g, e1, hd, hm, _⟩ := L.parts fs hh
    rw [e1]
    exact ⟨"dict", _, hm.typeIs, slot_dict_getitem.lookup⟩
  | tup xs => exact seq rfl
  | lst xs => exact seq rfl
  | ref n =>
    cases b with
    | int i =>
      delta ev2 at e; dsimp only at e
      split at e
      · rename_i xs ho
        exact seq (xs := xs) (by simp only [itemsOf, ho])
      · rename_i es ho
        rw [VR] at ra
        obtain ⟨l, hl, rfl⟩ := ra
        have := L.obj n l _ hl ho
        obtain ⟨p, dd⟩ := l
        cases dd with
        | none => obtain ⟨kvs, hd, _⟩ := this; exact ⟨"dict", _, hd.typeIs, slot_dict_getitem.lookup⟩
        | some dd => exact this.elim
      · first | exact zAA e | exact ff_tt e | cases e
    | _ => first | exact zAA e | exact ff_tt e | cases e
  | _ => cases b <;> cases e
theorem ok_index (fs : Facts S C T) {o i : Expr} {a b : CE} {pos : Pos} (ho : EOk S F q d Γ sc o a) (hi : EOk S F q d Γ sc i b) : EOk S F q d Γ sc (.Subscript o i pos) (.p2 .index a b) :=
  ok_p2 (t := fun v w => subscriptTail o i v w) (by simp [loud2]) ho hi (fun env A Q E s h => Subscript_ h) fun X f σ s A E a b x va vb _ _ L hx ra rb => by
    obtain ⟨K, id, h1, h2⟩ := index_type fs L hx ra
    exact zCT h1 h2 (zGa (L.parts fs) L hx ra rb)
noncomputable def PO (x : Value) (i : Option Int) (_ : List Loc) (_ : Shared) : Prop := IsPart x i
theorem ok_part {e : Option Expr} {c : Option CE} (h : (e = none ∧ c = none) ∨ ∃ e' c', e = some e' ∧ c = some c' ∧ EOk S F q d Γ sc e' c') (env : Env) (ρ : List V) (st : St S q d Γ sc env ρ f X σ s A) :
    Sim S A X [] f PO (evalPart e env) (evO F q c ρ σ) s := fun hne => by
  rcases h with ⟨rfl, rfl⟩ | ⟨e', c', rfl, rfl, h⟩
  · rw [evalPart_none, x_onone]
    exact wpAny_pure (QS.here st.lk .none)
  · rw [evalPart_some]
    rw [x_osome] at hne ⊢
    refine Sim.goQ (P' := PO) (h env ρ f X σ s A st) hne (fun _ _ x => x) (fun _ _ x => x) fun va a' σ₁ g₁ s₁ hne hg k L ra hQ hE => ?_
    cases a' with
    | int i => obtain ⟨t, rfl⟩ := zAW ra; exact hQ _ _ (QS.here L (.int i t))
    | _ => exact absurd rfl hne
theorem zHe {o slice : Expr} {x a : V} {va vl vh : Value} {sl : Addr} {l' h' : Option Int} (L : Lk S X f σ s.heap) (hx : evSlice σ a l' h' = some x) (ra : VR S X f s.heap a va) (hs : s.heap.IsSliceOf sl vl vh .none) (rl : IsPart vl l') (rh : IsPart vh h') :
    wpAny (model S.prog S.w) A (subscriptTail o slice va (.ref sl)) (PE S X f s x) E s := by
  have seq : ∀ {xs : List V}, listOf? σ a = some xs → x = .lst (sliceL xs l' h') → wpAny (model S.prog S.w) A (subscriptTail o slice va (.ref sl)) (PE S X f s x) E s := by
    intro xs h1 h2
    subst h2
    obtain ⟨p, vs, n, rfl, il, rs, hlen⟩ := zAU L h1 ra
    exact zCT (K := "list") ⟨_, il, rfl⟩ slot_list_getitem.lookup (zCS L il rs hlen hs rl rh)
  cases a with
  | tup xs =>
    cases hx
    obtain ⟨p, vs, n, rfl, hp, il, rs, hlen⟩ := zBb ra
    exact zCT (K := "tuple") ⟨_, il, rfl⟩ slot_tuple_getitem.lookup (zBx L hp il rs hlen hs rl rh)
  | lst xs => cases hx; exact seq rfl rfl
  | str y =>
    have hx : (if PyData.strOk (Txt.slice y l' h') = true then some (V.str (Txt.slice y l' h')) else none) = some x := hx
    by_cases hok : PyData.strOk (Txt.slice y l' h') = true
    · rw [if_pos hok] at hx
      cases hx
      obtain ⟨⟨t, rfl⟩, l1, l2⟩ := zAR ra
      exact zCT (K := "str") (typeIs_str _ _ _) slot_str_getitem.lookup (zCw l1 hok hs rl rh)
    · rw [if_neg hok] at hx; exact zAA hx
  | ref n =>
    delta evSlice at hx; dsimp only at hx; simp only [Option.map_eq_some_iff] at hx
    obtain ⟨xs, h1, h2⟩ := hx
    exact seq h1 h2.symm
  | _ => first | exact zAA hx | exact ff_tt hx | cases hx
theorem ok_slice {o : Expr} {lo hi : Option Expr} {a : CE} {cl ch : Option CE} {p pos : Pos} (ho : EOk S F q d Γ sc o a) (hl : (lo = none ∧ cl = none) ∨ ∃ e' c', lo = some e' ∧ cl = some c' ∧ EOk S F q d Γ sc e' c')
    (hh : (hi = none ∧ ch = none) ∨ ∃ e' c', hi = some e' ∧ ch = some c' ∧ EOk S F q d Γ sc e' c') : NOk S F q d Γ sc (.Subscript o (.Slice lo hi none p) pos) (.slice a cl ch) := fun env ρ f X σ s A st hne => by
  rw [x_slice] at hne ⊢
  refine Subscript_ ?_
  refine Sim.goN (ho env ρ f X σ s A st) hne (fun _ _ x => x) (fun _ _ x => x) fun va a' σ₁ g₁ s₁ hne hg k L ra hQ hE => ?_
  have st₁ := st.keep hg k L
  refine wpAny_Slice ?_
  refine Sim.goN (ok_part hl env ρ st₁) hne hQ hE fun vl l' σ₂ g₂ s₂ hne hg₂ k₂ L₂ rl hQ hE => ?_
  have st₂ := st₁.keep hg₂ k₂ L₂
  have ra₂ := VR.keepK k₂ hg₂ (fun _ h => nomatch h) ra
  refine Sim.goN (ok_part hh env ρ st₂) hne hQ hE fun vh h' σ₃ g₃ s₃ hne hg₃ k₃ L₃ rh hQ hE => ?_
  have ra₃ := VR.keepK k₃ hg₃ (fun _ h => nomatch h) ra₂
  rw [evalPart_none]
  refine wpAny_pure ?_
  obtain ⟨x, hx⟩ := zAg hne
  rw [hx] at hQ
  have ee := Ext.push s₃ { cls := .type "slice", data := .fields #[vl, vh, .none] }
  have L₄ := ee.lk L₃
  have ra₄ := ee.vr ra₃
  have hs := Heap.IsSliceOf.new s₃.heap vl vh .none
  exact wpAny_mono (zHe L₄ hx ra₄ hs rl rh) (fun v s' p => hQ v s' (QN.moved ee (p.here L₄))) fun _ _ x => x
end
end Mine
end

/-! # Expr5 -/
section
set_option autoImplicit false
namespace Mine
open PySem PyProof.Rows
theorem zAH {β : Type} {x : Str} {y : β} : ∀ {l : List (Str × β)}, l.lookup x = some y → (x, y) ∈ l
  | [], h => by simp at h
  | (a, b) :: r, h => by
    rw [List.lookup_cons] at h
    split at h
    · rename_i e
      have := eq_of_beq e
      cases h; subst this
      exact List.mem_cons_self
    · exact List.mem_cons_of_mem _ (zAH h)
theorem bb_len : bootBuiltins "len" = some (.builtin "len") := by kernel_rfl
theorem bb_all : bootBuiltins "all" = some (.builtin "all") := by kernel_rfl
theorem bb_ve : bootBuiltins "ValueError" = some (.type "ValueError") := by kernel_rfl
theorem bb_int : bootBuiltins "int" = some (.type "int") := by kernel_rfl
theorem bb_bool : bootBuiltins "bool" = some (.type "bool") := by kernel_rfl
theorem bb_str : bootBuiltins "str" = some (.type "str") := by kernel_rfl
theorem bb_list : bootBuiltins "list" = some (.type "list") := by kernel_rfl
theorem zHY : bootBuiltins "tuple" = some (.type "tuple") := by kernel_rfl
theorem bb_sum : bootBuiltins "sum" = some (.builtin "sum") := by kernel_rfl
theorem bb_min : bootBuiltins "min" = some (.builtin "min") := by kernel_rfl
theorem bb_strT : bootBuiltins "str" = some (.type "str") := by kernel_rfl
theorem bb_max : bootBuiltins "max" = some (.builtin "max") := by kernel_rfl
theorem zBw : bootBuiltins "isinstance" = some (.builtin "isinstance") := by kernel_rfl
theorem bb_range : bootBuiltins "range" = some (.type "range") := by kernel_rfl
section
variable {S : Stat} {C : Ctx} {T : Nat → Option Fn} {F : Calls} {q : Bool} {d : Nat} {Γ : List Str} {sc : Scope}
variable {X : List Addr} {f : List Loc} {σ : Sto} {s : Shared} {A : Around} {E : Value → Shared → Prop}
theorem zAj (fs : Facts S C T) {x : Str} {p : Pos} {v : Value} {env : Env} {ρ : List V} {Q : Value → Shared → Prop} (st : St S q d Γ sc env ρ f X σ s A) (hg : isGlob sc x = true) (hn : C.fns.lookup x = none)
    (hx : x ∈ b1Names.map (·.1) ∨ x ∈ b2Names.map (·.1) ∨ x ∈ kindNames.map (·.1) ∨ x = ("isinstance" : Str) ∨ x = ("range" : Str)) (hv : bootBuiltins x = some v) (hd : (x == ("__debug__" : Str)) = false) (h : Q v s) : wpAny (model S.prog S.w) A (eval (.Name x p) env) Q E s := by
  obtain ⟨mg, mb, g1, g2, g3, g4, g5, _⟩ := fs.g
  obtain ⟨e1, e2⟩ := g5 x hx hn
  refine wpAny_Name ?_ hd
  exact zCN st.fr.kind (st.fr.isGlob hg) (by rw [st.fr.glob]; exact st.lk.ns g1) e1 (by rw [st.fr.blt]; exact st.lk.ns g2) (e2.trans hv) h
theorem spliced1 {env : Env} {e : Expr} {pos : Pos} {Q : List Value → Shared → Prop} (hs : isStar e = false) (h : wpAny (model S.prog S.w) A (eval e env) (fun v s' => Q [v] s') E s) : wpAny (model S.prog S.w) A (spliced (backTo pos (starEach [e] env))) Q E s := by
  rw [zAO hs]
  show wpAny _ _ (spliced ((false, eval e env) :: [])) _ _ _
  exact Calls.spliced_cons (wpAny_mono h (fun v s' q => wpAny_pure q) fun _ _ x => x)
theorem spliced2 {env : Env} {e e2 : Expr} {pos : Pos} {Q : List Value → Shared → Prop} (hs : isStar e = false) (hs2 : isStar e2 = false) (h : wpAny (model S.prog S.w) A (eval e env) (fun v s' => wpAny (model S.prog S.w) A (eval e2 env) (fun w s'' => Q [v, w] s'') E s') E s) :
    wpAny (model S.prog S.w) A (spliced (backTo pos (starEach [e, e2] env))) Q E s := by
  rw [zAO hs, zAO hs2]
  show wpAny _ _ (spliced ((false, eval e env) :: (false, eval e2 env) :: [])) _ _ _
  exact Calls.spliced_cons (wpAny_mono h (fun v s' q => Calls.spliced_cons (wpAny_mono q (fun w s'' q => wpAny_pure q) fun _ _ x => x)) fun _ _ x => x)
theorem zAP {v : Value} (h : ∀ a, v ≠ .ref a) : Callable s v := .inl h
theorem zAr (fs : Facts S C T) {x : Str} {p pos : Pos} {v : Value} {e : Expr} {c : CE} {o : P1} (hg : isGlob sc x = true) (hn : C.fns.lookup x = none)
    (hx : x ∈ b1Names.map (·.1)) (hv : bootBuiltins x = some v) (hd : (x == ("__debug__" : Str)) = false) (hr : ∀ a, v ≠ .ref a) (h : GOk S F q d Γ sc e c)
    (op : ∀ (X : List Addr) (f : List Loc) (σ : Sto) (s : Shared) (A : Around) (E : Value → Shared → Prop) (a x : V) (va : Value), (loud1 o && q) = false → (q = false → A.handled = none) → Lk S X f σ s.heap → ev1 o σ a = some x → VR S X f s.heap a va → wpAny (model S.prog S.w) A (call v [va]) (PE S X f s x) E s) :
    NOk S F q d Γ sc (.Call (.Name x p) [e] [] pos) (.p1 o c) := fun env ρ f X σ s A st hne => by
  rw [x_p1] at hne ⊢
  by_cases hq : (loud1 o && q) = true
  · rw [if_pos hq] at hne; exact absurd rfl hne
  rw [if_neg hq] at hne ⊢
  refine wpAny_Call_NameR (zAj fs st hg hn (.inl hx) hv hd ?_)
  refine zAT (zAM _ (by simp [h.star])) (spliced1 h.star ?_)
  refine Sim.goN (h.eo env ρ f X σ s A st) hne (fun _ _ x => x) (fun _ _ x => x) fun va a' σ₁ g₁ s₁ hne hg k L ra hQ hE => ?_
  obtain ⟨x, hx⟩ := zAg hne
  rw [hx] at hQ
  exact ⟨zAP hr, wpAny_mono (op X _ σ₁ s₁ A _ a' x va (by simpa using hq) st.cx.hand L hx ra) (fun v s' p => hQ v s' (p.here L)) fun _ _ x => x⟩
theorem zEd {o : P1} (hl : loud1 o = true) (h1 : (loud1 o && q) = false) (h2 : q = false → A.handled = none) : A.handled = none := h2 (by rw [hl, Bool.true_and] at h1; exact h1)
theorem ok_b1 (fs : Facts S C T) {x : Str} {p pos : Pos} {e : Expr} {c : CE} {o : P1} (hg : isGlob sc x = true) (hn : C.fns.lookup x = none) (ho : b1Names.lookup x = some o) (h : GOk S F q d Γ sc e c) :
    NOk S F q d Γ sc (.Call (.Name x p) [e] [] pos) (.p1 o c) := by
  have hm := zAH ho
  have hm' : x ∈ b1Names.map (·.1) := List.mem_map_of_mem hm
  simp only [b1Names, List.mem_cons, Prod.mk.injEq, List.not_mem_nil, or_false] at hm
  rcases hm with ⟨rfl, rfl⟩ | hm
  · exact zAr fs hg hn hm' bb_len (by decide) (by simp) h fun X f σ s A E a x va _ _ L hx ra => len_sound L hx ra
  rcases hm with ⟨rfl, rfl⟩ | hm
  · exact zAr fs hg hn hm' bb_int (by decide) (by simp) h fun X f σ s A E a x va _ _ L hx ra => zGJ hx ra
  rcases hm with ⟨rfl, rfl⟩ | hm
  · exact zAr fs hg hn hm' bb_strT (by decide) (by simp) h fun X f σ s A E a x va _ _ L hx ra => zGI hx ra
  rcases hm with ⟨rfl, rfl⟩ | hm
  · exact zAr fs hg hn hm' bb_min (by decide) (by simp) h fun X f σ s A E a x va h1 h2 L hx ra => min_sound (zEd rfl h1 h2) L hx ra
  rcases hm with ⟨rfl, rfl⟩ | hm
  · exact zAr fs hg hn hm' bb_max (by decide) (by simp) h fun X f σ s A E a x va h1 h2 L hx ra => max_sound (zEd rfl h1 h2) L hx ra
  rcases hm with ⟨rfl, rfl⟩ | hm
  · exact zAr fs hg hn hm' bb_all (by decide) (by simp) h fun X f σ s A E a x va h1 h2 L hx ra => all_sound (zEd rfl h1 h2) L hx ra
  rcases hm with ⟨rfl, rfl⟩ | hm
  · exact zAr fs hg hn hm' bb_list (by decide) (by simp) h fun X f σ s A E a x va _ _ L hx ra => zEs L hx ra
  rcases hm with ⟨rfl, rfl⟩ | hm
  · exact zAr fs hg hn hm' zHY (by decide) (by simp) h fun X f σ s A E a x va _ _ L hx ra => zGH L hx ra
  obtain ⟨rfl, rfl⟩ := hm
  exact zAr fs hg hn hm' bb_sum (by decide) (by simp) h fun X f σ s A E a x va h1 h2 L hx ra => sum_sound (zEd rfl h1 h2) L hx ra
theorem zGz (fs : Facts S C T) {x : Str} {p pos : Pos} {v : Value} {e e2 : Expr} {c c2 : CE} {o : P2} (hg : isGlob sc x = true) (hn : C.fns.lookup x = none)
    (hx : x ∈ b2Names.map (·.1)) (hv : bootBuiltins x = some v) (hd : (x == ("__debug__" : Str)) = false) (hr : ∀ a, v ≠ .ref a) (s1 : isStar e = false) (s2 : isStar e2 = false) (h : EOk S F q d Γ sc e c) (h2 : EOk S F q d Γ sc e2 c2)
    (op : ∀ (X : List Addr) (f : List Loc) (σ : Sto) (s : Shared) (A : Around) (E : Value → Shared → Prop) (a b x : V) (va vb : Value), (loud2 o && q) = false → (q = false → A.handled = none) → Lk S X f σ s.heap → ev2 o σ a b = some x → VR S X f s.heap a va → VR S X f s.heap b vb → wpAny (model S.prog S.w) A (call v [va, vb]) (PE S X f s x) E s) :
    EOk S F q d Γ sc (.Call (.Name x p) [e, e2] [] pos) (.p2 o c c2) := fun env ρ f X σ s A st hne => by
  rw [x_p2] at hne ⊢
  by_cases hq : (loud2 o && q) = true
  · rw [if_pos hq] at hne; exact absurd rfl hne
  rw [if_neg hq] at hne ⊢
  refine wpAny_Call_NameR (zAj fs st hg hn (.inr (.inl hx)) hv hd ?_)
  refine zAT (zAM _ (by simp [s1, s2])) (spliced2 s1 s2 ?_)
  refine Sim.goN (h env ρ f X σ s A st) hne (fun _ _ x => x.qs) (fun _ _ x => x) fun va a' σ₁ g₁ s₁ hne hg k L ra hQ hE => ?_
  refine Sim.goN (h2 env ρ _ X σ₁ s₁ A (st.keep hg k L)) hne hQ hE fun vb b' σ₂ g₂ s₂ hne hg₂ k₂ L₂ rb hQ hE => ?_
  obtain ⟨x, hx⟩ := zAg hne
  rw [hx] at hQ
  exact ⟨zAP hr, wpAny_mono (op X _ σ₂ s₂ A _ a' b' x va vb (by simpa using hq) st.cx.hand L₂ hx (VR.keepK k₂ hg₂ (fun _ h => nomatch h) ra) rb) (fun v s' p => hQ v s' (p.here L₂)) fun _ _ x => x⟩
theorem ok_b2 (fs : Facts S C T) {x : Str} {p pos : Pos} {e e2 : Expr} {c c2 : CE} {o : P2} (hg : isGlob sc x = true) (hn : C.fns.lookup x = none) (ho : b2Names.lookup x = some o) (s1 : isStar e = false) (s2 : isStar e2 = false) (h : EOk S F q d Γ sc e c) (h2 : EOk S F q d Γ sc e2 c2) :
    EOk S F q d Γ sc (.Call (.Name x p) [e, e2] [] pos) (.p2 o c c2) := by
  have hm := zAH ho
  have hm' : x ∈ b2Names.map (·.1) := List.mem_map_of_mem hm
  simp only [b2Names, List.mem_cons, Prod.mk.injEq, List.not_mem_nil, or_false] at hm
  rcases hm with ⟨rfl, rfl⟩ | ⟨rfl, rfl⟩
  · exact zGz fs hg hn hm' bb_min (by decide) (by simp) s1 s2 h h2 fun X f σ s A E a b x va vb h1 h2 L hx ra rb => by
      have hh : A.handled = none := h2 (by simpa [loud2] using h1)
      obtain ⟨i, j, rfl, rfl⟩ := zBV hx
      cases hx
      obtain ⟨t, rfl⟩ := zAW ra
      obtain ⟨u, rfl⟩ := zAW rb
      exact min2_sound hh
  · exact zGz fs hg hn hm' bb_max (by decide) (by simp) s1 s2 h h2 fun X f σ s A E a b x va vb h1 h2 L hx ra rb => by
      have hh : A.handled = none := h2 (by simpa [loud2] using h1)
      obtain ⟨i, j, rfl, rfl⟩ := zBV hx
      cases hx
      obtain ⟨t, rfl⟩ := zAW ra
      obtain ⟨u, rfl⟩ := zAW rb
      exact max2_sound hh
theorem ok_isinst (fs : Facts S C T) {k : Str} {p pk pos : Pos} {e : Expr} {c : CE} {kd : Kd} (hg : isGlob sc "isinstance" = true) (hn : C.fns.lookup ("isinstance" : Str) = none) (hk : kindOf? C k = some kd) (hgk : isGlob sc k = true) (hs : isStar e = false) (h : EOk S F q d Γ sc e c) :
    EOk S F q d Γ sc (.Call (.Name ("isinstance" : Str) p) [e, .Name k pk] [] pos) (.p1 (.isInst kd) c) := fun env ρ f X σ s A st hne => by
  rw [x_p1, show loud1 (.isInst kd) = false from rfl, Bool.false_and, if_neg (by simp)] at hne ⊢
  unfold kindOf? at hk
  split at hk
  · first | exact zAA hk | exact ff_tt hk | cases hk
  rename_i hnk
  have hnk : C.fns.lookup k = none := Option.not_isSome_iff_eq_none.mp hnk
  have hm := zAH hk
  have hm' : k ∈ kindNames.map (·.1) := List.mem_map_of_mem hm
  have hv : bootBuiltins k = some (.type (tyName kd)) ∧ (k == ("__debug__" : Str)) = false
      ∧ ∀ c, kd = .exc c → c = .ValueError := by
    simp only [kindNames, List.mem_cons, Prod.mk.injEq, List.not_mem_nil, or_false] at hm
    rcases hm with ⟨rfl, rfl⟩ | ⟨rfl, rfl⟩ | ⟨rfl, rfl⟩ | ⟨rfl, rfl⟩ | ⟨rfl, rfl⟩
      | ⟨rfl, rfl⟩
    · exact ⟨bb_int, by decide, by simp⟩
    · exact ⟨bb_bool, by decide, by simp⟩
    · exact ⟨bb_str, by decide, by simp⟩
    · exact ⟨bb_list, by decide, by simp⟩
    · exact ⟨zHY, by decide, by simp⟩
    · exact ⟨bb_ve, by decide, fun c h => by cases h; rfl⟩
  refine wpAny_Call_NameR (zAj fs st hg hn (.inr (.inr (.inr (.inl rfl)))) zBw (by decide) ?_)
  refine zAT (zAM _ (by rw [List.any_cons, hs]; rfl)) (spliced2 hs rfl ?_)
  refine Sim.goN (h env ρ f X σ s A st) hne (fun _ _ x => x.qs) (fun _ _ x => x) fun va a' σ₁ g₁ s₁ hne hg k L ra hQ hE => ?_
  refine zAj fs (st.keep hg k L) hgk hnk (.inr (.inr (.inl hm'))) hv.1 hv.2.1 ?_
  obtain ⟨x, hx⟩ := zAg hne
  rw [hx] at hQ
  exact ⟨zAP (by simp), wpAny_mono (zFp hv.2.2 L hx ra) (fun v s' p => hQ v s' (p.here L)) fun _ _ x => x⟩
theorem ok_call (fs : Facts S C T) (FSs : FS S F q d) {x : Str} {n : Nat} {p pos : Pos} {es : List Expr} {cs : List CE} (hg : isGlob sc x = true) (hd : (x == ("__debug__" : Str)) = false) (hn : C.fns.lookup x = some n) (h : All2 (GOk S F q d Γ sc) es cs) :
    EOk S F q d Γ sc (.Call (.Name x p) es [] pos) (.call n cs) := fun env ρ f X σ s A st hne => by
  rw [x_call] at hne ⊢
  have hr : evL F q cs ρ σ ≠ .stuck := fun e => hne (by rw [e]; rfl)
  obtain ⟨mg, mb, g1, g2, g3, g4, _⟩ := fs.g
  refine wpAny_Call_NameR (wpAny_Name (zBg st.fr.kind (st.fr.isGlob hg) (by rw [st.fr.glob]; exact st.lk.ns g1) (g4 x n hn) ?_) hd)
  have hl := LOk.of h
  refine zAT (zAM _ hl.1) ?_
  refine Sim.goQ (P' := PV S X) (hl.2 env pos ρ f X σ s A st) hne (fun _ _ x => x) (fun _ _ x => x) fun vs xs σ₁ g₁ s₁ hne hg k L rs hQ hE => ?_
  obtain ⟨⟨o, fd, h1, h2⟩, h3⟩ := FSs n xs σ₁ _ X A s₁ vs (st.keep hg k L).cx.call L rs hne
  refine ⟨.inr ⟨_, o, fd, rfl, L.base _ _ h1, h2⟩, wpAny_call ?_⟩
  refine codeAny_mono h3 fun r s' hq => ?_
  match r, hq with
  | .ok (.ret v), hq => exact hQ v s' hq
  | .error e, hq => exact hE e s' hq
end
end Mine
end

/-! # Loop -/
section
set_option autoImplicit false
namespace Mine
open PySem PyProof.Rows
section
variable {S : Stat} {C : Ctx} {T : Nat → Option Fn} {F : Calls} {q : Bool} {d : Nat} {Γ : List Str} {sc : Scope}
variable {X X' Y Z : List Addr} {f g : List Loc} {σ : Sto} {s s' : Shared} {A : Around} {E : Value → Shared → Prop} {I a : Addr} {its : Items} {i : Nat}
structure Mv (I : Addr) (s s' : Shared) : Prop where
  rest : s' = { s with heap := s'.heap, toks := s'.toks }
  keep : ∀ b o, b ≠ I → s.heap.get? b = some o → s'.heap.get? b = some o
  live : ∃ o, s'.heap.get? I = some o
  dic : ∀ o es n, s.heap.get? I = some o → o.data = .dict es n → ∃ o' es' n', s'.heap.get? I = some o' ∧ o'.data = .dict es' n'
theorem Mv.kp (m : Mv I s s') (hI : I ∈ Y) : Kp f Y s s' :=
  ⟨m.rest, fun a o e => (by by_cases h : a = I
                            · rw [h]; exact m.live
                            · exact ⟨o, m.keep a o h e⟩), fun a o e _ h => ⟨o, m.keep a o (fun q => h (q ▸ hI)) e, .refl o⟩,
    fun a o es n e d _ => (by by_cases h : a = I
                              · subst h; exact m.dic o es n e d
                              · exact ⟨o, es, n, m.keep a o h e, d⟩)⟩
theorem Mv.vr (m : Mv I s s') (hI : I ∈ X) {x : V} {v : Value} (r : VR S X f s.heap x v) : VR S X f s'.heap x v :=
  VR.keep (fun _ _ e => e) (fun a o h h1 h2 => ⟨⟨h1, h2⟩, o, m.keep a o (fun q => h2 (q ▸ hI)) h, .refl o⟩) x v r
theorem Mv.vrs (m : Mv I s s') (hI : I ∈ X) {x : List V} {v : List Value} (r : VRs S X f s.heap x v) : VRs S X f s'.heap x v :=
  VRs.keep (fun _ _ e => e) (fun a o h h1 h2 => ⟨⟨h1, h2⟩, o, m.keep a o (fun q => h2 (q ▸ hI)) h, .refl o⟩) x v r
theorem Mv.lk (m : Mv I s s') (hI : I ∈ X) (L : Lk S X f σ s.heap) : Lk S X f σ s'.heap where
  base b o h := m.keep b o (fun q => by rw [q, (L.hid I hI).1] at h; cases h) (L.base b o h)
  len := L.len
  nodup := L.nodup
  fresh := L.fresh
  hid a ha := ⟨(L.hid a ha).1, (L.hid a ha).2.1, (by
    by_cases h : a = I
    · rw [h]; exact m.live
    · obtain ⟨o, e⟩ := (L.hid a ha).2.2; exact ⟨o, m.keep a o h e⟩)⟩
  obj i l o hi ho := (L.obj i l o hi ho).keep (fun _ _ => m.vr hI) (fun _ _ => m.vrs hI) fun a ha => by
    obtain ⟨ob, h⟩ := L.live (zAf hi ha)
    rw [h]; exact m.keep a ob (fun q => (L.hid I hI).2.1 (q ▸ zAf hi ha)) h
theorem VR.drop {h h' : Heap} (hX : ∀ a ∈ X', a ∈ X) (hZ : ∀ a ∈ Z, a ∈ X) (k : ∀ b o, b ∉ Z → h.get? b = some o → h'.get? b = some o) {x : V} {v : Value} (r : VR S X f h x v) : VR S X' f h' x v :=
  VR.keep (fun _ _ e => e) (fun a o h h1 h2 => ⟨⟨h1, fun q => h2 (hX a q)⟩, o, k a o (fun q => h2 (hZ a q)) h, .refl o⟩) x v r
theorem VRs.drop {h h' : Heap} (hX : ∀ a ∈ X', a ∈ X) (hZ : ∀ a ∈ Z, a ∈ X) (k : ∀ b o, b ∉ Z → h.get? b = some o → h'.get? b = some o) {x : List V} {v : List Value} (r : VRs S X f h x v) : VRs S X' f h' x v :=
  VRs.keep (fun _ _ e => e) (fun a o h h1 h2 => ⟨⟨h1, fun q => h2 (hX a q)⟩, o, k a o (fun q => h2 (hZ a q)) h, .refl o⟩) x v r
theorem Lk.drop {h h' : Heap} (L : Lk S X f σ h) (hX : ∀ a ∈ X', a ∈ X ∧ a ∉ Z) (hZ : ∀ a ∈ Z, a ∈ X) (k : ∀ b o, b ∉ Z → h.get? b = some o → h'.get? b = some o) : Lk S X' f σ h' where
  base b o q := k b o (fun z => by rw [(L.hid b (hZ b z)).1] at q; cases q) (L.base b o q)
  len := L.len
  nodup := L.nodup
  fresh := L.fresh
  hid a ha := ⟨(L.hid a (hX a ha).1).1, (L.hid a (hX a ha).1).2.1, let ⟨o, e⟩ := (L.hid a (hX a ha).1).2.2; ⟨o, k a o (hX a ha).2 e⟩⟩
  obj i l o hi ho := (L.obj i l o hi ho).keep (fun _ _ => VR.drop (fun a ha => (hX a ha).1) hZ k) (fun _ _ => VRs.drop (fun a ha => (hX a ha).1) hZ k) fun a ha => by
    obtain ⟨ob, h⟩ := L.live (zAf hi ha)
    rw [h]; exact k a ob (fun z => (L.hid a (hZ a z)).2.1 (zAf hi ha)) h
theorem Kp.drop {s₁ : Shared} (k : Kp f [] s s₁) (hg : Fresh g s) (k' : Kp (f ++ g) Y s₁ s') (hY : ∀ a ∈ Y, s.heap.get? a = none) : Kp f [] s s' where
  rest := by rw [k'.rest, k.rest]
  live a o e := let ⟨o₁, e₁⟩ := k.live a o e; k'.live a o₁ e₁
  kept a o e h1 h2 := by
    obtain ⟨o₁, e₁, q₁⟩ := k.kept a o e h1 h2
    obtain ⟨o₂, e₂, q₂⟩ := k'.kept a o₁ e₁ (fun h => (zAC.mp h).elim h1 (zAL hg e)) (fun h => by rw [hY a h] at e; cases e)
    exact ⟨o₂, e₂, q₁.trans q₂⟩
  dicts a o es n e d h1 := by
    obtain ⟨o₁, es₁, n₁, e₁, d₁⟩ := k.dicts a o es n e d h1
    exact k'.dicts a o₁ es₁ n₁ e₁ d₁ (fun h => (zAC.mp h).elim h1 (zAL hg e))
theorem Kp.ends {s₁ : Shared} (k : Kp f Y s s₁) (hr : s' = { s₁ with heap := s'.heap, toks := s'.toks }) (hk : ∀ b o, b ∉ Z → s₁.heap.get? b = some o → s'.heap.get? b = some o) (hZ : ∀ a ∈ Z, s.heap.get? a = none) : Kp f Y s s' where
  rest := by rw [hr, k.rest]
  live a o e := let ⟨o₁, e₁⟩ := k.live a o e; ⟨o₁, hk a o₁ (fun h => by rw [hZ a h] at e; cases e) e₁⟩
  kept a o e h1 h2 := by
    obtain ⟨o₁, e₁, q₁⟩ := k.kept a o e h1 h2
    exact ⟨o₁, hk a o₁ (fun h => by rw [hZ a h] at e; cases e) e₁, q₁⟩
  dicts a o es n e d h1 := by
    obtain ⟨o₁, es₁, n₁, e₁, d₁⟩ := k.dicts a o es n e d h1
    exact ⟨o₁, es₁, n₁, hk a o₁ (fun h => by rw [hZ a h] at e; cases e) e₁, d₁⟩
noncomputable def ItAt (S : Stat) (X : List Addr) (f : List Loc) (h : Heap) (I : Addr) : Items → Nat → Prop
  | .now xs, i => (∃ ax items n, h.IsListIter I ax i ∧ (ax ∉ addrs f ∧ ax ∉ X) ∧ IsL h ax items n ∧ VRs S X f h xs items.toList) ∨
      (∃ ax items n, h.IsTupleIter I ax i ∧ (ax ∉ addrs f ∧ ax ∉ X) ∧ IsT h ax items n ∧ VRs S X f h xs items.toList) ∨
      (∃ lo hi : Int, xs = rangeL lo hi ∧ IsRangeIter h I (lo + i) (((hi - lo).toNat : Int) - i) 1) ∨
      (∃ y t, xs = charsOf y ∧ y.cps.all (· < 128) = true ∧ h.IsStrIter I "str_ascii_iterator" y t i)
  | .live n, i => ∃ ax, f[n]? = some (ax, none) ∧ h.IsListIter I ax i
  | .keys _ _, _ => False
theorem zHh {lo hi : Int} {x : V} (h : (rangeL lo hi)[i]? = some x) : x = .int (lo + i) ∧ i < (hi - lo).toNat := by
  simp only [rangeL, List.getElem?_map, Option.map_eq_some_iff] at h
  obtain ⟨k, hk, rfl⟩ := h
  have := List.getElem?_range (n := (hi - lo).toNat) (i := i)
  by_cases hlt : i < (hi - lo).toNat
  · rw [this hlt] at hk; cases hk; exact ⟨rfl, hlt⟩
  · rw [List.getElem?_eq_none (by simp; omega)] at hk; first | exact zAA hk | exact ff_tt hk | cases hk
theorem zHi {lo hi : Int} (h : (rangeL lo hi)[i]? = none) : (hi - lo).toNat ≤ i := by
  simp only [rangeL, List.getElem?_map, Option.map_eq_none_iff] at h
  simpa using h
theorem zBq {h h' : Heap} {ax : Addr} (x : h.IsListIter I ax i) (k : ∀ o, h.get? I = some o → ∃ o', h'.get? I = some o' ∧ SameObj o o') : h'.IsListIter I ax i := by
  obtain ⟨o, e, c, dt⟩ := x
  obtain ⟨o', e', q⟩ := k o e
  exact ⟨o', e', q.cls.trans c, q.data.trans dt⟩
theorem zEo {h h' : Heap} {ax : Addr} (x : h.IsTupleIter I ax i) (k : ∀ o, h.get? I = some o → ∃ o', h'.get? I = some o' ∧ SameObj o o') : h'.IsTupleIter I ax i := by
  obtain ⟨o, e, c, dt⟩ := x
  obtain ⟨o', e', q⟩ := k o e
  exact ⟨o', e', q.cls.trans c, q.data.trans dt⟩
theorem zEu {h h' : Heap} {c : String} {y : Str} {t : Tok} (x : h.IsStrIter I c y t i) (k : ∀ o, h.get? I = some o → ∃ o', h'.get? I = some o' ∧ SameObj o o') : h'.IsStrIter I c y t i := by
  obtain ⟨o, e, c, dt⟩ := x
  obtain ⟨o', e', q⟩ := k o e
  exact ⟨o', e', q.cls.trans c, q.data.trans dt⟩
theorem zGi {y : Str} {x : V} (h : (charsOf y)[i]? = some x) : ∃ c, y.cps[i]? = some c ∧ x = .str ⟨#[c]⟩ := by
  unfold charsOf codes at h
  rw [List.getElem?_map] at h
  cases e : y.cps.toList[i]? with
  | none => rw [e] at h; first | exact zAA h | exact ff_tt h | cases h
  | some c => rw [e] at h; cases h; exact ⟨c, by rw [← Array.getElem?_toList]; exact e, rfl⟩
theorem zGj {y : Str} (h : (charsOf y)[i]? = none) : y.cps[i]? = none := by
  unfold charsOf codes at h
  rw [List.getElem?_map] at h
  cases e : y.cps.toList[i]? with
  | none => rw [← Array.getElem?_toList]; exact e
  | some c => rw [e] at h; first | exact zAA h | exact ff_tt h | cases h
theorem ItAt.keep {h h' : Heap} {f' : List Loc} (kf : ∀ (i : Nat) (l : Loc), f[i]? = some l → f'[i]? = some l)
    (kh : ∀ a o, h.get? a = some o → a ∉ addrs f → a ∉ X → (a ∉ addrs f' ∧ a ∉ X') ∧ ∃ o', h'.get? a = some o' ∧ SameObj o o')
    (kI : ∀ o, h.get? I = some o → ∃ o', h'.get? I = some o' ∧ SameObj o o') (x : ItAt S X f h I its i) : ItAt S X' f' h' I its i := by
  cases its with
  | now xs =>
    rcases x with ⟨ax, items, n, h1, h2, h3, h4⟩ | ⟨ax, items, n, h1, h2, h3, h4⟩ | ⟨lo, hi, h1, h2⟩ | ⟨y, t, h1, h2, h3⟩
    · obtain ⟨q1, o', q2, q3⟩ := kh ax _ h3 h2.1 h2.2
      exact .inl ⟨ax, items, n, zBq h1 kI, q1, q2.trans (congrArg some (q3.exact fun _ _ q => by cases q)), VRs.keep kf kh _ _ h4⟩
    · obtain ⟨q1, o', q2, q3⟩ := kh ax _ h3 h2.1 h2.2
      exact .inr (.inl ⟨ax, items, n, zEo h1 kI, q1, q2.trans (congrArg some (q3.exact fun _ _ q => by cases q)), VRs.keep kf kh _ _ h4⟩)
    · obtain ⟨o', q2, q3⟩ := kI _ h2
      exact .inr (.inr (.inl ⟨lo, hi, h1, q2.trans (congrArg some (q3.exact fun _ _ q => by cases q))⟩))
    · exact .inr (.inr (.inr ⟨y, t, h1, h2, zEu h3 kI⟩))
  | live n =>
    obtain ⟨ax, h1, h2⟩ := x
    exact ⟨ax, kf _ _ h1, zBq h2 kI⟩
  | keys _ _ => exact x.elim
theorem ItAt.keepK (k : Kp f [] s s') (hg : Fresh g s) (hI : I ∈ X) (hXf : ∀ a ∈ X, a ∉ addrs f) (x : ItAt S X f s.heap I its i) : ItAt S X (f ++ g) s'.heap I its i :=
  ItAt.keep (f := f) (f' := f ++ g) (X := X) (X' := X) (h := s.heap) (fun _ _ e => List.getElem?_append_left (List.getElem?_eq_some_iff.mp e).1 ▸ e)
    (fun a o ho h1 h2 => ⟨⟨fun h => (zAC.mp h).elim h1 (zAL hg ho), h2⟩, k.kept a o ho h1 fun h => nomatch h⟩) (fun o ho => k.kept I o ho (hXf I hI) fun h => nomatch h) x
theorem ItAt.mv (m : Mv a s s') (ha : a ∈ X) (hne : I ≠ a) (x : ItAt S X f s.heap I its i) : ItAt S X f s'.heap I its i :=
  ItAt.keep (fun _ _ e => e) (fun b o ho h1 h2 => ⟨⟨h1, h2⟩, o, m.keep b o (fun q => h2 (q ▸ ha)) ho, .refl o⟩) (fun o ho => ⟨o, m.keep I o hne ho, .refl o⟩) x
theorem ItAt.hideNew (e : Ext s s') (hn : s.heap.get? a = none) (x : ItAt S X f s.heap I its i) : ItAt S (a :: X) f s'.heap I its i :=
  ItAt.keep (fun _ _ e => e) (fun b ob q h1 h2 => ⟨⟨h1, fun h => (List.mem_cons.mp h).elim (fun h => by subst h; rw [hn] at q; cases q) h2⟩, ob, e.keep b ob q, .refl ob⟩) (fun o ho => ⟨o, e.keep I o ho, .refl o⟩) x
theorem zDB {h' : Heap} {t : Nat} {o : Obj} (hs : Heap.SameBut I s.heap h') (hl : h'.get? I = some o) (hd : ∀ o es n, s.heap.get? I = some o → o.data ≠ .dict es n) : Mv I s { s with heap := h', toks := t } :=
  ⟨rfl, fun b o hb e => (hs.2 b hb).trans e, ⟨o, hl⟩, fun o es n e d => absurd d (hd o es n e)⟩
inductive NextAt (S : Stat) (X : List Addr) (f : List Loc) (I : Addr) (its : Items) (i : Nat) (x : V) (s : Shared) (r : Option Value) (s' : Shared) : Prop
  | mk (v : Value) (e : r = some v) (m : Mv I s s') (it : ItAt S X f s'.heap I its (i + 1)) (rv : VR S X f s'.heap x v)
theorem zFi {x : V} (hI : I ∈ X) (L : Lk S X f σ s.heap) (it : ItAt S X f s.heap I its i) (hn : nextIt σ its i = some (some x)) :
    wpAny (model S.prog S.w) A (pyNext (.ref I)) (NextAt S X f I its i x s) E s := by
  cases its with
  | now xs =>
    have hx : xs[i]? = some x := by simpa [nextIt] using hn
    rcases it with ⟨ax, items, n, h1, h2, h3, h4⟩ | ⟨ax, items, n, h1, h2, h3, h4⟩ | ⟨lo, hi, rfl, h2⟩ | ⟨y, t, rfl, h2, h3⟩
    · obtain ⟨v, hv, rv⟩ := zCK h4 hx
      refine wpAny_pyNext_list_item h1 (IsL.isList h3) (by simpa using hv) fun h' hit' hs' => ?_
      obtain ⟨o1, e1, _, d1⟩ := id h1
      obtain ⟨o2, e2, _⟩ := id hit'
      have m : Mv I s { s with heap := h' } := zDB (t := s.toks) hs' e2 fun o es n e d => by rw [e1] at e; cases e; rw [d1] at d; cases d
      have hne : ax ≠ I := fun q => h2.2 (q ▸ hI)
      exact ⟨v, rfl, m, .inl ⟨ax, items, n, hit', h2, m.keep ax _ hne h3, m.vrs hI h4⟩, m.vr hI rv⟩
    · obtain ⟨v, hv, rv⟩ := zCK h4 hx
      refine wpAny_pyNext_tuple_item h1 ⟨_, h3, rfl, n, rfl⟩ (by simpa using hv) fun h' hit' hs' => ?_
      obtain ⟨o1, e1, _, d1⟩ := id h1
      obtain ⟨o2, e2, _⟩ := id hit'
      have m : Mv I s { s with heap := h' } := zDB (t := s.toks) hs' e2 fun o es n e d => by rw [e1] at e; cases e; rw [d1] at d; cases d
      have hne : ax ≠ I := fun q => h2.2 (q ▸ hI)
      exact ⟨v, rfl, m, .inr (.inl ⟨ax, items, n, hit', h2, m.keep ax _ hne h3, m.vrs hI h4⟩), m.vr hI rv⟩
    · obtain ⟨rfl, hlt⟩ := zHh hx
      refine wpAny_pyNext_range_item h2 (by omega) fun h' hit' hs' => ?_
      have m : Mv I s { s with heap := h', toks := s.toks + 1 } := zDB hs' hit' fun o es n e d => by rw [h2] at e; cases e; cases d
      refine ⟨_, rfl, m, .inr (.inr (.inl ⟨lo, hi, rfl, ?_⟩)), by rw [VR]; exact ⟨_, rfl⟩⟩
      have e1 : lo + ((i + 1 : Nat) : Int) = lo + i + 1 := by omega
      have e2 : (((hi - lo).toNat : Int) - ((i + 1 : Nat) : Int)) = ((hi - lo).toNat : Int) - i - 1 := by omega
      rw [e1, e2]; exact hit'
    · obtain ⟨c, hc, rfl⟩ := zGi hx
      refine wpAny_pyNext_ascii_item h3 hc fun h' hit' hs' => ?_
      obtain ⟨o1, e1, _, d1⟩ := id h3
      obtain ⟨o2, e2, _⟩ := id hit'
      have m : Mv I s { s with heap := h', toks := s.toks + 1 } := zDB hs' e2 fun o es n e d => by rw [e1] at e; cases e; rw [d1] at d; cases d
      have hlt : c < 128 := by
        have := (Array.all_eq_true'.mp h2) c (Array.mem_of_getElem? hc)
        simpa using this
      refine ⟨_, rfl, m, .inr (.inr (.inr ⟨y, t, rfl, h2, hit'⟩)), ?_⟩
      rw [VR]
      refine ⟨⟨_, rfl⟩, by show 1 ≤ LIM; decide, ?_⟩
      show (#[c] : Array Nat).all (· < 0x110000) = true
      simp; omega
  | live n =>
    obtain ⟨ax, h1, h2⟩ := it
    delta nextIt at hn; dsimp only at hn
    split at hn
    · rename_i xs ho
      have hx : xs[i]? = some x := by simpa using hn
      obtain ⟨vs, k, il, rs, hl⟩ := L.obj n (ax, none) _ h1 ho
      obtain ⟨v, hv, rv⟩ := zCK rs hx
      refine wpAny_pyNext_list_item h2 (IsL.isList il) (by simpa using hv) fun h' hit' hs' => ?_
      obtain ⟨o1, e1, _, d1⟩ := id h2
      obtain ⟨o2, e2, _⟩ := id hit'
      have m : Mv I s { s with heap := h' } := zDB (t := s.toks) hs' e2 fun o es n e d => by rw [e1] at e; cases e; rw [d1] at d; cases d
      exact ⟨v, rfl, m, ⟨ax, h1, hit'⟩, m.vr hI rv⟩
    · first | exact zAA hn | exact ff_tt hn | cases hn
  | keys _ _ => exact it.elim
theorem zHB (hh : A.handled = none) (L : Lk S X f σ s.heap) (it : ItAt S X f s.heap I its i) (hn : nextIt σ its i = some none) :
    wpAny (model S.prog S.w) A (pyNext (.ref I)) (fun r s' => r = none ∧ s' = { s with heap := s'.heap, toks := s'.toks } ∧ ∀ b o, b ≠ I → s.heap.get? b = some o → s'.heap.get? b = some o) E s := by
  cases its with
  | now xs =>
    have hx : xs[i]? = none := by simpa [nextIt] using hn
    rcases it with ⟨ax, items, n, h1, h2, h3, h4⟩ | ⟨ax, items, n, h1, h2, h3, h4⟩ | ⟨lo, hi, rfl, h2⟩ | ⟨y, t, rfl, h2, h3⟩
    · have : items[i]? = none := by
        have z := zAK h4
        rw [List.getElem?_eq_none_iff] at hx
        exact Array.getElem?_eq_none_iff.mpr (by omega)
      exact wpAny_pyNext_list_end hh h1 (IsL.isList h3) this fun h' he => ⟨rfl, rfl, he⟩
    · have : items[i]? = none := by
        have z := zAK h4
        rw [List.getElem?_eq_none_iff] at hx
        exact Array.getElem?_eq_none_iff.mpr (by omega)
      exact wpAny_pyNext_tuple_end hh h1 ⟨_, h3, rfl, n, rfl⟩ this fun h' he => ⟨rfl, rfl, he⟩
    · have := zHi hx
      exact wpAny_pyNext_range_end hh h2 (by omega) fun h' he => ⟨rfl, rfl, he⟩
    · exact wpAny_pyNext_ascii_end hh h3 (zGj hx) fun h' he => ⟨rfl, rfl, he⟩
  | live n =>
    obtain ⟨ax, h1, h2⟩ := it
    delta nextIt at hn; dsimp only at hn
    split at hn
    · rename_i xs ho
      have hx : xs[i]? = none := by simpa using hn
      obtain ⟨vs, k, il, rs, hl⟩ := L.obj n (ax, none) _ h1 ho
      have : vs[i]? = none := by
        have z := zAK rs
        rw [List.getElem?_eq_none_iff] at hx
        exact Array.getElem?_eq_none_iff.mpr (by omega)
      exact wpAny_pyNext_list_end hh h2 (IsL.isList il) this fun h' he => ⟨rfl, rfl, he⟩
    · first | exact zAA hn | exact ff_tt hn | cases hn
  | keys _ _ => exact it.elim
end
end Mine
end

/-! # Src -/
section
set_option autoImplicit false
namespace Mine
open PySem PyProof.Rows
inductive QI (S : Stat) (X : List Addr) (f : List Loc) (s : Shared) (r : R Items) (it : Value) (s' : Shared) : Prop where
  | mk (its : Items) (σ' : Sto) (g : List Loc) (I : Addr) (e1 : r = .ok its σ') (e2 : it = .ref I) (hI : s.heap.get? I = none) (hX : I ∉ X) (hg : Fresh g s) (k : Kp f [] s s') (L : Lk S (I :: X) (f ++ g) σ' s'.heap) (x : ItAt S (I :: X) (f ++ g) s'.heap I its 0)
section
variable {S : Stat} {C : Ctx} {T : Nat → Option Fn} {F : Calls} {q : Bool} {d : Nat} {Γ : List Str} {sc : Scope}
variable {X X' Y Z : List Addr} {f g : List Loc} {σ : Sto} {s s' : Shared} {A : Around} {E : Value → Shared → Prop} {I a : Addr} {its : Items} {i : Nat}
theorem QI.lifts : Lifts [] (fun f s r a s' => QI S X f s r a s') := fun f g s s₁ r c s' hg k q => by
  obtain ⟨its, σ', g', I, e1, e2, e3, e4, hg', k', L, x⟩ := q
  rw [List.append_assoc] at L x
  exact ⟨its, σ', g ++ g', I, e1, e2, zAN k.live e3, e4, hg.trans k.live hg', k.trans hg k', L, x⟩
theorem QI.made {o : Obj} {t : Nat} (L : Lk S X f σ s.heap) (x : ItAt S (s.heap.objs.size :: X) f (s.heap.push o) s.heap.objs.size its 0) (hl : (s.heap.push o).get? s.heap.objs.size = some o) :
    QI S X f s (.ok its σ) (.ref s.heap.objs.size) { s with heap := s.heap.push o, toks := t } := by
  have ex : Ext s { s with heap := s.heap.push o, toks := t } := .heap fun _ _ e => Heap.get?_push_of_some _ e
  refine ⟨its, σ, [], s.heap.objs.size, rfl, rfl, zAe _, (L.new (zAe _)).2, .nil s, ex.kp f [], ?_, ?_⟩
  · rw [List.append_nil]; exact L.hideNew ex (zAe _) hl
  · rw [List.append_nil]; exact x
theorem QI.moved {r : R Items} {v : Value} {s₁ : Shared} (e : Ext s s₁) (h : QI S X f s₁ r v s') : QI S X f s r v s' :=
  QI.lifts f [] s s₁ r v s' (.nil s) (e.kp f []) (by rwa [List.append_nil])
theorem zGp {o : Obj} {xs : List V} {vs : List Value} (r : VRs S X f s.heap xs vs) : VRs S (s.heap.objs.size :: X) f (s.heap.push o) xs vs :=
  VRs.hideNew (s' := { s with heap := s.heap.push o }) (Ext.push s o) (zAe _) r
theorem iter_sound {v : V} {w : Value} (L : Lk S X f σ s.heap) (hi : itemsBy σ .val [v] = some its) (r : VR S X f s.heap v w) : wpAny (model S.prog S.w) A (pyIter w) (QI S X f s (.ok its σ)) E s := by
  cases v with
  | tup xs =>
    cases hi
    obtain ⟨p, vs, n, rfl, hp, il, rs, hlen⟩ := zBb r
    refine wpAny_pyIter_tuple ⟨_, il, rfl, n, rfl⟩ (QI.made (t := s.toks) L (.inr (.inl ⟨p, vs, n, ⟨_, Heap.get?_push_size _ rfl, rfl, rfl⟩, ⟨hp.1, ?_⟩, Heap.get?_push_of_some _ il, zGp rs⟩)) (Heap.get?_push_size _ rfl))
    exact fun h => (List.mem_cons.mp h).elim (fun h => by have := zAe s.heap; rw [← h, il] at this; cases this) hp.2
  | lst xs =>
    cases hi
    rw [VR] at r
    obtain ⟨p, vs, n, rfl, hp, il, rs, hlen⟩ := r
    refine wpAny_pyIter_list (IsL.isList il) (QI.made (t := s.toks) L (.inl ⟨p, vs, n, ⟨_, Heap.get?_push_size _ rfl, rfl, rfl⟩, ⟨hp.1, ?_⟩, Heap.get?_push_of_some _ il, zGp rs⟩) (Heap.get?_push_size _ rfl))
    exact fun h => (List.mem_cons.mp h).elim (fun h => by have := zAe s.heap; rw [← h, il] at this; cases this) hp.2
  | ref n =>
    have hi : refItems n σ[n]? = some its := hi
    unfold refItems at hi
    split at hi
    · rename_i xs ho
      cases hi
      rw [VR] at r
      obtain ⟨l, hl, rfl⟩ := r
      have := L.obj n l _ hl ho
      obtain ⟨p, dd⟩ := l
      cases dd with
      | none =>
        obtain ⟨vs, k, il, rs, hlen⟩ := this
        exact wpAny_pyIter_list (IsL.isList il) (QI.made (t := s.toks) L ⟨p, hl, ⟨_, Heap.get?_push_size _ rfl, rfl, rfl⟩⟩ (Heap.get?_push_size _ rfl))
      | some dd => exact this.elim
    · first | exact zAA hi | exact ff_tt hi | cases hi
  | str y =>
    obtain ⟨⟨t, rfl⟩, _⟩ := zAR r
    have hi : (if y.cps.all (· < 128) = true then some (Items.now (charsOf y)) else none) = some its := hi
    split at hi
    · rename_i ha
      cases hi
      exact wpAny_pyIter_ascii ha (QI.made (t := s.toks) L (.inr (.inr (.inr ⟨y, t, rfl, ha, ⟨_, Heap.get?_push_size _ rfl, rfl, rfl⟩⟩))) (Heap.get?_push_size _ rfl))
    · first | exact zAA hi | exact ff_tt hi | cases hi
  | _ => first | exact zAA hi | exact ff_tt hi | cases hi
noncomputable def SrcOk (S : Stat) (F : Calls) (q : Bool) (d : Nat) (Γ : List Str) (sc : Scope) (e : Expr) (k : SK) (cs : List CE) : Prop := (∀ env x, foldedSetIterable e env x = pure x) ∧
  ∀ (env : Env) (ρ : List V) (f : List Loc) (X : List Addr) (σ : Sto) (s : Shared) (A : Around), St S q d Γ sc env ρ f X σ s A →
    ((evL F q cs ρ σ).bind fun vs σ => R.lift σ (itemsBy σ k vs)) ≠ .stuck →
    wpAny (model S.prog S.w) A (eval e env) (fun x s₁ => wpAny (model S.prog S.w) A (pyIter x) (QI S X f s ((evL F q cs ρ σ).bind fun vs σ => R.lift σ (itemsBy σ k vs))) (ES S X [] f false s ((evL F q cs ρ σ).bind fun vs σ => R.lift σ (itemsBy σ k vs))) s₁)
      (ES S X [] f false s ((evL F q cs ρ σ).bind fun vs σ => R.lift σ (itemsBy σ k vs))) s
theorem src_val {e : Expr} {c : CE} (h : GOk S F q d Γ sc e c) : SrcOk S F q d Γ sc e .val [c] := by
  refine ⟨h.fold, fun env ρ f X σ s A st hne => ?_⟩
  have key : ((evL F q [c] ρ σ).bind fun vs σ => R.lift σ (itemsBy σ .val vs)) = (evE F q c ρ σ).bind fun v σ => R.lift σ (itemsBy σ .val [v]) := by
    rw [zDZ, R.bind_assoc]
    congr 1
  rw [key] at hne ⊢
  refine Sim.go (K := fun f s r a s' => QI S X f s r a s') QI.lifts (h.eo env ρ f X σ s A st) hne (fun _ _ x => x) (fun _ _ x => x) fun va a' σ₁ g₁ s₁ hne hg k L ra hQ hE => ?_
  obtain ⟨its, hi⟩ := zAg hne
  rw [hi] at hQ
  exact wpAny_mono (iter_sound L hi ra) hQ fun _ _ x => x
theorem zHg {lo hi : Int} {t u v : Tok} (L : Lk S X f σ s.heap) (h0 : 0 ≤ lo) (h1 : lo ≤ LIM) (h2 : hi.natAbs ≤ LIM) :
    wpAny (model S.prog S.w) A (pyIter (.ref s.heap.objs.size)) (QI S X f s (.ok (.now (rangeL lo hi)) σ)) E { s with heap := s.heap.push { cls := .type "range", data := .fields #[.int lo t, .int hi u, .int 1 v] }, toks := s.toks } := by
  have hL : LIM = 1048576 := rfl
  have ex : Ext s { s with heap := s.heap.push { cls := .type "range", data := .fields #[.int lo t, .int hi u, .int 1 v] }, toks := s.toks } := .heap fun _ _ e => Heap.get?_push_of_some _ e
  refine wpAny_pyIter_range (IsRange.new ..) (small_one (by omega) (by omega) (by omega) (by omega)) (QI.moved ex (QI.made (t := s.toks) (ex.lk L) (.inr (.inr (.inl ⟨lo, hi, rfl, ?_⟩))) (Heap.get?_push_size _ rfl)))
  have e1 : Builtin.Range.rangeSize lo hi 1 = ((hi - lo).toNat : Int) - ((0 : Nat) : Int) := by rw [rangeSize_one]; split <;> omega
  have e2 : lo + ((0 : Nat) : Int) = lo := by simp
  show IsRangeIter _ _ (lo + ((0 : Nat) : Int)) _ 1
  rw [← e1, e2]
  exact Heap.get?_push_size _ rfl
theorem src_range (fs : Facts S C T) {p pos : Pos} {es : List Expr} {cs : List CE} {k : SK} (hg : isGlob sc "range" = true) (hn : C.fns.lookup ("range" : Str) = none) (h : All2 (GOk S F q d Γ sc) es cs)
    (hk : (k = .range1 ∧ cs.length = 1) ∨ False) : SrcOk S F q d Γ sc (.Call (.Name ("range" : Str) p) es [] pos) k cs := by
  refine ⟨fun _ _ => rfl, fun env ρ f X σ s A st hne => ?_⟩
  have hl := LOk.of h
  refine wpAny_Call_NameR (zAj fs st hg hn (.inr (.inr (.inr (.inr rfl)))) bb_range (by decide) ?_)
  refine zAT (zAM _ hl.1) ?_
  refine Sim.go (K := fun f s r a s' => QI S X f s r a s') QI.lifts (hl.2 env pos ρ f X σ s A st) hne (fun _ _ x => x) (fun _ _ x => x) fun vs xs σ₁ g₁ s₁ hne hg k L rs hQ hE => ?_
  refine ⟨zAP (by simp), ?_⟩
  obtain ⟨its, hi⟩ := zAg hne
  rw [hi] at hQ
  have hL : LIM = 1048576 := rfl
  rcases hk with ⟨rfl, _⟩ | hk
  · obtain ⟨n, rfl⟩ : ∃ n, xs = [.int n] := by
      rcases xs with _ | ⟨x, _ | ⟨y, _ | ⟨z, r⟩⟩⟩
      · first | exact zAA hi | exact ff_tt hi | cases hi
      · cases x <;> first | exact ⟨_, rfl⟩ | cases hi
      · first | exact zAA hi | exact ff_tt hi | cases hi
      · first | exact zAA hi | exact ff_tt hi | cases hi
    match vs, rs with
    | [w], rs =>
      rw [VRs] at rs
      obtain ⟨t, rfl⟩ := zAW rs.1
      have hi : (if n.natAbs ≤ LIM then some (Items.now (rangeL 0 n)) else none) = some its := hi
      split at hi
      · rename_i hb
        cases hi
        refine call_range_1 ?_
        have ex : Ext s₁ { s₁ with toks := s₁.toks + 1 + 1 } := .toks s₁ _
        exact wpAny_mono (zHg (s := { s₁ with toks := s₁.toks + 1 + 1 }) L (by omega) (by omega) hb) (fun v s'' x => hQ v s'' (QI.moved ex x)) fun _ _ x => x
      · first | exact zAA hi | exact ff_tt hi | cases hi
    | [], rs => rw [VRs] at rs; exact rs.elim
    | _ :: _ :: _, rs => rw [VRs, VRs] at rs; exact rs.2.elim
  · exact hk.elim
end
end Mine
end

/-! # CompS -/
section
set_option autoImplicit false
namespace Mine
open PySem PyProof.Rows
section
variable {S : Stat} {C : Ctx} {T : Nat → Option Fn} {F : Calls} {q : Bool} {d : Nat} {Γ : List Str} {sc : Scope}
variable {X X' Y Z : List Addr} {f g : List Loc} {σ : Sto} {s s' : Shared} {A : Around} {E : Value → Shared → Prop} {I a : Addr} {its : Items} {i : Nat} {env : Env} {ρ : List V}
theorem append_raw {l : Addr} {items : Array Value} {n : Nat} {x : Value} {Q : Value → Shared → Prop} (hl : IsL s.heap l items n) (h : Q .none { s with heap := s.heap.update l (Obj.mapSeq (·.push x)) }) (hsz : items.size ≤ sizeLine) :
    wpAny (model S.prog S.w) A (call (.builtin "list.append") [.ref l, x]) Q E s := by
  refine wpAny_call_entry slot_list_append (IsL.isList hl).typeIs entry_list_append ?_ (args_list_append _ _)
  show wpAny _ _ (updateSeq l (·.push x) >>= fun _ => ret .none) _ _ s
  refine wpAny_bind ?_
  have hz' : (items.push x).size ≤ sizeLine + 1 := by rw [Array.size_push]; omega
  exact wpAny_updateSeq hl rfl (wpAny_pure ⟨.none, rfl, h⟩) (hz := hsz) (_hz' := hz')
theorem IsL.appended {h : Heap} {l : Addr} {items : Array Value} {n : Nat} {x : Value} (hl : IsL h l items n) : ∃ n', IsL (h.update l (Obj.mapSeq (·.push x))) l (items.push x) n' := ⟨_, IsL.update hl _⟩
theorem zCH : ∀ (names : List (Str × NameKind)) (cs : List (Str × Addr)), (∀ n, (n, NameKind.free) ∈ names → ∃ c, env.cells.lookup n = some c) → (∀ y c, cs.lookup y = some c → env.cells.lookup y = some c) →
    ∃ cl, (forIn names cs (fun x r => do
        let __x ← pure PUnit.unit
        match x with
        | (name, kind) => if (kind == .free) = true then do let y ← cellOf env name; pure (ForInStep.yield ((name, y) :: r)) else pure (ForInStep.yield r)) : Sem (List (Str × Addr))) = pure cl ∧ (∀ y c, cl.lookup y = some c → env.cells.lookup y = some c) ∧
      (∀ y, (cs.lookup y).isSome = true → (cl.lookup y).isSome = true) ∧ ∀ y, (y, NameKind.free) ∈ names → (cl.lookup y).isSome = true
  | [], cs, _, h2 => ⟨cs, rfl, h2, fun _ h => h, fun _ h => nomatch h⟩
  | (n, k) :: r, cs, h1, h2 => by
    have h1' : ∀ n, (n, NameKind.free) ∈ r → ∃ c, env.cells.lookup n = some c := fun n hn => h1 n (List.mem_cons_of_mem _ hn)
    by_cases hk : k = .free
    · subst hk
      obtain ⟨c, hc⟩ := h1 n List.mem_cons_self
      obtain ⟨cl, e1, e2, e3, e4⟩ := zCH r ((n, c) :: cs) h1' (fun y c' e => by
        rw [List.lookup_cons] at e
        split at e
        · rename_i hy; rw [eq_of_beq hy]; cases e; exact hc
        · exact h2 y c' e)
      refine ⟨cl, ?_, e2, fun y hy => e3 y ?_, fun y hy => ?_⟩
      · rw [List.forIn_cons]
        simp only [cellOf, hc]
        exact e1
      · rw [List.lookup_cons]; split
        · rfl
        · exact hy
      · rcases List.mem_cons.mp hy with e | hy
        · cases e; exact e3 n (by simp)
        · exact e4 y hy
    · obtain ⟨cl, e1, e2, e3, e4⟩ := zCH r cs h1' h2
      refine ⟨cl, ?_, e2, e3, fun y hy => ?_⟩
      · rw [List.forIn_cons]
        have : (k == NameKind.free) = false := by simpa using hk
        simp only [this]
        exact e1
      · rcases List.mem_cons.mp hy with e | hy
        · cases e; exact absurd rfl hk
        · exact e4 y hy
theorem closure_of {scope : Scope} (h : ∀ n, (n, NameKind.free) ∈ scope.names → ∃ c, env.cells.lookup n = some c) : ∃ cl, closureFor scope env = pure cl ∧ ∀ y, (y, NameKind.free) ∈ scope.names → ∃ c, cl.lookup y = some c ∧ env.cells.lookup y = some c := by
  obtain ⟨cl, e1, e2, _, e4⟩ := zCH (env := env) scope.names [] h (fun y c e => by simp at e)
  refine ⟨cl, ?_, fun y hy => ?_⟩
  · simp only [closureFor]
    have := e1
    simp only [pure_bind, bind_pure] at this ⊢
    exact this
  · obtain ⟨c, hc⟩ := Option.isSome_iff_exists.mp (e4 y hy)
    exact ⟨c, hc, e2 y c hc⟩
end
end Mine
end

/-! # CompS2 -/
section
set_option autoImplicit false
namespace Mine
open PySem PyProof.Rows
theorem zBc {env : Env} {scope : Scope} (x : Str) : (relabel scope env).names.lookup x = scope.names.lookup x ∨ (scope.names.lookup x = some .free ∧ (relabel scope env).names.lookup x = some .cell) := by
  show (scope.names.map fun (n, k) => if (k == NameKind.free && env.scope.kind == .function && env.kindOf n == some .cell) then (n, NameKind.cell) else (n, k)).lookup x = _ ∨ (_ ∧ (scope.names.map fun (n, k) => if (k == NameKind.free && env.scope.kind == .function && env.kindOf n == some .cell) then (n, NameKind.cell) else (n, k)).lookup x = some .cell)
  generalize scope.names = names
  induction names with
  | nil => exact .inl rfl
  | cons p r ih =>
    obtain ⟨n, k⟩ := p
    simp only [List.map_cons]
    by_cases hc : (k == NameKind.free && env.scope.kind == .function && env.kindOf n == some .cell) = true
    · rw [if_pos hc]
      rw [List.lookup_cons, List.lookup_cons]
      have hk : k = .free := by simp only [Bool.and_eq_true] at hc; exact eq_of_beq hc.1.1
      split
      · exact .inr ⟨by rw [hk], rfl⟩
      · exact ih
    · rw [if_neg hc]
      rw [List.lookup_cons, List.lookup_cons]
      split
      · exact .inl rfl
      · exact ih
section
variable {S : Stat} {C : Ctx} {T : Nat → Option Fn} {F : Calls} {q : Bool} {d : Nat} {Γ : List Str} {sc : Scope}
variable {X X' Y Z : List Addr} {f g : List Loc} {σ : Sto} {s s' : Shared} {A : Around} {E : Value → Shared → Prop} {I a : Addr} {its : Items} {i : Nat} {env : Env} {ρ : List V}
theorem zBe (x y : Str) : ∀ (Γ : List Str), lastIdx y (Γ ++ [x]) = if x == y then some Γ.length else lastIdx y Γ
  | [] => by simp [lastIdx]
  | z :: Γ => by
    simp only [List.cons_append, lastIdx, zBe x y Γ]
    by_cases h : (x == y) = true
    · simp [h]
    · simp [h]
theorem zBW {y : Str} : ∀ {Γ : List Str} {i : Nat}, lastIdx y Γ = some i → i < Γ.length
  | [], i, h => by simp [lastIdx] at h
  | z :: Γ, i, h => by
    simp only [lastIdx] at h
    split at h
    · rename_i j hj; cases h; have := zBW hj; simp; omega
    · split at h
      · cases h; simp
      · first | exact zAA h | exact ff_tt h | cases h
theorem zBh {y : Str} : ∀ {Γ : List Str} {i : Nat}, lastIdx y Γ = some i → y ∈ Γ
  | [], i, h => by simp [lastIdx] at h
  | z :: Γ, i, h => by
    simp only [lastIdx] at h
    split at h
    · rename_i j hj; exact List.mem_cons_of_mem _ (zBh hj)
    · split at h
      · rename_i e; rw [eq_of_beq e]; exact List.mem_cons_self
      · first | exact zAA h | exact ff_tt h | cases h
structure CompOk (Γ : List Str) (sc scope : Scope) (x : Str) : Prop where
  kind : scope.kind = .function
  self : scope.names.lookup x = some .local
  cell : ∀ p ∈ scope.names, p.2 ≠ .cell
  loc : ∀ p ∈ scope.names, p.2 = .local → (p.1 = x ∨ p.1 ∉ Γ) ∧ scope.names.lookup p.1 = some .local
  free : ∀ p ∈ scope.names, p.2 = .free → sc.names.lookup p.1 = some .cell ∨ sc.names.lookup p.1 = some .free
theorem compOk_of {scope : Scope} {x : Str} (h : compOk Γ sc scope x = true) : CompOk Γ sc scope x := by
  unfold compOk at h
  simp only [Bool.and_eq_true, List.all_eq_true, Bool.not_eq_true'] at h
  obtain ⟨⟨⟨⟨h1, h2⟩, h3⟩, h4⟩, h5⟩ := h
  refine ⟨eq_of_beq h1, eq_of_beq h2, fun p hp e => ?_, fun p hp e => ?_, fun p hp e => ?_⟩
  · have := h5 p hp
    rw [e] at this; cases this
  · have := h5 p hp
    rw [e] at this
    simp only [Bool.and_eq_true, Bool.or_eq_true] at this
    refine ⟨this.1.elim (fun q => .inl (eq_of_beq q)) fun q => .inr ?_, eq_of_beq this.2⟩
    rw [eq_of_beq q]
    intro hm
    rw [List.contains_iff_mem.mpr hm] at h3
    cases h3
  · have := h5 p hp
    rw [e] at this
    simp only [Bool.or_eq_true] at this
    exact this.elim (fun q => .inl (eq_of_beq q)) fun q => .inr (eq_of_beq q)
theorem FR.cellKind {h : Heap} (fr : FR S X f h env Γ sc ρ) {y : Str} (hy : sc.names.lookup y = some .cell ∨ sc.names.lookup y = some .free) : isCellKind (env.kindOf y) := by
  rcases fr.names y with e | ⟨_, e⟩
  · rw [e]; exact hy
  · exact .inl e
theorem FR.comp {h : Heap} {scope : Scope} {x : Str} {cl : List (Str × Addr)} {D : Addr} {m : Str → Option Value} {v : V} {w : Value} (fr : FR S X f h env Γ sc ρ) (ok : CompOk Γ sc scope x)
    (hcl : ∀ y, (y, NameKind.free) ∈ scope.names → ∃ c, cl.lookup y = some c ∧ env.cells.lookup y = some c) (hD : D ∈ X) (hn : h.Ns D m) (hm : m x = some w) (r : VR S X f h v w) :
    FR S X f h (compEnvC scope cl D env) (Γ ++ [x]) scope (ρ ++ [v]) := by
  have names : ∀ y, (compEnvC scope cl D env).kindOf y = scope.names.lookup y ∨ (scope.names.lookup y = some .free ∧ (compEnvC scope cl D env).kindOf y = some .cell) := fun y => zBc y
  have freeOf : ∀ y, isCellKind ((compEnvC scope cl D env).kindOf y) → (y, NameKind.free) ∈ scope.names := fun y hy => by
    rcases names y with e | ⟨e, _⟩
    · rw [e] at hy
      rcases hy with e' | e'
      · exact absurd rfl (ok.cell _ (zAH e'))
      · exact zAH e'
    · exact zAH e
  refine ⟨ok.kind, fr.glob, fr.blt, names, ⟨hD, m, hn⟩, fun y hy => ?_, fun y i v' hv hi hv' hne => ?_, by simp [fr.len]⟩
  · obtain ⟨c, e1, e2⟩ := hcl y (freeOf y hy)
    obtain ⟨c', o, e3, e4, e5⟩ := fr.cells y (fr.cellKind (ok.free _ (freeOf y hy) rfl))
    rw [e2] at e3; cases e3
    exact ⟨c, o, e1, e4, e5⟩
  · rw [zBe] at hi
    by_cases hxy : (x == y) = true
    · rw [if_pos hxy] at hi
      cases hi
      have e := eq_of_beq hxy
      subst e
      rw [← fr.len, List.getElem?_append_right (Nat.le_refl _)] at hv'
      simp at hv'
      subst hv'
      refine ⟨w, .inl ⟨?_, m, hn, hm⟩, r⟩
      rcases names x with e | ⟨e, _⟩
      · exact e.trans ok.self
      · rw [ok.self] at e; cases e
    · rw [if_neg hxy] at hi
      have hlt := zBW hi
      rw [List.getElem?_append_left (by rw [fr.len]; exact hlt)] at hv'
      have hfree : (y, NameKind.free) ∈ scope.names := by
        unfold isVar at hv
        split at hv
        · rename_i e
          rcases (ok.loc _ (zAH e) rfl).1 with e' | e'
          · exact absurd (by rw [show x = y from e'.symm]; simp) hxy
          · exact absurd (zBh hi) e'
        · rename_i e; exact absurd rfl (ok.cell _ (zAH e))
        · rename_i e; exact zAH e
        · first | exact zAA hv | exact ff_tt hv | cases hv
      have hsc := ok.free _ hfree rfl
      have hv2 : isVar sc y = true := by
        unfold isVar
        rcases hsc with e | e <;> simp only at e <;> rw [e]
      obtain ⟨w', n, r'⟩ := fr.vals y i v' hv2 hi hv' hne
      obtain ⟨c, e1, e2⟩ := hcl y hfree
      refine ⟨w', .inr ⟨?_, c, e1, ?_⟩, r'⟩
      · rcases names y with e | ⟨_, e⟩
        · rw [e]
          unfold isVar at hv
          split at hv
          · rename_i e'
            rcases (ok.loc _ (zAH e') rfl).1 with e'' | e''
            · exact absurd (by rw [show x = y from e''.symm]; simp) hxy
            · exact absurd (zBh hi) e''
          · rename_i e'; exact .inl e'
          · rename_i e'; exact .inr e'
          · first | exact zAA hv | exact ff_tt hv | cases hv
        · exact .inl e
      · rcases n with ⟨k1, _⟩ | ⟨_, c', e3, e4⟩
        · have := fr.cellKind hsc
          rw [k1] at this
          rcases this with h | h <;> cases h
        · rw [e2] at e3; cases e3; exact e4
theorem FR.keepY (fr : FR S X f s.heap env Γ sc ρ) (hXf : ∀ a ∈ X, a ∉ addrs f) (k : Kp f Y s s') (hg : Fresh g s) (hYX : ∀ a ∈ Y, a ∈ X) (hl : env.locals ∉ Y) (hc : ∀ x c, isCellKind (env.kindOf x) → env.cells.lookup x = some c → c ∉ Y) : FR S X (f ++ g) s'.heap env Γ sc ρ := by
  have hcf : ∀ x c, env.cells.lookup x = some c → isCellKind (env.kindOf x) → c ∉ addrs f := fun x c e hk => by
    obtain ⟨c', o, e', hX, _⟩ := fr.cells x hk
    rw [e] at e'; cases e'
    exact hXf c hX
  refine ⟨fr.kind, fr.glob, fr.blt, fr.names, ⟨fr.loc.1, let ⟨m, h⟩ := fr.loc.2; ⟨m, kp_ns k (hXf _ fr.loc.1) hl h⟩⟩, fun x hx => ?_, fun x i v h1 h2 h3 h4 => ?_, fr.len⟩
  · obtain ⟨c, o, e, hX, h⟩ := fr.cells x hx
    exact ⟨c, o, e, hX, zGY k (hcf x c e hx) (hc x c hx e) h⟩
  · obtain ⟨w, h5, h6⟩ := fr.vals x i v h1 h2 h3 h4
    exact ⟨w, h5.keep k ⟨hXf _ fr.loc.1, hl⟩ fun x c e hk => ⟨hcf x c e hk, hc x c hk e⟩, h6.keepK k hg hYX⟩
theorem FR.hideNew (fr : FR S X f s.heap env Γ sc ρ) (e : Ext s s') (hn : s.heap.get? a = none) : FR S (a :: X) f s'.heap env Γ sc ρ := by
  have ns : ∀ {b : Addr} {m : Str → Option Value}, s.heap.Ns b m → s'.heap.Ns b m := fun h => by
    obtain ⟨o, es, ep, ho, r⟩ := h
    exact ⟨o, es, ep, e.keep _ _ ho, r⟩
  have cl : ∀ {b : Addr} {m : Option Value}, s.heap.IsCell b m → s'.heap.IsCell b m := fun h => by
    obtain ⟨o, ho, r⟩ := h
    exact ⟨o, e.keep _ _ ho, r⟩
  refine ⟨fr.kind, fr.glob, fr.blt, fr.names, ⟨List.mem_cons_of_mem _ fr.loc.1, let ⟨m, h⟩ := fr.loc.2; ⟨m, ns h⟩⟩, fun x hx => ?_, fun x i v h1 h2 h3 h4 => ?_, fr.len⟩
  · obtain ⟨c, o, e1, hX, h⟩ := fr.cells x hx
    exact ⟨c, o, e1, List.mem_cons_of_mem _ hX, cl h⟩
  · obtain ⟨w, h5, h6⟩ := fr.vals x i v h1 h2 h3 h4
    refine ⟨w, ?_, VR.keep (fun _ _ e => e) (fun b ob q h1 h2 => ⟨⟨h1, fun h => (List.mem_cons.mp h).elim (fun h => by subst h; rw [hn] at q; cases q) h2⟩, ob, e.keep b ob q, .refl ob⟩) v w h6⟩
    rcases h5 with ⟨k, m, h7, h8⟩ | ⟨k, c, h7, h8⟩
    · exact .inl ⟨k, m, ns h7, h8⟩
    · exact .inr ⟨k, c, h7, cl h8⟩
theorem Cx.ext {fr : Option Addr} (c : Cx S A q d f s.heap fr) (e : Ext s s') : Cx S A q d f s'.heap fr := by
  have := c.keep (g := []) (Y := []) (e.kp f []) (.nil s)
  rwa [List.append_nil] at this
theorem St.hide {o : Obj} (st : St S q d Γ sc env ρ f X σ s A) (e : Ext s s') (hn : s.heap.get? a = none) (hl : s'.heap.get? a = some o) : St S q d Γ sc env ρ f (a :: X) σ s' A :=
  ⟨st.cx.ext e, st.fr.hideNew e hn, st.lk.hideNew e hn hl⟩
inductive QC {α β : Type} (S : Stat) (X Y : List Addr) (f : List Loc) (P : α → β → List Loc → Shared → Prop) (s : Shared) (b : β) (σ' : Sto) (a : α) (s' : Shared) : Prop
  | mk (g : List Loc) (hg : Fresh g s) (k : Kp f Y s s') (L : Lk S X (f ++ g) σ' s'.heap) (p : P a b (f ++ g) s')
inductive Calm {α β γ : Type} (S : Stat) (A : Around) (X Y : List Addr) (f : List Loc) (P : α → β → List Loc → Shared → Prop) (t : Sem α) (r : R β) (rk : β → Sto → R γ) (s : Shared) : Prop
  | mk (b : β) (σ' : Sto) (e : r = .ok b σ') (ek : r.calm.bind rk = rk b σ') (hne : rk b σ' ≠ .stuck) (w : ∀ E, wpAny (model S.prog S.w) A t (QC S X Y f P s b σ') E s)
theorem Sim.calm {α β γ : Type} {P : α → β → List Loc → Shared → Prop} {t : Sem α} {r : R β} {rk : β → Sto → R γ} (h : Sim S A X Y f P t r s) (hne : r.calm.bind rk ≠ .stuck) :
    Calm S A X Y f P t r rk s := by
  cases r with
  | ok b σ' =>
    refine ⟨b, σ', rfl, rfl, hne, fun E => wpAny_mono (h (by simp)) (fun a s' q => ?_) fun e s' q => ?_⟩
    · obtain ⟨b', σ'', g, e, hg, k, L, p⟩ := q
      cases e
      exact ⟨g, hg, k, L, p⟩
    · obtain ⟨_, _, _, _, _, e, _⟩ := q; cases e
  | exc _ _ => exact absurd rfl hne
  | stuck => exact absurd rfl hne
end
end Mine
end

/-! # CompS3 -/
section
set_option autoImplicit false
namespace Mine
open PySem PyProof.Rows
section
variable {S : Stat} {C : Ctx} {T : Nat → Option Fn} {F : Calls} {q : Bool} {d : Nat} {Γ : List Str} {sc : Scope}
variable {X X' Y Z : List Addr} {f g : List Loc} {σ : Sto} {s s' : Shared} {A : Around} {E : Value → Shared → Prop} {I a : Addr} {its : Items} {i : Nat} {env : Env} {ρ : List V}
theorem FR.later (fr : FR S X f s.heap env Γ sc ρ) (L : Lk S X f σ s.heap) (k : Kp f [] s s') (hg : Fresh g s) (hX' : ∀ a ∈ X', a ∈ X ∨ s.heap.get? a = none) (hXX : ∀ a ∈ X, a ∈ X') : FR S X' (f ++ g) s'.heap env Γ sc ρ := by
  have fr' : FR S X' f s.heap env Γ sc ρ := ⟨fr.kind, fr.glob, fr.blt, fr.names, ⟨hXX _ fr.loc.1, fr.loc.2⟩, fun x hx => (by obtain ⟨c, o, e, hX, h⟩ := fr.cells x hx; exact ⟨c, o, e, hXX c hX, h⟩),
    fun x i v h1 h2 h3 h4 => (by obtain ⟨w, h5, h6⟩ := fr.vals x i v h1 h2 h3 h4; exact ⟨w, h5, h6.more hX'⟩), fr.len⟩
  exact fr'.keepY (fun a ha => (hX' a ha).elim (fun h => (L.hid a h).2.1) fun h => (L.new h).1) k hg (fun a h => nomatch h) (fun h => nomatch h) fun _ _ _ _ h => nomatch h
theorem iter_self {Q : Value → Shared → Prop} (x : ItAt S X f s.heap I its i) (h : Q (.ref I) s) : wpAny (model S.prog S.w) A (pyIter (.ref I)) Q E s := by
  cases its with
  | now xs =>
    rcases x with ⟨ax, items, n, h1, h2, h3, h4⟩ | ⟨ax, items, n, h1, h2, h3, h4⟩ | ⟨lo, hi, rfl, h2⟩ | ⟨y, t, rfl, h2, h3⟩
    · exact wpAny_pyIter_listiter h1 h
    · exact wpAny_pyIter_tupleiter h1 h
    · exact wpAny_pyIter_rangeiter h2 h
    · exact wpAny_pyIter_striter_ascii h3 h
  | live n => obtain ⟨ax, h1, h2⟩ := x; exact wpAny_pyIter_listiter h2 h
  | keys _ _ => exact x.elim
theorem Kp.mv {s₁ : Shared} (k : Kp f Y s s₁) (m : Mv a s₁ s') (hn : s.heap.get? a = none) : Kp f Y s s' :=
  k.ends (Z := [a]) m.rest (fun b o hb e => m.keep b o (fun q => hb (q ▸ List.mem_singleton.mpr rfl)) e) fun b hb => List.mem_singleton.mp hb ▸ hn
theorem ExcR.drop1 {h h' h₀ : Heap} {ea : Addr} {k : Cls} {N : Addr} {m : Str → Option Value} (x : ExcR S (N :: X) f σ h h₀ ea k) (ns : h.Ns N m) (hNX : N ∉ X) (hs : Heap.SameBut N h h') : ExcR S X f σ h' h₀ ea k := by
  obtain ⟨e1, ec, hs', oe, vs, L, e4, e5, e6, e8⟩ := x
  obtain ⟨oN, es, ep, eN, dN, _⟩ := ns
  have rcd : ∀ {a : Addr} {o : Obj} {ts : Array Value}, h.get? a = some o → o.data = .fields ts → a ≠ N := fun h1 h2 q => by
    rw [q, eN] at h1; cases h1; rw [dN] at h2; cases h2
  have hN : N ∉ hs' := by
    rcases e8 with ⟨rfl, _⟩ | ⟨T, oT, ts, rfl, _, _, _, t3, t4, _⟩
    · exact fun q => rcd e4 e6 (List.mem_singleton.mp q).symm
    · exact fun q => (List.mem_cons.mp q).elim (fun q => rcd e4 e6 q.symm) fun q => rcd t3 t4 (List.mem_singleton.mp q).symm
  have kk : ∀ b o, b ∉ [N] → h.get? b = some o → h'.get? b = some o := fun b o hb e => (hs.2 b fun q => hb (q ▸ List.mem_singleton.mpr rfl)).trans e
  have L' : Lk S (hs' ++ X) f σ h' := L.drop (Z := [N]) (fun a ha => (List.mem_append.mp ha).elim (fun q => ⟨List.mem_append_left _ q, fun z => hN (List.mem_singleton.mp z ▸ q)⟩) fun q => ⟨List.mem_append_right _ (List.mem_cons_of_mem _ q), fun z => hNX (List.mem_singleton.mp z ▸ q)⟩)
    (fun a ha => List.mem_append_right _ (List.mem_singleton.mp ha ▸ List.mem_cons_self)) kk
  refine ⟨e1, ec, hs', oe, vs, L', kk _ _ (fun q => rcd e4 e6 (List.mem_singleton.mp q)) e4, e5, e6, e8.imp id ?_⟩
  rintro ⟨T, oT, ts, t0, t1, t2, t3, t4, t5, t6⟩
  exact ⟨T, oT, ts, t0, t1, t2, t3, kk _ _ (fun q => rcd t4 t5 (List.mem_singleton.mp q)) t4, t5, t6⟩
theorem zHR {M : Model} {s₀ : Shared} {f₀ : List Loc} {ea : Addr} {k : Cls} {N : Addr} {m : Str → Option Value} {oe : Obj} {vs : Array Value} {T : Addr} {what : String} (hN : s₀.heap.get? N = none) (hNX : N ∉ X) (hX : ∀ a ∈ X, ∃ o, s₀.heap.get? a = some o) (kp : Kp f₀ Y s₀ s) (x : ExcR S (N :: X) f σ s.heap s₀.heap ea k) (ns : s.heap.Ns N m)
    (p1 : s.heap.get? ea = some oe) (p2 : oe.data = .fields vs) (p3 : vs[1]? = some (.ref T)) (hE : ∀ s', Kp f₀ Y s₀ s' → Lk S X f σ s'.heap → ExcR S X f σ s'.heap s₀.heap ea k → E (.ref ea) s') :
    ∃ m, s.heap.Ns N m ∧ ∀ h', Heap.SameBut N s.heap h' → ∀ cenv : Env, cenv.locals = N → wpAny M A (PySem.passOn what (.ref ea) cenv : Sem Value) (fun _ _ => False) E { s with heap := h' } := by
  refine ⟨m, ns, fun h' hs cenv _ => ?_⟩
  have x' := x.drop1 ns hNX hs
  have hne : ea ≠ N := fun q => by
    obtain ⟨oN, es, ep, eN, dN, _⟩ := ns
    rw [q, eN] at p1; cases p1; rw [dN] at p2; cases p2
  have kp' : Kp f₀ Y s₀ { s with heap := h' } := kp.ends (Z := [N]) rfl (fun b o hb e => (hs.2 b fun q => hb (q ▸ List.mem_singleton.mpr rfl)).trans e) fun b hb => List.mem_singleton.mp hb ▸ hN
  unfold PySem.passOn
  refine wpAny_bind (wpAny_field (s := { s with heap := h' }) ((hs.2 ea hne).trans p1) p2 p3 ?_)
  rw [if_neg (show ¬ ((Value.ref T == Value.none) = true) from by simp)]
  exact wpAny_bind (zAn (s := { s with heap := h' }) x' hX fun h₂ hs₂ hf2 N2 L2 x2 => wpAny_throw (hE _ (N2.kp kp' hf2) L2 x2))
noncomputable def compStep (F : Calls) (q : Bool) (elt : CE) (cond : Option CE) (ρ : List V) (x : V) (acc : List V) (σ : Sto) : R (List V) :=
  (evC F q cond (ρ ++ [x]) σ).calm.bind fun t σ => if t then (evE F q elt (ρ ++ [x]) σ).calmE.bind fun y σ => (if acc.length < LIM then .ok (acc ++ [y]) σ else .stuck) else .ok acc σ
structure Turn (S : Stat) (s : Shared) (X : List Addr) (f : List Loc) (N D I : Addr) (its : Items) (i : Nat) (acc : List V) (σ' : Sto) (g : List Loc) (m : Str → Option Value) (ys : Array Value) (n : Nat) (s' : Shared) : Prop where
  fresh : Fresh g s
  kp : Kp f [] s s'
  lk : Lk S (N :: D :: I :: X) (f ++ g) σ' s'.heap
  it : ItAt S (N :: D :: I :: X) (f ++ g) s'.heap I its i
  ns : s'.heap.Ns N m
  il : IsL s'.heap D ys n
  vs : VRs S (N :: D :: I :: X) (f ++ g) s'.heap acc ys.toList
  len : acc.length ≤ LIM
theorem all3 {N D I : Addr} {X : List Addr} {P : Addr → Prop} (hN : P N) (hD : P D) (hI : P I) (h : ∀ a ∈ X, P a) : ∀ a ∈ N :: D :: I :: X, P a
  | _, .head _ => hN
  | _, .tail _ (.head _) => hD
  | _, .tail _ (.tail _ (.head _)) => hI
  | a, .tail _ (.tail _ (.tail _ m)) => h a m
theorem all2 {N D : Addr} {X : List Addr} {P : Addr → Prop} (hN : P N) (hD : P D) (h : ∀ a ∈ X, P a) : ∀ a ∈ N :: D :: X, P a
  | _, .head _ => hN
  | _, .tail _ (.head _) => hD
  | a, .tail _ (.tail _ m) => h a m
inductive CLoop (S : Stat) (s : Shared) (X : List Addr) (f : List Loc) (N D I : Addr) (its : Items) (g : V → List V → Sto → R (List V)) (total : R (List V)) (k : Nat) (s' : Shared) : Prop
  | mk (i : Nat) (acc : List V) (σ' : Sto) (l : List Loc) (m : Str → Option Value) (ys : Array Value) (n : Nat) (hf : foldIt its g k i acc σ' = total) (t : Turn S s X f N D I its i acc σ' l m ys n s') : CLoop S s X f N D I its g total k s'
theorem comp_loop {scope : Scope} {x : Str} {px pos : Pos} {elt iter : Expr} {ifs : List Expr} {ce : CE} {cond : Option CE} {cl : List (Str × Addr)} {N D : Addr} {R' : Result → Shared → Prop} {s₄ : Shared}
    (st : St S q d Γ sc env ρ f X σ s A) (hh : A.handled = none) (ok : CompOk Γ sc scope x) (hcl : ∀ y, (y, NameKind.free) ∈ scope.names → ∃ c, cl.lookup y = some c ∧ env.cells.lookup y = some c)
    (hcond : (ifs = [] ∧ cond = none) ∨ ∃ e c, ifs = [e] ∧ cond = some c ∧ TOk S F q d (Γ ++ [x]) scope e c) (helt : EOk S F q d (Γ ++ [x]) scope elt ce)
    (hN : s.heap.get? N = none) (hD : s.heap.get? D = none) (hI : s.heap.get? I = none) (hND : N ≠ D) (hNI : N ≠ I) (hDI : D ≠ I)
    {total : R (List V)} (hne : total ≠ .stuck) {fuel : Nat} {acc₀ : List V} {σ₀ : Sto} (h0 : foldIt its (compStep F q ce cond ρ) fuel 0 acc₀ σ₀ = total) {g₀ : List Loc} {m₀ : Str → Option Value} {ys₀ : Array Value} {n₀ : Nat} (t0 : Turn S s X f N D I its 0 acc₀ σ₀ g₀ m₀ ys₀ n₀ s₄)
    (hR : ∀ acc σ' g m ys n s', total = .ok acc σ' → Fresh g s → Kp f [] s s' → Lk S (N :: D :: X) (f ++ g) σ' s'.heap → s'.heap.Ns N m → IsL s'.heap D ys n → VRs S (N :: D :: X) (f ++ g) s'.heap acc ys.toList → acc.length ≤ LIM → R' (.ok .next) s')
    (hRX : ∀ c σ' g ea oe vs T m s', total = .exc c σ' → Fresh g s → Kp f [] s s' → ExcR S (N :: X) (f ++ g) σ' s'.heap s.heap ea c → s'.heap.Ns N m → s'.heap.get? ea = some oe → oe.data = .fields vs → vs[1]? = some (.ref T) → R' (.error (.ref ea)) s')
    : codeAny (model S.prog S.w) A (.compLoop (.ListComp elt [⟨.Name x px, iter, ifs, 0⟩] scope pos) 0 (.ref I) (.ref D) (compEnvC scope cl N env)) R' s₄ := by
  refine codeAny_compLoop_tests (CLoop S s X f N D I its (compStep F q ce cond ρ) total) ?_ fuel (.mk 0 acc₀ σ₀ g₀ m₀ ys₀ n₀ h0 t0)
  rintro k s' ⟨i, acc, σ', g, m, ys, n, hf, t⟩
  cases k with
  | zero => rw [zGd] at hf; exact absurd hf.symm hne
  | succ k =>
  rw [zBi] at hf
  have hIX : I ∈ N :: D :: I :: X := .tail _ (.tail _ (.head _))
  have hNX : N ∈ N :: D :: I :: X := .head _
  have hDX : D ∈ N :: D :: I :: X := .tail _ (.head _)
  cases hnx : nextIt σ' its i with
  | none => rw [hnx] at hf; exact absurd hf.symm hne
  | some o =>
  rw [hnx] at hf
  cases o with
  | none =>
    refine wpAny_mono (zHB hh t.lk t.it hnx) (fun r s₁ h₁ => ?_) fun _ _ x => x
    obtain ⟨rfl, hr, hk⟩ := h₁
    have hk' : ∀ b o, b ∉ [I] → s'.heap.get? b = some o → s₁.heap.get? b = some o := fun b o hb e => hk b o (fun q => hb (q ▸ List.mem_singleton.mpr rfl)) e
    obtain ⟨on, es, ep, e1, e2⟩ := t.ns
    have hXd : ∀ a ∈ N :: D :: X, a ∈ N :: D :: I :: X := all2 hNX hDX fun a ha => .tail _ (.tail _ (.tail _ ha))
    have hIn : ∀ a ∈ N :: D :: X, a ∉ [I] := all2 (fun h => hNI (List.mem_singleton.mp h)) (fun h => hDI (List.mem_singleton.mp h)) fun a ha h => (List.mem_singleton.mp h ▸ st.lk.hid a ha).2.2.elim fun o e => nomatch hI.symm.trans e
    have hf : R.ok acc σ' = total := hf
    refine hR acc σ' g m ys n s₁ hf.symm t.fresh (t.kp.ends (Z := [I]) hr hk' fun b hb => List.mem_singleton.mp hb ▸ hI) (t.lk.drop (Z := [I]) (fun a ha => ⟨hXd a ha, hIn a ha⟩) (fun a ha => List.mem_singleton.mp ha ▸ hIX) hk') ⟨on, es, ep, hk N on hNI e1, e2⟩ (hk D _ hDI t.il) (VRs.drop (Z := [I]) hXd (fun a ha => List.mem_singleton.mp ha ▸ hIX) hk' t.vs) t.len
  | some x' =>
  have hf : (compStep F q ce cond ρ x' acc σ').bind (fun b σ => foldIt its (compStep F q ce cond ρ) k (i + 1) b σ) = total := hf
  refine wpAny_mono (zFi hIX t.lk t.it hnx) (fun r s₁ h₁ => ?_) fun _ _ x => x
  obtain ⟨v, rfl, m1, it1, rv⟩ := h₁
  obtain ⟨on, es, ep, e1, e2⟩ := t.ns
  have ns1 : s₁.heap.Ns N m := ⟨on, es, ep, m1.keep N on hNI e1, e2⟩
  have hxk : (compEnvC scope cl N env).kindOf x = some .local := by
    rcases zBc (env := env) (scope := scope) x with e | ⟨e, _⟩
    · exact e.trans ok.self
    · rw [ok.self] at e; cases e
  refine wpAny_assign_Name (wpAny_storeName_local hxk ns1 (fun h₂ hn₂ hs₂ => ?_) (by simp [compEnvC, relabel, ok.kind]))
  have m2 : Mv N s₁ { s₁ with heap := h₂, toks := s₁.toks + 1 } := by
    obtain ⟨o2, es2, ep2, e3, e4, _⟩ := id hn₂
    exact ⟨rfl, fun b o hb e => (hs₂.2 b hb).trans e, ⟨o2, e3⟩, fun _ _ _ _ _ => ⟨o2, es2, ep2, e3, e4⟩⟩
  generalize hs₂' : ({ s₁ with heap := h₂, toks := s₁.toks + 1 } : Shared) = s₂ at m2 ⊢
  have hh₂ : s₂.heap = h₂ := by rw [← hs₂']
  rw [← hh₂] at hn₂
  have lk2 := m2.lk hNX (m1.lk hIX t.lk)
  have it2 := it1.mv m2 hNX (Ne.symm hNI)
  have kp2 : Kp f [] s s₂ := (t.kp.mv m1 hI).mv m2 hN
  have hX' : ∀ a ∈ N :: D :: I :: X, a ∈ X ∨ s.heap.get? a = none := all3 (.inr hN) (.inr hD) (.inr hI) fun a ha => .inl ha
  have fr2 := (st.fr.later st.lk kp2 t.fresh hX' fun a ha => .tail _ (.tail _ (.tail _ ha))).comp ok hcl hNX hn₂ (by simp) (m2.vr hNX rv)
  have cx2 : Cx S A q d (f ++ g) s₂.heap env.frame := st.cx.keep kp2 t.fresh
  have st2 : St S q d (Γ ++ [x]) scope (compEnvC scope cl N env) (ρ ++ [x']) (f ++ g) (N :: D :: I :: X) σ' s₂ A := ⟨cx2, fr2, lk2⟩
  have il2 : IsL s₂.heap D ys n := m2.keep D _ (Ne.symm hND) (m1.keep D _ hDI t.il)
  have vs2 := m2.vrs hNX (m1.vrs hIX t.vs)
  have hns : compStep F q ce cond ρ x' acc σ' ≠ .stuck := fun e => hne (by rw [← hf, e]; rfl)
  have tests : Sim S A (N :: D :: I :: X) [] (f ++ g) (fun b t _ _ => b = t) (forIn ifs true fun c r => if r = true then do let ok ← isTrue c (compEnvC scope cl N env) (eval c (compEnvC scope cl N env)); pure (ForInStep.yield ok) else pure (ForInStep.yield r)) (evC F q cond (ρ ++ [x']) σ') s₂ := by
    rcases hcond with ⟨rfl, rfl⟩ | ⟨e, c, rfl, rfl, ht⟩
    · intro _
      rw [x_cnone]
      exact wpAny_tests_nil (QS.bool lk2 (.refl s₂))
    · intro hn
      rw [zDr] at hn ⊢
      exact wpAny_tests_one (ht _ _ _ _ _ _ _ st2 hn)
  unfold compStep at hns hf
  obtain ⟨b, σ₃, hb, hbk, hns2, wt⟩ := Sim.calm tests hns
  rw [hbk] at hf
  refine wpAny_mono (wt _) (fun ok' s₃ h₃ => ?_) fun _ _ x => x
  obtain ⟨g3, hg3, k3, lk3, hbe⟩ := h₃
  have hbe : ok' = b := hbe
  subst hbe
  have hXf : ∀ a ∈ N :: D :: I :: X, a ∉ addrs (f ++ g) := fun a ha => (lk2.hid a ha).2.1
  have it3 := it2.keepK k3 hg3 hIX hXf
  have kp3 : Kp f [] s s₃ := kp2.trans t.fresh k3
  have fg3 : Fresh (g ++ g3) s := t.fresh.trans kp2.live hg3
  have keepO : ∀ {s s' : Shared} {f : List Loc} {a : Addr} {o : Obj}, Kp f [] s s' → a ∉ addrs f → (∀ es n, o.data ≠ .dict es n) → s.heap.get? a = some o → s'.heap.get? a = some o := fun k h1 h2 e => by
    obtain ⟨o', e', q⟩ := k.kept _ _ e h1 (fun h => nomatch h)
    rw [e', q.exact h2]
  have il3 : IsL s₃.heap D ys n := keepO k3 (hXf D hDX) (fun _ _ h => by cases h) il2
  have ns3 := kp_ns k3 (hXf N hNX) (fun h => nomatch h) hn₂
  have vs3 := VRs.keepK k3 hg3 (fun _ h => nomatch h) vs2
  rw [List.append_assoc] at lk3 it3 vs3
  cases ok' with
  | false => exact ⟨k, Nat.lt_succ_self k, .mk (i + 1) acc σ₃ (g ++ g3) _ ys n hf ⟨fg3, kp3, lk3, it3, ns3, il3, vs3, t.len⟩⟩
  | true =>
    have hns2 : ((evE F q ce (ρ ++ [x']) σ₃).calmE.bind fun y σ => (if acc.length < LIM then R.ok (acc ++ [y]) σ else .stuck)) ≠ .stuck := hns2
    have hf : (((evE F q ce (ρ ++ [x']) σ₃).calmE.bind fun y σ => (if acc.length < LIM then R.ok (acc ++ [y]) σ else .stuck)).bind fun b σ => foldIt its (compStep F q ce cond ρ) k (i + 1) b σ) = total := hf
    have st3 : St S q d (Γ ++ [x]) scope (compEnvC scope cl N env) (ρ ++ [x']) ((f ++ g) ++ g3) (N :: D :: I :: X) σ₃ s₃ A := st2.keep hg3 k3 (by rw [List.append_assoc]; exact lk3)
    rw [List.append_assoc] at st3
    show wpAny _ _ _ _ _ _
    have hs3 : evE F q ce (ρ ++ [x']) σ₃ ≠ .stuck := fun e => hns2 (by rw [e]; rfl)
    refine wpAny_mono (helt _ _ _ _ _ _ _ st3 hs3) (fun yv s₄' h₄ => ?_) fun e s₄' h₄ => ?_
    rotate_left
    · obtain ⟨c, σ₄, g4, ea, rfl, ey, hg4, k4, lk4, x4⟩ := h₄
      rw [ey] at hf
      have hf : R.exc c σ₄ = total := hf
      have kp4 : Kp f [] s s₄' := kp3.trans fg3 k4
      have fg4 : Fresh ((g ++ g3) ++ g4) s := fg3.trans kp3.live hg4
      have ns4 := kp_ns k4 ((lk3.hid N hNX).2.1) (fun h => nomatch h) ns3
      obtain ⟨en, l, h1, h2, h3⟩ := (st3.cx.keep k4 hg4).frs
      obtain ⟨-, L1, -, -, -, h4, -⟩ := h3 en List.mem_cons_self
      rw [List.append_assoc] at h3 x4
      have hXX : ∀ a ∈ N :: X, a ∈ N :: D :: I :: X := fun a ha => (List.mem_cons.mp ha).elim (fun q => q ▸ hNX) fun q => .tail _ (.tail _ (.tail _ q))
      show wpAny _ A (noteFrame (.ref ea) (compEnvC scope cl N env)) _ _ s₄'
      rw [zBB (env' := en) h2]
      refine zGT h1 h3 h4 (x4.less hXX) (fun a ha => (lk3.hid a (hXX a ha)).2.2) (fun _ h => zAN k4.live h) fun h' hs oe vs T hfree N1 x1 p1 p2 p3 => ?_
      obtain ⟨oN, esN, epN, eN, dN, rN⟩ := ns4
      obtain ⟨oN', eN', qN⟩ := N1.same N oN (fun q => by obtain ⟨o, z⟩ := (lk3.hid N hNX).2.2; rw [hfree N q] at z; cases z) eN
      exact hRX c σ₄ ((g ++ g3) ++ g4) ea oe vs T _ _ hf.symm fg4 (N1.kp kp4 fun a ha => zAN kp3.live (hfree a ha)) (x1.back fun a h => zAN kp3.live h) ⟨oN', esN, epN, eN', qN.data.trans dN, rN⟩ p1 p2 p3
    obtain ⟨y, σ₄, g4, ey, hg4, k4, lk4, ry⟩ := h₄
    rw [ey] at hf hns2
    have hf : ((if acc.length < LIM then R.ok (acc ++ [y]) σ₄ else .stuck : R (List V)).bind fun b σ => foldIt its (compStep F q ce cond ρ) k (i + 1) b σ) = total := hf
    have hns3 : (if acc.length < LIM then R.ok (acc ++ [y]) σ₄ else .stuck : R (List V)) ≠ .stuck := hns2
    by_cases hlen : acc.length < LIM
    · rw [if_pos hlen] at hf
      have ry : VR S (N :: D :: I :: X) ((f ++ (g ++ g3)) ++ g4) s₄'.heap y yv := ry
      have hXf3 : ∀ a ∈ N :: D :: I :: X, a ∉ addrs (f ++ (g ++ g3)) := fun a ha => (lk3.hid a ha).2.1
      have it4 := it3.keepK k4 hg4 hIX hXf3
      have kp4 : Kp f [] s s₄' := kp3.trans fg3 k4
      have fg4 : Fresh ((g ++ g3) ++ g4) s := fg3.trans kp3.live hg4
      have il4 : IsL s₄'.heap D ys n := keepO k4 (hXf3 D hDX) (fun _ _ h => by cases h) il3
      have ns4 := kp_ns k4 (hXf3 N hNX) (fun h => nomatch h) ns3
      have vs4 := VRs.keepK k4 hg4 (fun _ h => nomatch h) vs3
      rw [List.append_assoc] at lk4 it4 vs4 ry
      have hsz : ys.size ≤ sizeLine := by rw [zAK vs4]; exact Nat.le_trans t.len zAV
      refine append_raw il4 ?_ hsz
      obtain ⟨n', il5⟩ := IsL.appended (x := yv) il4
      have m5 : Mv D s₄' { s₄' with heap := s₄'.heap.update D (Obj.mapSeq (·.push yv)) } :=
        ⟨rfl, fun b o hb e => (Heap.get?_update_other _ _ (Ne.symm hb)).trans e, ⟨_, il5⟩, fun o es n e dd => by rw [il4] at e; cases e; cases dd⟩
      obtain ⟨on4, es4, ep4, e5, e6⟩ := ns4
      refine ⟨k, Nat.lt_succ_self k, .mk (i + 1) (acc ++ [y]) σ₄ ((g ++ g3) ++ g4) _ (ys.push yv) n' hf ⟨fg4, kp4.mv m5 hD, m5.lk hDX lk4, it4.mv m5 hDX (Ne.symm hDI), ⟨on4, es4, ep4, m5.keep N on4 hND e5, e6⟩, il5, ?_, ?_⟩⟩
      · rw [Array.toList_push]
        exact zBI (m5.vrs hDX vs4) (by rw [VRs, VRs]; exact ⟨m5.vr hDX ry, trivial⟩)
      · rw [List.length_append]; exact hlen
    · rw [if_neg hlen] at hns3; exact absurd rfl hns3
end
end Mine
end

/-! # CompS4 -/
section
set_option autoImplicit false
namespace Mine
open PySem PyProof.Rows
section
variable {S : Stat} {C : Ctx} {T : Nat → Option Fn} {F : Calls} {q : Bool} {d : Nat} {Γ : List Str} {sc : Scope}
variable {X X' Y Z : List Addr} {f g : List Loc} {σ : Sto} {s s' : Shared} {A : Around} {E : Value → Shared → Prop} {I a : Addr} {its : Items} {i : Nat} {env : Env} {ρ : List V}
theorem zDn {scope : Scope} {x : Str} {px pos : Pos} {elt iter : Expr} {ifs : List Expr} {ce : CE} {cond : Option CE} {cl : List (Str × Addr)} {RR : Value → Addr → Result → Shared → Prop} {s₂ : Shared} {σ₁ : Sto}
    (st : St S q d Γ sc env ρ f X σ s A) (hh : A.handled = none) (ok : CompOk Γ sc scope x) (hcl : ∀ y, (y, NameKind.free) ∈ scope.names → ∃ c, cl.lookup y = some c ∧ env.cells.lookup y = some c)
    (hcond : (ifs = [] ∧ cond = none) ∨ ∃ e c, ifs = [e] ∧ cond = some c ∧ TOk S F q d (Γ ++ [x]) scope e c) (helt : EOk S F q d (Γ ++ [x]) scope elt ce)
    (hI : s.heap.get? I = none) (hg : Fresh g s) (k : Kp f [] s s₂) (L : Lk S (I :: X) (f ++ g) σ₁ s₂.heap) (x0 : ItAt S (I :: X) (f ++ g) s₂.heap I its 0)
    (hne : foldItems its (compStep F q ce cond ρ) [] σ₁ ≠ .stuck)
    (hR : ∀ N D acc σ' g m ys n s', s.heap.get? N = none → s.heap.get? D = none → N ≠ D → foldItems its (compStep F q ce cond ρ) [] σ₁ = .ok acc σ' → Fresh g s → Kp f [] s s' → Lk S (N :: D :: X) (f ++ g) σ' s'.heap → s'.heap.Ns N m → IsL s'.heap D ys n → VRs S (N :: D :: X) (f ++ g) s'.heap acc ys.toList → acc.length ≤ LIM → RR (.ref D) N (.ok .next) s')
    (hRX : ∀ acc N c σ' g ea oe vs T m s', s.heap.get? N = none → foldItems its (compStep F q ce cond ρ) [] σ₁ = .exc c σ' → Fresh g s → Kp f [] s s' → ExcR S (N :: X) (f ++ g) σ' s'.heap s.heap ea c → s'.heap.Ns N m → s'.heap.get? ea = some oe → oe.data = .fields vs → vs[1]? = some (.ref T) → RR acc N (.error (.ref ea)) s')
    : wpAny (model S.prog S.w) A (newList []) (fun acc s₃ => wpAny (model S.prog S.w) A (newFunctionEnv scope env.globals cl [] env.qual none .none (some env)) (fun cenv s₄ =>
      codeAny (model S.prog S.w) A (.compStart (.ListComp elt [⟨.Name x px, iter, ifs, 0⟩] scope pos) 0 (.ref I) acc { cenv with scope := relabel scope env }) (RR acc cenv.locals) s₄) E s₃) E s₂ := by
  refine wpAny_newObj_type (wpAny_newFunctionEnv ok.cell (by intro y hy; simp at hy) (fun h₁ hns₁ hsb₁ => ?_) ok.kind)
  dsimp only at hns₁ hsb₁ ⊢
  generalize hH2 : s₂.heap.push { cls := .type "list", dict := none, data := .seq ([] : List Value).toArray } = H2 at hns₁ hsb₁ ⊢
  have hsz : H2.objs.size = s₂.heap.objs.size + 1 := by rw [← hH2, Heap.size_push]
  have hND : H2.objs.size ≠ s₂.heap.objs.size := by rw [hsz]; omega
  have ex1 : Ext s₂ { s₂ with heap := H2 } := ⟨rfl, fun b o e => hH2 ▸ Heap.get?_push_of_some _ e⟩
  have nD : s₂.heap.get? s₂.heap.objs.size = none := zAe _
  have lD : H2.get? s₂.heap.objs.size = some { cls := .type "list", dict := none, data := .seq ([] : List Value).toArray } := hH2 ▸ Heap.get?_push_size _ rfl
  have nN : H2.get? H2.objs.size = none := zAe _
  have ex2 : Ext { s₂ with heap := H2 } { s₂ with heap := h₁, toks := s₂.toks + ([] : List (Str × Value)).length } := ⟨rfl, fun b o e => (hsb₁.2 b (fun q => by subst q; rw [nN] at e; cases e)).trans (Heap.get?_push_of_some _ e)⟩
  obtain ⟨oN, esN, epN, eN, _⟩ := id hns₁
  have L1 : Lk S (s₂.heap.objs.size :: I :: X) (f ++ g) σ₁ H2 := L.hideNew ex1 nD lD
  have it1 := x0.hideNew (s' := { s₂ with heap := H2 }) ex1 nD
  have L2 : Lk S (H2.objs.size :: s₂.heap.objs.size :: I :: X) (f ++ g) σ₁ h₁ := Lk.hideNew (s := { s₂ with heap := H2 }) (s' := { s₂ with heap := h₁, toks := s₂.toks + ([] : List (Str × Value)).length }) L1 ex2 nN eN
  have it2 := ItAt.hideNew (s := { s₂ with heap := H2 }) (s' := { s₂ with heap := h₁, toks := s₂.toks + ([] : List (Str × Value)).length }) ex2 nN it1
  have k2 : Kp f [] s { s₂ with heap := h₁, toks := s₂.toks + ([] : List (Str × Value)).length } := k.trans hg ((ex1.trans ex2).kp _ _)
  have hD : s.heap.get? s₂.heap.objs.size = none := zAN k.live nD
  have hN : s.heap.get? H2.objs.size = none := zAN k.live (Heap.get?_none_of_le (by rw [hsz]; omega))
  have lI : ∃ o, s₂.heap.get? I = some o := (L.hid I (by simp)).2.2
  have hDI : s₂.heap.objs.size ≠ I := fun q => by obtain ⟨o, e⟩ := lI; rw [← q, nD] at e; cases e
  have hNI : H2.objs.size ≠ I := fun q => by obtain ⟨o, e⟩ := lI; rw [← q, Heap.get?_none_of_le (by rw [hsz]; omega)] at e; cases e
  have turn : Turn S s X f H2.objs.size s₂.heap.objs.size I its 0 [] σ₁ g (fun x => ([] : List (Str × Value)).reverse.lookup x) #[] 0 { s₂ with heap := h₁, toks := s₂.toks + ([] : List (Str × Value)).length } :=
    ⟨hg, k2, L2, it2, hns₁, ex2.keep _ _ lD, (by show VRs S _ _ h₁ [] []; rw [VRs]; trivial), by simp⟩
  have loop : codeAny (model S.prog S.w) A (.compLoop (.ListComp elt [⟨.Name x px, iter, ifs, 0⟩] scope pos) 0 (.ref I) (.ref s₂.heap.objs.size) (compEnvC scope cl H2.objs.size env)) (RR (.ref s₂.heap.objs.size) H2.objs.size) { s₂ with heap := h₁, toks := s₂.toks + ([] : List (Str × Value)).length } :=
    comp_loop st hh ok hcl hcond helt hN hD hI hND hNI hDI hne rfl turn (fun acc σ' g m ys n s' e1 e2 e3 e4 e5 e6 e7 e8 => hR _ _ acc σ' g m ys n s' hN hD hND e1 e2 e3 e4 e5 e6 e7 e8)
      (fun c σ' g ea oe vs T m s' e1 e2 e3 e4 e5 e6 e7 e8 => hRX _ _ c σ' g ea oe vs T m s' hN e1 e2 e3 e4 e5 e6 e7 e8)
  exact codeAny_compStart_list loop (iter_self it2 loop)
theorem FR.closure {scope : Scope} {x : Str} {h : Heap} (fr : FR S X f h env Γ sc ρ) (ok : CompOk Γ sc scope x) : ∃ cl, closureFor scope env = pure cl ∧ ∀ y, (y, NameKind.free) ∈ scope.names → ∃ c, cl.lookup y = some c ∧ env.cells.lookup y = some c :=
  closure_of fun n hn => by
    obtain ⟨c, o, e, _⟩ := fr.cells n (fr.cellKind (ok.free _ hn rfl))
    exact ⟨c, e⟩
theorem zCG {elt : CE} {k : SK} {cs : List CE} {cond : Option CE} (hq : q = false) : evE F q (.comp elt k cs cond) ρ σ = ((evL F q cs ρ σ).bind fun vs σ => R.lift σ (itemsBy σ k vs)).bind fun its σ => (foldItems its (compStep F q elt cond ρ) [] σ).bind fun acc σ => .ok (.lst acc) σ := by
  subst hq
  rw [x_comp, if_neg (by simp), R.bind_assoc]
  rfl
theorem ok_comp {scope : Scope} {x : Str} {px pos : Pos} {elt iter : Expr} {ifs : List Expr} {ce : CE} {cond : Option CE} {k : SK} {cs : List CE} (ok : CompOk Γ sc scope x) (hsrc : SrcOk S F q d Γ sc iter k cs)
    (hcond : (ifs = [] ∧ cond = none) ∨ ∃ e c, ifs = [e] ∧ cond = some c ∧ TOk S F q d (Γ ++ [x]) scope e c) (helt : EOk S F q d (Γ ++ [x]) scope elt ce) :
    NOk S F q d Γ sc (.ListComp elt [⟨.Name x px, iter, ifs, 0⟩] scope pos) (.comp ce k cs cond) := fun env ρ f X σ s A st hne => by
  have hq : q = false := by
    cases q with
    | false => rfl
    | true => rw [x_comp] at hne; exact absurd rfl hne
  rw [zCG hq] at hne ⊢
  obtain ⟨cl, hclos, hcl⟩ := st.fr.closure ok
  rw [eval_ListComp]
  refine wpAny_comprehension_free (g := ⟨.Name x px, iter, ifs, 0⟩) (gs := []) rfl (hsrc.1 env) hclos ok.kind (fun p hp e => (ok.loc p hp e).2) ?_
  have hr : ((evL F q cs ρ σ).bind fun vs σ => R.lift σ (itemsBy σ k vs)) ≠ .stuck := fun e => hne (by rw [e]; rfl)
  refine wpAny_mono (hsrc.2 env ρ f X σ s A st hr) (fun xv s₁ h₁ => wpAny_mono h₁ (fun it s₂ h₂ => ?_) fun e s' h => ?_) fun e s' h => ?_
  · obtain ⟨its, σ₁, g, I, e1, rfl, hI, hIX, hg, kk, L, x0⟩ := h₂
    rw [e1, R.bind_ok] at hne ⊢
    have hne2 : foldItems its (compStep F q ce cond ρ) [] σ₁ ≠ .stuck := fun e => hne (by rw [e]; rfl)
    refine zDn st (st.cx.hand hq) ok hcl hcond helt hI hg kk L x0 hne2 (fun N D acc σ' g' m ys n s' hN hD hND e2 hg' k' L' hns il vs hlen => ?_)
      (fun acc N c σ' g' ea oe vs T m s' hN e2 hg' k' x' ns p1 p2 p3 => zHR hN (st.lk.new hN).2 (fun a ha => (st.lk.hid a ha).2.2) k' x' ns p1 p2 p3 fun s'' k'' L'' x'' => ⟨c, σ', g', ea, rfl, by rw [e2]; rfl, hg', k'', L'', x''⟩)
    rw [e2]
    refine ⟨m, hns, fun h' hs => ?_⟩
    have hkk : ∀ b o, b ∉ [N] → s'.heap.get? b = some o → h'.get? b = some o := fun b o hb e => (hs.2 b (fun q => hb (q ▸ List.mem_singleton.mpr rfl))).trans e
    have hNX : N ∉ X := (st.lk.new hN).2
    have hDX : D ∉ X := (st.lk.new hD).2
    have LD : Lk S (D :: X) (f ++ g') σ' h' := L'.drop (Z := [N]) (fun a ha => ⟨List.mem_cons_of_mem _ ha, fun h => by
      have := List.mem_singleton.mp h
      subst this
      exact (List.mem_cons.mp ha).elim hND hNX⟩) (fun a ha => List.mem_singleton.mp ha ▸ List.mem_cons_self) hkk
    have vD : VRs S (D :: X) (f ++ g') h' acc ys.toList := VRs.drop (Z := [N]) (fun a ha => List.mem_cons_of_mem _ ha) (fun a ha => List.mem_singleton.mp ha ▸ List.mem_cons_self) hkk vs
    have iD : IsL h' D ys n := (hs.2 D (Ne.symm hND)).trans il
    refine ⟨.lst acc, σ', g', rfl, hg', k'.ends (Z := [N]) rfl hkk (fun b hb => List.mem_singleton.mp hb ▸ hN), LD.less fun a ha => List.mem_cons_of_mem _ ha, ?_, fun xs hxs => ?_⟩
    · rw [VR]
      exact ⟨D, ys, n, rfl, ⟨(LD.hid D List.mem_cons_self).2.1, hDX⟩, iD, vD.less fun a ha => List.mem_cons_of_mem _ ha, hlen⟩
    · cases hxs
      exact ⟨D, ys, n, rfl, hD, hDX, LD, iD, vD, hlen⟩
  · obtain ⟨c, σ', g, ea, e1, e2, hgE, kE, LE, xE⟩ := h
    exact ⟨c, σ', g, ea, e1, by rw [e2]; rfl, hgE, kE, LE, xE⟩
  · obtain ⟨c, σ', g, ea, e1, e2, hgE, kE, LE, xE⟩ := h
    exact ⟨c, σ', g, ea, e1, by rw [e2]; rfl, hgE, kE, LE, xE⟩
end
end Mine
end

/-! # Expr6 -/
section
set_option autoImplicit false
namespace Mine
open PySem PyProof.Rows
section
variable {S : Stat} {C : Ctx} {T : Nat → Option Fn} {F : Calls} {q : Bool} {d : Nat} {Γ : List Str} {sc : Scope}
variable {X X' Y Z : List Addr} {f g : List Loc} {σ : Sto} {s s' : Shared} {A : Around} {E : Value → Shared → Prop} {env : Env} {ρ : List V}
theorem few1 {e : Expr} {pos : Pos} (hs : isStar e = false) : ((backTo pos (starEach [e] env)).all (fun x => !x.1) && (backToKw pos (keywordEach [] env)).all (fun x => x.1.isSome)
      && decide ([e].length + ([] : List Keyword).length + (if ([] : List Keyword).isEmpty then 0 else 1) < 30)) = true := by
  rw [zAO hs]; rfl
theorem upd_list {n : Nat} {ax : Addr} {xs : List V} {vs : Array Value} {k : Nat} {fn : Array Value → Array Value} (L : Lk S X f σ s.heap) (hn : f[n]? = some (ax, none)) (il : IsL s.heap ax vs k) (rs : VRs S X f s.heap xs (fn vs).toList) (hl : xs.length ≤ LIM) :
    Lk S X f (σ.set n (.list xs)) (s.heap.update ax (Obj.mapSeq fn)) ∧ Kp f [] s { s with heap := s.heap.update ax (Obj.mapSeq fn) } := by
  have hs : ∀ b o, b ∉ Loc.addrs (ax, none) → s.heap.get? b = some o → (s.heap.update ax (Obj.mapSeq fn)).get? b = some o := fun b o hb e => (Heap.get?_update_other s.heap (Obj.mapSeq fn) (fun q : ax = b => hb (by rw [q]; exact List.mem_singleton.mpr rfl))).trans e
  have il' := IsL.update il fn
  have hax : ax ∈ addrs f := zAf hn (List.mem_singleton.mpr rfl)
  refine ⟨L.upd hn hs ⟨_, _, il', ?_, hl⟩, Kp.upd (t := s.toks) hn hs fun a ha => ⟨_, by have := List.mem_singleton.mp ha; subst this; exact il'⟩⟩
  exact VRs.keep (fun _ _ e => e) (fun b ob q h1 h2 => ⟨⟨h1, h2⟩, ob, hs b ob (fun z => h1 (List.mem_singleton.mp z ▸ hax)) q, .refl ob⟩) _ _ rs
inductive Tracked (S : Stat) (X : List Addr) (f : List Loc) (h : Heap) (xs : List V) (n : Nat) (v : Value) : Prop
  | mk (ax : Addr) (vs : Array Value) (k : Nat) (e : v = .ref ax) (hf : f[n]? = some (ax, none)) (i : IsL h ax vs k) (p : VRs S X f h xs vs.toList) (hl : xs.length ≤ LIM)
theorem zEq {n : Nat} {v : Value} {xs : List V} (L : Lk S X f σ s.heap) (r : VR S X f s.heap (.ref n) v) (ho : σ[n]? = some (.list xs)) : Tracked S X f s.heap xs n v := by
  rw [VR] at r
  obtain ⟨⟨ax, dd⟩, hl, rfl⟩ := r
  have := L.obj n _ _ hl ho
  cases dd with
  | none => obtain ⟨vs, k, il, rs, h⟩ := this; exact ⟨ax, vs, k, rfl, hl, il, rs, h⟩
  | some dd => exact this.elim
theorem ok_append {o x : Expr} {a b : CE} {apos pos : Pos} (hb : noSuper o = true) (hp : (apos.endLine == pos.line) = true) (hs : isStar x = false) (ho : EOk S F q d Γ sc o a) (hx : EOk S F q d Γ sc x b) :
    EOk S F q d Γ sc (.Call (.Attribute o ("append" : Str) apos) [x] [] pos) (.append a b) := fun env ρ f X σ s A st hne => by
  rw [zGm] at hne ⊢
  refine wpAny_Call_method (zCJ hb) (few1 hs) hp PySem.F.plainAttrs_list slot_list_append type_list_append ?_
  refine Sim.goQ (P' := PV S X) (ho env ρ f X σ s A st) hne (fun _ _ x => x) (fun _ _ x => x) fun va a' σ₁ g₁ s₁ hne hg k L ra hQ hE => ?_
  by_cases hil : isListV σ₁ a' = true
  · rw [if_pos hil] at hne hQ hE
    obtain ⟨xs₁, hxs₁⟩ := Option.isSome_iff_exists.mp hil
    obtain ⟨p, vs, n, rfl, il, rs, hlen⟩ := zAU L hxs₁ ra
    refine ⟨⟨_, il, rfl⟩, fun b hb => ⟨_, by cases hb; exact il, rfl⟩, ?_⟩
    rw [zAO hs]
    show wpAny _ _ (callWith pos (.builtin "list.append") [.ref p] [(false, eval x env)] []) _ _ _
    refine P.append_list ?_
    refine Sim.goQ (P' := PV S X) (hx env ρ _ X σ₁ s₁ A (st.keep hg k L)) hne hQ hE fun vb b' σ₂ g₂ s₂ hne hg₂ k₂ L₂ rb hQ hE => ?_
    have ra₂ := VR.keepK k₂ hg₂ (fun _ h => nomatch h) ra
    cases a' with
    | ref m =>
      simp only [doAppend] at hne hQ
      split at hne
      · rename_i xs hσ
        split at hne
        · rename_i hlt
          rw [hσ] at hQ
          simp only [if_pos hlt] at hQ
          obtain ⟨ax, vs', k', e, hf, il', rs', hlen'⟩ := zEq L₂ ra₂ hσ
          cases e
          refine ⟨vs', k', by rw [zAK rs']; exact Nat.le_trans hlen' zAV, il', hQ _ _ ?_⟩
          obtain ⟨L3, k3⟩ := upd_list (fn := fun xs => xs.push vb) (xs := xs ++ [b']) L₂ hf il' (by rw [Array.toList_push]; exact zBI rs' (by rw [VRs, VRs]; exact ⟨rb, trivial⟩)) (by rw [List.length_append]; exact hlt)
          exact ⟨.none, _, [], rfl, .nil _, k3, by rw [List.append_nil]; exact L3, (by show VR S X _ _ .none .none; rw [VR])⟩
        · exact absurd rfl hne
      · exact absurd rfl hne
    | _ => exact absurd rfl hne
  · rw [if_neg hil] at hne; exact absurd rfl hne
theorem zCU {o x : Expr} {a b : CE} {apos pos : Pos} {m : Str} {id : String} {p : P2} (hso : ∀ σ a, selfOk p σ a = (strOf? a).isSome) (slot : Slot "str" m id) (hty : typeOf (.builtin id) = pure (.type "method_descriptor"))
    (op : ∀ (X : List Addr) (f : List Loc) (σ : Sto) (s : Shared) (A : Around) (E : Value → Shared → Prop) (a b x : V) (va vb : Value), Lk S X f σ s.heap → ev2 p σ a b = some x → VR S X f s.heap a va → VR S X f s.heap b vb → wpAny (model S.prog S.w) A (call (.builtin id) [va, vb]) (PE S X f s x) E s)
    (hb : noSuper o = true) (hp : (apos.endLine == pos.line) = true) (hs : isStar x = false) (ho : EOk S F q d Γ sc o a) (hx : EOk S F q d Γ sc x b) :
    EOk S F q d Γ sc (.Call (.Attribute o m apos) [x] [] pos) (.sm p a b) := fun env ρ f X σ s A st hne => by
  rw [x_sm] at hne ⊢
  refine wpAny_Call_method (zCJ hb) (few1 hs) hp PySem.F.plainAttrs_str slot hty ?_
  refine Sim.goN (ho env ρ f X σ s A st) hne (fun _ _ x => x.qs) (fun _ _ x => x) fun va a' σ₁ g₁ s₁ hne hg k L ra hQ hE => ?_
  rw [hso] at hne hQ hE
  by_cases hil : (strOf? a').isSome = true
  · rw [if_pos hil] at hne hQ hE
    obtain ⟨y, hy⟩ := Option.isSome_iff_exists.mp hil
    cases a' <;> cases hy
    obtain ⟨⟨t, rfl⟩, _⟩ := zAR ra
    refine ⟨typeIs_str _ _ _, (fun _ e => nomatch e), zAT (zAM _ (by rw [List.any_cons, hs]; rfl)) (spliced1 hs ?_)⟩
    refine Sim.goN (hx env ρ _ X σ₁ s₁ A (st.keep hg k L)) hne hQ hE fun vb b' σ₂ g₂ s₂ hne hg₂ k₂ L₂ rb hQ hE => ?_
    obtain ⟨x, hx⟩ := zAg hne
    rw [hx] at hQ
    exact ⟨zAP (by simp), wpAny_mono (op X _ σ₂ s₂ A _ _ b' x _ vb L₂ hx (VR.keepK k₂ hg₂ (fun _ h => nomatch h) ra) rb) (fun v s' p => hQ v s' (p.here L₂)) fun _ _ x => x⟩
  · rw [if_neg hil] at hne; exact absurd rfl hne
theorem isBool_vs {xs : List V} (k : Bool) : ∀ {vs : List Value}, VRs S X f s.heap xs vs → (xs.all fun x => isBool true x || isBool false x) = true → (∀ y ∈ vs, ∃ b, y = .bool b) ∧ vs.countP (isBoolOf k) = xs.countP (isBool k) := by
  induction xs with
  | nil =>
    intro vs r _
    cases vs with
    | nil => exact ⟨fun y hy => (nomatch hy), rfl⟩
    | cons _ _ => rw [VRs] at r; exact r.elim
  | cons x xs ih =>
    intro vs r ha
    cases vs with
    | nil => rw [VRs] at r; exact r.elim
    | cons v vs =>
      rw [VRs] at r
      rw [List.all_cons, Bool.and_eq_true] at ha
      obtain ⟨h1, h2⟩ := ih r.2 ha.2
      cases x with
      | bool b =>
        obtain rfl := zAt r.1
        refine ⟨fun y hy => ?_, ?_⟩
        · rcases List.mem_cons.mp hy with rfl | hy
          · exact ⟨b, rfl⟩
          · exact h1 y hy
        · rw [List.countP_cons, List.countP_cons, h2]; rfl
      | _ => exact ff_tt ha.1
theorem zFz {a b x : V} {va vb : Value} (L : Lk S X f σ s.heap) (e : ev2 .count σ a b = some x) (ra : VR S X f s.heap a va) (rb : VR S X f s.heap b vb) : wpAny (model S.prog S.w) A (call (.builtin "list.count") [va, vb]) (PE S X f s x) E s := by
  have e : countV σ a b = some x := e
  cases b with
  | bool k =>
    have e : ((listOf? σ a).bind fun xs => if xs.all fun x => isBool true x || isBool false x then some (.int (xs.countP (isBool k) : Nat)) else none) = some x := e
    obtain ⟨xs, hxs, e⟩ := Option.bind_eq_some_iff.mp e
    obtain ⟨p, vs, n, rfl, il, rs, _⟩ := zAU L hxs ra
    obtain rfl := zAt rb
    split at e
    · rename_i ha
      cases e
      obtain ⟨h1, h2⟩ := isBool_vs k rs ha
      refine call_meets PySem.F.slot_list_count ⟨_, il, rfl⟩ PySem.F.entry_list_count (PySem.F.args_list_count_2 _ _) (SeqAt.list_countAt p vs n none #[] (.bool k) (isBoolOf k)) ⟨il, fun y hy => ?_, ?_⟩
      · obtain ⟨b, rfl⟩ := h1 y (by simpa using hy)
        exact SeqAt.EqAt.bool_bool b k
      · rw [h2]; exact .int
    · exact zAA e
  | _ => exact zAA e
theorem ok_count {o x : Expr} {a b : CE} {apos pos : Pos} (hb : noSuper o = true) (hp : (apos.endLine == pos.line) = true) (hs : isStar x = false) (ho : EOk S F q d Γ sc o a) (hx : EOk S F q d Γ sc x b) :
    EOk S F q d Γ sc (.Call (.Attribute o ("count" : Str) apos) [x] [] pos) (.sm .count a b) := fun env ρ f X σ s A st hne => by
  rw [x_sm] at hne ⊢
  refine wpAny_Call_method (zCJ hb) (few1 hs) hp PySem.F.plainAttrs_list PySem.F.slot_list_count PySem.F.type_list_count ?_
  refine Sim.goN (ho env ρ f X σ s A st) hne (fun _ _ x => x.qs) (fun _ _ x => x) fun va a' σ₁ g₁ s₁ hne hg k L ra hQ hE => ?_
  by_cases hil : selfOk .count σ₁ a' = true
  · rw [if_pos hil] at hne hQ hE
    obtain ⟨xs₁, hxs₁⟩ := Option.isSome_iff_exists.mp hil
    obtain ⟨p, vs, n, rfl, il, rs, hlen⟩ := zAU L hxs₁ ra
    refine ⟨⟨_, il, rfl⟩, fun b hb => ⟨_, by cases hb; exact il, rfl⟩, zAT (zAM _ (by rw [List.any_cons, hs]; rfl)) (spliced1 hs ?_)⟩
    refine Sim.goN (hx env ρ _ X σ₁ s₁ A (st.keep hg k L)) hne hQ hE fun vb b' σ₂ g₂ s₂ hne hg₂ k₂ L₂ rb hQ hE => ?_
    obtain ⟨x, hx⟩ := zAg hne
    rw [hx] at hQ
    exact ⟨zAP (by simp), wpAny_mono (zFz L₂ hx (VR.keepK k₂ hg₂ (fun _ h => nomatch h) ra) rb) (fun v s' p => hQ v s' (p.here L₂)) fun _ _ x => x⟩
  · rw [if_neg hil] at hne; exact absurd rfl hne
theorem ok_sm {o x : Expr} {a b : CE} {apos pos : Pos} {m : Str} {p : P2} (hm : m1Names.lookup m = some p) (hb : noSuper o = true) (hp : (apos.endLine == pos.line) = true) (hs : isStar x = false) (ho : EOk S F q d Γ sc o a) (hx : EOk S F q d Γ sc x b) :
    EOk S F q d Γ sc (.Call (.Attribute o m apos) [x] [] pos) (.sm p a b) := by
  have hm := zAH hm
  simp only [m1Names, List.mem_cons, Prod.mk.injEq, List.not_mem_nil, or_false] at hm
  rcases hm with ⟨rfl, rfl⟩
    | ⟨rfl, rfl⟩
    | ⟨rfl, rfl⟩ | ⟨rfl, rfl⟩
    | ⟨rfl, rfl⟩
  · exact zCU (fun _ _ => rfl) PySem.F.slot_str_join PySem.F.type_str_join (fun _ _ _ _ _ _ _ _ _ _ _ L e ra rb => join_sound L e ra rb) hb hp hs ho hx
  · exact ok_count hb hp hs ho hx
  · exact zCU (fun _ _ => rfl) PySem.F.slot_str_split PySem.F.type_str_split (fun _ _ _ _ _ _ _ _ _ _ _ L e ra rb => zGM L e ra rb) hb hp hs ho hx
  · exact zCU (fun _ _ => rfl) PySem.F.slot_str_partition PySem.F.type_str_partition (fun _ _ _ _ _ _ _ _ _ _ _ L e ra rb => part_sound L e ra rb) hb hp hs ho hx
  · exact zCU (fun _ _ => rfl) PySem.F.slot_str_startswith PySem.F.type_str_startswith (fun _ _ _ _ _ _ _ _ _ _ _ _ e ra rb => zGL e ra rb) hb hp hs ho hx
end
end Mine
end

/-! # Stmt1 -/
section
set_option autoImplicit false
namespace Mine
open PySem PyProof.Rows
noncomputable def ya (env : Env) : List Addr := env.locals :: env.cells.map (·.2)
structure FW (env : Env) (X : List Addr) : Prop where
  loc : env.locals ∈ X
  mem : ∀ p ∈ env.cells, p.2 ∈ X
  inj : ∀ x y c, env.cells.lookup x = some c → env.cells.lookup y = some c → x = y
theorem FW.cellX {env : Env} {X : List Addr} (fw : FW env X) (x : Str) (c : Addr) (h : env.cells.lookup x = some c) : c ∈ X := fw.mem _ (zAH h)
theorem zDi {β : Type} {x : Str} {y : β} : ∀ {l : List (Str × β)}, l.lookup x = some y → y ∈ l.map (·.2) := fun h => List.mem_map_of_mem (f := (·.2)) (zAH h)
noncomputable def FlR (S : Stat) (X : List Addr) (f : List Loc) (h : Heap) (env : Env) (Γ : List Str) (sc : Scope) : Fl → Flow → Prop
  | .next ρ, fl => fl = .next ∧ FR S X f h env Γ sc ρ
  | .ret v, fl => ∃ w, fl = .ret w ∧ VR S X f h v w
inductive QF (S : Stat) (X : List Addr) (env : Env) (Γ : List Str) (sc : Scope) (f : List Loc) (s : Shared) (r : R Fl) (fl : Flow) (s' : Shared) : Prop where
  | mk (x : Fl) (σ' : Sto) (g : List Loc) (e : r = .ok x σ') (hg : Fresh g s) (k : Kp f (ya env) s s') (L : Lk S X (f ++ g) σ' s'.heap) (p : FlR S X (f ++ g) s'.heap env Γ sc x fl)
section
variable (S : Stat) (F Fq : Calls) (q : Bool) (d : Nat)
noncomputable def SOk (Γ : List Str) (sc : Scope) (st : Stmt) (c : CS) : Prop := ∀ (env : Env) (ρ : List V) (f : List Loc) (X : List Addr) (σ : Sto) (s : Shared) (A : Around), St S q d Γ sc env ρ f X σ s A → FW env X →
  exS F Fq q c ρ σ ≠ .stuck → wpAny (model S.prog S.w) A (exec st env) (QF S X env Γ sc f s (exS F Fq q c ρ σ)) (ES S X (ya env) f false s (exS F Fq q c ρ σ)) s
noncomputable def LSOk (Γ : List Str) (sc : Scope) (st : List Stmt) (c : List CS) : Prop := ∀ (env : Env) (ρ : List V) (f : List Loc) (X : List Addr) (σ : Sto) (s : Shared) (A : Around), St S q d Γ sc env ρ f X σ s A → FW env X →
  exL F Fq q c ρ σ ≠ .stuck → wpAny (model S.prog S.w) A (execs st env) (QF S X env Γ sc f s (exL F Fq q c ρ σ)) (ES S X (ya env) f false s (exL F Fq q c ρ σ)) s
end
section
variable {S : Stat} {C : Ctx} {T : Nat → Option Fn} {F Fq : Calls} {q : Bool} {d : Nat} {Γ : List Str} {sc : Scope}
variable {X X' Y Z : List Addr} {f g : List Loc} {σ : Sto} {s s' : Shared} {A : Around} {E : Value → Shared → Prop} {I a : Addr} {its : Items} {i : Nat} {env : Env} {ρ : List V}
theorem QF.lifts : Lifts (ya env) (fun f s r a s' => QF S X env Γ sc f s r a s') := fun f g s s₁ r c s' hg k q => by
  obtain ⟨b', σ'', g', e, hg', k', L, p⟩ := q
  rw [List.append_assoc] at L p
  exact ⟨b', σ'', g ++ g', e, hg.trans k.live hg', k.trans hg k', L, p⟩
theorem Sim.goS {α β : Type} {P : α → β → List Loc → Shared → Prop}
    {t : Sem α} {r : R β} {rk : β → Sto → R Fl} {W : α → Shared → Prop} {Q' : Flow → Shared → Prop} {E' : Value → Shared → Prop} (h : Sim S A X [] f P t r s) (hne : r.bind rk ≠ .stuck)
    (hQ : ∀ c s'', QF S X env Γ sc f s (r.bind rk) c s'' → Q' c s'') (hE : ∀ e s'', ES S X (ya env) f false s (r.bind rk) e s'' → E' e s'')
    (hk : ∀ a b σ' g s', rk b σ' ≠ .stuck → Fresh g s → Kp f [] s s' → Lk S X (f ++ g) σ' s'.heap → P a b (f ++ g) s' → (∀ c s'', QF S X env Γ sc (f ++ g) s' (rk b σ') c s'' → Q' c s'') →
      (∀ e s'', ES S X (ya env) (f ++ g) false s' (rk b σ') e s'' → E' e s'') → W a s') : wpAny (model S.prog S.w) A t W E' s := by
  have hr : r ≠ .stuck := fun e => hne (by rw [e]; rfl)
  refine wpAny_mono (h hr) (fun a s' q => ?_) fun e s' q => hE e s' ?_
  · obtain ⟨b, σ', g, rfl, hg, k, L, p⟩ := q
    have ky : Kp f (ya env) s s' := k.mono fun a h => nomatch h
    exact hk a b σ' g s' hne hg k L p (fun c s'' q => hQ c s'' (QF.lifts f g s s' _ c s'' hg ky q)) fun e s'' q => hE e s'' (ES.lifts f g s s' _ e s'' hg ky q)
  · obtain ⟨c, σ', g, ea, e1, rfl, hg, k, L, x⟩ := q
    exact ⟨c, σ', g, ea, e1, rfl, hg, (k.mono fun a h => nomatch h), L, x⟩
theorem zBJ {y : Str} : ∀ {Γ : List Str} {i : Nat}, lastIdx y Γ = some i → Γ[i]? = some y
  | [], i, h => by simp [lastIdx] at h
  | z :: Γ, i, h => by
    simp only [lastIdx] at h
    split at h
    · rename_i j hj; cases h; simpa using zBJ hj
    · split at h
      · rename_i e; cases h; rw [eq_of_beq e]; rfl
      · first | exact zAA h | exact ff_tt h | cases h
theorem zCz {x : Str} (h : slotOf Γ sc x = some i) : (sc.names.lookup x = some .local ∨ sc.names.lookup x = some .cell) ∧ lastIdx x Γ = some i := by
  unfold slotOf at h
  split at h
  · rename_i e
    simp only [Bool.or_eq_true] at e
    exact ⟨e.imp (fun q => eq_of_beq q) fun q => eq_of_beq q, h⟩
  · first | exact zAA h | exact ff_tt h | cases h
theorem FR.mv (m : Mv a s s') (ha : a ∈ X) (hl : env.locals ≠ a) (hc : ∀ x c, env.cells.lookup x = some c → c ≠ a) (fr : FR S X f s.heap env Γ sc ρ) : FR S X f s'.heap env Γ sc ρ := by
  have ns : ∀ {b : Addr} {m' : Str → Option Value}, b ≠ a → s.heap.Ns b m' → s'.heap.Ns b m' := fun hb h => by
    obtain ⟨o, es, ep, ho, r⟩ := h
    exact ⟨o, es, ep, m.keep _ _ hb ho, r⟩
  have cl : ∀ {b : Addr} {m' : Option Value}, b ≠ a → s.heap.IsCell b m' → s'.heap.IsCell b m' := fun hb h => by
    obtain ⟨o, ho, r⟩ := h
    exact ⟨o, m.keep _ _ hb ho, r⟩
  refine ⟨fr.kind, fr.glob, fr.blt, fr.names, ⟨fr.loc.1, let ⟨m', h⟩ := fr.loc.2; ⟨m', ns hl h⟩⟩, fun x hx => ?_, fun x i v h1 h2 h3 h4 => ?_, fr.len⟩
  · obtain ⟨c, o, e1, hX, h⟩ := fr.cells x hx
    exact ⟨c, o, e1, hX, cl (hc x c e1) h⟩
  · obtain ⟨w, h5, h6⟩ := fr.vals x i v h1 h2 h3 h4
    refine ⟨w, ?_, m.vr ha h6⟩
    rcases h5 with ⟨k, m', h7, h8⟩ | ⟨k, c, h7, h8⟩
    · exact .inl ⟨k, m', ns hl h7, h8⟩
    · exact .inr ⟨k, c, h7, cl (hc x c h7) h8⟩
theorem zAY {x : Str} {v : V} {w : Value} {Q : Unit → Shared → Prop} (fr : FR S X f s.heap env Γ sc ρ) (fw : FW env X) (hx : slotOf Γ sc x = some i) (r : VR S X f s.heap v w)
    (h : ∀ a s', a ∈ ya env → a ∈ X → Mv a s s' → FR S X f s'.heap env Γ sc (ρ.set i v) → Q () s') : wpAny (model S.prog S.w) A (storeName env x w) Q E s := by
  obtain ⟨hk, hi⟩ := zCz hx
  have hkind : env.kindOf x = some .local ∨ env.kindOf x = some .cell := by
    rcases fr.names x with e | ⟨e, _⟩
    · rw [e]; exact hk
    · rcases hk with h | h <;> rw [h] at e <;> cases e
  have hvx : isVar sc x = true := by unfold isVar; rcases hk with h | h <;> rw [h]
  have hil : i < ρ.length := by rw [fr.len]; exact zBW hi
  obtain ⟨m, hm⟩ := fr.loc.2
  have same : ∀ y, lastIdx y Γ = some i → y = x := fun y hy => by
    have h1 := zBJ hy
    rw [zBJ hi] at h1; cases h1; rfl
  have setv : ∀ {j : Nat} {v' : V}, (ρ.set i v)[j]? = some v' → j ≠ i → ρ[j]? = some v' := fun h hne => by rwa [List.getElem?_set_ne (fun q => hne q.symm)] at h
  have cellNe : ∀ x c, isCellKind (env.kindOf x) → env.cells.lookup x = some c → c ≠ env.locals := fun x c hk e q => by
    obtain ⟨c', o, e', _, ⟨ob, h1, h2⟩⟩ := fr.cells x hk
    rw [e] at e'; cases e'
    obtain ⟨ob', es, ep, h3, h4, _⟩ := hm
    rw [q, h3] at h1; cases h1; rw [h4] at h2; cases h2
  rcases hkind with hl | hc
  · refine wpAny_storeName_local hl hm (fun h' hn' hs' => ?_) (by simp [fr.kind])
    obtain ⟨o2, es2, ep2, e3, e4, _⟩ := id hn'
    have mv : Mv env.locals s { s with heap := h', toks := s.toks + 1 } := ⟨rfl, fun b o hb e => (hs'.2 b hb).trans e, ⟨o2, e3⟩, fun _ _ _ _ _ => ⟨o2, es2, ep2, e3, e4⟩⟩
    refine h env.locals _ List.mem_cons_self fw.loc mv ?_
    have cl : ∀ {b : Addr} {m' : Option Value}, b ≠ env.locals → s.heap.IsCell b m' → h'.IsCell b m' := fun hb h => by
      obtain ⟨o, ho, r⟩ := h
      exact ⟨o, mv.keep _ _ hb ho, r⟩
    refine ⟨fr.kind, fr.glob, fr.blt, fr.names, ⟨fr.loc.1, _, hn'⟩, fun y hy => ?_, fun y j v' h1 h2 h3 h4 => ?_, by rw [List.length_set]; exact fr.len⟩
    · obtain ⟨c, o, e1, hX, h5⟩ := fr.cells y hy
      exact ⟨c, o, e1, hX, cl (cellNe y c hy e1) h5⟩
    · by_cases hj : j = i
      · subst hj
        have hy := same y h2
        subst hy
        rw [List.getElem?_set_self hil] at h3; cases h3
        exact ⟨w, .inl ⟨hl, _, hn', by simp⟩, mv.vr fw.loc r⟩
      · obtain ⟨w', h5, h6⟩ := fr.vals y j v' h1 h2 (setv h3 hj) h4
        refine ⟨w', ?_, mv.vr fw.loc h6⟩
        rcases h5 with ⟨k, m', h7, h8⟩ | ⟨k, c, h7, h8⟩
        · refine .inl ⟨k, _, hn', ?_⟩
          have hyx : y ≠ x := fun q => by rw [q, hi] at h2; cases h2; exact hj rfl
          obtain ⟨ob, es, ep, q1, q2, q3, q4⟩ := h7
          obtain ⟨ob', es', ep', p1, p2, p3, p4⟩ := hm
          rw [q1] at p1; cases p1; rw [q2] at p2; cases p2
          show (if y = x then some w else m y) = some w'
          rw [if_neg hyx, ← p4 y, q4 y, h8]
        · exact .inr ⟨k, c, h7, cl (cellNe y c k h7) h8⟩
  · obtain ⟨c, o, e1, hX, hcell⟩ := fr.cells x (.inl hc)
    refine wpAny_storeName_cell fr.kind hc e1 hcell fun h' hc' hs' => ?_
    obtain ⟨o2, e3, e4⟩ := id hc'
    have mv : Mv c s { s with heap := h' } := ⟨rfl, fun b o hb e => (hs'.2 b hb).trans e, ⟨o2, e3⟩, fun ob es n q1 q2 => by
      obtain ⟨ob', q3, q4⟩ := hcell
      rw [q3] at q1; cases q1; rw [q4] at q2; cases q2⟩
    refine h c _ (List.mem_cons_of_mem _ (zDi e1)) hX mv ?_
    have hlne : env.locals ≠ c := fun q => cellNe x c (.inl hc) e1 q.symm
    have ns : ∀ {m' : Str → Option Value}, s.heap.Ns env.locals m' → h'.Ns env.locals m' := fun h => by
      obtain ⟨o, es, ep, ho, r⟩ := h
      exact ⟨o, es, ep, mv.keep _ _ hlne ho, r⟩
    have cl : ∀ {b : Addr} {m' : Option Value}, b ≠ c → s.heap.IsCell b m' → h'.IsCell b m' := fun hb h => by
      obtain ⟨o, ho, r⟩ := h
      exact ⟨o, mv.keep _ _ hb ho, r⟩
    refine ⟨fr.kind, fr.glob, fr.blt, fr.names, ⟨fr.loc.1, _, ns hm⟩, fun y hy => ?_, fun y j v' h1 h2 h3 h4 => ?_, by rw [List.length_set]; exact fr.len⟩
    · obtain ⟨c', o', e1', hX', h5⟩ := fr.cells y hy
      by_cases hcc : c' = c
      · subst hcc; exact ⟨c', _, e1', hX, hc'⟩
      · exact ⟨c', o', e1', hX', cl hcc h5⟩
    · by_cases hj : j = i
      · subst hj
        have hy := same y h2
        subst hy
        rw [List.getElem?_set_self hil] at h3; cases h3
        exact ⟨w, .inr ⟨.inl hc, c, e1, hc'⟩, mv.vr hX r⟩
      · obtain ⟨w', h5, h6⟩ := fr.vals y j v' h1 h2 (setv h3 hj) h4
        refine ⟨w', ?_, mv.vr hX h6⟩
        have hyx : y ≠ x := fun q => by rw [q, hi] at h2; cases h2; exact hj rfl
        rcases h5 with ⟨k, m', h7, h8⟩ | ⟨k, c', h7, h8⟩
        · exact .inl ⟨k, m', ns h7, h8⟩
        · exact .inr ⟨k, c', h7, cl (fun q => hyx (fw.inj y x c (q ▸ h7) e1)) h8⟩
theorem mv_qf {v : Fl} {fl : Flow} (hY : a ∈ ya env) (hX : a ∈ X) (L : Lk S X f σ s.heap) (m : Mv a s s') (h : FlR S X f s'.heap env Γ sc v fl) : QF S X env Γ sc f s (.ok v σ) fl s' :=
  ⟨v, σ, [], rfl, .nil s, m.kp hY, by rw [List.append_nil]; exact m.lk hX L, by rw [List.append_nil]; exact h⟩
theorem zEc {v : Fl} {fl : Flow} (L : Lk S X f σ s.heap) (h : FlR S X f s.heap env Γ sc v fl) : QF S X env Γ sc f s (.ok v σ) fl s :=
  ⟨v, σ, [], rfl, .nil s, .refl f _ s, by rw [List.append_nil]; exact L, by rw [List.append_nil]; exact h⟩
theorem swaps_no {e : Expr} {t : Option Expr} {n : Nat} (h : isComp e = false) (h2 : ∀ el gs sc p, e ≠ .SetComp el gs sc p) (h3 : ∀ k v gs sc p, e ≠ .DictComp k v gs sc p) : swapsWith e t n env = pure false := by
  cases e <;> first | rfl | exact ff_tt h.symm | exact absurd rfl (h2 _ _ _ _) | exact absurd rfl (h3 _ _ _ _ _)
theorem ok_ret {e : Expr} {c : CE} {pos : Pos} (h : EOk S F q d Γ sc e c) : SOk S F Fq q d Γ sc (.Return (some e) pos) (.ret c) := fun env ρ f X σ s A st fw hne => by
  rw [x_ret] at hne ⊢
  refine wpAny_Return_some ?_
  refine Sim.goS (Γ := Γ) (sc := sc) (h env ρ f X σ s A st) hne (fun _ _ x => x) (fun _ _ x => x) fun va a' σ₁ g₁ s₁ hne hg k L ra hQ hE => hQ _ _ (zEc L ⟨va, rfl, ra⟩)
theorem ok_pass {pos : Pos} : SOk S F Fq q d Γ sc (.Pass pos) .pass := fun env ρ f X σ s A st fw hne => by
  rw [x_pass]
  exact wpAny_Pass (zEc st.lk ⟨rfl, st.fr⟩)
theorem ok_exp {e : Expr} {c : CE} {pos : Pos} (h : EOk S F q d Γ sc e c) (hs : ∀ env n t, swapsWith e t n env = pure false) : SOk S F Fq q d Γ sc (.Expr e pos) (.exp c) := fun env ρ f X σ s A st fw hne => by
  rw [x_exp] at hne ⊢
  refine wpAny_Expr_any ?_ (by simp [interactive, st.fr.kind]) (hs _ _ _)
  refine Sim.goS (Γ := Γ) (sc := sc) (h env ρ f X σ s A st) hne (fun _ _ x => x) (fun _ _ x => x) fun va a' σ₁ g₁ s₁ hne hg k L ra hQ hE => hQ _ _ (zEc L ⟨rfl, (st.keep hg k L).fr⟩)
theorem asg_at {x : Str} {px pos : Pos} {e : Expr} {c : CE} (hx : slotOf Γ sc x = some i) (h : EOk S F q d Γ sc e c) (st : St S q d Γ sc env ρ f X σ s A) (fw : FW env X) (hs : swapsWith e (some (.Name x px)) pos.line env = pure false) (hne : exS F Fq q (.asg i c) ρ σ ≠ .stuck) :
    wpAny (model S.prog S.w) A (exec (.Assign [.Name x px] e pos) env) (QF S X env Γ sc f s (exS F Fq q (.asg i c) ρ σ)) (ES S X (ya env) f false s (exS F Fq q (.asg i c) ρ σ)) s := by
  rw [x_asg] at hne ⊢
  refine wpAny_Assign_Name ?_ hs
  refine Sim.goS (Γ := Γ) (sc := sc) (h env ρ f X σ s A st) hne (fun _ _ x => x) (fun _ _ x => x) fun va a' σ₁ g₁ s₁ hne hg k L ra hQ hE => ?_
  exact zAY (st.keep hg k L).fr fw hx ra fun b s' hY hX m fr => hQ _ _ (mv_qf hY hX L m ⟨rfl, fr⟩)
theorem ok_asg {x : Str} {px pos : Pos} {e : Expr} {c : CE} (hx : slotOf Γ sc x = some i) (h : EOk S F q d Γ sc e c) (hs : ∀ env n t, swapsWith e t n env = pure false) : SOk S F Fq q d Γ sc (.Assign [.Name x px] e pos) (.asg i c) := fun env ρ f X σ s A st fw hne =>
  asg_at hx h st fw (hs _ _ _) hne
theorem ok_if {t : Expr} {c : CE} {a b : List Stmt} {ca cb : List CS} {pos : Pos} (ht : TOk S F q d Γ sc t c) (ha : LSOk S F Fq q d Γ sc a ca) (hb : LSOk S F Fq q d Γ sc b cb) : SOk S F Fq q d Γ sc (.If t a b pos) (.ite c ca cb) := fun env ρ f X σ s A st fw hne => by
  have key : exS F Fq q (.ite c ca cb) ρ σ = ((evE F q c ρ σ).bind fun v σ => R.lift σ (truthy σ v)).bind fun t σ => if t then exL F Fq q ca ρ σ else exL F Fq q cb ρ σ := by rw [x_ite, R.bind_assoc]
  rw [key] at hne ⊢
  refine wpAny_If ?_
  refine Sim.goS (Γ := Γ) (sc := sc) (ht env ρ f X σ s A st) hne (fun _ _ x => x) (fun _ _ x => x) fun va a' σ₁ g₁ s₁ hne hg k L ra hQ hE => ?_
  have ra : va = a' := ra
  subst ra
  cases va with
  | true => exact wpAny_mono (ha env ρ _ X σ₁ s₁ A (st.keep hg k L) fw hne) hQ hE
  | false => exact wpAny_mono (hb env ρ _ X σ₁ s₁ A (st.keep hg k L) fw hne) hQ hE
theorem ok_nil : LSOk S F Fq q d Γ sc [] [] := fun env ρ f X σ s A st fw hne => by
  rw [x_lnil]
  exact wpAny_execs_nil (zEc st.lk ⟨rfl, st.fr⟩)
theorem ok_cons {a : Stmt} {b : List Stmt} {ca : CS} {cb : List CS} (ha : SOk S F Fq q d Γ sc a ca) (hb : LSOk S F Fq q d Γ sc b cb) : LSOk S F Fq q d Γ sc (a :: b) (ca :: cb) := fun env ρ f X σ s A st fw hne => by
  rw [x_lcons] at hne ⊢
  have hr : exS F Fq q ca ρ σ ≠ .stuck := fun e => hne (by rw [e]; rfl)
  refine wpAny_execs_cons (wpAny_mono (ha env ρ f X σ s A st fw hr) (fun fl s₁ h₁ => ?_) fun e s₁ h₁ => ?_)
  · obtain ⟨x, σ₁, g, e, hg, k, L, p⟩ := h₁
    rw [e, R.bind_ok] at hne ⊢
    cases x with
    | next ρ' =>
      obtain ⟨rfl, fr⟩ := p
      have st₁ : St S q d Γ sc env ρ' (f ++ g) X σ₁ s₁ A := ⟨st.cx.keep k hg, fr, L⟩
      exact wpAny_mono (hb env ρ' _ X σ₁ s₁ A st₁ fw hne) (fun c s'' q => QF.lifts f g s s₁ _ c s'' hg k q) fun c s'' q => ES.lifts f g s s₁ _ c s'' hg k q
    | ret v =>
      obtain ⟨w, rfl, r⟩ := p
      exact ⟨.ret v, σ₁, g, rfl, hg, k, L, w, rfl, r⟩
  · obtain ⟨c, σ', g, ea, e1, e2, hgE, kE, LE, xE⟩ := h₁
    exact ⟨c, σ', g, ea, e1, by rw [e2]; rfl, hgE, kE, LE, xE⟩
end
end Mine
end

/-! # Stmt2 -/
section
set_option autoImplicit false
namespace Mine
open PySem PyProof.Rows
section
variable {S : Stat} {C : Ctx} {T : Nat → Option Fn} {F Fq : Calls} {q : Bool} {d : Nat} {Γ : List Str} {sc : Scope}
variable {X X' Y Z : List Addr} {f g : List Loc} {σ : Sto} {s s' : Shared} {A : Around} {E : Value → Shared → Prop} {I a : Addr} {its : Items} {i : Nat} {env : Env} {ρ : List V}
theorem FR.drop {h h' : Heap} (fr : FR S X f h env Γ sc ρ) (fw : FW env X') (hX : ∀ a ∈ X', a ∈ X ∧ a ∉ Z) (hZ : ∀ a ∈ Z, a ∈ X) (k : ∀ b o, b ∉ Z → h.get? b = some o → h'.get? b = some o) : FR S X' f h' env Γ sc ρ := by
  have ns : ∀ {b : Addr} {m' : Str → Option Value}, b ∈ X' → h.Ns b m' → h'.Ns b m' := fun hb x => by
    obtain ⟨o, es, ep, ho, r⟩ := x
    exact ⟨o, es, ep, k _ _ (hX _ hb).2 ho, r⟩
  have cl : ∀ {b : Addr} {m' : Option Value}, b ∈ X' → h.IsCell b m' → h'.IsCell b m' := fun hb x => by
    obtain ⟨o, ho, r⟩ := x
    exact ⟨o, k _ _ (hX _ hb).2 ho, r⟩
  refine ⟨fr.kind, fr.glob, fr.blt, fr.names, ⟨fw.loc, let ⟨m, h⟩ := fr.loc.2; ⟨m, ns fw.loc h⟩⟩, fun x hx => ?_, fun x i v h1 h2 h3 h4 => ?_, fr.len⟩
  · obtain ⟨c, o, e, _, h⟩ := fr.cells x hx
    exact ⟨c, o, e, fw.cellX x c e, cl (fw.cellX x c e) h⟩
  · obtain ⟨w, h5, h6⟩ := fr.vals x i v h1 h2 h3 h4
    refine ⟨w, ?_, h6.drop (fun a ha => (hX a ha).1) hZ k⟩
    rcases h5 with ⟨kk, m', h7, h8⟩ | ⟨kk, c, h7, h8⟩
    · exact .inl ⟨kk, m', ns fw.loc h7, h8⟩
    · exact .inr ⟨kk, c, h7, cl (fw.cellX x c h7) h8⟩
theorem FW.more (fw : FW env X) : FW env (a :: X) := ⟨List.mem_cons_of_mem _ fw.loc, fun p hp => List.mem_cons_of_mem _ (fw.mem p hp), fw.inj⟩
theorem FlR.drop {h h' : Heap} {x : Fl} {fl : Flow} (p : FlR S X f h env Γ sc x fl) (fw : FW env X') (hX : ∀ a ∈ X', a ∈ X ∧ a ∉ Z) (hZ : ∀ a ∈ Z, a ∈ X) (k : ∀ b o, b ∉ Z → h.get? b = some o → h'.get? b = some o) : FlR S X' f h' env Γ sc x fl := by
  cases x with
  | next ρ => exact ⟨p.1, p.2.drop fw hX hZ k⟩
  | ret v => obtain ⟨w, e, r⟩ := p; exact ⟨w, e, r.drop (fun a ha => (hX a ha).1) hZ k⟩
theorem zGS {scope : Scope} {x y : Str} {px py pos spos : Pos} {elt iter : Expr} {ifs : List Expr} {ce c' : CE} {cond : Option CE} {k : SK} {cs : List CE} (hy : slotOf Γ sc y = some i) (ok : CompOk Γ sc scope x) (hsrc : SrcOk S F q d Γ sc iter k cs)
    (hcond : (ifs = [] ∧ cond = none) ∨ ∃ e c, ifs = [e] ∧ cond = some c ∧ TOk S F q d (Γ ++ [x]) scope e c) (helt : EOk S F q d (Γ ++ [x]) scope elt ce) (hc' : c' = .comp ce k cs cond ∨ c' = .trk (.comp ce k cs cond)) :
    SOk S F Fq q d Γ sc (.Assign [.Name y py] (.ListComp elt [⟨.Name x px, iter, ifs, 0⟩] scope pos) spos) (.asg i c') := fun env ρ f X σ s A st fw hne => by
  have hn := ok_comp (px := px) (pos := pos) ok hsrc hcond helt
  have he : EOk S F q d Γ sc (.ListComp elt [⟨.Name x px, iter, ifs, 0⟩] scope pos) c' := by
    rcases hc' with rfl | rfl
    · exact hn.eok
    · exact hn.trk
  by_cases hsw : (env.blockKind == .function && env.kindOf y == some .local && py.line == pos.line && !(scope.names.any fun (n, k) => n == y && (k == .local || k == .cell))) = true
  · have hs : swapsWith (.ListComp elt [⟨.Name x px, iter, ifs, 0⟩] scope pos) (some (.Name y py)) spos.line env = pure true := by
      show pure (env.blockKind == .function && env.kindOf y == some .local && py.line == pos.line && !(scope.names.any fun (n, k) => n == y && (k == .local || k == .cell))) = _
      rw [hsw]
    rw [exec_Assign_Name_used _ _ _ _ hs]
    rw [x_asg] at hne ⊢
    have hq : q = false := by
      cases q with
      | false => rfl
      | true => rcases hc' with rfl | rfl <;> exact absurd rfl hne
    have hval : ∃ tk : V → Sto → R V, evE F q c' ρ σ = (((evL F q cs ρ σ).bind fun vs σ => R.lift σ (itemsBy σ k vs)).bind fun its σ => (foldItems its (compStep F q ce cond ρ) [] σ).bind fun acc σ => .ok (.lst acc) σ).bind tk ∧
        ∀ {X : List Addr} {s : Shared} {r : R V} {v : Value} {s' : Shared}, (r.bind tk) ≠ .stuck → QN S X [] f s r v s' → QS S X [] f (PV S X) s (r.bind tk) v s' := by
      rcases hc' with rfl | rfl
      · exact ⟨fun v σ => .ok v σ, by rw [zCG hq]; generalize R.bind _ _ = r; cases r <;> rfl, fun {X s r v s'} _ h => by
          have : (r.bind fun v σ => R.ok v σ) = r := by cases r <;> rfl
          rw [this]; exact h.qs⟩
      · exact ⟨fun v σ => doTrk σ v, by rw [x_trk, zCG hq], fun {X s r v s'} hne h => h.trk hne⟩
    obtain ⟨tk, e0, htk⟩ := hval
    rw [e0] at hne ⊢
    obtain ⟨cl, hclos, hcl⟩ := st.fr.closure ok
    refine wpAny_bind (wpAny_standAt (wpAny_bind ?_))
    show wpAny _ A (do let _ ← comprehension (.ListComp elt [⟨.Name x px, iter, ifs, 0⟩] scope pos) scope env _ (newList []) false (eval iter env) (some (assign (.Name y py) env))) _ _ s
    refine wpAny_bind (wpAny_mono (wpAny_comprehension_free (Q := fun _ s' => QF S X env Γ sc f s _ .next s') (g := ⟨.Name x px, iter, ifs, 0⟩) (gs := []) rfl (hsrc.1 env) hclos ok.kind (fun p hp e => (ok.loc p hp e).2) ?_) (fun _ s' hq => wpAny_pure (wpAny_pure hq)) fun _ _ e => e)
    have hr : ((evL F q cs ρ σ).bind fun vs σ => R.lift σ (itemsBy σ k vs)) ≠ .stuck := fun e => hne (by rw [e]; rfl)
    refine wpAny_mono (hsrc.2 env ρ f X σ s A st hr) (fun xv s₁ h₁ => wpAny_mono h₁ (fun it s₂ h₂ => ?_) fun e s' h => ?_) fun e s' h => ?_
    · obtain ⟨its, σ₁, g, I, e1, rfl, hI, hIX, hg, kk, L, x0⟩ := h₂
      rw [e1, R.bind_ok] at hne ⊢
      have hne2 : foldItems its (compStep F q ce cond ρ) [] σ₁ ≠ .stuck := fun e => hne (by rw [e]; rfl)
      refine zDn st (st.cx.hand hq) ok hcl hcond helt hI hg kk L x0 hne2 (fun N D acc σ' g' m ys n s' hN hD hND e2 hg' k' L' hns il vs hlen => ?_)
        (fun acc N c σ' g' ea oe vs T m s' hN e2 hg' k' x' ns p1 p2 p3 => zHR hN (st.lk.new hN).2 (fun a ha => (st.lk.hid a ha).2.2) (k'.mono fun a h => nomatch h) x' ns p1 p2 p3 fun s'' k'' L'' x'' => ⟨c, σ', g', ea, rfl, by rw [e2]; rfl, hg', k'', L'', x''⟩)
      rw [e2, R.bind_ok] at hne ⊢
      have hNX : N ∉ X := (st.lk.new hN).2
      have hDX : D ∉ X := (st.lk.new hD).2
      have qn : QN S (N :: X) [] f s (.ok (.lst acc) σ') (.ref D) s' := by
        have hsw2 : ∀ a, a ∈ D :: N :: X → a ∈ N :: D :: X := fun a ha => by simp at ha ⊢; rcases ha with h | h | h <;> simp [h]
        have L2 : Lk S (D :: N :: X) (f ++ g') σ' s'.heap := L'.less hsw2
        have vs2 := VRs.less hsw2 vs
        refine ⟨.lst acc, σ', g', rfl, hg', k', L2.less fun a ha => List.mem_cons_of_mem _ ha, ?_, fun xs hxs => ?_⟩
        · rw [VR]
          exact ⟨D, ys, n, rfl, ⟨(L2.hid D List.mem_cons_self).2.1, fun h => (List.mem_cons.mp h).elim (fun q => hND q.symm) hDX⟩, il, vs2.less fun a ha => List.mem_cons_of_mem _ ha, hlen⟩
        · cases hxs
          exact ⟨D, ys, n, rfl, hD, (fun h => (List.mem_cons.mp h).elim (fun q => hND q.symm) hDX), L2, il, vs2, hlen⟩
      have hne3 : ((R.ok (.lst acc) σ').bind tk) ≠ .stuck := fun e => hne (by rw [e]; rfl)
      obtain ⟨v3, σ3, g3, e3, hg3, k3, L3, r3⟩ := htk hne3 qn
      rw [e3, R.bind_ok]
      have fr3 : FR S (N :: X) (f ++ g3) s'.heap env Γ sc ρ := st.fr.later st.lk k3 hg3 (fun a ha => (List.mem_cons.mp ha).elim (fun h => .inr (h ▸ hN)) .inl) fun a ha => List.mem_cons_of_mem _ ha
      refine wpAny_assign_Name (zAY fr3 fw.more hy r3 fun b s4 hY hX m4 fr4 => ?_)
      have hbN : b ≠ N := fun q => by
        subst q
        rcases List.mem_cons.mp hY with h | h
        · exact hNX (h ▸ fw.loc)
        · obtain ⟨p, hp, rfl⟩ := List.mem_map.mp h
          exact hNX (fw.mem p hp)
      obtain ⟨oN, esN, epN, eN, rN⟩ := hns
      refine ⟨m, ⟨oN, esN, epN, m4.keep N oN (Ne.symm hbN) eN, rN⟩, fun h' hs4 => ?_⟩
      have hkk : ∀ b o, b ∉ [N] → s4.heap.get? b = some o → h'.get? b = some o := fun b o hb e => (hs4.2 b (fun q => hb (q ▸ List.mem_singleton.mpr rfl))).trans e
      have hZX : ∀ a ∈ X, a ∈ N :: X ∧ a ∉ [N] := fun a ha => ⟨List.mem_cons_of_mem _ ha, fun h => hNX (List.mem_singleton.mp h ▸ ha)⟩
      have hZ : ∀ a ∈ [N], a ∈ N :: X := fun a ha => List.mem_singleton.mp ha ▸ List.mem_cons_self
      have ky : Kp f (ya env) s s4 := (k3.mono fun a h => nomatch h).trans hg3 (m4.kp hY)
      exact ⟨.next (ρ.set i v3), σ3, g3, rfl, hg3, ky.ends (Z := [N]) rfl hkk (fun b hb => List.mem_singleton.mp hb ▸ hN), (m4.lk hX L3).drop hZX hZ hkk, rfl, fr4.drop fw hZX hZ hkk⟩
    · obtain ⟨c, σ', g, ea, e1, e2, hg, kk, L, r⟩ := h
      exact ⟨c, σ', g, ea, e1, by rw [e2]; rfl, hg, (kk.mono fun a h => nomatch h), L, r⟩
    · obtain ⟨c, σ', g, ea, e1, e2, hg, kk, L, r⟩ := h
      exact ⟨c, σ', g, ea, e1, by rw [e2]; rfl, hg, (kk.mono fun a h => nomatch h), L, r⟩
  · refine asg_at hy he st fw ?_ hne
    show pure (env.blockKind == .function && env.kindOf y == some .local && py.line == pos.line && !(scope.names.any fun (n, k) => n == y && (k == .local || k == .cell))) = _
    rw [Bool.eq_false_iff.mpr hsw]
end
end Mine
end

/-! # Stmt3 -/
section
set_option autoImplicit false
namespace Mine
open PySem PyProof.Rows
section
variable {S : Stat} {C : Ctx} {T : Nat → Option Fn} {F Fq : Calls} {q : Bool} {d : Nat} {Γ : List Str} {sc : Scope}
variable {X X' Y Z : List Addr} {f g : List Loc} {σ : Sto} {s s' : Shared} {A : Around} {E : Value → Shared → Prop} {I a : Addr} {its : Items} {i : Nat} {env : Env} {ρ : List V}
theorem LSOk.calm {ss : List Stmt} {cs : List CS} {γ : Type} {rk : Fl → Sto → R γ} (h : LSOk S F Fq q d Γ sc ss cs) (st : St S q d Γ sc env ρ f X σ s A) (fw : FW env X) (hne : (exL F Fq q cs ρ σ).calm.bind rk ≠ .stuck) :
    ∃ x σ', (exL F Fq q cs ρ σ).calm.bind rk = rk x σ' ∧ rk x σ' ≠ .stuck ∧ ∀ E, wpAny (model S.prog S.w) A (execs ss env) (fun fl s' => ∃ g, Fresh g s ∧ Kp f (ya env) s s' ∧ Lk S X (f ++ g) σ' s'.heap ∧ FlR S X (f ++ g) s'.heap env Γ sc x fl) E s := by
  have hs := h env ρ f X σ s A st fw
  cases hr : exL F Fq q cs ρ σ with
  | ok x σ' =>
    rw [hr] at hne hs
    refine ⟨x, σ', rfl, hne, fun E => wpAny_mono (hs (by simp)) (fun a s' q => ?_) fun e s' q => ?_⟩
    · obtain ⟨x', σ'', g, e, hg, k, L, p⟩ := q
      cases e
      exact ⟨g, hg, k, L, p⟩
    · obtain ⟨_, _, _, _, _, e, _⟩ := q; cases e
  | exc _ _ => rw [hr] at hne; exact absurd rfl hne
  | stuck => rw [hr] at hne; exact absurd rfl hne
structure FTurn (S : Stat) (s : Shared) (X : List Addr) (f : List Loc) (I : Addr) (env : Env) (Γ : List Str) (sc : Scope) (its : Items) (i : Nat) (ρ : List V) (σ' : Sto) (g : List Loc) (s' : Shared) : Prop where
  fresh : Fresh g s
  kp : Kp f (ya env) s s'
  lk : Lk S (I :: X) (f ++ g) σ' s'.heap
  it : ItAt S (I :: X) (f ++ g) s'.heap I its i
  fr : FR S (I :: X) (f ++ g) s'.heap env Γ sc ρ
theorem not_ya (fw : FW env X) (hI : I ∉ X) : I ∉ ya env := fun h => by
  rcases List.mem_cons.mp h with h | h
  · exact hI (h ▸ fw.loc)
  · obtain ⟨p, hp, rfl⟩ := List.mem_map.mp h
    exact hI (fw.mem p hp)
theorem ItAt.keepY (k : Kp f Y s s') (hg : Fresh g s) (hI : I ∈ X) (hXf : ∀ a ∈ X, a ∉ addrs f) (hY : ∀ a ∈ Y, a ∈ X) (hIY : I ∉ Y) (x : ItAt S X f s.heap I its i) : ItAt S X (f ++ g) s'.heap I its i :=
  ItAt.keep (f := f) (f' := f ++ g) (X := X) (X' := X) (h := s.heap) (fun _ _ e => List.getElem?_append_left (List.getElem?_eq_some_iff.mp e).1 ▸ e)
    (fun a o ho h1 h2 => ⟨⟨fun h => (zAC.mp h).elim h1 (zAL hg ho), h2⟩, k.kept a o ho h1 fun h => h2 (hY a h)⟩) (fun o ho => k.kept I o ho (hXf I hI) hIY) x
theorem ya_mem (fw : FW env X) : ∀ a ∈ ya env, a ∈ X := fun a h => by
  rcases List.mem_cons.mp h with h | h
  · exact h ▸ fw.loc
  · obtain ⟨p, hp, rfl⟩ := List.mem_map.mp h
    exact fw.mem p hp
theorem ok_for {x : Str} {px pos : Pos} {iter : Expr} {body : List Stmt} {cb : List CS} {k : SK} {cs : List CE} (hx : slotOf Γ sc x = some i) (hsrc : SrcOk S F q d Γ sc iter k cs) (hb : LSOk S F Fq q d Γ sc body cb) :
    SOk S F Fq q d Γ sc (.For (.Name x px) iter body [] pos) (.for i k cs cb) := fun env ρ f X σ s A st fw hne => by
  have hq : q = false := by
    cases q with
    | false => rfl
    | true => rw [x_for] at hne; exact absurd rfl hne
  have hh := st.cx.hand hq
  have key : exS F Fq q (.for i k cs cb) ρ σ = ((evL F q cs ρ σ).bind fun vs σ => R.lift σ (itemsBy σ k vs)).bind fun it σ => forItems it (fun x ρ σ => exL F Fq q cb (ρ.set i x) σ) ρ σ := by rw [x_for, hq, if_neg (by simp), R.bind_assoc]
  rw [key] at hne ⊢
  have hr : ((evL F q cs ρ σ).bind fun vs σ => R.lift σ (itemsBy σ k vs)) ≠ .stuck := fun e => hne (by rw [e]; rfl)
  refine wpAny_For ?_ (hsrc.1 env)
  refine wpAny_mono (hsrc.2 env ρ f X σ s A st hr) (fun xv s₁ h₁ => wpAny_mono h₁ (fun it s₂ h₂ => ?_) fun e s' h => ?_) fun e s' h => ?_
  rotate_left
  · obtain ⟨c, σ', g, ea, e1, e2, hg, kk, L, r⟩ := h
    exact ⟨c, σ', g, ea, e1, by rw [e2]; rfl, hg, (kk.mono fun a h => nomatch h), L, r⟩
  · obtain ⟨c, σ', g, ea, e1, e2, hg, kk, L, r⟩ := h
    exact ⟨c, σ', g, ea, e1, by rw [e2]; rfl, hg, (kk.mono fun a h => nomatch h), L, r⟩
  obtain ⟨its, σ₁, g, I, e1, rfl, hI, hIX, hg, kk, L, x0⟩ := h₂
  rw [e1, R.bind_ok] at hne ⊢
  have hIya := not_ya fw hIX
  have hIin : I ∈ I :: X := List.mem_cons_self
  have fw' : FW env (I :: X) := fw.more
  have hZX : ∀ a ∈ X, a ∈ I :: X ∧ a ∉ [I] := fun a ha => ⟨List.mem_cons_of_mem _ ha, fun h => hIX (List.mem_singleton.mp h ▸ ha)⟩
  have hZ : ∀ a ∈ [I], a ∈ I :: X := fun a ha => List.mem_singleton.mp ha ▸ List.mem_cons_self
  have fr0 : FR S (I :: X) (f ++ g) s₂.heap env Γ sc ρ := st.fr.later st.lk kk hg (fun a ha => (List.mem_cons.mp ha).elim (fun h => .inr (h ▸ hI)) .inl) fun a ha => List.mem_cons_of_mem _ ha
  have t0 : FTurn S s X f I env Γ sc its 0 ρ σ₁ g s₂ := ⟨hg, (kk.mono fun a h => nomatch h), L, x0, fr0⟩
  unfold forItems at hne ⊢
  generalize htot : forIt its (fun x ρ σ => exL F Fq q cb (ρ.set i x) σ) (itFuel σ₁ its) 0 ρ σ₁ = total at hne ⊢
  refine codeAny_forLoop (fun n s' => ∃ j ρ' σ' g, forIt its (fun x ρ σ => exL F Fq q cb (ρ.set i x) σ) n j ρ' σ' = total ∧ FTurn S s X f I env Γ sc its j ρ' σ' g s') ?_ (itFuel σ₁ its) ⟨0, ρ, σ₁, g, htot, t0⟩
  rintro n s' ⟨j, ρ', σ', g', hf, t⟩
  cases n with
  | zero => rw [forIt_zero] at hf; exact absurd hf.symm hne
  | succ n =>
  rw [zCD] at hf
  cases hnx : nextIt σ' its j with
  | none => rw [hnx] at hf; exact absurd hf.symm hne
  | some o =>
  rw [hnx] at hf
  cases o with
  | none =>
    have hf : R.ok (Fl.next ρ') σ' = total := hf
    refine wpAny_mono (zHB hh t.lk t.it hnx) (fun r s₃ h₃ => ?_) fun _ _ x => x
    obtain ⟨rfl, hr3, hk3⟩ := h₃
    have hkk : ∀ b o, b ∉ [I] → s'.heap.get? b = some o → s₃.heap.get? b = some o := fun b o hb e => hk3 b o (fun q => hb (q ▸ List.mem_singleton.mpr rfl)) e
    refine wpAny_execs_nil ?_
    exact ⟨.next ρ', σ', g', hf.symm, t.fresh, t.kp.ends (Z := [I]) hr3 hkk (fun b hb => List.mem_singleton.mp hb ▸ hI), t.lk.drop hZX hZ hkk, rfl, t.fr.drop fw hZX hZ hkk⟩
  | some x' =>
  have hf : ((exL F Fq q cb (ρ'.set i x') σ').bind fun fl σ => match fl with | .next ρ => forIt its (fun x ρ σ => exL F Fq q cb (ρ.set i x) σ) n (j + 1) ρ σ | .ret v => .ok (.ret v) σ) = total := hf
  refine wpAny_mono (zFi hIin t.lk t.it hnx) (fun r s₃ h₃ => ?_) fun _ _ x => x
  obtain ⟨v, rfl, m1, it1, rv⟩ := h₃
  have hlI : env.locals ≠ I := fun h => hIX (h ▸ fw.loc)
  have hcI : ∀ x c, env.cells.lookup x = some c → c ≠ I := fun x c e h => hIX (h ▸ fw.cellX x c e)
  have fr1 := t.fr.mv m1 hIin hlI hcI
  refine wpAny_assign_Name (zAY fr1 fw' hx rv fun b s4 hY hX m4 fr4 => ?_)
  have hbI : I ≠ b := fun h => hIya (h ▸ hY)
  have lk4 := m4.lk hX (m1.lk hIin t.lk)
  have it4 := it1.mv m4 hX hbI
  have kp3 : Kp f (ya env) s s₃ := t.kp.mv m1 hI
  have kp4 : Kp f (ya env) s s4 := kp3.trans t.fresh (m4.kp hY)
  have st4 : St S q d Γ sc env (ρ'.set i x') (f ++ g') (I :: X) σ' s4 A := ⟨st.cx.keep kp4 t.fresh, fr4, lk4⟩
  have hr5 : exL F Fq q cb (ρ'.set i x') σ' ≠ .stuck := fun e => hne (by rw [← hf, e]; rfl)
  refine wpAny_mono (hb env _ _ _ σ' s4 A st4 fw' hr5) (fun fl s6 h6 => ?_) fun e s6 h6 => ?_
  rotate_left
  · obtain ⟨c, σ5, g6, ea, rfl, e5, hg6, k6, lk6, x6⟩ := h6
    rw [e5] at hf
    have hf : R.exc c σ5 = total := hf
    subst hf
    have kp6 : Kp f (ya env) s s6 := kp4.trans t.fresh k6
    have fg6 : Fresh (g' ++ g6) s := t.fresh.trans kp4.live hg6
    obtain ⟨en, l, h1, h2, h3⟩ := (st4.cx.keep k6 hg6).frs
    obtain ⟨-, L1, -, -, -, h4, -⟩ := h3 en List.mem_cons_self
    rw [List.append_assoc] at h3 x6 lk6
    have xs : ExcR S X (f ++ (g' ++ g6)) σ5 s6.heap s.heap ea c := (x6.back fun a h => zAN kp4.live h).less fun a ha => List.mem_cons_of_mem _ ha
    have hX : ∀ a ∈ X, ∃ o, s.heap.get? a = some o := fun a ha => (st.lk.hid a ha).2.2
    show wpAny _ A (noteFrame (.ref ea) env) _ _ s6
    rw [zBB (env' := en) h2]
    refine zGT h1 h3 h4 xs hX (fun _ h => zAN kp6.live h) fun h₁ hs₁ oe vs T hf1 N1 x1 p1 p2 p3 => ?_
    show wpAny _ A (do if (← field (.ref ea) 1) == .none then unsupported "frame.own-activation:exception-without-traceback"
                       setFlight (.ref ea) env.frame) _ _ _
    refine wpAny_bind (wpAny_field p1 p2 p3 ?_)
    rw [if_neg (show ¬ ((Value.ref T == Value.none) = true) from by simp)]
    exact zAn (s := { s6 with heap := h₁ }) x1 hX fun h₂ hs₂ hf2 N2 L2 x2 => ⟨c, σ5, g' ++ g6, ea, rfl, rfl, fg6, N2.kp (N1.kp kp6 hf1) hf2, L2, x2⟩
  obtain ⟨fl5, σ5, g6, e5, hg6, k6, lk6, p6⟩ := h6
  rw [e5] at hf
  have hXf : ∀ a ∈ I :: X, a ∉ addrs (f ++ g') := fun a ha => (lk4.hid a ha).2.1
  have it6 := it4.keepY k6 hg6 hIin hXf (ya_mem fw') hIya
  have kp6 : Kp f (ya env) s s6 := kp4.trans t.fresh k6
  have fg6 : Fresh (g' ++ g6) s := t.fresh.trans kp4.live hg6
  rw [List.append_assoc] at lk6 it6 p6
  cases fl5 with
  | next ρ6 =>
    obtain ⟨rfl, fr6⟩ := p6
    exact ⟨n, Nat.lt_succ_self n, j + 1, ρ6, σ5, g' ++ g6, hf, fg6, kp6, lk6, it6, fr6⟩
  | ret v6 =>
    obtain ⟨w6, rfl, r6⟩ := p6
    have hf : R.ok (Fl.ret v6) σ5 = total := hf
    exact ⟨.ret v6, σ5, g' ++ g6, hf.symm, fg6, kp6, lk6.drop (Z := []) (fun a ha => ⟨List.mem_cons_of_mem _ ha, fun h => nomatch h⟩) (fun a h => nomatch h) (fun _ _ _ e => e), w6, rfl, r6.less fun a ha => List.mem_cons_of_mem _ ha⟩
end
end Mine
end

/-! # Stmt4 -/
section
set_option autoImplicit false
namespace Mine
open PySem PyProof.Rows
section
variable {S : Stat} {C : Ctx} {T : Nat → Option Fn} {F Fq : Calls} {q : Bool} {d : Nat} {Γ : List Str} {sc : Scope}
variable {X X' Y Z : List Addr} {f g : List Loc} {σ : Sto} {s s' : Shared} {A : Around} {E : Value → Shared → Prop} {I a : Addr} {its : Items} {i : Nat} {env : Env} {ρ : List V}
theorem Kp.go {s₁ s₂ : Shared} (k : Kp f Y s s₁) (k' : Kp f Y s₁ s₂) : Kp f Y s s₂ := k.trans (g := []) (.nil s) (by rw [List.append_nil]; exact k')
theorem ok_unpack3 {x y z : Str} {p1 p2 p3 tp pos cp : Pos} {n : Nat} {fn : Expr} {args : List Expr} {kws : List Keyword} {c : CE} {j k : Nat} (hi : slotOf Γ sc x = some i) (hj : slotOf Γ sc y = some j) (hk : slotOf Γ sc z = some k)
    (h : EOk S F q d Γ sc (.Call fn args kws cp) c) : SOk S F Fq q d Γ sc (.Assign [.Tuple [.Name x p1, .Name y p2, .Name z p3] n tp] (.Call fn args kws cp) pos) (.unpack3 i j k c) := fun env ρ f X σ s A st fw hne => by
  rw [zEn] at hne ⊢
  by_cases hq : q = true
  · rw [if_pos hq] at hne; exact absurd rfl hne
  rw [if_neg hq] at hne ⊢
  have hh : A.handled = none := st.cx.hand (by simpa using hq)
  refine Assign_Tuple ?_ rfl rfl
  refine Sim.goS (Γ := Γ) (sc := sc) (h env ρ f X σ s A st) hne (fun _ _ x => x) (fun _ _ x => x) fun va a' σ₁ g₁ s₁ hne hg kp L ra hQ hE => ?_
  split at hne
  · rename_i v1 v2 v3
    obtain ⟨ad, vs, m, rfl, hx, il, rs, _⟩ := zBb ra
    have hz := zAK rs
    have hvs : ∃ w1 w2 w3, vs.toList = [w1, w2, w3] ∧ VR S X (f ++ g₁) s₁.heap v1 w1 ∧ VR S X (f ++ g₁) s₁.heap v2 w2 ∧ VR S X (f ++ g₁) s₁.heap v3 w3 := by
      match hl : vs.toList, rs with
      | [w1, w2, w3], rs => rw [VRs, VRs, VRs] at rs; exact ⟨w1, w2, w3, rfl, rs.1, rs.2.1, rs.2.2.1⟩
      | [], rs => rw [VRs] at rs; exact rs.elim
      | [_], rs => rw [VRs, VRs] at rs; exact rs.2.elim
      | [_, _], rs => rw [VRs, VRs, VRs] at rs; exact rs.2.2.elim
      | _ :: _ :: _ :: _ :: _, rs => rw [VRs, VRs, VRs, VRs] at rs; exact rs.2.2.2.elim
    obtain ⟨w1, w2, w3, hl, r1, r2, r3⟩ := hvs
    refine wpAny_assign_Tuple hh ⟨_, il, rfl, m, rfl⟩ (by show 3 = vs.size; rw [← Array.length_toList, hl]; rfl) rfl fun h' he => ?_
    rw [hl]
    have ex : Ext s₁ { s₁ with heap := h' } := ⟨rfl, fun b o e => he b o (fun q => by have := Heap.lt_size e; rw [q] at this; exact Nat.lt_irrefl _ this) e⟩
    have k0 : Kp (f ++ g₁) (ya env) s₁ { s₁ with heap := h' } := ex.kp _ _
    have fr0 := (st.keep hg kp L).fr.keep L (ex.kp _ []) (.nil s₁)
    rw [List.append_nil] at fr0
    have L0 := ex.lk L
    show wpAny _ _ (do holding [w2, w3] (assign (.Name x p1) env w1); assignInOrder [assign (.Name y p2) env, assign (.Name z p3) env] [w2, w3]) _ _ _
    refine wpAny_bind (wpAny_holding (wpAny_assign_Name (zAY fr0 fw hi (ex.vr r1) fun b1 t1 hY1 hX1 m1 fr1 => ?_)))
    show wpAny _ _ (do holding [w3] (assign (.Name y p2) env w2); assignInOrder [assign (.Name z p3) env] [w3]) _ _ _
    refine wpAny_bind (wpAny_holding (wpAny_assign_Name (zAY fr1 fw hj (m1.vr hX1 (ex.vr r2)) fun b2 t2 hY2 hX2 m2 fr2 => ?_)))
    show wpAny _ _ (do holding [] (assign (.Name z p3) env w3); assignInOrder [] []) _ _ _
    refine wpAny_bind (wpAny_holding (wpAny_assign_Name (zAY fr2 fw hk (m2.vr hX2 (m1.vr hX1 (ex.vr r3))) fun b3 t3 hY3 hX3 m3 fr3 => ?_)))
    refine wpAny_pure (hQ _ _ ⟨_, σ₁, [], rfl, .nil s₁, ((k0.go (m1.kp hY1)).go (m2.kp hY2)).go (m3.kp hY3), ?_, rfl, ?_⟩)
    · rw [List.append_nil]; exact m3.lk hX3 (m2.lk hX2 (m1.lk hX1 L0))
    · rw [List.append_nil]; exact fr3
  · exact absurd rfl hne
end
end Mine
end

/-! # StmtX -/
section
set_option autoImplicit false
namespace Mine
open PySem PyProof.Rows
section
variable {S : Stat} {C : Ctx} {T : Nat → Option Fn} {F Fq : Calls} {q : Bool} {d : Nat} {Γ : List Str} {sc : Scope}
variable {X X' Y Z : List Addr} {f g : List Loc} {σ : Sto} {s s' s₀ : Shared} {A : Around} {E : Value → Shared → Prop} {I a ea : Addr} {its : Items} {i : Nat} {env : Env} {ρ : List V}
theorem zGy {st : Stmt} : SOk S F Fq q d Γ sc st .stuck := fun env ρ f X σ s A _ _ hne => absurd rfl hne
theorem zEg (fs : Facts S C T) {x : Str} {p : Pos} {c : Cls} {Q : Value → Shared → Prop} {σ' : Sto} (fr : FR S X f s.heap env Γ sc ρ) (L : Lk S X f σ' s.heap) (hx : excOf C sc x = some c) (h : C.excs.lookup x = some c → x ≠ ("ValueError" : Str) → Q (S.cl c) s) :
    wpAny (model S.prog S.w) A (eval (.Name x p) env) Q E s := by
  unfold excOf at hx
  split at hx
  · rename_i hc
    simp only [Bool.and_eq_true, bne_iff_ne, ne_eq] at hc
    obtain ⟨⟨hg, hd⟩, hv⟩ := hc
    obtain ⟨mg, mb, h1, h2, _, _, _, _, h3⟩ := fs.g
    refine wpAny_Name ?_ (by simpa using hd)
    rcases h3 x c hx with h4 | ⟨h4, h5⟩
    · exact zBg fr.kind (fr.isGlob hg) (by rw [fr.glob]; exact L.ns h1) h4 (h hx hv)
    · exact zCN fr.kind (fr.isGlob hg) (by rw [fr.glob]; exact L.ns h1) h4 (by rw [fr.blt]; exact L.ns h2) h5 (h hx hv)
  · first | exact zAA hx | exact ff_tt hx | cases hx
theorem ok_raise (fs : Facts S C T) {x m : Str} {np kp cp pos : Pos} {kk : Nat} {c : Cls} (hm : (m.length ≤ 1000 && PyData.strOk m) = true) (hx : excOf C sc x = some c) :
    SOk S F Fq q d Γ sc (.Raise (some (.Call (.Name x np) [.Constant (.str m) kk kp] [] cp)) none pos) (.raise c) := fun env ρ f X σ s A st fw hne => by
  have e0 : exS F Fq q (.raise c) ρ σ = if q = true then .stuck else .exc c σ := rfl
  rw [e0] at hne ⊢
  by_cases hq : q = true
  · rw [if_pos hq] at hne; exact absurd rfl hne
  rw [if_neg hq]
  have hh : A.handled = none := st.cx.hand (by simpa using hq)
  have hcl : ∃ y, C.excs.lookup y = some c ∧ y ≠ ("ValueError" : Str) := by
    unfold excOf at hx
    split at hx
    · rename_i hc
      simp only [Bool.and_eq_true, bne_iff_ne, ne_eq] at hc
      exact ⟨x, hx, hc.2⟩
    · first | exact zAA hx | exact ff_tt hx | cases hx
  obtain ⟨y, hy, hv⟩ := hcl
  obtain ⟨Ca, bm, N, nm, qn, bs, hdct, sn, sub, ab, col, dd, k0, k1, k2, k3, k5, mN, hcl, hC, hN, hni, OT, -, _⟩ := (fs.exc y c hy).2 hv
  refine wpAny_Raise_call_subT (C := Ca) (nm := nm) (q := qn) (N := N) (bs := bs) (bm := bm) (hdct := hdct) (sn := sn) (sub := sub) (ab := ab) (col := col) (dd := dd) (k0 := k0) (k1 := k1) (k2 := k2) (k3 := k3) (k5 := k5)
    PySem.F.excBase_ValueError (mN := mN) (OT.hasType rfl) hh rfl hni (zEg fs st.fr st.lk hx fun _ _ => ⟨hcl, ?_⟩)
  refine zBR rfl (spliced1 rfl ?_)
  refine wpAny_mono ((ok_str (F := F) (q := q) (d := d) (Γ := Γ) (sc := sc) hm) env ρ f X σ s A st (by rw [x_lit]; simp)) (fun v s₁ h₁ => ?_) fun e s' h => ?_
  · obtain ⟨b, σ', g, e, hg, k, L, r⟩ := h₁
    rw [x_lit] at e; cases e
    refine ⟨rfl, by show 1 ≤ sizeLine; decide, L.base _ _ hC, L.ns hN, OT.keeps L.base, fun h' e hm => ?_⟩
    obtain ⟨t, he, -, -⟩ := hm.there
    have ex : Ext s₁ { s₁ with heap := h' } := ⟨rfl, hm.keeps⟩
    have ky : Kp f (ya env) s s₁ := k.mono fun a h => nomatch h
    refine ⟨c, σ, g, e, rfl, rfl, hg, ky.trans hg (ex.kp _ _), ex.lk L, zAN k.live hm.new, (fs.exc y c hy).2 hv, [e], _, _, L.hideNew ex hm.new he, he, hcl.symm, rfl, .inl ⟨rfl, rfl⟩⟩
  · obtain ⟨_, _, _, _, _, e, _⟩ := h
    rw [x_lit] at e; cases e
noncomputable def tkEnv (k : TK) (v : V) (ρ : List V) : List V :=
  match k with
  | .asg i => ρ.set i v
  | _ => ρ
inductive QT (S : Stat) (X : List Addr) (env : Env) (Γ : List Str) (sc : Scope) (f : List Loc) (s : Shared) (ρ : List V) (k : TK) (r : R V) (fl : Flow) (s' : Shared) : Prop where
  | mk (v : V) (σ' : Sto) (g : List Loc) (e : r = .ok v σ') (hg : Fresh g s) (kp : Kp f (ya env) s s') (L : Lk S X (f ++ g) σ' s'.heap) (p : FlR S X (f ++ g) s'.heap env Γ sc (tkFl k v ρ) fl) (fr : FR S X (f ++ g) s'.heap env Γ sc (tkEnv k v ρ))
noncomputable def TKOk (S : Stat) (F : Calls) (q : Bool) (d : Nat) (Γ : List Str) (sc : Scope) (ss : List Stmt) (k : TK) (c : CE) : Prop :=
  ∀ (env : Env) (ρ : List V) (f : List Loc) (X : List Addr) (σ : Sto) (s : Shared) (A : Around), St S q d Γ sc env ρ f X σ s A → FW env X → evE F q c ρ σ ≠ .stuck →
    wpAny (model S.prog S.w) A (execs ss env) (QT S X env Γ sc f s ρ k (evE F q c ρ σ)) (ES S X [] f false s (evE F q c ρ σ)) s
theorem tk_ret {e : Expr} {c : CE} {pos : Pos} (h : EOk S F q d Γ sc e c) : TKOk S F q d Γ sc [.Return (some e) pos] .ret c := fun env ρ f X σ s A st fw hne => by
  refine wpAny_execs_cons (wpAny_Return_some (wpAny_mono (h env ρ f X σ s A st hne) (fun v s₁ h₁ => ?_) fun _ _ x => x))
  obtain ⟨b, σ', g, e, hg, k, L, r⟩ := h₁
  exact ⟨b, σ', g, e, hg, (k.mono fun a h => nomatch h), L, ⟨v, rfl, r⟩, (st.keep hg k L).fr⟩
theorem tk_exp {e : Expr} {c : CE} {pos : Pos} (h : EOk S F q d Γ sc e c) (hs : ∀ env n t, swapsWith e t n env = pure false) : TKOk S F q d Γ sc [.Expr e pos] .exp c := fun env ρ f X σ s A st fw hne => by
  refine wpAny_execs_cons (wpAny_Expr_any (wpAny_mono (h env ρ f X σ s A st hne) (fun v s₁ h₁ => ?_) fun _ _ x => x) (by simp [interactive, st.fr.kind]) (hs _ _ _))
  obtain ⟨b, σ', g, e, hg, k, L, r⟩ := h₁
  exact wpAny_execs_nil ⟨b, σ', g, e, hg, (k.mono fun a h => nomatch h), L, ⟨rfl, (st.keep hg k L).fr⟩, (st.keep hg k L).fr⟩
theorem tk_asg {x : Str} {px pos : Pos} {e : Expr} {c : CE} (hx : slotOf Γ sc x = some i) (h : EOk S F q d Γ sc e c) (hs : ∀ env n t, swapsWith e t n env = pure false) : TKOk S F q d Γ sc [.Assign [.Name x px] e pos] (.asg i) c := fun env ρ f X σ s A st fw hne => by
  refine wpAny_execs_cons (wpAny_Assign_Name (wpAny_mono (h env ρ f X σ s A st hne) (fun v s₁ h₁ => ?_) fun _ _ x => x) (hs _ _ _))
  obtain ⟨b, σ', g, e, hg, k, L, r⟩ := h₁
  refine zAY (st.keep hg k L).fr fw hx r fun b' s' hY hX m fr => wpAny_execs_nil ?_
  have ky : Kp f (ya env) s s₁ := k.mono fun a h => nomatch h
  exact ⟨b, σ', g, e, hg, ky.trans hg (m.kp hY), m.lk hX L, ⟨rfl, fr⟩, fr⟩
end
end Mine
end

/-! # StmtY -/
section
set_option autoImplicit false
namespace Mine
open PySem PyProof.Rows
section
variable {S : Stat} {C : Ctx} {T : Nat → Option Fn} {F Fq : Calls} {q : Bool} {d : Nat} {Γ : List Str} {sc : Scope}
variable {X X' Y Z : List Addr} {f g : List Loc} {σ : Sto} {s s' s₀ : Shared} {A : Around} {E : Value → Shared → Prop} {I a ea : Addr} {its : Items} {i : Nat} {env : Env} {ρ : List V}
theorem match_at {M : Model} {h : Heap} {g : Array GenState} {d : Drawn} {t : Nat} {os : OsState} {oe : Obj} {Q : Bool → Shared → Prop}
    {nm q nm' q' : Str} {Ca N Cd N' : Addr} {bs bm bs' bm' : List Value} {hdct hdct' : Bool} {sn sn' : List Str} {sub sub' : List Value} {ab ab' : Bool} {col col' : Option Bool} {dd dd' : Option Addr} {k0 k1 k2 k3 k5 k0' k1' k2' k3' k5' : Option Value} {newId newId' : String}
    (hC : h.get? Ca = some (excClassObj nm q Ca N bs bm hdct sn sub ab col dd k0 k1 k2 k3 k5 newId)) (hD : h.get? Cd = some (excClassObj nm' q' Cd N' bs' bm' hdct' sn' sub' ab' col' dd' k0' k1' k2' k3' k5' newId'))
    (he : h.get? ea = some oe) (hcls : oe.cls = .ref Ca) (hbase : bm'.contains (.type "BaseException") = true)
    {b : Bool} (hb : (Value.ref Ca :: bm).contains (.ref Cd) = b) (hq : Q b ⟨h, g, d, t, os⟩) : wpAny M A (excMatches (.ref ea) (.ref Cd)) Q E ⟨h, g, d, t, os⟩ := by
  have hcB : (Value.ref Cd :: bm').contains (.type "BaseException") = true := by rw [List.contains_cons, hbase, Bool.or_true]
  have f := tc_notTuple
  unfold excMatches
  cases b <;>
  (repeat (first | (with_reducible refine wpAny_loadPart_at he ?_; rw [hcls]) | with_reducible refine wpAny_loadPart_at hD ?_ | (with_reducible refine wpAny_isSubtype_exc hD ?_; rw [hcB]) | (with_reducible refine wpAny_isSubtype_exc hC ?_; rw [hb]) | wp_step)
   exact hq)
theorem zGU {c k : Cls} {oe : Obj} {Q : Bool → Shared → Prop} (L : Lk S X f σ s.heap) (xc : ExcCl S c) (xk : ExcCl S k) (hk : k ∈ S.kn) (he : s.heap.get? ea = some oe) (hcls : oe.cls = S.cl c) (h : Q (c.sub k) s) :
    wpAny (model S.prog S.w) A (excMatches (.ref ea) (S.cl k)) Q E s := by
  obtain ⟨Ca, bm, N, nm, qn, bs, hdct, sn, sub, ab, col, dd, k0, k1, k2, k3, k5, mN, hcl, hC, hN, hni, OT, hm, _⟩ := xc
  obtain ⟨Cd, bm', N', nm', qn', bs', hdct', sn', sub', ab', col', dd', k0', k1', k2', k3', k5', mN', hcl', hC', hN', hni', OT', hm', _⟩ := xk
  have := hm k hk
  rw [hcl'] at this ⊢
  rw [hcl] at hcls
  obtain ⟨hp, g, d, tk, os⟩ := s
  exact match_at (L.base _ _ hC) (L.base _ _ hC') he hcls (OT'.hasType rfl) this h
theorem instX {k : Cls} {a x : V} (e : ev1 (.isInst (.exc k)) σ a = some x) : ∃ c, a = .exc c ∧ x = .bool (c.sub k) := by
  have e : (instK σ (.exc k) a).map V.bool = some x := e
  cases a with
  | exc c => cases e; exact ⟨c, rfl, rfl⟩
  | ref n =>
    have e : (refK σ[n]? (.exc k)).map V.bool = some x := e
    cases h : σ[n]? with
    | none => rw [h] at e; exact zAA e
    | some o => rw [h] at e; cases o <;> exact zAA e
  | _ => exact zAA e
theorem vr_exc {h : Heap} {c : Cls} {v : Value} (r : VR S X f h (.exc c) v) : ∃ a o, v = .ref a ∧ (a ∉ addrs f ∧ a ∉ X) ∧ h.get? a = some o ∧ o.cls = S.cl c ∧ ExcCl S c := by
  rw [VR] at r; exact r
theorem isX_sound {c k : Cls} {oe : Obj} (L : Lk S X f σ s.heap) (xc : ExcCl S c) (xk : ExcCl S k) (hk : k ∈ S.kn) (he : s.heap.get? ea = some oe) (hcls : oe.cls = S.cl c) :
    wpAny (model S.prog S.w) A (call (.builtin "isinstance") [.ref ea, S.cl k]) (PE S X f s (.bool (c.sub k))) E s := by
  obtain ⟨Ca, bm, N, nm, qn, bs, hdct, sn, sub, ab, col, dd, k0, k1, k2, k3, k5, mN, hcl, hC, hN, hni, OT, hm, TC⟩ := xc
  obtain ⟨Cd, bm', N', nm', qn', bs', hdct', sn', sub', ab', col', dd', k0', k1', k2', k3', k5', mN', hcl', hC', hN', hni', OT', hm', _⟩ := xk
  have := hm k hk
  rw [hcl'] at this ⊢
  rw [hcl] at hcls
  obtain ⟨hp, g, d, tk, os⟩ := s
  exact isi_own (L.base _ _ hC) (TC.keeps L.base) (L.base _ _ hC') he hcls this .bool0 .bool
theorem zGR (fs : Facts S C T) {k : Str} {kc : Cls} {p pk pos : Pos} {e : Expr} {c : CE} (hg : isGlob sc "isinstance" = true) (hn : C.fns.lookup ("isinstance" : Str) = none) (hk : excOf C sc k = some kc) (hs : isStar e = false) (h : EOk S F q d Γ sc e c) :
    EOk S F q d Γ sc (.Call (.Name ("isinstance" : Str) p) [e, .Name k pk] [] pos) (.p1 (.isInst (.exc kc)) c) := fun env ρ f X σ s A st hne => by
  rw [x_p1, show loud1 (.isInst (.exc kc)) = false from rfl, Bool.false_and, if_neg (by simp)] at hne ⊢
  refine wpAny_Call_NameR (zAj fs st hg hn (.inr (.inr (.inr (.inl rfl)))) zBw (by decide) ?_)
  refine zAT (zAM _ (by rw [List.any_cons, hs]; rfl)) (spliced2 hs rfl ?_)
  refine Sim.goN (h env ρ f X σ s A st) hne (fun _ _ x => x.qs) (fun _ _ x => x) fun va a' σ₁ g₁ s₁ hne hg k L ra hQ hE => ?_
  have st1 := st.keep hg k L
  refine zEg fs st1.fr st1.lk hk fun hx hv => ?_
  obtain ⟨x, hx'⟩ := zAg hne
  rw [hx'] at hQ
  obtain ⟨c0, rfl, rfl⟩ := instX hx'
  obtain ⟨a, o, rfl, -, e3, e4, e5⟩ := vr_exc ra
  exact ⟨zAP (by simp), wpAny_mono (isX_sound L e5 ((fs.exc _ kc hx).2 hv) (fs.exc _ kc hx).1 e3 e4) (fun v s' p => hQ v s' (p.here L)) fun _ _ x => x⟩
theorem Cx.mark {fr : Option Addr} {h : Heap} {v : Value} (c : Cx S A q d f h fr) : Cx S (A.mark (some v)) true d f h fr :=
  ⟨c.depth, c.units, fun h => (nomatch h), c.frs⟩
theorem gone_sound {x : Str} {pos : Pos} {Q : Unit → Shared → Prop} (fr : FR S X f s.heap env Γ sc ρ) (fw : FW env X) (hl : sc.names.lookup x = some .local) (hx : slotOf Γ sc x = some i)
    (h : ∀ s', Mv env.locals s s' → FR S X f s'.heap env Γ sc (ρ.set i .undef) → Q () s') : wpAny (model S.prog S.w) A (do bindName env x .none; unbindBehindTheSuite env x pos) Q E s := by
  obtain ⟨-, hi⟩ := zCz hx
  have hk : env.kindOf x = some .local := by
    rcases fr.names x with e | ⟨e, _⟩
    · rw [e]; exact hl
    · rw [hl] at e; first | exact zAA e | exact ff_tt e | cases e
  have hil : i < ρ.length := by rw [fr.len]; exact zBW hi
  obtain ⟨m, hm⟩ := fr.loc.2
  have setv : ∀ {j : Nat} {v' : V}, (ρ.set i .undef)[j]? = some v' → j ≠ i → ρ[j]? = some v' := fun h hne => by rwa [List.getElem?_set_ne (fun q => hne q.symm)] at h
  have cellNe : ∀ x c, isCellKind (env.kindOf x) → env.cells.lookup x = some c → c ≠ env.locals := fun x c hk e q => by
    obtain ⟨c', o, e', _, ⟨ob, h1, h2⟩⟩ := fr.cells x hk
    rw [e] at e'; cases e'
    obtain ⟨ob', es, ep, h3, h4, _⟩ := hm
    rw [q, h3] at h1; cases h1; rw [h4] at h2; cases h2
  refine wpAny_nameGoes_keeps hk hm (by simp [fr.kind]) fun h' v hn' hs' => ?_
  obtain ⟨o2, es2, ep2, e3, e4, _⟩ := id hn'
  have mv : Mv env.locals s { s with heap := h', toks := s.toks + 1 } := ⟨rfl, fun b o hb e => (hs'.2 b hb).trans e, ⟨o2, e3⟩, fun _ _ _ _ _ => ⟨o2, es2, ep2, e3, e4⟩⟩
  have cl : ∀ {b : Addr} {m' : Option Value}, b ≠ env.locals → s.heap.IsCell b m' → h'.IsCell b m' := fun hb h => by
    obtain ⟨o, ho, r⟩ := h
    exact ⟨o, mv.keep _ _ hb ho, r⟩
  refine h _ mv ⟨fr.kind, fr.glob, fr.blt, fr.names, ⟨fr.loc.1, _, hn'⟩, fun y hy => ?_, fun y j v' h1 h2 h3 h4 => ?_, by rw [List.length_set]; exact fr.len⟩
  · obtain ⟨c, o, e1, hX, h5⟩ := fr.cells y hy
    exact ⟨c, o, e1, hX, cl (cellNe y c hy e1) h5⟩
  · by_cases hj : j = i
    · subst hj
      rw [List.getElem?_set_self hil] at h3; cases h3
      exact absurd rfl h4
    · obtain ⟨w', h5, h6⟩ := fr.vals y j v' h1 h2 (setv h3 hj) h4
      refine ⟨w', ?_, mv.vr fw.loc h6⟩
      rcases h5 with ⟨k, m', h7, h8⟩ | ⟨k, c, h7, h8⟩
      · refine .inl ⟨k, _, hn', ?_⟩
        have hyx : y ≠ x := fun q => by rw [q, hi] at h2; cases h2; exact hj rfl
        obtain ⟨ob, es, ep, q1, q2, q3, q4⟩ := h7
        obtain ⟨ob', es', ep', p1, p2, p3, p4⟩ := hm
        rw [q1] at p1; cases p1; rw [q2] at p2; cases p2
        show (if y = x then v else m y) = some w'
        rw [if_neg hyx, ← p4 y, q4 y, h8]
      · exact .inr ⟨k, c, h7, cl (cellNe y c k h7) h8⟩
noncomputable def AsOk (Γ : List Str) (sc : Scope) (n : Option Str) (as : Option Nat) : Prop := (n = none ∧ as = none) ∨ ∃ x i, n = some x ∧ as = some i ∧ sc.names.lookup x = some .local ∧ slotOf Γ sc x = some i
structure HdOk (S : Stat) (C : Ctx) (Fq : Calls) (d : Nat) (Γ : List Str) (sc : Scope) (h : ExceptHandler) (c : Hd) : Prop where
  ex : ∃ x np n b₀ body pos, h = .ExceptHandler (some (.Name x np)) n (b₀ :: body) pos ∧ excOf C sc x = some c.cls ∧ AsOk Γ sc n c.as ∧ TKOk S Fq true d Γ sc (b₀ :: body) c.tk c.e
inductive TKCalm (S : Stat) (A : Around) (X : List Addr) (env : Env) (Γ : List Str) (sc : Scope) (f : List Loc) (s : Shared) (ρ : List V) (ss : List Stmt) (k : TK) (r : R V) : Prop
  | mk (v : V) (σ' : Sto) (e : r = .ok v σ') (w : ∀ E, wpAny (model S.prog S.w) A (execs ss env) (QT S X env Γ sc f s ρ k (.ok v σ')) E s)
theorem TKOk.calm {ss : List Stmt} {k : TK} {c : CE} {γ : Type} {rk : V → Sto → R γ} (h : TKOk S F q d Γ sc ss k c) (st : St S q d Γ sc env ρ f X σ s A) (fw : FW env X) (hne : (evE F q c ρ σ).calm.bind rk ≠ .stuck) :
    TKCalm S A X env Γ sc f s ρ ss k (evE F q c ρ σ) := by
  have hs := h env ρ f X σ s A st fw
  cases hr : evE F q c ρ σ with
  | ok v σ' =>
    rw [hr] at hs
    refine ⟨v, σ', rfl, fun E => wpAny_mono (hs (by simp)) (fun _ _ x => x) fun e s' q => ?_⟩
    obtain ⟨_, _, _, _, _, e, _⟩ := q; cases e
  | exc _ _ => rw [hr] at hne; exact absurd rfl hne
  | stuck => rw [hr] at hne; exact absurd rfl hne
structure Met (S : Stat) (q : Bool) (d : Nat) (Γ : List Str) (sc : Scope) (env : Env) (ρ : List V) (f g : List Loc) (X : List Addr) (σ₀ σ : Sto) (s₀ s : Shared) (A : Around) (ea : Addr) (k : Cls) : Prop where
  st : St S q d Γ sc env ρ f X σ₀ s₀ A
  fw : FW env X
  fresh : Fresh g s₀
  kp : Kp f [] s₀ s
  lk : Lk S X (f ++ g) σ s.heap
  exc : ExcR S X (f ++ g) σ s.heap s₀.heap ea k
theorem Met.alive {σ₀ : Sto} {k : Cls} (m : Met S q d Γ sc env ρ f g X σ₀ σ s₀ s A ea k) : ∀ a ∈ X, ∃ o, s₀.heap.get? a = some o := fun a ha => (m.st.lk.hid a ha).2.2
theorem handle_ok (fs : Facts S C T) {σ₀ : Sto} {k : Cls} (m : Met S q d Γ sc env ρ f g X σ₀ σ s₀ s A ea k) : ∀ {hs : List ExceptHandler} {cs : List Hd}, All2 (HdOk S C Fq d Γ sc) hs cs → exH Fq cs ρ k σ ≠ .stuck →
    wpAny (model S.prog S.w) A (handleBy (.ref ea) env hs) (QF S X env Γ sc f s₀ (exH Fq cs ρ k σ)) E s := by
  intro hs cs h
  induction h with
  | nil => intro hne; exact absurd rfl hne
  | @cons h c hs cs hh hr ih =>
    intro hne
    obtain ⟨x, np, n, b₀, body, pos, rfl, hx, has, htk⟩ := hh.ex
    have st := m.st.keep m.fresh m.kp m.lk
    have e0 : exH Fq (c :: cs) ρ k σ = if k.sub c.cls = true then ((evE Fq true c.e (hdEnv c.as k ρ) σ).calm.bind fun v σ => .ok (hdEnd c.as (tkFl c.tk v (hdEnv c.as k ρ))) σ) else exH Fq cs ρ k σ := rfl
    rw [e0] at hne ⊢
    obtain ⟨e1, ec, hs', oe, vs, Lh, e4, e5, e6, e8⟩ := id m.exc
    refine wpAny_handleBy_cons (codeAny_handlers_test (zEg fs st.fr m.lk hx fun hc hv => ?_)) (by intro q; cases q)
    refine zGU m.lk ec ((fs.exc x c.cls hc).2 hv) (fs.exc x c.cls hc).1 e4 e5 ?_
    by_cases hsub : k.sub c.cls = true
    · rw [if_pos hsub] at hne
      rw [hsub]
      simp only [if_true]
      rcases has with ⟨rfl, ha⟩ | ⟨y, i, rfl, ha, hl, hsl⟩
      · rw [ha] at hne ⊢
        refine codeAny_handlers_suite (zAn m.exc m.alive fun h' hs'' hf N L' x' => ?_)
        have kp' := N.kp m.kp hf
        have st' : St S true d Γ sc env ρ (f ++ g) X σ { s with heap := h' } (A.mark (some (.ref ea))) := by
          have := m.st.keep m.fresh kp' L'
          exact ⟨this.cx.mark, this.fr, this.lk⟩
        obtain ⟨v, σ', ev, w⟩ := htk.calm st' m.fw hne
        refine wpAny_mono (w _) (fun fl s₁ q => ?_) fun _ _ x => x
        obtain ⟨v', σ2, g2, ez, hg2, k2, L2, p2, -⟩ := q
        cases ez
        rw [show hdEnv none k ρ = ρ from rfl, ev]
        have kp1 : Kp f (ya env) s₀ { s with heap := h' } := kp'.mono fun a h => nomatch h
        rw [List.append_assoc] at L2 p2
        exact ⟨_, σ', g ++ g2, rfl, m.fresh.trans kp1.live hg2, kp1.trans m.fresh k2, L2, p2⟩
      · rw [ha] at hne ⊢
        refine codeAny_handlers_suite_as (zAn m.exc m.alive fun h' hs'' hf N L' x' => ?_)
        have kp' := N.kp m.kp hf
        have st' := m.st.keep m.fresh kp' L'
        obtain ⟨e1', ec', hs3, oe', vs', Lh', e4', e5', e6', e8'⟩ := x'
        have hea : ea ∈ hs3 := by rcases e8' with ⟨rfl, _⟩ | ⟨T, _, _, rfl, _⟩ <;> exact List.mem_cons_self
        have r : VR S X (f ++ g) h' (.exc k) (.ref ea) := by
          rw [VR]
          refine ⟨ea, oe', rfl, ⟨(Lh'.hid ea (List.mem_append_left _ hea)).2.1, fun q => ?_⟩, e4', e5', ec'⟩
          obtain ⟨o, z⟩ := m.alive ea q; rw [e1'] at z; cases z
        refine zAY (s := { s with heap := h' }) st'.fr m.fw hsl r fun b s₁ hY hX mv fr => ?_
        have kp1 : Kp f (ya env) s₀ s₁ := (kp'.mono fun a h => nomatch h).trans m.fresh (mv.kp hY)
        have st1 : St S true d Γ sc env (ρ.set i (.exc k)) (f ++ g) X σ s₁ (A.mark (some (.ref ea))) := ⟨(m.st.cx.keep kp1 m.fresh).mark, fr, mv.lk hX L'⟩
        obtain ⟨v, σ', ev, w⟩ := htk.calm st1 m.fw hne
        refine wpAny_mono (w _) (fun fl s₂ q => ?_) fun _ _ x => x
        obtain ⟨v', σ2, g2, ez, hg2, k2, L2, p2, fr2⟩ := q
        cases ez
        have fg2 : Fresh (g ++ g2) s₀ := m.fresh.trans kp1.live hg2
        have kp2 : Kp f (ya env) s₀ s₂ := kp1.trans m.fresh k2
        rw [List.append_assoc] at L2 p2 fr2
        rw [show hdEnv (some i) k ρ = ρ.set i (.exc k) from rfl, ev]
        refine gone_sound fr2 m.fw hl hsl fun s₃ mv3 fr3 => ?_
        refine ⟨_, σ', g ++ g2, rfl, fg2, kp2.trans fg2 (mv3.kp List.mem_cons_self), mv3.lk m.fw.loc L2, ?_⟩
        cases htk : c.tk with
        | ret =>
          rw [htk] at p2
          obtain ⟨w2, rfl, r2⟩ := p2
          exact ⟨w2, rfl, mv3.vr m.fw.loc r2⟩
        | asg j => rw [htk] at p2 fr3; exact ⟨p2.1, fr3⟩
        | exp => rw [htk] at p2 fr3; exact ⟨p2.1, fr3⟩
    · rw [if_neg hsub] at hne ⊢
      have : k.sub c.cls = false := by simpa using hsub
      rw [this]
      exact ih hne
theorem ok_try (fs : Facts S C T) {b₀ : Stmt} {body : List Stmt} {h₀ : ExceptHandler} {hs : List ExceptHandler} {k : TK} {c : CE} {cs : List Hd} {pos : Pos} (hb : TKOk S F q d Γ sc (b₀ :: body) k c) (hh : All2 (HdOk S C Fq d Γ sc) (h₀ :: hs) cs) :
    SOk S F Fq q d Γ sc (.Try (b₀ :: body) (h₀ :: hs) [] [] pos) (.try k c cs) := fun env ρ f X σ s A st fw hne => by
  have e0 : exS F Fq q (.try k c cs) ρ σ = if q = true then .stuck else (evE F q c ρ σ).orElse (fun v σ => .ok (tkFl k v ρ) σ) (exH Fq cs ρ) := rfl
  rw [e0] at hne ⊢
  by_cases hq : q = true
  · rw [if_pos hq] at hne; exact absurd rfl hne
  rw [if_neg hq] at hne ⊢
  have hr : evE F q c ρ σ ≠ .stuck := fun e => hne (by rw [e]; rfl)
  refine wpAny_Try_except (wpAny_mono (hb env ρ f X σ s A st fw hr) (fun fl s₁ h₁ => ?_) fun e s₁ h₁ => ?_)
  · obtain ⟨v, σ', g, e, hg, kk, L, p, -⟩ := h₁
    rw [e]
    have : QF S X env Γ sc f s ((R.ok v σ').orElse (fun v σ => .ok (tkFl k v ρ) σ) (exH Fq cs ρ)) fl s₁ := ⟨_, σ', g, rfl, hg, kk, L, p⟩
    cases fl with
    | next => exact wpAny_execs_nil this
    | _ => exact this
  · obtain ⟨c', σ', g, ea, rfl, e2, hg, kk, L, x⟩ := h₁
    rw [e2] at hne ⊢
    have hne : exH Fq cs ρ c' σ' ≠ .stuck := hne
    obtain ⟨en, l, h1, h2, h3⟩ := (st.cx.keep kk hg).frs
    have hX : ∀ a ∈ X, ∃ o, s.heap.get? a = some o := fun a ha => (st.lk.hid a ha).2.2
    obtain ⟨h0, L1, o, es, n, h4, -⟩ := h3 en List.mem_cons_self
    rw [zBB (env' := en) h2]
    refine zDh h1 h3 h4 x hX kk fun h' kk' L' x' => ?_
    have m : Met S q d Γ sc env ρ f g X σ σ' s { s₁ with heap := h' } A ea c' := ⟨st, fw, hg, kk', L', x'⟩
    exact handle_ok fs m hh hne
end
end Mine
end

/-! # ExprB -/
section
set_option autoImplicit false
namespace Mine
open PySem PyProof.Rows
section
variable {S : Stat} {C : Ctx} {T : Nat → Option Fn} {F Fq : Calls} {q : Bool} {d : Nat} {Γ : List Str} {sc : Scope}
variable {X X' Y Z : List Addr} {f g : List Loc} {σ : Sto} {s s' : Shared} {A : Around} {E : Value → Shared → Prop} {env : Env} {ρ : List V}
end
end Mine
end

/-! # ExprD -/
section
set_option autoImplicit false
namespace Mine
open PySem PyProof.Rows
section
variable {S : Stat} {C : Ctx} {T : Nat → Option Fn} {F Fq : Calls} {q : Bool} {d : Nat} {Γ : List Str} {sc : Scope}
variable {X X' Y Z : List Addr} {f g : List Loc} {σ : Sto} {s s' : Shared} {A : Around} {E : Value → Shared → Prop} {env : Env} {ρ : List V}
end
end Mine
end

/-! # Sound -/
section
set_option autoImplicit false
namespace Mine
open PySem PyProof.Rows
section
variable {S : Stat} {C : Ctx} {T : Nat → Option Fn} {F Fq : Calls} {q : Bool} {d : Nat}
theorem GOk.of {Γ : List Str} {sc : Scope} {e : Expr} {c : CE} (h : EOk S F q d Γ sc e c) (he : ∀ env whole, isTrue e env whole = (do let v ← whole; standAt e.pos; holding [v] (PySem.truthy v))) (hs : isStar e = false) (hm : ∀ op, behindInMarks op e = false) (hf : ∀ env x, foldedSetIterable e env x = pure x) : GOk S F q d Γ sc e c :=
  ⟨h, .plain h he, hs, hm, hf⟩
theorem mapM_all2 {ops : List CmpOp} {os : List P2} (h : ops.mapM cmpOf = some os) : All2 (fun op o => cmpOf op = some o) ops os := by
  induction ops generalizing os with
  | nil => simp at h; subst h; exact .nil
  | cons op ops ih =>
    simp only [List.mapM_cons] at h
    cases h1 : cmpOf op with
    | none => first | (rw [h1] at h; exact zAA h) | simp [h1] at h
    | some o =>
      cases h2 : ops.mapM cmpOf with
      | none => first | (rw [h1, h2] at h; exact zAA h) | (rw [h1, Option.bind_some, h2] at h; exact zAA h) | simp [h1, h2] at h
      | some os' =>
        simp [h1, h2] at h
        subst h
        exact .cons h1 (ih h2)
structure Clean (C : Ctx) : Prop where
  dbg : C.fns.lookup ("__debug__" : Str) = none
  isin : C.fns.lookup ("isinstance" : Str) = none
  rng : C.fns.lookup ("range" : Str) = none
theorem Clean.nd (cl : Clean C) {x : Str} {n : Nat} (h : C.fns.lookup x = some n) : (x == ("__debug__" : Str)) = false := by
  cases e : (x == ("__debug__" : Str)) with
  | false => rfl
  | true => rw [eq_of_beq e, cl.dbg] at h; first | exact zAA h | exact ff_tt h | cases h
theorem g_name (fs : Facts S C T) {Γ : List Str} {sc : Scope} {x : Str} {pos : Pos} {c : CE} (h : cName C Γ sc x = some c) : GOk S F q d Γ sc (.Name x pos) c :=
  .of (ok_name fs h) (fun _ _ => rfl) rfl (fun _ => rfl) fun _ _ => rfl
theorem zCP {Γ : List Str} {sc : Scope} {f : Expr} {es : List Expr} {pos : Pos} {c : CE} (h : EOk S F q d Γ sc (.Call f es [] pos) c) : GOk S F q d Γ sc (.Call f es [] pos) c :=
  .of h (fun _ _ => rfl) rfl (fun _ => rfl) fun _ _ => rfl
theorem g_sub {Γ : List Str} {sc : Scope} {o i : Expr} {pos : Pos} {c : CE} (h : EOk S F q d Γ sc (.Subscript o i pos) c) : GOk S F q d Γ sc (.Subscript o i pos) c :=
  .of h (fun _ _ => rfl) rfl (fun _ => rfl) fun _ _ => rfl
noncomputable def IfOk (S : Stat) (F : Calls) (q : Bool) (d : Nat) (Γ : List Str) (sc : Scope) (ifs : List Expr) (cond : Option CE) : Prop := (ifs = [] ∧ cond = none) ∨ ∃ e c, ifs = [e] ∧ cond = some c ∧ TOk S F q d Γ sc e c
noncomputable def OptOk (S : Stat) (F : Calls) (q : Bool) (d : Nat) (Γ : List Str) (sc : Scope) (o : Option Expr) (c : Option CE) : Prop := (o = none ∧ c = none) ∨ ∃ e' c', o = some e' ∧ c = some c' ∧ EOk S F q d Γ sc e' c'
section
variable {rec : List Str → Scope → Expr → Option CE}
theorem cL_ok (hr : ∀ Γ sc e c, rec Γ sc e = some c → GOk S F q d Γ sc e c) {Γ : List Str} {sc : Scope} : ∀ {es : List Expr} {cs : List CE}, cL rec Γ sc es = some cs → All2 (GOk S F q d Γ sc) es cs
  | [], cs, h => by cases h; exact .nil
  | e :: es, cs, h => by
    unfold cL at h
    split at h
    · first | exact zAA h | exact ff_tt h | cases h
    · simp only [Option.bind_eq_some_iff, Option.map_eq_some_iff] at h
      obtain ⟨a, ha, as, has, rfl⟩ := h
      exact .cons (hr Γ sc e a ha) (cL_ok hr has)
theorem cOpt_ok (hr : ∀ Γ sc e c, rec Γ sc e = some c → GOk S F q d Γ sc e c) {Γ : List Str} {sc : Scope} {o : Option Expr} {c : Option CE} (h : cOpt rec Γ sc o = some c) : OptOk S F q d Γ sc o c := by
  cases o with
  | none => cases h; exact .inl ⟨rfl, rfl⟩
  | some e =>
    have h : (rec Γ sc e).map some = some c := h
    simp only [Option.map_eq_some_iff] at h
    obtain ⟨a, ha, rfl⟩ := h
    exact .inr ⟨e, a, rfl, rfl, (hr Γ sc e a ha).eo⟩
theorem cIf_ok (hr : ∀ Γ sc e c, rec Γ sc e = some c → GOk S F q d Γ sc e c) {Γ : List Str} {sc : Scope} {o : List Expr} {c : Option CE} (h : cIf rec Γ sc o = some c) : IfOk S F q d Γ sc o c := by
  match o, h with
  | [], h => cases h; exact .inl ⟨rfl, rfl⟩
  | [e], h =>
    have h : (rec Γ sc e).map some = some c := h
    simp only [Option.map_eq_some_iff] at h
    obtain ⟨a, ha, rfl⟩ := h
    exact .inr ⟨e, a, rfl, rfl, (hr Γ sc e a ha).to⟩
  | _ :: _ :: _, h => cases h
theorem cConst_ok {Γ : List Str} {sc : Scope} {k : Const} {n : Nat} {pos : Pos} {c : CE} (h : cConst k = some c) : GOk S F q d Γ sc (.Constant k n pos) c := by
  cases k with
  | none => cases h; exact .of ok_none (fun _ _ => rfl) rfl (fun _ => rfl) fun _ _ => rfl
  | bool b => cases h; exact .of ok_bool (fun _ _ => rfl) rfl (fun _ => rfl) fun _ _ => rfl
  | int i => cases h; exact .of ok_int (fun _ _ => rfl) rfl (fun _ => rfl) fun _ _ => rfl
  | str s =>
    simp only [cConst] at h
    split at h
    · rename_i hs; cases h; exact .of (ok_str hs) (fun _ _ => rfl) rfl (fun _ => rfl) fun _ _ => rfl
    · first | exact zAA h | exact ff_tt h | cases h
  | _ => first | exact zAA h | exact ff_tt h | cases h
theorem cCmp_ok (fs : Facts S C T) (hr : ∀ Γ sc e c, rec Γ sc e = some c → GOk S F q d Γ sc e c) {Γ : List Str} {sc : Scope} {a : Expr} {ops : List CmpOp} {cs : List Expr} {pos : Pos} {c : CE} (h : cCmp rec Γ sc a ops cs = some c) : GOk S F q d Γ sc (.Compare a ops cs pos) c := by
  unfold cCmp at h
  split at h
  · first | exact zAA h | exact ff_tt h | cases h
  rename_i hlen
  have hlen : ops.length = cs.length := by simpa using hlen
  split at h
  · split at h
    · rename_i hc
      simp only [Bool.and_eq_true] at hc
      obtain rfl := eq_of_beq hc.1
      obtain ⟨k, p, rfl⟩ := zDk hc.2
      simp only [Option.map_eq_some_iff] at h
      obtain ⟨a', ha, rfl⟩ := h
      have g := (hr Γ sc a a' ha).eo
      exact ⟨zFF fs g, .cmp1 rfl (zFF fs g), rfl, fun _ => rfl, fun _ _ => rfl⟩
    · split at h
      · rename_i hc
        simp only [Bool.and_eq_true] at hc
        obtain rfl := eq_of_beq hc.1
        obtain ⟨k, p, rfl⟩ := zDk hc.2
        simp only [Option.map_eq_some_iff] at h
        obtain ⟨a', ha, rfl⟩ := h
        have g := (hr Γ sc a a' ha).eo
        exact ⟨zCM fs g, .cmp1 rfl (zCM fs g), rfl, fun _ => rfl, fun _ _ => rfl⟩
      · simp only [Option.bind_eq_some_iff, Option.map_eq_some_iff] at h
        obtain ⟨o, ho, x, hx, y, hy, rfl⟩ := h
        have g2 := hr Γ sc _ y hy
        have g := ok_cmp (pos := pos) fs ho (g2.marks _) (hr Γ sc a x hx).eo g2.eo
        exact ⟨g, .cmp1 (g2.marks _) g, rfl, fun _ => rfl, fun _ _ => rfl⟩
  · simp only [Option.bind_eq_some_iff, Option.map_eq_some_iff] at h
    obtain ⟨os, ho, x, hx, ys, hy, rfl⟩ := h
    have g := ok_chain (pos := pos) fs (hr Γ sc a x hx).eo (mapM_all2 ho) (cL_ok hr hy) hlen
    exact ⟨g.1, g.2, rfl, fun _ => rfl, fun _ _ => rfl⟩
theorem cSrc_ok (fs : Facts S C T) (cl : Clean C) (hr : ∀ Γ sc e c, rec Γ sc e = some c → GOk S F q d Γ sc e c) {Γ : List Str} {sc : Scope} {e : Expr} {k : SK} {cs : List CE} (h : cSrc rec Γ sc e = some (k, cs)) : SrcOk S F q d Γ sc e k cs := by
  have hv : Option.map (fun a => (SK.val, [a])) (rec Γ sc e) = some (k, cs) → SrcOk S F q d Γ sc e k cs := fun h => by
    simp only [Option.map_eq_some_iff] at h
    obtain ⟨a, ha, e'⟩ := h
    cases e'
    exact src_val (hr Γ sc e a ha)
  unfold cSrc at h
  split at h
  · rename_i fn args kws hc
    obtain ⟨pc, rfl⟩ := callParts?_eq hc
    split at h
    · rename_i f hn
      obtain ⟨p, rfl⟩ := nameOf?_eq hn
      split at h
      · rename_i hf
        obtain rfl := eq_of_beq hf
        split at h
        · rename_i hg
          simp only [Bool.and_eq_true, List.isEmpty_iff] at hg
          obtain ⟨hg, rfl⟩ := hg
          simp only [Option.bind_eq_some_iff] at h
          obtain ⟨es, hes, h⟩ := h
          have ga := cL_ok hr hes
          split at h
          · cases h; exact src_range fs hg cl.rng ga (.inl ⟨rfl, rfl⟩)
          · first | exact zAA h | exact ff_tt h | cases h
        · first | exact zAA h | exact ff_tt h | cases h
      · exact hv h
    · exact hv h
  · exact hv h
theorem zHU (fs : Facts S C T) (cl : Clean C) (hr : ∀ Γ sc e c, rec Γ sc e = some c → GOk S F q d Γ sc e c) {Γ : List Str} {sc scope : Scope} {elt : Expr} {gens : List Comprehension} {c : CE} (h : cComp rec Γ sc elt gens scope = some c) :
    ∃ x px iter ifs ce cond k cs, gens = [⟨.Name x px, iter, ifs, 0⟩] ∧ CompOk Γ sc scope x ∧ SrcOk S F q d Γ sc iter k cs ∧ IfOk S F q d (Γ ++ [x]) scope ifs cond ∧ EOk S F q d (Γ ++ [x]) scope elt ce ∧ c = .comp ce k cs cond := by
  unfold cComp at h
  split at h
  · rename_i g
    obtain ⟨tgt, iter, ifs, n⟩ := g
    simp only [Option.bind_eq_some_iff] at h
    obtain ⟨x, hx, h⟩ := h
    obtain ⟨px, rfl⟩ := nameOf?_eq hx
    split at h
    · first | exact zAA h | exact ff_tt h | cases h
    · rename_i hok
      simp only [Bool.or_eq_true, not_or, Bool.not_eq_true, bne_eq_false_iff_eq, Bool.not_eq_false'] at hok
      obtain ⟨rfl, hok⟩ := hok
      simp only [Option.bind_eq_some_iff, Option.map_eq_some_iff] at h
      obtain ⟨⟨k, cs⟩, h1, cond, h2, ce, h3, rfl⟩ := h
      exact ⟨x, px, iter, ifs, ce, cond, k, cs, rfl, compOk_of hok, cSrc_ok fs cl hr h1, cIf_ok hr h2, (hr _ scope elt ce h3).eo, rfl⟩
  · first | exact zAA h | exact ff_tt h | cases h
theorem cSub_ok (fs : Facts S C T) (hr : ∀ Γ sc e c, rec Γ sc e = some c → GOk S F q d Γ sc e c) {Γ : List Str} {sc : Scope} {o i : Expr} {pos : Pos} {c : CE} (h : cSub C rec Γ sc o i pos = some c) : GOk S F q d Γ sc (.Subscript o i pos) c := by
  unfold cSub at h
  split at h
  · rename_i lo hi hs
    obtain ⟨p, rfl⟩ := sliceParts?_eq hs
    simp only [Option.bind_eq_some_iff, Option.map_eq_some_iff] at h
    obtain ⟨a, ha, l, hl, u, hu, rfl⟩ := h
    exact g_sub (zBl (ok_slice (hr Γ sc o a ha).eo (cOpt_ok hr hl) (cOpt_ok hr hu)))
  · simp only [Option.bind_eq_some_iff, Option.map_eq_some_iff] at h
    obtain ⟨a, ha, b, hb, rfl⟩ := h
    exact g_sub (ok_index fs (hr Γ sc o a ha).eo (hr Γ sc i b hb).eo)
theorem cMethB_ok (hr : ∀ Γ sc e c, rec Γ sc e = some c → GOk S F q d Γ sc e c) {Γ : List Str} {sc : Scope} {o : Expr} {m : Str} {apos pos : Pos} {args : List Expr} {c : CE} (h1 : noSuper o = true) (h2 : (apos.endLine == pos.line) = true) (h : cMethB rec Γ sc o m args = some c) : GOk S F q d Γ sc (.Call (.Attribute o m apos) args [] pos) c := by
  unfold cMethB at h
  split at h
  · split at h
    · first | exact zAA h | exact ff_tt h | cases h
    rename_i hx
    split at h
    · rename_i hm
      simp only [Option.bind_eq_some_iff, Option.map_eq_some_iff] at h
      obtain ⟨a, ha, b, hb, rfl⟩ := h
      obtain rfl := eq_of_beq hm
      exact zCP (ok_append h1 h2 (by simpa using hx) (hr Γ sc o a ha).eo (hr Γ sc _ b hb).eo)
    · simp only [Option.bind_eq_some_iff, Option.map_eq_some_iff] at h
      obtain ⟨p, hp, a, ha, b, hb, rfl⟩ := h
      exact zCP (ok_sm hp h1 h2 (by simpa using hx) (hr Γ sc o a ha).eo (hr Γ sc _ b hb).eo)
  · first | exact zAA h | exact ff_tt h | cases h
theorem cMeth_ok (fs : Facts S C T) (FSs : FS S F q d) (hr : ∀ Γ sc e c, rec Γ sc e = some c → GOk S F q d Γ sc e c) {Γ : List Str} {sc : Scope} {o : Expr} {m : Str} {apos pos : Pos} {args : List Expr} {c : CE} (hlen : args.length ≤ 20) (h : cMeth C rec Γ sc o m apos args pos = some c) : GOk S F q d Γ sc (.Call (.Attribute o m apos) args [] pos) c := by
  unfold cMeth at h
  split at h
  · first | exact zAA h | exact ff_tt h | cases h
  rename_i hc
  simp only [Bool.or_eq_true, not_or, Bool.not_eq_true, Bool.not_eq_false', bne_eq_false_iff_eq] at hc
  have h1 : noSuper o = true := by simpa using hc.1
  have h2 : (apos.endLine == pos.line) = true := by simpa using hc.2
  split at h
  · exact zAA h
  exact cMethB_ok hr h1 h2 h
theorem cFun_ok (fs : Facts S C T) (FSs : FS S F q d) (cl : Clean C) (hr : ∀ Γ sc e c, rec Γ sc e = some c → GOk S F q d Γ sc e c) {Γ : List Str} {sc : Scope} {f : Str} {args : List Expr} {p pos : Pos} {c : CE} (h : cFun C rec Γ sc f args pos = some c) : GOk S F q d Γ sc (.Call (.Name f p) args [] pos) c := by
  unfold cFun at h
  split at h
  · first | exact zAA h | exact ff_tt h | cases h
  rename_i hg
  have hg : isGlob sc f = true := by simpa using hg
  split at h
  · rename_i hf
    obtain rfl := eq_of_beq hf
    unfold cIsinst at h
    split at h
    · split at h
      · first | exact zAA h | exact ff_tt h | cases h
      rename_i hx
      simp only [Option.bind_eq_some_iff] at h
      obtain ⟨kn, hkn, h⟩ := h
      obtain ⟨pk, rfl⟩ := nameOf?_eq hkn
      split at h
      · rename_i hgk
        split at h
        · rename_i kd hk
          obtain ⟨a, ha, rfl⟩ := Option.map_eq_some_iff.mp h
          exact zCP (ok_isinst fs hg cl.isin hk hgk (by simpa using hx) (hr Γ sc _ a ha).eo)
        · obtain ⟨kc, hkc, h⟩ := Option.bind_eq_some_iff.mp h
          obtain ⟨a, ha, rfl⟩ := Option.map_eq_some_iff.mp h
          exact zCP (zGR fs hg cl.isin hkc (by simpa using hx) (hr Γ sc _ a ha).eo)
      · first | exact zAA h | exact ff_tt h | cases h
    · first | exact zAA h | exact ff_tt h | cases h
  · simp only [Option.bind_eq_some_iff] at h
    obtain ⟨es, hes, h⟩ := h
    have ga := cL_ok hr hes
    split at h
    · rename_i n hn
      cases h
      exact zCP (ok_call fs FSs hg (cl.nd hn) hn ga)
    · rename_i hn
      split at h
      · simp only [Option.map_eq_some_iff] at h
        obtain ⟨o, ho, h⟩ := h
        cases ga with
        | cons g1 gs =>
          cases gs
          split at h
          · subst h; exact zCP (zBl (ok_b1 fs hg hn ho g1))
          · subst h; exact zCP (ok_b1 fs hg hn ho g1).eok
      · simp only [Option.map_eq_some_iff] at h
        obtain ⟨o, ho, rfl⟩ := h
        cases ga with
        | cons g1 gs =>
          cases gs with
          | cons g2 gs =>
            cases gs
            exact zCP (ok_b2 fs hg hn ho g1.star g2.star g1.eo g2.eo)
      · first | exact zAA h | exact ff_tt h | cases h
theorem cCall_ok (fs : Facts S C T) (FSs : FS S F q d) (cl : Clean C) (hr : ∀ Γ sc e c, rec Γ sc e = some c → GOk S F q d Γ sc e c) {Γ : List Str} {sc : Scope} {fn : Expr} {args : List Expr} {kws : List Keyword} {pos : Pos} {c : CE} (h : cCall C rec Γ sc fn args kws pos = some c) : GOk S F q d Γ sc (.Call fn args kws pos) c := by
  unfold cCall at h
  split at h
  · first | exact zAA h | exact ff_tt h | cases h
  rename_i hk
  simp only [Bool.or_eq_true, not_or, Bool.not_eq_true, Bool.not_eq_false', List.isEmpty_iff] at hk
  obtain ⟨rfl, hk⟩ := hk
  split at h
  · rename_i o m apos ha
    obtain rfl := attrParts?_eq ha
    exact cMeth_ok fs FSs hr (by simpa using hk) h
  · simp only [Option.bind_eq_some_iff] at h
    obtain ⟨f, hf, h⟩ := h
    obtain ⟨p, rfl⟩ := nameOf?_eq hf
    exact cFun_ok fs FSs cl hr h
theorem stepE_ok (fs : Facts S C T) (FSs : FS S F q d) (cl : Clean C) (hr : ∀ Γ sc e c, rec Γ sc e = some c → GOk S F q d Γ sc e c) {Γ : List Str} {sc : Scope} {e : Expr} {c : CE} (h : stepE C rec Γ sc e = some c) : GOk S F q d Γ sc e c := by
  cases e with
  | Constant k n pos => exact cConst_ok h
  | Name x pos => exact g_name fs h
  | BoolOp op vs pos =>
    have h : ((cL rec Γ sc vs).bind fun es => foldBool (op == .And) es) = some c := h
    simp only [Option.bind_eq_some_iff] at h
    obtain ⟨es, h1, h2⟩ := h
    have := ok_bools (pos := pos) (cL_ok hr h1) h2
    exact ⟨this.1, this.2, rfl, fun _ => rfl, fun _ _ => rfl⟩
  | BinOp l op r pos =>
    have h : ((binOf op).bind fun o => (rec Γ sc l).bind fun a => (rec Γ sc r).map fun b => trkAt C pos (.p2 o a b)) = some c := h
    simp only [Option.bind_eq_some_iff, Option.map_eq_some_iff] at h
    obtain ⟨o, ho, a, ha, b, hb, rfl⟩ := h
    exact .of (zBl (ok_BinOp ho (hr Γ sc l a ha).eo (hr Γ sc r b hb).eo)) (fun _ _ => rfl) rfl (fun _ => rfl) fun _ _ => rfl
  | UnaryOp op x pos =>
    cases op with
    | Not =>
      have h : (rec Γ sc x).map (.p1 .not) = some c := h
      simp only [Option.map_eq_some_iff] at h
      obtain ⟨a, ha, rfl⟩ := h
      have g := hr Γ sc x a ha
      exact ⟨ok_not g.eo, g.to.not, rfl, fun _ => rfl, fun _ _ => rfl⟩
    | USub =>
      have h : (rec Γ sc x).map (.p1 .neg) = some c := h
      simp only [Option.map_eq_some_iff] at h
      obtain ⟨a, ha, rfl⟩ := h
      exact .of (ok_neg (hr Γ sc x a ha).eo) (fun _ _ => rfl) rfl (fun _ => rfl) fun _ _ => rfl
    | UAdd => first | exact zAA h | exact ff_tt h | cases h
    | Invert => first | exact zAA h | exact ff_tt h | cases h
  | Compare a ops cs pos => exact cCmp_ok fs hr h
  | List es pos =>
    have h : (if es.length ≤ 1000 then (cL rec Γ sc es).map fun es => trkAt C pos (.list es) else none) = some c := h
    split at h
    · rename_i hl
      simp only [Option.map_eq_some_iff] at h
      obtain ⟨cs, h1, rfl⟩ := h
      exact .of (zBl (ok_list hl (cL_ok hr h1))) (fun _ _ => rfl) rfl (fun _ => rfl) fun _ _ => rfl
    · first | exact zAA h | exact ff_tt h | cases h
  | Tuple es k pos =>
    have h : (if es.length ≤ 1000 then (cL rec Γ sc es).map .tup else none) = some c := h
    split at h
    · rename_i hl
      simp only [Option.map_eq_some_iff] at h
      obtain ⟨cs, h1, rfl⟩ := h
      exact .of (ok_tuple hl (cL_ok hr h1)) (fun _ _ => rfl) rfl (fun _ => rfl) fun _ _ => rfl
    · first | exact zAA h | exact ff_tt h | cases h
  | ListComp elt gens scope pos =>
    have h : ((cComp rec Γ sc elt gens scope).map fun e => trkAt C pos e) = some c := h
    simp only [Option.map_eq_some_iff] at h
    obtain ⟨c', h', rfl⟩ := h
    obtain ⟨x, px, iter, ifs, ce, cond, k, cs, rfl, h1, h2, h3, h4, rfl⟩ := zHU fs cl hr h'
    exact .of (zBl (ok_comp h1 h2 h3 h4)) (fun _ _ => rfl) rfl (fun _ => rfl) fun _ _ => rfl
  | Subscript o i pos => exact cSub_ok fs hr h
  | Call fn args kws pos => exact cCall_ok fs FSs cl hr h
  | _ => first | exact zAA h | exact ff_tt h | cases h
end
theorem cE_ok (fs : Facts S C T) (FSs : FS S F q d) (cl : Clean C) : ∀ (n : Nat) (Γ : List Str) (sc : Scope) (e : Expr) (c : CE), cE C n Γ sc e = some c → GOk S F q d Γ sc e c
  | 0, _, _, _, _, h => by cases h
  | n + 1, Γ, sc, e, c, h => stepE_ok fs FSs cl (cE_ok fs FSs cl n) h
theorem isComp_eq {e : Expr} (h : isComp e = true) : ∃ a b c p, e = .ListComp a b c p := by
  cases e with
  | ListComp => exact ⟨_, _, _, _, rfl⟩
  | Constant k n p => cases k <;> exact ff_tt h
  | Slice l u st p => cases st <;> exact ff_tt h
  | _ => exact ff_tt h
theorem zEX {n : Nat} {Γ : List Str} {sc : Scope} {e : Expr} {c : CE} (h : cE C n Γ sc e = some c) (hc : isComp e = false) : ∀ env n t, swapsWith e t n env = pure false := fun env _ t =>
  swaps_no hc (fun el gs sc p e' => by subst e'; cases n <;> cases h) (fun k v gs sc p e' => by subst e'; cases n <;> cases h)
section
variable {rec : Stmt → CS} {Γ : List Str} {sc : Scope}
theorem zDS (hr : ∀ s, SOk S F Fq q d Γ sc s (rec s)) : ∀ (ss : List Stmt), LSOk S F Fq q d Γ sc ss (ss.map rec)
  | [] => ok_nil
  | s :: ss => ok_cons (hr s) (zDS hr ss)
theorem tup3?_eq {t : Expr} {x y z : Str} (h : tup3? t = some (x, y, z)) : ∃ p1 p2 p3 n tp, t = .Tuple [.Name x p1, .Name y p2, .Name z p3] n tp := by
  unfold tup3? at h
  split at h
  · simp only [Option.bind_eq_some_iff, Option.map_eq_some_iff] at h
    obtain ⟨x', hx, y', hy, z', hz, e⟩ := h
    cases e
    obtain ⟨p1, rfl⟩ := nameOf?_eq hx
    obtain ⟨p2, rfl⟩ := nameOf?_eq hy
    obtain ⟨p3, rfl⟩ := nameOf?_eq hz
    exact ⟨p1, p2, p3, _, _, rfl⟩
  · first | exact zAA h | exact ff_tt h | cases h
theorem cAsg_ok (fs : Facts S C T) (FSs : FS S F q d) (cl : Clean C) {t e : Expr} {pos : Pos} {c : CS} (h : cAsg C Γ sc t e = some c) : SOk S F Fq q d Γ sc (.Assign [t] e pos) c := by
  have hE := cE_ok (F := F) (q := q) (d := d) fs FSs cl deep
  unfold cAsg at h
  split at h
  · rename_i x hx
    obtain ⟨px, rfl⟩ := nameOf?_eq hx
    simp only [Option.bind_eq_some_iff, Option.map_eq_some_iff] at h
    obtain ⟨i, hi, a, ha, rfl⟩ := h
    cases hc : isComp e with
    | false => exact ok_asg hi (hE Γ sc _ a ha).eo (zEX ha hc)
    | true =>
      obtain ⟨elt, gens, scope, p, rfl⟩ := isComp_eq hc
      have ha : ((cComp (cE C 29) Γ sc elt gens scope).map fun e => trkAt C p e) = some a := ha
      simp only [Option.map_eq_some_iff] at ha
      obtain ⟨c', h', rfl⟩ := ha
      obtain ⟨x, px, iter, ifs, ce, cond, k, cs, rfl, h1, h2, h3, h4, rfl⟩ := zHU fs cl (cE_ok fs FSs cl 29) h'
      refine zGS hi h1 h2 h3 h4 ?_
      unfold trkAt
      split
      · exact .inr rfl
      · exact .inl rfl
  ·
      skip
      unfold cAsg3 at h
      simp only [Option.bind_eq_some_iff] at h
      obtain ⟨⟨x, y, z⟩, hp, h⟩ := h
      obtain ⟨p1, p2, p3, n, tp, rfl⟩ := tup3?_eq hp
      split at h
      · first | exact zAA h | exact ff_tt h | cases h
      · rename_i hc
        obtain ⟨⟨fn, args, kws⟩, hcp⟩ := Option.isSome_iff_exists.mp (Option.isSome_iff_ne_none.mpr (by simpa using hc) : (callParts? e).isSome = true)
        obtain ⟨cp, rfl⟩ := callParts?_eq hcp
        simp only [Option.bind_eq_some_iff, Option.map_eq_some_iff] at h
        obtain ⟨i, hi, j, hj, k, hk, c', hc', rfl⟩ := h
        exact ok_unpack3 hi hj hk (hE Γ sc _ c' hc').eo
theorem cTK_ok (fs : Facts S C T) (FSs : FS S F q d) (cl : Clean C) {ss : List Stmt} {k : TK} {c : CE} (h : cTK C Γ sc ss = some (k, c)) : (∃ b₀ bs, ss = b₀ :: bs) ∧ TKOk S F q d Γ sc ss k c := by
  have hE := cE_ok (F := F) (q := q) (d := d) fs FSs cl deep
  match ss, h with
  | [], h => cases h
  | _ :: _ :: _, h => cases h
  | [s], h =>
    refine ⟨⟨_, _, rfl⟩, ?_⟩
    have h : cTK1 C Γ sc s = some (k, c) := h
    cases s with
    | Return v pos =>
      cases v with
      | none => first | exact zAA h | exact ff_tt h | cases h
      | some e =>
        obtain ⟨a, ha, e'⟩ := Option.map_eq_some_iff.mp h
        cases e'
        exact tk_ret (hE Γ sc _ _ ha).eo
    | Assign ts e pos =>
      match ts, h with
      | [], h => cases h
      | _ :: _ :: _, h => cases h
      | [t], h =>
        have h : (if isComp e = true then none else (nameOf? t).bind fun x => (slotOf Γ sc x).bind fun i => (cE C deep Γ sc e).map fun c => (TK.asg i, c)) = some (k, c) := h
        by_cases hcm : isComp e = true
        · rw [if_pos hcm] at h; first | exact zAA h | exact ff_tt h | cases h
        rw [if_neg hcm] at h
        obtain ⟨x, hx, h⟩ := Option.bind_eq_some_iff.mp h
        obtain ⟨i, hi, h⟩ := Option.bind_eq_some_iff.mp h
        obtain ⟨a, ha, e'⟩ := Option.map_eq_some_iff.mp h
        cases e'
        obtain ⟨px, rfl⟩ := nameOf?_eq hx
        exact tk_asg hi (hE Γ sc _ _ ha).eo (zEX ha (by simpa using hcm))
    | Expr e pos =>
      have h : (if isComp e = true then none else (cE C deep Γ sc e).map fun c => (TK.exp, c)) = some (k, c) := h
      by_cases hcm : isComp e = true
      · rw [if_pos hcm] at h; first | exact zAA h | exact ff_tt h | cases h
      rw [if_neg hcm] at h
      obtain ⟨a, ha, e'⟩ := Option.map_eq_some_iff.mp h
      cases e'
      exact tk_exp (hE Γ sc _ _ ha).eo (zEX ha (by simpa using hcm))
    | _ => first | exact zAA h | exact ff_tt h | cases h
theorem cHds_ok (fs : Facts S C T) (FSq : FS S Fq true d) (cl : Clean C) : ∀ {hs : List ExceptHandler} {cs : List Hd}, cHds C Γ sc hs = some cs → All2 (HdOk S C Fq d Γ sc) hs cs
  | [], cs, h => by cases h; exact .nil
  | h₀ :: hs, cs, h => by
    have h : ((cHd C Γ sc h₀).bind fun a => (cHds C Γ sc hs).map fun as => a :: as) = some cs := h
    simp only [Option.bind_eq_some_iff, Option.map_eq_some_iff] at h
    obtain ⟨a, ha, as, has, rfl⟩ := h
    refine .cons ?_ (cHds_ok fs FSq cl has)
    unfold cHd at ha
    split at ha
    · rename_i t n body pos
      simp only [Option.bind_eq_some_iff, Option.map_eq_some_iff] at ha
      obtain ⟨x, hx, k, hk, as, has, ⟨tk, c⟩, hp, rfl⟩ := ha
      obtain ⟨px, rfl⟩ := nameOf?_eq hx
      obtain ⟨⟨b₀, bs, rfl⟩, ht⟩ := cTK_ok fs FSq cl hp
      refine ⟨x, px, n, b₀, bs, pos, rfl, hk, ?_, ht⟩
      cases n with
      | none => cases has; exact .inl ⟨rfl, rfl⟩
      | some y =>
        have has : (if sc.names.lookup y == some .local then (slotOf Γ sc y).map some else none) = some as := has
        split at has
        · rename_i hl
          simp only [Option.map_eq_some_iff] at has
          obtain ⟨i, hi, rfl⟩ := has
          exact .inr ⟨y, i, rfl, rfl, eq_of_beq hl, hi⟩
        · first | exact zAA has | exact ff_tt has | cases has
    · first | exact zAA ha | exact ff_tt ha | cases ha
theorem cRaise_ok (fs : Facts S C T) {e : Expr} {pos : Pos} {c : CS} (h : cRaise C sc e = some c) : SOk S F Fq q d Γ sc (.Raise (some e) none pos) c := by
  obtain ⟨⟨fn, args, kws⟩, hc, h⟩ := Option.bind_eq_some_iff.mp h
  obtain ⟨cp, rfl⟩ := callParts?_eq hc
  clear hc
  match args, h with
  | [], h => cases h
  | _ :: _ :: _, h => cases h
  | [x], h =>
    have h2 : (if kws.isEmpty then (strC? x).bind fun s => (nameOf? fn).bind fun f => if s.length ≤ 1000 && PyData.strOk s then (excOf C sc f).map .raise else none else none) = some c := h
    by_cases hk0 : kws.isEmpty = true
    · rw [if_pos hk0] at h2
      obtain ⟨m, hm, h3⟩ := Option.bind_eq_some_iff.mp h2
      obtain ⟨f, hf, h4⟩ := Option.bind_eq_some_iff.mp h3
      obtain ⟨kk, kp, rfl⟩ := strC?_eq hm
      obtain ⟨px, rfl⟩ := nameOf?_eq hf
      obtain rfl : kws = [] := List.isEmpty_iff.mp hk0
      by_cases hl : (m.length ≤ 1000 && PyData.strOk m) = true
      · rw [if_pos hl] at h4
        obtain ⟨k, hk, rfl⟩ := Option.map_eq_some_iff.mp h4
        exact ok_raise fs hl hk
      · rw [if_neg hl] at h4; first | exact zAA h4 | exact ff_tt h4 | cases h4
    · rw [if_neg hk0] at h2; first | exact zAA h2 | exact ff_tt h2 | cases h2
theorem stepS_ok (fs : Facts S C T) (FSs : FS S F q d) (FSq : FS S Fq true d) (cl : Clean C) (hr : ∀ s, SOk S F Fq q d Γ sc s (rec s)) {s : Stmt} {c : CS} (h : stepS C Γ sc rec s = some c) : SOk S F Fq q d Γ sc s c := by
  have hE := cE_ok (F := F) (q := q) (d := d) fs FSs cl deep
  cases s with
  | Return v pos =>
    cases v with
    | none => first | exact zAA h | exact ff_tt h | cases h
    | some e =>
      have h : (cE C deep Γ sc e).map .ret = some c := h
      simp only [Option.map_eq_some_iff] at h
      obtain ⟨a, ha, rfl⟩ := h
      exact ok_ret (hE Γ sc _ a ha).eo
  | Assign ts e pos =>
    match ts, h with
    | [], h => cases h
    | [t], h => exact cAsg_ok fs FSs cl h
    | _ :: _ :: _, h => cases h
  | If t a b pos =>
    have h : ((cE C deep Γ sc t).map fun t => CS.ite t (a.map rec) (b.map rec)) = some c := h
    simp only [Option.map_eq_some_iff] at h
    obtain ⟨t', ht, rfl⟩ := h
    exact ok_if (hE Γ sc _ t' ht).to (zDS hr a) (zDS hr b)
  | For x iter body orelse pos =>
    cases orelse with
    | cons _ _ => first | exact zAA h | exact ff_tt h | cases h
    | nil =>
      have h : ((nameOf? x).bind fun x => (slotOf Γ sc x).bind fun i => (cSrc (cE C deep) Γ sc iter).map fun s => CS.for i s.1 s.2 (body.map rec)) = some c := h
      simp only [Option.bind_eq_some_iff, Option.map_eq_some_iff] at h
      obtain ⟨xn, hx, i, hi, ⟨k, cs⟩, hs, rfl⟩ := h
      obtain ⟨px, rfl⟩ := nameOf?_eq hx
      exact ok_for hi (cSrc_ok fs cl hE hs) (zDS hr body)
  | Expr e pos =>
    have h : (if isComp e then none else (cE C deep Γ sc e).map .exp) = some c := h
    split at h
    · first | exact zAA h | exact ff_tt h | cases h
    · rename_i hc
      simp only [Option.map_eq_some_iff] at h
      obtain ⟨a, ha, rfl⟩ := h
      exact ok_exp (hE Γ sc _ a ha).eo (zEX ha (by simpa using hc))
  | Pass pos => cases h; exact ok_pass
  | Raise e c' pos =>
    match e, c', h with
    | none, _, h => cases h
    | some _, some _, h => cases h
    | some e, none, h =>
      exact cRaise_ok fs h
  | Try body hs oe fb pos =>
    match hs, oe, fb, h with
    | h₀ :: hs, [], [], h =>
      have h : ((cTK C Γ sc body).bind fun p => (cHds C Γ sc (h₀ :: hs)).map fun hs => CS.try p.1 p.2 hs) = some c := h
      simp only [Option.bind_eq_some_iff, Option.map_eq_some_iff] at h
      obtain ⟨⟨k, ce⟩, hb, cs, hcs, rfl⟩ := h
      obtain ⟨⟨b₀, bs, rfl⟩, ht⟩ := cTK_ok fs FSs cl hb
      exact ok_try fs ht (cHds_ok fs FSq cl hcs)
    | [], _, _, h => cases h
    | _ :: _, _ :: _, _, h => cases h
    | _ :: _, [], _ :: _, h => cases h
  | _ => first | exact zAA h | exact ff_tt h | cases h
end
theorem cS_ok (fs : Facts S C T) (FSs : FS S F q d) (FSq : FS S Fq true d) (cl : Clean C) {Γ : List Str} {sc : Scope} : ∀ (n : Nat) (s : Stmt), SOk S F Fq q d Γ sc s (cS C Γ sc n s)
  | 0, _ => zGy
  | n + 1, s => by
    show SOk S F Fq q d Γ sc s ((stepS C Γ sc (cS C Γ sc n) s).getD .stuck)
    cases h : stepS C Γ sc (cS C Γ sc n) s with
    | none => exact zGy
    | some c => exact stepS_ok fs FSs FSq cl (cS_ok fs FSs FSq cl n) h
theorem sSL (fs : Facts S C T) (FSs : FS S F q d) (FSq : FS S Fq true d) (cl : Clean C) (Γ : List Str) (sc : Scope) (ss : List Stmt) : LSOk S F Fq q d Γ sc ss (cSL C Γ sc ss) := zDS (cS_ok fs FSs FSq cl deep) ss
end
end Mine
end

/-! # Fun -/
section
set_option autoImplicit false
namespace Mine
open PySem PyProof.Rows
inductive FnAt (S : Stat) (C : Ctx) (k : Nat) (fn : Fn) : Prop where
  | mk (o : Obj) (fd : FuncData) (body : List Stmt) (ps : List Str) (ho : S.hb.get? (S.fn k) = some o) (hdata : o.data = .func fd) (hbody : fd.body = .stmts body) (hclo : fd.closure = []) (hglob : fd.globals = mainGlobals) (hblt : fd.builtins = builtinsNs)
      (hcode : S.hb.CodeRec fd.code fd.qualname) (hco : fd.scope.isCoroutine = false) (hgen : fd.scope.isGenerator = false) (hkf : fd.scope.kind = .function)
      (hbind : ∀ vals : List Value, vals.length = ps.length → bindArgs fd ⟨vals, []⟩ = pure (ps.zip vals)) (hnd : ps.Nodup) (hpk : ∀ p ∈ ps, fd.scope.names.lookup p = some .local ∨ fd.scope.names.lookup p = some .cell)
      (hfree : ∀ p ∈ fd.scope.names, p.2 ≠ .free) (hnn : (fd.scope.names.map (·.1)).Nodup) (hpar : fn.params = ps.length) (hslots : fn.slots = (slotsOf ps fd.scope).length) (hcomp : cSL C (slotsOf ps fd.scope) fd.scope body = fn.body)
theorem zDp {kindOf : Str → Option NameKind} {x : Str} : ∀ (b : List (Str × Value)) (m : Str → Option Value), (∀ p ∈ b, p.1 ≠ x) → bindL kindOf b m x = m x
  | [], m, _ => rfl
  | (n, v) :: r, m, h => by
    rw [bindL, zDp r _ fun p hp => h p (List.mem_cons_of_mem _ hp)]
    have : x ≠ n := fun e => h (n, v) List.mem_cons_self e.symm
    split
    · simp [this]
    · rfl
theorem zDq {kindOf : Str → Option NameKind} {x : Str} : ∀ (b : List (Str × Value)) (m : Str → Option Value), (∀ p ∈ b, p.1 ≠ x) → bindC kindOf b m x = m x
  | [], m, _ => rfl
  | (n, v) :: r, m, h => by
    rw [bindC, zDq r _ fun p hp => h p (List.mem_cons_of_mem _ hp)]
    have : x ≠ n := fun e => h (n, v) List.mem_cons_self e.symm
    split
    · rfl
    · simp [this]
theorem zCu {ps : List Str} {vs : List Value} {p : Str × Value} (h : p ∈ ps.zip vs) : p.1 ∈ ps := (List.of_mem_zip h).1
theorem zHW {kindOf : Str → Option NameKind} {x : Str} {w : Value} (hk : kindOf x = some .local) : ∀ (ps : List Str) (vs : List Value) (i : Nat) (m : Str → Option Value), ps.Nodup → ps[i]? = some x → vs[i]? = some w → bindL kindOf (ps.zip vs) m x = some w
  | [], _, i, _, _, h, _ => by simp at h
  | p :: ps, [], i, _, _, _, h => by simp at h
  | p :: ps, v :: vs, 0, m, hn, h1, h2 => by
    obtain rfl : p = x := by simpa using h1
    obtain rfl : v = w := by simpa using h2
    rw [List.zip_cons_cons, bindL, zDp (x := p) _ _ fun q hq e => (List.nodup_cons.mp hn).1 (e ▸ zCu hq), if_pos hk]
    simp
  | p :: ps, v :: vs, i + 1, m, hn, h1, h2 => by
    rw [List.zip_cons_cons, bindL]
    exact zHW hk ps vs i _ (List.nodup_cons.mp hn).2 (by simpa using h1) (by simpa using h2)
theorem zHX {kindOf : Str → Option NameKind} {x : Str} {w : Value} (hk : kindOf x ≠ some .local) : ∀ (ps : List Str) (vs : List Value) (i : Nat) (m : Str → Option Value), ps.Nodup → ps[i]? = some x → vs[i]? = some w → bindC kindOf (ps.zip vs) m x = some w
  | [], _, i, _, _, h, _ => by simp at h
  | p :: ps, [], i, _, _, _, h => by simp at h
  | p :: ps, v :: vs, 0, m, hn, h1, h2 => by
    obtain rfl : p = x := by simpa using h1
    obtain rfl : v = w := by simpa using h2
    rw [List.zip_cons_cons, bindC, zDq (x := p) _ _ fun q hq e => (List.nodup_cons.mp hn).1 (e ▸ zCu hq), if_neg hk]
    simp
  | p :: ps, v :: vs, i + 1, m, hn, h1, h2 => by
    rw [List.zip_cons_cons, bindC]
    exact zHX hk ps vs i _ (List.nodup_cons.mp hn).2 (by simpa using h1) (by simpa using h2)
theorem zBL {x : Str} : ∀ (names : List (Str × NameKind)) (n : Nat) (acc : List (Str × Addr)), (acc.lookup x).isSome = true → ((cellsFrom n names acc).lookup x).isSome = true
  | [], _, _, h => h
  | (y, k) :: r, n, acc, h => by
    unfold cellsFrom
    split
    · refine zBL r _ _ ?_
      rw [List.lookup_cons]
      split
      · rfl
      · exact h
    · exact zBL r _ _ h
theorem zAd {x : Str} : ∀ (names : List (Str × NameKind)) (n : Nat) (acc : List (Str × Addr)), (x, NameKind.cell) ∈ names → ((cellsFrom n names acc).lookup x).isSome = true
  | [], _, _, h => nomatch h
  | (y, k) :: r, n, acc, h => by
    unfold cellsFrom
    rcases List.mem_cons.mp h with e | h
    · cases e
      rw [if_pos (by rfl)]
      exact zBL r _ _ (by rw [List.lookup_cons]; simp)
    · split
      · exact zAd r _ _ h
      · exact zAd r _ _ h
theorem zAz : ∀ (names : List (Str × NameKind)) (n : Nat) (acc : List (Str × Addr)), (names.map (·.1)).Nodup → (acc.map (·.1)).Nodup → (∀ x ∈ acc.map (·.1), x ∉ names.map (·.1)) → ((cellsFrom n names acc).map (·.1)).Nodup
  | [], _, _, _, h, _ => h
  | (y, k) :: r, n, acc, h1, h2, h3 => by
    have h1' := List.nodup_cons.mp h1
    unfold cellsFrom
    split
    · refine zAz r _ _ h1'.2 (List.nodup_cons.mpr ⟨fun h => h3 _ h List.mem_cons_self, h2⟩) fun x hx => ?_
      rcases List.mem_cons.mp hx with rfl | hx
      · exact h1'.1
      · exact fun h => h3 x hx (List.mem_cons_of_mem _ h)
    · exact zAz r _ _ h1'.2 h2 fun x hx h => h3 x hx (List.mem_cons_of_mem _ h)
theorem zBp {β : Type} : ∀ {l : List (Str × β)} {p : Str × β}, (l.map (·.1)).Nodup → p ∈ l → l.lookup p.1 = some p.2
  | (y, v) :: r, p, hn, h => by
    have hn' := List.nodup_cons.mp hn
    rw [List.lookup_cons]
    rcases List.mem_cons.mp h with rfl | h
    · simp
    · have : (p.1 == y) = false := by
        cases e : (p.1 == y) with
        | false => rfl
        | true => exact (hn'.1 (eq_of_beq e ▸ List.mem_map_of_mem (f := (·.1)) h)).elim
      rw [this]
      exact zBp hn'.2 h
section
variable {S : Stat} {C : Ctx} {T : Nat → Option Fn}
theorem zCI (fs : Facts S C T) (cl : Clean C) (fa : ∀ k fn, T k = some fn → FnAt S C k fn) : ∀ (d : Nat) (q : Bool), FS S (callFn T d q) q d
  | 0, q => fun k vs σ f X A s vals cx L rs hne => (hne (by rfl)).elim
  | d + 1, q => fun k vs σ f X A s vals cx L rs hne => by
    have ih := zCI fs cl fa d q
    have ihq := zCI fs cl fa d true
    rw [zDR] at hne ⊢
    cases hT : T k with
    | none => rw [hT] at hne; exact (hne rfl).elim
    | some fn =>
      rw [hT] at hne
      simp only at hne ⊢
      by_cases hlen : vs.length = fn.params
      case neg => rw [if_neg hlen] at hne; exact (hne rfl).elim
      rw [if_pos hlen] at hne ⊢
      obtain ⟨o, fd, body, ps, ho, hdata, hbody, hclo, hglob, hblt, hcode, hco, hgen, hkf, hbind, hnd, hpk, hfree, hnn, hpar, hslots, hcomp⟩ := fa k fn hT
      have LS : LSOk S (callFn T d q) (callFn T d true) q d (slotsOf ps fd.scope) fd.scope body fn.body := hcomp ▸ sSL fs ih ihq cl _ _ _
      refine ⟨⟨o, fd, ho, hdata⟩, ?_⟩
      have hvl : vals.length = ps.length := by rw [← zBH rs, hlen, hpar]
      refine codeAny_call_cells (by have := cx.depth; show A.depth < 1000; omega) (L.base _ _ ho) hdata (by obtain ⟨mc, h1, h2⟩ := fs.nolimit; exact ⟨mc, L.ns h1, h2⟩)
        (by obtain ⟨c, o, vs, t, e1, e2, e3⟩ := hcode; exact ⟨c, o, vs, t, e1, L.base _ _ e2, e3⟩) hbody (hbind vals hvl) hclo
        (fun x hx => (hpk x.1 (zCu hx)).imp id fun h => ⟨h, zAd _ _ _ (zAH h)⟩) (fun s₁ ic => ?_) hco hgen hkf
      generalize henv : callEnvC fd s.heap.objs.size (S.fn k) = env at ic ⊢
      have e_loc : env.locals = s.heap.objs.size := by rw [← henv]; rfl
      have e_cells : env.cells = cellsFrom (s.heap.objs.size + 1) fd.scope.names [] := by rw [← henv]; rfl
      have e_kind : ∀ x, env.kindOf x = fd.scope.names.lookup x := fun x => by rw [← henv]; rfl
      have e_scope : env.scope = fd.scope := by rw [← henv]; rfl
      have e_glob : env.globals = mainGlobals := by rw [← henv]; exact hglob
      have e_blt : env.builtins = builtinsNs := by rw [← henv]; exact hblt
      have e_frame : env.frame = some s.heap.objs.size := by rw [← henv]; rfl
      have hkeep := ic.toInCall.keep
      have hnew : ∀ a, s.heap.objs.size ≤ a → s.heap.get? a = none := fun a ha => by
        cases e : s.heap.get? a with
        | none => rfl
        | some o => exact absurd (Heap.lt_size e) (Nat.not_lt.mpr ha)
      have hN : ∀ a ∈ ya env, s.heap.get? a = none ∧ ∃ o, s₁.heap.get? a = some o := fun a ha => by
        rcases List.mem_cons.mp ha with rfl | ha
        · refine ⟨hnew _ (by rw [e_loc]; exact Nat.le_refl _), ?_⟩
          obtain ⟨o, _, _, ho, _⟩ := ic.toInCall.ns
          exact ⟨o, ho⟩
        · obtain ⟨p, hp, rfl⟩ := List.mem_map.mp ha
          have hlo := ic.above p.1 p.2 hp
          refine ⟨hnew _ (Nat.le_of_lt (e_loc ▸ hlo)), ?_⟩
          have hlk : env.cells.lookup p.1 = some p.2 := zBp (by rw [e_cells]; exact zAz _ _ _ hnn .nil fun _ h => nomatch h) hp
          obtain ⟨o, ho, _⟩ := ic.cell p.1 p.2 hlk
          exact ⟨o, ho⟩
      have L' : Lk S (ya env ++ X) f σ s₁.heap := L.enter hkeep hN
      have rs' : VRs S (ya env ++ X) f s₁.heap vs vals :=
        VRs.keep (fun _ _ e => e) (fun a o ho h1 h2 => ⟨⟨h1, fun h => (List.mem_append.mp h).elim (fun h => by rw [(hN a h).1] at ho; cases ho) h2⟩, o, hkeep a o ho, .refl o⟩) _ _ rs
      have hcx : Cx S (A.deeper env) q d f s₁.heap env.frame := by
        obtain ⟨l, h1, h2⟩ := cx.frs
        refine ⟨by have := cx.depth; show A.depth + 1 + 2 * d + 3 ≤ 900; omega, by have := cx.units; show A.units + 3 + 5 * d + 202 ≤ 9900; omega, cx.hand, env, l, by show A.frames.map (env :: ·) = _; rw [h1]; rfl, rfl, fun e he => ?_⟩
        rcases List.mem_cons.mp he with rfl | he
        · obtain ⟨o, es, n, ho, hd, _⟩ := ic.toInCall.ns
          have hl := L'.hid e.locals (List.mem_append_left _ List.mem_cons_self)
          exact ⟨by rw [e_scope, hkf]; simp, e.locals, o, es, n, by rw [e_frame, e_loc], hl.1, hl.2.1, ho, hd⟩
        · obtain ⟨h3, L1, o, es, n, h4, h5, h6, h7, h8⟩ := h2 e he
          exact ⟨h3, L1, o, es, n, h4, h5, h6, hkeep _ _ h7, h8⟩
      have hfr : FR S (ya env ++ X) f s₁.heap env (slotsOf ps fd.scope) fd.scope (vs ++ List.replicate (fn.slots - fn.params) .undef) := by
        refine ⟨by rw [e_scope, hkf], e_glob, e_blt, fun x => .inl (e_kind x), ⟨List.mem_append_left _ List.mem_cons_self, _, ic.toInCall.ns⟩, fun x hx => ?_, fun x i v h1 h2 h3 h4 => ?_, ?_⟩
        · have hc : fd.scope.names.lookup x = some .cell := by
            rcases hx with h | h
            · rw [← e_kind]; exact h
            · rw [e_kind] at h; exact absurd rfl (hfree _ (zAH h))
          have := zAd (x := x) fd.scope.names (s.heap.objs.size + 1) [] (zAH hc)
          rw [← e_cells] at this
          obtain ⟨c, hcl⟩ := Option.isSome_iff_exists.mp this
          exact ⟨c, _, hcl, List.mem_append_left _ (List.mem_cons_of_mem _ (zDi hcl)), ic.cell x c hcl⟩
        · have hi : i < vs.length := by
            cases hlt : decide (i < vs.length) with
            | true => exact of_decide_eq_true hlt
            | false =>
              have hge : vs.length ≤ i := Nat.le_of_not_lt (of_decide_eq_false hlt)
              rw [List.getElem?_append_right hge] at h3
              have := List.eq_of_mem_replicate (List.mem_of_getElem? h3)
              exact (h4 this).elim
          rw [List.getElem?_append_left hi] at h3
          obtain ⟨w, hw, r⟩ := zCK rs' h3
          have hx : ps[i]? = some x := by
            have := zBJ h2
            unfold slotsOf at this
            rwa [List.getElem?_append_left (by rw [← hpar, ← hlen]; exact hi)] at this
          refine ⟨w, ?_, r⟩
          rcases hpk x (List.mem_of_getElem? hx) with h | h
          · exact .inl ⟨by rw [e_kind, h], _, ic.toInCall.ns, zHW (by rw [e_kind, h]) ps vals i _ hnd hx hw⟩
          · have := zAd (x := x) fd.scope.names (s.heap.objs.size + 1) [] (zAH h)
            rw [← e_cells] at this
            obtain ⟨c, hcl⟩ := Option.isSome_iff_exists.mp this
            refine .inr ⟨.inl (by rw [e_kind, h]), c, hcl, ?_⟩
            have := ic.cell x c hcl
            rwa [zHX (by rw [e_kind, h]; simp) ps vals i _ hnd hx hw] at this
        · have : (slotsOf ps fd.scope).length = ps.length + ((fd.scope.names.filter fun p => (p.2 == .local || p.2 == .cell) && !ps.contains p.1).map (·.1)).length := by rw [slotsOf, List.length_append]
          rw [List.length_append, List.length_replicate, hlen, hslots, hpar]
          omega
      have hfw : FW env (ya env ++ X) := by
        refine ⟨List.mem_append_left _ List.mem_cons_self, fun p hp => List.mem_append_left _ (List.mem_cons_of_mem _ (List.mem_map_of_mem hp)), fun x y c h1 h2 => ?_⟩
        exact name_of_addr ic.apart (mem_of_lookup h1) (mem_of_lookup h2)
      have hne' : exL (callFn T d q) (callFn T d true) q fn.body (vs ++ List.replicate (fn.slots - fn.params) .undef) σ ≠ .stuck := fun e => hne (by rw [e]; rfl)
      refine wpAny_mono (LS env _ f (ya env ++ X) σ s₁ (A.deeper env) ⟨hcx, hfr, L'⟩ hfw hne') (fun fl s' hq => ?_) fun e s' he => ?_
      · obtain ⟨x, σ', g, er, hg, kp, Lk', hfl⟩ := hq
        rw [er] at hne ⊢
        have hg0 : Fresh g s := fun a ha => zAN (fun a o e => ⟨o, hkeep a o e⟩) (hg a ha)
        have kp0 : Kp f [] s s' := by
          obtain ⟨h0, tk, e0⟩ := ic.toInCall.same
          refine ⟨by rw [kp.rest, e0], fun a o e => kp.live a o (hkeep a o e), fun a o e h1 _ => kp.kept a o (hkeep a o e) h1 fun h => (by rw [(hN a h).1] at e; cases e), fun a o es n e hd h1 => kp.dicts a o es n (hkeep a o e) hd h1⟩
        have Lk0 : Lk S X (f ++ g) σ' s'.heap := Lk'.less fun a ha => List.mem_append_right _ ha
        cases x with
        | ret v =>
          obtain ⟨w, rfl, r⟩ := hfl
          exact ⟨v, σ', g, rfl, hg0, kp0, Lk0, r.less fun a ha => List.mem_append_right _ ha⟩
        | next ρ' =>
          obtain ⟨rfl, -⟩ := hfl
          exact ⟨.none, σ', g, rfl, hg0, kp0, Lk0, by show VR _ _ _ _ _ _; rw [VR]⟩
      · obtain ⟨c, σ', g, ea, rfl, e2, hg, kp, Lk', x⟩ := he
        rw [e2] at hne ⊢
        obtain ⟨en, l, h1, h2, h3⟩ := (hcx.keep kp hg).frs
        obtain ⟨_, L1, _, _, _, h4, _⟩ := h3 en List.mem_cons_self
        have hX : ∀ a ∈ ya env ++ X, ∃ o, s₁.heap.get? a = some o := fun a ha => (L'.hid a ha).2.2
        unfold leaving
        rw [zBB (env' := en) h2]
        refine wpAny_bind (zDh h1 h3 h4 x hX kp fun h' kp1 L'' x' => ?_)
        refine ⟨c, σ', g, ea, rfl, rfl, fun a ha => zAN (fun a o e => ⟨o, hkeep a o e⟩) (hg a ha), ?_, L''.less fun a ha => List.mem_append_right _ ha, (x'.less fun a ha => List.mem_append_right _ ha).back fun a h => zAN (fun a o e => ⟨o, hkeep a o e⟩) h⟩
        obtain ⟨h0, tk, e0⟩ := ic.toInCall.same
        exact ⟨by rw [kp1.rest, e0], fun a o e => kp1.live a o (hkeep a o e), fun a o e h1 _ => kp1.kept a o (hkeep a o e) h1 fun h => (by rw [(hN a h).1] at e; cases e), fun a o es n e hd h1 => kp1.dicts a o es n (hkeep a o e) hd h1⟩
end
end Mine
end

/-! # Link -/
section
set_option autoImplicit false
namespace Mine
open PySem PySem.W PyProof.Rows
noncomputable def plainArgs (a : Arguments) : Bool := a.posonlyargs.isEmpty && a.vararg.isNone && a.kwonlyargs.isEmpty && a.kw_defaults.isEmpty && a.kwarg.isNone && a.defaults.isEmpty
noncomputable def recOkB (params : Arguments) (scope : Scope) : Bool := plainArgs params && !scope.isCoroutine && !scope.isGenerator && scope.kind == .function && decide (params.args.map (·.arg)).Nodup && ((params.args.map (·.arg)).all fun p => scope.names.lookup p == some .local || scope.names.lookup p == some .cell)
  && !scope.names.any (fun p => p.2 == .free) && decide (scope.names.map (·.1)).Nodup
noncomputable def recFn (C : Ctx) (params : Arguments) (body : List Stmt) (scope : Scope) : Option Fn :=
  if recOkB params scope then some ⟨(params.args.map (·.arg)).length, (slotsOf (params.args.map (·.arg)) scope).length, cSL C (slotsOf (params.args.map (·.arg)) scope) scope body⟩ else none
noncomputable def tabF (C : Ctx) (ds : List DefRec) : Option (List (Nat × Fn)) := ds.mapM fun d => (C.fns.lookup d.name).bind fun k => (recFn C d.params d.body d.scope).map fun f => (k, f)
theorem zHD {α β : Type} {g : α → Option β} : ∀ {l : List α} {r : List β} {b : β}, l.mapM g = some r → b ∈ r → ∃ a ∈ l, g a = some b
  | [], r, b, h, hb => by simp at h; subst h; cases hb
  | a :: l, r, b, h, hb => by
    rw [List.mapM_cons] at h
    cases h1 : g a with
    | none => first | (rw [h1] at h; exact zAA h) | simp [h1] at h
    | some x =>
      cases h2 : l.mapM g with
      | none => first | (rw [h1, h2] at h; exact zAA h) | (rw [h1, Option.bind_some, h2] at h; exact zAA h) | simp [h1, h2] at h
      | some xs =>
        simp [h1, h2] at h
        subst h
        rcases List.mem_cons.mp hb with rfl | hb
        · exact ⟨a, List.mem_cons_self, h1⟩
        · obtain ⟨a', h3, h4⟩ := zHD h2 hb
          exact ⟨a', List.mem_cons_of_mem _ h3, h4⟩
theorem zDF {β : Type} {k : Nat} {y : β} : ∀ {l : List (Nat × β)}, l.lookup k = some y → (k, y) ∈ l
  | (k', y') :: l, h => by
    rw [List.lookup_cons] at h
    split at h
    · rename_i e; cases h; rw [eq_of_beq e]; exact List.mem_cons_self
    · exact List.mem_cons_of_mem _ (zDF h)
noncomputable def refOf : Option Value → Addr
  | some (.ref a) => a
  | _ => 0
noncomputable def fnAddr (C : Ctx) (mg mN : Str → Option Value) (k : Nat) : Addr := match C.fns.find? (fun p => p.2 == k) with
  | some p => refOf (mg p.1)
  | none => (match C.meths.find? (fun p => p.2 == k) with
    | some p => refOf (mN p.1)
    | none => 0)
theorem zDY {β : Type} : ∀ {ps : List Str} {vs : List β} {n : Str}, n ∈ ps → vs.length = ps.length → ∃ v, (ps.zip vs).lookup n = some v
  | p :: ps, [], n, _, h => by simp at h
  | p :: ps, v :: vs, n, hn, h => by
    rw [List.zip_cons_cons, List.lookup_cons]
    split
    · exact ⟨v, rfl⟩
    · rename_i e
      rcases List.mem_cons.mp hn with rfl | hn
      · simp at e
      · exact zDY hn (by simpa using h)
theorem zGl {β : Type} : ∀ {ps : List Str} {vs : List β}, ps.Nodup → vs.length = ps.length → (ps.filterMap fun n => ((ps.zip vs).lookup n).map (n, ·)) = ps.zip vs
  | [], vs, _, _ => by simp
  | p :: ps, [], _, h => by simp at h
  | p :: ps, v :: vs, hn, h => by
    have hn' := List.nodup_cons.mp hn
    rw [List.zip_cons_cons, List.filterMap_cons]
    simp only [List.lookup_cons, beq_self_eq_true, Option.map_some]
    have key : ∀ l : List Str, (∀ n ∈ l, n ≠ p) → (l.filterMap fun n => (match n == p with | true => some v | false => (ps.zip vs).lookup n).map (n, ·)) = l.filterMap fun n => ((ps.zip vs).lookup n).map (n, ·) := by
      intro l hl
      induction l with
      | nil => rfl
      | cons n l ih =>
        have hne : (n == p) = false := by simpa using hl n List.mem_cons_self
        rw [List.filterMap_cons, List.filterMap_cons, ih fun n hm => hl n (List.mem_cons_of_mem _ hm), hne]
    exact congrArg _ ((key ps fun n hm e => hn'.1 (e ▸ hm)).trans (zGl hn'.2 (by simpa using h)))
noncomputable def noDf (n : Nat) : List Value := List.drop (([] : List Value).length - n) []
theorem noDf_eq (n : Nat) : noDf n = [] := List.drop_nil
theorem bind_by {fd : FuncData} {as : List Arg} {ps : List Str} {vals : List Value} (hp : fd.params = ⟨[], as, none, [], [], none, []⟩) (h1 : fd.defaults = .none) (h2 : fd.kwdefaults = .none) (hps : as.map (·.arg) = ps) (hgt : ¬ ((decide (vals.length > ps.length) && true) = true))
    (hm : ¬ ((!(List.filter (fun n => ((ps.zip vals).lookup n).isNone) (List.take (ps.length - (noDf ps.length).length) ps)).isEmpty) = true))
    (hz : (ps.drop (ps.length - (noDf ps.length).length)).zip (noDf ps.length) = []) {r : List (Str × Value)} (hr : (ps ++ []).filterMap (fun n => ((ps.zip vals).lookup n).map (n, ·)) = r) :
    bindArgs fd ⟨vals, []⟩ = pure r := by
  cases hps
  cases fd
  cases hp
  cases h1
  cases h2
  refine (if_neg hgt).trans ((if_neg hm).trans ?_)
  exact Eq.trans (congrArg (fun l => (forIn l _ _ : Sem _) >>= _) hz) (congrArg (fun x => (pure x : Sem (List (Str × Value)))) hr)
theorem bind_all {fd : FuncData} {as : List Arg} (hp : fd.params = ⟨[], as, none, [], [], none, []⟩) (h1 : fd.defaults = .none) (h2 : fd.kwdefaults = .none) (hn : (as.map (·.arg)).Nodup) (vals : List Value) (hl : vals.length = (as.map (·.arg)).length) :
    bindArgs fd ⟨vals, []⟩ = pure ((as.map (·.arg)).zip vals) := by
  refine bind_by hp h1 h2 rfl (by rw [hl, Bool.and_true, decide_eq_true_iff]; exact Nat.lt_irrefl _) ?_ (by rw [noDf_eq]; exact List.zip_nil_right) (by rw [List.append_nil]; exact zGl hn hl)
  rw [noDf_eq, List.length_nil, Nat.sub_zero, List.take_length]
  have : ((as.map (·.arg)).filter fun n => (((as.map (·.arg)).zip vals).lookup n).isNone) = [] := by
    rw [List.filter_eq_nil_iff]
    intro n hm
    obtain ⟨v, e⟩ := zDY hm hl
    rw [e]; exact Bool.false_ne_true
  rw [this]; exact Bool.false_ne_true
noncomputable def fnsOk (C : Ctx) (ds : List DefRec) : Bool := C.fns.all fun q => C.fns.find? (fun r => r.2 == q.2) == some q && ds.any (fun d => d.name == q.1)
theorem zFC {a : Arguments} (h : plainArgs a = true) : a = ⟨[], a.args, none, [], [], none, []⟩ := by
  obtain ⟨a1, a2, a3, a4, a5, a6, a7⟩ := a
  unfold plainArgs at h
  simp only [Bool.and_eq_true, List.isEmpty_iff, Option.isNone_iff_eq_none] at h
  obtain ⟨⟨⟨⟨⟨rfl, rfl⟩, rfl⟩, rfl⟩, rfl⟩, rfl⟩ := h
  rfl
theorem by_name {α : Type} (nm : α → Str) {d d' : α} (hn : nm d' = nm d) : ∀ l : List α, (l.map nm).Nodup → d' ∈ l → d ∈ l → d' = d := by
  intro l
  induction l with
  | nil => intro _ h; cases h
  | cons x l ih =>
    intro hnd h1 h2
    have hnd' := List.nodup_cons.mp hnd
    rcases List.mem_cons.mp h1 with rfl | h1' <;> rcases List.mem_cons.mp h2 with rfl | h2'
    · rfl
    · exact (hnd'.1 (by rw [hn]; exact List.mem_map_of_mem (f := nm) h2')).elim
    · exact (hnd'.1 (by rw [← hn]; exact List.mem_map_of_mem (f := nm) h1')).elim
    · exact ih hnd'.2 h1' h2'
section
variable {p : Program} {loose : List Str} {mean : ExcName → Option Value} {mg mb mN : Str → Option Value} {S : Stat} {C : Ctx} {tab tF tM : List (Nat × Fn)} {c : ClsRec} {Cb N : Addr}
theorem fnAt_rec {k : Nat} {fn : Fn} {o : Obj} {fd : FuncData} {params : Arguments} {body : List Stmt} {scope : Scope} (hr : recFn C params body scope = some fn) (e2 : S.hb.get? (S.fn k) = some o) (e3 : o.data = .func fd)
    (h1 : fd.params = params) (h2 : fd.body = .stmts body) (h3 : fd.scope = scope) (h4 : fd.closure = []) (h5 : fd.globals = mainGlobals) (h6 : fd.builtins = builtinsNs) (h7 : fd.defaults = .none) (h8 : fd.kwdefaults = .none) (e4 : S.hb.CodeRec fd.code fd.qualname) : FnAt S C k fn := by
  subst h1 h3
  unfold recFn at hr
  by_cases hc : recOkB fd.params fd.scope = true
  case neg => rw [if_neg hc] at hr; first | exact zAA hr | exact ff_tt hr | cases hr
  rw [if_pos hc] at hr
  cases hr
  unfold recOkB at hc
  simp only [Bool.and_eq_true, Bool.not_eq_true', beq_iff_eq, decide_eq_true_eq] at hc
  obtain ⟨⟨⟨⟨⟨⟨⟨c0, c1⟩, c2⟩, c3⟩, c4⟩, c5⟩, c6⟩, c7⟩ := hc
  refine ⟨o, fd, body, fd.params.args.map (·.arg), e2, e3, h2, h4, h5, h6, e4, c1, c2, c3, fun vals hv => bind_all (zFC c0) h7 h8 c4 vals hv, c4, fun q hq => ?_, fun q hq => ?_, c7, rfl, rfl, rfl⟩
  · have := List.all_eq_true.mp c5 q hq
    exact (Bool.or_eq_true_iff.mp this).imp eq_of_beq eq_of_beq
  · intro e
    have := List.any_eq_false.mp c6 q hq
    rw [e] at this
    exact this rfl
theorem fn_at (T : Top p loose mean mg mb S.hb) (hf : fnsOk C (recsOf p) = true) (hS : S.fn = fnAddr C mg mN) {x : Str} {k : Nat} (h : C.fns.lookup x = some k) :
    ∃ d ∈ recsOf p, d.name = x ∧ ∃ o pm code doc, mg x = some (.ref (S.fn k)) ∧ S.hb.get? (S.fn k) = some o ∧ o.data = .func (Calls.docDef d.name d.params d.body d.scope pm code doc) ∧ S.hb.CodeRec code d.name := by
  have hm := zAH h
  have := List.all_eq_true.mp hf _ hm
  simp only [Bool.and_eq_true, beq_iff_eq] at this
  obtain ⟨h1, h2⟩ := this
  obtain ⟨d, hd, hn⟩ := List.any_eq_true.mp h2
  obtain rfl := eq_of_beq hn
  obtain ⟨a, o, pm, code, doc, e1, e2, e3, e4⟩ := T.fn d hd
  have ha : S.fn k = a := by rw [hS, fnAddr, h1]; simp only [e1, refOf]
  rw [ha]
  exact ⟨d, hd, rfl, o, pm, code, doc, e1, e2, e3, e4⟩
theorem fnAt_of (T : Top p loose mean mg mb S.hb) (hf : fnsOk C (recsOf p) = true) (hS : S.fn = fnAddr C mg mN) (hone : ((recsOf p).map (·.name)).Nodup) (htab : tabF C (recsOf p) = some tF) : ∀ k fn, (k, fn) ∈ tF → FnAt S C k fn := by
  intro k fn hk
  obtain ⟨d, hd, e⟩ := zHD htab hk
  simp only [Option.bind_eq_some_iff, Option.map_eq_some_iff] at e
  obtain ⟨k', hl, f, hr, e⟩ := e
  cases e
  obtain ⟨d', hd', hn, o, pm, code, doc, -, e2, e3, e4⟩ := fn_at T hf hS hl
  obtain rfl := by_name (·.name) hn _ hone hd' hd
  exact fnAt_rec hr e2 e3 rfl rfl rfl rfl rfl rfl rfl rfl e4
noncomputable def freeOk (p : Program) (loose : List Str) (C : Ctx) : Bool := (b1Names.map (·.1) ++ b2Names.map (·.1) ++ kindNames.map (·.1) ++ [("isinstance" : Str), "range"]).all fun x =>
  (C.fns.lookup x).isSome || (x != ("__name__" : Str) && !(startupNames.contains x || loose.contains x || ((recsOf p).map (·.name)).contains x || ((litsOf p).map (·.1)).contains x || ((clssOf p loose).map (·.name)).contains x))
theorem facts_of (T : Top p loose mean mg mb S.hb) (hf : fnsOk C (recsOf p) = true) (hS : S.fn = fnAddr C mg mN) (hfree : freeOk p loose C = true)
    (hconst : ∀ x v, C.consts.lookup x = some v → ∃ w, mg x = some w ∧ VR S [] [] S.hb v w) (hbook : C.book = true → mg "Book" = some (.ref S.book)) (hB : (C.book = false ∧ C.meths = [] ∧ C.attrs = []) ∨ (C.attrs = attrNames ∧ BookAt S C))
    (hexc : ∀ x c, C.excs.lookup x = some c → (mg x = some (S.cl c)) ∨ (mg x = none ∧ mb x = some (S.cl c))) (hcl : ∀ x c, C.excs.lookup x = some c → c ∈ S.kn ∧ (x ≠ ("ValueError" : Str) → ExcCl S c))
    (hparts : PartsAt S S.hb) (hpn : S.parts ≠ .none) (fa : ∀ k fn, tab.lookup k = some fn → FnAt S C k fn) : Facts S C (fun k => tab.lookup k) := by
  refine ⟨⟨mg, mb, T.g, T.b, hconst, fun x k h => ?_, fun x hx hn => ?_, hbook, hexc⟩, T.nolimit, hB, hcl, hparts, hpn, fun k fn h => ?_⟩
  · obtain ⟨_, _, _, _, _, _, _, e, _⟩ := fn_at T hf hS h
    exact e
  · have hm : x ∈ b1Names.map (·.1) ++ b2Names.map (·.1) ++ kindNames.map (·.1) ++ [("isinstance" : Str), "range"] := by
      simp only [List.mem_append, List.mem_cons, List.not_mem_nil, or_false]
      rcases hx with h | h | h | h | h
      · exact .inl (.inl (.inl h))
      · exact .inl (.inl (.inr h))
      · exact .inl (.inr h)
      · exact .inr (.inl h)
      · exact .inr (.inr h)
    have := List.all_eq_true.mp hfree x hm
    rw [hn] at this
    simp only [Option.isSome_none, Bool.false_or, Bool.and_eq_true, bne_iff_ne, ne_eq, Bool.not_eq_true', Bool.or_eq_false_iff] at this
    obtain ⟨h0, ⟨⟨⟨h1, h2⟩, h3⟩, h4⟩, h5⟩ := this
    have no : ∀ {l : List Str}, l.contains x = false → x ∉ l := fun h hm => by rw [List.contains_iff_mem.mpr hm] at h; cases h
    exact ⟨T.free x (no h1) (no h2) (no h3) (no h4) (no h5), T.builtins x h0⟩
  · obtain ⟨o, fd, _, _, h1, h2, _⟩ := fa k fn h
    exact ⟨o, fd, h1, h2⟩
theorem VR_script {P : Params} {a : Addr} {ns : List Int} (W : Well P S.hb (.ref a) (ofPy (.list (ns.map PyData.int)))) (hl : ns.length ≤ LIM) : VR S [] [] S.hb (.lst (ns.map V.int)) (.ref a) := by
  have key : ∀ {vs : List Value} {l : List Int}, WellAll P S.hb vs (ofPys (l.map PyData.int)) → VRs S [] [] S.hb (l.map V.int) vs := by
    intro vs l
    induction l generalizing vs with
    | nil => intro h; cases h; rw [List.map_nil, VRs]; trivial
    | cons n l ih =>
      intro h
      cases h with
      | cons h1 h2 =>
        cases h1
        rw [List.map_cons, VRs]
        exact ⟨by rw [VR]; exact ⟨_, rfl⟩, ih h2⟩
  cases W with
  | list h1 h2 =>
    rw [VR]
    exact ⟨a, _, _, rfl, ⟨by simp [addrs], by simp⟩, h1, key h2, by simpa using hl⟩
theorem law_call (fs : Facts S C (fun k => tab.lookup k)) (cl : Clean C) (fa : ∀ k fn, tab.lookup k = some fn → FnAt S C k fn) {s₁ : Shared} (hS : S.hb = s₁.heap) {ns : List Int} {a : Addr} {k d : Nat} (hd : d ≤ 100)
    (hv : VR S [] [] S.hb (.lst (ns.map V.int)) (.ref a)) (hres : ∃ σ', callFn (fun k => tab.lookup k) d false k [.lst (ns.map V.int)] [] = .ok (.bool true) σ') :
    codeAny (model S.prog S.w) callerA (.call (.ref (S.fn k)) ⟨[.ref a], []⟩) (fun r s' => r = .ok (.ret (.bool true)) ∧ (∀ b o, s₁.heap.get? b = some o → s'.heap.get? b = some o) ∧ s'.os = s₁.os ∧ s'.gens = s₁.gens) s₁ := by
  obtain ⟨σ', hres⟩ := hres
  have L : Lk S [] [] [] s₁.heap := ⟨fun b o h => hS ▸ h, rfl, .nil, (fun a h => nomatch h), (fun a h => nomatch h), fun i l o h => by simp at h⟩
  have cx : CxC S callerA false d [] s₁.heap := ⟨by show 1 + claimMargin + 2 * d + 2 ≤ 900; simp only [claimMargin]; omega, by show 4 + 5 * d + 200 ≤ 9900; omega, fun _ => rfl, [], rfl, fun _ h => nomatch h⟩
  have := (zCI fs cl fa d false k [.lst (ns.map V.int)] [] [] [] callerA s₁ [.ref a] cx L (by rw [VRs, VRs]; exact ⟨hS ▸ hv, trivial⟩) (by rw [hres]; simp)).2
  refine codeAny_mono this fun r s' h => ?_
  match r, h with
  | .ok (.ret v), h =>
    obtain ⟨b, σ'', g, e, hg, kp, L', p⟩ := h
    rw [hres] at e
    cases e
    have hv : v = .bool true := by have : VR _ _ _ _ _ _ := p; rwa [VR] at this
    refine ⟨by rw [hv], fun b o h => L'.base b o (hS ▸ h), ?_, ?_⟩
    · rw [kp.rest]
    · rw [kp.rest]
  | .error e, h =>
    obtain ⟨c, σ'', g, ea, e1, e2, hgE, kE, LE, xE⟩ := h
    rw [hres] at e2
    cases e2
end
theorem law_raises (l : OpenLaw) (args : List WData) (cls : ExcName) : l.row.claim.raises args cls = false := rfl
theorem law_post (l : OpenLaw) (args : List WData) : l.row.claim.post args (.bool true) args = true :=
  postW_of (X := true) (by rfl) (by wtm_val) rfl
theorem law_good (l : OpenLaw) {args : List WData} {c : Str → Option Addr} {mean : ExcName → Option Value} {s₁ s' : Shared} (hk : ∀ b o, s₁.heap.get? b = some o → s'.heap.get? b = some o) (hos : s'.os = s₁.os) (hg : s₁.gens = #[]) (hgs : s'.gens = s₁.gens) :
    GoodWG l.row.claim c mean args s₁ (.ok (.ret (.bool true))) s' :=
  ⟨.inl ⟨_, .bool true, [], rfl, law_raises l args, .bool true, law_post l args, fun _ => ⟨.nil, fun _ h => nomatch h⟩⟩, .of_keep hk, hos, fun y hy => by rw [hgs, hg] at hy; simp at hy⟩
end Mine
end

/-! # Plain2 -/
section
set_option autoImplicit false
namespace Mine
open PySem
section
variable {F Fq : Calls} {q : Bool} {ρ ρ' : List V} {σ σ' σ₁ σ₂ σ₃ : Sto} {rest A B : List CS} {r : R Fl} {v x y z : V} {c e a b : CE} {i : Nat}
@[simp] theorem fnEnd_ret (v : V) : fnEnd (.ret v) σ = .ok v σ := rfl
@[simp] theorem fnEnd_next : fnEnd (.next ρ) σ = .ok .none σ := rfl
noncomputable def thenL (F Fq : Calls) (q : Bool) (ss : List CS) (fl : Fl) (σ : Sto) : R Fl :=
  match fl with
  | .next ρ => exL F Fq q ss ρ σ
  | .ret v => .ok (.ret v) σ
theorem zBA (s : CS) : exL F Fq q (s :: rest) ρ σ = (exS F Fq q s ρ σ).bind (thenL F Fq q rest) := by
  rw [x_lcons]
  cases exS F Fq q s ρ σ with
  | ok fl σ => cases fl <;> rfl
  | _ => rfl
theorem zCE : ∀ (A rest : List CS) (ρ : List V) (σ : Sto), exL F Fq q (A ++ rest) ρ σ = (exL F Fq q A ρ σ).bind (thenL F Fq q rest)
  | [], _, _, _ => rfl
  | s :: A, rest, ρ, σ => by
    rw [List.cons_append, zBA, zBA]
    cases exS F Fq q s ρ σ with
    | ok fl σ =>
      cases fl with
      | next ρ => exact zCE A rest ρ σ
      | ret v => rfl
    | _ => rfl
theorem s_asg (h : evE F q e ρ σ = .ok v σ') (k : exL F Fq q rest (ρ.set i v) σ' = r) : exL F Fq q (.asg i e :: rest) ρ σ = r := by
  rw [zBA, x_asg, h]; exact k
theorem s_exp (h : evE F q e ρ σ = .ok v σ') (k : exL F Fq q rest ρ σ' = r) : exL F Fq q (.exp e :: rest) ρ σ = r := by
  rw [zBA, x_exp, h]; exact k
theorem s_ret (h : evE F q e ρ σ = .ok v σ') : exL F Fq q (.ret e :: rest) ρ σ = .ok (.ret v) σ' := by
  rw [zBA, x_ret, h]; rfl
theorem zEy {c : Cls} (h : evE F q e ρ σ = .exc c σ') : exL F Fq q (.ret e :: rest) ρ σ = .exc c σ' := by
  rw [zBA, x_ret, h]; rfl
theorem s_t (h : evC F q (some c) ρ σ = .ok true σ') (k : exL F Fq q (A ++ rest) ρ σ' = r) : exL F Fq q (.ite c A B :: rest) ρ σ = r := by
  rw [zCE] at k
  rw [zBA, x_ite]
  rw [zDr] at h
  cases hc : evE F q c ρ σ with
  | ok v σ₁ =>
    rw [hc, R.bind_ok] at h
    rw [R.bind_ok]
    cases ht : truthy σ₁ v with
    | none => rw [ht] at h; cases h
    | some t => rw [ht] at h; cases h; exact k
  | exc _ _ => rw [hc] at h; cases h
  | stuck => rw [hc] at h; cases h
theorem s_f (h : evC F q (some c) ρ σ = .ok false σ') (k : exL F Fq q (B ++ rest) ρ σ' = r) : exL F Fq q (.ite c A B :: rest) ρ σ = r := by
  rw [zCE] at k
  rw [zBA, x_ite]
  rw [zDr] at h
  cases hc : evE F q c ρ σ with
  | ok v σ₁ =>
    rw [hc, R.bind_ok] at h
    rw [R.bind_ok]
    cases ht : truthy σ₁ v with
    | none => rw [ht] at h; cases h
    | some t => rw [ht] at h; cases h; exact k
  | exc _ _ => rw [hc] at h; cases h
  | stuck => rw [hc] at h; cases h
theorem s_nil : exL F Fq q [] ρ σ = .ok (.next ρ) σ := rfl
theorem t_of {t : Bool} (h : evE F q c ρ σ = .ok v σ') (ht : truthy σ' v = some t) : evC F q (some c) ρ σ = .ok t σ' := by
  rw [zDr, h, R.bind_ok, ht]; rfl
theorem zAB {t : Bool} (h : evE F q c ρ σ = .ok (.bool t) σ') : evC F q (some c) ρ σ = .ok t σ' := t_of h rfl
theorem e_p1 {o : P1} (ha : evE F q a ρ σ = .ok x σ₁) (h : ev1 o σ₁ x = some z) (hl : (loud1 o && q) = false := by rfl) : evE F q (.p1 o a) ρ σ = .ok z σ₁ := by
  rw [x_p1, hl, ha, R.bind_ok, h]; rfl
theorem e_p2 {o : P2} (ha : evE F q a ρ σ = .ok x σ₁) (hb : evE F q b ρ σ₁ = .ok y σ₂) (h : ev2 o σ₂ x y = some z) (hl : (loud2 o && q) = false := by rfl) : evE F q (.p2 o a b) ρ σ = .ok z σ₂ := by
  rw [x_p2, hl, ha, R.bind_ok, hb, R.bind_ok, h]; rfl
theorem e_and_f (ha : evE F q a ρ σ = .ok x σ₁) (ht : truthy σ₁ x = some false) : evE F q (.and a b) ρ σ = .ok x σ₁ := by
  rw [x_and, ha, R.bind_ok, ht]; rfl
theorem zDO {r : R V} (ha : evE F q a ρ σ = .ok x σ₁) (ht : truthy σ₁ x = some true) (hb : evE F q b ρ σ₁ = r) : evE F q (.and a b) ρ σ = r := by
  rw [x_and, ha, R.bind_ok, ht]; exact hb
theorem zBv (ha : evE F q a ρ σ = .ok x σ₁) (ht : truthy σ₁ x = some true) : evE F q (.or a b) ρ σ = .ok x σ₁ := by
  rw [x_or, ha, R.bind_ok, ht]; rfl
theorem zAa {r : R V} (ha : evE F q a ρ σ = .ok x σ₁) (ht : truthy σ₁ x = some false) (hb : evE F q b ρ σ₁ = r) : evE F q (.or a b) ρ σ = r := by
  rw [x_or, ha, R.bind_ok, ht]; exact hb
theorem zAJ {f : Nat} {args : List CE} {vs : List V} {r : R V} (ha : evL F q args ρ σ = .ok vs σ₁) (h : F f vs σ₁ = r) : evE F q (.call f args) ρ σ = r := by
  rw [x_call, ha]; exact h
theorem zAE {es : List CE} {vs : List V} (h : evE F q e ρ σ = .ok v σ₁) (hs : evL F q es ρ σ₁ = .ok vs σ₂) : evL F q (e :: es) ρ σ = .ok (v :: vs) σ₂ := by
  rw [zDZ, h, R.bind_ok, hs]; rfl
theorem e_tup {es : List CE} {vs : List V} (h : evL F q es ρ σ = .ok vs σ₁) : evE F q (.tup es) ρ σ = .ok (.tup vs) σ₁ := by rw [x_tup, h]; rfl
theorem zFw {es : List CE} {vs : List V} (h : evL F q es ρ σ = .ok vs σ₁) : evE F q (.list es) ρ σ = .ok (.lst vs) σ₁ := by rw [x_list, h]; rfl
theorem zHP (hl : evE F q a ρ σ = .ok x σ₁) (hi : isListV σ₁ x = true) (hx : evE F q b ρ σ₁ = .ok y σ₂) (h : doAppend σ₂ x y = .ok v σ') : evE F q (.append a b) ρ σ = .ok v σ' := by
  rw [zGm, hl, R.bind_ok, if_pos hi, hx]; exact h
end
section
variable {T : Nat → Option Fn} {d k : Nat} {q : Bool} {fn : Fn} {args : List V} {σ σ' : Sto}
theorem zAb {c : Cls} (h : T k = some fn) (hl : args.length = fn.params) (hx : exL (callFn T d q) (callFn T d true) q fn.body (args ++ List.replicate (fn.slots - fn.params) .undef) σ = .exc c σ') : callFn T (d + 1) q k args σ = .exc c σ' := by
  rw [zDR, h]; simp only [hl, if_true, hx]; rfl
end
end Mine
end

/-! # PB -/
section
set_option autoImplicit false
namespace Mine
open PySem
noncomputable def tr (t : Bool) (e : CE) : CE := match t with
  | true => .trk e
  | false => e
noncomputable def fB_21 : Fn := { params := 1, slots := 1, body := [CS.ite (CE.or (CE.p1 P1.not (CE.p1 (P1.isInst Kd.str) (CE.var 0))) (CE.p1 P1.not (CE.chain (CE.lit (V.int 1)) [P2.le, P2.le] [CE.p1 P1.len (CE.var 0),CE.lit (V.int 12)]))) [CS.ret (CE.lit (V.bool false))] [],CS.ret (CE.p1 P1.all (CE.comp (CE.p2 P2.isIn (CE.var 1) (CE.lit (V.str { cps := #[97,98,99,100,101,102,103,104,105,106,107,108,109,110,111,112,113,114,115,116,117,118,119,120,121,122] }))) SK.val [CE.var 0] none))] }
end Mine
end

/-! # BkA -/
section
set_option autoImplicit false
namespace Mine
open PySem
structure Ln where
  item : Str
  p : Int
  c : Int
  k : Int
  s : Int
  b : Int
  a : Int
  r : Int
noncomputable def Ln.v (l : Ln) : V := .tup [.str l.item, .int l.p, .int l.c, .int l.k, .int l.s, .int l.b, .int l.a, .int l.r]
structure Ln.ok (l : Ln) : Prop where
  p1 : 1 ≤ l.p
  p2 : l.p ≤ 1000000
  c1 : 0 ≤ l.c
  c2 : l.c ≤ 1000000000
  k1 : 1 ≤ l.k
  k2 : l.k ≤ 1000
noncomputable def Ln.worth (l : Ln) : Int := ((l.s - l.b) * l.c).fdiv l.k
noncomputable def Ln.charge (l : Ln) : Int := l.worth - l.r
structure Or where
  lines : List Ln
  paid : Int
  rows : List (Str × Int)
noncomputable def rowV (r : Str × Int) : V := .tup [.str r.1, .int r.2]
noncomputable def Or.v (o : Or) : V := .tup [.tup (o.lines.map Ln.v), .int o.paid, .tup (o.rows.map rowV)]
noncomputable def Or.owed (o : Or) : Int := (o.lines.map Ln.charge).sum - o.paid
noncomputable def sDel : Str := { cps := #[100, 101, 108, 105, 118, 101, 114] }
noncomputable def sBack : Str := { cps := #[98, 97, 99, 107] }
noncomputable def sSwap : Str := { cps := #[115, 119, 97, 112] }
noncomputable def sCred : Str := { cps := #[99, 114, 101, 100, 105, 116] }
noncomputable def sPay : Str := { cps := #[112, 97, 121] }
noncomputable def sRef : Str := { cps := #[114, 101, 102, 117, 110, 100] }
noncomputable def sMove : Str := { cps := #[109, 111, 118, 101] }
noncomputable def sOrd : Str := { cps := #[111, 114, 100, 101, 114] }
inductive Wd where
  | del | back | swap | cred
noncomputable def Wd.s : Wd → Str
  | .del => sDel
  | .back => sBack
  | .swap => sSwap
  | .cred => sCred
noncomputable def mostOf (w : Wd) (l : Ln) : Int :=
  match w with
  | .del => l.p - l.s + l.a
  | .cred => l.charge
  | _ => l.s - l.b
noncomputable def pmin (x y : Int) : Int := if y < x then y else x
noncomputable def behindL (w : Wd) (l : Ln) (n : Int) : Ln :=
  match w with
  | .del => { l with s := l.s + n }
  | .cred => { l with r := l.r + n }
  | .back => { l with b := l.b + n, r := pmin l.r (((l.s - (l.b + n)) * l.c).fdiv l.k) }
  | .swap => { l with b := l.b + n, a := l.a + n, r := pmin l.r (((l.s - (l.b + n)) * l.c).fdiv l.k) }
noncomputable def rv (t : Bool) (σ : Sto) (vs : List V) : V := match t with
  | true => .ref σ.length
  | false => .lst vs
noncomputable def rs (t : Bool) (σ : Sto) (vs : List V) : Sto := match t with
  | true => σ ++ [.list vs]
  | false => σ
section
variable {T : Nat → Option Fn} {t : Bool} {d : Nat} {q : Bool} {σ : Sto}
end
end Mine
end

/-! # BkB -/
section
set_option autoImplicit false
namespace Mine
open PySem
structure BookIn (σ : Sto) (b e h : Nat) (es hs : List V) : Prop where
  inst : σ[b]? = some (.inst [(1, .ref h), (0, .ref e)])
  ent : σ[e]? = some (.list es)
  his : σ[h]? = some (.list hs)
  ne : e ≠ h
section
variable {T : Nat → Option Fn} {t : Bool} {F : Calls} {d : Nat} {q : Bool} {σ : Sto} {b e h : Nat} {es hs : List V} {ρ : List V}
theorem BookIn.isInst (B : BookIn σ b e h es hs) : isInst σ (.ref b) = true := by
  show (match σ[b]? with | some (.inst _) => true | _ => false) = true
  rw [B.inst]
theorem BookIn.a0 (B : BookIn σ b e h es hs) : doAttr σ (.ref b) 0 = some (.ref e) := by
  show attrO 0 σ[b]? = _
  rw [B.inst]; rfl
theorem BookIn.a1 (B : BookIn σ b e h es hs) : doAttr σ (.ref b) 1 = some (.ref h) := by
  show attrO 1 σ[b]? = _
  rw [B.inst]; rfl
noncomputable def toldV (l : Ln) : V := .tup [.str l.item, .int l.p, .int l.s, .int l.b, .int l.a, .int l.r]
end
end Mine
end

/-! # BkC -/
section
set_option autoImplicit false
namespace Mine
open PySem
structure Or.ok (u : Or) : Prop where
  few : u.lines.length ≤ 20
  ls : ∀ l ∈ u.lines, l.ok
noncomputable def dL (w : Wd) (o k n : Int) : V := .tup [.str w.s, .int o, .int k, .int n]
noncomputable def atI {α : Type} (l : List α) (i : Int) : Option α := if (decide (0 ≤ i) && decide (i < (l.length : Int))) = true then l[i.toNat]? else none
noncomputable def errN (n m : Int) : Option Cls := if n < 1 then some .NoNumber else if n > m then some .TooMuch else none
noncomputable def errK (w : Wd) (n : Int) : Option Ln → Option Cls
  | none => some .NoLine
  | some l => errN n (mostOf w l)
noncomputable def errU (w : Wd) (k n : Int) : Option Or → Option Cls
  | none => some .NoOrder
  | some u => errK w n (atI u.lines k)
noncomputable def errL (us : List Or) (w : Wd) (o k n : Int) : Option Cls := errU w k n (atI us o)
section
variable {T : Nat → Option Fn} {t : Bool} {F Fq : Calls} {d : Nat} {q : Bool} {σ : Sto} {b e h : Nat} {us : List Or} {hs : List V} {ρ : List V}
end
end Mine
end

/-! # BkD -/
section
set_option autoImplicit false
namespace Mine
open PySem
section
variable {T : Nat → Option Fn} {t : Bool} {F Fq : Calls} {d : Nat} {q : Bool} {σ : Sto} {b e h : Nat} {es hs : List V} {ρ : List V}
theorem zGh {a : CE} {lo hi : Option CE} {x z : V} {i j : Option Int} (ha : evE F q a ρ σ = .ok x σ) (hl : evO F q lo ρ σ = .ok i σ) (hh : evO F q hi ρ σ = .ok j σ) (h : evSlice σ x i j = some z) : evE F q (.slice a lo hi) ρ σ = .ok z σ := by
  rw [x_slice, ha, R.bind_ok, hl, R.bind_ok, hh, R.bind_ok, h]; rfl
theorem zBt {x : O} {i : Nat} {y : O} (hi : σ[i]? = some y) : (σ ++ [x])[i]? = some y := by
  rw [List.getElem?_append_left (List.getElem?_eq_some_iff.mp hi).1]; exact hi
theorem get_set_ne {i j : Nat} {x y : O} (hi : σ[i]? = some y) (hne : j ≠ i) : (σ.set j x)[i]? = some y := by
  rw [List.getElem?_set_ne hne]; exact hi
theorem BookIn.push (B : BookIn σ b e h es hs) (x : O) : BookIn (σ ++ [x]) b e h es hs := ⟨zBt B.inst, zBt B.ent, zBt B.his, B.ne⟩
theorem BookIn.keep {σ' : Sto} (B : BookIn σ b e h es hs) (k : ∀ (i : Nat) (o : O), σ[i]? = some o → σ'[i]? = some o) : BookIn σ' b e h es hs := ⟨k _ _ B.inst, k _ _ B.ent, k _ _ B.his, B.ne⟩
end
noncomputable def upL (w : Wd) (u : Or) (k : Nat) (l : Ln) (n : Int) : Or := { lines := u.lines.set k (behindL w l n), paid := u.paid, rows := u.rows ++ [(w.s, (behindL w l n).charge - l.charge)] }
theorem zBa {w : Wd} {l : Ln} {n : Int} (h : l.ok) : (behindL w l n).ok := by cases w <;> exact ⟨h.1, h.2, h.3, h.4, h.5, h.6⟩
theorem zGv {σ : Sto} {x y : O} : (σ ++ [x]).set σ.length y = σ ++ [y] := by
  rw [List.set_append_right _ _ (Nat.le_refl _), Nat.sub_self]; rfl
theorem zBu {σ : Sto} {x : O} : (σ ++ [x])[σ.length]? = some x := by
  rw [List.getElem?_append_right (Nat.le_refl _), Nat.sub_self]; rfl
section
variable {T : Nat → Option Fn} {t : Bool} {d : Nat} {q : Bool} {σ : Sto} {b e h : Nat} {us : List Or} {hs : List V} {w : Wd} {o k : Nat} {n : Int} {u : Or} {l : Ln}
end
end Mine
end

/-! # BkE -/
section
set_option autoImplicit false
namespace Mine
open PySem
noncomputable def letters : Str := { cps := #[97, 98, 99, 100, 101, 102, 103, 104, 105, 106, 107, 108, 109, 110, 111, 112, 113, 114, 115, 116, 117, 118, 119, 120, 121, 122] }
noncomputable def letterOk (c : Nat) : Bool := (codes letters).contains c
noncomputable def itemOk (s : Str) : Bool := decide (1 ≤ s.length) && decide (s.length ≤ 12) && (codes s).all letterOk
noncomputable def Ln.raw (l : Ln) : V := .tup [.str l.item, .int l.p, .int l.c, .int l.k]
noncomputable def Ln.fresh (l : Ln) : Ln := { l with s := 0, b := 0, a := 0, r := 0 }
theorem Ln.ok.fresh {l : Ln} (h : l.ok) : l.fresh.ok := ⟨h.1, h.2, h.3, h.4, h.5, h.6⟩
structure Ln.good (l : Ln) : Prop where
  ok : l.ok
  item : itemOk l.item = true
  asc : l.item.cps.all (· < 128) = true
noncomputable def newOr (ls : List Ln) : Or := { lines := ls.map Ln.fresh, paid := 0, rows := [] }
section
variable {T : Nat → Option Fn} {t : Bool} {F Fq : Calls} {d : Nat} {q : Bool} {σ : Sto} {b e h : Nat} {es hs : List V} {ρ : List V}
theorem zFx {a b c : CE} {lo x hi : Int} (ha : evE F q a ρ σ = .ok (.int lo) σ) (hb : evE F q b ρ σ = .ok (.int x) σ) (hc : evE F q c ρ σ = .ok (.int hi) σ) : evE F q (.chain a [.le, .le] [b, c]) ρ σ = .ok (.bool (decide (lo ≤ x) && decide (x ≤ hi))) σ := by
  rw [zDs, ha, R.bind_ok, x_ch2, hb]
  show (if decide (lo ≤ x) = true then evChain F q [P2.le] [c] (.int x) ρ σ else .ok (.bool (decide (lo ≤ x))) σ) = _
  cases decide (lo ≤ x) with
  | false => rfl
  | true =>
    show evChain F q [P2.le] [c] (.int x) ρ σ = _
    rw [x_ch1, hc]; rfl
theorem zDT {α : Type} (g : α → Bool) : ∀ l : List α, bools? (l.map fun x => V.bool (g x)) = some (l.map g)
  | [] => rfl
  | x :: l => by
    have := zDT g l
    unfold bools? at this ⊢
    rw [List.map_cons, List.mapM_cons, this]; rfl
noncomputable def dO (ls : List Ln) : V := .tup [.str sOrd, .lst (ls.map Ln.raw)]
end
end Mine
end

/-! # BkF -/
section
set_option autoImplicit false
namespace Mine
open PySem
noncomputable def dP (o n : Int) : V := .tup [.str sPay, .int o, .int n]
noncomputable def dR (o n : Int) : V := .tup [.str sRef, .int o, .int n]
noncomputable def dM (o p n : Int) : V := .tup [.str sMove, .int o, .int p, .int n]
noncomputable def errP1 (n : Int) : Option Or → Option Cls
  | none => some .NoOrder
  | some _ => if n < 1 then some .NoNumber else none
noncomputable def errPay (us : List Or) (o n : Int) : Option Cls := errP1 n (atI us o)
noncomputable def errR1 (n : Int) : Option Or → Option Cls
  | none => some .NoOrder
  | some u => errN n (0 - u.owed)
noncomputable def errRef (us : List Or) (o n : Int) : Option Cls := errR1 n (atI us o)
noncomputable def errM2 (u : Or) (o p n : Int) : Option Or → Option Cls
  | none => some .NoOrder
  | some _ => if o == p then some .SameOrder else errN n (0 - u.owed)
noncomputable def errM1 (us : List Or) (o p n : Int) : Option Or → Option Cls
  | none => some .NoOrder
  | some u => errM2 u o p n (atI us p)
noncomputable def errMov (us : List Or) (o p n : Int) : Option Cls := errM1 us o p n (atI us o)
noncomputable def payOr (u : Or) (w : Str) (c : Int) : Or := { lines := u.lines, paid := u.paid + c, rows := u.rows ++ [(w, 0 - c)] }
section
variable {T : Nat → Option Fn} {t : Bool} {F Fq : Calls} {d : Nat} {q : Bool} {σ : Sto} {b e h : Nat} {us : List Or} {hs : List V} {ρ : List V} {o p : Nat} {n : Int} {u u' : Or}
end
end Mine
end

/-! # BkG -/
section
set_option autoImplicit false
namespace Mine
open PySem
section
variable {T : Nat → Option Fn} {t : Bool} {F Fq : Calls} {d : Nat} {q : Bool} {σ : Sto} {b e h : Nat} {us : List Or} {hs : List V} {ρ : List V} {o p : Nat} {n : Int} {u u' : Or}
noncomputable def movOr (us : List Or) (o p : Nat) (u u' : Or) (n : Int) : List Or := (us.set o (payOr u sMove (0 - n))).set p (payOr u' sMove n)
end
end Mine
end

/-! # PG -/
section
set_option autoImplicit false
namespace Mine
open PySem
noncomputable def gWhole : Fn := { params := 1, slots := 1, body := [CS.ret (CE.and (CE.p1 (P1.isInst Kd.int) (CE.var 0)) (CE.p1 P1.not (CE.p1 (P1.isInst Kd.bool) (CE.var 0))))] }
end Mine
end

/-! # GA -/
section
set_option autoImplicit false
namespace Mine
open PySem
theorem zDL (a : Int) {m : Int} (h : 0 < m) : 0 ≤ a.fmod m ∧ a.fmod m < m := ⟨Int.fmod_nonneg_of_pos a h, Int.fmod_lt_of_pos a h⟩
theorem zBC (a : Int) {m : Nat} (h : 0 < m) : ∃ k : Nat, a.fmod (m : Int) = k ∧ k < m := by
  obtain ⟨h1, h2⟩ := zDL a (m := (m : Int)) (Int.natCast_pos.mpr h)
  exact ⟨(a.fmod (m : Int)).toNat, (Int.toNat_of_nonneg h1).symm, (Int.toNat_lt h1).mpr h2⟩
theorem zGx (a : Int) {m : Nat} (hm : 0 < m) : ∃ n : Nat, 1 + a.fmod (m : Int) = (n : Int) ∧ 1 ≤ n ∧ n ≤ m := by
  obtain ⟨z, hz, hlt⟩ := zBC a hm
  exact ⟨1 + z, by rw [hz]; rfl, Nat.le_add_right 1 z, Nat.add_comm 1 z ▸ hlt⟩
section
variable {F Fq : Calls} {q : Bool} {ρ : List V} {σ : Sto}
theorem e_or {a b : CE} {s t : Bool} (ha : evE F q a ρ σ = .ok (.bool s) σ) (hb : evE F q b ρ σ = .ok (.bool t) σ) : evE F q (.or a b) ρ σ = .ok (.bool (s || t)) σ := by
  cases s with
  | true => exact zBv ha rfl
  | false => exact zAa ha rfl hb
theorem e_and {a b : CE} {s t : Bool} (ha : evE F q a ρ σ = .ok (.bool s) σ) (hb : evE F q b ρ σ = .ok (.bool t) σ) : evE F q (.and a b) ρ σ = .ok (.bool (s && t)) σ := by
  cases s with
  | true => exact zDO ha rfl hb
  | false => exact e_and_f ha rfl
theorem zHO {a b m : CE} {c p z : Int} (ha : evE F q a ρ σ = .ok (.int c) σ) (hb : evE F q b ρ σ = .ok (.int p) σ) (hm : evE F q m ρ σ = .ok (.int z) σ) (hp : (p == 0) = false) (hz : (z == 0) = false) : evE F q (.p2 .mod (.p2 .mod (.p2 .mul a (.lit (.int 48271))) b) m) ρ σ = .ok (.int (((c * 48271).fmod p).fmod z)) σ :=
  e_p2 (e_p2 (e_p2 ha rfl (zEh σ c 48271 (.inr rfl))) hb (zAi σ _ p hp)) hm (zAi σ _ z hz)
end
section
variable {T : Nat → Option Fn} {d k : Nat} {q : Bool} {σ : Sto}
theorem g_whole (h : T k = some gWhole) (i : Int) : callFn T (d + 1) q k [.int i] σ = .ok (.bool true) σ := zAD h rfl (s_ret rfl)
theorem zHE : ∀ cs : List Nat, Str.join (mkS []) (cs.map fun c => mkS [c]) = mkS cs
  | [] => rfl
  | [c] => rfl
  | c :: c' :: r => by
    show mkS [c] ++ mkS [] ++ Str.join (mkS []) ((c' :: r).map fun c => mkS [c]) = _
    rw [zHE (c' :: r)]
    show (⟨(mkS [c]).cps ++ (mkS []).cps ++ (mkS (c' :: r)).cps⟩ : Str) = _
    simp [mkS]
theorem zGr : ∀ cs : List Nat, strs? (cs.map fun c => V.str (mkS [c])) = some (cs.map fun c => mkS [c])
  | [] => rfl
  | c :: r => by
    have := zGr r
    unfold strs? at this ⊢
    rw [List.map_cons, List.mapM_cons, this]; rfl
theorem len_one : ∀ cs : List Nat, ((cs.map fun c => mkS [c]).map fun x : Str => x.length).sum = cs.length
  | [] => rfl
  | c :: r => by
    rw [List.map_cons, List.map_cons, List.sum_cons, len_one r, List.length_cons]
    exact Nat.add_comm 1 _
theorem join_at {cs : List Nat} (h : cs.length ≤ 100000) : ev2 .join σ (.str (mkS [])) (.lst (cs.map fun c => .str (mkS [c]))) = some (.str (mkS cs)) := by
  show ((strs? (cs.map fun c => V.str (mkS [c]))).bind fun l => if (l.map (·.length)).sum + l.length * (mkS []).length ≤ 100000 then some (V.str (Txt.join (mkS []) l)) else none) = _
  rw [zGr]
  show (if ((cs.map fun c => mkS [c]).map fun x : Str => x.length).sum + (cs.map fun c => mkS [c]).length * 0 ≤ 100000 then some (V.str (Txt.join (mkS []) (cs.map fun c => mkS [c]))) else none) = _
  rw [len_one, Nat.mul_zero, Nat.add_zero, if_pos h]
  show some (V.str (Builtin.Str.glued (mkS []) (cs.map fun c => mkS [c]))) = _
  rw [StrLaws.glued_eq_join, zHE]
noncomputable def letterAt (j : Nat) : Nat := (codes letters).getD j 97
theorem zGW {j : Nat} (h : j < 26) : letterOk (letterAt j) = true ∧ letterAt j < 128 := by
  have : ∀ j : Fin 26, letterOk (letterAt j) = true ∧ letterAt j < 128 := by decide
  exact this ⟨j, h⟩
theorem letter_at {j : Nat} (h : j < 26) : ev2 .index σ (.str letters) (.int (j : Int)) = some (.str (mkS [letterAt j])) := by
  show ((normIndex 26 (j : Int)).bind fun k => (codes letters)[k]?.map fun c => V.str (mkS [c])) = _
  rw [zAm h]
  show ((codes letters)[j]?.map fun c => V.str (mkS [c])) = _
  have : j < (codes letters).length := h
  rw [List.getElem?_eq_getElem this]
  unfold letterAt
  rw [List.getD_eq_getElem?_getD, List.getElem?_eq_getElem this]; rfl
end
end Mine
end

/-! # GB -/
section
set_option autoImplicit false
namespace Mine
open PySem
theorem range_at {lo hi : Int} {j : Nat} {x : V} (h : (rangeL lo hi)[j]? = some x) : x = .int (lo + (j : Int)) ∧ j < (hi - lo).toNat := by
  unfold rangeL at h
  rw [List.getElem?_map] at h
  obtain ⟨k, hk, rfl⟩ := Option.map_eq_some_iff.mp h
  obtain ⟨h1, h2⟩ := List.getElem?_eq_some_iff.mp hk
  rw [List.getElem_range] at h2
  rw [List.length_range] at h1
  exact ⟨by rw [h2], h1⟩
theorem range_len {n : Nat} : (rangeL 0 (n : Int)).length = n := by
  unfold rangeL; rw [List.length_map, List.length_range, Int.sub_zero, Int.toNat_natCast]
theorem zFA {n j : Nat} {x : V} (h : (rangeL 0 (n : Int))[j]? = some x) : x = .int (j : Int) ∧ j < n := by
  obtain ⟨h1, h2⟩ := range_at h
  rw [Int.zero_add] at h1
  rw [Int.sub_zero, Int.toNat_natCast] at h2
  exact ⟨h1, h2⟩
inductive Drawn (σ : Sto) (c many : Int) (j : Nat) : List V → Sto → Prop
  | mk (ls : List Ln) (x3 x4 x5 : V) (hl : ls.length = j) (hg : ∀ l ∈ ls, l.good) : Drawn σ c many j [.int c, .ref σ.length, .int many, x3, x4, x5] (σ ++ [.list (ls.map Ln.raw)])
section
variable {T : Nat → Option Fn} {d k it : Nat} {q : Bool} {σ : Sto}
theorem divj_ok (j : Nat) (hj : j < 20) : ((j : Int) + 1 == 0 || decide (1073741824 ≤ ((j : Int) + 1).natAbs)) = false := by
  rw [Bool.or_eq_false_iff, beq_eq_false_iff_ne, decide_eq_false_iff_not]
  exact ⟨fun h => (nomatch (h : ((j + 1 : Nat) : Int) = ((0 : Nat) : Int))), fun h => absurd (Nat.le_trans h hj) (by decide)⟩
end
end Mine
end

/-! # GC -/
section
set_option autoImplicit false
namespace Mine
open PySem
inductive Deed where
  | ord (ls : List Ln)
  | pay (o n : Int)
  | ref (o n : Int)
  | mov (o p n : Int)
  | lin (w : Wd) (o k n : Int)
noncomputable def Deed.v : Deed → V
  | .ord ls => dO ls
  | .pay o n => dP o n
  | .ref o n => dR o n
  | .mov o p n => dM o p n
  | .lin w o k n => dL w o k n
noncomputable def Deed.err (us : List Or) : Deed → Option Cls
  | .ord _ => none
  | .pay o n => errPay us o n
  | .ref o n => errRef us o n
  | .mov o p n => errMov us o p n
  | .lin w o k n => errL us w o k n
noncomputable def Deed.fit (us : List Or) : Deed → Prop
  | .ord ls => 1 ≤ ls.length ∧ ls.length ≤ 20 ∧ (∀ l ∈ ls, l.good) ∧ us.length < 40
  | _ => True
inductive Step (us : List Or) : Deed → List Or → List (Int × Int) → Prop
  | ord (ls : List Ln) : Step us (.ord ls) (us ++ [newOr ls]) []
  | pay (o : Nat) (n : Int) (u : Or) (hu : us[o]? = some u) (h1 : 1 ≤ n) : Step us (.pay o n) (us.set o (payOr u sPay n)) [((o : Int), -n)]
  | ref (o : Nat) (n : Int) (u : Or) (hu : us[o]? = some u) (h1 : 1 ≤ n) (h2 : n ≤ 0 - u.owed) : Step us (.ref o n) (us.set o (payOr u sRef (0 - n))) [((o : Int), n)]
  | mov (o p : Nat) (n : Int) (u u' : Or) (hu : us[o]? = some u) (hu' : us[p]? = some u') (hop : o ≠ p) (h1 : 1 ≤ n) (h2 : n ≤ 0 - u.owed) : Step us (.mov o p n) (movOr us o p u u' n) [((o : Int), n), ((p : Int), -n)]
  | lin (w : Wd) (o k : Nat) (n : Int) (u : Or) (l : Ln) (hu : us[o]? = some u) (hl : u.lines[k]? = some l) (h1 : 1 ≤ n) (h2 : n ≤ mostOf w l) : Step us (.lin w o k n) (us.set o (upL w u k l n)) [((o : Int), (behindL w l n).charge - l.charge)]
section
variable {T : Nat → Option Fn} {t : Bool} {d : Nat} {σ : Sto} {b e h : Nat} {us : List Or} {hs : List V}
end
noncomputable def toldCls (c : Cls) : Bool := c != .FlowError && c != .NothingDone && c != .ValueError
theorem zDN {n m : Int} {c : Cls} (h : errN n m = some c) : toldCls c = true := by
  unfold errN at h
  split at h
  · cases h; rfl
  · split at h
    · cases h; rfl
    · cases h
theorem Deed.told {us : List Or} {D : Deed} {c : Cls} (h : D.err us = some c) : toldCls c = true := by
  cases D with
  | ord ls => cases h
  | pay o n =>
    have h : errP1 n (atI us o) = some c := h
    cases ho : atI us o with
    | none => rw [ho] at h; cases h; rfl
    | some u =>
      rw [ho] at h
      have h : (if n < 1 then some Cls.NoNumber else none) = some c := h
      split at h
      · cases h; rfl
      · cases h
  | ref o n =>
    have h : errR1 n (atI us o) = some c := h
    cases ho : atI us o with
    | none => rw [ho] at h; cases h; rfl
    | some u => rw [ho] at h; exact zDN h
  | mov o p n =>
    have h : errM1 us o p n (atI us o) = some c := h
    cases ho : atI us o with
    | none => rw [ho] at h; cases h; rfl
    | some u =>
      rw [ho] at h
      have h : errM2 u o p n (atI us p) = some c := h
      cases hp : atI us p with
      | none => rw [hp] at h; cases h; rfl
      | some u' =>
        rw [hp] at h
        have h : (if (o == p) = true then some Cls.SameOrder else errN n (0 - u.owed)) = some c := h
        split at h
        · cases h; rfl
        · exact zDN h
  | lin w o k n =>
    have h : errU w k n (atI us o) = some c := h
    cases ho : atI us o with
    | none => rw [ho] at h; cases h; rfl
    | some u =>
      rw [ho] at h
      have h : errK w n (atI u.lines k) = some c := h
      cases hk : atI u.lines k with
      | none => rw [hk] at h; cases h; rfl
      | some l => rw [hk] at h; exact zDN h
section
variable {T : Nat → Option Fn} {t : Bool} {d k : Nat} {σ σ' : Sto} {b : Nat}
noncomputable def Deed.raw (m : Nat) : Deed → V
  | .ord ls => .tup [.str sOrd, .ref m]
  | D => D.v
theorem Deed.read {D : Deed} {x : V} : readVar [x, D.v] 1 = some D.v := by cases D <;> rfl
end
end Mine
end

/-! # GD -/
section
set_option autoImplicit false
namespace Mine
open PySem
structure Ln.inv (l : Ln) : Prop where
  ok : l.ok
  a0 : 0 ≤ l.a
  ab : l.a ≤ l.b
  bs : l.b ≤ l.s
  sp : l.s ≤ l.p + l.a
  r0 : 0 ≤ l.r
  rw : l.r ≤ l.worth
theorem zHa {x y c k : Int} (h : x ≤ y) (hc : 0 ≤ c) (hk : 1 ≤ k) : (x * c).fdiv k ≤ (y * c).fdiv k := by
  have k0 : 0 ≤ k := Int.le_trans (by decide) hk
  rw [Int.fdiv_eq_ediv_of_nonneg _ k0, Int.fdiv_eq_ediv_of_nonneg _ k0]
  exact Int.ediv_le_ediv (Int.lt_of_lt_of_le (by decide) hk) (Int.mul_le_mul_of_nonneg_right h hc)
theorem zBM {x c k : Int} (h : 0 ≤ x) (hc : 0 ≤ c) (hk : 1 ≤ k) : 0 ≤ (x * c).fdiv k := by
  have k0 : 0 ≤ k := Int.le_trans (by decide) hk
  rw [Int.fdiv_eq_ediv_of_nonneg _ k0]
  exact Int.ediv_nonneg (Int.mul_nonneg h hc) k0
theorem Ln.inv.charge {l : Ln} (h : l.inv) : 0 ≤ l.charge := Int.sub_nonneg_of_le h.rw
theorem pmin_le (x y : Int) : pmin x y ≤ y ∧ pmin x y ≤ x ∧ (0 ≤ x → 0 ≤ y → 0 ≤ pmin x y) := by
  unfold pmin; split
  · rename_i h; exact ⟨Int.le_refl _, Int.le_of_lt h, fun _ hy => hy⟩
  · rename_i h; exact ⟨Int.not_lt.mp h, Int.le_refl _, fun hx _ => hx⟩
theorem some_more {p s a n : Int} (h : n ≤ p - s + a) : s + n ≤ p + a := by omega
theorem Ln.inv.behind {l : Ln} (h : l.inv) {w : Wd} {n : Int} (h1 : 1 ≤ n) (h2 : n ≤ mostOf w l) : (behindL w l n).inv := by
  have hn : 0 ≤ n := Int.le_trans (by decide) h1
  cases w with
  | del => exact ⟨zBa h.ok, h.a0, h.ab, Int.le_trans h.bs (Int.le_add_of_nonneg_right hn), some_more h2, h.r0, Int.le_trans h.rw (zHa (Int.sub_le_sub_right (Int.le_add_of_nonneg_right hn) l.b) h.ok.c1 h.ok.k1)⟩
  | cred => exact ⟨zBa h.ok, h.a0, h.ab, h.bs, h.sp, Int.add_nonneg h.r0 hn, Int.add_le_of_le_sub_left h2⟩
  | back =>
    have hp := pmin_le l.r (((l.s - (l.b + n)) * l.c).fdiv l.k)
    have hb : l.b + n ≤ l.s := Int.add_le_of_le_sub_left h2
    exact ⟨zBa h.ok, h.a0, Int.le_trans h.ab (Int.le_add_of_nonneg_right hn), hb, h.sp, hp.2.2 h.r0 (zBM (Int.sub_nonneg_of_le hb) h.ok.c1 h.ok.k1), hp.1⟩
  | swap =>
    have hp := pmin_le l.r (((l.s - (l.b + n)) * l.c).fdiv l.k)
    have hb : l.b + n ≤ l.s := Int.add_le_of_le_sub_left h2
    exact ⟨zBa h.ok, Int.add_nonneg h.a0 hn, Int.add_le_add_right h.ab n, hb, Int.le_trans h.sp (Int.add_le_add_left (Int.le_add_of_nonneg_right hn) _), hp.2.2 h.r0 (zBM (Int.sub_nonneg_of_le hb) h.ok.c1 h.ok.k1), hp.1⟩
theorem Ln.good.inv {l : Ln} (h : l.good) : l.fresh.inv :=
  ⟨h.ok.fresh, Int.le_refl _, Int.le_refl _, Int.le_refl _, Int.add_nonneg (Int.le_trans (by decide) h.ok.p1) (Int.le_refl 0), Int.le_refl _, zBM (Int.le_refl _) h.ok.c1 h.ok.k1⟩
structure Or.inv (u : Or) : Prop where
  few : u.lines.length ≤ 20
  ls : ∀ l ∈ u.lines, l.inv
  paid0 : 0 ≤ u.paid
  sum : (u.rows.map (·.2)).sum = u.owed
theorem Or.inv.ok {u : Or} (h : u.inv) : u.ok := ⟨h.few, fun l hl => (h.ls l hl).ok⟩
theorem zDc : ∀ {l : List Int}, (∀ x ∈ l, 0 ≤ x) → 0 ≤ l.sum
  | [], _ => Int.le_refl _
  | x :: l, h => by
    rw [List.sum_cons]
    have h1 := h x List.mem_cons_self
    exact Int.add_nonneg h1 (zDc fun y hy => h y (List.mem_cons_of_mem x hy))
theorem zGK : ∀ {l : List Int} {k : Nat} {x y : Int}, l[k]? = some y → (l.set k x).sum = l.sum + (x - y)
  | [], _, _, _, h => by cases h
  | z :: l, 0, x, y, h => by
    obtain rfl : z = y := by simpa using h
    rw [List.set_cons_zero, List.sum_cons, List.sum_cons, Int.add_comm z l.sum, Int.add_assoc, Int.add_comm x]; exact congrArg _ (by rw [Int.add_comm, Int.sub_add_cancel])
  | z :: l, k + 1, x, y, h => by
    rw [List.set_cons_succ, List.sum_cons, List.sum_cons, zGK (l := l) (k := k) (by simpa using h), Int.add_assoc]
theorem zBy (a b : List Int) : (a ++ b).sum = a.sum + b.sum := by
  induction a with
  | nil => rw [List.nil_append, List.sum_nil, Int.zero_add]
  | cons x a ih => rw [List.cons_append, List.sum_cons, List.sum_cons, ih, Int.add_assoc]
theorem zAq (u : Or) (w : Str) (c : Int) : (payOr u w c).owed = u.owed - c := (Int.sub_sub _ u.paid c).symm
theorem zGQ {u : Or} {k : Nat} {l : Ln} (hl : u.lines[k]? = some l) (w : Wd) (n : Int) : (upL w u k l n).owed = u.owed + ((behindL w l n).charge - l.charge) := by
  show ((u.lines.set k (behindL w l n)).map Ln.charge).sum - u.paid = (u.lines.map Ln.charge).sum - u.paid + _
  rw [List.map_set, zGK (y := l.charge) (by rw [List.getElem?_map, hl]; rfl)]; exact Int.add_right_comm _ _ _
theorem zGw (ls : List Ln) (h : ∀ l ∈ ls, l.good) : (newOr ls).owed = 0 := by
  show ((ls.map Ln.fresh).map Ln.charge).sum - 0 = 0
  rw [Int.sub_zero, List.map_map]
  have : ∀ ls : List Ln, (∀ l ∈ ls, l.good) → (ls.map (Ln.charge ∘ Ln.fresh)).sum = 0 := fun ls => by
    induction ls with
    | nil => intro _; rfl
    | cons l ls ih =>
      intro h
      rw [List.map_cons, List.sum_cons, ih fun l hl => h l (List.mem_cons_of_mem _ hl)]
      show ((0 - 0) * l.c).fdiv l.k - 0 + 0 = 0
      rw [Int.sub_self, Int.zero_mul, Int.zero_fdiv]; rfl
  exact this ls h
theorem zAS {α : Type} {l : List α} {k : Nat} {x y : α} (h : y ∈ l.set k x) : y ∈ l ∨ y = x := List.mem_or_eq_of_mem_set h
theorem Or.inv.pay {u : Or} (h : u.inv) (w : Str) {c : Int} (hp : 0 ≤ u.paid + c) : (payOr u w c).inv := by
  refine ⟨h.few, h.ls, hp, ?_⟩
  rw [zAq]
  show ((u.rows ++ [(w, 0 - c)]).map (·.2)).sum = _
  rw [List.map_append, zBy, h.sum]
  show u.owed + (0 - c + 0) = u.owed - c; rw [Int.add_zero, Int.zero_sub]; rfl
theorem Or.inv.up {u : Or} (h : u.inv) {k : Nat} {l : Ln} (hl : u.lines[k]? = some l) {w : Wd} {n : Int} (h1 : 1 ≤ n) (h2 : n ≤ mostOf w l) : (upL w u k l n).inv := by
  refine ⟨?_, fun m hm => ?_, h.paid0, ?_⟩
  · show (u.lines.set k _).length ≤ 20; rw [List.length_set]; exact h.few
  · rcases zAS hm with hm | rfl
    · exact h.ls m hm
    · exact (h.ls l (List.mem_of_getElem? hl)).behind h1 h2
  · rw [zGQ hl]
    show ((u.rows ++ [(w.s, (behindL w l n).charge - l.charge)]).map (·.2)).sum = _
    rw [List.map_append, zBy, h.sum]
    show u.owed + ((behindL w l n).charge - l.charge + 0) = _; rw [Int.add_zero]
theorem back_of {s p n : Int} (h : 0 ≤ s) (h2 : n ≤ 0 - (s - p)) : 0 ≤ p + (0 - n) := by omega
theorem Or.inv.back {u : Or} (h : u.inv) {n : Int} (h2 : n ≤ 0 - u.owed) : 0 ≤ u.paid + (0 - n) := by
  have h3 : 0 ≤ (u.lines.map Ln.charge).sum := zDc fun x hx => by
    obtain ⟨l, hl, rfl⟩ := List.mem_map.mp hx
    exact (h.ls l hl).charge
  exact back_of h3 h2
theorem newOr_inv {ls : List Ln} (h2 : ls.length ≤ 20) (h : ∀ l ∈ ls, l.good) : (newOr ls).inv := by
  refine ⟨by show (ls.map Ln.fresh).length ≤ 20; rw [List.length_map]; exact h2, fun m hm => ?_, Int.le_refl _, (zGw ls h).symm⟩
  obtain ⟨l, hl, rfl⟩ := List.mem_map.mp hm
  exact (h l hl).inv
section
variable {us us' : List Or} {D : Deed} {out : List (Int × Int)}
theorem Step.inv (S : Step us D us' out) (hf : D.fit us) (h : ∀ u ∈ us, u.inv) : ∀ u ∈ us', u.inv := fun v hv => by
  cases S with
  | ord ls =>
    rcases List.mem_append.mp hv with hv | hv
    · exact h v hv
    · rw [List.mem_singleton.mp hv]; exact newOr_inv hf.2.1 hf.2.2.1
  | pay o n u hu h1 =>
    rcases zAS hv with hv | rfl
    · exact h v hv
    · have := h u (List.mem_of_getElem? hu)
      exact this.pay _ (Int.add_nonneg this.paid0 (Int.le_trans (by decide) h1))
  | ref o n u hu h1 h2 =>
    rcases zAS hv with hv | rfl
    · exact h v hv
    · have := h u (List.mem_of_getElem? hu)
      exact this.pay _ (this.back h2)
  | mov o p n u u' hu hu' hop h1 h2 =>
    have i1 := h u (List.mem_of_getElem? hu)
    have i2 := h u' (List.mem_of_getElem? hu')
    rcases zAS hv with hv | rfl
    · rcases zAS hv with hv | rfl
      · exact h v hv
      · exact i1.pay _ (i1.back h2)
    · exact i2.pay _ (Int.add_nonneg i2.paid0 (Int.le_trans (by decide) h1))
  | lin w o k n u l hu hl h1 h2 =>
    rcases zAS hv with hv | rfl
    · exact h v hv
    · exact (h u (List.mem_of_getElem? hu)).up hl h1 h2
theorem Step.rows (S : Step us D us' out) {R : Nat} (h : ∀ u ∈ us, u.rows.length ≤ R) : ∀ u ∈ us', u.rows.length ≤ R + 1 := fun v hv => by
  have pay : ∀ {u : Or} {w : Str} {c : Int}, u ∈ us → (payOr u w c).rows.length ≤ R + 1 := fun {u w c} hu => by
    show (u.rows ++ [_]).length ≤ R + 1
    rw [List.length_append]; exact Nat.succ_le_succ (h u hu)
  cases S with
  | ord ls =>
    rcases List.mem_append.mp hv with hv | hv
    · exact Nat.le_succ_of_le (h v hv)
    · rw [List.mem_singleton.mp hv]; exact Nat.zero_le _
  | pay o n u hu h1 =>
    rcases zAS hv with hv | rfl
    · exact Nat.le_succ_of_le (h v hv)
    · exact pay (List.mem_of_getElem? hu)
  | ref o n u hu h1 h2 =>
    rcases zAS hv with hv | rfl
    · exact Nat.le_succ_of_le (h v hv)
    · exact pay (List.mem_of_getElem? hu)
  | mov o p n u u' hu hu' hop h1 h2 =>
    rcases zAS hv with hv | rfl
    · rcases zAS hv with hv | rfl
      · exact Nat.le_succ_of_le (h v hv)
      · exact pay (List.mem_of_getElem? hu)
    · exact pay (List.mem_of_getElem? hu')
  | lin w o k n u l hu hl h1 h2 =>
    rcases zAS hv with hv | rfl
    · exact Nat.le_succ_of_le (h v hv)
    · show (u.rows ++ [_]).length ≤ R + 1
      rw [List.length_append]; exact Nat.succ_le_succ (h u (List.mem_of_getElem? hu))
noncomputable def cents (out : List (Int × Int)) (a : Int) : List Int := (out.filter fun p => p.1 == a).map (·.2)
noncomputable def Deed.lined : Deed → Bool
  | .lin _ _ _ _ => true
  | _ => false
structure Turned (D : Deed) (u u' : Or) (cs : List Int) : Prop where
  paid : D.lined = true → u'.paid = u.paid
  told : D.lined = false → u'.lines.map toldV = u.lines.map toldV
  one : cs.length ≤ 1
  owed : u'.owed - u.owed = cs.sum
  same : cs = [] → u' = u
  raw : u'.lines.map Ln.raw = u.lines.map Ln.raw
theorem Turned.refl (D : Deed) (u : Or) : Turned D u u [] := ⟨fun _ => rfl, fun _ => rfl, Nat.zero_le _, Int.sub_self _, fun _ => rfl, rfl⟩
theorem zHf {w : Wd} {l : Ln} {n : Int} : (behindL w l n).raw = l.raw := by cases w <;> rfl
theorem set_same {α β : Type} {f : α → β} {l : List α} {k : Nat} {x y : α} (h : l[k]? = some y) (e : f x = f y) : (l.set k x).map f = l.map f := by
  rw [List.map_set, e]
  apply List.ext_getElem?
  intro i
  rw [List.getElem?_set]
  split
  · rename_i hk; subst hk
    rw [List.length_map, if_pos (List.getElem?_eq_some_iff.mp h).1, List.getElem?_map, h]; rfl
  · rfl
theorem Step.at (S : Step us D us' out) {a : Nat} {u : Or} (ha : us[a]? = some u) : ∃ u', us'[a]? = some u' ∧ Turned D u u' (cents out a) := by
  have lt : a < us.length := (List.getElem?_eq_some_iff.mp ha).1
  have ne1 : ∀ {o : Nat} {x : Int}, o ≠ a → cents [((o : Int), x)] a = [] := fun {o x} h => by
    unfold cents
    rw [List.filter_cons_of_neg (by show ¬ ((o : Int) == (a : Int)) = true; rw [beq_iff_eq]; omega)]; rfl
  have eq1 : ∀ {x : Int}, cents [((a : Int), x)] a = [x] := fun {x} => by
    unfold cents
    rw [List.filter_cons_of_pos (by show ((a : Int) == (a : Int)) = true; exact beq_self_eq_true _)]; rfl
  have two : ∀ {o p : Int} {x y : Int}, cents [(o, x), (p, y)] a = cents [(o, x)] a ++ cents [(p, y)] a := fun {o p x y} => by
    unfold cents
    rw [← List.map_append, ← List.filter_append]; rfl
  cases S with
  | ord ls => exact ⟨u, by rw [List.getElem?_append_left lt]; exact ha, .refl _ u⟩
  | pay o n v hu h1 =>
    by_cases h : o = a
    · subst h; rw [ha] at hu; cases hu
      refine ⟨_, List.getElem?_set_self lt, ?_⟩
      rw [eq1]
      exact ⟨fun h => (nomatch h), fun _ => rfl, Nat.le_refl _, by rw [zAq]; show _ = -n + 0; omega, fun h => (nomatch h), rfl⟩
    · refine ⟨u, by rw [List.getElem?_set_ne h]; exact ha, ?_⟩
      rw [ne1 h]; exact .refl _ u
  | ref o n v hu h1 h2 =>
    by_cases h : o = a
    · subst h; rw [ha] at hu; cases hu
      refine ⟨_, List.getElem?_set_self lt, ?_⟩
      rw [eq1]
      exact ⟨fun h => (nomatch h), fun _ => rfl, Nat.le_refl _, by rw [zAq]; show _ = n + 0; omega, fun h => (nomatch h), rfl⟩
    · refine ⟨u, by rw [List.getElem?_set_ne h]; exact ha, ?_⟩
      rw [ne1 h]; exact .refl _ u
  | mov o p n v v' hu hu' hop h1 h2 =>
    rw [two]
    by_cases h : p = a
    · subst h; rw [ha] at hu'; cases hu'
      refine ⟨_, List.getElem?_set_self (by rw [List.length_set]; exact lt), ?_⟩
      rw [eq1, ne1 hop]
      exact ⟨fun h => (nomatch h), fun _ => rfl, Nat.le_refl _, by rw [zAq]; show _ = -n + 0; omega, fun h => (nomatch h), rfl⟩
    · rw [ne1 h, List.append_nil]
      unfold movOr
      rw [List.getElem?_set_ne h]
      by_cases h : o = a
      · subst h; rw [ha] at hu; cases hu
        refine ⟨_, List.getElem?_set_self lt, ?_⟩
        rw [eq1]
        exact ⟨fun h => (nomatch h), fun _ => rfl, Nat.le_refl _, by rw [zAq]; show _ = n + 0; omega, fun h => (nomatch h), rfl⟩
      · refine ⟨u, by rw [List.getElem?_set_ne h]; exact ha, ?_⟩
        rw [ne1 h]; exact .refl _ u
  | lin w o k n v l hu hl h1 h2 =>
    by_cases h : o = a
    · subst h; rw [ha] at hu; cases hu
      refine ⟨_, List.getElem?_set_self lt, ?_⟩
      rw [eq1]
      exact ⟨fun _ => rfl, fun h => (nomatch h), Nat.le_refl _, by rw [zGQ hl]; show _ = _ + 0; omega, fun h => (nomatch h), set_same hl zHf⟩
    · refine ⟨u, by rw [List.getElem?_set_ne h]; exact ha, ?_⟩
      rw [ne1 h]; exact .refl _ u
theorem zAl {us : List Or} {o : Nat} {u u' : Or} (hu : us[o]? = some u) : ((us.set o u').map Or.owed).sum = (us.map Or.owed).sum + (u'.owed - u.owed) := by
  rw [List.map_set, zGK (y := u.owed) (by rw [List.getElem?_map, hu]; rfl)]
theorem Step.sum (S : Step us D us' out) (hf : D.fit us) : (out.map (·.2)).sum = (us'.map Or.owed).sum - (us.map Or.owed).sum := by
  cases S with
  | ord ls =>
    rw [List.map_append, zBy]
    show 0 = (us.map Or.owed).sum + ((newOr ls).owed + 0) - _
    rw [zGw ls hf.2.2.1]; omega
  | pay o n u hu h1 => rw [zAl hu, zAq]; show -n + 0 = _; omega
  | ref o n u hu h1 h2 => rw [zAl hu, zAq]; show n + 0 = _; omega
  | mov o p n u u' hu hu' hop h1 h2 =>
    unfold movOr
    rw [zAl (u := u') (by rw [List.getElem?_set_ne hop]; exact hu'), zAl hu, zAq, zAq]; show n + (-n + 0) = _; omega
  | lin w o k n u l hu hl h1 h2 => rw [zAl hu, zGQ hl]; show (behindL w l n).charge - l.charge + 0 = _; omega
theorem Step.few (S : Step us D us' out) : out.length ≤ 2 := by
  cases S <;> first | exact (by decide : 0 ≤ 2) | exact (by decide : 1 ≤ 2) | exact (by decide : 2 ≤ 2)
theorem Step.len (S : Step us D us' out) : us'.length = us.length + (match D with | .ord _ => 1 | _ => 0) := by
  cases S with
  | ord ls => rw [List.length_append]; rfl
  | pay o n u hu h1 => rw [List.length_set]; rfl
  | ref o n u hu h1 h2 => rw [List.length_set]; rfl
  | mov o p n u u' hu hu' hop h1 h2 => unfold movOr; rw [List.length_set, List.length_set]; rfl
  | lin w o k n u l hu hl h1 h2 => rw [List.length_set]; rfl
end
end Mine
end

/-! # GE -/
section
set_option autoImplicit false
namespace Mine
open PySem
theorem zFk {f : V → Option PyData} (h : ∀ v x, f v = some x → PyData.eqv x x = true) : ∀ (xs : List V) (ys : List PyData), xs.mapM f = some ys → PyData.eqvAll ys ys = true
  | [], ys, e => by
    rw [List.mapM_nil] at e
    cases e; rfl
  | x :: xs, ys, e => by
    rw [List.mapM_cons] at e
    cases hx : f x with
    | none => rw [hx] at e; cases e
    | some y =>
      rw [hx] at e
      cases hr : xs.mapM f with
      | none => rw [hr] at e; cases e
      | some r =>
        rw [hr] at e
        cases e
        rw [PyData.eqvAll, h x y hx, zFk h xs r hr]; rfl
theorem zEr (σ : Sto) : ∀ (d : Nat) (v : V) (x : PyData), toPy σ d v = some x → PyData.eqv x x = true
  | 0, v, x, h => by cases h
  | d + 1, v, x, h => by
    have lst : ∀ {o : Option PyData} {c : List PyData → PyData} {xs : List V}, (∀ ys, PyData.eqv (c ys) (c ys) = PyData.eqvAll ys ys) → (xs.mapM (toPy σ d)).map c = some x → PyData.eqv x x = true := fun {o c xs} hc h => by
      obtain ⟨ys, hy, rfl⟩ := Option.map_eq_some_iff.mp h
      rw [hc]; exact zFk (zEr σ d) xs ys hy
    cases v with
    | undef => cases h
    | none => cases h; rfl
    | bool b => cases h; exact beq_self_eq_true b
    | int i => cases h; exact beq_self_eq_true i
    | str s => cases h; exact beq_self_eq_true s
    | tup xs => exact lst (o := none) (c := .tuple) (fun _ => rfl) h
    | lst xs => exact lst (o := none) (c := .list) (fun _ => rfl) h
    | ref n =>
      have h : toPyO (toPy σ d) σ[n]? = some x := h
      cases ho : σ[n]? with
      | none => rw [ho] at h; cases h
      | some o =>
        rw [ho] at h
        cases o with
        | list xs => exact lst (o := none) (c := .list) (fun _ => rfl) h
        | dict es => cases h
        | inst as => cases h
    | exc c => cases h
    | parts => cases h
noncomputable def Has (σ : Sto) (d : Nat) (v : V) : Prop := ∃ x, toPy σ d v = some x
theorem has_all {σ : Sto} {d : Nat} : ∀ {xs : List V}, (∀ x ∈ xs, Has σ d x) → ∃ ys, xs.mapM (toPy σ d) = some ys
  | [], _ => ⟨[], rfl⟩
  | x :: xs, h => by
    obtain ⟨y, hy⟩ := h x List.mem_cons_self
    obtain ⟨ys, hys⟩ := has_all fun z hz => h z (List.mem_cons_of_mem x hz)
    exact ⟨y :: ys, by rw [List.mapM_cons, hy, hys]; rfl⟩
theorem eqV_of {σ : Sto} {a b : V} {x : PyData} (ha : toPy σ eqDepth a = some x) (hb : toPy σ eqDepth b = some x) (hl : ∀ xs ys, listOf? σ a = some xs → listOf? σ b = some ys → xs.length = ys.length) : eqV σ a b = some true := by
  have e : eqV.eqD σ a b = some true := by
    show ((toPy σ eqDepth a).bind fun x => (toPy σ eqDepth b).map fun y => PyData.eqv x y) = _
    rw [ha, hb]
    show some (PyData.eqv x x) = _
    rw [zEr σ _ _ _ ha]
  unfold eqV
  split
  · rename_i xs ys h1 h2
    rw [hl xs ys h1 h2, bne_self_eq_false]; exact e
  · exact e
theorem eq_same {σ : Sto} {v : V} (h : Has σ eqDepth v) : eqV σ v v = some true := by
  obtain ⟨x, h⟩ := h
  exact eqV_of h h fun xs ys h1 h2 => by rw [h1] at h2; cases h2; rfl
theorem ne_same {σ : Sto} {v : V} (h : Has σ eqDepth v) : ev2 .ne σ v v = some (.bool false) := by
  show (eqV σ v v).map _ = _
  rw [eq_same h]; rfl
inductive W8 where
  | lin (w : Wd) | pay | ref | mov | ord
noncomputable def W8.s : W8 → Str
  | .lin w => w.s
  | .pay => sPay
  | .ref => sRef
  | .mov => sMove
  | .ord => sOrd
end Mine
end

/-! # P05 -/
section
set_option autoImplicit false
namespace Mine
open PySem
end Mine
end

/-! # L05a -/
section
set_option autoImplicit false
namespace Mine
open PySem
noncomputable def leave (σ : Sto) : Cls ⊕ V → R Fl
  | .inl c => .exc c σ
  | .inr v => .ok (.ret v) σ
section
variable {F Fq : Calls} {σ : Sto} {i : Nat} {k : SK} {src : List CE} {body : List CS} {α : Type}
theorem zHI {it : Items} {f : V → List V → Sto → R Fl} {l : List α} {φ : α → V} (err : α → Option Cls) (g : Cls → Cls ⊕ V) (I : List V → Prop) (hG : Gives σ it (l.map φ))
    (hs : ∀ x ∈ l, ∀ ρ, I ρ → (∀ c, err x = some c → f (φ x) ρ σ = leave σ (g c)) ∧ (err x = none → ∃ ρ', f (φ x) ρ σ = .ok (.next ρ') σ ∧ I ρ')) :
    ∀ (m : List α) (j : Nat) (ρ : List V), l.drop j = m → I ρ → (∀ c, m.findSome? err = some c → forIt it f (m.length + 1) j ρ σ = leave σ (g c)) ∧ (m.findSome? err = none → ∃ ρ', forIt it f (m.length + 1) j ρ σ = .ok (.next ρ') σ ∧ I ρ')
  | [], j, ρ, hd, hI => by
    have hj : (l.map φ)[j]? = none := by
      rw [List.getElem?_map, ← Nat.add_zero j, ← List.getElem?_drop, hd]; rfl
    refine ⟨fun c h => (nomatch h), fun _ => ⟨ρ, ?_, hI⟩⟩
    show forIt it f (0 + 1) j ρ σ = _
    rw [zCD, hG.next, hj]
  | x :: m, j, ρ, hd, hI => by
    have hx : l[j]? = some x := by rw [← Nat.add_zero j, ← List.getElem?_drop, hd]; rfl
    have hj : (l.map φ)[j]? = some (φ x) := by rw [List.getElem?_map, hx]; rfl
    have hm : l.drop (j + 1) = m := by rw [← List.drop_drop, hd]; rfl
    obtain ⟨h1, h2⟩ := hs x (List.mem_of_getElem? hx) ρ hI
    have e : forIt it f ((x :: m).length + 1) j ρ σ = (f (φ x) ρ σ).bind fun fl σ => match fl with
        | .next ρ => forIt it f (m.length + 1) (j + 1) ρ σ
        | .ret v => .ok (.ret v) σ := by
      show forIt it f ((m.length + 1) + 1) j ρ σ = _
      rw [zCD, hG.next, hj] <;> rfl
    rw [e]
    cases hx' : err x with
    | some c =>
      rw [List.findSome?_cons, hx', h1 c hx']
      refine ⟨fun c' hc => ?_, fun h => (nomatch h)⟩
      cases hc
      cases g c <;> rfl
    | none =>
      rw [List.findSome?_cons, hx']
      obtain ⟨ρ', e', hI'⟩ := h2 hx'
      rw [e']
      exact zHI err g I hG hs m (j + 1) ρ' hm hI'
theorem zFs {it : Items} {ρ vs : List V} {l : List α} {φ : α → V} (err : α → Option Cls) (g : Cls → Cls ⊕ V) (I : List V → Prop)
    (hsrc : evL F false src ρ σ = .ok vs σ) (hit : itemsBy σ k vs = some it) (hG : Gives σ it (l.map φ)) (h0 : I ρ)
    (hs : ∀ x ∈ l, ∀ ρ, I ρ → (∀ c, err x = some c → exL F Fq false body (ρ.set i (φ x)) σ = leave σ (g c)) ∧ (err x = none → ∃ ρ', exL F Fq false body (ρ.set i (φ x)) σ = .ok (.next ρ') σ ∧ I ρ')) :
    (∀ c, l.findSome? err = some c → exS F Fq false (.for i k src body) ρ σ = leave σ (g c)) ∧ (l.findSome? err = none → ∃ ρ', exS F Fq false (.for i k src body) ρ σ = .ok (.next ρ') σ ∧ I ρ') := by
  have e : exS F Fq false (.for i k src body) ρ σ = forIt it (fun x ρ σ => exL F Fq false body (ρ.set i x) σ) (l.length + 1) 0 ρ σ := by
    show ((evL F false src ρ σ).bind fun vs σ => (R.lift σ (itemsBy σ k vs)).bind fun it σ => forItems it (fun x ρ σ => exL F Fq false body (ρ.set i x) σ) ρ σ) = _
    rw [hsrc, R.bind_ok, hit, R.lift_some, R.bind_ok]
    unfold forItems
    rw [hG.fuel, List.length_map]
  rw [e]
  exact zHI err g I hG hs l 0 ρ rfl h0
end
inductive LV (σ : Sto) (xs : List V) (e : Nat) : V → Prop
  | lst : LV σ xs e (.lst xs)
  | ref (n : Nat) (h : σ[n]? = some (.list xs)) (hn : n ≠ e) : LV σ xs e (.ref n)
section
variable {σ σ' : Sto} {xs : List V} {e : Nat} {v : V}
theorem LV.len (L : LV σ xs e v) : ev1 .len σ v = some (.int xs.length) := by
  cases L with
  | lst => rfl
  | ref n h hn => exact zGg σ h
theorem LV.list (L : LV σ xs e v) : ev1 .toList σ v = some (.lst xs) := by
  cases L with
  | lst => rfl
  | ref n h hn =>
    show ((match σ[n]? with | some (.list xs) => some xs | _ => none).map V.lst) = _
    rw [h]; rfl
theorem LV.items (L : LV σ xs e v) : ∃ it, itemsBy σ .val [v] = some it ∧ Gives σ it xs := by
  cases L with
  | lst => exact ⟨_, rfl, .inl rfl⟩
  | ref n h hn => exact ⟨_, zDG σ h, .inr ⟨n, rfl, h⟩⟩
theorem LV.set (L : LV σ xs e v) (x : O) : LV (σ.set e x) xs e v := by
  cases L with
  | lst => exact .lst
  | ref n h hn => exact .ref n (get_set_ne h (Ne.symm hn)) hn
theorem LV.read (L : LV σ xs e v) {ρ : List V} {i : Nat} (h : ρ[i]? = some v) : readVar ρ i = some v := by
  unfold readVar
  rw [h]
  cases L <;> rfl
end
noncomputable def asc (l : Ln) : Prop := l.item.cps.all (· < 128) = true
section
variable {T : Nat → Option Fn} {t : Bool} {F Fq : Calls} {d : Nat} {q : Bool} {σ : Sto} {b e h : Nat} {es hs : List V} {ρ : List V}
theorem zCF (n m : Nat) : decide ((n : Int) ≤ (m : Int)) = decide (n ≤ m) := decide_eq_decide.mpr Int.ofNat_le
theorem b_itemF (h21 : T 21 = some fB_21) {s : Str} (h2 : s.cps.all (· < 128) = true) : callFn T (d + 1) false 21 [.str s] σ = .ok (.bool (itemOk s)) σ := by
  have eb : evE (callFn T d false) false (.chain (.lit (.int 1)) [.le, .le] [.p1 .len (.var 0), .lit (.int 12)]) [.str s] σ = .ok (.bool (decide (1 ≤ s.length) && decide (s.length ≤ 12))) σ := by
    rw [zFx (lo := (1 : Nat)) (x := (s.length : Int)) (hi := (12 : Nat)) rfl rfl rfl, zCF, zCF]
  by_cases hb : (decide (1 ≤ s.length) && decide (s.length ≤ 12)) = true
  · have hl : s.length ≤ 12 := by rw [Bool.and_eq_true, decide_eq_true_eq, decide_eq_true_eq] at hb; exact hb.2
    refine zAD h21 rfl (s_f (zAB (zAa rfl rfl (e_p1 eb (by rw [hb]; rfl)))) (s_ret ?_))
    have ec := zBD (F := callFn T d false) (elt := .p2 .isIn (.var 1) (.lit (.str letters))) (k := .val) (src := [.var 0]) (cond := none) (ρ := [.str s]) (σ := σ) (l := codes s) (φ := fun c => .str (mkS [c])) (fun _ => true) (fun c => .bool (letterOk c))
      rfl (show itemsBy σ .val [.str s] = some (.now (charsOf s)) by show (if s.cps.all (· < 128) = true then some (Items.now (charsOf s)) else none) = _; rw [if_pos h2]) (.inl rfl)
      (by show (codes s).length < LIM; rw [show (codes s).length = s.length from rfl]; exact Nat.lt_of_le_of_lt hl (by decide)) (fun _ _ => rfl) (fun c _ _ => rfl)
    rw [zAo] at ec
    refine e_p1 ec ?_
    show ((bools? ((codes s).map fun c => V.bool (letterOk c))).map fun l => V.bool (l.all id)) = _
    rw [zDT, show (some ((codes s).map letterOk)).map (fun l => V.bool (l.all id)) = some (V.bool (((codes s).map letterOk).all id)) from rfl, List.all_map]
    unfold itemOk
    rw [hb]; rfl
  · have hb : (decide (1 ≤ s.length) && decide (s.length ≤ 12)) = false := Bool.eq_false_iff.mpr hb
    have : itemOk s = false := by unfold itemOk; rw [hb]; rfl
    rw [this]
    exact zAD h21 rfl (s_t (zAB (zAa rfl rfl (e_p1 eb (by rw [hb]; rfl)))) (s_ret rfl))
noncomputable def dV (v : V) : V := .tup [.str sOrd, v]
end
end Mine
end

/-! # L05b -/
section
set_option autoImplicit false
namespace Mine
open PySem
noncomputable def A7 (s : Str) : Prop := ∀ c ∈ s.cps.toList, c < 128
theorem A7.all {s : Str} (h : A7 s) : s.cps.all (· < 128) = true := by
  rw [← Array.all_toList, List.all_eq_true]
  exact fun c hc => decide_eq_true (h c hc)
theorem A7.ok {s : Str} (h : A7 s) : PyData.strOk s = true := by
  show s.cps.all (· < 0x110000) = true
  rw [← Array.all_toList, List.all_eq_true]
  exact fun c hc => decide_eq_true (Nat.lt_trans (h c hc) (by decide))
theorem A7.add {x y : Str} (hx : A7 x) (hy : A7 y) : A7 (x ++ y) := fun c hc => by
  have hc : c ∈ (x.cps ++ y.cps).toList := hc
  rw [Array.toList_append, List.mem_append] at hc
  exact hc.elim (hx c) (hy c)
theorem A7.slice {x : Str} (hx : A7 x) (l u : Option Int) : A7 (Txt.slice x l u) := by
  unfold Txt.slice
  split
  · exact hx
  · intro c hc
    obtain ⟨i, _, h⟩ := List.mem_filterMap.mp hc
    exact hx c (Array.mem_toList_iff.mpr (Array.mem_of_getElem? h))
theorem len_add (x y : Str) : (x ++ y).length = x.length + y.length := Array.size_append
theorem A7.mk {cs : List Nat} (h : ∀ c ∈ cs, c < 128) : A7 (mkS cs) := h
section
variable {σ : Sto} {F : Calls} {q : Bool} {ρ : List V} {a b : CE}
theorem e_cat {x y : Str} (ha : evE F q a ρ σ = .ok (.str x) σ) (hb : evE F q b ρ σ = .ok (.str y) σ) (h : x.length + y.length ≤ 10000) : evE F q (.p2 .add a b) ρ σ = .ok (.str (x ++ y)) σ :=
  e_p2 ha hb (by show (if x.length + y.length ≤ 10000 then some (V.str (x ++ y)) else none) = _; rw [if_pos h])
theorem e_sm {o : P2} {x y z : V} (ha : evE F q a ρ σ = .ok x σ) (hs : selfOk o σ x = true) (hb : evE F q b ρ σ = .ok y σ) (h : ev2 o σ x y = some z) : evE F q (.sm o a b) ρ σ = .ok z σ := by
  rw [x_sm, ha, R.bind_ok, if_pos hs, hb, R.bind_ok, h]; rfl
theorem st_nx {F Fq : Calls} {ρ ρ₁ : List V} {σ σ₁ : Sto} {s : CS} {rest : List CS} {r : R Fl} (h : exS F Fq false s ρ σ = .ok (.next ρ₁) σ₁) (k : exL F Fq false rest ρ₁ σ₁ = r) : exL F Fq false (s :: rest) ρ σ = r := by
  rw [zBA, h]; exact k
theorem e_cut {x : Str} {lo hi : Option CE} {i j : Option Int} (hx : A7 x) (ha : evE F q a ρ σ = .ok (.str x) σ) (hl : evO F q lo ρ σ = .ok i σ) (hh : evO F q hi ρ σ = .ok j σ) : evE F q (.slice a lo hi) ρ σ = .ok (.str (Txt.slice x i j)) σ :=
  zGh ha hl hh (by show (if PyData.strOk (Txt.slice x i j) = true then some (V.str (Txt.slice x i j)) else none) = _; rw [if_pos (hx.slice i j).ok])
end
section
variable {d : Nat} {q : Bool} {σ : Sto}
theorem zEx {j : Nat} (h : j < 1000) : smallFactor (j : Int) = true := decide_eq_true (Nat.lt_trans h (by decide))
end
end Mine
end

/-! # L05c -/
section
set_option autoImplicit false
namespace Mine
open PySem
section
variable {d : Nat} {q : Bool} {σ : Sto}
end
end Mine
end

/-! # L05d -/
section
set_option autoImplicit false
namespace Mine
open PySem
section
variable {d : Nat} {q : Bool} {σ σ' : Sto} {b e h n : Nat} {es hs : List V}
theorem zHN {F : Calls} {ρ : List V} {a b c : CE} {lo x hi : Int} (ha : evE F q a ρ σ = .ok (.int lo) σ) (hb : evE F q b ρ σ = .ok (.int x) σ) (hc : evE F q c ρ σ = .ok (.int hi) σ) : evE F q (.chain a [.lt, .lt] [b, c]) ρ σ = .ok (.bool (decide (lo < x) && decide (x < hi))) σ := by
  rw [zDs, ha, R.bind_ok, x_ch2, hb]
  show (if decide (lo < x) = true then evChain F q [P2.lt] [c] (.int x) ρ σ else .ok (.bool (decide (lo < x))) σ) = _
  cases decide (lo < x) with
  | false => rfl
  | true =>
    show evChain F q [P2.lt] [c] (.int x) ρ σ = _
    rw [x_ch1, hc]; rfl
theorem dec_in (a b : Int) (x : Int) : (decide (a < x) && decide (x < b + 1)) = (decide (a + 1 ≤ x) && decide (x ≤ b)) := by
  rw [show decide (x < b + 1) = decide (x ≤ b) from decide_eq_decide.mpr Int.lt_add_one_iff]; rfl
theorem len_in (n m : Nat) : (decide ((0 : Int) < (n : Int)) && decide ((n : Int) < (m : Int) + 1)) = (decide (1 ≤ n) && decide (n ≤ m)) := by
  rw [dec_in 0 m n, zCF n m, show (0 : Int) + 1 = ((1 : Nat) : Int) from rfl, zCF 1 n]
end
end Mine
end

/-! # Txt1 -/
section
set_option autoImplicit false
namespace Mine
open PySem PySem.Builtin PySem.Builtin.Str PySem.StrLaws
theorem zDC (x : Str) : mkS (codes x) = x := by cases x; rfl
@[simp] theorem zGB (l : List Nat) : codes (mkS l) = l := by simp [codes, mkS]
@[simp] theorem zAG (l : List Nat) : (mkS l).length = l.length := by simp [mkS, Str.length]
noncomputable def joinC (sep : List Nat) : List (List Nat) → List Nat
  | [] => []
  | [p] => p
  | p :: q :: r => p ++ (sep ++ joinC sep (q :: r))
theorem zBF (l : List Nat) (i j : Nat) : strSub (mkS l) i j = mkS ((l.drop i).take (j - i)) := by
  have h := strSub_toList (mkS l) i j
  rw [← zDC (strSub (mkS l) i j)]
  exact congrArg mkS h
theorem zHZ (l sep : List Nat) (k : Nat) : At (mkS l) (mkS sep) l.length k ↔ k + sep.length ≤ l.length ∧ (l.drop k).take sep.length = sep := by
  unfold At subAt
  rw [zAG]
  refine and_congr_right fun _ => ?_
  have h := zBF l k (k + sep.length)
  unfold strSub at h
  have h2 : (mkS l).cps.extract k (k + sep.length) = ((l.drop k).take sep.length).toArray := by
    have := congrArg Str.cps h
    simpa [mkS] using this
  rw [h2, beq_iff_eq]
  show _ = sep.toArray ↔ _
  constructor
  · intro e; simpa using congrArg Array.toList e
  · intro e; rw [e]
theorem zGO {l : List Nat} {c : Nat} {rest : List Nat} : ∀ (ps : List (List Nat)) (p : List Nat) (a : Nat) (cuts : List Nat) (f : Nat), a ≤ l.length → l.drop a = joinC (c :: rest) (p :: ps) → (∀ q ∈ p :: ps, c ∉ q) →
    ChainG (mkS l) (mkS (c :: rest)) l.length a cuts f → (∀ k, f ≤ k → ¬ At (mkS l) (mkS (c :: rest)) l.length k) → partsFrom (mkS l) (c :: rest).length a cuts = (p :: ps).map mkS := by
  intro ps
  induction ps with
  | nil =>
    intro p a cuts f ha hl hc hch hn
    have hno : ∀ k, a ≤ k → ¬ At (mkS l) (mkS (c :: rest)) l.length k := fun k hk hA => by
      rw [zHZ] at hA
      have h1 : (l.drop k)[0]? = some c := by
        have h2 := congrArg (fun z => z[0]?) hA.2
        simp only [List.length_cons, List.getElem?_cons_zero] at h2
        rw [List.getElem?_take] at h2
        simpa using h2
      have h3 : c ∈ l.drop a := by
        rw [List.getElem?_drop] at h1
        have h4 : (l.drop a)[k - a]? = some c := by
          rw [List.getElem?_drop, show a + (k - a) = k + 0 by omega]
          simpa using h1
        exact List.mem_of_getElem? h4
      rw [hl] at h3
      exact hc p List.mem_cons_self h3
    cases cuts with
    | nil =>
      show [strSub (mkS l) a (mkS l).length] = _
      rw [zBF, zAG, hl]
      have : (joinC (c :: rest) [p]).length = l.length - a := by rw [← hl, List.length_drop]
      rw [List.take_of_length_le (by rw [this]; exact Nat.le_refl _)]
      rfl
    | cons c0 r => exact (hno c0 hch.1 hch.2.1).elim
  | cons p2 ps ih =>
    intro p a cuts f ha hl hc hch hn
    have hl' : l.drop a = p ++ ((c :: rest) ++ joinC (c :: rest) (p2 :: ps)) := hl
    have hlen : l.length - a = p.length + ((c :: rest).length + (joinC (c :: rest) (p2 :: ps)).length) := by rw [← List.length_drop, hl', List.length_append, List.length_append]
    have hdrop : l.drop (a + p.length) = (c :: rest) ++ joinC (c :: rest) (p2 :: ps) := by rw [← List.drop_drop, hl', List.drop_left]
    have hat : At (mkS l) (mkS (c :: rest)) l.length (a + p.length) := by
      rw [zHZ]
      refine ⟨by simp only [List.length_cons] at hlen ⊢; omega, ?_⟩
      rw [hdrop, List.take_left]
    have hno : ∀ k, a ≤ k → k < a + p.length → ¬ At (mkS l) (mkS (c :: rest)) l.length k := fun k hk hk2 hA => by
      rw [zHZ] at hA
      have h1 : (l.drop k)[0]? = some c := by
        have h2 := congrArg (fun z => z[0]?) hA.2
        simp only [List.length_cons, List.getElem?_cons_zero] at h2
        rw [List.getElem?_take] at h2
        simpa using h2
      have h4 : (l.drop a)[k - a]? = some c := by
        rw [List.getElem?_drop] at h1 ⊢
        rw [show a + (k - a) = k + 0 by omega]
        simpa using h1
      rw [hl', List.getElem?_append_left (by omega)] at h4
      exact hc p List.mem_cons_self (List.mem_of_getElem? h4)
    cases cuts with
    | nil =>
      have e : f = a := hch
      exact (hn (a + p.length) (by omega) hat).elim
    | cons c0 r =>
      obtain ⟨h1, h2, h3, h4⟩ := hch
      have ec : c0 = a + p.length := by
        rcases Nat.lt_trichotomy c0 (a + p.length) with h | h | h
        · exact (hno c0 h1 h h2).elim
        · exact h
        · exact (h3 (a + p.length) (by omega) h hat).elim
      subst ec
      show strSub (mkS l) a (a + p.length) :: partsFrom (mkS l) (c :: rest).length (a + p.length + (c :: rest).length) r = _
      rw [zBF, hl', show a + p.length - a = p.length by omega, List.take_left]
      rw [zAG] at h4
      rw [ih p2 (a + p.length + (c :: rest).length) r f (by simp only [List.length_cons] at hlen ⊢; omega) (by rw [← List.drop_drop, hdrop, List.drop_left]) (fun q hq => hc q (List.mem_cons_of_mem _ hq)) h4 hn]
      rfl
theorem zGN {x y : Str} (hy : 1 ≤ y.length) (hk : y.cps.all (· < 256) = true) : Txt.split x y = partsFrom x y.length 0 (occurrences x y 0 x.length (x.length + 1)) := by
  have hself : partsFrom x y.length 0 [] = [x] := by
    show [strSub x 0 x.length] = [x]
    rw [sub_whole]
  unfold Txt.split
  split
  · rename_i h
    have he : occurrences x y 0 x.length (x.length + 1) = [] := by
      rcases occ_head x y (x.length + 1) (by omega) with ⟨e, _⟩ | ⟨i, r, _, hA, _⟩
      · exact e
      · exfalso
        simp only [Bool.or_eq_true, decide_eq_true_eq] at h
        rcases h with h | h
        · have := hA.1; omega
        · have h1 : Builtin.Str.strKind y = 1 := by unfold Builtin.Str.strKind; rw [if_pos hk]
          have h2 : 1 ≤ Builtin.Str.strKind x := by unfold Builtin.Str.strKind; split <;> (try split) <;> omega
          omega
    rw [he, hself]
  · split
    · rename_i h
      rw [List.isEmpty_iff.mp h, hself]
    · rw [partsBetween_eq]
theorem zHc {c : Nat} {rest p : List Nat} {ps : List (List Nat)} (hk : (c :: rest).all (· < 256) = true) (hc : ∀ q ∈ p :: ps, c ∉ q) :
    Txt.split (mkS (joinC (c :: rest) (p :: ps))) (mkS (c :: rest)) = (p :: ps).map mkS := by
  rw [zGN (by simp) (by simpa [mkS] using hk)]
  obtain ⟨f, h1, h2⟩ := occ_tight (mkS (joinC (c :: rest) (p :: ps))) (mkS (c :: rest)) (by simp)
  rw [zAG] at h1 h2 ⊢
  have := zGO (l := joinC (c :: rest) (p :: ps)) ps p 0 _ f (by omega) (List.drop_zero) hc h1 h2
  simpa using this
theorem at_c {l : List Nat} {c k : Nat} : At (mkS l) (mkS [c]) l.length k ↔ l[k]? = some c := by
  rw [zHZ]
  constructor
  · rintro ⟨_, h⟩
    have h2 := congrArg (fun z => z[0]?) h
    simp only [List.length_cons, List.getElem?_cons_zero] at h2
    rw [List.getElem?_take, List.getElem?_drop] at h2
    simpa using h2
  · intro h
    have hlt := (List.getElem?_eq_some_iff.mp h).1
    refine ⟨by simp; omega, ?_⟩
    rw [List.drop_eq_getElem_cons hlt, (List.getElem?_eq_some_iff.mp h).2]
    rfl
theorem zDg {c : Nat} {p r : List Nat} (hc : c ∉ p) : Txt.partition (mkS (p ++ (c :: r))) (mkS [c]) = (mkS p, mkS [c], mkS r) := by
  have hat : At (mkS (p ++ (c :: r))) (mkS [c]) (p ++ (c :: r)).length p.length := by rw [at_c]; simp
  unfold Txt.partition
  rcases occ_head (mkS (p ++ (c :: r))) (mkS [c]) 1 (by omega) with ⟨_, h⟩ | ⟨i, rr, e, hA, hn⟩
  · rw [zAG] at h
    exact (h _ hat).elim
  · rw [zAG] at e hA hn ⊢
    rw [e]
    have hi : i = p.length := by
      rcases Nat.lt_trichotomy i p.length with h | h | h
      · rw [at_c, List.getElem?_append_left h] at hA
        exact (hc (List.mem_of_getElem? hA)).elim
      · exact h
      · exact (hn _ h hat).elim
    subst hi
    simp only
    rw [zBF, zBF]
    simp
    rw [List.take_of_length_le (by omega)]
end Mine
end

/-! # Txt2 -/
section
set_option autoImplicit false
namespace Mine
open PySem PySem.W PySem.NumText
noncomputable def digs (m : Nat) : List Nat := (Nat.toDigits 10 m).map Char.toNat
theorem str_num (m : Nat) : Str.ofString (toString ((m : Nat) : Int)) = mkS (digs m) := by
  rw [← zDC (Str.ofString _)]
  exact congrArg mkS (KIN.signs_num m)
theorem digs_digit {m c : Nat} (h : c ∈ digs m) : 48 ≤ c ∧ c ≤ 57 := by
  obtain ⟨ch, hch, rfl⟩ := List.mem_map.mp h
  have r := PyProof.Rows.digit_range (Nat.isDigit_of_mem_toDigits (by decide) (by decide) hch)
  exact r
theorem digs_le {k m : Nat} (hk : 1 ≤ k) (h : m < 10 ^ k) : (digs m).length ≤ k := by
  unfold digs; rw [List.length_map]; exact PyProof.Rows.digits10_le hk h
end Mine
end

/-! # Txt8 -/
section
set_option autoImplicit false
namespace Mine
open PySem PySem.W PySem.NumText PySem.Builtin PySem.Builtin.Str
noncomputable def cutAll (c : Nat) : List Nat → List (List Nat)
  | [] => [[]]
  | x :: xs => if x = c then [] :: cutAll c xs else match cutAll c xs with
    | [] => [[x]]
    | p :: ps => (x :: p) :: ps
theorem zBT (c : Nat) : ∀ l : List Nat, ∃ p ps, cutAll c l = p :: ps
  | [] => ⟨_, _, rfl⟩
  | x :: xs => by
    obtain ⟨p, ps, e⟩ := zBT c xs
    unfold cutAll
    split
    · exact ⟨_, _, rfl⟩
    · rw [e]; exact ⟨_, _, rfl⟩
theorem zFy (c : Nat) : ∀ (l : List Nat), ∀ q ∈ cutAll c l, c ∉ q
  | [], q, hq => by rw [List.mem_singleton.mp hq]; exact fun h => nomatch h
  | x :: xs, q, hq => by
    obtain ⟨p, ps, e⟩ := zBT c xs
    have ih := zFy c xs
    unfold cutAll at hq
    split at hq
    · rcases List.mem_cons.mp hq with rfl | hq
      · exact fun h => nomatch h
      · exact ih q hq
    · rename_i hx
      rw [e] at hq ih
      have hq : q ∈ (x :: p) :: ps := hq
      rcases List.mem_cons.mp hq with rfl | hq
      · exact fun h => (List.mem_cons.mp h).elim (fun h => hx h.symm) (ih p List.mem_cons_self)
      · exact ih q (List.mem_cons_of_mem _ hq)
theorem zFn (c : Nat) : ∀ l : List Nat, joinC [c] (cutAll c l) = l
  | [] => rfl
  | x :: xs => by
    obtain ⟨p, ps, e⟩ := zBT c xs
    have ih := zFn c xs
    unfold cutAll
    split
    · rename_i hx
      rw [e] at ih ⊢
      show [] ++ ([c] ++ joinC [c] (p :: ps)) = _
      rw [ih, hx]; rfl
    · rw [e] at ih ⊢
      cases ps with
      | nil => show x :: p = _; have ih : p = xs := ih; rw [ih]
      | cons p' ps => show x :: (p ++ ([c] ++ joinC [c] (p' :: ps))) = _; have ih : p ++ ([c] ++ joinC [c] (p' :: ps)) = xs := ih; rw [ih]
theorem zBZ (c : Nat) : ∀ (p r : List Nat), c ∉ p → cutAll c (p ++ c :: r) = p :: cutAll c r
  | [], r, _ => by show (if c = c then _ else _) = _; rw [if_pos rfl]
  | x :: p, r, h => by
    have hx : x ≠ c := fun e => h (e ▸ List.mem_cons_self)
    show (if x = c then _ else _) = _
    rw [if_neg hx]
    show (match cutAll c (p ++ c :: r) with | [] => [[x]] | q :: qs => (x :: q) :: qs) = _
    rw [zBZ c p r fun q => h (List.mem_cons_of_mem _ q)]
theorem zDP (c : Nat) : ∀ (p : List Nat), c ∉ p → cutAll c p = [p]
  | [], _ => rfl
  | x :: p, h => by
    have hx : x ≠ c := fun e => h (e ▸ List.mem_cons_self)
    show (if x = c then _ else _) = _
    rw [if_neg hx]
    show (match cutAll c p with | [] => [[x]] | q :: qs => (x :: q) :: qs) = _
    rw [zDP c p fun q => h (List.mem_cons_of_mem _ q)]
theorem zBm {c : Nat} (hc : c < 256) (l : List Nat) : Txt.split (mkS l) (mkS [c]) = (cutAll c l).map mkS := by
  obtain ⟨p, ps, e⟩ := zBT c l
  have h := zHc (c := c) (rest := []) (p := p) (ps := ps) (by simp [hc]) (by rw [← e]; exact zFy c l)
  rw [← e, zFn] at h
  exact h
theorem zFt (c : Nat) : ∀ l : List Nat, c ∉ l ∨ ∃ p r, l = p ++ c :: r ∧ c ∉ p
  | [] => .inl fun h => nomatch h
  | x :: l => by
    by_cases hx : x = c
    · exact .inr ⟨[], l, by rw [hx]; rfl, fun h => nomatch h⟩
    · rcases zFt c l with h | ⟨p, r, rfl, h⟩
      · exact .inl fun q => (List.mem_cons.mp q).elim (fun e => hx e.symm) h
      · exact .inr ⟨x :: p, r, rfl, fun q => (List.mem_cons.mp q).elim (fun e => hx e.symm) h⟩
theorem part_none {c : Nat} {l : List Nat} (hc : c ∉ l) : Txt.partition (mkS l) (mkS [c]) = (mkS l, Str.empty, Str.empty) := by
  unfold Txt.partition
  rcases StrLaws.occ_head (mkS l) (mkS [c]) 1 (by omega) with ⟨e, _⟩ | ⟨i, rr, e, hA, hn⟩
  · rw [e]
  · rw [zAG] at hA
    rw [at_c] at hA
    exact (hc (List.mem_of_getElem? hA)).elim
theorem zEv (l p : List Nat) : Txt.startswith (mkS l) (mkS p) = (decide (p.length ≤ l.length) && (l.take p.length == p)) := by
  unfold Txt.startswith
  rw [StrLaws.subAt_eq, Nat.zero_add, zAG, zAG]
  simp [mkS]
theorem zDt {l : List Nat} {k : Nat} (hk : 1 ≤ k) (h : k ≤ l.length) : Txt.slice (mkS l) (some (k : Int)) none = mkS (l.drop k) := by
  have e0 : strSliceIndices (some (k : Int)) none 1 (mkS l).length = strSliceIndices (some (k : Int)) (some ((mkS l).length : Int)) 1 (mkS l).length := by
    simp only [strSliceIndices]
    rw [if_neg (show ¬ (((mkS l).length : Int) < 0) by omega)]
    simp only [show ((1 : Int) > 0) = True from by simp, if_true]
    rw [show max (0 : Int) (min ((mkS l).length : Int) ((mkS l).length : Int)) = ((mkS l).length : Int) by omega]
  have hk' : k ≤ (mkS l).length := by rw [zAG]; exact h
  unfold Txt.slice
  rw [e0, if_neg]
  · rw [StrLaws.sliced_plain (mkS l) hk' (Nat.le_refl _)]
    have : (mkS l).cps.toList = l := by simp [mkS]
    rw [this, zAG, List.take_of_length_le (by rw [List.length_drop]; exact Nat.le_refl _)]; rfl
  · rw [StrLaws.strSliceIndices_plain hk' (Nat.le_refl _), List.length_map, List.length_range]
    rw [zAG] at hk' ⊢
    simp; omega
theorem A7.part {x y p : Str} (hx : A7 x) (h : p ∈ Txt.split x y) : A7 p := by
  unfold Txt.split at h
  split at h
  · rw [List.mem_singleton.mp h]; exact hx
  · split at h
    · rw [List.mem_singleton.mp h]; exact hx
    · obtain ⟨q, _, rfl⟩ := List.mem_map.mp h
      intro c hc
      rw [StrLaws.strSub_toList] at hc
      exact hx c (List.mem_of_mem_drop (List.mem_of_mem_take hc))
theorem zEw {x y : Str} : (Txt.split x y).length ≤ x.length + 2 := by
  unfold Txt.split
  split
  · exact Nat.le_trans (show 1 ≤ 2 by decide) (Nat.le_add_left 2 _)
  · split
    · exact Nat.le_trans (show 1 ≤ 2 by decide) (Nat.le_add_left 2 _)
    · rw [length_partsBetween]
      have := StrLaws.occ_length_le x y 0 x.length (x.length + 1)
      omega
noncomputable def figs : Str := { cps := #[48, 49, 50, 51, 52, 53, 54, 55, 56, 57] }
noncomputable def figOk (c : Nat) : Bool := (codes figs).contains c
noncomputable def nought (w : Str) : Bool := match codes w with
  | c :: _ => mkS [c] == ({ cps := #[48] } : Str)
  | [] => false
noncomputable def numOk (w : Str) : Bool := (decide (1 ≤ w.length) && decide (w.length ≤ 30)) && ((codes w).all figOk && !(nought w && decide (1 < w.length)))
theorem fig_range {c : Nat} (h : figOk c = true) : 48 ≤ c ∧ c ≤ 57 := by
  have : c ∈ [48, 49, 50, 51, 52, 53, 54, 55, 56, 57] := List.contains_iff_mem.mp h
  simp only [List.mem_cons, List.not_mem_nil, or_false] at this
  omega
theorem int_num {w : Str} (h : numOk w = true) : ∃ n : Nat, PySem.intText? w = some (n : Int) := by
  unfold numOk at h
  simp only [Bool.and_eq_true, decide_eq_true_eq, List.all_eq_true] at h
  obtain ⟨⟨h1, h2⟩, h3, _⟩ := h
  have hd : AllDigits w.cps.toList := fun c hc => fig_range (h3 c hc)
  have hne : w.cps.toList ≠ [] := fun e => by
    have : w.length = 0 := by show w.cps.size = 0; rw [← Array.length_toList, e]; rfl
    omega
  have e := intText_digits hd hne (by omega)
  exact ⟨_, e⟩
noncomputable def numV (w : Str) : Option Int := if numOk w = true then PySem.intText? w else none
theorem numV_nat {w : Str} {n : Int} (h : numV w = some n) : 0 ≤ n := by
  unfold numV at h
  split at h
  · rename_i hn
    obtain ⟨m, hm⟩ := int_num hn
    rw [hm] at h; cases h; exact Int.natCast_nonneg m
  · cases h
end Mine
end

/-! # P08 -/
section
set_option autoImplicit false
namespace Mine
open PySem
noncomputable def trks08 : List (Nat × Nat × Nat) := [(77,21,23),(89,21,23)]
noncomputable def zFu : Fn := { params := 1, slots := 1, body := [CS.ite (CE.or (CE.p1 P1.not (CE.chain (CE.lit (V.int 1)) [P2.le, P2.le] [CE.p1 P1.len (CE.var 0),CE.lit (V.int 30)])) (CE.p1 P1.not (CE.p1 P1.all (CE.comp (CE.p2 P2.isIn (CE.var 1) (CE.lit (V.str { cps := #[48,49,50,51,52,53,54,55,56,57] }))) SK.val [CE.var 0] none)))) [CS.raise (Cls.NoDeed)] [],CS.ite (CE.and (CE.p2 P2.eq (CE.p2 P2.index (CE.var 0) (CE.lit (V.int 0))) (CE.lit (V.str { cps := #[48] }))) (CE.p2 P2.gt (CE.p1 P1.len (CE.var 0)) (CE.lit (V.int 1)))) [CS.raise (Cls.NoDeed)] [],CS.ret (CE.p1 P1.toInt (CE.var 0))] }
noncomputable def zAv : Fn := { params := 1, slots := 2, body := [CS.asg 1 (CE.sm P2.split (CE.var 0) (CE.lit (V.str { cps := #[32] }))),CS.ite (CE.or (CE.p2 P2.ne (CE.p1 P1.len (CE.var 1)) (CE.lit (V.int 4))) (CE.p1 P1.not (CE.call 21 [CE.p2 P2.index (CE.var 1) (CE.lit (V.int 0))]))) [CS.raise (Cls.NoDeed)] [],CS.ret (CE.tup [CE.p2 P2.index (CE.var 1) (CE.lit (V.int 0)),CE.call 29 [CE.p2 P2.index (CE.var 1) (CE.lit (V.int 1))],CE.call 29 [CE.p2 P2.index (CE.var 1) (CE.lit (V.int 2))],CE.call 29 [CE.p2 P2.index (CE.var 1) (CE.lit (V.int 3))]])] }
noncomputable def zAp : Fn := { params := 1, slots := 5, body := [CS.unpack3 1 2 3 (CE.sm P2.partition (CE.var 0) (CE.lit (V.str { cps := #[32] }))),CS.ite (CE.or (CE.p2 P2.notIn (CE.var 1) (CE.lit (V.parts))) (CE.p2 P2.eq (CE.var 2) (CE.lit (V.str { cps := #[] })))) [CS.raise (Cls.NoDeed)] [],CS.ite (CE.p2 P2.eq (CE.var 1) (CE.lit (V.str { cps := #[111,114,100,101,114] }))) [CS.ret (CE.tup [CE.var 1,CE.comp (CE.call 30 [CE.var 5]) SK.val [CE.sm P2.split (CE.var 3) (CE.lit (V.str { cps := #[44,32] }))] none])] [],CS.asg 4 (CE.sm P2.split (CE.var 3) (CE.lit (V.str { cps := #[32] }))),CS.ite (CE.p2 P2.ne (CE.p1 P1.len (CE.var 4)) (CE.p2 P2.sub (CE.p2 P2.index (CE.lit (V.parts)) (CE.var 1)) (CE.lit (V.int 1)))) [CS.raise (Cls.NoDeed)] [],CS.ret (CE.p1 P1.toTup (CE.p2 P2.add (CE.list [CE.var 1]) (CE.comp (CE.call 29 [CE.var 5]) SK.val [CE.var 4] none)))] }
noncomputable def zGf : Fn := { params := 2, slots := 2, body := [CS.ite (CE.p2 P2.lt (CE.var 1) (CE.p1 P1.len (CE.var 0))) [CS.ret (CE.p2 P2.index (CE.var 0) (CE.var 1))] [],CS.ret (CE.lit (V.int 0))] }
noncomputable def zEf : Fn := { params := 2, slots := 2, body := [CS.ite (CE.p2 P2.eq (CE.p2 P2.mod (CE.var 1) (CE.lit (V.int 4))) (CE.lit (V.int 0))) [CS.ret (CE.p2 P2.mod (CE.var 0) (CE.p2 P2.pow (CE.lit (V.int 10)) (CE.lit (V.int 30))))] [],CS.ite (CE.p2 P2.eq (CE.p2 P2.mod (CE.var 1) (CE.lit (V.int 4))) (CE.lit (V.int 1))) [CS.ret (CE.p2 P2.index (CE.list [CE.lit (V.int 0),CE.p2 P2.sub (CE.p2 P2.pow (CE.lit (V.int 10)) (CE.lit (V.int 30))) (CE.lit (V.int 1)),CE.lit (V.int 9),CE.lit (V.int 10),CE.p2 P2.pow (CE.lit (V.int 10)) (CE.lit (V.int 29))]) (CE.p2 P2.mod (CE.var 0) (CE.lit (V.int 5))))] [],CS.ret (CE.p2 P2.mod (CE.var 0) (CE.lit (V.int 1000)))] }
noncomputable def f08_103 : Fn := { params := 1, slots := 2, body := [CS.asg 1 (CE.lit (V.str { cps := #[97,98,99,100,101,102,103,104,105,106,107,108,109,110,111,112,113,114,115,116,117,118,119,120,121,122] })),CS.ret (CE.sm P2.join (CE.lit (V.str { cps := #[] })) (CE.comp (CE.p2 P2.index (CE.var 1) (CE.p2 P2.mod (CE.p2 P2.add (CE.p2 P2.add (CE.p2 P2.fdiv (CE.var 0) (CE.lit (V.int 12))) (CE.p2 P2.mul (CE.p2 P2.fdiv (CE.p2 P2.fdiv (CE.var 0) (CE.lit (V.int 12))) (CE.lit (V.int 26))) (CE.var 2))) (CE.p2 P2.mul (CE.lit (V.int 5)) (CE.var 2))) (CE.lit (V.int 26)))) SK.range1 [CE.p2 P2.add (CE.lit (V.int 1)) (CE.p2 P2.mod (CE.var 0) (CE.lit (V.int 12)))] none))] }
noncomputable def zAZ : Fn := { params := 1, slots := 8, body := [CS.asg 1 (CE.list [CE.lit (V.str { cps := #[100,101,108,105,118,101,114] }),CE.lit (V.str { cps := #[98,97,99,107] }),CE.lit (V.str { cps := #[115,119,97,112] }),CE.lit (V.str { cps := #[99,114,101,100,105,116] }),CE.lit (V.str { cps := #[109,111,118,101] }),CE.lit (V.str { cps := #[112,97,121] }),CE.lit (V.str { cps := #[114,101,102,117,110,100] }),CE.lit (V.str { cps := #[111,114,100,101,114] }),CE.lit (V.str { cps := #[111,114,100,101,114] }),CE.lit (V.str { cps := #[111,114,100,101,114] })]),CS.asg 2 (CE.p2 P2.index (CE.var 1) (CE.p2 P2.mod (CE.call 100 [CE.var 0,CE.lit (V.int 0)]) (CE.lit (V.int 10)))),CS.asg 3 (CE.call 100 [CE.var 0,CE.lit (V.int 1)]),CS.ite (CE.p2 P2.eq (CE.var 2) (CE.lit (V.str { cps := #[111,114,100,101,114] }))) [CS.asg 4 (CE.trk (CE.list [])),CS.for 5 SK.range1 [CE.p2 P2.add (CE.lit (V.int 1)) (CE.p2 P2.mod (CE.call 100 [CE.var 0,CE.lit (V.int 2)]) (CE.lit (V.int 4)))] [CS.asg 6 (CE.p2 P2.add (CE.p2 P2.mul (CE.call 100 [CE.var 0,CE.p2 P2.add (CE.lit (V.int 3)) (CE.p2 P2.mod (CE.var 5) (CE.lit (V.int 6)))]) (CE.p2 P2.add (CE.var 5) (CE.lit (V.int 1)))) (CE.var 5)),CS.asg 7 (CE.comp (CE.call 102 [CE.p2 P2.fdiv (CE.var 6) (CE.p2 P2.add (CE.var 8) (CE.lit (V.int 1))),CE.p2 P2.fdiv (CE.var 3) (CE.p2 P2.add (CE.var 8) (CE.lit (V.int 1)))]) SK.range1 [CE.lit (V.int 3)] none),CS.exp (CE.append (CE.var 4) (CE.tup [CE.call 103 [CE.var 6],CE.p2 P2.index (CE.var 7) (CE.lit (V.int 0)),CE.p2 P2.index (CE.var 7) (CE.lit (V.int 1)),CE.p2 P2.index (CE.var 7) (CE.lit (V.int 2))]))],CS.ret (CE.tup [CE.lit (V.str { cps := #[111,114,100,101,114] }),CE.var 4])] [],CS.asg 7 (CE.comp (CE.call 102 [CE.call 100 [CE.var 0,CE.p2 P2.add (CE.lit (V.int 2)) (CE.var 8)],CE.p2 P2.fdiv (CE.var 3) (CE.p2 P2.add (CE.var 8) (CE.lit (V.int 1)))]) SK.range1 [CE.lit (V.int 3)] none),CS.ite (CE.or (CE.p2 P2.eq (CE.var 2) (CE.lit (V.str { cps := #[112,97,121] }))) (CE.p2 P2.eq (CE.var 2) (CE.lit (V.str { cps := #[114,101,102,117,110,100] })))) [CS.ret (CE.tup [CE.var 2,CE.p2 P2.index (CE.var 7) (CE.lit (V.int 0)),CE.p2 P2.index (CE.var 7) (CE.lit (V.int 1))])] [],CS.ret (CE.tup [CE.var 2,CE.p2 P2.index (CE.var 7) (CE.lit (V.int 0)),CE.p2 P2.index (CE.var 7) (CE.lit (V.int 1)),CE.p2 P2.index (CE.var 7) (CE.lit (V.int 2))])] }
noncomputable def zBQ : Fn := { params := 1, slots := 4, body := [CS.ite (CE.p2 P2.eq (CE.p2 P2.index (CE.var 0) (CE.lit (V.int 0))) (CE.lit (V.str { cps := #[111,114,100,101,114] }))) [CS.asg 1 (CE.trk (CE.list [])),CS.for 2 SK.val [CE.p2 P2.index (CE.var 0) (CE.lit (V.int 1))] [CS.asg 3 (CE.comp (CE.p1 P1.toStr (CE.var 4)) SK.val [CE.slice (CE.var 2) (some (CE.lit (V.int 1))) none] none),CS.exp (CE.append (CE.var 1) (CE.p2 P2.add (CE.p2 P2.add (CE.p2 P2.index (CE.var 2) (CE.lit (V.int 0))) (CE.lit (V.str { cps := #[32] }))) (CE.sm P2.join (CE.lit (V.str { cps := #[32] })) (CE.var 3))))],CS.ret (CE.p2 P2.add (CE.lit (V.str { cps := #[111,114,100,101,114,32] })) (CE.sm P2.join (CE.lit (V.str { cps := #[44,32] })) (CE.var 1)))] [],CS.ret (CE.p2 P2.add (CE.p2 P2.add (CE.p2 P2.index (CE.var 0) (CE.lit (V.int 0))) (CE.lit (V.str { cps := #[32] }))) (CE.sm P2.join (CE.lit (V.str { cps := #[32] })) (CE.comp (CE.p1 P1.toStr (CE.var 4)) SK.val [CE.slice (CE.var 0) (some (CE.lit (V.int 1))) none] none)))] }
noncomputable def zAx : Fn := { params := 1, slots := 2, body := [CS.ite (CE.or (CE.p1 P1.not (CE.chain (CE.lit (V.int 0)) [P2.lt, P2.lt] [CE.p1 P1.len (CE.var 0),CE.lit (V.int 31)])) (CE.and (CE.p2 P2.eq (CE.p2 P2.index (CE.var 0) (CE.lit (V.int 0))) (CE.lit (V.str { cps := #[48] }))) (CE.p2 P2.gt (CE.p1 P1.len (CE.var 0)) (CE.lit (V.int 1))))) [CS.ret (CE.p1 P1.neg (CE.lit (V.int 1)))] [],CS.for 1 SK.val [CE.var 0] [CS.ite (CE.p2 P2.notIn (CE.var 1) (CE.lit (V.str { cps := #[48,49,50,51,52,53,54,55,56,57] }))) [CS.ret (CE.p1 P1.neg (CE.lit (V.int 1)))] []],CS.ret (CE.p1 P1.toInt (CE.var 0))] }
noncomputable def zAc : Fn := { params := 1, slots := 4, body := [CS.asg 1 (CE.sm P2.split (CE.var 0) (CE.lit (V.str { cps := #[32] }))),CS.ite (CE.or (CE.p2 P2.ne (CE.p1 P1.len (CE.var 1)) (CE.lit (V.int 4))) (CE.p1 P1.not (CE.chain (CE.lit (V.int 0)) [P2.lt, P2.lt] [CE.p1 P1.len (CE.p2 P2.index (CE.var 1) (CE.lit (V.int 0))),CE.lit (V.int 13)]))) [CS.ret (CE.lit (V.none))] [],CS.for 2 SK.val [CE.p2 P2.index (CE.var 1) (CE.lit (V.int 0))] [CS.ite (CE.p2 P2.notIn (CE.var 2) (CE.lit (V.str { cps := #[97,98,99,100,101,102,103,104,105,106,107,108,109,110,111,112,113,114,115,116,117,118,119,120,121,122] }))) [CS.ret (CE.lit (V.none))] []],CS.asg 3 (CE.comp (CE.call 106 [CE.var 4]) SK.val [CE.slice (CE.var 1) (some (CE.lit (V.int 1))) none] none),CS.ite (CE.p2 P2.lt (CE.p1 P1.min (CE.var 3)) (CE.lit (V.int 0))) [CS.ret (CE.lit (V.none))] [],CS.ret (CE.tup [CE.p2 P2.index (CE.var 1) (CE.lit (V.int 0)),CE.p2 P2.index (CE.var 3) (CE.lit (V.int 0)),CE.p2 P2.index (CE.var 3) (CE.lit (V.int 1)),CE.p2 P2.index (CE.var 3) (CE.lit (V.int 2))])] }
noncomputable def zAQ : Fn := { params := 1, slots := 6, body := [CS.ite (CE.sm P2.startswith (CE.var 0) (CE.lit (V.str { cps := #[111,114,100,101,114,32] }))) [CS.asg 1 (CE.comp (CE.call 107 [CE.var 6]) SK.val [CE.sm P2.split (CE.slice (CE.var 0) (some (CE.lit (V.int 6))) none) (CE.lit (V.str { cps := #[44,32] }))] none),CS.for 2 SK.val [CE.var 1] [CS.ite (CE.p1 P1.isNone (CE.var 2)) [CS.ret (CE.lit (V.none))] []],CS.ret (CE.tup [CE.lit (V.str { cps := #[111,114,100,101,114] }),CE.var 1])] [],CS.asg 3 (CE.sm P2.split (CE.var 0) (CE.lit (V.str { cps := #[32] }))),CS.asg 4 (CE.p2 P2.sub (CE.lit (V.int 4)) (CE.p1 P1.toInt (CE.p2 P2.isIn (CE.p2 P2.index (CE.var 3) (CE.lit (V.int 0))) (CE.list [CE.lit (V.str { cps := #[112,97,121] }),CE.lit (V.str { cps := #[114,101,102,117,110,100] })])))),CS.ite (CE.or (CE.p2 P2.notIn (CE.p2 P2.index (CE.var 3) (CE.lit (V.int 0))) (CE.list [CE.lit (V.str { cps := #[100,101,108,105,118,101,114] }),CE.lit (V.str { cps := #[98,97,99,107] }),CE.lit (V.str { cps := #[115,119,97,112] }),CE.lit (V.str { cps := #[99,114,101,100,105,116] }),CE.lit (V.str { cps := #[109,111,118,101] }),CE.lit (V.str { cps := #[112,97,121] }),CE.lit (V.str { cps := #[114,101,102,117,110,100] })])) (CE.p2 P2.ne (CE.p1 P1.len (CE.var 3)) (CE.var 4))) [CS.ret (CE.lit (V.none))] [],CS.asg 5 (CE.comp (CE.call 106 [CE.var 6]) SK.val [CE.slice (CE.var 3) (some (CE.lit (V.int 1))) none] none),CS.ite (CE.p2 P2.lt (CE.p1 P1.min (CE.var 5)) (CE.lit (V.int 0))) [CS.ret (CE.lit (V.none))] [],CS.ret (CE.p1 P1.toTup (CE.p2 P2.add (CE.list [CE.p2 P2.index (CE.var 3) (CE.lit (V.int 0))]) (CE.var 5)))] }
noncomputable def zGe : Fn := { params := 2, slots := 3, body := [CS.ite (CE.or (CE.p1 P1.not (CE.p1 (P1.isInst Kd.tuple) (CE.var 0))) (CE.p2 P2.ne (CE.var 0) (CE.var 1))) [CS.ret (CE.lit (V.bool false))] [],CS.for 2 SK.val [CE.var 0] [CS.ite (CE.and (CE.p1 P1.not (CE.p1 (P1.isInst Kd.str) (CE.var 2))) (CE.p1 P1.not (CE.call 101 [CE.var 2]))) [CS.ret (CE.lit (V.bool false))] []],CS.ret (CE.lit (V.bool true))] }
noncomputable def zEe : Fn := { params := 2, slots := 3, body := [CS.ite (CE.p2 P2.ne (CE.p2 P2.index (CE.var 1) (CE.lit (V.int 0))) (CE.lit (V.str { cps := #[111,114,100,101,114] }))) [CS.ret (CE.call 109 [CE.var 0,CE.var 1])] [],CS.ite (CE.or (CE.p1 P1.not (CE.p1 (P1.isInst Kd.tuple) (CE.var 0))) (CE.or (CE.p2 P2.ne (CE.p1 P1.len (CE.var 0)) (CE.lit (V.int 2))) (CE.p2 P2.ne (CE.p2 P2.index (CE.var 0) (CE.lit (V.int 0))) (CE.lit (V.str { cps := #[111,114,100,101,114] }))))) [CS.ret (CE.lit (V.bool false))] [],CS.ite (CE.or (CE.p1 P1.not (CE.p1 (P1.isInst Kd.list) (CE.p2 P2.index (CE.var 0) (CE.lit (V.int 1))))) (CE.p2 P2.ne (CE.p1 P1.len (CE.p2 P2.index (CE.var 0) (CE.lit (V.int 1)))) (CE.p1 P1.len (CE.p2 P2.index (CE.var 1) (CE.lit (V.int 1)))))) [CS.ret (CE.lit (V.bool false))] [],CS.for 2 SK.range1 [CE.p1 P1.len (CE.p2 P2.index (CE.var 1) (CE.lit (V.int 1)))] [CS.ite (CE.p1 P1.not (CE.call 109 [CE.p2 P2.index (CE.p2 P2.index (CE.var 0) (CE.lit (V.int 1))) (CE.var 2),CE.p2 P2.index (CE.p2 P2.index (CE.var 1) (CE.lit (V.int 1))) (CE.var 2)])) [CS.ret (CE.lit (V.bool false))] []],CS.ret (CE.lit (V.bool true))] }
noncomputable def zAh : Fn := { params := 2, slots := 6, body := [CS.asg 2 (CE.lit (V.str { cps := #[32,44,48,49,50,51,52,53,54,55,56,57,97,98,99,100,101,102,103,104,105,106,107,108,109,110,111,112,113,114,115,116,117,118,119,120,121,122,65,66,67,68,69,70,71,72,73,74,75,76,77,78,79,80,81,82,83,84,85,86,87,88,89,90] })),CS.asg 2 (CE.p2 P2.add (CE.var 2) (CE.lit (V.str { cps := #[33,34,35,36,38,39,40,41,42,43,45,46,47,58,59,60,61,62,63,64,91,92,93,94,95,96,123,124,125,126] }))),CS.asg 3 (CE.p2 P2.index (CE.var 2) (CE.p2 P2.mod (CE.p2 P2.mod (CE.p2 P2.mul (CE.var 1) (CE.lit (V.int 48271))) (CE.lit (V.int 10007))) (CE.lit (V.int 94)))),CS.ite (CE.p2 P2.eq (CE.p2 P2.mod (CE.p2 P2.mod (CE.p2 P2.mul (CE.var 1) (CE.lit (V.int 48271))) (CE.lit (V.int 10009))) (CE.lit (V.int 2))) (CE.lit (V.int 1))) [CS.asg 3 (CE.p2 P2.index (CE.lit (V.str { cps := #[32,44,48,97,45,57,111] })) (CE.p2 P2.mod (CE.var 1) (CE.lit (V.int 7))))] [],CS.asg 4 (CE.p2 P2.mod (CE.p2 P2.mod (CE.p2 P2.mul (CE.var 1) (CE.lit (V.int 48271))) (CE.lit (V.int 10037))) (CE.p2 P2.add (CE.p1 P1.len (CE.var 0)) (CE.lit (V.int 1)))),CS.asg 5 (CE.p2 P2.mod (CE.var 1) (CE.lit (V.int 4))),CS.ite (CE.p2 P2.eq (CE.var 5) (CE.lit (V.int 0))) [CS.ret (CE.p2 P2.add (CE.p2 P2.add (CE.slice (CE.var 0) none (some (CE.var 4))) (CE.var 3)) (CE.slice (CE.var 0) (some (CE.var 4)) none))] [],CS.ite (CE.p2 P2.eq (CE.var 5) (CE.lit (V.int 1))) [CS.ret (CE.p2 P2.add (CE.p2 P2.add (CE.slice (CE.var 0) none (some (CE.var 4))) (CE.var 3)) (CE.slice (CE.var 0) (some (CE.p2 P2.add (CE.var 4) (CE.lit (V.int 1)))) none))] [],CS.ite (CE.p2 P2.eq (CE.var 5) (CE.lit (V.int 2))) [CS.ret (CE.p2 P2.add (CE.p2 P2.add (CE.slice (CE.var 0) none (some (CE.var 4))) (CE.lit (V.str { cps := #[32,55] }))) (CE.slice (CE.var 0) (some (CE.var 4)) none))] [],CS.ret (CE.p2 P2.add (CE.slice (CE.var 0) none (some (CE.var 4))) (CE.slice (CE.var 0) (some (CE.p2 P2.add (CE.var 4) (CE.lit (V.int 1)))) none))] }
noncomputable def f08_112 : Fn := { params := 1, slots := 2, body := [CS.asg 1 (CE.list [CE.lit (V.str { cps := #[] }),CE.lit (V.str { cps := #[32] }),CE.lit (V.str { cps := #[111,114,100,101,114] }),CE.lit (V.str { cps := #[111,114,100,101,114,32] }),CE.lit (V.str { cps := #[111,114,100,101,114,115,32,97,32,49,32,49,32,49] }),CE.lit (V.str { cps := #[111,114,100,101,114,32,97,32,49,32,49] }),CE.lit (V.str { cps := #[111,114,100,101,114,32,97,32,49,32,49,32,49,32,49] }),CE.lit (V.str { cps := #[111,114,100,101,114,32,97,32,49,32,49,32,49,44,98,32,49,32,49,32,49] })]),CS.asg 1 (CE.p2 P2.add (CE.var 1) (CE.list [CE.lit (V.str { cps := #[111,114,100,101,114,32,97,32,49,32,49,32,49,44,32,32,98,32,49,32,49,32,49] }),CE.lit (V.str { cps := #[111,114,100,101,114,32,97,32,49,32,49,32,49,44,32] }),CE.lit (V.str { cps := #[111,114,100,101,114,32,44,32,97,32,49,32,49,32,49] }),CE.lit (V.str { cps := #[111,114,100,101,114,32,32,97,32,49,32,49,32,49] }),CE.lit (V.str { cps := #[79,114,100,101,114,32,97,32,49,32,49,32,49] })])),CS.asg 1 (CE.p2 P2.add (CE.var 1) (CE.list [CE.lit (V.str { cps := #[112,97,121,32,49] }),CE.lit (V.str { cps := #[112,97,121] }),CE.lit (V.str { cps := #[112,97,121,32,49,32,50,32,51] }),CE.lit (V.str { cps := #[112,97,121,32,48,49,32,50] }),CE.lit (V.str { cps := #[112,97,121,32,49,32,48,48] }),CE.lit (V.str { cps := #[112,97,121,32,45,49,32,50] }),CE.lit (V.str { cps := #[112,97,121,32,43,49,32,50] }),CE.lit (V.str { cps := #[112,97,121,32,49,32,50,32] }),CE.lit (V.str { cps := #[32,112,97,121,32,49,32,50] })])),CS.asg 1 (CE.p2 P2.add (CE.var 1) (CE.list [CE.lit (V.str { cps := #[112,97,121,32,32,49,32,50] }),CE.lit (V.str { cps := #[112,97,121,115,32,49,32,50] }),CE.lit (V.str { cps := #[109,111,118,101,32,49,32,50] }),CE.lit (V.str { cps := #[100,101,108,105,118,101,114,32,49,32,50,32,51,32,52] }),CE.lit (V.str { cps := #[100,101,108,105,118,101,114,32,49,32,50,32,120] }),CE.lit (V.str { cps := #[114,101,102,117,110,100,32,49,32,49,95,48] }),CE.lit (V.str { cps := #[110,111,110,101] })])),CS.asg 1 (CE.p2 P2.add (CE.var 1) (CE.list [CE.p2 P2.add (CE.lit (V.str { cps := #[112,97,121,32,48,32] })) (CE.p2 P2.mul (CE.lit (V.str { cps := #[49] })) (CE.lit (V.int 31))),CE.lit (V.str { cps := #[111,114,100,101,114,32,97,98,99,100,101,102,103,104,105,106,107,108,109,32,49,32,49,32,49] })])),CS.ret (CE.p2 P2.index (CE.var 1) (CE.p2 P2.mod (CE.var 0) (CE.lit (V.int 31))))] }
noncomputable def f08_113 : Fn := { params := 1, slots := 2, body := [CS.asg 1 (CE.list [CE.p1 (P1.isInst (Kd.exc (Cls.NoDeed))) (CE.var 0),CE.p1 (P1.isInst (Kd.exc (Cls.NoLines))) (CE.var 0),CE.p1 (P1.isInst (Kd.exc (Cls.NoItem))) (CE.var 0),CE.p1 (P1.isInst (Kd.exc (Cls.NoNumber))) (CE.var 0)]),CS.asg 1 (CE.p2 P2.add (CE.var 1) (CE.list [CE.p1 (P1.isInst (Kd.exc (Cls.FullBook))) (CE.var 0),CE.p1 (P1.isInst (Kd.exc (Cls.NoOrder))) (CE.var 0),CE.p1 (P1.isInst (Kd.exc (Cls.SameOrder))) (CE.var 0)])),CS.asg 1 (CE.p2 P2.add (CE.var 1) (CE.list [CE.p1 (P1.isInst (Kd.exc (Cls.NoLine))) (CE.var 0),CE.p1 (P1.isInst (Kd.exc (Cls.TooMuch))) (CE.var 0),CE.p1 (P1.isInst (Kd.exc (Cls.NothingDone))) (CE.var 0)])),CS.ret (CE.and (CE.p1 (P1.isInst (Kd.exc (Cls.ValueError))) (CE.var 0)) (CE.p2 P2.eq (CE.sm P2.count (CE.var 1) (CE.lit (V.bool true))) (CE.lit (V.int 1))))] }
noncomputable def f08_114 : Fn := { params := 1, slots := 2, body := [CS.try TK.exp (CE.call 31 [CE.var 0]) [{ cls := Cls.FlowError, as := some 1, tk := TK.ret, e := CE.call 113 [CE.var 1] }],CS.ret (CE.lit (V.bool false))] }
noncomputable def zAw : Fn := { params := 1, slots := 6, body := [CS.asg 1 (CE.call 105 [CE.call 104 [CE.var 0]]),CS.asg 2 (CE.p2 P2.mod (CE.call 100 [CE.var 0,CE.lit (V.int 9)]) (CE.lit (V.int 8))),CS.ite (CE.p2 P2.gt (CE.var 2) (CE.lit (V.int 0))) [CS.asg 1 (CE.call 111 [CE.var 1,CE.call 100 [CE.var 0,CE.lit (V.int 10)]])] [],CS.ite (CE.p2 P2.eq (CE.var 2) (CE.lit (V.int 1))) [CS.asg 1 (CE.call 111 [CE.var 1,CE.call 100 [CE.var 0,CE.lit (V.int 11)]])] [],CS.ite (CE.or (CE.p2 P2.eq (CE.var 2) (CE.lit (V.int 2))) (CE.p2 P2.eq (CE.var 2) (CE.lit (V.int 3)))) [CS.asg 1 (CE.call 112 [CE.call 100 [CE.var 0,CE.lit (V.int 10)]])] [],CS.asg 3 (CE.call 108 [CE.var 1]),CS.asg 4 (CE.lit (V.bool false)),CS.asg 5 (CE.lit (V.none)),CS.try (TK.asg 5) (CE.call 31 [CE.var 1]) [{ cls := Cls.NoDeed, as := none, tk := TK.asg 4, e := CE.lit (V.bool true) }],CS.ite (CE.p1 P1.isNone (CE.var 3)) [CS.ret (CE.and (CE.var 4) (CE.call 114 [CE.var 1]))] [],CS.ret (CE.and (CE.p1 P1.not (CE.var 4)) (CE.call 110 [CE.var 5,CE.var 3]))] }
noncomputable def tabM08 : List (Nat × Fn) := []
noncomputable def tabF08 : List (Nat × Fn) := [(21, fB_21),(29, zFu),(30, zAv),(31, zAp),(100, zGf),(101, gWhole),(102, zEf),(103, f08_103),(104, zAZ),(105, zBQ),(106, zAx),(107, zAc),(108, zAQ),(109, zGe),(110, zEe),(111, zAh),(112, f08_112),(113, f08_113),(114, f08_114),(115, zAw)]
noncomputable def tab08 : List (Nat × Fn) := tabM08 ++ tabF08
noncomputable def T08 (n : Nat) : Option Fn := tab08.lookup n
end Mine
end

/-! # L08a -/
section
set_option autoImplicit false
namespace Mine
open PySem
section
variable {F : Calls} {σ : Sto} {α : Type} {elt : CE} {ρ : List V}
noncomputable def endsBy {β γ : Type} (σ : Sto) (g : β → γ) : Option β → R γ
  | some x => .ok (g x) σ
  | none => .exc .NoDeed σ
theorem zDm {it : Items} {l : List α} {φ : α → V} (f : α → Option V) (hg : Gives σ it (l.map φ)) (he : ∀ x ∈ l, evE F false elt (ρ ++ [φ x]) σ = endsBy σ id (f x)) :
    ∀ (m : List α) (j : Nat) (acc : List V), l.drop j = m → acc.length + m.length < LIM →
      foldIt it (fun x acc σ => (evC F false none (ρ ++ [x]) σ).calm.bind fun t σ => if t then (evE F false elt (ρ ++ [x]) σ).calmE.bind fun y σ => (if acc.length < LIM then .ok (acc ++ [y]) σ else .stuck) else .ok acc σ) (m.length + 1) j acc σ = endsBy σ (fun ys => acc ++ ys) (m.mapM f)
  | [], j, acc, hd, hl => by
    have hj : (l.map φ)[j]? = none := by
      rw [List.getElem?_map, ← Nat.add_zero j, ← List.getElem?_drop, hd]; rfl
    show foldIt it _ (0 + 1) j acc σ = _
    rw [zBi, hg.next, hj, List.mapM_nil]
    show R.ok acc σ = R.ok (acc ++ []) σ
    rw [List.append_nil]
  | x :: m, j, acc, hd, hl => by
    have hx : l[j]? = some x := by rw [← Nat.add_zero j, ← List.getElem?_drop, hd]; rfl
    have hj : (l.map φ)[j]? = some (φ x) := by rw [List.getElem?_map, hx]; rfl
    have hm : l.drop (j + 1) = m := by rw [← List.drop_drop, hd]; rfl
    have hacc : acc.length < LIM := Nat.lt_of_le_of_lt (Nat.le_add_right _ _) hl
    have hex := he x (List.mem_of_getElem? hx)
    show foldIt it _ ((m.length + 1) + 1) j acc σ = _
    rw [zBi, hg.next, hj, List.mapM_cons]
    show R.bind (R.bind (evE F false elt (ρ ++ [φ x]) σ) fun y σ => if acc.length < LIM then R.ok (acc ++ [y]) σ else .stuck) _ = _
    rw [hex]
    cases hf : f x with
    | none => rfl
    | some y =>
      show R.bind (if acc.length < LIM then R.ok (acc ++ [y]) σ else .stuck) _ = _
      rw [if_pos hacc, R.bind_ok, zDm f hg he m (j + 1) (acc ++ [y]) hm (by rw [List.length_append]; simp only [List.length_cons, List.length_nil] at hl ⊢; omega)]
      cases hmm : m.mapM f with
      | none => rfl
      | some ys => show R.ok (acc ++ [y] ++ ys) σ = R.ok (acc ++ (y :: ys)) σ; rw [List.append_assoc]; rfl
theorem zHS {k : SK} {src : List CE} {vs : List V} {it : Items} {l : List α} {φ : α → V} (f : α → Option V) (hsrc : evL F false src ρ σ = .ok vs σ) (hit : itemsBy σ k vs = some it) (hg : Gives σ it (l.map φ)) (hl : l.length < LIM) (he : ∀ x ∈ l, evE F false elt (ρ ++ [φ x]) σ = endsBy σ id (f x)) :
    evE F false (.comp elt k src none) ρ σ = endsBy σ V.lst (l.mapM f) := by
  rw [x_comp, if_neg (by decide), hsrc, R.bind_ok, hit, R.lift_some, R.bind_ok]
  unfold foldItems
  rw [hg.fuel, List.length_map, zDm f hg he l 0 [] rfl (by simpa using hl)]
  cases l.mapM f <;> rfl
theorem zDE {f : α → Option V} {u : V} : ∀ {l : List α} {ys : List V}, l.mapM f = some ys → l.map (fun x => (f x).getD u) = ys
  | [], ys, h => by rw [List.mapM_nil] at h; cases h; rfl
  | x :: l, ys, h => by
    rw [List.mapM_cons] at h
    cases hx : f x with
    | none => rw [hx] at h; cases h
    | some y =>
      rw [hx] at h
      cases hl : l.mapM f with
      | none => rw [hl] at h; cases h
      | some r => rw [hl] at h; cases h; rw [List.map_cons, hx, zDE hl]; rfl
theorem zDD {β : Type} {f : α → Option β} : ∀ {l : List α}, l.mapM f = none → ∃ x ∈ l, f x = none
  | [], h => by rw [List.mapM_nil] at h; cases h
  | x :: l, h => by
    rw [List.mapM_cons] at h
    cases hx : f x with
    | none => exact ⟨x, List.mem_cons_self, hx⟩
    | some y =>
      rw [hx] at h
      cases hl : l.mapM f with
      | none => obtain ⟨z, hz, e⟩ := zDD hl; exact ⟨z, List.mem_cons_of_mem _ hz, e⟩
      | some r => rw [hl] at h; cases h
theorem zAu {β : Type} {f : α → Option β} : ∀ {l : List α} {ys : List β}, l.mapM f = some ys → (∀ x ∈ l, ∃ y, f x = some y) ∧ ys.length = l.length
  | [], ys, h => by rw [List.mapM_nil] at h; cases h; exact ⟨fun x hx => (nomatch hx), rfl⟩
  | x :: l, ys, h => by
    rw [List.mapM_cons] at h
    cases hx : f x with
    | none => rw [hx] at h; cases h
    | some y =>
      rw [hx] at h
      cases hl : l.mapM f with
      | none => rw [hl] at h; cases h
      | some r =>
        rw [hl] at h; cases h
        obtain ⟨h1, h2⟩ := zAu hl
        exact ⟨fun z hz => (List.mem_cons.mp hz).elim (fun e => ⟨y, e ▸ hx⟩) (h1 z), congrArg Nat.succ h2⟩
end
noncomputable def okErr (ok : Nat → Bool) (c : Nat) : Option Cls := if ok c = true then none else some .NoItem
theorem ok_all {ok : Nat → Bool} {cs : List Nat} : cs.findSome? (okErr ok) = none ↔ cs.all ok = true := by
  rw [List.findSome?_eq_none_iff, List.all_eq_true]
  refine forall_congr' fun c => forall_congr' fun _ => ?_
  unfold okErr
  by_cases h : ok c = true
  · rw [if_pos h]; exact ⟨fun _ => h, fun _ => rfl⟩
  · rw [if_neg h]; exact ⟨fun q => (nomatch q), fun q => absurd q h⟩
section
variable {d : Nat} {q : Bool} {σ : Sto} {F Fq : Calls} {ρ : List V}
theorem zDl (a b : Str) : ev2 .eq σ (.str a) (.str b) = some (.bool (a == b)) := rfl
theorem ne_str (a b : Str) : ev2 .ne σ (.str a) (.str b) = some (.bool !(a == b)) := rfl
theorem zDf {s : Str} (hs : A7 s) {ok : Nat → Bool} {lit : Str} (hok : ∀ c, ev2 .notIn σ (.str (mkS [c])) (.str lit) = some (.bool !ok c)) {i : Nat} {src r : CE} {v : V} (hr : ∀ ρ, evE F false r ρ σ = .ok v σ) (hsrc : evE F false src ρ σ = .ok (.str s) σ) (hi : i < ρ.length) :
    ((codes s).all ok = false → exS F Fq false (.for i .val [src] [.ite (.p2 .notIn (.var i) (.lit (.str lit))) [.ret r] []]) ρ σ = .ok (.ret v) σ) ∧
    ((codes s).all ok = true → ∃ x, exS F Fq false (.for i .val [src] [.ite (.p2 .notIn (.var i) (.lit (.str lit))) [.ret r] []]) ρ σ = .ok (.next (ρ.set i x)) σ) := by
  obtain ⟨h1, h2⟩ := zFs (F := F) (Fq := Fq) (i := i) (k := .val) (src := [src]) (body := [.ite (.p2 .notIn (.var i) (.lit (.str lit))) [.ret r] []]) (ρ := ρ) (vs := [.str s]) (σ := σ) (it := .now (charsOf s)) (l := codes s) (φ := fun c => .str (mkS [c])) (okErr ok) (fun _ => .inr v) (fun ρ' => ∃ x, ρ' = ρ.set i x) (zAE hsrc rfl)
    (show itemsBy σ .val [.str s] = some (.now (charsOf s)) by show (if s.cps.all (· < 128) = true then some (Items.now (charsOf s)) else none) = _; rw [if_pos hs.all]) (.inl rfl) ⟨ρ[i], by rw [List.set_getElem_self]⟩
    fun c hc ρ' hI => by
      obtain ⟨y, rfl⟩ := hI
      rw [List.set_set]
      have rv : readVar (ρ.set i (.str (mkS [c]))) i = some (.str (mkS [c])) := by unfold readVar; rw [List.getElem?_set_self hi]
      have ec : evE F false (.p2 .notIn (.var i) (.lit (.str lit))) (ρ.set i (.str (mkS [c]))) σ = .ok (.bool !ok c) σ := e_p2 (by rw [x_var, rv]; rfl) rfl (hok c)
      unfold okErr
      by_cases hl : ok c = true
      · rw [if_pos hl]
        exact ⟨fun c' q => (nomatch q), fun _ => ⟨_, s_f (zAB (by rw [hl] at ec; exact ec)) rfl, _, rfl⟩⟩
      · rw [if_neg hl]
        exact ⟨fun c' q => s_t (zAB (by rw [Bool.eq_false_iff.mpr hl] at ec; exact ec)) (s_ret (hr _)), fun q => (nomatch q)⟩
  refine ⟨fun h => ?_, fun h => ?_⟩
  · cases hf : (codes s).findSome? (okErr ok) with
    | none => rw [ok_all.mp hf] at h; cases h
    | some c => exact h1 c hf
  · obtain ⟨ρ', e, x, rfl⟩ := h2 (ok_all.mpr h)
    exact ⟨x, e⟩
theorem e_all {s : Str} (hs : A7 s) (hl : s.length < LIM) {ok : Nat → Bool} {lit : Str} (hok : ∀ c, ev2 .isIn σ (.str (mkS [c])) (.str lit) = some (.bool (ok c))) {src : CE} {n : Nat} (hn : ρ.length = n) (hsrc : evE F false src ρ σ = .ok (.str s) σ) :
    evE F false (.p1 .all (.comp (.p2 .isIn (.var n) (.lit (.str lit))) .val [src] none)) ρ σ = .ok (.bool ((codes s).all ok)) σ := by
  have ec := zBD (F := F) (elt := .p2 .isIn (.var n) (.lit (.str lit))) (k := .val) (src := [src]) (cond := none) (ρ := ρ) (σ := σ) (l := codes s) (φ := fun c => .str (mkS [c])) (fun _ => true) (fun c => .bool (ok c))
    (zAE hsrc rfl) (show itemsBy σ .val [.str s] = some (.now (charsOf s)) by show (if s.cps.all (· < 128) = true then some (Items.now (charsOf s)) else none) = _; rw [if_pos hs.all]) (.inl rfl)
    (by show (codes s).length < LIM; exact hl) (fun _ _ => rfl) (fun c _ _ => e_p2 (by rw [x_var]; unfold readVar; rw [List.getElem?_append_right (by omega), hn, Nat.sub_self]; rfl) rfl (hok c))
  rw [zAo] at ec
  refine e_p1 ec ?_
  show ((bools? ((codes s).map fun c => V.bool (ok c))).map fun l => V.bool (l.all id)) = _
  rw [zDT, show (some ((codes s).map ok)).map (fun l => V.bool (l.all id)) = some (V.bool (((codes s).map ok).all id)) from rfl, List.all_map]
  rfl
theorem index0 {s : Str} (h : 1 ≤ s.length) : ∃ c cs, codes s = c :: cs ∧ ev2 .index σ (.str s) (.int 0) = some (.str (mkS [c])) := by
  have hl : (codes s).length = s.length := rfl
  cases hc : codes s with
  | nil => rw [hc] at hl; rw [← hl] at h; exact absurd h (by decide)
  | cons c cs =>
    refine ⟨c, cs, rfl, ?_⟩
    show ((normIndex s.length 0).bind fun k => (codes s)[k]?.map fun c => V.str (mkS [c])) = _
    rw [show (0 : Int) = ((0 : Nat) : Int) from rfl, zAm (Nat.lt_of_lt_of_le (by decide) h), hc]; rfl
theorem zHM {w : Str} (h : 1 ≤ w.length) {a : CE} (ha : evE F false a ρ σ = .ok (.str w) σ) :
    evE F false (.and (.p2 .eq (.p2 .index a (.lit (.int 0))) (.lit (.str { cps := #[48] }))) (.p2 .gt (.p1 .len a) (.lit (.int 1)))) ρ σ = .ok (.bool (nought w && decide (1 < w.length))) σ := by
  obtain ⟨c, cs, hc, hi⟩ := index0 (σ := σ) h
  have hn : nought w = (mkS [c] == ({ cps := #[48] } : Str)) := by unfold nought; rw [hc]
  rw [hn]
  refine e_and (e_p2 (e_p2 ha rfl hi) rfl (zDl _ _)) (e_p2 (e_p1 ha (zDM σ w)) rfl ?_)
  rw [ev2_gt]
  exact congrArg (fun b => some (V.bool b)) (decide_eq_decide.mpr (Int.ofNat_lt (n := 1) (m := w.length)))
theorem e_toInt {w : Str} (h : numOk w = true) {a : CE} (ha : evE F false a ρ σ = .ok (.str w) σ) : ∃ n : Int, numV w = some n ∧ evE F false (.p1 .toInt a) ρ σ = .ok (.int n) σ := by
  obtain ⟨n, hn⟩ := int_num h
  refine ⟨n, by unfold numV; rw [if_pos h]; exact hn, e_p1 ha ?_⟩
  have hl : w.length ≤ 640 := by
    unfold numOk at h
    simp only [Bool.and_eq_true, decide_eq_true_eq] at h
    exact Nat.le_trans h.1.2 (by decide)
  show (if w.length ≤ 640 then (PySem.intText? w).map V.int else none) = _
  rw [if_pos hl, hn]; rfl
theorem r_num {w : Str} (hw : A7 w) : callFn T08 (d + 1) false 29 [.str w] σ = endsBy σ V.int (numV w) := by
  have eb : evE (callFn T08 d false) false (.p1 .not (.chain (.lit (.int 1)) [.le, .le] [.p1 .len (.var 0), .lit (.int 30)])) [.str w] σ = .ok (.bool !(decide (1 ≤ w.length) && decide (w.length ≤ 30))) σ := by
    refine e_p1 (zFx (lo := (1 : Nat)) (x := (w.length : Int)) (hi := (30 : Nat)) rfl rfl rfl) ?_
    rw [zCF, zCF]; rfl
  by_cases hb : (decide (1 ≤ w.length) && decide (w.length ≤ 30)) = true
  · have hl : 1 ≤ w.length ∧ w.length ≤ 30 := by rw [Bool.and_eq_true, decide_eq_true_eq, decide_eq_true_eq] at hb; exact hb
    rw [hb] at eb
    have ea := e_all (F := callFn T08 d false) (σ := σ) (ρ := [.str w]) (n := 1) hw (Nat.lt_of_le_of_lt hl.2 (by decide)) (ok := figOk) (lit := figs) (fun c => rfl) (src := .var 0) rfl rfl
    have en := zHM (F := callFn T08 d false) (σ := σ) (ρ := [.str w]) hl.1 (a := .var 0) rfl
    by_cases ha : (codes w).all figOk = true
    · rw [ha] at ea
      by_cases hn : (nought w && decide (1 < w.length)) = true
      · rw [hn] at en
        have : numV w = none := by unfold numV; rw [if_neg]; unfold numOk; rw [hb, ha, hn]; decide
        rw [this]
        exact zAb (fn := zFu) rfl rfl (s_f (zAB (zAa eb rfl (e_p1 ea rfl))) (s_t (zAB en) rfl))
      · rw [Bool.eq_false_iff.mpr hn] at en
        have hk : numOk w = true := by unfold numOk; rw [hb, ha, Bool.eq_false_iff.mpr hn]; rfl
        obtain ⟨n, h1, h2⟩ := e_toInt (F := callFn T08 d false) (σ := σ) (ρ := [.str w]) hk (a := .var 0) rfl
        rw [h1]
        exact zAD (fn := zFu) rfl rfl (s_f (zAB (zAa eb rfl (e_p1 ea rfl))) (s_f (zAB en) (s_ret h2)))
    · rw [Bool.eq_false_iff.mpr ha] at ea
      have : numV w = none := by unfold numV; rw [if_neg]; unfold numOk; rw [Bool.eq_false_iff.mpr ha]; simp
      rw [this]
      exact zAb (fn := zFu) rfl rfl (s_t (zAB (zAa eb rfl (e_p1 ea rfl))) rfl)
  · rw [Bool.eq_false_iff.mpr hb] at eb
    have : numV w = none := by unfold numV; rw [if_neg]; unfold numOk; rw [Bool.eq_false_iff.mpr hb]; simp
    rw [this]
    exact zAb (fn := zFu) rfl rfl (s_t (zAB (zBv eb rfl)) rfl)
theorem r_numIn {w : Str} (hw : A7 w) : callFn T08 (d + 1) false 106 [.str w] σ = .ok (.int ((numV w).getD (-1))) σ := by
  have eb : evE (callFn T08 d false) false (.p1 .not (.chain (.lit (.int 0)) [.lt, .lt] [.p1 .len (.var 0), .lit (.int 31)])) [.str w, .undef] σ = .ok (.bool !(decide (1 ≤ w.length) && decide (w.length ≤ 30))) σ := by
    refine e_p1 (zHN (lo := 0) (x := (w.length : Int)) (hi := (30 : Nat) + 1) rfl rfl rfl) ?_
    rw [len_in]; rfl
  by_cases hb : (decide (1 ≤ w.length) && decide (w.length ≤ 30)) = true
  · have hl : 1 ≤ w.length ∧ w.length ≤ 30 := by rw [Bool.and_eq_true, decide_eq_true_eq, decide_eq_true_eq] at hb; exact hb
    rw [hb] at eb
    have en := zHM (F := callFn T08 d false) (σ := σ) (ρ := [.str w, .undef]) hl.1 (a := .var 0) rfl
    by_cases hn : (nought w && decide (1 < w.length)) = true
    · rw [hn] at en
      have : numV w = none := by unfold numV; rw [if_neg]; unfold numOk; rw [hn]; simp
      rw [this]
      exact zAD (fn := zAx) rfl rfl (s_t (zAB (zAa eb rfl en)) (s_ret rfl))
    · rw [Bool.eq_false_iff.mpr hn] at en
      obtain ⟨l1, l2⟩ := zDf (F := callFn T08 d false) (Fq := callFn T08 d true) (σ := σ) (ρ := [.str w, .undef]) hw (ok := figOk) (lit := figs) (fun c => rfl) (i := 1) (src := .var 0) (r := .p1 .neg (.lit (.int 1))) (v := .int (-1)) (fun _ => rfl) rfl (show 1 < 2 by decide)
      have pre : ∀ {r : R Fl}, exL (callFn T08 d false) (callFn T08 d true) false (zAx.body.drop 1) [.str w, .undef] σ = r → exL (callFn T08 d false) (callFn T08 d true) false zAx.body ([.str w] ++ List.replicate (zAx.slots - zAx.params) .undef) σ = r := fun kk => s_f (zAB (zAa eb rfl en)) kk
      by_cases ha : (codes w).all figOk = true
      · obtain ⟨x, e⟩ := l2 ha
        have hk : numOk w = true := by unfold numOk; rw [hb, ha, Bool.eq_false_iff.mpr hn]; rfl
        obtain ⟨n, h1, h2⟩ := e_toInt (F := callFn T08 d false) (σ := σ) (ρ := [.str w, x]) hk (a := .var 0) rfl
        rw [h1]
        exact zAD (fn := zAx) rfl rfl (pre (st_nx e (s_ret h2)))
      · have : numV w = none := by unfold numV; rw [if_neg]; unfold numOk; rw [Bool.eq_false_iff.mpr ha]; simp
        rw [this]
        refine zAD (fn := zAx) rfl rfl (pre ?_)
        show exL (callFn T08 d false) (callFn T08 d true) false (_ :: zAx.body.drop 2) [.str w, .undef] σ = _
        rw [zBA]
        exact congrArg (fun r => R.bind r (thenL (callFn T08 d false) (callFn T08 d true) false (zAx.body.drop 2))) (l1 (Bool.eq_false_iff.mpr ha))
  · rw [Bool.eq_false_iff.mpr hb] at eb
    have : numV w = none := by unfold numV; rw [if_neg]; unfold numOk; rw [Bool.eq_false_iff.mpr hb]; simp
    rw [this]
    exact zAD (fn := zAx) rfl rfl (s_t (zAB (zBv eb rfl)) (s_ret rfl))
end
end Mine
end

/-! # L08b -/
section
set_option autoImplicit false
namespace Mine
open PySem
section
variable {F : Calls} {q : Bool} {ρ : List V} {σ σ₁ σ' : Sto} {e a : CE} {es : List CE}
theorem zEi {c : Cls} (h : evE F q e ρ σ = .exc c σ') : evL F q (e :: es) ρ σ = .exc c σ' := by rw [zDZ, h]; rfl
theorem zBk {c : Cls} {v : V} (h : evE F q e ρ σ = .ok v σ₁) (hs : evL F q es ρ σ₁ = .exc c σ') : evL F q (e :: es) ρ σ = .exc c σ' := by rw [zDZ, h, R.bind_ok, hs]; rfl
theorem zHL {c : Cls} (h : evL F q es ρ σ = .exc c σ') : evE F q (.tup es) ρ σ = .exc c σ' := by rw [x_tup, h]; rfl
theorem zBj {x : Str} {c : Nat} {cs : List Nat} (hx : x.length ≤ 10000) (ha : evE F q a ρ σ = .ok (.str x) σ) : evE F q (.sm .split a (.lit (.str (mkS (c :: cs))))) ρ σ = .ok (.lst ((Txt.split x (mkS (c :: cs))).map V.str)) σ := by
  refine e_sm ha rfl rfl ?_
  show (if ((mkS (c :: cs)).length == 0 || decide (10000 < x.length)) = true then none else some (V.lst ((Txt.split x (mkS (c :: cs))).map V.str))) = _
  rw [if_neg]
  rw [zAG, decide_eq_false (Nat.not_lt.mpr hx)]
  simp
end
noncomputable def sp : Str := mkS [32]
noncomputable def comma : Str := mkS [44, 32]
noncomputable def lineW : List Str → Option V
  | [w0, w1, w2, w3] => if itemOk w0 = true then (numV w1).bind fun a => (numV w2).bind fun b => (numV w3).map fun c => .tup [.str w0, .int a, .int b, .int c] else none
  | _ => none
noncomputable def lineP (p : Str) : Option V := lineW (Txt.split p sp)
theorem zCA {ws : List Str} (h : ws.length ≠ 4) : lineW ws = none := by
  match ws with
  | [] => rfl
  | [_] => rfl
  | [_, _] => rfl
  | [_, _, _] => rfl
  | [_, _, _, _] => exact absurd rfl h
  | _ :: _ :: _ :: _ :: _ :: _ => rfl
theorem four {ws : List Str} (h : ws.length = 4) : ∃ w0 w1 w2 w3, ws = [w0, w1, w2, w3] := by
  match ws, h with
  | [w0, w1, w2, w3], _ => exact ⟨_, _, _, _, rfl⟩
theorem min_neg : ∀ (xs : List Int) (m : Int), (xs.foldl (fun m y => if y < m then y else m) m < 0) ↔ m < 0 ∨ ∃ x ∈ xs, x < 0
  | [], m => ⟨.inl, fun h => h.elim id fun ⟨x, hx, _⟩ => nomatch hx⟩
  | y :: xs, m => by
    rw [List.foldl_cons, min_neg xs]
    constructor
    · rintro (h | ⟨x, hx, h⟩)
      · split at h
        · exact .inr ⟨y, List.mem_cons_self, h⟩
        · exact .inl h
      · exact .inr ⟨x, List.mem_cons_of_mem _ hx, h⟩
    · rintro (h | ⟨x, hx, h⟩)
      · refine .inl ?_
        split
        · omega
        · exact h
      · rcases List.mem_cons.mp hx with rfl | hx
        · refine .inl ?_
          split
          · exact h
          · omega
        · exact .inr ⟨x, hx, h⟩
noncomputable def numD (w : Str) : Int := (numV w).getD (-1)
theorem zCt {w : Str} : numD w < 0 ↔ numV w = none := by
  unfold numD
  cases h : numV w with
  | none => exact ⟨fun _ => rfl, fun _ => by decide⟩
  | some n => exact ⟨fun q => absurd (numV_nat h) (Int.not_le.mpr q), fun q => nomatch q⟩
theorem ev_min {σ : Sto} {w : Str} {ws : List Str} : ∃ m : Int, ev1 .min σ (.lst ((w :: ws).map fun w => .int (numD w))) = some (.int m) ∧ (m < 0 ↔ (w :: ws).mapM numV = none) := by
  refine ⟨(ws.map numD).foldl (fun m y => if y < m then y else m) (numD w), ?_, ?_⟩
  · show ((ints? ((w :: ws).map fun w => V.int (numD w))).bind fun l => (minL l).map V.int) = _
    rw [show (w :: ws).map (fun w => V.int (numD w)) = iv ((w :: ws).map numD) by unfold iv; rw [List.map_map]; rfl, ints_iv]; rfl
  · rw [min_neg]
    constructor
    · intro h
      cases hm : (w :: ws).mapM numV with
      | none => rfl
      | some ys =>
        obtain ⟨h1, _⟩ := zAu hm
        rcases h with h | ⟨x, hx, h⟩
        · obtain ⟨y, hy⟩ := h1 w List.mem_cons_self
          rw [zCt.mp h] at hy; cases hy
        · obtain ⟨z, hz, rfl⟩ := List.mem_map.mp hx
          obtain ⟨y, hy⟩ := h1 z (List.mem_cons_of_mem _ hz)
          rw [zCt.mp h] at hy; cases hy
    · intro h
      obtain ⟨z, hz, hn⟩ := zDD h
      rcases List.mem_cons.mp hz with rfl | hz
      · exact .inl (zCt.mpr hn)
      · exact .inr ⟨_, List.mem_map_of_mem hz, zCt.mpr hn⟩
section
variable {d : Nat} {q : Bool} {σ : Sto}
theorem zHC {n m : Nat} : ev2 .ne σ (.int (n : Int)) (.int (m : Int)) = some (.bool !(n == m)) := by
  rw [ev2_ne]
  refine congrArg (fun b => some (V.bool b)) ?_
  show (!((n : Int) == (m : Int))) = !(n == m)
  refine congrArg (fun b => !b) ?_
  by_cases h : n = m
  · rw [h, beq_self_eq_true, beq_self_eq_true]
  · rw [beq_eq_false_iff_ne.mpr h, beq_eq_false_iff_ne.mpr fun e => h (Int.ofNat_inj.mp e)]
theorem r_line {p : Str} (hp : A7 p) (hl : p.length ≤ 10000) : callFn T08 (d + 2) false 30 [.str p] σ = endsBy σ id (lineP p) := by
  have es : evE (callFn T08 (d + 1) false) false (.sm .split (.var 0) (.lit (.str (mkS [32])))) [.str p, .undef] σ = .ok (.lst ((Txt.split p sp).map V.str)) σ := zBj hl rfl
  have hw : ∀ w ∈ Txt.split p sp, A7 w := fun w h => hp.part h
  unfold lineP
  generalize Txt.split p sp = ws at es hw
  have pre : ∀ {r : R Fl}, exL (callFn T08 (d + 1) false) (callFn T08 (d + 1) true) false (zAv.body.drop 1) [.str p, .lst (ws.map V.str)] σ = r → exL (callFn T08 (d + 1) false) (callFn T08 (d + 1) true) false zAv.body ([.str p] ++ List.replicate (zAv.slots - zAv.params) .undef) σ = r := fun kk => s_asg es kk
  have el : evE (callFn T08 (d + 1) false) false (.p2 .ne (.p1 .len (.var 1)) (.lit (.int 4))) [.str p, .lst (ws.map V.str)] σ = .ok (.bool !(ws.length == 4)) σ := e_p2 (e_p1 rfl (by rw [zAk, List.length_map])) rfl (zHC (m := 4))
  by_cases h4 : ws.length = 4
  · obtain ⟨w0, w1, w2, w3, rfl⟩ := four h4
    have ei : evE (callFn T08 (d + 1) false) false (.p1 .not (.call 21 [.p2 .index (.var 1) (.lit (.int 0))])) [.str p, .lst [.str w0, .str w1, .str w2, .str w3]] σ = .ok (.bool !itemOk w0) σ := e_p1 (zAJ rfl (b_itemF (T := T08) rfl (hw w0 List.mem_cons_self).all)) rfl
    show _ = endsBy σ id (if itemOk w0 = true then _ else none)
    by_cases hi : itemOk w0 = true
    · rw [if_pos hi]
      rw [hi] at ei
      have n1 := r_num (d := d) (σ := σ) (hw w1 (by simp))
      have n2 := r_num (d := d) (σ := σ) (hw w2 (by simp))
      have n3 := r_num (d := d) (σ := σ) (hw w3 (by simp))
      have pre2 : ∀ {r : R Fl}, exL (callFn T08 (d + 1) false) (callFn T08 (d + 1) true) false (zAv.body.drop 2) [.str p, .lst [.str w0, .str w1, .str w2, .str w3]] σ = r → exL (callFn T08 (d + 1) false) (callFn T08 (d + 1) true) false zAv.body ([.str p] ++ List.replicate (zAv.slots - zAv.params) .undef) σ = r := fun kk => pre (s_f (zAB (zAa el rfl ei)) kk)
      cases h1 : numV w1 with
      | none => rw [h1] at n1; exact zAb (fn := zAv) rfl rfl (pre2 (zEy (zHL (zBk rfl (zEi (zAJ rfl n1))))))
      | some x1 =>
        rw [h1] at n1
        cases h2 : numV w2 with
        | none => rw [h2] at n2; exact zAb (fn := zAv) rfl rfl (pre2 (zEy (zHL (zBk rfl (zBk (zAJ rfl n1) (zEi (zAJ rfl n2)))))))
        | some x2 =>
          rw [h2] at n2
          cases h3 : numV w3 with
          | none => rw [h3] at n3; exact zAb (fn := zAv) rfl rfl (pre2 (zEy (zHL (zBk rfl (zBk (zAJ rfl n1) (zBk (zAJ rfl n2) (zEi (zAJ rfl n3))))))))
          | some x3 => rw [h3] at n3; exact zAD (fn := zAv) rfl rfl (pre2 (s_ret (e_tup (zAE rfl (zAE (zAJ rfl n1) (zAE (zAJ rfl n2) (zAE (zAJ rfl n3) rfl)))))))
    · rw [if_neg hi]
      rw [Bool.eq_false_iff.mpr hi] at ei
      exact zAb (fn := zAv) rfl rfl (pre (s_t (zAB (zAa el rfl ei)) rfl))
  · rw [zCA h4]
    rw [beq_eq_false_iff_ne.mpr h4] at el
    exact zAb (fn := zAv) rfl rfl (pre (s_t (zAB (zBv el rfl)) rfl))
theorem r_lineIn {p : Str} (hp : A7 p) (hl : p.length ≤ 10000) : callFn T08 (d + 2) false 107 [.str p] σ = .ok ((lineP p).getD .none) σ := by
  have es : evE (callFn T08 (d + 1) false) false (.sm .split (.var 0) (.lit (.str (mkS [32])))) [.str p, .undef, .undef, .undef] σ = .ok (.lst ((Txt.split p sp).map V.str)) σ := zBj hl rfl
  have hw : ∀ w ∈ Txt.split p sp, A7 w := fun w h => hp.part h
  unfold lineP
  generalize Txt.split p sp = ws at es hw
  have pre : ∀ {r : R Fl}, exL (callFn T08 (d + 1) false) (callFn T08 (d + 1) true) false (zAc.body.drop 1) [.str p, .lst (ws.map V.str), .undef, .undef] σ = r → exL (callFn T08 (d + 1) false) (callFn T08 (d + 1) true) false zAc.body ([.str p] ++ List.replicate (zAc.slots - zAc.params) .undef) σ = r := fun kk => s_asg es kk
  have el : evE (callFn T08 (d + 1) false) false (.p2 .ne (.p1 .len (.var 1)) (.lit (.int 4))) [.str p, .lst (ws.map V.str), .undef, .undef] σ = .ok (.bool !(ws.length == 4)) σ := e_p2 (e_p1 rfl (by rw [zAk, List.length_map])) rfl (zHC (m := 4))
  by_cases h4 : ws.length = 4
  · obtain ⟨w0, w1, w2, w3, rfl⟩ := four h4
    have ei : evE (callFn T08 (d + 1) false) false (.p1 .not (.chain (.lit (.int 0)) [.lt, .lt] [.p1 .len (.p2 .index (.var 1) (.lit (.int 0))), .lit (.int 13)])) [.str p, .lst [.str w0, .str w1, .str w2, .str w3], .undef, .undef] σ = .ok (.bool !(decide (1 ≤ w0.length) && decide (w0.length ≤ 12))) σ := by
      refine e_p1 (zHN (lo := 0) (x := (w0.length : Int)) (hi := (12 : Nat) + 1) rfl rfl rfl) ?_
      rw [len_in]; rfl
    show _ = R.ok ((if itemOk w0 = true then (numV w1).bind fun a => (numV w2).bind fun b => (numV w3).map fun c => V.tup [.str w0, .int a, .int b, .int c] else none).getD V.none) σ
    by_cases hb : (decide (1 ≤ w0.length) && decide (w0.length ≤ 12)) = true
    · rw [hb] at ei
      obtain ⟨l1, l2⟩ := zDf (F := callFn T08 (d + 1) false) (Fq := callFn T08 (d + 1) true) (σ := σ) (ρ := [.str p, .lst [.str w0, .str w1, .str w2, .str w3], .undef, .undef]) (hw w0 List.mem_cons_self) (ok := letterOk) (lit := letters) (fun c => rfl) (i := 2) (src := .p2 .index (.var 1) (.lit (.int 0))) (r := .lit .none) (v := .none) (fun _ => rfl) rfl (show 2 < 4 by decide)
      by_cases ha : (codes w0).all letterOk = true
      · have hi : itemOk w0 = true := by unfold itemOk; rw [hb, ha]; rfl
        rw [if_pos hi]
        obtain ⟨x, e⟩ := l2 ha
        have ec := zBD (F := callFn T08 (d + 1) false) (elt := .call 106 [.var 4]) (k := .val) (src := [.slice (.var 1) (some (.lit (.int 1))) none]) (cond := none) (ρ := [.str p, .lst [.str w0, .str w1, .str w2, .str w3], x, .undef]) (σ := σ) (l := [w1, w2, w3]) (φ := V.str) (fun _ => true) (fun w => .int (numD w)) (zAE rfl rfl) rfl (.inl rfl) (show 3 < LIM by decide) (fun _ _ => rfl) (fun w hm _ => zAJ rfl (r_numIn (hw w (List.mem_cons_of_mem _ hm))))
        rw [zAo] at ec
        obtain ⟨m, e1, e2⟩ := ev_min (σ := σ) (w := w1) (ws := [w2, w3])
        have em : evE (callFn T08 (d + 1) false) false (.p2 .lt (.p1 .min (.var 3)) (.lit (.int 0))) [.str p, .lst [.str w0, .str w1, .str w2, .str w3], x, .lst ([w1, w2, w3].map fun w => .int (numD w))] σ = .ok (.bool (decide (m < 0))) σ := e_p2 (e_p1 rfl e1) rfl rfl
        have pre2 : ∀ {r : R Fl}, exL (callFn T08 (d + 1) false) (callFn T08 (d + 1) true) false (zAc.body.drop 4) [.str p, .lst [.str w0, .str w1, .str w2, .str w3], x, .lst ([w1, w2, w3].map fun w => .int (numD w))] σ = r → exL (callFn T08 (d + 1) false) (callFn T08 (d + 1) true) false zAc.body ([.str p] ++ List.replicate (zAc.slots - zAc.params) .undef) σ = r := fun kk => pre (s_f (zAB (zAa el rfl ei)) (st_nx e (s_asg ec kk)))
        cases hm : [w1, w2, w3].mapM numV with
        | none =>
          rw [decide_eq_true (e2.mpr hm)] at em
          have : ((numV w1).bind fun a => (numV w2).bind fun b => (numV w3).map fun c => V.tup [.str w0, .int a, .int b, .int c]) = none := by
            rw [List.mapM_cons, List.mapM_cons, List.mapM_cons, List.mapM_nil] at hm
            cases h1 : numV w1 with
            | none => rfl
            | some x1 =>
              cases h2 : numV w2 with
              | none => rfl
              | some x2 =>
                cases h3 : numV w3 with
                | none => rfl
                | some x3 => rw [h1, h2, h3] at hm; cases hm
          rw [this]
          exact zAD (fn := zAc) rfl rfl (pre2 (s_t (zAB em) (s_ret rfl)))
        | some ns =>
          rw [decide_eq_false fun q => by rw [e2.mp q] at hm; cases hm] at em
          obtain ⟨h1, _⟩ := zAu hm
          obtain ⟨x1, q1⟩ := h1 w1 (by simp)
          obtain ⟨x2, q2⟩ := h1 w2 (by simp)
          obtain ⟨x3, q3⟩ := h1 w3 (by simp)
          rw [q1, q2, q3]
          have d1 : numD w1 = x1 := by unfold numD; rw [q1]; rfl
          have d2 : numD w2 = x2 := by unfold numD; rw [q2]; rfl
          have d3 : numD w3 = x3 := by unfold numD; rw [q3]; rfl
          refine zAD (fn := zAc) rfl rfl (pre2 (s_f (zAB em) (s_ret (e_tup (zAE rfl (zAE (e_p2 rfl rfl ?_) (zAE (e_p2 rfl rfl ?_) (zAE (e_p2 rfl rfl ?_) rfl))))))))
          · rw [← d1]; rfl
          · rw [← d2]; rfl
          · rw [← d3]; rfl
      · have hi : itemOk w0 = false := by unfold itemOk; rw [Bool.eq_false_iff.mpr ha, Bool.and_false]
        rw [hi, if_neg (by decide)]
        refine zAD (fn := zAc) rfl rfl (pre (s_f (zAB (zAa el rfl ei)) ?_))
        show exL (callFn T08 (d + 1) false) (callFn T08 (d + 1) true) false (_ :: zAc.body.drop 3) [.str p, .lst [.str w0, .str w1, .str w2, .str w3], .undef, .undef] σ = _
        rw [zBA]
        exact congrArg (fun r => R.bind r (thenL (callFn T08 (d + 1) false) (callFn T08 (d + 1) true) false (zAc.body.drop 3))) (l1 (Bool.eq_false_iff.mpr ha))
    · rw [Bool.eq_false_iff.mpr hb] at ei
      have hi : itemOk w0 = false := by unfold itemOk; rw [Bool.eq_false_iff.mpr hb, Bool.false_and]
      rw [hi, if_neg (by decide)]
      exact zAD (fn := zAc) rfl rfl (pre (s_t (zAB (zAa el rfl ei)) (s_ret rfl)))
  · rw [zCA h4]
    rw [beq_eq_false_iff_ne.mpr h4] at el
    exact zAD (fn := zAc) rfl rfl (pre (s_t (zAB (zBv el rfl)) (s_ret rfl)))
end
end Mine
end

/-! # L08c -/
section
set_option autoImplicit false
namespace Mine
open PySem
noncomputable def w7 : List Str := [sDel, sBack, sSwap, sCred, sMove, sPay, sRef]
noncomputable def w7V : V := .lst [.str sDel, .str sBack, .str sSwap, .str sCred, .str sMove, .str sPay, .str sRef]
noncomputable def prV : V := .lst [.str sPay, .str sRef]
inductive Seven (σ : Sto) (w : Str) (k : Nat) : Prop
  | mk (h1 : ev2 .notIn σ (.str w) .parts = some (.bool false)) (h2 : ev2 .index σ .parts (.str w) = some (.int (k : Int))) (h3 : ∃ b, ev2 .isIn σ (.str w) prV = some (.bool b) ∧ ((4 : Int) - (if b = true then 1 else 0) = (k : Int))) (h4 : ev2 .notIn σ (.str w) w7V = some (.bool false)) (h5 : (w == sOrd) = false) (h6 : k = 3 ∨ k = 4)
theorem seven_or {σ : Sto} (w : Str) : w = sOrd ∨ (∃ k, Seven σ w k) ∨ (ev2 .notIn σ (.str w) .parts = some (.bool true) ∧ ev2 .notIn σ (.str w) w7V = some (.bool true)) := by
  by_cases h0 : w = sOrd
  · exact .inl h0
  refine .inr ?_
  by_cases h1 : w = sDel
  · subst h1; exact .inl ⟨4, rfl, rfl, ⟨false, rfl, rfl⟩, rfl, rfl, .inr rfl⟩
  by_cases h2 : w = sBack
  · subst h2; exact .inl ⟨4, rfl, rfl, ⟨false, rfl, rfl⟩, rfl, rfl, .inr rfl⟩
  by_cases h3 : w = sSwap
  · subst h3; exact .inl ⟨4, rfl, rfl, ⟨false, rfl, rfl⟩, rfl, rfl, .inr rfl⟩
  by_cases h4 : w = sCred
  · subst h4; exact .inl ⟨4, rfl, rfl, ⟨false, rfl, rfl⟩, rfl, rfl, .inr rfl⟩
  by_cases h5 : w = sMove
  · subst h5; exact .inl ⟨4, rfl, rfl, ⟨false, rfl, rfl⟩, rfl, rfl, .inr rfl⟩
  by_cases h6 : w = sPay
  · subst h6; exact .inl ⟨3, rfl, rfl, ⟨true, rfl, rfl⟩, rfl, rfl, .inl rfl⟩
  by_cases h7 : w = sRef
  · subst h7; exact .inl ⟨3, rfl, rfl, ⟨true, rfl, rfl⟩, rfl, rfl, .inl rfl⟩
  refine .inr ⟨?_, ?_⟩
  · show some (V.bool !(partsTable.any fun p => p.1 == w)) = _
    have : (partsTable.any fun p => p.1 == w) = false := by
      rw [List.any_eq_false]
      intro p hp
      have hp : p ∈ [(sOrd, (2 : Int)), (sDel, 4), (sBack, 4), (sSwap, 4), (sCred, 4), (sPay, 3), (sRef, 3), (sMove, 4)] := hp
      simp only [List.mem_cons, List.not_mem_nil, or_false] at hp
      rw [beq_iff_eq]
      rcases hp with rfl | rfl | rfl | rfl | rfl | rfl | rfl | rfl
      · exact fun e => h0 e.symm
      · exact fun e => h1 e.symm
      · exact fun e => h2 e.symm
      · exact fun e => h3 e.symm
      · exact fun e => h4 e.symm
      · exact fun e => h6 e.symm
      · exact fun e => h7 e.symm
      · exact fun e => h5 e.symm
    rw [this]; rfl
  · show some (V.bool !(w7.contains w)) = _
    have : w7.contains w = false := by
      rw [← Bool.not_eq_true, List.contains_iff_mem]
      intro hm
      simp only [w7, List.mem_cons, List.not_mem_nil, or_false] at hm
      rcases hm with h | h | h | h | h | h | h
      · exact h1 h
      · exact h2 h
      · exact h3 h
      · exact h4 h
      · exact h5 h
      · exact h6 h
      · exact h7 h
    rw [this]; rfl
noncomputable def wordsO (w : Str) (ws : List Str) : Option V := match ev2 .index [] .parts (.str w) with
  | some (.int k) => if (ws.length : Int) + 1 = k then (ws.mapM numV).map fun ns => .tup (.str w :: iv ns) else none
  | _ => none
theorem wordsO_eq {σ : Sto} {w : Str} {ws : List Str} {k : Nat} (h2 : ev2 .index σ .parts (.str w) = some (.int (k : Int))) (h6 : k = 3 ∨ k = 4) (hn : ws.length = k - 1) : wordsO w ws = (ws.mapM numV).map fun ns => .tup (.str w :: iv ns) := by
  have h : ev2 .index [] .parts (.str w) = some (.int (k : Int)) := h2
  unfold wordsO
  rw [h]
  exact if_pos (by omega)
theorem wordsO_ne {σ : Sto} {w : Str} {ws : List Str} {k : Nat} (h2 : ev2 .index σ .parts (.str w) = some (.int (k : Int))) (h6 : k = 3 ∨ k = 4) (hn : ws.length ≠ k - 1) : wordsO w ws = none := by
  have h : ev2 .index [] .parts (.str w) = some (.int (k : Int)) := h2
  unfold wordsO
  rw [h]
  exact if_neg (by omega)
theorem wordsO_no {σ : Sto} {w : Str} {ws : List Str} (h1 : ev2 .notIn σ (.str w) .parts = some (.bool true)) : wordsO w ws = none := by
  have h : some (V.bool !(partsTable.any fun p => p.1 == w)) = some (V.bool true) := h1
  have ha : (partsTable.any fun p => p.1 == w) = false := by
    cases hb : (partsTable.any fun p => p.1 == w) with
    | false => rfl
    | true => rw [hb] at h; cases h
  have : ev2 .index [] .parts (.str w) = none := by
    show (partsTable.find? fun p => p.1 == w).map _ = _
    rw [List.find?_eq_none.mpr (List.any_eq_false.mp ha)]; rfl
  unfold wordsO
  rw [this]
inductive DeedV : V → Prop
  | words (w : Str) (ns : List Int) (h : (w == sOrd) = false) : DeedV (.tup (.str w :: iv ns))
  | order (vs : List V) (h : ∀ v ∈ vs, ∃ (s : Str) (a b c : Int), v = .tup [.str s, .int a, .int b, .int c]) (hl : vs.length < LIM) : DeedV (.tup [.str sOrd, .lst vs])
theorem zDj {p : Str} {v : V} (h : lineP p = some v) : ∃ (s : Str) (a b c : Int), v = .tup [.str s, .int a, .int b, .int c] := by
  unfold lineP at h
  generalize Txt.split p sp = ws at h
  by_cases h4 : ws.length = 4
  · obtain ⟨w0, w1, w2, w3, rfl⟩ := four h4
    have h : (if itemOk w0 = true then (numV w1).bind fun a => (numV w2).bind fun b => (numV w3).map fun c => V.tup [.str w0, .int a, .int b, .int c] else none) = some v := h
    split at h
    · obtain ⟨a, _, h⟩ := Option.bind_eq_some_iff.mp h
      obtain ⟨b, _, h⟩ := Option.bind_eq_some_iff.mp h
      obtain ⟨c, _, h⟩ := Option.map_eq_some_iff.mp h
      exact ⟨_, _, _, _, h.symm⟩
    · cases h
  · rw [zCA h4] at h; cases h
theorem zFl {α β : Type} {f : α → Option β} : ∀ {l : List α} {ys : List β}, l.mapM f = some ys → ∀ y ∈ ys, ∃ x ∈ l, f x = some y
  | [], ys, h, y, hy => by rw [List.mapM_nil] at h; cases h; exact nomatch hy
  | x :: l, ys, h, y, hy => by
    rw [List.mapM_cons] at h
    cases hx : f x with
    | none => rw [hx] at h; cases h
    | some z =>
      rw [hx] at h
      cases hl : l.mapM f with
      | none => rw [hl] at h; cases h
      | some r =>
        rw [hl] at h; cases h
        rcases List.mem_cons.mp hy with rfl | hy
        · exact ⟨x, List.mem_cons_self, hx⟩
        · obtain ⟨w, hw, e⟩ := zFl hl y hy
          exact ⟨w, List.mem_cons_of_mem _ hw, e⟩
theorem zEY : ∀ {ws : List Str}, ws.mapM (fun w => (numV w).map V.int) = (ws.mapM numV).map iv
  | [] => rfl
  | w :: ws => by
    rw [List.mapM_cons, List.mapM_cons, zEY (ws := ws)]
    cases numV w with
    | none => rfl
    | some n => cases ws.mapM numV <;> rfl
section
variable {d : Nat} {q : Bool} {σ : Sto}
inductive Both (t : Str) : Prop
  | mk (o : Option V) (h1 : ∀ (d : Nat) (σ : Sto), callFn T08 (d + 3) false 31 [.str t] σ = endsBy σ id o) (h2 : ∀ (d : Nat) (σ : Sto), callFn T08 (d + 3) false 108 [.str t] σ = .ok (o.getD .none) σ) (h3 : ∀ v, o = some v → DeedV v)
theorem zDu {t a b c : Str} {F : Calls} {ρ : List V} (hl : t.length ≤ 10000) (h : Txt.partition t (mkS [32]) = (a, b, c)) (hv : evE F false (.var 0) ρ σ = .ok (.str t) σ) : evE F false (.sm .partition (.var 0) (.lit (.str (mkS [32])))) ρ σ = .ok (.tup [.str a, .str b, .str c]) σ := by
  refine e_sm hv rfl rfl ?_
  show (if ((mkS [32]).length == 0 || decide (10000 < t.length)) = true then none else some (V.tup [.str (Txt.partition t (mkS [32])).1, .str (Txt.partition t (mkS [32])).2.1, .str (Txt.partition t (mkS [32])).2.2])) = _
  rw [if_neg (by rw [decide_eq_false (Nat.not_lt.mpr hl)]; decide), h]
theorem s_un3 {F Fq : Calls} {ρ : List V} {i j k : Nat} {e : CE} {x y z : V} {rest : List CS} {r : R Fl} (h : evE F false e ρ σ = .ok (.tup [x, y, z]) σ) (kk : exL F Fq false rest (((ρ.set i x).set j y).set k z) σ = r) : exL F Fq false (.unpack3 i j k e :: rest) ρ σ = r := by
  rw [zBA, zEn, if_neg (by decide), h]; exact kk
theorem both_none {l : List Nat} (hl : l.length ≤ 9000) (h : 32 ∉ l) : Both (mkS l) := by
  have hlen : (mkS l).length ≤ 10000 := by rw [zAG]; omega
  have hs : Txt.startswith (mkS l) (mkS [111, 114, 100, 101, 114, 32]) = false := by
    rw [zEv, Bool.and_eq_false_iff]
    refine .inr (beq_eq_false_iff_ne.mpr fun e => h ?_)
    have : 32 ∈ l.take 6 := by rw [show [111, 114, 100, 101, 114, 32].length = 6 from rfl] at e; rw [e]; decide
    exact List.mem_of_mem_take this
  have hsp : Txt.split (mkS l) (mkS [32]) = [mkS l] := by rw [zBm (by decide), zDP 32 l h]; rfl
  refine ⟨none, fun d σ => ?_, fun d σ => ?_, fun v hv => nomatch hv⟩
  · refine zAb (fn := zAp) rfl rfl (s_un3 (zDu hlen (part_none h) rfl) ?_)
    show exL (callFn T08 (d + 2) false) (callFn T08 (d + 2) true) false (zAp.body.drop 1) [.str (mkS l), .str (mkS l), .str Str.empty, .str Str.empty, .undef] σ = _
    have eb : evE (callFn T08 (d + 2) false) false (.p2 .eq (.var 2) (.lit (.str { cps := #[] }))) [.str (mkS l), .str (mkS l), .str Str.empty, .str Str.empty, .undef] σ = .ok (.bool true) σ := rfl
    have ei : evE (callFn T08 (d + 2) false) false (.p2 .notIn (.var 1) (.lit .parts)) [.str (mkS l), .str (mkS l), .str Str.empty, .str Str.empty, .undef] σ = .ok (.bool !(partsTable.any fun p => p.1 == mkS l)) σ := rfl
    cases hp : (partsTable.any fun p => p.1 == mkS l) with
    | false => rw [hp] at ei; exact s_t (zAB (zBv ei rfl)) rfl
    | true => rw [hp] at ei; exact s_t (zAB (zAa ei rfl eb)) rfl
  · have es : evE (callFn T08 (d + 2) false) false (.sm .split (.var 0) (.lit (.str (mkS [32])))) [.str (mkS l), .undef, .undef, .undef, .undef, .undef] σ = .ok (.lst [.str (mkS l)]) σ := by rw [zBj hlen rfl, hsp]; rfl
    have hst : evE (callFn T08 (d + 2) false) false (.sm .startswith (.var 0) (.lit (.str (mkS [111, 114, 100, 101, 114, 32])))) [.str (mkS l), .undef, .undef, .undef, .undef, .undef] σ = .ok (.bool false) σ := e_sm rfl rfl rfl (by show some (V.bool (Txt.startswith (mkS l) (mkS [111, 114, 100, 101, 114, 32]))) = _; rw [hs])
    refine zAD (fn := zAQ) rfl rfl (s_f (zAB hst) (s_asg es ?_))
    show exL (callFn T08 (d + 2) false) (callFn T08 (d + 2) true) false (zAQ.body.drop 2) [.str (mkS l), .undef, .undef, .lst [.str (mkS l)], .undef, .undef] σ = _
    have ip : ∃ b, ev2 .isIn σ (.str (mkS l)) prV = some (.bool b) := ⟨_, rfl⟩
    obtain ⟨b, ip⟩ := ip
    have i7 : ∃ b, ev2 .notIn σ (.str (mkS l)) w7V = some (.bool b) := ⟨_, rfl⟩
    obtain ⟨b7, i7⟩ := i7
    refine s_asg (v := .int (4 - (if b = true then 1 else 0))) (e_p2 rfl (e_p1 (e_p2 (y := prV) rfl rfl ip) rfl) rfl) ?_
    have e7 : evE (callFn T08 (d + 2) false) false (.p2 .notIn (.p2 .index (.var 3) (.lit (.int 0))) (.list [.lit (.str sDel), .lit (.str sBack), .lit (.str sSwap), .lit (.str sCred), .lit (.str sMove), .lit (.str sPay), .lit (.str sRef)])) [.str (mkS l), .undef, .undef, .lst [.str (mkS l)], .int (4 - (if b = true then 1 else 0)), .undef] σ = .ok (.bool b7) σ := e_p2 rfl (y := w7V) rfl i7
    cases b7 with
    | true => exact s_t (zAB (zBv e7 rfl)) (s_ret rfl)
    | false => exact s_t (zAB (zAa e7 rfl (e_p2 (z := .bool true) rfl rfl (by cases b <;> rfl)))) (s_ret rfl)
theorem zDe {p r : List Nat} (hp : 32 ∉ p) : Txt.startswith (mkS (p ++ 32 :: r)) (mkS [111, 114, 100, 101, 114, 32]) = (mkS p == sOrd) := by
  rw [zEv]
  by_cases h : p = [111, 114, 100, 101, 114]
  · subst h
    have e1 : (mkS [111, 114, 100, 101, 114] == sOrd) = true := rfl
    rw [e1, Bool.and_eq_true]
    exact ⟨decide_eq_true (by simp), by simp⟩
  · have e1 : (mkS p == sOrd) = false := beq_eq_false_iff_ne.mpr fun e => h (by rw [← zGB p, e]; rfl)
    rw [e1, Bool.and_eq_false_iff]
    refine .inr (beq_eq_false_iff_ne.mpr fun e => ?_)
    have e : (p ++ 32 :: r).take 6 = [111, 114, 100, 101, 114] ++ [32] := e
    have h2 : p ++ 32 :: r = [111, 114, 100, 101, 114] ++ 32 :: (p ++ 32 :: r).drop 6 := by
      have := (List.take_append_drop 6 (p ++ 32 :: r)).symm
      rw [e, List.append_assoc] at this
      exact this
    have c1 := zBZ 32 p r hp
    rw [h2, zBZ 32 [111, 114, 100, 101, 114] _ (by decide)] at c1
    injection c1 with c1 _
    exact h c1.symm
end
end Mine
end

/-! # L08d -/
section
set_option autoImplicit false
namespace Mine
open PySem
section
variable {d : Nat} {q : Bool} {σ : Sto}
theorem both_order {r : List Nat} (hl : r.length ≤ 8900) (hr : A7 (mkS r)) : Both (mkS ([111, 114, 100, 101, 114] ++ 32 :: r)) := by
  have hlen : (mkS ([111, 114, 100, 101, 114] ++ 32 :: r)).length ≤ 10000 := by rw [zAG, List.length_append, List.length_cons]; show 5 + (r.length + 1) ≤ _; omega
  have hrl : (mkS r).length ≤ 10000 := by rw [zAG]; omega
  have hpart : Txt.partition (mkS ([111, 114, 100, 101, 114] ++ 32 :: r)) (mkS [32]) = (sOrd, mkS [32], mkS r) := zDg (by decide)
  have hps : ∀ p ∈ Txt.split (mkS r) comma, A7 p ∧ p.length ≤ 10000 := fun p hp => ⟨hr.part hp, Nat.le_trans (PyProof.Rows.part_short hp) hrl⟩
  have hcnt : (Txt.split (mkS r) comma).length < LIM := by
    refine Nat.lt_of_le_of_lt zEw ?_
    rw [zAG]
    exact Nat.lt_of_le_of_lt (Nat.add_le_add_right hl 2) (by decide)
  have hst : Txt.startswith (mkS ([111, 114, 100, 101, 114] ++ 32 :: r)) (mkS [111, 114, 100, 101, 114, 32]) = true := by rw [zDe (by decide)]; rfl
  have hsl : Txt.slice (mkS ([111, 114, 100, 101, 114] ++ 32 :: r)) (some ((6 : Nat) : Int)) none = mkS r := by
    rw [zDt (by decide) (by rw [List.length_append, List.length_cons]; show 6 ≤ 5 + (r.length + 1); omega)]; rfl
  have hA : A7 (mkS ([111, 114, 100, 101, 114] ++ 32 :: r)) := fun c hc => by
    have hc : c ∈ [111, 114, 100, 101, 114] ++ 32 :: r := hc
    rcases List.mem_append.mp hc with h | h
    · have : ∀ c ∈ [111, 114, 100, 101, 114], c < 128 := by decide
      exact this c h
    · rcases List.mem_cons.mp h with rfl | h
      · decide
      · exact hr c h
  generalize mkS ([111, 114, 100, 101, 114] ++ 32 :: r) = t at hlen hpart hst hsl hA
  generalize hws : Txt.split (mkS r) comma = ps at hps hcnt
  refine ⟨(ps.mapM lineP).map fun vs => .tup [.str sOrd, .lst vs], fun d σ => ?_, fun d σ => ?_, fun v hv => ?_⟩
  · have es : evE (callFn T08 (d + 2) false) false (.sm .split (.var 3) (.lit (.str (mkS [44, 32])))) [.str t, .str sOrd, .str (mkS [32]), .str (mkS r), .undef] σ = .ok (.lst (ps.map V.str)) σ := by rw [← hws]; exact zBj hrl rfl
    have ec := zHS (F := callFn T08 (d + 2) false) (σ := σ) (elt := .call 30 [.var 5]) (ρ := [.str t, .str sOrd, .str (mkS [32]), .str (mkS r), .undef]) (k := .val) (l := ps) (φ := V.str) (vs := [.lst (ps.map V.str)]) (src := [.sm .split (.var 3) (.lit (.str (mkS [44, 32])))]) lineP (zAE es rfl) rfl (.inl rfl) hcnt (fun p hp => zAJ rfl (r_line (hps p hp).1 (hps p hp).2))
    have pre : ∀ {r' : R Fl}, exL (callFn T08 (d + 2) false) (callFn T08 (d + 2) true) false (.ret (.tup [.var 1, .comp (.call 30 [.var 5]) .val [.sm .split (.var 3) (.lit (.str (mkS [44, 32])))] none]) :: zAp.body.drop 3) [.str t, .str sOrd, .str (mkS [32]), .str (mkS r), .undef] σ = r' → exL (callFn T08 (d + 2) false) (callFn T08 (d + 2) true) false zAp.body ([.str t] ++ List.replicate (zAp.slots - zAp.params) .undef) σ = r' := fun kk =>
      s_un3 (zDu hlen hpart rfl) (s_f (zAB (zAa (x := .bool false) rfl rfl rfl)) (s_t (zAB rfl) kk))
    cases hm : ps.mapM lineP with
    | none => rw [hm] at ec; exact zAb (fn := zAp) rfl rfl (pre (zEy (zHL (zBk rfl (zEi ec)))))
    | some vs => rw [hm] at ec; exact zAD (fn := zAp) rfl rfl (pre (s_ret (e_tup (zAE rfl (zAE ec rfl)))))
  · have e0 : evE (callFn T08 (d + 2) false) false (.sm .startswith (.var 0) (.lit (.str (mkS [111, 114, 100, 101, 114, 32])))) [.str t, .undef, .undef, .undef, .undef, .undef] σ = .ok (.bool true) σ := e_sm rfl rfl rfl (by show some (V.bool (Txt.startswith t (mkS [111, 114, 100, 101, 114, 32]))) = _; rw [hst])
    have e6 : evE (callFn T08 (d + 2) false) false (.slice (.var 0) (some (.lit (.int 6))) none) [.str t, .undef, .undef, .undef, .undef, .undef] σ = .ok (.str (mkS r)) σ := by
      rw [← hsl]; exact e_cut hA rfl rfl rfl
    have es : evE (callFn T08 (d + 2) false) false (.sm .split (.slice (.var 0) (some (.lit (.int 6))) none) (.lit (.str (mkS [44, 32])))) [.str t, .undef, .undef, .undef, .undef, .undef] σ = .ok (.lst (ps.map V.str)) σ := by rw [← hws]; exact zBj hrl e6
    have ec := zBD (F := callFn T08 (d + 2) false) (elt := .call 107 [.var 6]) (k := .val) (src := [.sm .split (.slice (.var 0) (some (.lit (.int 6))) none) (.lit (.str (mkS [44, 32])))]) (cond := none) (ρ := [.str t, .undef, .undef, .undef, .undef, .undef]) (σ := σ) (l := ps) (φ := V.str) (fun _ => true) (fun p => (lineP p).getD .none) (zAE es rfl) rfl (.inl rfl) hcnt (fun _ _ => rfl) (fun p hm _ => zAJ rfl (r_lineIn (hps p hm).1 (hps p hm).2))
    rw [zAo] at ec
    obtain ⟨h1, h2⟩ := zFs (F := callFn T08 (d + 2) false) (Fq := callFn T08 (d + 2) true) (i := 2) (k := .val) (src := [.var 1]) (body := [.ite (.p1 .isNone (.var 2)) [.ret (.lit .none)] []]) (ρ := [.str t, .lst (ps.map fun p => (lineP p).getD .none), .undef, .undef, .undef, .undef]) (vs := [.lst (ps.map fun p => (lineP p).getD .none)]) (σ := σ) (it := .now (ps.map fun p => (lineP p).getD .none)) (l := ps) (φ := fun p => (lineP p).getD .none) (fun p => match lineP p with | none => some .NoDeed | some _ => none) (fun _ => .inr .none) (fun ρ => ∃ x, ρ = [.str t, .lst (ps.map fun p => (lineP p).getD .none), x, .undef, .undef, .undef]) rfl rfl (.inl rfl) ⟨_, rfl⟩
      fun p hp ρ hI => by
        obtain ⟨y, rfl⟩ := hI
        cases hx : lineP p with
        | none => exact ⟨fun c _ => s_t (zAB rfl) (s_ret rfl), fun q => nomatch q⟩
        | some v =>
          obtain ⟨s, a, b, c, rfl⟩ := zDj hx
          exact ⟨fun c q => (nomatch q), fun _ => ⟨_, s_f (zAB rfl) rfl, _, rfl⟩⟩
    have pre : ∀ {r' : R Fl}, exL (callFn T08 (d + 2) false) (callFn T08 (d + 2) true) false (.for 2 .val [.var 1] [.ite (.p1 .isNone (.var 2)) [.ret (.lit .none)] []] :: .ret (.tup [.lit (.str sOrd), .var 1]) :: zAQ.body.drop 1) [.str t, .lst (ps.map fun p => (lineP p).getD .none), .undef, .undef, .undef, .undef] σ = r' → exL (callFn T08 (d + 2) false) (callFn T08 (d + 2) true) false zAQ.body ([.str t] ++ List.replicate (zAQ.slots - zAQ.params) .undef) σ = r' := fun kk => s_t (zAB e0) (s_asg ec kk)
    cases hm : ps.mapM lineP with
    | none =>
      obtain ⟨p, hp, hn⟩ := zDD hm
      have : ∃ c, ps.findSome? (fun p => match lineP p with | none => some Cls.NoDeed | some _ => none) = some c := by
        cases hf : ps.findSome? (fun p => match lineP p with | none => some Cls.NoDeed | some _ => none) with
        | some c => exact ⟨c, rfl⟩
        | none => have := List.findSome?_eq_none_iff.mp hf p hp; rw [hn] at this; cases this
      obtain ⟨c, hc⟩ := this
      refine zAD (fn := zAQ) rfl rfl (pre ?_)
      rw [zBA, h1 c hc]; rfl
    | some vs =>
      have hf : ps.findSome? (fun p => match lineP p with | none => some Cls.NoDeed | some _ => none) = none := List.findSome?_eq_none_iff.mpr fun p hp => by
        obtain ⟨y, hy⟩ := (zAu hm).1 p hp
        rw [hy]
      obtain ⟨ρ', e, x, rfl⟩ := h2 hf
      refine zAD (fn := zAQ) rfl rfl (pre (st_nx e (s_ret ?_)))
      rw [zDE hm]; rfl
  · obtain ⟨vs, hm, rfl⟩ := Option.map_eq_some_iff.mp hv
    refine .order vs (fun v hv => ?_) (by rw [(zAu hm).2]; exact hcnt)
    obtain ⟨p, _, e⟩ := zFl hm v hv
    exact zDj e
theorem zGn {p r : List Nat} (hp : 32 ∉ p) (hl : (p ++ 32 :: r).length ≤ 9000) (hr : A7 (mkS r)) (hw : mkS p ≠ sOrd) : callFn T08 (d + 3) false 31 [.str (mkS (p ++ 32 :: r))] σ = endsBy σ id (wordsO (mkS p) (Txt.split (mkS r) (mkS [32]))) ∧ callFn T08 (d + 3) false 108 [.str (mkS (p ++ 32 :: r))] σ = .ok ((wordsO (mkS p) (Txt.split (mkS r) (mkS [32]))).getD .none) σ := by
  have hlen : (mkS (p ++ 32 :: r)).length ≤ 10000 := by rw [zAG]; omega
  have hrl : (mkS r).length ≤ 9000 := by rw [zAG]; rw [List.length_append, List.length_cons] at hl; omega
  have hpart : Txt.partition (mkS (p ++ 32 :: r)) (mkS [32]) = (mkS p, mkS [32], mkS r) := zDg hp
  have hst : Txt.startswith (mkS (p ++ 32 :: r)) (mkS [111, 114, 100, 101, 114, 32]) = false := by rw [zDe hp]; exact beq_eq_false_iff_ne.mpr hw
  have hsp : Txt.split (mkS (p ++ 32 :: r)) (mkS [32]) = mkS p :: Txt.split (mkS r) (mkS [32]) := by
    rw [zBm (by decide), zBm (by decide), zBZ 32 p r hp]; rfl
  have hps : ∀ w ∈ Txt.split (mkS r) (mkS [32]), A7 w := fun w h => hr.part h
  have hcnt : (Txt.split (mkS r) (mkS [32])).length < LIM := Nat.lt_of_le_of_lt zEw (Nat.lt_of_le_of_lt (Nat.add_le_add_right hrl 2) (by decide))
  have hne : ∃ w ws', Txt.split (mkS r) (mkS [32]) = w :: ws' := by
    obtain ⟨q, qs, e⟩ := zBT 32 r
    exact ⟨mkS q, qs.map mkS, by rw [zBm (by decide), e]; rfl⟩
  generalize mkS (p ++ 32 :: r) = t at hlen hpart hst hsp
  generalize mkS p = w at hpart hsp hw
  have es3 : evE (callFn T08 (d + 2) false) false (.sm .split (.var 3) (.lit (.str (mkS [32])))) [.str t, .str w, .str (mkS [32]), .str (mkS r), .undef] σ = .ok (.lst ((Txt.split (mkS r) (mkS [32])).map V.str)) σ := zBj (Nat.le_trans hrl (by decide)) rfl
  have est : evE (callFn T08 (d + 2) false) false (.sm .split (.var 0) (.lit (.str (mkS [32])))) [.str t, .undef, .undef, .undef, .undef, .undef] σ = .ok (.lst (.str w :: (Txt.split (mkS r) (mkS [32])).map V.str)) σ := by rw [zBj hlen rfl, hsp]; rfl
  generalize Txt.split (mkS r) (mkS [32]) = ws at es3 est hps hcnt hne
  obtain ⟨w1, ws1, rfl⟩ := hne
  have e0 : evE (callFn T08 (d + 2) false) false (.sm .startswith (.var 0) (.lit (.str (mkS [111, 114, 100, 101, 114, 32])))) [.str t, .undef, .undef, .undef, .undef, .undef] σ = .ok (.bool false) σ := e_sm rfl rfl rfl (by show some (V.bool (Txt.startswith t (mkS [111, 114, 100, 101, 114, 32]))) = _; rw [hst])
  have ip : ∃ b, ev2 .isIn σ (.str w) prV = some (.bool b) := ⟨_, rfl⟩
  obtain ⟨b, ip⟩ := ip
  have prD : ∀ {r' : R Fl}, exL (callFn T08 (d + 2) false) (callFn T08 (d + 2) true) false (zAQ.body.drop 3) [.str t, .undef, .undef, .lst (.str w :: (w1 :: ws1).map V.str), .int (4 - (if b = true then 1 else 0)), .undef] σ = r' → exL (callFn T08 (d + 2) false) (callFn T08 (d + 2) true) false zAQ.body ([.str t] ++ List.replicate (zAQ.slots - zAQ.params) .undef) σ = r' := fun kk =>
    s_f (zAB e0) (s_asg est (s_asg (v := .int (4 - (if b = true then 1 else 0))) (e_p2 rfl (e_p1 (e_p2 (y := prV) rfl rfl ip) rfl) rfl) kk))
  have e7 : ∀ {b7 : Bool}, ev2 .notIn σ (.str w) w7V = some (.bool b7) → evE (callFn T08 (d + 2) false) false (.p2 .notIn (.p2 .index (.var 3) (.lit (.int 0))) (.list [.lit (.str sDel), .lit (.str sBack), .lit (.str sSwap), .lit (.str sCred), .lit (.str sMove), .lit (.str sPay), .lit (.str sRef)])) [.str t, .undef, .undef, .lst (.str w :: (w1 :: ws1).map V.str), .int (4 - (if b = true then 1 else 0)), .undef] σ = .ok (.bool b7) σ := fun h => e_p2 rfl (y := w7V) rfl h
  rcases seven_or (σ := σ) w with h | ⟨k, h1, h2, ⟨b', h3, hk⟩, h4, h5, h6⟩ | ⟨h1, h4⟩
  · exact absurd h hw
  · have hbb : b = b' := by rw [ip] at h3; injection h3 with h3; injection h3
    subst hbb
    rw [hk] at prD e7
    have prR : ∀ {r' : R Fl}, exL (callFn T08 (d + 2) false) (callFn T08 (d + 2) true) false (zAp.body.drop 4) [.str t, .str w, .str (mkS [32]), .str (mkS r), .lst ((w1 :: ws1).map V.str)] σ = r' → exL (callFn T08 (d + 2) false) (callFn T08 (d + 2) true) false zAp.body ([.str t] ++ List.replicate (zAp.slots - zAp.params) .undef) σ = r' := fun kk =>
      s_un3 (zDu hlen hpart rfl) (s_f (zAB (zAa (x := .bool false) (e_p2 rfl rfl h1) rfl rfl)) (s_f (zAB (e_p2 rfl rfl (by rw [zDl]; exact congrArg (fun b => some (V.bool b)) h5))) (s_asg es3 kk)))
    have elR : evE (callFn T08 (d + 2) false) false (.p2 .ne (.p1 .len (.var 4)) (.p2 .sub (.p2 .index (.lit .parts) (.var 1)) (.lit (.int 1)))) [.str t, .str w, .str (mkS [32]), .str (mkS r), .lst ((w1 :: ws1).map V.str)] σ = .ok (.bool !((w1 :: ws1).length == k - 1)) σ := by
      have hk1 : (k : Int) - 1 = ((k - 1 : Nat) : Int) := by omega
      refine e_p2 (e_p1 rfl (by rw [zAk, List.length_map])) (e_p2 (e_p2 rfl rfl h2) rfl (by rw [ev2_sub, hk1])) zHC
    have elD : evE (callFn T08 (d + 2) false) false (.p2 .ne (.p1 .len (.var 3)) (.var 4)) [.str t, .undef, .undef, .lst (.str w :: (w1 :: ws1).map V.str), .int k, .undef] σ = .ok (.bool !((w1 :: ws1).length == k - 1)) σ := by
      have : ((w1 :: ws1).length + 1 == k) = ((w1 :: ws1).length == k - 1) := by
        by_cases e : (w1 :: ws1).length + 1 = k
        · rw [beq_iff_eq.mpr e, beq_iff_eq.mpr (by omega)]
        · rw [beq_eq_false_iff_ne.mpr e, beq_eq_false_iff_ne.mpr (by omega)]
      rw [← this]
      exact e_p2 (e_p1 rfl (by rw [zAk, List.length_cons, List.length_map])) rfl zHC
    by_cases hn : (w1 :: ws1).length = k - 1
    · rw [beq_iff_eq.mpr hn] at elR elD
      rw [wordsO_eq h2 h6 hn]
      refine ⟨?_, ?_⟩
      · have ec := zHS (F := callFn T08 (d + 2) false) (σ := σ) (elt := .call 29 [.var 5]) (ρ := [.str t, .str w, .str (mkS [32]), .str (mkS r), .lst ((w1 :: ws1).map V.str)]) (k := .val) (l := w1 :: ws1) (φ := V.str) (vs := [.lst ((w1 :: ws1).map V.str)]) (src := [.var 4]) (fun w => (numV w).map V.int) (zAE rfl rfl) rfl (.inl rfl) hcnt (fun x hx => by rw [zAJ rfl (r_num (hps x hx))]; cases numV x <;> rfl)
        rw [zEY] at ec
        cases hm : (w1 :: ws1).mapM numV with
        | none =>
          rw [hm] at ec
          refine zAb (fn := zAp) rfl rfl (prR (s_f (zAB elR) (zEy ?_)))
          rw [x_p1, if_neg (by decide), x_p2, if_neg (by decide), zFw (zAE rfl rfl), R.bind_ok, ec]; rfl
        | some ns =>
          rw [hm] at ec
          refine zAD (fn := zAp) rfl rfl (prR (s_f (zAB elR) (s_ret (e_p1 (e_p2 (zFw (zAE rfl rfl)) ec (z := .lst (.str w :: iv ns)) ?_) rfl))))
          show (if [V.str w].length + (iv ns).length ≤ LIM then some (V.lst ([V.str w] ++ iv ns)) else none) = _
          rw [if_pos]; rfl
          rw [zHF, (zAu hm).2, hn]
          show 1 + (k - 1) ≤ LIM
          rcases h6 with rfl | rfl <;> decide
      · have ec := zBD (F := callFn T08 (d + 2) false) (elt := .call 106 [.var 6]) (k := .val) (src := [.slice (.var 3) (some (.lit (.int 1))) none]) (cond := none) (ρ := [.str t, .undef, .undef, .lst (.str w :: (w1 :: ws1).map V.str), .int k, .undef]) (σ := σ) (vs := [.lst ((w1 :: ws1).map V.str)]) (σ₁ := σ) (l := w1 :: ws1) (φ := V.str) (fun _ => true) (fun w => .int (numD w))
          (zAE (zGh rfl rfl rfl (by
            show some (V.lst (sliceL (.str w :: (w1 :: ws1).map V.str) (some 1) none)) = _
            unfold sliceL sliceStop sliceStart
            rw [List.take_length]
            show some (V.lst ((V.str w :: (w1 :: ws1).map V.str).drop (min 1 (V.str w :: (w1 :: ws1).map V.str).length))) = _
            rw [Nat.min_eq_left (by rw [List.length_cons]; omega)]; rfl)) rfl) rfl (.inl rfl) hcnt (fun _ _ => rfl) (fun x hm _ => zAJ rfl (r_numIn (hps x hm)))
        rw [zAo] at ec
        obtain ⟨m, m1, m2⟩ := ev_min (σ := σ) (w := w1) (ws := ws1)
        have em : evE (callFn T08 (d + 2) false) false (.p2 .lt (.p1 .min (.var 5)) (.lit (.int 0))) [.str t, .undef, .undef, .lst (.str w :: (w1 :: ws1).map V.str), .int k, .lst ((w1 :: ws1).map fun w => .int (numD w))] σ = .ok (.bool (decide (m < 0))) σ := e_p2 (e_p1 rfl m1) rfl rfl
        have pre2 : ∀ {r' : R Fl}, exL (callFn T08 (d + 2) false) (callFn T08 (d + 2) true) false (zAQ.body.drop 5) [.str t, .undef, .undef, .lst (.str w :: (w1 :: ws1).map V.str), .int k, .lst ((w1 :: ws1).map fun w => .int (numD w))] σ = r' → exL (callFn T08 (d + 2) false) (callFn T08 (d + 2) true) false zAQ.body ([.str t] ++ List.replicate (zAQ.slots - zAQ.params) .undef) σ = r' := fun kk => prD (s_f (zAB (zAa (e7 h4) rfl elD)) (s_asg ec kk))
        cases hm : (w1 :: ws1).mapM numV with
        | none =>
          rw [decide_eq_true (m2.mpr hm)] at em
          exact zAD (fn := zAQ) rfl rfl (pre2 (s_t (zAB em) (s_ret rfl)))
        | some ns =>
          rw [decide_eq_false fun q => by rw [m2.mp q] at hm; cases hm] at em
          have hmap : (w1 :: ws1).map (fun w => V.int (numD w)) = iv ns := by
            have h1 := zEY (ws := w1 :: ws1)
            rw [hm] at h1
            have := zDE (u := .int (-1)) h1
            rw [← this]
            refine List.map_congr_left fun x _ => ?_
            unfold numD
            cases numV x <;> rfl
          refine zAD (fn := zAQ) rfl rfl (pre2 (s_f (zAB em) (s_ret (e_p1 (e_p2 (x := .lst [.str w]) (y := .lst (iv ns)) (zFw (zAE (e_p2 rfl rfl rfl) rfl)) (by rw [← hmap]; rfl) (z := .lst (.str w :: iv ns)) ?_) rfl))))
          show (if [V.str w].length + (iv ns).length ≤ LIM then some (V.lst ([V.str w] ++ iv ns)) else none) = _
          rw [if_pos]; rfl
          rw [zHF, (zAu hm).2, hn]
          show 1 + (k - 1) ≤ LIM
          rcases h6 with rfl | rfl <;> decide
    · rw [beq_eq_false_iff_ne.mpr hn] at elR elD
      rw [wordsO_ne h2 h6 hn]
      refine ⟨zAb (fn := zAp) rfl rfl (prR (s_t (zAB elR) rfl)), ?_⟩
      exact zAD (fn := zAQ) rfl rfl (prD (s_t (zAB (zAa (e7 h4) rfl elD)) (s_ret rfl)))
  · rw [wordsO_no h1]
    refine ⟨?_, ?_⟩
    · exact zAb (fn := zAp) rfl rfl (s_un3 (zDu hlen hpart rfl) (s_t (zAB (zBv (e_p2 rfl rfl h1) rfl)) rfl))
    · exact zAD (fn := zAQ) rfl rfl (prD (s_t (zAB (zBv (e7 h4) rfl)) (s_ret rfl)))
theorem zGG {w : Str} {ws : List Str} {v : V} (hw : w ≠ sOrd) (h : wordsO w ws = some v) : DeedV v := by
  unfold wordsO at h
  split at h
  · split at h
    · obtain ⟨ns, _, rfl⟩ := Option.map_eq_some_iff.mp h
      exact .words w ns (beq_eq_false_iff_ne.mpr hw)
    · cases h
  · cases h
theorem both {t : Str} (ht : A7 t) (hl : t.length ≤ 8900) : Both t := by
  rw [← zDC t]
  have hl' : (codes t).length ≤ 8900 := hl
  have ht' : ∀ c ∈ codes t, c < 128 := ht
  rcases zFt 32 (codes t) with h | ⟨p, r, e, h⟩
  · exact both_none (Nat.le_trans hl' (by decide)) h
  · rw [e] at hl' ht' ⊢
    have hr : A7 (mkS r) := fun c hc => ht' c (List.mem_append_right _ (List.mem_cons_of_mem _ hc))
    by_cases hp : p = [111, 114, 100, 101, 114]
    · subst hp
      exact both_order (by rw [List.length_append] at hl'; exact Nat.le_trans (Nat.le_trans (Nat.le_succ _) (Nat.le_add_left _ _)) hl') hr
    · have hw : mkS p ≠ sOrd := fun q => hp (by rw [← zGB p, q]; rfl)
      exact ⟨_, fun d σ => (zGn h (Nat.le_trans hl' (by decide)) hr hw).1, fun d σ => (zGn h (Nat.le_trans hl' (by decide)) hr hw).2, fun v hv => zGG hw hv⟩
end
end Mine
end

/-! # L08e -/
section
set_option autoImplicit false
namespace Mine
open PySem
noncomputable def Sm (k : Nat) (s : Str) : Prop := A7 s ∧ s.length ≤ k
theorem Sm.add {j k : Nat} {x y : Str} (hx : Sm j x) (hy : Sm k y) : Sm (j + k) (x ++ y) := ⟨hx.1.add hy.1, by rw [len_add]; exact Nat.add_le_add hx.2 hy.2⟩
theorem Sm.le {j k : Nat} {x : Str} (hx : Sm j x) (h : j ≤ k) : Sm k x := ⟨hx.1, Nat.le_trans hx.2 h⟩
theorem A7.join {sep : Str} (hs : A7 sep) : ∀ {l : List Str}, (∀ x ∈ l, A7 x) → A7 (Str.join sep l)
  | [], _ => by intro c hc; cases hc
  | [x], h => h x List.mem_cons_self
  | x :: y :: r, h => by
    show A7 (x ++ sep ++ Str.join sep (y :: r))
    exact ((h x List.mem_cons_self).add hs).add (A7.join hs fun z hz => h z (List.mem_cons_of_mem _ hz))
theorem sum_le {k : Nat} : ∀ {l : List Str}, (∀ x ∈ l, x.length ≤ k) → (l.map (·.length)).sum ≤ l.length * k
  | [], _ => Nat.zero_le _
  | x :: l, h => by
    rw [List.map_cons, List.sum_cons, List.length_cons, Nat.succ_mul]
    have := sum_le (l := l) fun z hz => h z (List.mem_cons_of_mem _ hz)
    have := h x List.mem_cons_self
    omega
theorem zGt : ∀ l : List Str, strs? (l.map V.str) = some l
  | [] => rfl
  | x :: l => by
    have := zGt l
    unfold strs? at this ⊢
    rw [List.map_cons, List.mapM_cons, this]; rfl
section
variable {F : Calls} {q : Bool} {ρ : List V} {σ : Sto}
theorem e_join {sep : Str} {a b : CE} {l : List Str} {v : V} {j k n : Nat} (hsep : Sm j sep) (hl : ∀ x ∈ l, Sm k x) (hn : l.length ≤ n) (hb : n * k + n * j ≤ 100000) (ha : evE F false a ρ σ = .ok (.str sep) σ) (hv : evE F false b ρ σ = .ok v σ) (hi : listOf? σ v = some (l.map V.str)) :
    ∃ t, Sm (n * k + n * j) t ∧ evE F false (.sm .join a b) ρ σ = .ok (.str t) σ := by
  have h1 := sum_le (k := k) fun x hx => (hl x hx).2
  have h2 : (l.map (·.length)).sum + l.length * sep.length ≤ n * k + n * j := Nat.add_le_add (Nat.le_trans h1 (Nat.mul_le_mul_right k hn)) (Nat.mul_le_mul hn hsep.2)
  refine ⟨Txt.join sep l, ⟨?_, ?_⟩, e_sm ha rfl hv ?_⟩
  · show A7 (Builtin.Str.glued sep l)
    rw [StrLaws.glued_eq_join]
    exact hsep.1.join fun x hx => (hl x hx).1
  · show (Builtin.Str.glued sep l).length ≤ _
    rw [StrLaws.glued_eq_join]
    exact Nat.le_trans (StrLaws.join_length_le sep l) h2
  · show ((listOf? σ v).bind fun xs => (strs? xs).bind fun l => if (l.map (·.length)).sum + l.length * sep.length ≤ 100000 then some (V.str (Txt.join sep l)) else none) = _
    rw [hi]
    show ((strs? (l.map V.str)).bind fun l => if (l.map (·.length)).sum + l.length * sep.length ≤ 100000 then some (V.str (Txt.join sep l)) else none) = _
    rw [zGt]
    show (if (l.map (·.length)).sum + l.length * sep.length ≤ 100000 then some (V.str (Txt.join sep l)) else none) = _
    rw [if_pos (Nat.le_trans h2 hb)]
theorem zCQ {j k : Nat} {x y : Str} {a b : CE} (hx : Sm j x) (hy : Sm k y) (h : j + k ≤ 10000) (ha : evE F q a ρ σ = .ok (.str x) σ) (hb : evE F q b ρ σ = .ok (.str y) σ) : ∃ t, Sm (j + k) t ∧ evE F q (.p2 .add a b) ρ σ = .ok (.str t) σ :=
  ⟨_, hx.add hy, e_cat ha hb (Nat.le_trans (Nat.add_le_add hx.2 hy.2) h)⟩
end
noncomputable def Nm (n : Int) : Prop := 0 ≤ n ∧ n < 10 ^ 30
section
variable {d : Nat} {q : Bool} {σ : Sto}
theorem zCL (l : List Int) (k : Nat) : callFn T08 (d + 1) q 100 [.lst (iv l), .int k] σ = .ok (.int (gI l k)) σ := by
  by_cases h : k < l.length
  · exact zAD (fn := zGf) rfl rfl (s_t (zAB (t := true) (e_p2 rfl (e_p1 rfl (zAk σ (iv l))) (by rw [ev2_lt, zHF, decide_eq_true (Int.ofNat_lt.mpr h)]))) (s_ret (e_p2 rfl rfl (index_lst σ h))))
  · have hg : gI l k = 0 := by simp [gI, List.getElem?_eq_none (Nat.le_of_not_lt h)]
    rw [hg]
    exact zAD (fn := zGf) rfl rfl (s_f (zAB (t := false) (e_p2 rfl (e_p1 rfl (zAk σ (iv l))) (by rw [ev2_lt, zHF, decide_eq_false fun h' => h (Int.ofNat_lt.mp h')]))) (s_ret rfl))
theorem odd_num {σ : Sto} {j : Nat} (hj : j < 5) : ∃ n, Nm n ∧ ev2 .index σ (.lst [.int 0, .int (10 ^ 30 - 1), .int 9, .int 10, .int (10 ^ 29)]) (.int (j : Int)) = some (.int n) := by
  match j, hj with
  | 0, _ => exact ⟨_, ⟨by decide, by decide⟩, rfl⟩
  | 1, _ => exact ⟨_, ⟨by decide, by decide⟩, rfl⟩
  | 2, _ => exact ⟨_, ⟨by decide, by decide⟩, rfl⟩
  | 3, _ => exact ⟨_, ⟨by decide, by decide⟩, rfl⟩
  | 4, _ => exact ⟨_, ⟨by decide, by decide⟩, rfl⟩
theorem zGu (c w : Int) : ∃ n, Nm n ∧ callFn T08 (d + 1) q 102 [.int c, .int w] σ = .ok (.int n) σ := by
  have p30 : ∀ {F : Calls} {ρ : List V}, evE F q (.p2 .pow (.lit (.int 10)) (.lit (.int 30))) ρ σ = .ok (.int (10 ^ 30)) σ := e_p2 rfl rfl (ev2_pow σ 30 (by decide))
  have p29 : ∀ {F : Calls} {ρ : List V}, evE F q (.p2 .pow (.lit (.int 10)) (.lit (.int 29))) ρ σ = .ok (.int (10 ^ 29)) σ := e_p2 rfl rfl (ev2_pow σ 29 (by decide))
  have m4 : ∀ {F : Calls} {x : Int} {b : Bool}, (w.fmod 4 == x) = b → evE F q (.p2 .eq (.p2 .mod (.var 1) (.lit (.int 4))) (.lit (.int x))) [.int c, .int w] σ = .ok (.bool b) σ := fun h => h ▸ e_p2 (e_p2 rfl rfl (zAi σ w 4 rfl)) rfl rfl
  cases h0 : (w.fmod 4 == 0) with
  | true =>
    refine ⟨c.fmod (10 ^ 30), zDL c (by decide), zAD (fn := zEf) rfl rfl (s_t (zAB (m4 h0)) (s_ret (e_p2 rfl p30 (zAi σ c _ rfl))))⟩
  | false =>
    cases h1 : (w.fmod 4 == 1) with
    | true =>
      obtain ⟨j, hj, hj2⟩ := zBC c (m := 5) (by decide)
      have hj : c.fmod 5 = (j : Int) := hj
      obtain ⟨n, hn, en⟩ := odd_num (σ := σ) hj2
      refine ⟨n, hn, zAD (fn := zEf) rfl rfl (s_f (zAB (m4 h0)) (s_t (zAB (m4 h1)) (s_ret (e_p2 (zFw (zAE rfl (zAE (e_p2 p30 rfl rfl) (zAE rfl (zAE rfl (zAE p29 rfl)))))) (y := .int (j : Int)) (by rw [← hj]; exact e_p2 rfl rfl (zAi σ c 5 rfl)) en))))⟩
    | false =>
      have h := zDL c (m := 1000) (by decide)
      exact ⟨c.fmod 1000, ⟨h.1, Int.lt_trans h.2 (by decide)⟩, zAD (fn := zEf) rfl rfl (s_f (zAB (m4 h0)) (s_f (zAB (m4 h1)) (s_ret (e_p2 rfl rfl (zAi σ c 1000 rfl)))))⟩
noncomputable def ix8 (c : Int) (k : Nat) : Nat := ((c.fdiv 12 + (c.fdiv 12).fdiv 26 * (k : Int) + 5 * (k : Int)).fmod 26).toNat
theorem ix8_lt (c : Int) (k : Nat) : ix8 c k < 26 := by
  obtain ⟨h1, h2⟩ := zDL (c.fdiv 12 + (c.fdiv 12).fdiv 26 * (k : Int) + 5 * (k : Int)) (m := 26) (by decide)
  exact (Int.toNat_lt h1).mpr h2
theorem r_itemBy (c : Int) : ∃ s, Sm 12 s ∧ callFn T08 (d + 1) false 103 [.int c] σ = .ok (.str s) σ := by
  obtain ⟨n, hn, h1, h2⟩ := zGx c (m := 12) (by decide)
  have hn : 1 + c.fmod 12 = (n : Int) := hn
  have hlen : ((List.range n).map fun j => letterAt (ix8 c j)).length = n := by rw [List.length_map, List.length_range]
  have e := zBD (F := callFn T08 d false) (elt := .p2 .index (.var 1) (.p2 .mod (.p2 .add (.p2 .add (.p2 .fdiv (.var 0) (.lit (.int 12))) (.p2 .mul (.p2 .fdiv (.p2 .fdiv (.var 0) (.lit (.int 12))) (.lit (.int 26))) (.var 2))) (.p2 .mul (.lit (.int 5)) (.var 2))) (.lit (.int 26)))) (k := .range1)
    (src := [.p2 .add (.lit (.int 1)) (.p2 .mod (.var 0) (.lit (.int 12)))]) (cond := none) (ρ := [.int c, .str letters]) (vs := [.int n]) (σ := σ) (σ₁ := σ) (it := .now (rangeL 0 n)) (l := List.range n) (φ := fun j : Nat => .int (0 + (j : Int))) (fun _ => true) (fun j => .str (mkS [letterAt (ix8 c j)]))
    (zAE (by rw [e_p2 rfl (e_p2 rfl rfl (zAi σ _ 12 rfl)) rfl, hn]) rfl) (zBE σ (by show n ≤ LIM; exact Nat.le_trans h2 (by decide)))
    (.inl (by unfold rangeL; rw [Int.sub_zero, Int.toNat_natCast])) (by rw [List.length_range]; exact Nat.lt_of_le_of_lt h2 (by decide)) (fun _ _ => rfl) fun j hj _ => by
      rw [Int.zero_add]
      have hj : j < 1000 := Nat.lt_of_lt_of_le (List.mem_range.mp hj) (Nat.le_trans h2 (by decide))
      refine e_p2 rfl (e_p2 (e_p2 (e_p2 (e_p2 rfl rfl (zBY σ c 12 rfl)) (e_p2 (e_p2 (e_p2 rfl rfl (zBY σ c 12 rfl)) rfl (zBY σ _ 26 rfl)) rfl (zEh σ _ j (.inr (zEx hj)))) rfl) (e_p2 rfl rfl (zEh σ 5 j (.inl rfl))) rfl) rfl (zAi σ _ 26 rfl)) ?_
      have hx : (c.fdiv 12 + (c.fdiv 12).fdiv 26 * (j : Int) + 5 * (j : Int)).fmod 26 = (ix8 c j : Int) := (Int.toNat_of_nonneg (zDL _ (by decide)).1).symm
      rw [hx]
      exact letter_at (ix8_lt c j)
  rw [zAo, show (List.range n).map (fun j => V.str (mkS [letterAt (ix8 c j)])) = ((List.range n).map fun j => letterAt (ix8 c j)).map fun x => V.str (mkS [x]) by rw [List.map_map]; rfl] at e
  refine ⟨mkS ((List.range n).map fun j => letterAt (ix8 c j)), ⟨fun x hx => ?_, by rw [zAG, hlen]; exact h2⟩, zAD (fn := f08_103) rfl rfl (s_asg (v := .str letters) rfl (s_ret (e_sm (x := .str (mkS [])) rfl rfl e (join_at (by rw [hlen]; exact Nat.le_trans h2 (by decide))))))⟩
  obtain ⟨j, _, rfl⟩ := List.mem_map.mp hx
  exact (zGW (ix8_lt c j)).2
end
end Mine
end

/-! # L08f -/
section
set_option autoImplicit false
namespace Mine
open PySem
noncomputable def strN (n : Int) : Str := Str.ofString (toString n)
theorem strN_ok {σ : Sto} {n : Int} (h : Nm n) : Sm 30 (strN n) ∧ ev1 .toStr σ (.int n) = some (.str (strN n)) := by
  obtain ⟨m, rfl⟩ := Int.eq_ofNat_of_zero_le h.1
  have hm : m < 10 ^ 30 := by exact_mod_cast h.2
  refine ⟨?_, ?_⟩
  · unfold strN
    rw [str_num]
    refine ⟨fun c hc => ?_, by rw [zAG]; exact digs_le (by decide) hm⟩
    have := digs_digit (m := m) (c := c) hc
    omega
  · have h2 : (m : Int) < 10 ^ 100 := by
      have h4 : (10 : Nat) ^ 30 ≤ 10 ^ 100 := Nat.pow_le_pow_right (by decide) (by decide)
      have h5 : m < 10 ^ 100 := Nat.lt_of_lt_of_le hm h4
      exact_mod_cast h5
    unfold ev1
    simp only
    rw [if_pos ⟨h.1, h2⟩]; rfl
noncomputable def LineD (v : V) : Prop := ∃ (s : Str) (a b c : Int), Sm 12 s ∧ Nm a ∧ Nm b ∧ Nm c ∧ v = .tup [.str s, .int a, .int b, .int c]
inductive Dd (σ : Sto) : V → Sto → Prop
  | order (ls : List V) (hl : ls.length ≤ 4) (h : ∀ v ∈ ls, LineD v) : Dd σ (.tup [.str sOrd, .ref σ.length]) (σ ++ [.list ls])
  | words (w : Str) (ns : List Int) (hw : (w == sOrd) = false) (hs : Sm 7 w) (hn : ns.length ≤ 3) (h : ∀ n ∈ ns, Nm n) : Dd σ (.tup (.str w :: iv ns)) σ
section
variable {d : Nat} {q : Bool} {σ : Sto}
theorem nums3 {F : Calls} {ρ : List V} {elt : CE} (h : ∀ j : Nat, j < 3 → ∃ n, Nm n ∧ evE F false elt (ρ ++ [.int (j : Int)]) σ = .ok (.int n) σ) :
    ∃ n0 n1 n2, Nm n0 ∧ Nm n1 ∧ Nm n2 ∧ evE F false (.comp elt .range1 [.lit (.int 3)] none) ρ σ = .ok (.lst (iv [n0, n1, n2])) σ := by
  obtain ⟨n0, a0, e0⟩ := h 0 (by decide)
  obtain ⟨n1, a1, e1⟩ := h 1 (by decide)
  obtain ⟨n2, a2, e2⟩ := h 2 (by decide)
  refine ⟨n0, n1, n2, a0, a1, a2, ?_⟩
  have := zBD (F := F) (elt := elt) (k := .range1) (src := [.lit (.int 3)]) (cond := none) (ρ := ρ) (vs := [.int 3]) (σ := σ) (σ₁ := σ) (it := .now [.int ((0 : Nat) : Int), .int ((1 : Nat) : Int), .int ((2 : Nat) : Int)]) (l := [(0, n0), (1, n1), (2, n2)]) (φ := fun p : Nat × Int => .int (p.1 : Int)) (fun _ => true) (fun p => .int p.2) rfl rfl (.inl rfl) (show 3 < LIM by decide) (fun _ _ => rfl) fun p hp _ => by
    simp only [List.mem_cons, List.not_mem_nil, or_false] at hp
    rcases hp with rfl | rfl | rfl
    · exact e0
    · exact e1
    · exact e2
  rw [zAo] at this
  exact this
theorem word_at {j : Nat} (hj : j < 10) : ∃ w, ev2 .index σ (.lst [.str sDel, .str sBack, .str sSwap, .str sCred, .str sMove, .str sPay, .str sRef, .str sOrd, .str sOrd, .str sOrd]) (.int (j : Int)) = some (.str w) ∧ (w = sOrd ∨ ((w == sOrd) = false ∧ Sm 7 w)) := by
  match j, hj with
  | 0, _ => exact ⟨sDel, rfl, .inr ⟨rfl, by unfold Sm A7; decide⟩⟩
  | 1, _ => exact ⟨sBack, rfl, .inr ⟨rfl, by unfold Sm A7; decide⟩⟩
  | 2, _ => exact ⟨sSwap, rfl, .inr ⟨rfl, by unfold Sm A7; decide⟩⟩
  | 3, _ => exact ⟨sCred, rfl, .inr ⟨rfl, by unfold Sm A7; decide⟩⟩
  | 4, _ => exact ⟨sMove, rfl, .inr ⟨rfl, by unfold Sm A7; decide⟩⟩
  | 5, _ => exact ⟨sPay, rfl, .inr ⟨rfl, by unfold Sm A7; decide⟩⟩
  | 6, _ => exact ⟨sRef, rfl, .inr ⟨rfl, by unfold Sm A7; decide⟩⟩
  | 7, _ => exact ⟨sOrd, rfl, .inl rfl⟩
  | 8, _ => exact ⟨sOrd, rfl, .inl rfl⟩
  | 9, _ => exact ⟨sOrd, rfl, .inl rfl⟩
noncomputable def wsV : V := .lst [.str sDel, .str sBack, .str sSwap, .str sCred, .str sMove, .str sPay, .str sRef, .str sOrd, .str sOrd, .str sOrd]
noncomputable def body104' : List CS := match zAZ.body with
  | [_, _, _, .ite _ [_, .for _ _ _ b, _] _, _, _, _] => b
  | _ => []
inductive Drw (σ : Sto) (l : List Int) (y : Int) (j : Nat) : List V → Sto → Prop
  | mk (ls : List V) (x5 x6 x7 : V) (hl : ls.length = j) (h : ∀ v ∈ ls, LineD v) : Drw σ l y j [.lst (iv l), wsV, .str sOrd, .int y, .ref σ.length, x5, x6, x7] (σ ++ [.list ls])
theorem drw_turn {l : List Int} {y : Int} {j : Nat} {ρ : List V} {σ' : Sto} (hj : j < 4) (I : Drw σ l y j ρ σ') : ∃ ρ' σ'', exL (callFn T08 (d + 1) false) (callFn T08 (d + 1) true) false body104' (ρ.set 5 (.int j)) σ' = .ok (.next ρ') σ'' ∧ Drw σ l y (j + 1) ρ' σ'' := by
  cases I with
  | mk ls x5 x6 x7 hl h =>
  obtain ⟨k6, hk6, -⟩ := zBC (j : Int) (m := 6) (by decide)
  have hk6 : (j : Int).fmod 6 = (k6 : Int) := hk6
  generalize hσ : σ ++ [O.list ls] = σ₁
  have h4 : σ₁[σ.length]? = some (.list ls) := by rw [← hσ]; exact zBu
  generalize hc : gI l (3 + k6) * ((j : Int) + 1) + (j : Int) = c
  have e6 : evE (callFn T08 (d + 1) false) false (.p2 .add (.p2 .mul (.call 100 [.var 0, .p2 .add (.lit (.int 3)) (.p2 .mod (.var 5) (.lit (.int 6)))]) (.p2 .add (.var 5) (.lit (.int 1)))) (.var 5)) [.lst (iv l), wsV, .str sOrd, .int y, .ref σ.length, .int j, x6, x7] σ₁ = .ok (.int c) σ₁ := by
    rw [← hc]
    refine e_p2 (e_p2 (zAJ (zAE rfl (zAE (v := .int ((3 + k6 : Nat) : Int)) (e_p2 (z := .int ((3 + k6 : Nat) : Int)) rfl (e_p2 (z := .int (k6 : Int)) rfl rfl (by rw [← hk6]; exact zAi _ _ 6 rfl)) ?_) rfl)) (zCL l (3 + k6))) (e_p2 rfl rfl rfl) (zEh _ _ _ (.inr (zEx (j := j + 1) (Nat.lt_trans (Nat.succ_lt_succ hj) (by decide)))))) rfl rfl
    show some (V.int (3 + (k6 : Int))) = _
    rw [Int.natCast_add]; rfl
  obtain ⟨n0, n1, n2, a0, a1, a2, e7⟩ := nums3 (F := callFn T08 (d + 1) false) (σ := σ₁) (ρ := [.lst (iv l), wsV, .str sOrd, .int y, .ref σ.length, .int j, .int c, x7]) (elt := .call 102 [.p2 .fdiv (.var 6) (.p2 .add (.var 8) (.lit (.int 1))), .p2 .fdiv (.var 3) (.p2 .add (.var 8) (.lit (.int 1)))]) fun i hi => by
    obtain ⟨n, hn, en⟩ := zGu (d := d) (q := false) (σ := σ₁) (c.fdiv ((i : Int) + 1)) (y.fdiv ((i : Int) + 1))
    have hd := divj_ok i (Nat.lt_trans hi (by decide))
    exact ⟨n, hn, zAJ (zAE (e_p2 rfl (e_p2 rfl rfl rfl) (zBY _ c _ hd)) (zAE (e_p2 rfl (e_p2 rfl rfl rfl) (zBY _ y _ hd)) rfl)) en⟩
  obtain ⟨s, hs, es⟩ := r_itemBy (d := d) (σ := σ₁) c
  refine ⟨_, _, s_asg e6 (s_asg e7 (s_exp (zHP (x := .ref σ.length) rfl (by show (listR _).isSome = true; rw [h4]; rfl) (y := .tup [.str s, .int n0, .int n1, .int n2]) (e_tup (zAE (zAJ rfl es) (zAE (e_p2 rfl rfl rfl) (zAE (e_p2 rfl rfl rfl) (zAE (e_p2 rfl rfl rfl) rfl))))) (zGE _ h4 (by rw [hl]; exact Nat.lt_trans hj (by decide)))) s_nil)), ?_⟩
  rw [← hσ, zGv]
  refine .mk _ _ _ _ (by rw [List.length_append, hl]; rfl) fun v hv => ?_
  rcases List.mem_append.mp hv with hv | hv
  · exact h v hv
  · rw [List.mem_singleton.mp hv]; exact ⟨s, n0, n1, n2, hs, a0, a1, a2, rfl⟩
theorem r_anyDeed (l : List Int) : ∃ v σ', callFn T08 (d + 2) false 104 [.lst (iv l)] σ = .ok v σ' ∧ Dd σ v σ' := by
  obtain ⟨j, hj, hj2⟩ := zBC (gI l 0) (m := 10) (by decide)
  have hj : (gI l 0).fmod 10 = (j : Int) := hj
  obtain ⟨w, ew, hw⟩ := word_at (σ := σ) hj2
  have pre : ∀ {r : R Fl}, exL (callFn T08 (d + 1) false) (callFn T08 (d + 1) true) false (zAZ.body.drop 3) [.lst (iv l), wsV, .str w, .int (gI l 1), .undef, .undef, .undef, .undef] σ = r → exL (callFn T08 (d + 1) false) (callFn T08 (d + 1) true) false zAZ.body ([.lst (iv l)] ++ List.replicate (zAZ.slots - zAZ.params) .undef) σ = r := fun kk =>
    s_asg (v := wsV) rfl (s_asg (e_p2 (x := wsV) rfl (y := .int (j : Int)) (by rw [← hj]; exact e_p2 (zAJ rfl (zCL l 0)) rfl (zAi _ _ 10 rfl)) ew) (s_asg (zAJ rfl (zCL l 1)) kk))
  rcases hw with rfl | ⟨hw, hs⟩
  · obtain ⟨n, hn, h1, h2⟩ := zGx (gI l 2) (m := 4) (by decide)
    have hn : 1 + (gI l 2).fmod 4 = (n : Int) := hn
    obtain ⟨ρ', σ', ef, I⟩ := zHH (F := callFn T08 (d + 1) false) (Fq := callFn T08 (d + 1) true) (i := 5) (k := .range1) (src := [.p2 .add (.lit (.int 1)) (.p2 .mod (.call 100 [.var 0, .lit (.int 2)]) (.lit (.int 4)))]) (body := body104') (ρ := [.lst (iv l), wsV, .str sOrd, .int (gI l 1), .ref σ.length, .undef, .undef, .undef]) (vs := [.int n]) (σ := σ ++ [.list []]) (σ₁ := σ ++ [.list []]) (it := .now (rangeL 0 n)) (xs := rangeL 0 n)
      (Drw σ l (gI l 1)) (zAE (by rw [e_p2 rfl (e_p2 (zAJ rfl (zCL l 2)) rfl (zAi _ _ 4 rfl)) rfl, hn]) rfl) (zBE _ (by show n ≤ LIM; exact Nat.le_trans h2 (by decide))) (fun _ _ _ _ => .inl rfl) (.mk [] _ _ _ rfl (fun v hv => nomatch hv)) fun j x ρ σ' hx I => by
        obtain ⟨rfl, hj⟩ := zFA hx
        exact drw_turn (Nat.lt_of_lt_of_le hj h2) I
    rw [range_len] at I
    cases I with
    | mk ls x5 x6 x7 hl h =>
    have p2 : ∀ {r : R Fl}, exL (callFn T08 (d + 1) false) (callFn T08 (d + 1) true) false (.for 5 .range1 [.p2 .add (.lit (.int 1)) (.p2 .mod (.call 100 [.var 0, .lit (.int 2)]) (.lit (.int 4)))] body104' :: .ret (.tup [.lit (.str sOrd), .var 4]) :: zAZ.body.drop 4) [.lst (iv l), wsV, .str sOrd, .int (gI l 1), .ref σ.length, .undef, .undef, .undef] (σ ++ [.list []]) = r → exL (callFn T08 (d + 1) false) (callFn T08 (d + 1) true) false zAZ.body ([.lst (iv l)] ++ List.replicate (zAZ.slots - zAZ.params) .undef) σ = r := fun kk =>
      pre (s_t (zAB rfl) (s_asg (v := .ref σ.length) rfl kk))
    exact ⟨_, _, zAD (fn := zAZ) rfl rfl (p2 (st_nx ef (s_ret rfl))), .order ls (hl.symm ▸ h2) h⟩
  · obtain ⟨n0, n1, n2, a0, a1, a2, e7⟩ := nums3 (F := callFn T08 (d + 1) false) (σ := σ) (ρ := [.lst (iv l), wsV, .str w, .int (gI l 1), .undef, .undef, .undef, .undef]) (elt := .call 102 [.call 100 [.var 0, .p2 .add (.lit (.int 2)) (.var 8)], .p2 .fdiv (.var 3) (.p2 .add (.var 8) (.lit (.int 1)))]) fun i hi => by
      obtain ⟨n, hn, en⟩ := zGu (d := d) (q := false) (σ := σ) (gI l (2 + i)) ((gI l 1).fdiv ((i : Int) + 1))
      have hd := divj_ok i (Nat.lt_trans hi (by decide))
      refine ⟨n, hn, zAJ (zAE (zAJ (zAE rfl (zAE (v := .int ((2 + i : Nat) : Int)) (e_p2 rfl rfl ?_) rfl)) (zCL l (2 + i))) (zAE (e_p2 rfl (e_p2 rfl rfl rfl) (zBY _ _ _ hd)) rfl)) en⟩
      show some (V.int (2 + (i : Int))) = _
      rw [Int.natCast_add]; rfl
    have p2 : ∀ {r : R Fl}, exL (callFn T08 (d + 1) false) (callFn T08 (d + 1) true) false (zAZ.body.drop 5) [.lst (iv l), wsV, .str w, .int (gI l 1), .undef, .undef, .undef, .lst (iv [n0, n1, n2])] σ = r → exL (callFn T08 (d + 1) false) (callFn T08 (d + 1) true) false zAZ.body ([.lst (iv l)] ++ List.replicate (zAZ.slots - zAZ.params) .undef) σ = r := fun kk =>
      pre (s_f (zAB (e_p2 rfl rfl (by rw [zDl]; exact congrArg (fun b => some (V.bool b)) hw))) (s_asg e7 kk))
    have ec : evE (callFn T08 (d + 1) false) false (.or (.p2 .eq (.var 2) (.lit (.str sPay))) (.p2 .eq (.var 2) (.lit (.str sRef)))) [.lst (iv l), wsV, .str w, .int (gI l 1), .undef, .undef, .undef, .lst (iv [n0, n1, n2])] σ = .ok (.bool ((w == sPay) || (w == sRef))) σ := e_or (e_p2 rfl rfl (zDl _ _)) (e_p2 rfl rfl (zDl _ _))
    cases hb : ((w == sPay) || (w == sRef)) with
    | true =>
      rw [hb] at ec
      exact ⟨_, σ, zAD (fn := zAZ) rfl rfl (p2 (s_t (zAB ec) (s_ret (e_tup (zAE rfl (zAE (e_p2 rfl rfl rfl) (zAE (e_p2 rfl rfl rfl) rfl))))))), .words w [n0, n1] hw hs (show 2 ≤ 3 by decide) fun n hn => by
        simp only [List.mem_cons, List.not_mem_nil, or_false] at hn
        rcases hn with rfl | rfl
        · exact a0
        · exact a1⟩
    | false =>
      rw [hb] at ec
      exact ⟨_, σ, zAD (fn := zAZ) rfl rfl (p2 (s_f (zAB ec) (s_ret (e_tup (zAE rfl (zAE (e_p2 rfl rfl rfl) (zAE (e_p2 rfl rfl rfl) (zAE (e_p2 rfl rfl rfl) rfl)))))))), .words w [n0, n1, n2] hw hs (show 3 ≤ 3 by decide) fun n hn => by
        simp only [List.mem_cons, List.not_mem_nil, or_false] at hn
        rcases hn with rfl | rfl | rfl
        · exact a0
        · exact a1
        · exact a2⟩
end
end Mine
end

/-! # L08g -/
section
set_option autoImplicit false
namespace Mine
open PySem
section
variable {d : Nat} {q : Bool} {σ : Sto} {F : Calls} {ρ : List V}
theorem sp_sm : Sm 1 (mkS [32]) := ⟨by unfold A7; decide, by decide⟩
theorem e_strs {ns : List Int} {src : CE} {n : Nat} (hn : ρ.length = n) (hl : ns.length ≤ 3) (h : ∀ x ∈ ns, Nm x) (hs : evE F false src ρ σ = .ok (.tup (iv ns)) σ) : evE F false (.comp (.p1 .toStr (.var n)) .val [src] none) ρ σ = .ok (.lst ((ns.map strN).map V.str)) σ := by
  have := zBD (F := F) (elt := .p1 .toStr (.var n)) (k := .val) (src := [src]) (cond := none) (ρ := ρ) (vs := [.tup (iv ns)]) (σ := σ) (σ₁ := σ) (l := ns) (φ := V.int) (fun _ => true) (fun x => .str (strN x)) (zAE hs rfl) rfl (.inl rfl) (Nat.lt_of_le_of_lt hl (by decide)) (fun _ _ => rfl) fun x hx _ => e_p1 (by rw [x_var]; unfold readVar; rw [List.getElem?_append_right (by omega), hn, Nat.sub_self]; rfl) (strN_ok (h x hx)).2
  rw [zAo] at this
  rw [this, List.map_map]; rfl
theorem strs_sm {ns : List Int} (h : ∀ x ∈ ns, Nm x) : ∀ t ∈ ns.map strN, Sm 30 t := fun t ht => by
  obtain ⟨x, hx, rfl⟩ := List.mem_map.mp ht
  exact (strN_ok (σ := []) (h x hx)).1
theorem zDb {a : CE} {x : V} {xs : List V} (ha : evE F false a ρ σ = .ok (.tup (x :: xs)) σ) : evE F false (.slice a (some (.lit (.int 1))) none) ρ σ = .ok (.tup xs) σ := by
  refine zGh ha rfl rfl ?_
  show some (V.tup (sliceL (x :: xs) (some 1) none)) = _
  unfold sliceL sliceStop sliceStart
  rw [List.take_length]
  show some (V.tup ((x :: xs).drop (min 1 (x :: xs).length))) = _
  rw [Nat.min_eq_left (by rw [List.length_cons]; omega)]; rfl
noncomputable def body105' : List CS := match zBQ.body with
  | [.ite _ [_, .for _ _ _ b, _] _, _] => b
  | _ => []
inductive Wrt (σ : Sto) (n m : Nat) (j : Nat) : List V → Sto → Prop
  | mk (ts : List Str) (x2 x3 : V) (hl : ts.length = j) (h : ∀ t ∈ ts, Sm 106 t) : Wrt σ n m j [.tup [.str sOrd, .ref n], .ref σ.length, x2, x3] (σ ++ [.list (ts.map V.str)])
theorem wrt_turn {n m j : Nat} {ρ : List V} {σ' : Sto} {v : V} (hj : j < 4) (hv : LineD v) (I : Wrt σ n m j ρ σ') : ∃ ρ' σ'', exL (callFn T08 d false) (callFn T08 d true) false body105' (ρ.set 2 v) σ' = .ok (.next ρ') σ'' ∧ Wrt σ n m (j + 1) ρ' σ'' := by
  cases I with
  | mk ts x2 x3 hl h =>
  obtain ⟨s, a, b, c, hs, ha, hb, hc, rfl⟩ := hv
  have hN : ∀ x ∈ [a, b, c], Nm x := fun x hx => by
    simp only [List.mem_cons, List.not_mem_nil, or_false] at hx
    rcases hx with rfl | rfl | rfl
    · exact ha
    · exact hb
    · exact hc
  generalize hσ : σ ++ [O.list (ts.map V.str)] = σ₁
  have h1 : σ₁[σ.length]? = some (.list (ts.map V.str)) := by rw [← hσ]; exact zBu
  have e3 := e_strs (F := callFn T08 d false) (σ := σ₁) (ρ := [.tup [.str sOrd, .ref n], .ref σ.length, .tup [.str s, .int a, .int b, .int c], x3]) (n := 4) (ns := [a, b, c]) rfl (show 3 ≤ 3 by decide) hN (zDb (a := .var 2) (x := .str s) (xs := iv [a, b, c]) rfl)
  obtain ⟨t1, ht1, et1⟩ := zCQ (F := callFn T08 d false) (q := false) (σ := σ₁) (ρ := [.tup [.str sOrd, .ref n], .ref σ.length, .tup [.str s, .int a, .int b, .int c], .lst (([a, b, c].map strN).map V.str)]) (a := .p2 .index (.var 2) (.lit (.int 0))) (b := .lit (.str (mkS [32]))) hs sp_sm (by decide) rfl rfl
  obtain ⟨t2, ht2, et2⟩ := e_join (F := callFn T08 d false) (σ := σ₁) (ρ := [.tup [.str sOrd, .ref n], .ref σ.length, .tup [.str s, .int a, .int b, .int c], .lst (([a, b, c].map strN).map V.str)]) (a := .lit (.str (mkS [32]))) (b := .var 3) (l := [a, b, c].map strN) (n := 3) sp_sm (strs_sm hN) (by rw [List.length_map]; exact Nat.le_refl _) (by decide) rfl rfl rfl
  obtain ⟨t3, ht3, et3⟩ := zCQ (F := callFn T08 d false) (q := false) ht1 ht2 (by decide) et1 et2
  refine ⟨_, _, s_asg e3 (s_exp (zHP (x := .ref σ.length) rfl (by show (listR _).isSome = true; rw [h1]; rfl) et3 (zGE _ h1 (by rw [List.length_map, hl]; exact Nat.lt_trans hj (by decide)))) s_nil), ?_⟩
  rw [← hσ, zGv, show ts.map V.str ++ [V.str t3] = (ts ++ [t3]).map V.str by rw [List.map_append]; rfl]
  refine .mk _ _ _ (by rw [List.length_append, hl]; rfl) fun t ht => ?_
  rcases List.mem_append.mp ht with ht | ht
  · exact h t ht
  · rw [List.mem_singleton.mp ht]; exact ht3.le (by decide)
theorem r_textOf {v : V} {σ₀ : Sto} (D : Dd σ₀ v σ) : ∃ t σ', Sm 438 t ∧ callFn T08 (d + 1) false 105 [v] σ = .ok (.str t) σ' := by
  cases D with
  | words w ns hw hs hn h =>
    have e3 := e_strs (F := callFn T08 d false) (σ := σ) (ρ := [.tup (.str w :: iv ns), .undef, .undef, .undef]) (n := 4) (ns := ns) rfl hn h (zDb (a := .var 0) (x := .str w) (xs := iv ns) rfl)
    obtain ⟨t1, ht1, et1⟩ := zCQ (F := callFn T08 d false) (q := false) (σ := σ) (ρ := [.tup (.str w :: iv ns), .undef, .undef, .undef]) (a := .p2 .index (.var 0) (.lit (.int 0))) (b := .lit (.str (mkS [32]))) hs sp_sm (by decide) (e_p2 rfl rfl (zBs σ _ _)) rfl
    obtain ⟨t2, ht2, et2⟩ := e_join (F := callFn T08 d false) (σ := σ) (ρ := [.tup (.str w :: iv ns), .undef, .undef, .undef]) (a := .lit (.str (mkS [32]))) (l := ns.map strN) (n := 3) sp_sm (strs_sm h) (by rw [List.length_map]; exact hn) (by decide) rfl e3 rfl
    obtain ⟨t3, ht3, et3⟩ := zCQ (F := callFn T08 d false) (q := false) ht1 ht2 (by decide) et1 et2
    exact ⟨t3, σ, ht3.le (by decide), zAD (fn := zBQ) rfl rfl (s_f (zAB (e_p2 (e_p2 rfl rfl (zBs σ _ _)) rfl (by rw [zDl]; exact congrArg (fun b => some (V.bool b)) hw))) (s_ret et3))⟩
  | order ls hl h =>
    obtain ⟨ρ', σ', ef, I⟩ := zHH (F := callFn T08 d false) (Fq := callFn T08 d true) (i := 2) (k := .val) (src := [.p2 .index (.var 0) (.lit (.int 1))]) (body := body105') (ρ := [.tup [.str sOrd, .ref σ₀.length], .ref (σ₀ ++ [O.list ls]).length, .undef, .undef]) (vs := [.ref σ₀.length]) (σ := (σ₀ ++ [.list ls]) ++ [.list []]) (σ₁ := (σ₀ ++ [.list ls]) ++ [.list []]) (it := .live σ₀.length) (xs := ls)
      (Wrt (σ₀ ++ [.list ls]) σ₀.length 0) rfl (zDG _ (zBt zBu)) (fun j ρ σ' I => by cases I with | mk ts x2 x3 hl h => exact .inr ⟨_, rfl, zBt zBu⟩) (.mk [] _ _ rfl (fun t ht => nomatch ht)) fun j x ρ σ' hx I =>
        wrt_turn (Nat.lt_of_lt_of_le (List.getElem?_eq_some_iff.mp hx).1 hl) (h x (List.mem_of_getElem? hx)) I
    cases I with
    | mk ts x2 x3 hts ht =>
    have g1 : ((σ₀ ++ [O.list ls]) ++ [O.list (ts.map V.str)])[(σ₀ ++ [O.list ls]).length]? = some (.list (ts.map V.str)) := zBu
    obtain ⟨t2, ht2, et2⟩ := e_join (F := callFn T08 d false) (σ := (σ₀ ++ [.list ls]) ++ [.list (ts.map V.str)]) (ρ := [.tup [.str sOrd, .ref σ₀.length], .ref (σ₀ ++ [O.list ls]).length, x2, x3]) (a := .lit (.str (mkS [44, 32]))) (b := .var 1) (l := ts) (n := 4) (j := 2) ⟨by unfold A7; decide, by decide⟩ ht (hts.symm ▸ hl) (by decide) rfl rfl (by show listR _ = _; rw [g1]; rfl)
    obtain ⟨t3, ht3, et3⟩ := zCQ (F := callFn T08 d false) (q := false) (a := .lit (.str (mkS [111, 114, 100, 101, 114, 32]))) (x := mkS [111, 114, 100, 101, 114, 32]) (j := 6) ⟨by unfold A7; decide, by decide⟩ ht2 (by decide) rfl et2
    have pre : ∀ {r : R Fl}, exL (callFn T08 d false) (callFn T08 d true) false (.for 2 .val [.p2 .index (.var 0) (.lit (.int 1))] body105' :: .ret (.p2 .add (.lit (.str (mkS [111, 114, 100, 101, 114, 32]))) (.sm .join (.lit (.str (mkS [44, 32]))) (.var 1))) :: zBQ.body.drop 1) [.tup [.str sOrd, .ref σ₀.length], .ref (σ₀ ++ [O.list ls]).length, .undef, .undef] ((σ₀ ++ [.list ls]) ++ [.list []]) = r → exL (callFn T08 d false) (callFn T08 d true) false zBQ.body ([.tup [.str sOrd, .ref σ₀.length]] ++ List.replicate (zBQ.slots - zBQ.params) .undef) (σ₀ ++ [.list ls]) = r := fun kk =>
      s_t (zAB rfl) (s_asg (v := .ref (σ₀ ++ [O.list ls]).length) rfl kk)
    exact ⟨t3, _, ht3.le (by decide), zAD (fn := zBQ) rfl rfl (pre (st_nx ef (s_ret et3)))⟩
theorem idx_A7 {s : Str} (hs : A7 s) {j : Nat} (hj : j < s.length) : ∃ t, Sm 1 t ∧ ev2 .index σ (.str s) (.int (j : Int)) = some (.str t) := by
  have hl : j < (codes s).length := hj
  refine ⟨mkS [(codes s)[j]], ⟨fun c hc => ?_, by rw [zAG]; exact Nat.le_refl _⟩, ?_⟩
  · rw [List.mem_singleton.mp hc]; exact hs _ (List.getElem_mem hl)
  · show ((normIndex s.length (j : Int)).bind fun k => (codes s)[k]?.map fun c => V.str (mkS [c])) = _
    rw [zAm hj]
    show ((codes s)[j]?.map fun c => V.str (mkS [c])) = _
    rw [List.getElem?_eq_getElem hl]; rfl
theorem Sm.slice {k : Nat} {x : Str} (hx : Sm k x) (l u : Option Int) : Sm k (Txt.slice x l u) := ⟨hx.1.slice l u, Nat.le_trans (Txt.slice_le x l u) hx.2⟩
noncomputable def some1 : Str := mkS [32, 44, 48, 49, 50, 51, 52, 53, 54, 55, 56, 57, 97, 98, 99, 100, 101, 102, 103, 104, 105, 106, 107, 108, 109, 110, 111, 112, 113, 114, 115, 116, 117, 118, 119, 120, 121, 122, 65, 66, 67, 68, 69, 70, 71, 72, 73, 74, 75, 76, 77, 78, 79, 80, 81, 82, 83, 84, 85, 86, 87, 88, 89, 90]
noncomputable def some2 : Str := mkS [33, 34, 35, 36, 38, 39, 40, 41, 42, 43, 45, 46, 47, 58, 59, 60, 61, 62, 63, 64, 91, 92, 93, 94, 95, 96, 123, 124, 125, 126]
noncomputable def some3 : Str := mkS [32, 44, 48, 97, 45, 57, 111]
theorem some_A7 : A7 (some1 ++ some2) ∧ (some1 ++ some2).length = 94 ∧ A7 some3 := ⟨A7.add (by unfold A7; decide) (by unfold A7; decide), by decide, by unfold A7; decide⟩
theorem zFB {t : Str} {k : Nat} (ht : Sm k t) (hk : k ≤ 2000) (c : Int) : ∃ t', Sm (k + 2 + k) t' ∧ callFn T08 (d + 1) false 111 [.str t, .int c] σ = .ok (.str t') σ := by
  obtain ⟨a1, a2, a3⟩ := some_A7
  obtain ⟨j, hj, hj2⟩ := zBC ((c * 48271).fmod 10007) (m := 94) (by decide)
  have hj : ((c * 48271).fmod 10007).fmod 94 = (j : Int) := hj
  obtain ⟨s1, hs1, e1⟩ := idx_A7 (σ := σ) a1 (j := j) (by rw [a2]; exact hj2)
  obtain ⟨i, hi, hi2⟩ := zBC c (m := 7) (by decide)
  have hi : c.fmod 7 = (i : Int) := hi
  obtain ⟨s2, hs2, e2⟩ := idx_A7 (σ := σ) a3 (j := i) hi2
  generalize hat : ((c * 48271).fmod 10037).fmod ((t.length : Int) + 1) = at'
  have pre : ∃ s, Sm 1 s ∧ ∀ {r : R Fl}, exL (callFn T08 d false) (callFn T08 d true) false (zAh.body.drop 6) [.str t, .int c, .str (some1 ++ some2), .str s, .int at', .int (c.fmod 4)] σ = r → exL (callFn T08 d false) (callFn T08 d true) false zAh.body ([.str t, .int c] ++ List.replicate (zAh.slots - zAh.params) .undef) σ = r := by
    have p4 : ∀ {s : V} {r : R Fl}, exL (callFn T08 d false) (callFn T08 d true) false (zAh.body.drop 6) [.str t, .int c, .str (some1 ++ some2), s, .int at', .int (c.fmod 4)] σ = r → exL (callFn T08 d false) (callFn T08 d true) false (zAh.body.drop 4) [.str t, .int c, .str (some1 ++ some2), s, .undef, .undef] σ = r := fun {s r} kk =>
      s_asg (by rw [← hat]; exact zHO (c := c) rfl rfl (e_p2 (e_p1 rfl (zDM σ t)) rfl rfl) rfl (by rw [beq_eq_false_iff_ne]; omega)) (s_asg (e_p2 rfl rfl (zAi σ c 4 rfl)) kk)
    have p3 : ∀ {r : R Fl}, exL (callFn T08 d false) (callFn T08 d true) false (zAh.body.drop 3) [.str t, .int c, .str (some1 ++ some2), .str s1, .undef, .undef] σ = r → exL (callFn T08 d false) (callFn T08 d true) false zAh.body ([.str t, .int c] ++ List.replicate (zAh.slots - zAh.params) .undef) σ = r := fun kk =>
      s_asg (v := .str some1) rfl (s_asg (v := .str (some1 ++ some2)) (e_cat (x := some1) (y := some2) rfl rfl (by decide)) (s_asg (e_p2 rfl (y := .int (j : Int)) (by rw [← hj]; exact zHO (c := c) rfl rfl rfl rfl rfl) e1) kk))
    cases hb : (((c * 48271).fmod 10009).fmod 2 == 1) with
    | true => exact ⟨s2, hs2, fun kk => p3 (s_t (zAB (t := true) (e_p2 (zHO (c := c) rfl rfl rfl rfl rfl) rfl (by rw [zHJ, hb]))) (s_asg (e_p2 (x := .str some3) rfl (y := .int (i : Int)) (by rw [← hi]; exact e_p2 rfl rfl (zAi σ c 7 rfl)) e2) (p4 kk)))⟩
    | false => exact ⟨s1, hs1, fun kk => p3 (s_f (zAB (t := false) (e_p2 (zHO (c := c) rfl rfl rfl rfl rfl) rfl (by rw [zHJ, hb]))) (p4 kk))⟩
  obtain ⟨s, hs, pre⟩ := pre
  have hk1 : k + 2 ≤ 10000 := by omega
  have hk2 : k + 2 + k ≤ 10000 := by omega
  have hs' : Sm 2 s := hs.le (by decide)
  have cut : ∀ {lo hi : Option CE} {x y : Option Int}, evO (callFn T08 d false) false lo [.str t, .int c, .str (some1 ++ some2), .str s, .int at', .int (c.fmod 4)] σ = .ok x σ → evO (callFn T08 d false) false hi [.str t, .int c, .str (some1 ++ some2), .str s, .int at', .int (c.fmod 4)] σ = .ok y σ → evE (callFn T08 d false) false (.slice (.var 0) lo hi) [.str t, .int c, .str (some1 ++ some2), .str s, .int at', .int (c.fmod 4)] σ = .ok (.str (Txt.slice t x y)) σ := fun h1 h2 => e_cut ht.1 rfl h1 h2
  have h01 : ∀ n : Int, evE (callFn T08 d false) false (.p2 .eq (.var 5) (.lit (.int n))) [.str t, .int c, .str (some1 ++ some2), .str s, .int at', .int (c.fmod 4)] σ = .ok (.bool (c.fmod 4 == n)) σ := fun n => rfl
  have T3 : ∀ {x y z : Str} {a b e : CE}, Sm k x → Sm 2 y → Sm k z → evE (callFn T08 d false) false a [.str t, .int c, .str (some1 ++ some2), .str s, .int at', .int (c.fmod 4)] σ = .ok (.str x) σ → evE (callFn T08 d false) false b [.str t, .int c, .str (some1 ++ some2), .str s, .int at', .int (c.fmod 4)] σ = .ok (.str y) σ → evE (callFn T08 d false) false e [.str t, .int c, .str (some1 ++ some2), .str s, .int at', .int (c.fmod 4)] σ = .ok (.str z) σ →
      ∃ t', Sm (k + 2 + k) t' ∧ evE (callFn T08 d false) false (.p2 .add (.p2 .add a b) e) [.str t, .int c, .str (some1 ++ some2), .str s, .int at', .int (c.fmod 4)] σ = .ok (.str t') σ := fun hx hy hz ea eb ee => by
    obtain ⟨u, hu, eu⟩ := zCQ hx hy hk1 ea eb
    exact zCQ hu hz hk2 eu ee
  cases h0 : (c.fmod 4 == 0) with
  | true =>
    obtain ⟨t', h1, h2⟩ := T3 (ht.slice none (some at')) hs' (ht.slice (some at') none) (cut (lo := none) (hi := some (.var 4)) rfl rfl) (b := .var 3) rfl (cut (lo := some (.var 4)) (hi := none) rfl rfl)
    exact ⟨t', h1, zAD (fn := zAh) rfl rfl (pre (s_t (zAB (by rw [h01, h0])) (s_ret h2)))⟩
  | false =>
  cases h1 : (c.fmod 4 == 1) with
  | true =>
    obtain ⟨t', g1, g2⟩ := T3 (ht.slice none (some at')) hs' (ht.slice (some (at' + 1)) none) (cut (lo := none) (hi := some (.var 4)) rfl rfl) (b := .var 3) rfl (cut (lo := some (.p2 .add (.var 4) (.lit (.int 1)))) (hi := none) rfl rfl)
    exact ⟨t', g1, zAD (fn := zAh) rfl rfl (pre (s_f (zAB (by rw [h01, h0])) (s_t (zAB (by rw [h01, h1])) (s_ret g2))))⟩
  | false =>
  cases h2 : (c.fmod 4 == 2) with
  | true =>
    obtain ⟨t', g1, g2⟩ := T3 (y := mkS [32, 55]) (ht.slice none (some at')) ⟨by unfold A7; decide, by decide⟩ (ht.slice (some at') none) (cut (lo := none) (hi := some (.var 4)) rfl rfl) (b := .lit (.str (mkS [32, 55]))) rfl (cut (lo := some (.var 4)) (hi := none) rfl rfl)
    exact ⟨t', g1, zAD (fn := zAh) rfl rfl (pre (s_f (zAB (by rw [h01, h0])) (s_f (zAB (by rw [h01, h1])) (s_t (zAB (by rw [h01, h2])) (s_ret g2)))))⟩
  | false =>
    obtain ⟨t', g1, g2⟩ := zCQ (ht.slice none (some at')) (ht.slice (some (at' + 1)) none) (Nat.le_trans (Nat.add_le_add_right (Nat.le_add_right k 2) k) hk2) (cut (lo := none) (hi := some (.var 4)) rfl rfl) (cut (lo := some (.p2 .add (.var 4) (.lit (.int 1)))) (hi := none) rfl rfl)
    exact ⟨t', g1.le (Nat.add_le_add_right (Nat.le_add_right k 2) k), zAD (fn := zAh) rfl rfl (pre (s_f (zAB (by rw [h01, h0])) (s_f (zAB (by rw [h01, h1])) (s_f (zAB (by rw [h01, h2])) (s_ret g2)))))⟩
end
end Mine
end

/-! # L08h -/
section
set_option autoImplicit false
namespace Mine
open PySem
noncomputable def odds : List Str := [mkS [], mkS [32], mkS [111, 114, 100, 101, 114], mkS [111, 114, 100, 101, 114, 32], mkS [111, 114, 100, 101, 114, 115, 32, 97, 32, 49, 32, 49, 32, 49], mkS [111, 114, 100, 101, 114, 32, 97, 32, 49, 32, 49], mkS [111, 114, 100, 101, 114, 32, 97, 32, 49, 32, 49, 32, 49, 32, 49], mkS [111, 114, 100, 101, 114, 32, 97, 32, 49, 32, 49, 32, 49, 44, 98, 32, 49, 32, 49, 32, 49],
  mkS [111, 114, 100, 101, 114, 32, 97, 32, 49, 32, 49, 32, 49, 44, 32, 32, 98, 32, 49, 32, 49, 32, 49], mkS [111, 114, 100, 101, 114, 32, 97, 32, 49, 32, 49, 32, 49, 44, 32], mkS [111, 114, 100, 101, 114, 32, 44, 32, 97, 32, 49, 32, 49, 32, 49], mkS [111, 114, 100, 101, 114, 32, 32, 97, 32, 49, 32, 49, 32, 49], mkS [79, 114, 100, 101, 114, 32, 97, 32, 49, 32, 49, 32, 49],
  mkS [112, 97, 121, 32, 49], mkS [112, 97, 121], mkS [112, 97, 121, 32, 49, 32, 50, 32, 51], mkS [112, 97, 121, 32, 48, 49, 32, 50], mkS [112, 97, 121, 32, 49, 32, 48, 48], mkS [112, 97, 121, 32, 45, 49, 32, 50], mkS [112, 97, 121, 32, 43, 49, 32, 50], mkS [112, 97, 121, 32, 49, 32, 50, 32], mkS [32, 112, 97, 121, 32, 49, 32, 50],
  mkS [112, 97, 121, 32, 32, 49, 32, 50], mkS [112, 97, 121, 115, 32, 49, 32, 50], mkS [109, 111, 118, 101, 32, 49, 32, 50], mkS [100, 101, 108, 105, 118, 101, 114, 32, 49, 32, 50, 32, 51, 32, 52], mkS [100, 101, 108, 105, 118, 101, 114, 32, 49, 32, 50, 32, 120], mkS [114, 101, 102, 117, 110, 100, 32, 49, 32, 49, 95, 48], mkS [110, 111, 110, 101],
  mkS [112, 97, 121, 32, 48, 32] ++ Txt.mul (mkS [49]) 31, mkS [111, 114, 100, 101, 114, 32, 97, 98, 99, 100, 101, 102, 103, 104, 105, 106, 107, 108, 109, 32, 49, 32, 49, 32, 49]]
set_option maxRecDepth 10000 in
theorem odds_sm : ∀ s ∈ odds, Sm 60 s := by unfold Sm A7; decide +kernel
section
variable {d : Nat} {q : Bool} {σ : Sto}
theorem r_odd (c : Int) : ∃ t, Sm 60 t ∧ callFn T08 (d + 1) false 112 [.int c] σ = .ok (.str t) σ := by
  obtain ⟨j, hj, hj2⟩ := zBC c (m := 31) (by decide)
  have hj : c.fmod 31 = (j : Int) := hj
  have hl : j < odds.length := hj2
  refine ⟨odds[j], odds_sm _ (List.getElem_mem hl), ?_⟩
  have m31 : ∀ {F : Calls} {ρ : List V}, evE F false (.p2 .mul (.lit (.str (mkS [49]))) (.lit (.int 31))) ρ σ = .ok (.str (Txt.mul (mkS [49]) 31)) σ := e_p2 rfl rfl (if_pos (by decide +kernel))
  have hi : ev2 .index σ (.lst (odds.map V.str)) (.int (j : Int)) = some (.str odds[j]) := zCB σ (by rw [List.getElem?_map, List.getElem?_eq_getElem hl]; rfl)
  refine zAD (fn := f08_112) rfl rfl (s_asg (v := .lst ((odds.take 8).map V.str)) rfl (s_asg (v := .lst ((odds.take 13).map V.str)) (e_p2 rfl rfl rfl) (s_asg (v := .lst ((odds.take 22).map V.str)) (e_p2 rfl rfl rfl) (s_asg (v := .lst ((odds.take 29).map V.str)) (e_p2 rfl rfl rfl)
    (s_asg (v := .lst (odds.map V.str)) (e_p2 rfl (zFw (zAE (e_cat (x := mkS [112, 97, 121, 32, 48, 32]) (y := Txt.mul (mkS [49]) 31) rfl m31 (by decide +kernel)) (zAE rfl rfl))) rfl) (s_ret (e_p2 rfl (y := .int (j : Int)) (by rw [← hj]; exact e_p2 rfl rfl (zAi σ c 31 rfl)) hi)))))))
noncomputable def Flat8 (v : V) : Prop := (∃ s, v = .str s) ∨ ∃ i, v = .int i
theorem r_parts {vs : List V} (h : ∀ v ∈ vs, Flat8 v) : callFn T08 (d + 2) false 109 [.tup vs, .tup vs] σ = .ok (.bool true) σ := by
  have hh : Has σ eqDepth (.tup vs) := by
    obtain ⟨ys, hy⟩ := has_all (σ := σ) (d := 7) (xs := vs) fun v hv => by
      rcases h v hv with ⟨s, rfl⟩ | ⟨i, rfl⟩
      · exact ⟨_, rfl⟩
      · exact ⟨_, rfl⟩
    exact ⟨.tuple ys, by show (vs.mapM (toPy σ 7)).map PyData.tuple = _; rw [hy]; rfl⟩
  obtain ⟨ρ', σ', e, x, rfl, rfl⟩ := zHH (F := callFn T08 (d + 1) false) (Fq := callFn T08 (d + 1) true) (i := 2) (k := .val) (src := [.var 0]) (body := match zGe.body with
      | [_, .for _ _ _ b, _] => b
      | _ => []) (ρ := [.tup vs, .tup vs, .undef]) (vs := [.tup vs]) (σ := σ) (σ₁ := σ) (it := .now vs) (xs := vs)
    (fun _ ρ σ' => ∃ x, ρ = [.tup vs, .tup vs, x] ∧ σ' = σ) rfl rfl (fun _ _ _ _ => .inl rfl) ⟨_, rfl, rfl⟩ fun j x ρ σ' hx hI => by
      obtain ⟨y, rfl, rfl⟩ := hI
      rcases h x (List.mem_of_getElem? hx) with ⟨s, rfl⟩ | ⟨i, rfl⟩
      · exact ⟨[.tup vs, .tup vs, .str s], _, s_f (zAB (e_and_f rfl rfl)) rfl, _, rfl, rfl⟩
      · exact ⟨[.tup vs, .tup vs, .int i], _, s_f (zAB (zDO (x := .bool true) rfl rfl (e_p1 (zAJ rfl (g_whole (d := d) (k := 101) rfl i)) rfl))) rfl, _, rfl, rfl⟩
  exact zAD (fn := zGe) rfl rfl (s_f (zAB (zAa rfl rfl (e_p2 rfl rfl (ne_same hh)))) (st_nx e (s_ret rfl)))
theorem r_alike {v : V} (D : DeedV v) : callFn T08 (d + 3) false 110 [v, v] σ = .ok (.bool true) σ := by
  cases D with
  | words w ns h =>
    refine zAD (fn := zEe) rfl rfl (s_t (zAB (e_p2 (e_p2 rfl rfl (zBs σ _ _)) rfl (by rw [ne_str]; show some (V.bool !(w == sOrd)) = _; rw [h]; rfl))) (s_ret (zAJ rfl (r_parts fun v hv => ?_))))
    rcases List.mem_cons.mp hv with rfl | hv
    · exact .inl ⟨_, rfl⟩
    · obtain ⟨i, _, rfl⟩ := List.mem_map.mp hv; exact .inr ⟨_, rfl⟩
  | order vs h hl =>
    have len1 : ∀ {F : Calls} {i : Nat} {x : V}, readVar [.tup [.str sOrd, .lst vs], .tup [.str sOrd, .lst vs], x] i = some (.tup [.str sOrd, .lst vs]) → evE F false (.p1 .len (.p2 .index (.var i) (.lit (.int 1)))) [.tup [.str sOrd, .lst vs], .tup [.str sOrd, .lst vs], x] σ = .ok (.int vs.length) σ := fun h => e_p1 (e_p2 (by rw [x_var, h]; rfl) rfl (zEa σ _ _ _)) rfl
    obtain ⟨ρ', σ', e, x, rfl, rfl⟩ := zHH (F := callFn T08 (d + 2) false) (Fq := callFn T08 (d + 2) true) (i := 2) (k := .range1) (src := [.p1 .len (.p2 .index (.var 1) (.lit (.int 1)))]) (body := match zEe.body with
        | [_, _, _, .for _ _ _ b, _] => b
        | _ => []) (ρ := [.tup [.str sOrd, .lst vs], .tup [.str sOrd, .lst vs], .undef]) (vs := [.int vs.length]) (σ := σ) (σ₁ := σ) (it := .now (rangeL 0 vs.length)) (xs := rangeL 0 vs.length)
      (fun _ ρ σ' => ∃ x, ρ = [.tup [.str sOrd, .lst vs], .tup [.str sOrd, .lst vs], x] ∧ σ' = σ) (zAE (len1 rfl) rfl) (zBE _ (Nat.le_of_lt hl)) (fun _ _ _ _ => .inl rfl) ⟨_, rfl, rfl⟩ fun j x ρ σ' hx hI => by
        obtain ⟨y, rfl, rfl⟩ := hI
        obtain ⟨rfl, hj⟩ := zFA hx
        have hv := List.getElem?_eq_getElem hj
        obtain ⟨s, a, b, c, hs⟩ := h _ (List.getElem_mem hj)
        rw [hs] at hv
        have ei : ∀ {F : Calls} {i : Nat}, readVar [.tup [.str sOrd, .lst vs], .tup [.str sOrd, .lst vs], .int (j : Int)] i = some (.tup [.str sOrd, .lst vs]) → evE F false (.p2 .index (.p2 .index (.var i) (.lit (.int 1))) (.var 2)) [.tup [.str sOrd, .lst vs], .tup [.str sOrd, .lst vs], .int (j : Int)] σ' = .ok (.tup [.str s, .int a, .int b, .int c]) σ' := fun h => e_p2 (e_p2 (by rw [x_var, h]; rfl) rfl (zEa σ' _ _ _)) rfl (zCB σ' hv)
        exact ⟨[.tup [.str sOrd, .lst vs], .tup [.str sOrd, .lst vs], .int j], _, s_f (zAB (e_p1 (zAJ (zAE (ei rfl) (zAE (ei rfl) rfl)) (r_parts (d := d) (vs := [.str s, .int a, .int b, .int c]) fun v hv => by
          simp only [List.mem_cons, List.not_mem_nil, or_false] at hv
          rcases hv with rfl | rfl | rfl | rfl
          · exact .inl ⟨_, rfl⟩
          · exact .inr ⟨_, rfl⟩
          · exact .inr ⟨_, rfl⟩
          · exact .inr ⟨_, rfl⟩)) rfl)) rfl, _, rfl, rfl⟩
    refine zAD (fn := zEe) rfl rfl (s_f (zAB (e_p2 (e_p2 rfl rfl (zBs _ _ _)) rfl rfl)) (s_f (zAB (zAa rfl rfl (zAa (x := .bool false) rfl rfl (e_p2 (e_p2 rfl rfl (zBs _ _ _)) rfl rfl)))) (s_f (zAB (zAa (x := .bool false) (e_p1 (e_p1 (e_p2 rfl rfl (zEa _ _ _ _)) rfl) rfl) rfl (e_p2 (len1 rfl) (len1 rfl) ?_))) (st_nx e (s_ret rfl)))))
    rw [ev2_ne, bne_self_eq_false]
theorem r_refused {t : Str} (h : callFn T08 (d + 3) false 31 [.str t] σ = .exc .NoDeed σ) : callFn T08 (d + 4) false 114 [.str t] σ = .ok (.bool true) σ := by
  refine zAD (fn := f08_114) rfl rfl ?_
  show exL _ _ false [.try .exp (.call 31 [.var 0]) _, _] [.str t, .undef] σ = _
  rw [zBA, x_try, if_neg (by decide), zAJ (r := .exc .NoDeed σ) rfl h]; rfl
theorem law08_end {l : List Int} {t : Str} {x2 : V} (ht : Sm 8900 t) : exL (callFn T08 (d + 4) false) (callFn T08 (d + 4) true) false (zAw.body.drop 5) [.lst (iv l), .str t, x2, .undef, .undef, .undef] σ = .ok (.ret (.bool true)) σ := by
  cases both ht.1 ht.2 with
  | mk o h1 h2 h3 =>
  have h31 : callFn T08 (d + 4) false 31 [.str t] σ = endsBy σ id o := h1 (d + 1) σ
  have h108 : callFn T08 (d + 4) false 108 [.str t] σ = .ok (o.getD .none) σ := h2 (d + 1) σ
  refine s_asg (zAJ rfl h108) (s_asg (v := .bool false) rfl (s_asg (v := .none) rfl ?_))
  cases o with
  | none =>
    have hr : exS (callFn T08 (d + 4) false) (callFn T08 (d + 4) true) false (.try (.asg 5) (.call 31 [.var 1]) [{ cls := .NoDeed, as := none, tk := .asg 4, e := .lit (.bool true) }]) [.lst (iv l), .str t, x2, .none, .bool false, .none] σ = .ok (.next [.lst (iv l), .str t, x2, .none, .bool true, .none]) σ := by
      rw [x_try, if_neg (by decide), zAJ (r := .exc .NoDeed σ) rfl h31]; rfl
    have hx : callFn T08 (d + 3) false 31 [.str t] σ = .exc .NoDeed σ := h1 d σ
    exact st_nx hr (s_t (zAB rfl) (s_ret (zDO (x := .bool true) rfl rfl (zAJ rfl (r_refused hx)))))
  | some v =>
    have D := h3 v rfl
    have hr : exS (callFn T08 (d + 4) false) (callFn T08 (d + 4) true) false (.try (.asg 5) (.call 31 [.var 1]) [{ cls := .NoDeed, as := none, tk := .asg 4, e := .lit (.bool true) }]) [.lst (iv l), .str t, x2, v, .bool false, .none] σ = .ok (.next [.lst (iv l), .str t, x2, v, .bool false, v]) σ := by
      rw [x_try, if_neg (by decide), zAJ (r := .ok v σ) rfl h31]; rfl
    have al := r_alike (d := d + 1) (σ := σ) D
    cases D with
    | words w ns h => exact st_nx hr (s_f (zAB rfl) (s_ret (zDO (x := .bool true) rfl rfl (zAJ rfl al))))
    | order vs h hl => exact st_nx hr (s_f (zAB rfl) (s_ret (zDO (x := .bool true) rfl rfl (zAJ rfl al))))
theorem law08 (l : List Int) (hl : l.length ≤ 63) : ∃ σ', callFn T08 (d + 5) false 115 [.lst (iv l)] [] = .ok (.bool true) σ' := by
  obtain ⟨v, σ₁, e1, D⟩ := r_anyDeed (d := d + 2) (σ := []) l
  obtain ⟨t, σ₂, ht, e2⟩ := r_textOf (d := d + 3) D
  obtain ⟨w, hw, hw2⟩ := zBC (gI l 9) (m := 8) (by decide)
  have hw : (gI l 9).fmod 8 = (w : Int) := hw
  have c10 : ∀ {x1 x2 : V}, evE (callFn T08 (d + 4) false) false (.call 100 [.var 0, .lit (.int 10)]) [.lst (iv l), x1, x2, .undef, .undef, .undef] σ₂ = .ok (.int (gI l 10)) σ₂ := fun {x1 x2} => zAJ rfl (zCL l 10)
  have c11 : ∀ {x1 x2 : V}, evE (callFn T08 (d + 4) false) false (.call 100 [.var 0, .lit (.int 11)]) [.lst (iv l), x1, x2, .undef, .undef, .undef] σ₂ = .ok (.int (gI l 11)) σ₂ := fun {x1 x2} => zAJ rfl (zCL l 11)
  have p1 : ∃ t1, Sm 878 t1 ∧ ∀ {r : R Fl}, exL (callFn T08 (d + 4) false) (callFn T08 (d + 4) true) false (zAw.body.drop 3) [.lst (iv l), .str t1, .int w, .undef, .undef, .undef] σ₂ = r → exL (callFn T08 (d + 4) false) (callFn T08 (d + 4) true) false zAw.body [.lst (iv l), .undef, .undef, .undef, .undef, .undef] [] = r := by
    have p0 : ∀ {r : R Fl}, exL (callFn T08 (d + 4) false) (callFn T08 (d + 4) true) false (zAw.body.drop 2) [.lst (iv l), .str t, .int w, .undef, .undef, .undef] σ₂ = r → exL (callFn T08 (d + 4) false) (callFn T08 (d + 4) true) false zAw.body [.lst (iv l), .undef, .undef, .undef, .undef, .undef] [] = r := fun kk =>
      s_asg (v := .str t) (zAJ (zAE (zAJ rfl e1) rfl) e2) (s_asg (v := .int w) (by rw [← hw]; exact e_p2 (zAJ rfl (zCL l 9)) rfl (zAi _ _ 8 rfl)) kk)
    by_cases h : (w : Int) > 0
    · obtain ⟨t1, h1, e⟩ := zFB (d := d + 3) (σ := σ₂) ht (by decide) (gI l 10)
      exact ⟨t1, h1, fun kk => p0 (s_t (zAB (t := true) (e_p2 rfl rfl (by rw [ev2_gt, decide_eq_true h]))) (s_asg (zAJ (zAE rfl (zAE c10 rfl)) e) kk))⟩
    · exact ⟨t, ht.le (by decide), fun kk => p0 (s_f (zAB (t := false) (e_p2 rfl rfl (by rw [ev2_gt, decide_eq_false h]))) kk)⟩
  obtain ⟨t1, ht1, p1⟩ := p1
  have p2 : ∃ t2, Sm 1758 t2 ∧ ∀ {r : R Fl}, exL (callFn T08 (d + 4) false) (callFn T08 (d + 4) true) false (zAw.body.drop 4) [.lst (iv l), .str t2, .int w, .undef, .undef, .undef] σ₂ = r → exL (callFn T08 (d + 4) false) (callFn T08 (d + 4) true) false zAw.body [.lst (iv l), .undef, .undef, .undef, .undef, .undef] [] = r := by
    cases h : ((w : Int) == 1) with
    | true =>
      obtain ⟨t2, h1, e⟩ := zFB (d := d + 3) (σ := σ₂) ht1 (by decide) (gI l 11)
      exact ⟨t2, h1, fun kk => p1 (s_t (zAB (t := true) (e_p2 rfl rfl (by rw [zHJ, h]))) (s_asg (zAJ (zAE rfl (zAE c11 rfl)) e) kk))⟩
    | false => exact ⟨t1, ht1.le (by decide), fun kk => p1 (s_f (zAB (t := false) (e_p2 rfl rfl (by rw [zHJ, h]))) kk)⟩
  obtain ⟨t2, ht2, p2⟩ := p2
  have p3 : ∃ t3, Sm 8900 t3 ∧ ∀ {r : R Fl}, exL (callFn T08 (d + 4) false) (callFn T08 (d + 4) true) false (zAw.body.drop 5) [.lst (iv l), .str t3, .int w, .undef, .undef, .undef] σ₂ = r → exL (callFn T08 (d + 4) false) (callFn T08 (d + 4) true) false zAw.body [.lst (iv l), .undef, .undef, .undef, .undef, .undef] [] = r := by
    have ec : evE (callFn T08 (d + 4) false) false (.or (.p2 .eq (.var 2) (.lit (.int 2))) (.p2 .eq (.var 2) (.lit (.int 3)))) [.lst (iv l), .str t2, .int w, .undef, .undef, .undef] σ₂ = .ok (.bool (((w : Int) == 2) || ((w : Int) == 3))) σ₂ := e_or (e_p2 rfl rfl rfl) (e_p2 rfl rfl rfl)
    cases h : (((w : Int) == 2) || ((w : Int) == 3)) with
    | true =>
      rw [h] at ec
      obtain ⟨t3, h1, e⟩ := r_odd (d := d + 3) (σ := σ₂) (gI l 10)
      exact ⟨t3, h1.le (by decide), fun kk => p2 (s_t (zAB ec) (s_asg (zAJ (zAE c10 rfl) e) kk))⟩
    | false =>
      rw [h] at ec
      exact ⟨t2, ht2.le (by decide), fun kk => p2 (s_f (zAB ec) kk)⟩
  obtain ⟨t3, ht3, p3⟩ := p3
  exact ⟨σ₂, zAD (fn := zAw) rfl rfl (p3 (law08_end ht3))⟩
end
end Mine
end

/-! # CutG -/
section
set_option autoImplicit false
open PySem PySem.W PyProof.Rows
namespace Mine
noncomputable def pRows : List (Str × Int) := [("order", 2), ("deliver", 4), ("back", 4), ("swap", 4), ("credit", 4), ("pay", 3), ("refund", 3), ("move", 4)]
noncomputable def pEsT (P : Params) (ts : List (Nat × Nat)) : List DictEntry := (pRows.zip ts).map fun q => ⟨PyData.keyHash P q.1.1, .str q.1.1 q.2.1, .int q.1.2 q.2.2⟩
noncomputable def pObjT (P : Params) (ts : List (Nat × Nat)) : Obj := { cls := .type "dict", data := .dict (pEsT P ts).toArray 8 }
noncomputable def linedRows : List Str := ["deliver", "back", "swap", "credit"]
noncomputable def linedObj (ts : List Nat) : Obj := { cls := .type "tuple", data := .seq ((linedRows.zip ts).map fun q => Value.str q.1 q.2).toArray }
noncomputable def mroAt (h : Heap) (x : Str) : Option (Addr × List Value) := match h.nsMap mainGlobals x with
  | some (.ref a) => (h.get? a).bind fun o => match o.data with
    | .cls cd => if h.isNs cd.ns && (h.nsMap cd.ns "__class__").isNone then some (a, cd.mro) else none
    | _ => none
  | _ => none
theorem zGX {p q : Program} {loose : List Str} {Xt : Shared → Bool} {α : Type} {Yf : Shared → α} {Ya : World → α} {N : Nat} {m₀ : Nat} {ann : Option Value} {n M : Nat} {sc : World → OsState → Shared} {th : Thread}
    (e : opening p = plainProg p.main.scope.names) (hN : Nat.ble 600 N = true) (f : ∀ s, fenceModules? p s = some s)
    (size : ∀ w : World, ((boot_heap w.params).isNs mainGlobals && (Array.mk [] : Array GenState).size == 0, (boot_heap w.params).objs.size, (boot_heap w.params).nsMap mainGlobals "__annotations__") = (true, m₀, ann))
    (run : ∀ (w : World) (os : OsState) (r : Shared), topRun treeTable p w m₀ ann M (sc w os) th = some r → topRun treeTable p w m₀ ann (n + M) ⟨boot_heap w.params, Array.mk [], boot_drawn, boot_toks, os⟩ (topStub p) = some r) (le : Nat.ble (n + M) N = true)
    (looks : ∀ w : World, (fun os => (topRun treeTable p w m₀ ann M (sc w os) th).map fun s₁ => ((staticsOk (importedModules p.main.body) (boot_heap w.params) s₁.heap && namesBound p s₁.heap && gensDone s₁ && laidKept (boot_heap w.params) s₁.heap),
        openSeen q loose (importedModules p.main.body) Xt true s₁, Yf s₁)) = fun _ => some (true, openGood q loose, Ya w)) : LeftO p q loose Xt Yf Ya N := fun w => by
  obtain ⟨⟨h, gs, d, k, os⟩, e1, e'⟩ := Option.map_eq_some_iff.mp (boot_open e hN f w)
  obtain ⟨rfl, rfl, rfl, rfl⟩ : h = boot_heap w.params ∧ gs = Array.mk [] ∧ d = boot_drawn ∧ k = boot_toks := by simpa using e'
  obtain ⟨z1, z2, z3⟩ : _ ∧ _ ∧ _ := by simpa only [Prod.mk.injEq] using size w
  obtain ⟨s₁, r0, l0⟩ := Option.map_eq_some_iff.mp (congrFun (looks w) os)
  obtain ⟨l1, l2, l3⟩ : _ ∧ _ ∧ _ := by simpa only [Prod.mk.injEq] using l0
  have r := topRun_mono (N - (n + M)) _ _ _ _ (run w os s₁ r0)
  rw [show n + M + (N - (n + M)) = N by have := Nat.le_of_ble_eq_true le; omega] at r
  have t : topFrom treeTable p w N ⟨boot_heap w.params, Array.mk [], boot_drawn, boot_toks, os⟩ = some s₁ := by
    unfold topFrom
    dsimp only
    rw [z1, z2, z3, r]
    show (match staticsOk (importedModules p.main.body) (boot_heap w.params) s₁.heap && namesBound p s₁.heap && gensDone s₁ && laidKept (boot_heap w.params) s₁.heap with | true => _ | false => _) = _
    rw [l1]
  unfold openEnds
  rw [e1]
  show (topFrom treeTable p w N ⟨boot_heap w.params, Array.mk [], boot_drawn, boot_toks, os⟩).map _ = _
  rw [t]
  show some (openSeen q loose (importedModules p.main.body) Xt true s₁, Yf s₁) = _
  rw [l2, l3]
section
variable {p : Program} {w : World} {m₀ : Nat} {ann : Option Value} {env : Env} {q : Pos} {b : List Stmt}
theorem cut_first {n₀ nb n N i : Nat} {s₀ s' r : Shared} {c : Code} {pos pb p' : Pos} (hc : c = .body b env)
    (pre : (topGo treeTable p w m₀ ann n₀ s₀ (topStub p)).map (·.2) = some ⟨denote treeTable c, c, pos, [topFrame q]⟩)
    (blk : ((topGo treeTable p w m₀ ann n₀ s₀ (topStub p)).bind fun x => segRun treeTable p w m₀ ann 1 nb x.1 (blockOf b env c pos [topFrame q])).map (fun y => (y.1, y.2.2)) = some (.next, c, pb))
    (g : (((topGo treeTable p w m₀ ann n₀ s₀ (topStub p)).bind fun x => segRun treeTable p w m₀ ann 1 nb x.1 (blockOf b env c pos [topFrame q])).bind fun y => segRun treeTable p w m₀ ann 1 n y.2.1 (piecesOf ((b.take i).drop 0) env c pb [topFrame q])) = some (.next, s', c, p'))
    (k : topRun treeTable p w m₀ ann N s' (restOf (b.drop i) env c p' [topFrame q]) = some r) : topRun treeTable p w m₀ ann (n₀ + (nb + (n + N))) s₀ (topStub p) = some r := by
  obtain ⟨⟨sa, ta⟩, a1, a2⟩ := Option.map_eq_some_iff.mp pre
  have a2 : ta = _ := a2
  subst a2
  rw [a1] at blk g
  obtain ⟨⟨f1, sb, cb, pb'⟩, b1, b2⟩ := Option.map_eq_some_iff.mp blk
  cases b2
  have b1 : segRun treeTable p w m₀ ann 1 nb sa (blockOf b env c pos [topFrame q]) = some (.next, sb, c, pb) := b1
  have g : ((segRun treeTable p w m₀ ann 1 nb sa (blockOf b env c pos [topFrame q])).bind fun y => segRun treeTable p w m₀ ann 1 n y.2.1 (piecesOf ((b.take i).drop 0) env c pb [topFrame q])) = _ := g
  rw [b1] at g
  have g : segRun treeTable p w m₀ ann 1 n sb (piecesOf (b.take i) env c pb [topFrame q]) = some (.next, s', c, p') := g
  refine go_top a1 ?_
  have := piece_block b1 (k := by
    have := piece_app g k
    rwa [List.take_append_drop] at this)
  rwa [hc] at this ⊢
theorem zEj {n N i j : Nat} {s s' r : Shared} {c : Code} {pos p' : Pos} (hij : i ≤ j) (g : segRun treeTable p w m₀ ann 1 n s (piecesOf ((b.take j).drop i) env c pos [topFrame q]) = some (.next, s', c, p'))
    (k : topRun treeTable p w m₀ ann N s' (restOf (b.drop j) env c p' [topFrame q]) = some r) : topRun treeTable p w m₀ ann (n + N) s (restOf (b.drop i) env c pos [topFrame q]) = some r := by
  have e : b.drop i = (b.take j).drop i ++ b.drop j := by
    rw [List.drop_take]
    have : b.drop j = (b.drop i).drop (j - i) := by rw [List.drop_drop]; congr 1; omega
    rw [this, List.take_append_drop]
  rw [e]
  exact piece_app g k
end
end Mine
end

/-! # LinkB -/
section
set_option autoImplicit false
namespace Mine
open PySem PySem.W PyProof.Rows
inductive Says (P : Params) (pa la : Addr) (pt : List (Nat × Nat)) (lt : List Nat) (ms : List (Str × Addr × List Value)) (h : Heap) : Prop
  | mk (mg : Str → Option Value) (N : h.Ns mainGlobals mg) (e1 : mg ("PARTS" : Str) = some (.ref pa)) (e2 : h.get? pa = some (pObjT P pt)) (e3 : mg ("LINED" : Str) = some (.ref la)) (e4 : h.get? la = some (linedObj lt))
      (e5 : ∀ q ∈ ms, mg q.1 = some (.ref q.2.1) ∧ ∃ o cd, h.get? q.2.1 = some o ∧ o.data = .cls cd ∧ cd.mro = q.2.2 ∧ ∃ m, h.Ns cd.ns m ∧ m "__class__" = none)
theorem mroAt_some {h : Heap} {x : Str} {a : Addr} {m : List Value} (e : mroAt h x = some (a, m)) : h.nsMap mainGlobals x = some (.ref a) ∧ ∃ o cd, h.get? a = some o ∧ o.data = .cls cd ∧ cd.mro = m ∧ ∃ m, h.Ns cd.ns m ∧ m "__class__" = none := by
  unfold mroAt at e
  split at e
  · rename_i a' ha
    obtain ⟨o, ho, e⟩ := Option.bind_eq_some_iff.mp e
    split at e
    · rename_i cd hd
      split at e
      · rename_i hn
        cases e
        rw [Bool.and_eq_true] at hn
        exact ⟨ha, o, cd, ho, hd, rfl, _, .of_isNs hn.1, Option.isNone_iff_eq_none.mp hn.2⟩
      · cases e
    · cases e
  · cases e
theorem Says.keeps {P : Params} {pa la : Addr} {pt : List (Nat × Nat)} {lt : List Nat} {ms : List (Str × Addr × List Value)} {h h' : Heap} (s : Says P pa la pt lt ms h) (k : ∀ b o, h.get? b = some o → h'.get? b = some o) : Says P pa la pt lt ms h' := by
  obtain ⟨mg, ⟨o, es, ep, a, b⟩, e1, e2, e3, e4, e5⟩ := s
  exact .mk mg ⟨o, es, ep, k _ _ a, b⟩ e1 (k _ _ e2) e3 (k _ _ e4) fun q hq => by
    obtain ⟨h1, o, cd, h2, h3, h4, m, hN, hm⟩ := e5 q hq
    exact ⟨h1, o, cd, k _ _ h2, h3, h4, m, hN.keeps k, hm⟩
theorem zGP (P : Params) (x : Str) (ts : List (Nat × Nat)) (hl : ts.length = 8) : ∃ t, ((pEsT P ts).find? fun e => Value.isStrOf x e.key).map (·.val) = ((partsTable.find? fun p => p.1 == x).map fun p => Value.int p.2 t) := by
  have key : ∀ (l : List ((Str × Int) × (Nat × Nat))), ∃ t, ((l.map fun q => (⟨PyData.keyHash P q.1.1, .str q.1.1 q.2.1, .int q.1.2 q.2.2⟩ : DictEntry)).find? fun e => Value.isStrOf x e.key).map (·.val) = (((l.map fun q => q.1).find? fun p => p.1 == x).map fun p => Value.int p.2 t) := by
    intro l
    induction l with
    | nil => exact ⟨0, rfl⟩
    | cons q l ih =>
      rw [List.map_cons, List.map_cons, List.find?_cons, List.find?_cons]
      have hq : Value.isStrOf x (Value.str q.1.1 q.2.1) = (q.1.1 == x) := rfl
      simp only [hq]
      cases h : (q.1.1 == x) with
      | true => exact ⟨q.2.2, rfl⟩
      | false => exact ih
  have := key (pRows.zip ts)
  rwa [show ((pRows.zip ts).map fun q => q.1) = partsTable from List.map_fst_zip (by rw [hl]; decide)] at this
theorem partsT_at {S : Stat} {dA : Addr} {ts : List (Nat × Nat)} (hl : ts.length = 8) (hp : S.parts = .ref dA) (hd : (dA == sysModules) = false) (ho : S.hb.get? dA = some (pObjT S.w.params ts)) : PartsAt S S.hb := fun _ => by
  refine ⟨dA, fun x => ((pEsT S.w.params ts).find? fun e => Value.isStrOf x e.key).map (·.val), hp, hd, ⟨_, (pEsT S.w.params ts).toArray, 8, ho, ⟨rfl, rfl, rfl⟩, rfl, fun e he => ?_, fun k => ?_⟩, fun x => zGP _ x ts hl⟩
  · have he : e ∈ pEsT S.w.params ts := by simpa using he
    obtain ⟨q, _, rfl⟩ := List.mem_map.mp he
    exact ⟨_, beq_self_eq_true _, rfl⟩
  · show ((pEsT S.w.params ts).toArray.find? _).map _ = _
    rw [List.find?_toArray]; rfl
section
variable {p : Program} {loose : List Str} {mean : ExcName → Option Value} {mg mb : Str → Option Value} {S : Stat}
theorem zEt {h : Heap} {a : Addr} {c0 : Value} {dd : Option Addr} {cd : ClassData} {sl : Array (Option Value)} {mA : Str → Option Value} {tl : List Value} (hA : h.get? a = some { cls := c0, dict := dd, data := .cls cd, slots := sl }) (hN : h.Ns cd.ns mA) (hq : ∀ n ∈ quietNames, mA n = none) (hm : ∃ m, h.Ns cd.ns m ∧ m "__class__" = none) (T : TailC h tl) : TailC h (.ref a :: tl) := by
  obtain ⟨m, h1, h2⟩ := hm
  obtain rfl : m = mA := by rw [h1.eq_nsMap, hN.eq_nsMap]
  refine .own hA hN (fun n hn => ?_) T
  simp only [clsNames, List.mem_cons, List.not_mem_nil, or_false] at hn
  rcases hn with rfl | rfl | rfl
  · exact hq _ (.tail _ (.head _))
  · exact hq _ (.tail _ (.tail _ (.head _)))
  · exact h2
theorem excCl_of (T : Top p loose mean mg mb S.hb) {x : Str} {c : Cls} {a : Addr} {bm : List Value} (hs : specOf p x = some ("ValueError.__new__", bmV)) (hg : mg x = some (.ref a)) (hm : ∃ o cd, S.hb.get? a = some o ∧ o.data = .cls cd ∧ cd.mro = .ref a :: bm ∧ ∃ m, S.hb.Ns cd.ns m ∧ m "__class__" = none)
    (ht : bm = bmV ∨ ∃ b, bm = .ref b :: bmV ∧ ∃ o cd, S.hb.get? b = some o ∧ o.data = .cls cd ∧ ∃ m, S.hb.Ns cd.ns m ∧ m "__class__" = none)
    (hcl : S.cl c = .ref a) (hkn : ∀ d ∈ S.kn, (Value.ref a :: bm).contains (S.cl d) = c.sub d) : ExcCl S c := by
  obtain ⟨C, O, _⟩ := T.ownAt hs
  obtain ⟨_, bm'', N', nm', q', bs', hdct', sn', sub', ab', col', dd', k0', k1', k2', k3', k5', mN', hC', hN', hi', OTQ⟩ := id O
  obtain ⟨hb, bm', N, nm, q, bs, hdct, sn, sub, ab, col, dd, k0, k1, k2, k3, k5, mN, hC, hN, hi, OT⟩ := O.own
  rw [hg] at hb
  cases hb
  obtain ⟨o, cd, h1, h2, h3, m, h4, h5⟩ := hm
  rw [hC] at h1
  cases h1
  cases h2
  obtain rfl : bm' = bm := by injection h3
  refine .mk a bm' N nm q bs hdct sn sub ab col dd k0 k1 k2 k3 k5 mN hcl hC hN hi OT hkn
    ?_
  rw [hC] at hC'
  cases hC'
  refine zEt hC hN' hi' ⟨m, h4, h5⟩ ?_
  rcases ht with rfl | ⟨b, rfl, o, cd, g1, g2, g3⟩
  · exact .base
  · cases OTQ with
    | own hA hM hq _ =>
      rw [hA] at g1
      cases g1
      cases g2
      exact zEt hA hM hq g3 .base
end
end Mine
end

/-! # LinkC -/
section
set_option autoImplicit false
namespace Mine
open PySem PySem.W PyProof.Rows
inductive ConstOk (v : Program) (x : Str) : V → Prop
  | int (i : Int) (h : valOf v x = some (.int i)) : ConstOk v x (.int i)
  | str (y : Str) (h : valOf v x = some (.str y)) (hl : y.length ≤ LIM) (hk : PyData.strOk y = true) : ConstOk v x (.str y)
structure Ex where
  name : Str
  c : Cls
  a : Addr
  bm : List Value
end Mine
end

/-! # LinkN -/
section
set_option autoImplicit false
namespace Mine
open PySem PySem.W PyProof.Rows
inductive SaysN (P : Params) (pa : Addr) (pt : List (Nat × Nat)) (ms : List (Str × Addr × List Value)) (h : Heap) : Prop
  | mk (mg : Str → Option Value) (N : h.Ns mainGlobals mg) (e1 : mg ("PARTS" : Str) = some (.ref pa)) (e2 : h.get? pa = some (pObjT P pt))
      (e5 : ∀ q ∈ ms, mg q.1 = some (.ref q.2.1) ∧ ∃ o cd, h.get? q.2.1 = some o ∧ o.data = .cls cd ∧ cd.mro = q.2.2 ∧ ∃ m, h.Ns cd.ns m ∧ m "__class__" = none)
theorem saysN_of {P : Params} {pa : Addr} {pt : List (Nat × Nat)} {ms : List (Str × Addr × List Value)} {h : Heap}
    (e : (h.isNs mainGlobals, h.nsMap mainGlobals "PARTS", h.get? pa, ms.map fun q => mroAt h q.1) = (true, some (.ref pa), some (pObjT P pt), ms.map fun q => some q.2)) : SaysN P pa pt ms h := by
  simp only [Prod.mk.injEq] at e
  obtain ⟨h0, h1, h2, h5⟩ := e
  refine .mk _ (.of_isNs h0) h1 h2 fun q hq => ?_
  obtain ⟨x, a, m⟩ := q
  exact mroAt_some (List.map_inj_left.mp h5 _ hq)
theorem SaysN.keeps {P : Params} {pa : Addr} {pt : List (Nat × Nat)} {ms : List (Str × Addr × List Value)} {h h' : Heap} (s : SaysN P pa pt ms h) (k : ∀ b o, h.get? b = some o → h'.get? b = some o) : SaysN P pa pt ms h' := by
  obtain ⟨mg, ⟨o, es, ep, a, b⟩, e1, e2, e5⟩ := s
  exact .mk mg ⟨o, es, ep, k _ _ a, b⟩ e1 (k _ _ e2) fun q hq => by
    obtain ⟨h1, o, cd, h2, h3, h4, m, hN, hm⟩ := e5 q hq
    exact ⟨h1, o, cd, k _ _ h2, h3, h4, m, hN.keeps k, hm⟩
structure NoteLaw (v : Program) (loose : List Str) (C : Ctx) (tF : List (Nat × Fn)) (base : List (Str × V)) (ex : List Ex) (cl : Cls → Value) (kn : List Cls) : Prop where
  k1 : tabF C (recsOf v) = some tF
  k2 : fnsOk C (recsOf v) = true
  k3 : ((recsOf v).map (·.name)).Nodup
  k4 : freeOk v loose C = true
  hc : C.consts = base ++ [(("PARTS" : Str), .parts)]
  hb : ∀ q ∈ base, ConstOk v q.1 q.2
  hx : C.excs = ex.map fun q => (q.name, q.c)
  hs : ∀ q ∈ ex, specOf v q.name = some ("ValueError.__new__", bmV)
  hcl : ∀ q ∈ ex, cl q.c = .ref q.a
  hbm : ∀ q ∈ ex, q.bm = bmV ∨ ∃ q' ∈ ex, q.bm = .ref q'.a :: bmV
  hkn : ∀ q ∈ ex, q.c ∈ kn ∧ ∀ d ∈ kn, (Value.ref q.a :: q.bm).contains (cl d) = q.c.sub d
  nb : C.book = false ∧ C.meths = [] ∧ C.attrs = []
  cln : Clean C
theorem note_walk {v p : Program} {loose : List Str} {w : World} {s₁ : Shared} {mean : ExcName → Option Value} {mg mb : Str → Option Value} {C : Ctx} {tF : List (Nat × Fn)} {base : List (Str × V)} {ex : List Ex} {cl : Cls → Value} {kn : List Cls} {pa : Addr} {pt : List (Nat × Nat)} {a fa : Addr} {ns : List Int} {d k : Nat}
    (BL : NoteLaw v loose C tF base ex cl kn) (T : Top v loose mean mg mb s₁.heap) (Y : SaysN w.params pa pt (ex.map fun q => (q.name, q.a, .ref q.a :: q.bm)) s₁.heap) (hpt : pt.length = 8) (hd : (pa == sysModules) = false)
    (hk : C.fns.find? (fun r => r.2 == k) = some (("law" : Str), k)) (hmg : mg ("law" : Str) = some (.ref fa)) (W : Well w.params s₁.heap (.ref a) (ofPy (.list (ns.map PyData.int)))) (hlen : ns.length ≤ 63) (hd1 : d ≤ 100)
    (hres : ∃ σ', callFn (fun k => tF.lookup k) d false k [.lst (ns.map V.int)] [] = .ok (.bool true) σ') :
    codeAny (model p w) callerA (.call (.ref fa) ⟨[.ref a], []⟩) (fun r s' => r = .ok (.ret (.bool true)) ∧ (∀ b o, s₁.heap.get? b = some o → s'.heap.get? b = some o) ∧ s'.os = s₁.os ∧ s'.gens = s₁.gens) s₁ := by
  obtain ⟨mg', N', e1, e2, e5⟩ := Y
  obtain rfl : mg' = mg := by rw [N'.eq_nsMap, T.g.eq_nsMap]
  have key : ∀ S : Stat, S.hb = s₁.heap → S.fn = fnAddr C mg' (fun _ => none) → S.hasParts = true → S.parts = .ref pa → S.prog = p → S.w = w → S.cl = cl → S.kn = kn → codeAny (model S.prog S.w) callerA (.call (.ref (S.fn k)) ⟨[.ref a], []⟩) (fun r s' => r = .ok (.ret (.bool true)) ∧ (∀ b o, s₁.heap.get? b = some o → s'.heap.get? b = some o) ∧ s'.os = s₁.os ∧ s'.gens = s₁.gens) s₁ := by
    intro S h1 h2 h3 h4 h5 h6 h7 h8
    have TS : Top v loose mean mg' mb S.hb := h1 ▸ T
    have hc : ∀ x u, C.consts.lookup x = some u → ∃ w, mg' x = some w ∧ VR S [] [] S.hb u w := fun x u h => by
      have hm := zAH h
      rw [BL.hc] at hm
      rcases List.mem_append.mp hm with hm | hm
      · have := BL.hb _ hm
        cases this with
        | int i hv =>
          obtain ⟨u, e, r⟩ := T.const _ _ hv
          have := r S.hb
          cases this
          exact ⟨_, e, by rw [VR]; exact ⟨_, rfl⟩⟩
        | str y hv hl hk =>
          obtain ⟨u, e, r⟩ := T.const _ _ hv
          have := r S.hb
          cases this
          exact ⟨_, e, by rw [VR]; exact ⟨⟨_, rfl⟩, hl, hk⟩⟩
      · cases List.mem_singleton.mp hm
        exact ⟨_, e1, by rw [VR]; exact ⟨h3, h4.symm⟩⟩
    have hex : ∀ x c, C.excs.lookup x = some c → ∃ q ∈ ex, q.name = x ∧ q.c = c := fun x c h => by
      have hm := zAH h
      rw [BL.hx] at hm
      obtain ⟨q, hq, e⟩ := List.mem_map.mp hm
      cases e
      exact ⟨q, hq, rfl, rfl⟩
    have fa0 : ∀ k fn, tF.lookup k = some fn → FnAt S C k fn := fun k fn h => fnAt_of TS BL.k2 h2 BL.k3 BL.k1 k fn (zDF h)
    have fs := facts_of (tab := tF) TS BL.k2 h2 BL.k4 hc (fun h => by rw [BL.nb.1] at h; cases h) (.inl BL.nb)
      (fun x c h => by obtain ⟨q, hq, rfl, rfl⟩ := hex x c h; rw [h7, BL.hcl q hq]; exact .inl (e5 _ (List.mem_map_of_mem hq)).1)
      (fun x c h => by
        obtain ⟨q, hq, rfl, rfl⟩ := hex x c h
        have h5 := e5 _ (List.mem_map_of_mem hq)
        refine ⟨by rw [h8]; exact (BL.hkn q hq).1, fun _ => excCl_of TS (BL.hs q hq) h5.1 (h1 ▸ h5.2)
          ((BL.hbm q hq).imp id fun ⟨q', hq', e⟩ => ⟨q'.a, e, by obtain ⟨_, o, cd, g1, g2, _, g3⟩ := e5 _ (List.mem_map_of_mem hq'); exact ⟨o, cd, h1 ▸ g1, g2, h1 ▸ g3⟩⟩)
          (by rw [h7]; exact BL.hcl q hq) (by rw [h7, h8]; exact (BL.hkn q hq).2)⟩)
      (partsT_at hpt h4 hd (by rw [h1, h6]; exact e2)) (by rw [h4]; simp) fa0
    exact law_call fs BL.cln fa0 h1 hd1 (VR_script (P := w.params) (h1 ▸ W) (by simp only [LIM]; omega)) hres
  have := key ⟨p, w, s₁.heap, cl, 0, .ref pa, true, fnAddr C mg' (fun _ => none), kn⟩ rfl rfl rfl rfl rfl rfl rfl rfl
  have ha : fnAddr C mg' (fun _ => none) k = fa := by unfold fnAddr; rw [hk]; simp only [hmg, refOf]
  simp only [ha] at this
  exact this
end Mine
end

/-! # Cut08 -/
section
open PySem PySem.W PyProof.Rows
set_option Elab.async false
set_option maxRecDepth 100000
set_option autoImplicit false
namespace Mine
noncomputable def pw08 : Program := PySem.Challenge.pw_uf040020_08
noncomputable def topS (i : Nat) : Stmt := (pw08.main.body)[i]?.getD (.Pass ⟨0,0,0,0⟩)
noncomputable def sParams : Stmt → Arguments
  | .FunctionDef _ a _ _ _ _ _ _ _ _ => a
  | _ => ⟨[],[],none,[],[],none,[]⟩
noncomputable def sBody : Stmt → List Stmt
  | .FunctionDef _ _ b _ _ _ _ _ _ _ => b
  | _ => []
noncomputable def sScope : Stmt → Scope
  | .FunctionDef _ _ _ _ _ _ sc _ _ _ => sc
  | _ => pw08.main.scope
noncomputable def ky (P : Params) (c : Array Nat) (t : Nat) (v : Value) : DictEntry := ⟨PyData.keyHash P ⟨c⟩,.str ⟨c⟩ t,v⟩
noncomputable def fo (c : Value) (a b : Array Nat) (S : Stmt) (g : Addr) (pm cd : Value) : Obj := { cls := c,dict := none,data := .func { name := ⟨a⟩,qualname := ⟨b⟩,params := sParams S,body := .stmts (sBody S),scope := sScope S,globals := g,closure := [],defaults := .none,kwdefaults := .none,doc := .none,pyModule := pm,annotations := none,code := cd,closureTuple := .none,builtins := 0 },slots := #[] }
noncomputable def ob (c : Value) (d : Data) : Obj := { cls := c,dict := none,data := d,slots := #[] }
noncomputable def o08_3_0 (P : Params) : Obj := { cls := (.type "dict"),dict := none,data := (.dict #[(ky P #[95,95,110,97,109,101,95,95] 165 (.str ⟨#[111,114,100,101,114,102,108,111,119,46,101,114,114,111,114,115]⟩ 187)),(ky P #[95,95,100,111,99,95,95] 166 .none),(ky P #[95,95,112,97,99,107,97,103,101,95,95] 167 .none),(ky P #[95,95,108,111,97,100,101,114,95,95] 168 (.builtin "__main__.__loader__#opaque")),(ky P #[95,95,115,112,101,99,95,95] 169 .none),(ky P #[95,95,97,110,110,111,116,97,116,105,111,110,115,95,95] 170 (.ref 6)),(ky P #[95,95,98,117,105,108,116,105,110,115,95,95] 171 (.ref 4)),(ky P #[95,95,102,105,108,101,95,95] 173 (.str ⟨#[47,99,108,97,105,109,47,99,117,116,46,112,121]⟩ 172)),(ky P #[95,95,99,97,99,104,101,100,95,95] 174 .none),(ky P #[70,108,111,119,69,114,114,111,114] 206 (.ref 24)),(ky P #[78,111,68,101,101,100] 222 (.ref 37)),(ky P #[78,111,76,105,110,101,115] 238 (.ref 49))] 12),slots := #[] }
noncomputable def o08_12_0 (P : Params) : Obj := { cls := .none,dict := none,data := (.fields #[(.int (2) 0),(.int (0) 0),(.ref 20),(.int (4) 0),(.int (0) 0),(.ref 33),(.int (6) 0),(.int (0) 0),(.ref 45)]),slots := #[] }
noncomputable def zCs (P : Params) : Obj := { cls := (.type "code"),dict := none,data := (.fields #[(.str ⟨#[60,109,111,100,117,108,101,62]⟩ 182),(.str ⟨#[60,109,111,100,117,108,101,62]⟩ 183),(.str ⟨#[47,99,108,97,105,109,47,99,117,116,46,112,121]⟩ 184),(.int (1) 0),(.int (0) 0),(.int (0) 0),(.int (0) 0),(.int (0) 0),(.ref 11),(.bool false),(.int (181) 0),(.ref 12),.none,.none,.none,.none,(.int (185) 0),(.int (1) 0),(.str ⟨#[47,99,108,97,105,109,47,99,117,116,46,112,121]⟩ 186)]),slots := #[] }
noncomputable def zCr (P : Params) : Obj := { cls := (.type "frame"),dict := none,data := .plain,slots := #[(some (.ref 13)),(some (.ref 3)),(some (.ref 3)),none,(some (.str ⟨#[95,95,109,97,105,110,95,95]⟩ 164)),none,(some (.ref 0))] }
noncomputable def zCq (P : Params) : Obj := ob (.type "tuple") (.seq #[(.type "ValueError")] 0)
noncomputable def zAF (P : Params) : Obj := ob (.type "builtin_function_or_method") (.fields #[(.builtin "type.__prepare__"),(.type "type")])
noncomputable def zCp (P : Params) : Obj := { cls := (.type "dict"),dict := none,data := (.dict #[(ky P #[95,95,109,111,100,117,108,101,95,95] 196 (.str ⟨#[111,114,100,101,114,102,108,111,119,46,101,114,114,111,114,115]⟩ 187)),(ky P #[95,95,113,117,97,108,110,97,109,101,95,95] 198 (.str ⟨#[70,108,111,119,69,114,114,111,114]⟩ 197)),(ky P #[95,95,102,105,114,115,116,108,105,110,101,110,111,95,95] 200 (.int (2) 199)),(ky P #[95,95,115,116,97,116,105,99,95,97,116,116,114,105,98,117,116,101,115,95,95] 201 (.ref 22))] 4),slots := #[] }
noncomputable def zCo (P : Params) : Obj := { cls := (.type "code"),dict := none,data := (.fields #[(.str ⟨#[70,108,111,119,69,114,114,111,114]⟩ 191),(.str ⟨#[70,108,111,119,69,114,114,111,114]⟩ 192),(.str ⟨#[47,99,108,97,105,109,47,99,117,116,46,112,121]⟩ 193),(.int (2) 0),(.int (0) 0),(.int (0) 0),(.int (0) 0),(.int (0) 0),(.ref 18),(.bool false),(.int (181) 0),(.ref 19),.none,.none,.none,.none,(.int (194) 0),(.int (2) 0),(.str ⟨#[47,99,108,97,105,109,47,99,117,116,46,112,121]⟩ 195)]),slots := #[] }
noncomputable def zCn (P : Params) : Obj := { cls := (.type "frame"),dict := none,data := .plain,slots := #[(some (.ref 20)),(some (.ref 3)),(some (.ref 17)),none,(some (.str ⟨#[111,114,100,101,114,102,108,111,119,46,101,114,114,111,114,115]⟩ 187)),none,(some (.ref 0))] }
noncomputable def zCm (P : Params) : Obj := { cls := (.type "dict"),dict := none,data := (.dict #[(ky P #[95,95,109,111,100,117,108,101,95,95] 196 (.str ⟨#[111,114,100,101,114,102,108,111,119,46,101,114,114,111,114,115]⟩ 187)),(ky P #[95,95,102,105,114,115,116,108,105,110,101,110,111,95,95] 200 (.int (2) 199)),(ky P #[95,95,115,116,97,116,105,99,95,97,116,116,114,105,98,117,116,101,115,95,95] 201 (.ref 22)),(ky P #[95,95,119,101,97,107,114,101,102,95,95] 203 (.ref 25)),(ky P #[95,95,100,111,99,95,95] 204 .none)] 3),slots := #[] }
noncomputable def o08_24_0 (P : Params) : Obj := { cls := (.type "type"),dict := none,data := (.cls { name := ⟨#[70,108,111,119,69,114,114,111,114]⟩,bases := [(.type "ValueError")],mro := [(.ref 24),(.type "ValueError"),(.type "Exception"),(.type "BaseException"),(.type "object")],ns := 23,qualname := ⟨#[70,108,111,119,69,114,114,111,114]⟩,hasDict := true,slotNames := [],subclasses := [(.ref 37),(.ref 49)],abstract := false,collection := none,hasDel := false }),slots := #[(some (.ref 15)),none,(some (.str ⟨#[70,108,111,119,69,114,114,111,114]⟩ 189)),(some (.str ⟨#[70,108,111,119,69,114,114,111,114]⟩ 197)),(some (.builtin "ValueError.__new__")),(some (.bool true))] }
noncomputable def zCl (P : Params) : Obj := ob (.type "getset_descriptor") (.fields #[(.str ⟨#[95,95,119,101,97,107,114,101,102,95,95]⟩ 202),(.ref 24),(.builtin "ExceptionGroup.__weakref__"),.none])
noncomputable def zCk (P : Params) : Obj := ob (.type "super") (.fields #[(.ref 24),(.ref 24),(.ref 24)])
noncomputable def zCj (P : Params) : Obj := ob (.type "builtin_function_or_method") (.fields #[(.builtin "object.__init_subclass__"),(.ref 24)])
noncomputable def zAI (P : Params) : Obj := ob (.type "tuple") (.seq #[(.ref 24)] 0)
noncomputable def zCi (P : Params) : Obj := { cls := (.type "dict"),dict := none,data := (.dict #[(ky P #[95,95,109,111,100,117,108,101,95,95] 214 (.str ⟨#[111,114,100,101,114,102,108,111,119,46,101,114,114,111,114,115]⟩ 187)),(ky P #[95,95,113,117,97,108,110,97,109,101,95,95] 216 (.str ⟨#[78,111,68,101,101,100]⟩ 215)),(ky P #[95,95,102,105,114,115,116,108,105,110,101,110,111,95,95] 218 (.int (4) 217)),(ky P #[95,95,115,116,97,116,105,99,95,97,116,116,114,105,98,117,116,101,115,95,95] 219 (.ref 35))] 4),slots := #[] }
noncomputable def zCh (P : Params) : Obj := { cls := (.type "code"),dict := none,data := (.fields #[(.str ⟨#[78,111,68,101,101,100]⟩ 209),(.str ⟨#[78,111,68,101,101,100]⟩ 210),(.str ⟨#[47,99,108,97,105,109,47,99,117,116,46,112,121]⟩ 211),(.int (4) 0),(.int (0) 0),(.int (0) 0),(.int (0) 0),(.int (0) 0),(.ref 31),(.bool false),(.int (181) 0),(.ref 32),.none,.none,.none,.none,(.int (212) 0),(.int (4) 0),(.str ⟨#[47,99,108,97,105,109,47,99,117,116,46,112,121]⟩ 213)]),slots := #[] }
noncomputable def zCg (P : Params) : Obj := { cls := (.type "frame"),dict := none,data := .plain,slots := #[(some (.ref 33)),(some (.ref 3)),(some (.ref 30)),none,(some (.str ⟨#[111,114,100,101,114,102,108,111,119,46,101,114,114,111,114,115]⟩ 187)),none,(some (.ref 0))] }
noncomputable def zCf (P : Params) : Obj := { cls := (.type "dict"),dict := none,data := (.dict #[(ky P #[95,95,109,111,100,117,108,101,95,95] 214 (.str ⟨#[111,114,100,101,114,102,108,111,119,46,101,114,114,111,114,115]⟩ 187)),(ky P #[95,95,102,105,114,115,116,108,105,110,101,110,111,95,95] 218 (.int (4) 217)),(ky P #[95,95,115,116,97,116,105,99,95,97,116,116,114,105,98,117,116,101,115,95,95] 219 (.ref 35)),(ky P #[95,95,100,111,99,95,95] 220 .none)] 2),slots := #[] }
noncomputable def zCe (P : Params) : Obj := { cls := (.type "type"),dict := none,data := (.cls { name := ⟨#[78,111,68,101,101,100]⟩,bases := [(.ref 24)],mro := [(.ref 37),(.ref 24),(.type "ValueError"),(.type "Exception"),(.type "BaseException"),(.type "object")],ns := 36,qualname := ⟨#[78,111,68,101,101,100]⟩,hasDict := true,slotNames := [],subclasses := [],abstract := false,collection := none,hasDel := false }),slots := #[(some (.ref 28)),none,(some (.str ⟨#[78,111,68,101,101,100]⟩ 207)),(some (.str ⟨#[78,111,68,101,101,100]⟩ 215)),(some (.builtin "ValueError.__new__")),(some (.bool true))] }
noncomputable def zCd (P : Params) : Obj := ob (.type "super") (.fields #[(.ref 37),(.ref 37),(.ref 37)])
noncomputable def zCc (P : Params) : Obj := ob (.type "builtin_function_or_method") (.fields #[(.builtin "object.__init_subclass__"),(.ref 37)])
noncomputable def zCb (P : Params) : Obj := { cls := (.type "dict"),dict := none,data := (.dict #[(ky P #[95,95,109,111,100,117,108,101,95,95] 230 (.str ⟨#[111,114,100,101,114,102,108,111,119,46,101,114,114,111,114,115]⟩ 187)),(ky P #[95,95,113,117,97,108,110,97,109,101,95,95] 232 (.str ⟨#[78,111,76,105,110,101,115]⟩ 231)),(ky P #[95,95,102,105,114,115,116,108,105,110,101,110,111,95,95] 234 (.int (6) 233)),(ky P #[95,95,115,116,97,116,105,99,95,97,116,116,114,105,98,117,116,101,115,95,95] 235 (.ref 47))] 4),slots := #[] }
noncomputable def zCa (P : Params) : Obj := { cls := (.type "code"),dict := none,data := (.fields #[(.str ⟨#[78,111,76,105,110,101,115]⟩ 225),(.str ⟨#[78,111,76,105,110,101,115]⟩ 226),(.str ⟨#[47,99,108,97,105,109,47,99,117,116,46,112,121]⟩ 227),(.int (6) 0),(.int (0) 0),(.int (0) 0),(.int (0) 0),(.int (0) 0),(.ref 43),(.bool false),(.int (181) 0),(.ref 44),.none,.none,.none,.none,(.int (228) 0),(.int (6) 0),(.str ⟨#[47,99,108,97,105,109,47,99,117,116,46,112,121]⟩ 229)]),slots := #[] }
noncomputable def zCZ (P : Params) : Obj := { cls := (.type "frame"),dict := none,data := .plain,slots := #[(some (.ref 45)),(some (.ref 3)),(some (.ref 42)),none,(some (.str ⟨#[111,114,100,101,114,102,108,111,119,46,101,114,114,111,114,115]⟩ 187)),none,(some (.ref 0))] }
noncomputable def zCY (P : Params) : Obj := { cls := (.type "dict"),dict := none,data := (.dict #[(ky P #[95,95,109,111,100,117,108,101,95,95] 230 (.str ⟨#[111,114,100,101,114,102,108,111,119,46,101,114,114,111,114,115]⟩ 187)),(ky P #[95,95,102,105,114,115,116,108,105,110,101,110,111,95,95] 234 (.int (6) 233)),(ky P #[95,95,115,116,97,116,105,99,95,97,116,116,114,105,98,117,116,101,115,95,95] 235 (.ref 47)),(ky P #[95,95,100,111,99,95,95] 236 .none)] 2),slots := #[] }
noncomputable def zCX (P : Params) : Obj := { cls := (.type "type"),dict := none,data := (.cls { name := ⟨#[78,111,76,105,110,101,115]⟩,bases := [(.ref 24)],mro := [(.ref 49),(.ref 24),(.type "ValueError"),(.type "Exception"),(.type "BaseException"),(.type "object")],ns := 48,qualname := ⟨#[78,111,76,105,110,101,115]⟩,hasDict := true,slotNames := [],subclasses := [],abstract := false,collection := none,hasDel := false }),slots := #[(some (.ref 40)),none,(some (.str ⟨#[78,111,76,105,110,101,115]⟩ 223)),(some (.str ⟨#[78,111,76,105,110,101,115]⟩ 231)),(some (.builtin "ValueError.__new__")),(some (.bool true))] }
noncomputable def zCW (P : Params) : Obj := ob (.type "super") (.fields #[(.ref 49),(.ref 49),(.ref 49)])
noncomputable def zCV (P : Params) : Obj := ob (.type "builtin_function_or_method") (.fields #[(.builtin "object.__init_subclass__"),(.ref 49)])
noncomputable def h08_0 (P : Params) : Heap := ⟨⟨[boot_o_0 P,boot_o_1 P,boot_o_2 P,o08_3_0 P,boot_o_4 P,boot_o_5 P,boot_o_6 P,boot_o_7 P,boot_o_8 P,boot_o_9 P,boot_o_10 P,boot_o_7 P,o08_12_0 P,zCs P,zCr P,zCq P,zAF P,zCp P,boot_o_7 P,boot_o_8 P,zCo P,zCn P,boot_o_7 P,zCm P,o08_24_0 P,zCl P,zCk P,zCj P,zAI P,zAF P,zCi P,boot_o_7 P,boot_o_8 P,zCh P,zCg P,boot_o_7 P,zCf P,zCe P,zCd P,zCc P,zAI P,zAF P,zCb P,boot_o_7 P,boot_o_8 P,zCa P,zCZ P,boot_o_7 P,zCY P,zCX P,zCW P,zCV P]⟩,{ registered := [],finalised := [],alive := [],known := 0,ids := [],orphanDicts := [],counting := false,cnt := #[],zero := [],soft := 0,below := false,collecting := false }⟩
noncomputable def s08_0 (w : World) (os : OsState) : Shared := ⟨h08_0 w.params,#[],⟨0,0,0,0⟩,239,os⟩
noncomputable def o08_3_1 (P : Params) : Obj := { cls := (.type "dict"),dict := none,data := (.dict #[(ky P #[95,95,110,97,109,101,95,95] 165 (.str ⟨#[111,114,100,101,114,102,108,111,119,46,101,114,114,111,114,115]⟩ 187)),(ky P #[95,95,100,111,99,95,95] 166 .none),(ky P #[95,95,112,97,99,107,97,103,101,95,95] 167 .none),(ky P #[95,95,108,111,97,100,101,114,95,95] 168 (.builtin "__main__.__loader__#opaque")),(ky P #[95,95,115,112,101,99,95,95] 169 .none),(ky P #[95,95,97,110,110,111,116,97,116,105,111,110,115,95,95] 170 (.ref 6)),(ky P #[95,95,98,117,105,108,116,105,110,115,95,95] 171 (.ref 4)),(ky P #[95,95,102,105,108,101,95,95] 173 (.str ⟨#[47,99,108,97,105,109,47,99,117,116,46,112,121]⟩ 172)),(ky P #[95,95,99,97,99,104,101,100,95,95] 174 .none),(ky P #[70,108,111,119,69,114,114,111,114] 206 (.ref 24)),(ky P #[78,111,68,101,101,100] 222 (.ref 37)),(ky P #[78,111,76,105,110,101,115] 238 (.ref 49)),(ky P #[78,111,73,116,101,109] 254 (.ref 61)),(ky P #[78,111,78,117,109,98,101,114] 270 (.ref 73)),(ky P #[70,117,108,108,66,111,111,107] 286 (.ref 85)),(ky P #[78,111,79,114,100,101,114] 302 (.ref 97))] 16),slots := #[] }
noncomputable def o08_12_1 (P : Params) : Obj := { cls := .none,dict := none,data := (.fields #[(.int (2) 0),(.int (0) 0),(.ref 20),(.int (4) 0),(.int (0) 0),(.ref 33),(.int (6) 0),(.int (0) 0),(.ref 45),(.int (8) 0),(.int (0) 0),(.ref 57),(.int (10) 0),(.int (0) 0),(.ref 69),(.int (12) 0),(.int (0) 0),(.ref 81),(.int (14) 0),(.int (0) 0),(.ref 93)]),slots := #[] }
noncomputable def o08_24_1 (P : Params) : Obj := { cls := (.type "type"),dict := none,data := (.cls { name := ⟨#[70,108,111,119,69,114,114,111,114]⟩,bases := [(.type "ValueError")],mro := [(.ref 24),(.type "ValueError"),(.type "Exception"),(.type "BaseException"),(.type "object")],ns := 23,qualname := ⟨#[70,108,111,119,69,114,114,111,114]⟩,hasDict := true,slotNames := [],subclasses := [(.ref 37),(.ref 49),(.ref 61),(.ref 73),(.ref 85),(.ref 97)],abstract := false,collection := none,hasDel := false }),slots := #[(some (.ref 15)),none,(some (.str ⟨#[70,108,111,119,69,114,114,111,114]⟩ 189)),(some (.str ⟨#[70,108,111,119,69,114,114,111,114]⟩ 197)),(some (.builtin "ValueError.__new__")),(some (.bool true))] }
noncomputable def zEW (P : Params) : Obj := { cls := (.type "dict"),dict := none,data := (.dict #[(ky P #[95,95,109,111,100,117,108,101,95,95] 246 (.str ⟨#[111,114,100,101,114,102,108,111,119,46,101,114,114,111,114,115]⟩ 187)),(ky P #[95,95,113,117,97,108,110,97,109,101,95,95] 248 (.str ⟨#[78,111,73,116,101,109]⟩ 247)),(ky P #[95,95,102,105,114,115,116,108,105,110,101,110,111,95,95] 250 (.int (8) 249)),(ky P #[95,95,115,116,97,116,105,99,95,97,116,116,114,105,98,117,116,101,115,95,95] 251 (.ref 59))] 4),slots := #[] }
noncomputable def zEV (P : Params) : Obj := { cls := (.type "code"),dict := none,data := (.fields #[(.str ⟨#[78,111,73,116,101,109]⟩ 241),(.str ⟨#[78,111,73,116,101,109]⟩ 242),(.str ⟨#[47,99,108,97,105,109,47,99,117,116,46,112,121]⟩ 243),(.int (8) 0),(.int (0) 0),(.int (0) 0),(.int (0) 0),(.int (0) 0),(.ref 55),(.bool false),(.int (181) 0),(.ref 56),.none,.none,.none,.none,(.int (244) 0),(.int (8) 0),(.str ⟨#[47,99,108,97,105,109,47,99,117,116,46,112,121]⟩ 245)]),slots := #[] }
noncomputable def zEU (P : Params) : Obj := { cls := (.type "frame"),dict := none,data := .plain,slots := #[(some (.ref 57)),(some (.ref 3)),(some (.ref 54)),none,(some (.str ⟨#[111,114,100,101,114,102,108,111,119,46,101,114,114,111,114,115]⟩ 187)),none,(some (.ref 0))] }
noncomputable def zET (P : Params) : Obj := { cls := (.type "dict"),dict := none,data := (.dict #[(ky P #[95,95,109,111,100,117,108,101,95,95] 246 (.str ⟨#[111,114,100,101,114,102,108,111,119,46,101,114,114,111,114,115]⟩ 187)),(ky P #[95,95,102,105,114,115,116,108,105,110,101,110,111,95,95] 250 (.int (8) 249)),(ky P #[95,95,115,116,97,116,105,99,95,97,116,116,114,105,98,117,116,101,115,95,95] 251 (.ref 59)),(ky P #[95,95,100,111,99,95,95] 252 .none)] 2),slots := #[] }
noncomputable def zES (P : Params) : Obj := { cls := (.type "type"),dict := none,data := (.cls { name := ⟨#[78,111,73,116,101,109]⟩,bases := [(.ref 24)],mro := [(.ref 61),(.ref 24),(.type "ValueError"),(.type "Exception"),(.type "BaseException"),(.type "object")],ns := 60,qualname := ⟨#[78,111,73,116,101,109]⟩,hasDict := true,slotNames := [],subclasses := [],abstract := false,collection := none,hasDel := false }),slots := #[(some (.ref 52)),none,(some (.str ⟨#[78,111,73,116,101,109]⟩ 239)),(some (.str ⟨#[78,111,73,116,101,109]⟩ 247)),(some (.builtin "ValueError.__new__")),(some (.bool true))] }
noncomputable def zER (P : Params) : Obj := ob (.type "super") (.fields #[(.ref 61),(.ref 61),(.ref 61)])
noncomputable def zEQ (P : Params) : Obj := ob (.type "builtin_function_or_method") (.fields #[(.builtin "object.__init_subclass__"),(.ref 61)])
noncomputable def zEP (P : Params) : Obj := { cls := (.type "dict"),dict := none,data := (.dict #[(ky P #[95,95,109,111,100,117,108,101,95,95] 262 (.str ⟨#[111,114,100,101,114,102,108,111,119,46,101,114,114,111,114,115]⟩ 187)),(ky P #[95,95,113,117,97,108,110,97,109,101,95,95] 264 (.str ⟨#[78,111,78,117,109,98,101,114]⟩ 263)),(ky P #[95,95,102,105,114,115,116,108,105,110,101,110,111,95,95] 266 (.int (10) 265)),(ky P #[95,95,115,116,97,116,105,99,95,97,116,116,114,105,98,117,116,101,115,95,95] 267 (.ref 71))] 4),slots := #[] }
noncomputable def zEO (P : Params) : Obj := { cls := (.type "code"),dict := none,data := (.fields #[(.str ⟨#[78,111,78,117,109,98,101,114]⟩ 257),(.str ⟨#[78,111,78,117,109,98,101,114]⟩ 258),(.str ⟨#[47,99,108,97,105,109,47,99,117,116,46,112,121]⟩ 259),(.int (10) 0),(.int (0) 0),(.int (0) 0),(.int (0) 0),(.int (0) 0),(.ref 67),(.bool false),(.int (181) 0),(.ref 68),.none,.none,.none,.none,(.int (260) 0),(.int (10) 0),(.str ⟨#[47,99,108,97,105,109,47,99,117,116,46,112,121]⟩ 261)]),slots := #[] }
noncomputable def zEN (P : Params) : Obj := { cls := (.type "frame"),dict := none,data := .plain,slots := #[(some (.ref 69)),(some (.ref 3)),(some (.ref 66)),none,(some (.str ⟨#[111,114,100,101,114,102,108,111,119,46,101,114,114,111,114,115]⟩ 187)),none,(some (.ref 0))] }
noncomputable def zEM (P : Params) : Obj := { cls := (.type "dict"),dict := none,data := (.dict #[(ky P #[95,95,109,111,100,117,108,101,95,95] 262 (.str ⟨#[111,114,100,101,114,102,108,111,119,46,101,114,114,111,114,115]⟩ 187)),(ky P #[95,95,102,105,114,115,116,108,105,110,101,110,111,95,95] 266 (.int (10) 265)),(ky P #[95,95,115,116,97,116,105,99,95,97,116,116,114,105,98,117,116,101,115,95,95] 267 (.ref 71)),(ky P #[95,95,100,111,99,95,95] 268 .none)] 2),slots := #[] }
noncomputable def zEL (P : Params) : Obj := { cls := (.type "type"),dict := none,data := (.cls { name := ⟨#[78,111,78,117,109,98,101,114]⟩,bases := [(.ref 24)],mro := [(.ref 73),(.ref 24),(.type "ValueError"),(.type "Exception"),(.type "BaseException"),(.type "object")],ns := 72,qualname := ⟨#[78,111,78,117,109,98,101,114]⟩,hasDict := true,slotNames := [],subclasses := [],abstract := false,collection := none,hasDel := false }),slots := #[(some (.ref 64)),none,(some (.str ⟨#[78,111,78,117,109,98,101,114]⟩ 255)),(some (.str ⟨#[78,111,78,117,109,98,101,114]⟩ 263)),(some (.builtin "ValueError.__new__")),(some (.bool true))] }
noncomputable def zEK (P : Params) : Obj := ob (.type "super") (.fields #[(.ref 73),(.ref 73),(.ref 73)])
noncomputable def zEJ (P : Params) : Obj := ob (.type "builtin_function_or_method") (.fields #[(.builtin "object.__init_subclass__"),(.ref 73)])
noncomputable def zEI (P : Params) : Obj := { cls := (.type "dict"),dict := none,data := (.dict #[(ky P #[95,95,109,111,100,117,108,101,95,95] 278 (.str ⟨#[111,114,100,101,114,102,108,111,119,46,101,114,114,111,114,115]⟩ 187)),(ky P #[95,95,113,117,97,108,110,97,109,101,95,95] 280 (.str ⟨#[70,117,108,108,66,111,111,107]⟩ 279)),(ky P #[95,95,102,105,114,115,116,108,105,110,101,110,111,95,95] 282 (.int (12) 281)),(ky P #[95,95,115,116,97,116,105,99,95,97,116,116,114,105,98,117,116,101,115,95,95] 283 (.ref 83))] 4),slots := #[] }
noncomputable def zEH (P : Params) : Obj := { cls := (.type "code"),dict := none,data := (.fields #[(.str ⟨#[70,117,108,108,66,111,111,107]⟩ 273),(.str ⟨#[70,117,108,108,66,111,111,107]⟩ 274),(.str ⟨#[47,99,108,97,105,109,47,99,117,116,46,112,121]⟩ 275),(.int (12) 0),(.int (0) 0),(.int (0) 0),(.int (0) 0),(.int (0) 0),(.ref 79),(.bool false),(.int (181) 0),(.ref 80),.none,.none,.none,.none,(.int (276) 0),(.int (12) 0),(.str ⟨#[47,99,108,97,105,109,47,99,117,116,46,112,121]⟩ 277)]),slots := #[] }
noncomputable def zEG (P : Params) : Obj := { cls := (.type "frame"),dict := none,data := .plain,slots := #[(some (.ref 81)),(some (.ref 3)),(some (.ref 78)),none,(some (.str ⟨#[111,114,100,101,114,102,108,111,119,46,101,114,114,111,114,115]⟩ 187)),none,(some (.ref 0))] }
noncomputable def zEF (P : Params) : Obj := { cls := (.type "dict"),dict := none,data := (.dict #[(ky P #[95,95,109,111,100,117,108,101,95,95] 278 (.str ⟨#[111,114,100,101,114,102,108,111,119,46,101,114,114,111,114,115]⟩ 187)),(ky P #[95,95,102,105,114,115,116,108,105,110,101,110,111,95,95] 282 (.int (12) 281)),(ky P #[95,95,115,116,97,116,105,99,95,97,116,116,114,105,98,117,116,101,115,95,95] 283 (.ref 83)),(ky P #[95,95,100,111,99,95,95] 284 .none)] 2),slots := #[] }
noncomputable def zEE (P : Params) : Obj := { cls := (.type "type"),dict := none,data := (.cls { name := ⟨#[70,117,108,108,66,111,111,107]⟩,bases := [(.ref 24)],mro := [(.ref 85),(.ref 24),(.type "ValueError"),(.type "Exception"),(.type "BaseException"),(.type "object")],ns := 84,qualname := ⟨#[70,117,108,108,66,111,111,107]⟩,hasDict := true,slotNames := [],subclasses := [],abstract := false,collection := none,hasDel := false }),slots := #[(some (.ref 76)),none,(some (.str ⟨#[70,117,108,108,66,111,111,107]⟩ 271)),(some (.str ⟨#[70,117,108,108,66,111,111,107]⟩ 279)),(some (.builtin "ValueError.__new__")),(some (.bool true))] }
noncomputable def zED (P : Params) : Obj := ob (.type "super") (.fields #[(.ref 85),(.ref 85),(.ref 85)])
noncomputable def zEC (P : Params) : Obj := ob (.type "builtin_function_or_method") (.fields #[(.builtin "object.__init_subclass__"),(.ref 85)])
noncomputable def zEB (P : Params) : Obj := { cls := (.type "dict"),dict := none,data := (.dict #[(ky P #[95,95,109,111,100,117,108,101,95,95] 294 (.str ⟨#[111,114,100,101,114,102,108,111,119,46,101,114,114,111,114,115]⟩ 187)),(ky P #[95,95,113,117,97,108,110,97,109,101,95,95] 296 (.str ⟨#[78,111,79,114,100,101,114]⟩ 295)),(ky P #[95,95,102,105,114,115,116,108,105,110,101,110,111,95,95] 298 (.int (14) 297)),(ky P #[95,95,115,116,97,116,105,99,95,97,116,116,114,105,98,117,116,101,115,95,95] 299 (.ref 95))] 4),slots := #[] }
noncomputable def zEA (P : Params) : Obj := { cls := (.type "code"),dict := none,data := (.fields #[(.str ⟨#[78,111,79,114,100,101,114]⟩ 289),(.str ⟨#[78,111,79,114,100,101,114]⟩ 290),(.str ⟨#[47,99,108,97,105,109,47,99,117,116,46,112,121]⟩ 291),(.int (14) 0),(.int (0) 0),(.int (0) 0),(.int (0) 0),(.int (0) 0),(.ref 91),(.bool false),(.int (181) 0),(.ref 92),.none,.none,.none,.none,(.int (292) 0),(.int (14) 0),(.str ⟨#[47,99,108,97,105,109,47,99,117,116,46,112,121]⟩ 293)]),slots := #[] }
noncomputable def zDz (P : Params) : Obj := { cls := (.type "frame"),dict := none,data := .plain,slots := #[(some (.ref 93)),(some (.ref 3)),(some (.ref 90)),none,(some (.str ⟨#[111,114,100,101,114,102,108,111,119,46,101,114,114,111,114,115]⟩ 187)),none,(some (.ref 0))] }
noncomputable def zDy (P : Params) : Obj := { cls := (.type "dict"),dict := none,data := (.dict #[(ky P #[95,95,109,111,100,117,108,101,95,95] 294 (.str ⟨#[111,114,100,101,114,102,108,111,119,46,101,114,114,111,114,115]⟩ 187)),(ky P #[95,95,102,105,114,115,116,108,105,110,101,110,111,95,95] 298 (.int (14) 297)),(ky P #[95,95,115,116,97,116,105,99,95,97,116,116,114,105,98,117,116,101,115,95,95] 299 (.ref 95)),(ky P #[95,95,100,111,99,95,95] 300 .none)] 2),slots := #[] }
noncomputable def zDx (P : Params) : Obj := { cls := (.type "type"),dict := none,data := (.cls { name := ⟨#[78,111,79,114,100,101,114]⟩,bases := [(.ref 24)],mro := [(.ref 97),(.ref 24),(.type "ValueError"),(.type "Exception"),(.type "BaseException"),(.type "object")],ns := 96,qualname := ⟨#[78,111,79,114,100,101,114]⟩,hasDict := true,slotNames := [],subclasses := [],abstract := false,collection := none,hasDel := false }),slots := #[(some (.ref 88)),none,(some (.str ⟨#[78,111,79,114,100,101,114]⟩ 287)),(some (.str ⟨#[78,111,79,114,100,101,114]⟩ 295)),(some (.builtin "ValueError.__new__")),(some (.bool true))] }
noncomputable def zDw (P : Params) : Obj := ob (.type "super") (.fields #[(.ref 97),(.ref 97),(.ref 97)])
noncomputable def zDv (P : Params) : Obj := ob (.type "builtin_function_or_method") (.fields #[(.builtin "object.__init_subclass__"),(.ref 97)])
noncomputable def h08_1 (P : Params) : Heap := ⟨⟨[boot_o_0 P,boot_o_1 P,boot_o_2 P,o08_3_1 P,boot_o_4 P,boot_o_5 P,boot_o_6 P,boot_o_7 P,boot_o_8 P,boot_o_9 P,boot_o_10 P,boot_o_7 P,o08_12_1 P,zCs P,zCr P,zCq P,zAF P,zCp P,boot_o_7 P,boot_o_8 P,zCo P,zCn P,boot_o_7 P,zCm P,o08_24_1 P,zCl P,zCk P,zCj P,zAI P,zAF P,zCi P,boot_o_7 P,boot_o_8 P,zCh P,zCg P,boot_o_7 P,zCf P,zCe P,zCd P,zCc P,zAI P,zAF P,zCb P,boot_o_7 P,boot_o_8 P,zCa P,zCZ P,boot_o_7 P,zCY P,zCX P,zCW P,zCV P,zAI P,zAF P,zEW P,boot_o_7 P,boot_o_8 P,zEV P,zEU P,boot_o_7 P,zET P,zES P,zER P,zEQ P,zAI P,zAF P,zEP P,boot_o_7 P,boot_o_8 P,zEO P,zEN P,boot_o_7 P,zEM P,zEL P,zEK P,zEJ P,zAI P,zAF P,zEI P,boot_o_7 P,boot_o_8 P,zEH P,zEG P,boot_o_7 P,zEF P,zEE P,zED P,zEC P,zAI P,zAF P,zEB P,boot_o_7 P,boot_o_8 P,zEA P,zDz P,boot_o_7 P,zDy P,zDx P,zDw P,zDv P]⟩,{ registered := [],finalised := [],alive := [],known := 0,ids := [],orphanDicts := [],counting := false,cnt := #[],zero := [],soft := 0,below := false,collecting := false }⟩
noncomputable def s08_1 (w : World) (os : OsState) : Shared := ⟨h08_1 w.params,#[],⟨0,0,0,0⟩,303,os⟩
noncomputable def o08_3_2 (P : Params) : Obj := { cls := (.type "dict"),dict := none,data := (.dict #[(ky P #[95,95,110,97,109,101,95,95] 165 (.str ⟨#[111,114,100,101,114,102,108,111,119,46,101,114,114,111,114,115]⟩ 187)),(ky P #[95,95,100,111,99,95,95] 166 .none),(ky P #[95,95,112,97,99,107,97,103,101,95,95] 167 .none),(ky P #[95,95,108,111,97,100,101,114,95,95] 168 (.builtin "__main__.__loader__#opaque")),(ky P #[95,95,115,112,101,99,95,95] 169 .none),(ky P #[95,95,97,110,110,111,116,97,116,105,111,110,115,95,95] 170 (.ref 6)),(ky P #[95,95,98,117,105,108,116,105,110,115,95,95] 171 (.ref 4)),(ky P #[95,95,102,105,108,101,95,95] 173 (.str ⟨#[47,99,108,97,105,109,47,99,117,116,46,112,121]⟩ 172)),(ky P #[95,95,99,97,99,104,101,100,95,95] 174 .none),(ky P #[70,108,111,119,69,114,114,111,114] 206 (.ref 24)),(ky P #[78,111,68,101,101,100] 222 (.ref 37)),(ky P #[78,111,76,105,110,101,115] 238 (.ref 49)),(ky P #[78,111,73,116,101,109] 254 (.ref 61)),(ky P #[78,111,78,117,109,98,101,114] 270 (.ref 73)),(ky P #[70,117,108,108,66,111,111,107] 286 (.ref 85)),(ky P #[78,111,79,114,100,101,114] 302 (.ref 97)),(ky P #[83,97,109,101,79,114,100,101,114] 318 (.ref 109)),(ky P #[78,111,76,105,110,101] 334 (.ref 121)),(ky P #[84,111,111,77,117,99,104] 350 (.ref 133)),(ky P #[78,111,116,104,105,110,103,68,111,110,101] 366 (.ref 145))] 20),slots := #[] }
noncomputable def o08_12_2 (P : Params) : Obj := { cls := .none,dict := none,data := (.fields #[(.int (2) 0),(.int (0) 0),(.ref 20),(.int (4) 0),(.int (0) 0),(.ref 33),(.int (6) 0),(.int (0) 0),(.ref 45),(.int (8) 0),(.int (0) 0),(.ref 57),(.int (10) 0),(.int (0) 0),(.ref 69),(.int (12) 0),(.int (0) 0),(.ref 81),(.int (14) 0),(.int (0) 0),(.ref 93),(.int (16) 0),(.int (0) 0),(.ref 105),(.int (18) 0),(.int (0) 0),(.ref 117),(.int (20) 0),(.int (0) 0),(.ref 129),(.int (22) 0),(.int (0) 0),(.ref 141)]),slots := #[] }
noncomputable def zHA (P : Params) : Obj := { cls := (.type "type"),dict := none,data := (.cls { name := ⟨#[70,108,111,119,69,114,114,111,114]⟩,bases := [(.type "ValueError")],mro := [(.ref 24),(.type "ValueError"),(.type "Exception"),(.type "BaseException"),(.type "object")],ns := 23,qualname := ⟨#[70,108,111,119,69,114,114,111,114]⟩,hasDict := true,slotNames := [],subclasses := [(.ref 37),(.ref 49),(.ref 61),(.ref 73),(.ref 85),(.ref 97),(.ref 109),(.ref 121),(.ref 133),(.ref 145)],abstract := false,collection := none,hasDel := false }),slots := #[(some (.ref 15)),none,(some (.str ⟨#[70,108,111,119,69,114,114,111,114]⟩ 189)),(some (.str ⟨#[70,108,111,119,69,114,114,111,114]⟩ 197)),(some (.builtin "ValueError.__new__")),(some (.bool true))] }
noncomputable def zFh (P : Params) : Obj := { cls := (.type "dict"),dict := none,data := (.dict #[(ky P #[95,95,109,111,100,117,108,101,95,95] 310 (.str ⟨#[111,114,100,101,114,102,108,111,119,46,101,114,114,111,114,115]⟩ 187)),(ky P #[95,95,113,117,97,108,110,97,109,101,95,95] 312 (.str ⟨#[83,97,109,101,79,114,100,101,114]⟩ 311)),(ky P #[95,95,102,105,114,115,116,108,105,110,101,110,111,95,95] 314 (.int (16) 313)),(ky P #[95,95,115,116,97,116,105,99,95,97,116,116,114,105,98,117,116,101,115,95,95] 315 (.ref 107))] 4),slots := #[] }
noncomputable def zFg (P : Params) : Obj := { cls := (.type "code"),dict := none,data := (.fields #[(.str ⟨#[83,97,109,101,79,114,100,101,114]⟩ 305),(.str ⟨#[83,97,109,101,79,114,100,101,114]⟩ 306),(.str ⟨#[47,99,108,97,105,109,47,99,117,116,46,112,121]⟩ 307),(.int (16) 0),(.int (0) 0),(.int (0) 0),(.int (0) 0),(.int (0) 0),(.ref 103),(.bool false),(.int (181) 0),(.ref 104),.none,.none,.none,.none,(.int (308) 0),(.int (16) 0),(.str ⟨#[47,99,108,97,105,109,47,99,117,116,46,112,121]⟩ 309)]),slots := #[] }
noncomputable def zFf (P : Params) : Obj := { cls := (.type "frame"),dict := none,data := .plain,slots := #[(some (.ref 105)),(some (.ref 3)),(some (.ref 102)),none,(some (.str ⟨#[111,114,100,101,114,102,108,111,119,46,101,114,114,111,114,115]⟩ 187)),none,(some (.ref 0))] }
noncomputable def zFe (P : Params) : Obj := { cls := (.type "dict"),dict := none,data := (.dict #[(ky P #[95,95,109,111,100,117,108,101,95,95] 310 (.str ⟨#[111,114,100,101,114,102,108,111,119,46,101,114,114,111,114,115]⟩ 187)),(ky P #[95,95,102,105,114,115,116,108,105,110,101,110,111,95,95] 314 (.int (16) 313)),(ky P #[95,95,115,116,97,116,105,99,95,97,116,116,114,105,98,117,116,101,115,95,95] 315 (.ref 107)),(ky P #[95,95,100,111,99,95,95] 316 .none)] 2),slots := #[] }
noncomputable def zFd (P : Params) : Obj := { cls := (.type "type"),dict := none,data := (.cls { name := ⟨#[83,97,109,101,79,114,100,101,114]⟩,bases := [(.ref 24)],mro := [(.ref 109),(.ref 24),(.type "ValueError"),(.type "Exception"),(.type "BaseException"),(.type "object")],ns := 108,qualname := ⟨#[83,97,109,101,79,114,100,101,114]⟩,hasDict := true,slotNames := [],subclasses := [],abstract := false,collection := none,hasDel := false }),slots := #[(some (.ref 100)),none,(some (.str ⟨#[83,97,109,101,79,114,100,101,114]⟩ 303)),(some (.str ⟨#[83,97,109,101,79,114,100,101,114]⟩ 311)),(some (.builtin "ValueError.__new__")),(some (.bool true))] }
noncomputable def zFc (P : Params) : Obj := ob (.type "super") (.fields #[(.ref 109),(.ref 109),(.ref 109)])
noncomputable def zFb (P : Params) : Obj := ob (.type "builtin_function_or_method") (.fields #[(.builtin "object.__init_subclass__"),(.ref 109)])
noncomputable def zFa (P : Params) : Obj := { cls := (.type "dict"),dict := none,data := (.dict #[(ky P #[95,95,109,111,100,117,108,101,95,95] 326 (.str ⟨#[111,114,100,101,114,102,108,111,119,46,101,114,114,111,114,115]⟩ 187)),(ky P #[95,95,113,117,97,108,110,97,109,101,95,95] 328 (.str ⟨#[78,111,76,105,110,101]⟩ 327)),(ky P #[95,95,102,105,114,115,116,108,105,110,101,110,111,95,95] 330 (.int (18) 329)),(ky P #[95,95,115,116,97,116,105,99,95,97,116,116,114,105,98,117,116,101,115,95,95] 331 (.ref 119))] 4),slots := #[] }
noncomputable def zFZ (P : Params) : Obj := { cls := (.type "code"),dict := none,data := (.fields #[(.str ⟨#[78,111,76,105,110,101]⟩ 321),(.str ⟨#[78,111,76,105,110,101]⟩ 322),(.str ⟨#[47,99,108,97,105,109,47,99,117,116,46,112,121]⟩ 323),(.int (18) 0),(.int (0) 0),(.int (0) 0),(.int (0) 0),(.int (0) 0),(.ref 115),(.bool false),(.int (181) 0),(.ref 116),.none,.none,.none,.none,(.int (324) 0),(.int (18) 0),(.str ⟨#[47,99,108,97,105,109,47,99,117,116,46,112,121]⟩ 325)]),slots := #[] }
noncomputable def zFY (P : Params) : Obj := { cls := (.type "frame"),dict := none,data := .plain,slots := #[(some (.ref 117)),(some (.ref 3)),(some (.ref 114)),none,(some (.str ⟨#[111,114,100,101,114,102,108,111,119,46,101,114,114,111,114,115]⟩ 187)),none,(some (.ref 0))] }
noncomputable def zFX (P : Params) : Obj := { cls := (.type "dict"),dict := none,data := (.dict #[(ky P #[95,95,109,111,100,117,108,101,95,95] 326 (.str ⟨#[111,114,100,101,114,102,108,111,119,46,101,114,114,111,114,115]⟩ 187)),(ky P #[95,95,102,105,114,115,116,108,105,110,101,110,111,95,95] 330 (.int (18) 329)),(ky P #[95,95,115,116,97,116,105,99,95,97,116,116,114,105,98,117,116,101,115,95,95] 331 (.ref 119)),(ky P #[95,95,100,111,99,95,95] 332 .none)] 2),slots := #[] }
noncomputable def zFW (P : Params) : Obj := { cls := (.type "type"),dict := none,data := (.cls { name := ⟨#[78,111,76,105,110,101]⟩,bases := [(.ref 24)],mro := [(.ref 121),(.ref 24),(.type "ValueError"),(.type "Exception"),(.type "BaseException"),(.type "object")],ns := 120,qualname := ⟨#[78,111,76,105,110,101]⟩,hasDict := true,slotNames := [],subclasses := [],abstract := false,collection := none,hasDel := false }),slots := #[(some (.ref 112)),none,(some (.str ⟨#[78,111,76,105,110,101]⟩ 319)),(some (.str ⟨#[78,111,76,105,110,101]⟩ 327)),(some (.builtin "ValueError.__new__")),(some (.bool true))] }
noncomputable def zFV (P : Params) : Obj := ob (.type "super") (.fields #[(.ref 121),(.ref 121),(.ref 121)])
noncomputable def zFU (P : Params) : Obj := ob (.type "builtin_function_or_method") (.fields #[(.builtin "object.__init_subclass__"),(.ref 121)])
noncomputable def zFT (P : Params) : Obj := { cls := (.type "dict"),dict := none,data := (.dict #[(ky P #[95,95,109,111,100,117,108,101,95,95] 342 (.str ⟨#[111,114,100,101,114,102,108,111,119,46,101,114,114,111,114,115]⟩ 187)),(ky P #[95,95,113,117,97,108,110,97,109,101,95,95] 344 (.str ⟨#[84,111,111,77,117,99,104]⟩ 343)),(ky P #[95,95,102,105,114,115,116,108,105,110,101,110,111,95,95] 346 (.int (20) 345)),(ky P #[95,95,115,116,97,116,105,99,95,97,116,116,114,105,98,117,116,101,115,95,95] 347 (.ref 131))] 4),slots := #[] }
noncomputable def zFS (P : Params) : Obj := { cls := (.type "code"),dict := none,data := (.fields #[(.str ⟨#[84,111,111,77,117,99,104]⟩ 337),(.str ⟨#[84,111,111,77,117,99,104]⟩ 338),(.str ⟨#[47,99,108,97,105,109,47,99,117,116,46,112,121]⟩ 339),(.int (20) 0),(.int (0) 0),(.int (0) 0),(.int (0) 0),(.int (0) 0),(.ref 127),(.bool false),(.int (181) 0),(.ref 128),.none,.none,.none,.none,(.int (340) 0),(.int (20) 0),(.str ⟨#[47,99,108,97,105,109,47,99,117,116,46,112,121]⟩ 341)]),slots := #[] }
noncomputable def zFR (P : Params) : Obj := { cls := (.type "frame"),dict := none,data := .plain,slots := #[(some (.ref 129)),(some (.ref 3)),(some (.ref 126)),none,(some (.str ⟨#[111,114,100,101,114,102,108,111,119,46,101,114,114,111,114,115]⟩ 187)),none,(some (.ref 0))] }
noncomputable def zFQ (P : Params) : Obj := { cls := (.type "dict"),dict := none,data := (.dict #[(ky P #[95,95,109,111,100,117,108,101,95,95] 342 (.str ⟨#[111,114,100,101,114,102,108,111,119,46,101,114,114,111,114,115]⟩ 187)),(ky P #[95,95,102,105,114,115,116,108,105,110,101,110,111,95,95] 346 (.int (20) 345)),(ky P #[95,95,115,116,97,116,105,99,95,97,116,116,114,105,98,117,116,101,115,95,95] 347 (.ref 131)),(ky P #[95,95,100,111,99,95,95] 348 .none)] 2),slots := #[] }
noncomputable def zFP (P : Params) : Obj := { cls := (.type "type"),dict := none,data := (.cls { name := ⟨#[84,111,111,77,117,99,104]⟩,bases := [(.ref 24)],mro := [(.ref 133),(.ref 24),(.type "ValueError"),(.type "Exception"),(.type "BaseException"),(.type "object")],ns := 132,qualname := ⟨#[84,111,111,77,117,99,104]⟩,hasDict := true,slotNames := [],subclasses := [],abstract := false,collection := none,hasDel := false }),slots := #[(some (.ref 124)),none,(some (.str ⟨#[84,111,111,77,117,99,104]⟩ 335)),(some (.str ⟨#[84,111,111,77,117,99,104]⟩ 343)),(some (.builtin "ValueError.__new__")),(some (.bool true))] }
noncomputable def zFO (P : Params) : Obj := ob (.type "super") (.fields #[(.ref 133),(.ref 133),(.ref 133)])
noncomputable def zFN (P : Params) : Obj := ob (.type "builtin_function_or_method") (.fields #[(.builtin "object.__init_subclass__"),(.ref 133)])
noncomputable def zFM (P : Params) : Obj := { cls := (.type "dict"),dict := none,data := (.dict #[(ky P #[95,95,109,111,100,117,108,101,95,95] 358 (.str ⟨#[111,114,100,101,114,102,108,111,119,46,101,114,114,111,114,115]⟩ 187)),(ky P #[95,95,113,117,97,108,110,97,109,101,95,95] 360 (.str ⟨#[78,111,116,104,105,110,103,68,111,110,101]⟩ 359)),(ky P #[95,95,102,105,114,115,116,108,105,110,101,110,111,95,95] 362 (.int (22) 361)),(ky P #[95,95,115,116,97,116,105,99,95,97,116,116,114,105,98,117,116,101,115,95,95] 363 (.ref 143))] 4),slots := #[] }
noncomputable def zFL (P : Params) : Obj := { cls := (.type "code"),dict := none,data := (.fields #[(.str ⟨#[78,111,116,104,105,110,103,68,111,110,101]⟩ 353),(.str ⟨#[78,111,116,104,105,110,103,68,111,110,101]⟩ 354),(.str ⟨#[47,99,108,97,105,109,47,99,117,116,46,112,121]⟩ 355),(.int (22) 0),(.int (0) 0),(.int (0) 0),(.int (0) 0),(.int (0) 0),(.ref 139),(.bool false),(.int (181) 0),(.ref 140),.none,.none,.none,.none,(.int (356) 0),(.int (22) 0),(.str ⟨#[47,99,108,97,105,109,47,99,117,116,46,112,121]⟩ 357)]),slots := #[] }
noncomputable def zFK (P : Params) : Obj := { cls := (.type "frame"),dict := none,data := .plain,slots := #[(some (.ref 141)),(some (.ref 3)),(some (.ref 138)),none,(some (.str ⟨#[111,114,100,101,114,102,108,111,119,46,101,114,114,111,114,115]⟩ 187)),none,(some (.ref 0))] }
noncomputable def zFJ (P : Params) : Obj := { cls := (.type "dict"),dict := none,data := (.dict #[(ky P #[95,95,109,111,100,117,108,101,95,95] 358 (.str ⟨#[111,114,100,101,114,102,108,111,119,46,101,114,114,111,114,115]⟩ 187)),(ky P #[95,95,102,105,114,115,116,108,105,110,101,110,111,95,95] 362 (.int (22) 361)),(ky P #[95,95,115,116,97,116,105,99,95,97,116,116,114,105,98,117,116,101,115,95,95] 363 (.ref 143)),(ky P #[95,95,100,111,99,95,95] 364 .none)] 2),slots := #[] }
noncomputable def zFI (P : Params) : Obj := { cls := (.type "type"),dict := none,data := (.cls { name := ⟨#[78,111,116,104,105,110,103,68,111,110,101]⟩,bases := [(.ref 24)],mro := [(.ref 145),(.ref 24),(.type "ValueError"),(.type "Exception"),(.type "BaseException"),(.type "object")],ns := 144,qualname := ⟨#[78,111,116,104,105,110,103,68,111,110,101]⟩,hasDict := true,slotNames := [],subclasses := [],abstract := false,collection := none,hasDel := false }),slots := #[(some (.ref 136)),none,(some (.str ⟨#[78,111,116,104,105,110,103,68,111,110,101]⟩ 351)),(some (.str ⟨#[78,111,116,104,105,110,103,68,111,110,101]⟩ 359)),(some (.builtin "ValueError.__new__")),(some (.bool true))] }
noncomputable def zFH (P : Params) : Obj := ob (.type "super") (.fields #[(.ref 145),(.ref 145),(.ref 145)])
noncomputable def zFG (P : Params) : Obj := ob (.type "builtin_function_or_method") (.fields #[(.builtin "object.__init_subclass__"),(.ref 145)])
noncomputable def h08_2 (P : Params) : Heap := ⟨⟨[boot_o_0 P,boot_o_1 P,boot_o_2 P,o08_3_2 P,boot_o_4 P,boot_o_5 P,boot_o_6 P,boot_o_7 P,boot_o_8 P,boot_o_9 P,boot_o_10 P,boot_o_7 P,o08_12_2 P,zCs P,zCr P,zCq P,zAF P,zCp P,boot_o_7 P,boot_o_8 P,zCo P,zCn P,boot_o_7 P,zCm P,zHA P,zCl P,zCk P,zCj P,zAI P,zAF P,zCi P,boot_o_7 P,boot_o_8 P,zCh P,zCg P,boot_o_7 P,zCf P,zCe P,zCd P,zCc P,zAI P,zAF P,zCb P,boot_o_7 P,boot_o_8 P,zCa P,zCZ P,boot_o_7 P,zCY P,zCX P,zCW P,zCV P,zAI P,zAF P,zEW P,boot_o_7 P,boot_o_8 P,zEV P,zEU P,boot_o_7 P,zET P,zES P,zER P,zEQ P,zAI P,zAF P,zEP P,boot_o_7 P,boot_o_8 P,zEO P,zEN P,boot_o_7 P,zEM P,zEL P,zEK P,zEJ P,zAI P,zAF P,zEI P,boot_o_7 P,boot_o_8 P,zEH P,zEG P,boot_o_7 P,zEF P,zEE P,zED P,zEC P,zAI P,zAF P,zEB P,boot_o_7 P,boot_o_8 P,zEA P,zDz P,boot_o_7 P,zDy P,zDx P,zDw P,zDv P,zAI P,zAF P,zFh P,boot_o_7 P,boot_o_8 P,zFg P,zFf P,boot_o_7 P,zFe P,zFd P,zFc P,zFb P,zAI P,zAF P,zFa P,boot_o_7 P,boot_o_8 P,zFZ P,zFY P,boot_o_7 P,zFX P,zFW P,zFV P,zFU P,zAI P,zAF P,zFT P,boot_o_7 P,boot_o_8 P,zFS P,zFR P,boot_o_7 P,zFQ P,zFP P,zFO P,zFN P,zAI P,zAF P,zFM P,boot_o_7 P,boot_o_8 P,zFL P,zFK P,boot_o_7 P,zFJ P,zFI P,zFH P,zFG P]⟩,{ registered := [],finalised := [],alive := [],known := 0,ids := [],orphanDicts := [],counting := false,cnt := #[],zero := [],soft := 0,below := false,collecting := false }⟩
noncomputable def s08_2 (w : World) (os : OsState) : Shared := ⟨h08_2 w.params,#[],⟨0,0,0,0⟩,367,os⟩
noncomputable def o08_3_3 (P : Params) : Obj := { cls := (.type "dict"),dict := none,data := (.dict #[(ky P #[95,95,110,97,109,101,95,95] 165 (.str ⟨#[111,114,100,101,114,102,108,111,119,46,108,105,110,101,115]⟩ 367)),(ky P #[95,95,100,111,99,95,95] 166 .none),(ky P #[95,95,112,97,99,107,97,103,101,95,95] 167 .none),(ky P #[95,95,108,111,97,100,101,114,95,95] 168 (.builtin "__main__.__loader__#opaque")),(ky P #[95,95,115,112,101,99,95,95] 169 .none),(ky P #[95,95,97,110,110,111,116,97,116,105,111,110,115,95,95] 170 (.ref 6)),(ky P #[95,95,98,117,105,108,116,105,110,115,95,95] 171 (.ref 4)),(ky P #[95,95,102,105,108,101,95,95] 173 (.str ⟨#[47,99,108,97,105,109,47,99,117,116,46,112,121]⟩ 172)),(ky P #[95,95,99,97,99,104,101,100,95,95] 174 .none),(ky P #[70,108,111,119,69,114,114,111,114] 206 (.ref 24)),(ky P #[78,111,68,101,101,100] 222 (.ref 37)),(ky P #[78,111,76,105,110,101,115] 238 (.ref 49)),(ky P #[78,111,73,116,101,109] 254 (.ref 61)),(ky P #[78,111,78,117,109,98,101,114] 270 (.ref 73)),(ky P #[70,117,108,108,66,111,111,107] 286 (.ref 85)),(ky P #[78,111,79,114,100,101,114] 302 (.ref 97)),(ky P #[83,97,109,101,79,114,100,101,114] 318 (.ref 109)),(ky P #[78,111,76,105,110,101] 334 (.ref 121)),(ky P #[84,111,111,77,117,99,104] 350 (.ref 133)),(ky P #[78,111,116,104,105,110,103,68,111,110,101] 366 (.ref 145)),(ky P #[76,69,84,84,69,82,83] 370 (.str ⟨#[97,98,99,100,101,102,103,104,105,106,107,108,109,110,111,112,113,114,115,116,117,118,119,120,121,122]⟩ 369)),(ky P #[77,79,83,84,95,83,73,71,78,83] 372 (.int (12) 371)),(ky P #[105,115,95,105,116,101,109] 378 (.ref 152)),(ky P #[80,65,82,84,83] 403 (.ref 153))] 24),slots := #[] }
noncomputable def o08_12_3 (P : Params) : Obj := { cls := .none,dict := none,data := (.fields #[(.int (2) 0),(.int (0) 0),(.ref 20),(.int (4) 0),(.int (0) 0),(.ref 33),(.int (6) 0),(.int (0) 0),(.ref 45),(.int (8) 0),(.int (0) 0),(.ref 57),(.int (10) 0),(.int (0) 0),(.ref 69),(.int (12) 0),(.int (0) 0),(.ref 81),(.int (14) 0),(.int (0) 0),(.ref 93),(.int (16) 0),(.int (0) 0),(.ref 105),(.int (18) 0),(.int (0) 0),(.ref 117),(.int (20) 0),(.int (0) 0),(.ref 129),(.int (22) 0),(.int (0) 0),(.ref 141),(.int (27) 0),(.int (0) 0),(.ref 151)]),slots := #[] }
noncomputable def o08_150_3 (P : Params) : Obj := fo .none #[105,115,95,105,116,101,109] #[105,115,95,105,116,101,109] (topS 15) 0 .none .none
noncomputable def o08_151_3 (P : Params) : Obj := { cls := (.type "code"),dict := none,data := (.fields #[(.str ⟨#[105,115,95,105,116,101,109]⟩ 373),(.str ⟨#[105,115,95,105,116,101,109]⟩ 374),(.str ⟨#[47,99,108,97,105,109,47,99,117,116,46,112,121]⟩ 375),(.int (27) 0),(.int (1) 0),(.int (0) 0),(.int (0) 0),(.int (3) 0),(.ref 148),(.bool true),(.int (181) 0),(.ref 149),.none,.none,.none,(.ref 150),(.int (376) 0),(.int (27) 0),(.str ⟨#[47,99,108,97,105,109,47,99,117,116,46,112,121]⟩ 377)]),slots := #[] }
noncomputable def o08_152_3 (P : Params) : Obj := fo (.type "function") #[105,115,95,105,116,101,109] #[105,115,95,105,116,101,109] (topS 15) 3 (.str ⟨#[111,114,100,101,114,102,108,111,119,46,108,105,110,101,115]⟩ 367) (.ref 151)
noncomputable def o08_153_3 (P : Params) : Obj := { cls := (.type "dict"),dict := none,data := (.dict #[(ky P #[111,114,100,101,114] 379 (.int (2) 380)),(ky P #[100,101,108,105,118,101,114] 381 (.int (4) 382)),(ky P #[98,97,99,107] 383 (.int (4) 384)),(ky P #[115,119,97,112] 385 (.int (4) 386)),(ky P #[99,114,101,100,105,116] 387 (.int (4) 388)),(ky P #[112,97,121] 389 (.int (3) 390)),(ky P #[114,101,102,117,110,100] 391 (.int (3) 392)),(ky P #[109,111,118,101] 393 (.int (4) 394))] 8),slots := #[] }
noncomputable def h08_3 (P : Params) : Heap := ⟨⟨[boot_o_0 P,boot_o_1 P,boot_o_2 P,o08_3_3 P,boot_o_4 P,boot_o_5 P,boot_o_6 P,boot_o_7 P,boot_o_8 P,boot_o_9 P,boot_o_10 P,boot_o_7 P,o08_12_3 P,zCs P,zCr P,zCq P,zAF P,zCp P,boot_o_7 P,boot_o_8 P,zCo P,zCn P,boot_o_7 P,zCm P,zHA P,zCl P,zCk P,zCj P,zAI P,zAF P,zCi P,boot_o_7 P,boot_o_8 P,zCh P,zCg P,boot_o_7 P,zCf P,zCe P,zCd P,zCc P,zAI P,zAF P,zCb P,boot_o_7 P,boot_o_8 P,zCa P,zCZ P,boot_o_7 P,zCY P,zCX P,zCW P,zCV P,zAI P,zAF P,zEW P,boot_o_7 P,boot_o_8 P,zEV P,zEU P,boot_o_7 P,zET P,zES P,zER P,zEQ P,zAI P,zAF P,zEP P,boot_o_7 P,boot_o_8 P,zEO P,zEN P,boot_o_7 P,zEM P,zEL P,zEK P,zEJ P,zAI P,zAF P,zEI P,boot_o_7 P,boot_o_8 P,zEH P,zEG P,boot_o_7 P,zEF P,zEE P,zED P,zEC P,zAI P,zAF P,zEB P,boot_o_7 P,boot_o_8 P,zEA P,zDz P,boot_o_7 P,zDy P,zDx P,zDw P,zDv P,zAI P,zAF P,zFh P,boot_o_7 P,boot_o_8 P,zFg P,zFf P,boot_o_7 P,zFe P,zFd P,zFc P,zFb P,zAI P,zAF P,zFa P,boot_o_7 P,boot_o_8 P,zFZ P,zFY P,boot_o_7 P,zFX P,zFW P,zFV P,zFU P,zAI P,zAF P,zFT P,boot_o_7 P,boot_o_8 P,zFS P,zFR P,boot_o_7 P,zFQ P,zFP P,zFO P,zFN P,zAI P,zAF P,zFM P,boot_o_7 P,boot_o_8 P,zFL P,zFK P,boot_o_7 P,zFJ P,zFI P,zFH P,zFG P,boot_o_7 P,boot_o_8 P,o08_150_3 P,o08_151_3 P,o08_152_3 P,o08_153_3 P]⟩,{ registered := [],finalised := [],alive := [],known := 0,ids := [],orphanDicts := [],counting := false,cnt := #[],zero := [],soft := 0,below := false,collecting := false }⟩
noncomputable def s08_3 (w : World) (os : OsState) : Shared := ⟨h08_3 w.params,#[],⟨0,0,0,0⟩,404,os⟩
noncomputable def env08 : Env := { scope := pw08.main.scope,locals := mainNs,globals := mainNs,cells := [],code := (.ref 13),frame := some 14 }
noncomputable def b08 : List Stmt := behindTheImports pw08
noncomputable def c08 : Code := .body b08 env08
noncomputable def z08 (w : World) (os : OsState) : Shared := ⟨boot_heap w.params,Array.mk [],boot_drawn,boot_toks,os⟩
noncomputable def tpre08 (w : World) (os : OsState) := topGo treeTable pw08 w 11 (some (.ref 6)) 12 (z08 w os) (topStub pw08)
noncomputable def tblk08 (w : World) (os : OsState) := (tpre08 w os).bind fun x => segRun treeTable pw08 w 11 (some (.ref 6)) 1 1 x.1 (blockOf b08 env08 c08 ⟨0,0,0,0⟩ [topFrame ⟨0,0,0,0⟩])
theorem pre08 : ∀ (w : World),(fun os => (tpre08 w os).map (·.2)) = fun _ => some ⟨denote treeTable c08,c08,⟨0,0,0,0⟩,[topFrame ⟨0,0,0,0⟩]⟩ := by
  intro w; kernel_rfl
theorem blk08 : ∀ (w : World),(fun os => (tblk08 w os).map fun y => (y.1,y.2.2)) = fun _ => some (.next,c08,⟨0,0,0,0⟩) := by
  intro w; kernel_rfl
noncomputable def L08_0 (w : World) (os : OsState) := (tblk08 w os).bind fun y => segRun treeTable pw08 w 11 (some (.ref 6)) 1 622 y.2.1 (piecesOf ((b08.take 4).drop 0) env08 c08 ⟨0,0,0,0⟩ [topFrame ⟨0,0,0,0⟩])
noncomputable def R08_0 (w : World) (os : OsState) : Option (Flow × Shared × Code × Pos) := some (.next,s08_0 w os,c08,⟨6,0,7,8⟩)
theorem g08_0 : ∀ w : World,L08_0 w = R08_0 w := by
  intro w; kernel_rfl
noncomputable def L08_1 (w : World) (os : OsState) := segRun treeTable pw08 w 11 (some (.ref 6)) 1 853 (s08_0 w os) (piecesOf ((b08.take 8).drop 4) env08 c08 ⟨6,0,7,8⟩ [topFrame ⟨0,0,0,0⟩])
noncomputable def R08_1 (w : World) (os : OsState) : Option (Flow × Shared × Code × Pos) := some (.next,s08_1 w os,c08,⟨14,0,15,8⟩)
theorem g08_1 : ∀ w : World,L08_1 w = R08_1 w := by
  intro w; kernel_rfl
noncomputable def L08_2 (w : World) (os : OsState) := segRun treeTable pw08 w 11 (some (.ref 6)) 1 853 (s08_1 w os) (piecesOf ((b08.take 12).drop 8) env08 c08 ⟨14,0,15,8⟩ [topFrame ⟨0,0,0,0⟩])
noncomputable def R08_2 (w : World) (os : OsState) : Option (Flow × Shared × Code × Pos) := some (.next,s08_2 w os,c08,⟨22,0,23,8⟩)
theorem g08_2 : ∀ w : World,L08_2 w = R08_2 w := by
  intro w; kernel_rfl
noncomputable def L08_3 (w : World) (os : OsState) := segRun treeTable pw08 w 11 (some (.ref 6)) 1 184 (s08_2 w os) (piecesOf ((b08.take 17).drop 12) env08 c08 ⟨22,0,23,8⟩ [topFrame ⟨0,0,0,0⟩])
noncomputable def R08_3 (w : World) (os : OsState) : Option (Flow × Shared × Code × Pos) := some (.next,s08_3 w os,c08,⟨31,0,31,5⟩)
theorem zGc : ∀ w : World,L08_3 (w.withFollow "special-get-raises" false) = R08_3 (w.withFollow "special-get-raises" false) := by
  intro w; kernel_rfl
theorem g08_3_true : ∀ w : World,L08_3 (w.withFollow "special-get-raises" true) = R08_3 (w.withFollow "special-get-raises" true) := by
  intro w; kernel_rfl
theorem g08_3 : ∀ w : World,L08_3 w = R08_3 w := byRow2 "special-get-raises" zGc g08_3_true
noncomputable def v08 : Program := view pw08 [1,2,3,4,5,6,7,8,9,10,11,13,14,15,16,18,19,20,21,22,24,25,26,27,28,29,30,31,32,33,34,35,36,37,38,39]
noncomputable def x08 (s : Shared) : Bool := xlAt v08 [] s && recOk [] s
noncomputable def partsToks08 : List (Nat × Nat) := [(379,380),(381,382),(383,384),(385,386),(387,388),(389,390),(391,392),(393,394)]
noncomputable def y08 (s : Shared) : Bool × Option Value × Option Obj × List (Option (Addr × List Value)) := (s.heap.isNs mainGlobals,s.heap.nsMap mainGlobals "PARTS",s.heap.get? 153,[mroAt s.heap "FlowError",mroAt s.heap "NoDeed",mroAt s.heap "NoLines",mroAt s.heap "NoItem",mroAt s.heap "NoNumber",mroAt s.heap "FullBook",mroAt s.heap "NoOrder",mroAt s.heap "SameOrder",mroAt s.heap "NoLine",mroAt s.heap "TooMuch",mroAt s.heap "NothingDone"])
noncomputable def a08 (w : World) : Bool × Option Value × Option Obj × List (Option (Addr × List Value)) := (true,some (.ref 153),some (pObjT w.params partsToks08),[some (24,[.ref 24,.type "ValueError",.type "Exception",.type "BaseException",.type "object"]),some (37,[.ref 37,.ref 24,.type "ValueError",.type "Exception",.type "BaseException",.type "object"]),some (49,[.ref 49,.ref 24,.type "ValueError",.type "Exception",.type "BaseException",.type "object"]),some (61,[.ref 61,.ref 24,.type "ValueError",.type "Exception",.type "BaseException",.type "object"]),some (73,[.ref 73,.ref 24,.type "ValueError",.type "Exception",.type "BaseException",.type "object"]),some (85,[.ref 85,.ref 24,.type "ValueError",.type "Exception",.type "BaseException",.type "object"]),some (97,[.ref 97,.ref 24,.type "ValueError",.type "Exception",.type "BaseException",.type "object"]),some (109,[.ref 109,.ref 24,.type "ValueError",.type "Exception",.type "BaseException",.type "object"]),some (121,[.ref 121,.ref 24,.type "ValueError",.type "Exception",.type "BaseException",.type "object"]),some (133,[.ref 133,.ref 24,.type "ValueError",.type "Exception",.type "BaseException",.type "object"]),some (145,[.ref 145,.ref 24,.type "ValueError",.type "Exception",.type "BaseException",.type "object"])])
noncomputable def th08 : Thread := (restOf (b08.drop 17) env08 c08 ⟨31,0,31,5⟩ [topFrame ⟨0,0,0,0⟩])
noncomputable def look08 (w : World) (os : OsState) := (topRun treeTable pw08 w 11 (some (.ref 6)) 589 (s08_3 w os) th08).map fun s₁ => ((staticsOk (importedModules pw08.main.body) (boot_heap w.params) s₁.heap && namesBound pw08 s₁.heap && gensDone s₁ && laidKept (boot_heap w.params) s₁.heap),
        openSeen v08 [("PARTS" : Str)] (importedModules pw08.main.body) x08 true s₁,y08 s₁)
theorem looks08 : ∀ w : World,look08 w = fun _ => some (true,openGood v08 [("PARTS" : Str)],a08 w) := by
  intro w; kernel_rfl
theorem size08 : ∀ w : World,((boot_heap w.params).isNs mainGlobals && (Array.mk [] : Array GenState).size == 0,(boot_heap w.params).objs.size,(boot_heap w.params).nsMap mainGlobals "__annotations__") = (true,11,(some (.ref 6))) := by
  intro w; kernel_rfl
theorem run08 (w : World) (os : OsState) (r : Shared) (k : topRun treeTable pw08 w 11 (some (.ref 6)) 589 (s08_3 w os) th08 = some r) : topRun treeTable pw08 w 11 (some (.ref 6)) (12 + (1 + (622 + (853 + (853 + (184 + 589)))))) (z08 w os) (topStub pw08) = some r :=
  cut_first (i := 4) (hc := rfl) (congrFun (pre08 w) os) (congrFun (blk08 w) os) (congrFun (g08_0 w) os) (zEj (i := 4) (j := 8) (by decide) (congrFun (g08_1 w) os) (zEj (i := 8) (j := 12) (by decide) (congrFun (g08_2 w) os) (zEj (i := 12) (j := 17) (by decide) (congrFun (g08_3 w) os) k)))
theorem left08 : LeftO pw08 v08 [("PARTS" : Str)] x08 y08 a08 3900 :=
  zGX (n := 2525) (M := 589) (sc := s08_3) (th := th08) (by kernel_rfl) (by decide) (fun s => by kernel_rfl) size08 (fun w os r k => run08 w os r k) (by decide) looks08
theorem well08 : PySem.Challenge.rw_uf040020_08.wellSaid = true := by kernel_rfl
end Mine
end

/-! # Fin08 -/
section
open PySem PySem.W PyProof.Rows
set_option Elab.async false
set_option maxRecDepth 100000
namespace Mine
noncomputable def base08 : List (Str × V) := [("LETTERS", .str letters), ("MOST_SIGNS", .int 12), ("FIGURES", .str figs), ("MOST_FIGURES", .int 30)]
noncomputable def ex08 : List Ex := [⟨"FlowError", .FlowError, 24, bmV⟩, ⟨"NoDeed", .NoDeed, 37, .ref 24 :: bmV⟩, ⟨"NoLines", .NoLines, 49, .ref 24 :: bmV⟩, ⟨"NoItem", .NoItem, 61, .ref 24 :: bmV⟩, ⟨"NoNumber", .NoNumber, 73, .ref 24 :: bmV⟩, ⟨"FullBook", .FullBook, 85, .ref 24 :: bmV⟩, ⟨"NoOrder", .NoOrder, 97, .ref 24 :: bmV⟩, ⟨"SameOrder", .SameOrder, 109, .ref 24 :: bmV⟩, ⟨"NoLine", .NoLine, 121, .ref 24 :: bmV⟩, ⟨"TooMuch", .TooMuch, 133, .ref 24 :: bmV⟩, ⟨"NothingDone", .NothingDone, 145, .ref 24 :: bmV⟩]
noncomputable def cl08 (c : Cls) : Value := match ex08.find? fun q => q.c == c with
  | some q => .ref q.a
  | none => .none
noncomputable def kn08 : List Cls := ex08.map (·.c)
noncomputable def C08 : Ctx := { fns := [("is_item", 21), ("number_of", 29), ("line_of", 30), ("read", 31), ("_law_cell_at", 100), ("_law_whole", 101), ("_law_number_by", 102), ("_law_item_by", 103), ("_law_any_deed", 104), ("_law_text_of", 105), ("_law_number_in", 106), ("_law_line_in", 107), ("_law_deed_in", 108), ("_law_parts_alike", 109), ("_law_deed_alike", 110), ("_law_changed_by", 111), ("_law_odd_text", 112), ("_law_of_one_class", 113), ("_law_refused_by_any", 114), ("law", 115)], meths := [], consts := base08 ++ [(("PARTS" : Str), .parts)], excs := (ex08.map fun q => (q.name, q.c)), attrs := [], book := false, trks := trks08 }
noncomputable def lo08 : List Str := looseW v08 [("PARTS" : Str)]
theorem base08_ok : ∀ q ∈ base08, ConstOk v08 q.1 q.2 := fun q hq => by
  simp only [base08, List.mem_cons, List.not_mem_nil, or_false] at hq
  rcases hq with rfl | rfl | rfl | rfl
  all_goals first
    | exact .int _ (by kernel_rfl)
    | exact .str _ (by kernel_rfl) (by decide) (by decide +kernel)
theorem spec08 : (ex08.map fun q => specOf v08 q.name) = ex08.map fun _ => some ("ValueError.__new__", bmV) := by kernel_rfl
theorem kn08_ok : (ex08.all fun q => kn08.contains q.c && (kn08.all fun d => (Value.ref q.a :: q.bm).contains (cl08 d) == q.c.sub d) && cl08 q.c == .ref q.a) = true := by decide +kernel
set_option maxHeartbeats 8000000 in
theorem law08_text : NoteLaw v08 lo08 C08 tabF08 base08 ex08 cl08 kn08 where
  k1 := by kernel_rfl
  k2 := by decide +kernel
  k3 := by decide +kernel
  k4 := by decide +kernel
  hc := rfl
  hb := base08_ok
  hx := rfl
  hs := fun q hq => List.map_inj_left.mp spec08 q hq
  hcl := fun q hq => by
    simp only [ex08, List.mem_cons, List.not_mem_nil, or_false] at hq
    rcases hq with rfl | rfl | rfl | rfl | rfl | rfl | rfl | rfl | rfl | rfl | rfl <;> rfl
  hbm := fun q hq => by
    simp only [ex08, List.mem_cons, List.not_mem_nil, or_false] at hq
    rcases hq with rfl | rfl | rfl | rfl | rfl | rfl | rfl | rfl | rfl | rfl | rfl
    · exact .inl rfl
    all_goals exact .inr ⟨_, .head _, rfl⟩
  hkn := fun q hq => by
    have := List.all_eq_true.mp kn08_ok q hq
    simp only [Bool.and_eq_true] at this
    exact ⟨List.contains_iff_mem.mp this.1.1, fun d hd => eq_of_beq (List.all_eq_true.mp this.1.2 d hd)⟩
  nb := ⟨rfl, rfl, rfl⟩
  cln := ⟨by kernel_rfl, by kernel_rfl, by kernel_rfl⟩
noncomputable def ms08 : List (Str × Addr × List Value) := ex08.map fun q => (q.name, q.a, .ref q.a :: q.bm)
noncomputable def says08 (w : World) (h : Heap) : Prop := SaysN w.params 153 partsToks08 ms08 h
theorem of08 (w : World) (s : Shared) (h : y08 s = a08 w) : says08 w s.heap := saysN_of h
theorem keeps08 (w : World) (h h' : Heap) (x : says08 w h) (k : ∀ b o, h.get? b = some o → h'.get? b = some o) : says08 w h' := SaysN.keeps x k
end Mine
set_option maxHeartbeats 8000000 in
theorem PySem.Challenge.cw_uf040020_08_holds : PySem.Challenge.rw_uf040020_08.Holds := by
  w_on
  refine holds_law Mine.well08 fun said => ?_
  refine holds_open (q := Mine.v08) (loose := [("PARTS" : Str)]) (Xt := Mine.x08) (XP := XL Mine.v08 []) (Yf := Mine.y08) (Ya := Mine.a08) (YP := Mine.says08) (N := 3900) Mine.left08 Mine.of08 Mine.keeps08 (fun s e => xl_of s (Bool.and_eq_true_iff.mp e).1) XL.keeps (by rfl) (by rfl) (by rfl) (fun s e => recFacts_of (Bool.and_eq_true_iff.mp e).2) (by rfl) (by first | assumption | decide +kernel) (by decide +kernel) ⟨rfl, rfl, rfl, rfl, rfl, by decide +kernel⟩ ?hw ?hc
  case hw => w_witness2
  intro w s₀ s₁ mg mb G Y fa o pm cd doc dV kV ho hd hcd hD hmg hg args vals as hpre hlay hrd hwl hlo
  have hmg' : mg ("law" : Str) = some (.ref fa) := hmg
  clear hd hcd hD hmg
  refine Ground.open G ?_
  intro T B D TE TW
  wrow_args hpre hlay hrd hwl hlo
  refine enter_call ?_
  rename_i ns _ _ _ _ _ _ _ a _ _ _ _ W _ _ _ hlen _
  refine codeAny_mono (Mine.note_walk (d := 5) (k := 115) Mine.law08_text T Y (by rfl) (by rfl) (by rfl) hmg' W (by omega) (by decide) (Mine.law08 (d := 0) ns (by omega))) fun r s' h => ?_
  obtain ⟨rfl, hk, hos, hgs⟩ := h
  exact Mine.law_good PySem.Challenge.rw_uf040020_08 hk hos hg hgs
end

