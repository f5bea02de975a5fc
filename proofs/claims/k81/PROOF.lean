import PyProof.Rows.All
import Wide.All
import OpenK.AllK
import Wide.FinOn
import HandS.ForMost
import HandS.Deep
import HandS.IsInst
import HandS.WordsExc
import HandS.TupAny
import HandS.Style
import HandS.TupLen
import PySem.Challenge.RW_screenspoken_k81_judge_of_common_rows
set_option Elab.async false
set_option linter.all false
set_option maxRecDepth 100000
/-! The data layer, part a: plain data, slots, outcomes, what each construct computes (no heap). -/
namespace Dl
open PySem

abbrev D := PyData
/-- a slot of a def: without a value, shared data, data that this slot alone refers to -/
inductive EV where
  | un
  | sh (d : D)
  | ow (d : D)
  /-- .. whose items are lists of its own too -/
  | o2 (d : D)
  /-- the j-th item of the list in slot k -/
  | al (k j : Nat)
abbrev Rho := List EV

inductive Out (α : Type) where
  | ok (a : α)
  | ex (c : String)
  | no

namespace Out
def bind {α β : Type} (x : Out α) (f : α → Out β) : Out β := match x with
  | ok a => f a
  | ex c => ex c
  | no => no
def post {α : Type} (x : Out α) (P : α → Prop) (W : String → Prop) : Prop := match x with
  | ok a => P a
  | ex c => W c
  | no => False
@[simp] theorem bind_ok {α β : Type} (a : α) (f : α → Out β) : (ok a).bind f = f a := rfl
@[simp] theorem bind_ex {α β : Type} (c : String) (f : α → Out β) : (ex c : Out α).bind f = ex c := rfl
@[simp] theorem bind_no {α β : Type} (f : α → Out β) : (no : Out α).bind f = no := rfl
theorem post_bind {α β : Type} {x : Out α} {f : α → Out β} {P : β → Prop} {W : String → Prop} : (x.bind f).post P W ↔ x.post (fun a => (f a).post P W) W := by cases x <;> rfl
theorem post.mono {α : Type} {x : Out α} {P P' : α → Prop} {W W' : String → Prop} (h : x.post P W) (hP : ∀ a, x = ok a → P a → P' a) (hW : ∀ c, W c → W' c) : x.post P' W' := by
  cases x with
  | ok a => exact hP a rfl h
  | ex c => exact hW c h
  | no => exact h
/-- an exception may not leave -/
def calm {α : Type} (x : Out α) : Out α := match x with
  | ok a => ok a
  | ex _ => no
  | no => no
@[simp] theorem calm_ok {α : Type} (a : α) : (ok a).calm = ok a := rfl
@[simp] theorem calm_ex {α : Type} (c : String) : (ex c : Out α).calm = no := rfl
@[simp] theorem calm_no {α : Type} : (no : Out α).calm = no := rfl
end Out
open Out

abbrev FE := Rho → Out D
abbrev FA := Rho → Out (List D)
abbrev FT := Rho → Out Bool
abbrev FO := Rho → Out (Option Int)
abbrev FG := D → Rho → Out Rho
/-- a def: arguments to (is the answer a new list or dict, the answer) -/
abbrev Fn := List D → Out (Bool × D)
inductive SRes where
  | nx (ρ : Rho)
  | rt (b : Bool) (d : D)
  | bk (ρ : Rho)
  | ct (ρ : Rho)
  | ex (c : String) (ρ : Rho)
  | no
abbrev FS := Rho → SRes

/-! ### names, constants -/
def evB : EV → Out D
  | .sh d => ok d
  | .ow d => ok d
  | _ => no
def evS : EV → Out D
  | .sh d => ok d
  | _ => no
def fV (i : Nat) : FE := fun ρ => evB (ρ.getD i .un)
def fS (i : Nat) : FE := fun ρ => evS (ρ.getD i .un)
def fC (d : D) : FE := fun _ => ok d
def f1 (o : D → Out D) (a : FE) : FE := fun ρ => (a ρ).bind o
def f2 (o : D → D → Out D) (a b : FE) : FE := fun ρ => (a ρ).bind fun x => (b ρ).bind fun y => o x y
/-- freeze a slot -/
def frzE : EV → EV
  | .ow d => .sh d
  | .o2 d => .sh d
  | e => e
def frz (i : Nat) (ρ : Rho) : Rho := ρ.set i (frzE (ρ.getD i .un))

/-- the j-th item of a list, the j-th value of a dict -/
def itemD : D → Nat → Option D
  | .list ds, j => ds[j]?
  | .dict kds, j => (kds.map (·.2))[j]?
  | _, _ => none
/-- all as if it were shared: for what is read only -/
def viewA (j : Nat) : EV → EV
  | .o2 d => match itemD d j with
    | some e => .sh e
    | none => .un
  | _ => .un
def viewE (ρ : Rho) : EV → EV
  | .un => .un
  | .sh d => .sh d
  | .ow d => .sh d
  | .o2 d => .sh d
  | .al k j => viewA j (ρ.getD k .un)
def view (ρ : Rho) : Rho := ρ.map (viewE ρ)

/-! ### operations -/
def oAdd : D → D → Out D
  | .int i, .int j => ok (.int (i + j))
  | .str a, .str b => if a.length + b.length ≤ sizeLine then ok (.str (a ++ b)) else no
  | .list a, .list b => if a.length + b.length ≤ sizeLine then ok (.list (a ++ b)) else no
  | .tuple a, .tuple b => if a.length + b.length ≤ sizeLine then ok (.tuple (a ++ b)) else no
  | .int i, .bool k => ok (.int (i + if k then 1 else 0))
  | _, _ => no
/-- a list and a list, a list and an int, a list's part: new ones -/
def oCat : D → D → Out D
  | .list a, .list b => if a.length + b.length ≤ sizeLine then ok (.list (a ++ b)) else no
  | _, _ => no
def oRep : D → D → Out D
  | .list a, .int k => if -(2 ^ 63) ≤ k ∧ k < 2 ^ 63 ∧ a.length * k.toNat ≤ sizeLine then ok (.list (List.replicate k.toNat a).flatten) else no
  | _, _ => no
def oSub : D → D → Out D
  | .int i, .int j => ok (.int (i - j))
  | _, _ => no
def mulOk (i j : Int) : Bool := decide ((-(2 ^ 64) < i ∧ i < 2 ^ 64) ∨ (-(2 ^ 64) < j ∧ j < 2 ^ 64))
def oMul : D → D → Out D
  | .int i, .int j => if mulOk i j then ok (.int (i * j)) else no
  | _, _ => no
def oFdiv : D → D → Out D
  | .int i, .int j => if 0 < j ∧ j < 1073741824 then ok (.int (i / j)) else no
  | _, _ => no
def oMod : D → D → Out D
  | .int i, .int j => if 0 < j then ok (.int (i % j)) else no
  | _, _ => no
def oPow : D → D → Out D
  | .int i, .int j => if 0 ≤ j ∧ j ≤ 1000000 ∧ i.natAbs < 2 ^ 64 then ok (.int (i ^ j.toNat)) else no
  | _, _ => no
def oNeg : D → Out D
  | .int i => ok (.int (-i))
  | _ => no
/-- two flat data that == compares at once -/
def scalD : D → D → Bool
  | .none, .none => true | .none, .int _ => true | .int _, .none => true | .none, .bool _ => true | .bool _, .none => true | .none, .str _ => true | .str _, .none => true
  | .int _, .int _ => true | .bool _, .bool _ => true | .str _, .str _ => true
  | .int _, .str _ => true | .str _, .int _ => true | .bool _, .str _ => true | .str _, .bool _ => true
  | _, _ => false
def eqOk (a b : D) : Bool := scalD a b || (SeqAt.shaped a && SeqAt.shaped b)
def oEq (a b : D) : Out D := if eqOk a b = true then ok (.bool (PyData.eqv a b)) else no
def oNe (a b : D) : Out D := if eqOk a b = true then ok (.bool (!PyData.eqv a b)) else no
def oLt : D → D → Out D
  | .int i, .int j => ok (.bool (decide (i < j)))
  | .str i, .str j => ok (.bool (decide (i.cps.toList < j.cps.toList)))
  | _, _ => no
def oLe : D → D → Out D
  | .int i, .int j => ok (.bool (decide (i ≤ j)))
  | _, _ => no
def oGt : D → D → Out D
  | .int i, .int j => ok (.bool (decide (j < i)))
  | _, _ => no
def oGe : D → D → Out D
  | .int i, .int j => ok (.bool (decide (j ≤ i)))
  | _, _ => no
/-- flat data -/
def flatD : D → Bool
  | .none => true
  | .bool _ => true
  | .int _ => true
  | .str _ => true
  | _ => false
def inOk (x : D) (ds : List D) : Bool := (flatD x && ds.all flatD) || (SeqAt.shaped x && SeqAt.shaped (.list ds))
def onlyFlat (d : D) : Out D := if flatD d = true then ok d else no
/-- an expression whose answer is flat, read in the view -/
def fX (f : FE) : FE := fun ρ => (f (view ρ)).bind onlyFlat
def fXT (f : FT) : FT := fun ρ => f (view ρ)
def oIn (x : D) : D → Out D
  | .list ds => if inOk x ds = true then ok (.bool (ds.any fun z => PyData.eqv z x)) else no
  | .tuple ds => if flatD x = true ∧ ds.all flatD = true then ok (.bool (ds.any fun z => PyData.eqv z x)) else no
  | _ => no
def oNin (x : D) : D → Out D
  | .list ds => if inOk x ds = true then ok (.bool (!ds.any fun z => PyData.eqv z x)) else no
  | .tuple ds => if flatD x = true ∧ ds.all flatD = true then ok (.bool (!ds.any fun z => PyData.eqv z x)) else no
  | _ => no
def isNoneD : D → Bool
  | .none => true
  | _ => false
def oIsN (x : D) : Out D := ok (.bool (isNoneD x))
def oNotN (x : D) : Out D := ok (.bool (!isNoneD x))
def oIsB : D → D → Out D
  | .bool a, .bool b => ok (.bool (decide (a = b)))
  | _, _ => no
def oNotB : D → D → Out D
  | .bool a, .bool b => ok (.bool (!decide (a = b)))
  | _, _ => no
def isBool (b : Bool) : D → Bool
  | .bool c => c == b
  | _ => false
def ofO {α : Type} (o : Option α) : Out α := match o with
  | some a => ok a
  | none => no
@[simp] theorem ofO_some {α : Type} (a : α) : ofO (some a) = ok a := rfl
@[simp] theorem ofO_none {α : Type} : ofO (none : Option α) = no := rfl
/-- a list that may only be read (the script, a list of the top): told as this -/
def roD (ds : List D) : D := .dict [(.none, .list ds)]
def roOf : List (D × D) → Option (List D)
  | [(.none, .list ds)] => some ds
  | _ => none
def oIx : D → D → Out D
  | .list ds, .int i => ofO (L2.atI ds i)
  | .tuple ds, .int i => ofO (L2.atI ds i)
  | .dict kvs, .int i => (ofO (roOf kvs)).bind fun ds => ofO (L2.atI ds i)
  | .str z, .int i => if z.length ≤ sizeLine then (ofO (L2.atI z.cps.toList i)).bind fun c => ok (.str ⟨#[c]⟩) else no
  | _, _ => no
def cut {α : Type} (xs : List α) (lo hi : Option Int) : List α := (xs.drop (HT.sIx xs.length 0 lo)).take (HT.sIx xs.length xs.length hi - HT.sIx xs.length 0 lo)
def oSl (lo hi : Option Int) : D → Out D
  | .list ds => ok (.list (cut ds lo hi))
  | .tuple ds => ok (.tuple (cut ds lo hi))
  | _ => no
def oSlL (lo hi : Option Int) : D → Out D
  | .list ds => ok (.list (cut ds lo hi))
  | _ => no
def fSlL (a : FE) (lo hi : FO) : FE := fun ρ => (a ρ).bind fun x => (lo ρ).bind fun l => (hi ρ).bind fun h => oSlL l h x
def fSl (a : FE) (lo hi : FO) : FE := fun ρ => (a ρ).bind fun x => (lo ρ).bind fun l => (hi ρ).bind fun h => oSl l h x
def fNoPart : FO := fun _ => ok none
def asInt : D → Out Int
  | .int i => ok i
  | _ => no
def fPart (a : FE) : FO := fun ρ => (a ρ).bind fun x => (asInt x).bind fun i => ok (some i)
def oLen : D → Out D
  | .list ds => ok (.int ds.length)
  | .tuple ds => ok (.int ds.length)
  | .str z => if z.length ≤ sizeLine then ok (.int z.length) else no
  | .dict kvs => match roOf kvs with
    | some ds => ok (.int ds.length)
    | none => ok (.int kvs.length)
  | _ => no
def asBool : D → Out Bool
  | .bool b => ok b
  | _ => no
def dBools : List D → Out (List Bool)
  | [] => ok []
  | d :: ds => (asBool d).bind fun b => (dBools ds).bind fun bs => ok (b :: bs)
def dInts : List D → Out (List Int)
  | [] => ok []
  | d :: ds => (asInt d).bind fun b => (dInts ds).bind fun bs => ok (b :: bs)
def oAll : D → Out D
  | .list ds => (dBools ds).bind fun bs => ok (.bool (bs.all id))
  | _ => no
def oAny : D → Out D
  | .list ds => (dBools ds).bind fun bs => ok (.bool (bs.any id))
  | _ => no
def oSum : D → Out D
  | .list ds => (dInts ds).bind fun ns => ok (.int ns.sum)
  | _ => no
def oInt : D → Out D
  | .int i => ok (.int i)
  | .bool k => ok (.int (if k then 1 else 0))
  | _ => no
def oAbs : D → Out D
  | .int i => ok (.int (if i < 0 then -i else i))
  | _ => no
def oMax2 : D → D → Out D
  | .int i, .int j => ok (.int (if j > i then j else i))
  | _, _ => no
def oMin2 : D → D → Out D
  | .int i, .int j => ok (.int (if j < i then j else i))
  | _, _ => no
/-- list(x), x a list or a tuple -/
def oList : D → Out D
  | .list ds => ok (.list ds)
  | .tuple ds => ok (.list ds)
  | _ => no
def tyOfD : D → String
  | .none => "NoneType"
  | .bool _ => "bool"
  | .int _ => "int"
  | .str _ => "str"
  | .list _ => "list"
  | .tuple _ => "tuple"
  | .dict kvs => if (roOf kvs).isSome then "list" else "dict"
def isiD (t : String) (d : D) : Bool := tyOfD d == t || (tyOfD d == "bool" && t == "int")
def oIsi (t : String) (d : D) : Out D := ok (.bool (isiD t d))

/-! ### and, or, not, if; tests -/
def fB (a : FE) : FT := fun ρ => (a ρ).bind asBool
def tAnd (a b : FT) : FT := fun ρ => (a ρ).bind fun c => if c = true then b ρ else ok false
def tOr (a b : FT) : FT := fun ρ => (a ρ).bind fun c => if c = true then ok true else b ρ
def tNot (a : FT) : FT := fun ρ => (a ρ).bind fun c => ok (!c)
def truD : D → Out Bool
  | .none => ok false
  | .bool b => ok b
  | .int i => ok (i != 0)
  | .str z => if z.length ≤ sizeLine then ok ((z.length : Int) != 0) else no
  | .list ds => ok !ds.isEmpty
  | .tuple ds => ok !ds.isEmpty
  | .dict _ => no
def fTru (a : FE) : FT := fun ρ => (a ρ).bind truD
def fAndV (a b : FE) : FE := fun ρ => (a ρ).bind fun x => (asBool x).bind fun c => if c = true then b ρ else ok (.bool false)
def fOrV (a b : FE) : FE := fun ρ => (a ρ).bind fun x => (asBool x).bind fun c => if c = true then ok (.bool true) else b ρ
def fNotV (a : FE) : FE := fun ρ => (a ρ).bind fun x => (asBool x).bind fun c => ok (.bool (!c))
def fIf (c : FT) (a b : FE) : FE := fun ρ => (c ρ).bind fun k => if k = true then a ρ else b ρ
/-- a < b < c -/
def fChain (o o' : D → D → Out D) (a b c : FE) : FE := fun ρ => (a ρ).bind fun x => (b ρ).bind fun y => (o x y).bind fun z => (asBool z).bind fun k => if k = true then (c ρ).bind fun w => o' y w else ok (.bool false)

/-! ### displays, arguments, calls -/
def aNil : FA := fun _ => ok []
def aCons (a : FE) (r : FA) : FA := fun ρ => (a ρ).bind fun x => (r ρ).bind fun xs => ok (x :: xs)
def fTup (a : FA) : FE := fun ρ => (a ρ).bind fun xs => if xs.length ≤ sizeLine then ok (.tuple xs) else no
def fLst (a : FA) : FE := fun ρ => (a ρ).bind fun xs => if xs.length ≤ sizeLine then ok (.list xs) else no
def fCall (g : Fn) (a : FA) : FE := fun ρ => (a ρ).bind fun xs => (g xs).bind fun r => ok r.2
/-- the answer is a new list -/
def newD (r : Bool × D) : Out D := if r.1 = true then ok r.2 else no
def fCallN (g : Fn) (a : FA) : FE := fun ρ => (a ρ).bind fun xs => (g xs).bind newD
/-- the answer holds no list, tuple or dict -/
def flatO (r : Bool × D) : Out D := if flatD r.2 = true then ok r.2 else no
def fCallB (g : Fn) (a : FA) : FE := fun ρ => (a ρ).bind fun xs => (g xs).bind flatO
/-- a built-in of one, two arguments -/
def fB1 (o : D → Out D) (a : FE) : FE := f1 o a
def fB2 (o : D → D → Out D) (a b : FE) : FE := f2 o a b

/-! ### what is walked -/
def itList : D → Out (List D)
  | .list ds => ok ds
  | .dict kvs => ofO (roOf kvs)
  | _ => no
def itTup : D → Out (List D)
  | .tuple ds => ok ds
  | _ => no
def rangeD (lo : Int) (n : Nat) : List D := (List.range n).map fun i => .int (lo + (i : Nat))
def iList (a : FE) : FA := fun ρ => (a ρ).bind itList
def iTup (a : FE) : FA := fun ρ => (a ρ).bind itTup
def oRange1 (d : D) : Out (List D) := (asInt d).bind fun j => if -(2 ^ 62) ≤ j ∧ j < 2 ^ 62 then ok (rangeD 0 j.toNat) else no
def oRange2 (a b : D) : Out (List D) := (asInt a).bind fun i => (asInt b).bind fun j => if -(2 ^ 62) ≤ i ∧ i < 2 ^ 62 ∧ -(2 ^ 62) ≤ j ∧ j < 2 ^ 62 then ok (rangeD i (j - i).toNat) else no
def iRange1 (a : FE) : FA := fun ρ => (a ρ).bind oRange1
def iRange2 (a b : FE) : FA := fun ρ => (a ρ).bind fun x => (b ρ).bind fun y => oRange2 x y

/-! ### targets -/
def gSet (i : Nat) : FG := fun d ρ => ok (ρ.set i (.sh d))
abbrev FGs := List D → Rho → Out Rho
def gsNil : FGs := fun ds ρ => match ds with
  | [] => ok ρ
  | _ => no
def gsCons (g : FG) (r : FGs) : FGs := fun ds ρ => match ds with
  | [] => no
  | d :: ds => (g d ρ).bind fun ρ' => r ds ρ'
def gTup (n : Nat) (g : FGs) : FG := fun d ρ => match d with
  | .tuple ds => if ds.length = n then g ds ρ else no
  | _ => no

/-! ### comprehensions -/
def wipeR (ρ : Rho) : List Nat → Rho
  | [] => ρ
  | v :: vs => (wipeR ρ vs).set v .un
def tYes : FT := fun _ => ok true
def lcGo (g : FG) (c : FT) (e : FE) (ρ : Rho) : List D → Out (List D)
  | [] => ok []
  | x :: xs => (g x ρ).calm.bind fun ρ' => (c ρ').calm.bind fun b => if b = true then (e ρ').calm.bind fun y => (lcGo g c e ρ xs).bind fun ys => ok (y :: ys) else lcGo g c e ρ xs
def lcAll (g : FG) (c : FT) (e : FE) (ρ : Rho) (xs : List D) : Out D := if xs.length ≤ sizeLine then (lcGo g c e ρ xs).bind fun ys => ok (.list ys) else no
def fLc (it : FA) (g : FG) (c : FT) (e : FE) (vs : List Nat) : FE := fun ρ => (it ρ).bind fun xs => lcAll g c e (wipeR ρ vs) xs

/-! ### statements -/
def Out.toS {α : Type} (x : Out α) (ρ : Rho) (f : α → SRes) : SRes := match x with
  | ok a => f a
  | ex c => .ex c ρ
  | no => .no
@[simp] theorem toS_ok {α : Type} (a : α) (ρ : Rho) (f : α → SRes) : (ok a).toS ρ f = f a := rfl
@[simp] theorem toS_ex {α : Type} (c : String) (ρ : Rho) (f : α → SRes) : (ex c : Out α).toS ρ f = .ex c ρ := rfl
@[simp] theorem toS_no {α : Type} (ρ : Rho) (f : α → SRes) : (no : Out α).toS ρ f = .no := rfl
def sNext : FS := .nx
def SRes.seq (r : SRes) (u : FS) : SRes := match r with
  | .nx ρ => u ρ
  | r => r
@[simp] theorem seq_nx (ρ : Rho) (u : FS) : (SRes.nx ρ).seq u = u ρ := rfl
@[simp] theorem seq_rt (b : Bool) (d : D) (u : FS) : (SRes.rt b d).seq u = .rt b d := rfl
@[simp] theorem seq_bk (ρ : Rho) (u : FS) : (SRes.bk ρ).seq u = .bk ρ := rfl
@[simp] theorem seq_ct (ρ : Rho) (u : FS) : (SRes.ct ρ).seq u = .ct ρ := rfl
@[simp] theorem seq_ex (c : String) (ρ : Rho) (u : FS) : (SRes.ex c ρ).seq u = .ex c ρ := rfl
@[simp] theorem seq_no (u : FS) : (SRes.no).seq u = .no := rfl
def sSeq (t u : FS) : FS := fun ρ => (t ρ).seq u
def sFrz (i : Nat) (t : FS) : FS := fun ρ => t (frz i ρ)
def sBreak : FS := .bk
def sCont : FS := .ct
def sDrop (e : FE) : FS := fun ρ => (e ρ).toS ρ fun _ => .nx ρ
def sRet (e : FE) : FS := fun ρ => (e ρ).toS ρ fun d => .rt false d
/-- the answer is new -/
def sRetN (e : FE) : FS := fun ρ => (e ρ).toS ρ fun d => .rt true d
def sRet0 : FS := fun _ => .rt false .none
/-- return x, x a slot of one's own list -/
def owOf : EV → Out D
  | .ow d => ok d
  | .o2 d => ok d
  | _ => no
def sRetO (i : Nat) : FS := fun ρ => (owOf (ρ.getD i .un)).toS ρ fun d => .rt true d
def sIf (c : FT) (t u : FS) : FS := fun ρ => (c ρ).toS ρ fun b => if b = true then t ρ else u ρ
def sAsg (e : FE) (g : FG) : FS := fun ρ => (e ρ).toS ρ fun d => (g d ρ).calm.toS ρ .nx
/-- x = a new list -/
def sSetN (e : FE) (i : Nat) : FS := fun ρ => (e ρ).toS ρ fun d => .nx (ρ.set i (.ow d))
/-- the list that a slot owns -/
def owL : EV → Out (List D)
  | .ow (.list ds) => ok ds
  | _ => no
def slot (i : Nat) (ρ : Rho) : EV := ρ.getD i .un
/-- x.append(e), x one's own -/
def sApp (i : Nat) (e : FE) : FS := fun ρ => (owL (slot i ρ)).toS ρ fun ds => (e ρ).toS ρ fun y => if ds.length < sizeLine then .nx (ρ.set i (.ow (.list (ds ++ [y])))) else .no
/-- x[k] = e, x one's own list -/
def sPut (i : Nat) (k e : FE) : FS := fun ρ => (e ρ).toS ρ fun y => (owL (slot i ρ)).toS ρ fun ds => (k ρ).toS ρ fun k => (asInt k).toS ρ fun k => (ofO (L2.ixN ds.length k)).toS ρ fun j => .nx (ρ.set i (.ow (.list (ds.set j y))))
/-- the item that x.pop(k) takes out, and its place -/
def popAt (ds : List D) (k : D) : Out (Nat × D) := (asInt k).bind fun k => if -(2 ^ 63) ≤ k ∧ k < 2 ^ 63 then (ofO (L2.ixN ds.length k)).bind fun j => (ofO ds[j]?).bind fun y => ok (j, y) else no
/-- x.append(z.pop(k)), x in i and z in j one's own -/
def sPopApp (i j : Nat) (k : FE) : FS := fun ρ => (owL (slot i ρ)).toS ρ fun ds => (owL (slot j ρ)).toS ρ fun es => (k ρ).toS ρ fun k => (popAt es k).toS ρ fun r =>
  if ds.length < sizeLine then .nx ((ρ.set j (.ow (.list (es.eraseIdx r.1)))).set i (.ow (.list (ds ++ [r.2])))) else .no
/-- x = z.pop(k), z in j one's own -/
def sSetPop (i j : Nat) (k : FE) : FS := fun ρ => (owL (slot j ρ)).toS ρ fun es => (k ρ).toS ρ fun k => (popAt es k).toS ρ fun r => .nx ((ρ.set j (.ow (.list (es.eraseIdx r.1)))).set i (.sh r.2))
/-- x = a new list of new lists -/
def killE (i : Nat) : EV → EV
  | .al k j => if k = i then .un else .al k j
  | e => e
def sSetN2 (e : FE) (i : Nat) : FS := fun ρ => (e ρ).toS ρ fun d => .nx ((ρ.map (killE i)).set i (.o2 d))
/-- x = z[k], z in j a list of lists of its own: x is another name of that list -/
def o2L : EV → Out (List D)
  | .o2 (.list ds) => ok ds
  | _ => no
def sAl (i j : Nat) (k : FE) : FS := fun ρ => (o2L (slot j ρ)).toS ρ fun ds => (k ρ).toS ρ fun k => (asInt k).toS ρ fun k => (ofO (L2.ixN ds.length k)).toS ρ fun m => if i = j then .no else .nx (ρ.set i (.al j m))
/-- the list behind the name in slot i: where it lies, and itself -/
def alL (ρ : Rho) : EV → Out (Nat × Nat × List D × List D)
  | .al k j => (o2L (slot k ρ)).bind fun ds => (ofO ds[j]?).bind fun d => match d with
    | .list es => ok (k, j, ds, es)
    | _ => no
  | _ => no
def sAlApp (i : Nat) (e : FE) : FS := fun ρ => (alL ρ (slot i ρ)).toS ρ fun r => (e ρ).toS ρ fun y => if r.2.2.2.length < sizeLine then .nx (ρ.set r.1 (.o2 (.list (r.2.2.1.set r.2.1 (.list (r.2.2.2 ++ [y])))))) else .no
def sAlPut (i : Nat) (k e : FE) : FS := fun ρ => (e ρ).toS ρ fun y => (alL ρ (slot i ρ)).toS ρ fun r => (k ρ).toS ρ fun k => (asInt k).toS ρ fun k => (ofO (L2.ixN r.2.2.2.length k)).toS ρ fun m =>
  .nx (ρ.set r.1 (.o2 (.list (r.2.2.1.set r.2.1 (.list (r.2.2.2.set m y))))))
/-- x.append(a new list), x a list of lists of its own -/
def s2App (i : Nat) (e : FE) : FS := fun ρ => (o2L (slot i ρ)).toS ρ fun ds => (e ρ).toS ρ fun y => if ds.length < sizeLine then .nx (ρ.set i (.o2 (.list (ds ++ [y])))) else .no
/-- x[k].append(e) -/
def s2AppAt (i : Nat) (k e : FE) : FS := fun ρ => (o2L (slot i ρ)).toS ρ fun ds => (k ρ).toS ρ fun k => (asInt k).toS ρ fun k => (ofO (L2.ixN ds.length k)).toS ρ fun m => (ofO ds[m]?).toS ρ fun d => (itList d).toS ρ fun es => (e ρ).toS ρ fun y =>
  if es.length < sizeLine then .nx (ρ.set i (.o2 (.list (ds.set m (.list (es ++ [y])))))) else .no
/-- x += e (ints) -/
def oIAdd : D → D → Out D
  | .int i, .int j => ok (.int (i + j))
  | _, _ => no
def sAug (o : D → D → Out D) (i : Nat) (e : FE) : FS := fun ρ => (evB (ρ.getD i .un)).toS ρ fun x => (e ρ).toS ρ fun y => (o x y).toS ρ fun d => .nx (ρ.set i (.sh d))
def forGo (g : FG) (b : FS) : List D → FS
  | [], ρ => .nx ρ
  | x :: xs, ρ => (g x ρ).calm.toS ρ fun ρ' => match b ρ' with
    | .nx ρ2 => forGo g b xs ρ2
    | .ct ρ2 => forGo g b xs ρ2
    | .bk ρ2 => .nx ρ2
    | r => r
def sFor (it : FA) (g : FG) (b : FS) : FS := fun ρ => (it ρ).toS ρ fun xs => forGo g b xs ρ
def whileGo (c : FT) (b : FS) : Nat → FS
  | 0, _ => .no
  | n + 1, ρ => (c ρ).toS ρ fun k => if k = true then (match b ρ with
    | .nx ρ2 => whileGo c b n ρ2
    | .ct ρ2 => whileGo c b n ρ2
    | .bk ρ2 => .nx ρ2
    | r => r) else .nx ρ
def bigFuel : Nat := 1000000
def sWhile (c : FT) (b : FS) : FS := whileGo c b bigFuel

/-! ### a def -/
def startR (n : Nat) (ds : List D) : Rho := ds.map EV.sh ++ List.replicate (n - ds.length) EV.un
def outOf : SRes → Out (Bool × D)
  | .nx _ => ok (false, .none)
  | .rt b d => ok (b, d)
  | .ex c _ => ex c
  | _ => no
/-- np parameters, n slots -/
def runF (np n : Nat) (b : FS) : Fn := fun ds => if ds.length = np then outOf (b (startR n ds)) else no
end Dl

set_option maxRecDepth 100000
set_option maxHeartbeats 4000000
/-! The data layer, part b: how data stands in the heap; judgements. -/
namespace Dl
open PySem L2
open Out

/-- a list that the top has written -/
def KL (K : PySem.W.Frag) (a : Addr) (xs : List V) : Prop := ∃ (o : Obj) (its : Array Value) (n : Nat), K.lookup a = some o ∧ o.cls = .type "list" ∧ o.dict = none ∧ o.data = .seq its n ∧ its.size ≤ sizeLine ∧ Vals xs its.toList
def KT (K : PySem.W.Frag) (a : Addr) (xs : List V) : Prop := ∃ (o : Obj) (its : Array Value) (n : Nat), K.lookup a = some o ∧ o.cls = .type "tuple" ∧ o.data = .seq its n ∧ its.size ≤ sizeLine ∧ Vals xs its.toList
def keyD : Key → D
  | .inl i => .int i
  | .inr x => .str x
def keyTD (ks : List Key) : D := .tuple (ks.map keyD)

mutual
/-- v stands for d in H; no list, tuple or dict of it lies at an address of A -/
inductive Rep (K : PySem.W.Frag) (A : Addr → Prop) (H : Hp) : V → D → Prop
  | non : Rep K A H .non .none
  | bl (b : Bool) : Rep K A H (.bl b) (.bool b)
  | int (i : Int) : Rep K A H (.int i) (.int i)
  | str (x : Str) : Rep K A H (.str x) (.str x)
  | lst {a : Addr} {xs : List V} {ds : List D} : ¬ A a → H a = some (.lst xs) → RepAll K A H xs ds → Rep K A H (.ref a) (.list ds)
  | tup {a : Addr} {xs : List V} {ds : List D} : ¬ A a → Rd H a (.tup xs) → RepAll K A H xs ds → Rep K A H (.ref a) (.tuple ds)
  | roF {a : Addr} {o : Obj} {xs : List V} {ds : List D} : ¬ A a → H a = some (.frz o (.lst xs)) → RepAll K A H xs ds → Rep K A H (.ref a) (roD ds)
  | roK {a : Addr} {xs : List V} {ds : List D} : KL K a xs → RepAll K A H xs ds → Rep K A H (.ref a) (roD ds)
  | tupK {a : Addr} {xs : List V} {ds : List D} : KT K a xs → RepAll K A H xs ds → Rep K A H (.ref a) (.tuple ds)
  | dct {a : Addr} {kvs : List (Key × V)} {kds : List (D × D)} : ¬ A a → H a = some (.dK kvs) → kds.map (·.1) = kvs.map (fun p => keyD p.1) → RepAll K A H (kvs.map (·.2)) (kds.map (·.2)) → Rep K A H (.ref a) (.dict kds)
  | dctT {a : Addr} {kvs : List (List Key × V)} {kds : List (D × D)} : ¬ A a → H a = some (.dT kvs) → kds.map (·.1) = kvs.map (fun p => keyTD p.1) → RepAll K A H (kvs.map (·.2)) (kds.map (·.2)) → Rep K A H (.ref a) (.dict kds)
inductive RepAll (K : PySem.W.Frag) (A : Addr → Prop) (H : Hp) : List V → List D → Prop
  | nil : RepAll K A H [] []
  | cons {v : V} {vs : List V} {d : D} {ds : List D} : Rep K A H v d → RepAll K A H vs ds → RepAll K A H (v :: vs) (d :: ds)
end

/-- what is not in A stays, and is not in A' -/
def Tr (A : Addr → Prop) (H : Hp) (A' : Addr → Prop) (H' : Hp) : Prop := ∀ a o, H a = some o → ¬ A a → H' a = some o ∧ ¬ A' a
theorem Tr.rd {A A' : Addr → Prop} {H H' : Hp} (t : Tr A H A' H') {a : Addr} {u : HO} (n : ¬ A a) (h : Rd H a u) : Rd H' a u ∧ ¬ A' a := by
  rcases h with h | ⟨o, h⟩
  · exact ⟨.inl (t a _ h n).1, (t a _ h n).2⟩
  · exact ⟨.inr ⟨o, (t a _ h n).1⟩, (t a _ h n).2⟩
theorem Tr.trans {A A' A'' : Addr → Prop} {H H' H'' : Hp} (t : Tr A H A' H') (u : Tr A' H' A'' H'') : Tr A H A'' H'' := fun a o h n => u a o (t a o h n).1 (t a o h n).2
theorem Tr.same {A : Addr → Prop} {H H' : Hp} (s : Same H H') : Tr A H A H' := fun a o h n => ⟨s a o h, n⟩
theorem Tr.less {A A' : Addr → Prop} {H : Hp} (s : ∀ a, A' a → A a) : Tr A H A' H := fun a o h n => ⟨h, fun x => n (s a x)⟩
mutual
theorem Rep.tr {K : PySem.W.Frag} {A A' : Addr → Prop} {H H' : Hp} (t : Tr A H A' H') : ∀ {v : V} {d : D}, Rep K A H v d → Rep K A' H' v d
  | _, _, .non => .non
  | _, _, .bl b => .bl b
  | _, _, .int i => .int i
  | _, _, .str x => .str x
  | _, _, .lst n h r => .lst (t _ _ h n).2 (t _ _ h n).1 (RepAll.tr t r)
  | _, _, .tup n h r => .tup (t.rd n h).2 (t.rd n h).1 (RepAll.tr t r)
  | _, _, .roF n h r => .roF (t _ _ h n).2 (t _ _ h n).1 (RepAll.tr t r)
  | _, _, .roK k r => .roK k (RepAll.tr t r)
  | _, _, .tupK k r => .tupK k (RepAll.tr t r)
  | _, _, .dct n h e r => .dct (t _ _ h n).2 (t _ _ h n).1 e (RepAll.tr t r)
  | _, _, .dctT n h e r => .dctT (t _ _ h n).2 (t _ _ h n).1 e (RepAll.tr t r)
theorem RepAll.tr {K : PySem.W.Frag} {A A' : Addr → Prop} {H H' : Hp} (t : Tr A H A' H') : ∀ {vs : List V} {ds : List D}, RepAll K A H vs ds → RepAll K A' H' vs ds
  | _, _, .nil => .nil
  | _, _, .cons h r => .cons (Rep.tr t h) (RepAll.tr t r)
end
section
variable {K : PySem.W.Frag} {A : Addr → Prop} {H : Hp}
theorem RepAll.length : ∀ {vs : List V} {ds : List D}, RepAll K A H vs ds → vs.length = ds.length
  | _, _, .nil => rfl
  | _, _, .cons _ r => congrArg (· + 1) r.length
theorem RepAll.append : ∀ {vs ws : List V} {ds es : List D}, RepAll K A H vs ds → RepAll K A H ws es → RepAll K A H (vs ++ ws) (ds ++ es)
  | _, _, _, _, .nil, s => s
  | _, _, _, _, .cons h r, s => .cons h (r.append s)
theorem RepAll.get : ∀ {vs : List V} {ds : List D} {i : Nat} {d : D}, RepAll K A H vs ds → ds[i]? = some d → ∃ v, vs[i]? = some v ∧ Rep K A H v d
  | _, _, _, _, .nil, e => by simp at e
  | _, _, 0, _, .cons h r, e => by
    simp at e
    subst e
    exact ⟨_, rfl, h⟩
  | _, _, i + 1, d, .cons _ r, e => by
    obtain ⟨v, h1, h2⟩ := r.get (i := i) (d := d) (by simpa using e)
    exact ⟨v, by simpa using h1, h2⟩
theorem RepAll.getV {vs : List V} {ds : List D} {i : Nat} {v : V} (r : RepAll K A H vs ds) (e : vs[i]? = some v) : ∃ d, ds[i]? = some d ∧ Rep K A H v d := by
  have hi : i < ds.length := by
    rw [← r.length]
    exact (List.getElem?_eq_some_iff.mp e).1
  obtain ⟨w, h1, h2⟩ := r.get (List.getElem?_eq_getElem hi)
  rw [e] at h1
  cases h1
  exact ⟨_, List.getElem?_eq_getElem hi, h2⟩
theorem RepAll.take : ∀ {vs : List V} {ds : List D} (n : Nat), RepAll K A H vs ds → RepAll K A H (vs.take n) (ds.take n)
  | _, _, 0, _ => by
    rw [List.take_zero, List.take_zero]
    exact .nil
  | _, _, _ + 1, .nil => .nil
  | _, _, n + 1, .cons h r => .cons h (r.take n)
theorem RepAll.drop : ∀ {vs : List V} {ds : List D} (n : Nat), RepAll K A H vs ds → RepAll K A H (vs.drop n) (ds.drop n)
  | _, _, 0, r => r
  | _, _, _ + 1, .nil => .nil
  | _, _, n + 1, .cons _ r => r.drop n
theorem RepAll.set {v : V} {d : D} (h : Rep K A H v d) : ∀ {vs : List V} {ds : List D} (i : Nat), RepAll K A H vs ds → RepAll K A H (vs.set i v) (ds.set i d)
  | _, _, _, .nil => .nil
  | _, _, 0, .cons _ r => .cons h r
  | _, _, i + 1, .cons q r => .cons q (RepAll.set h i r)
theorem RepAll.rep {vs : List V} {ds : List D} (h : RepAll K A H vs ds) : ∀ k : Nat, RepAll K A H (List.replicate k vs).flatten (List.replicate k ds).flatten
  | 0 => .nil
  | k + 1 => by
    rw [List.replicate_succ, List.replicate_succ, List.flatten_cons, List.flatten_cons]
    exact h.append (h.rep k)
theorem RepAll.at {vs : List V} {ds : List D} {i : Int} {d : D} (r : RepAll K A H vs ds) (e : atI ds i = some d) : ∃ v, atI vs i = some v ∧ Rep K A H v d := by
  unfold atI at e ⊢
  rw [r.length]
  cases q : ixN ds.length i with
  | none =>
    rw [q] at e
    cases e
  | some j =>
    rw [q] at e
    exact r.get e
end

mutual
theorem Rep.dp {K : PySem.W.Frag} {A : Addr → Prop} {H : Hp} : ∀ {v : V} {d : D}, Rep K A H v d → d.canLay0 = true → Dp K H v d
  | _, _, .non, _ => .non
  | _, _, .bl b, _ => .bl b
  | _, _, .int i, _ => .int i
  | _, _, .str x, _ => .str x
  | _, _, .lst n h r, c => .lst (.inl (.inl h)) (RepAll.dp r (by simpa [PyData.canLay0] using c))
  | _, _, .tup n h r, c => .tup (.inl h) (RepAll.dp r (by simpa [PyData.canLay0] using c))
  | _, _, .roF n h r, c => by simp [roD, PyData.canLay0] at c
  | _, _, .roK k r, c => by simp [roD, PyData.canLay0] at c
  | _, _, .tupK ⟨o, its, n, k, e1, e2, z, q⟩ r, c => .tup (.inr ⟨o, its, n, k, e1, e2, z, q⟩) (RepAll.dp r (by simpa [PyData.canLay0] using c))
  | _, _, .dct _ _ _ _, c => by simp [PyData.canLay0] at c
  | _, _, .dctT _ _ _ _, c => by simp [PyData.canLay0] at c
theorem RepAll.dp {K : PySem.W.Frag} {A : Addr → Prop} {H : Hp} : ∀ {vs : List V} {ds : List D}, RepAll K A H vs ds → PyData.canLayAll0 ds = true → DpAll K H vs ds
  | _, _, .nil, _ => .nil
  | _, _, .cons h r, c => by
    simp only [PyData.canLayAll0, Bool.and_eq_true] at c
    exact .cons (Rep.dp h c.1) (RepAll.dp r c.2)
end

/-- a list or dict at p that may be changed, its items are shared -/
inductive OwnRep (K : PySem.W.Frag) (A : Addr → Prop) (H : Hp) (p : Addr) : D → Prop
  | lst {xs : List V} {ds : List D} : H p = some (.lst xs) → RepAll K A H xs ds → OwnRep K A H p (.list ds)
  | dct {kvs : List (Key × V)} {kds : List (D × D)} : H p = some (.dK kvs) → kds.map (·.1) = kvs.map (fun q => keyD q.1) → RepAll K A H (kvs.map (·.2)) (kds.map (·.2)) → OwnRep K A H p (.dict kds)
  | dctT {kvs : List (List Key × V)} {kds : List (D × D)} : H p = some (.dT kvs) → kds.map (·.1) = kvs.map (fun q => keyTD q.1) → RepAll K A H (kvs.map (·.2)) (kds.map (·.2)) → OwnRep K A H p (.dict kds)
/-- as an operand: shared, or one's own -/
def RepB (K : PySem.W.Frag) (A : Addr → Prop) (H : Hp) (v : V) (d : D) : Prop := Rep K A H v d ∨ ∃ p, v = .ref p ∧ OwnRep K A H p d
theorem OwnRep.tr {K : PySem.W.Frag} {A A' : Addr → Prop} {H H' : Hp} {p : Addr} {d : D} (t : Tr A H A' H') (hp : H' p = H p) (h : OwnRep K A H p d) : OwnRep K A' H' p d := by
  cases h with
  | lst e r => exact .lst (by rw [hp]; exact e) (r.tr t)
  | dct e k r => exact .dct (by rw [hp]; exact e) k (r.tr t)
  | dctT e k r => exact .dctT (by rw [hp]; exact e) k (r.tr t)
theorem OwnRep.there {K : PySem.W.Frag} {A : Addr → Prop} {H : Hp} {p : Addr} {d : D} (h : OwnRep K A H p d) : ∃ o, H p = some o := by
  cases h with
  | lst e r => exact ⟨_, e⟩
  | dct e k r => exact ⟨_, e⟩
  | dctT e k r => exact ⟨_, e⟩
theorem OwnRep.same {K : PySem.W.Frag} {A : Addr → Prop} {H H' : Hp} {p : Addr} {d : D} (s : Same H H') (h : OwnRep K A H p d) : OwnRep K A H' p d := by
  obtain ⟨o, e⟩ := h.there
  exact h.tr (Tr.same s) (by rw [e, s _ _ e])
theorem OwnRep.rep {K : PySem.W.Frag} {A : Addr → Prop} {H : Hp} {p : Addr} {d : D} (n : ¬ A p) (h : OwnRep K A H p d) : Rep K A H (.ref p) d := by
  cases h with
  | lst e r => exact .lst n e r
  | dct e k r => exact .dct n e k r
  | dctT e k r => exact .dctT n e k r
theorem RepB.same {K : PySem.W.Frag} {A : Addr → Prop} {H H' : Hp} {v : V} {d : D} (s : Same H H') (h : RepB K A H v d) : RepB K A H' v d := by
  rcases h with h | ⟨p, e, h⟩
  · exact .inl (h.tr (Tr.same s))
  · exact .inr ⟨p, e, h.same s⟩
theorem RepB.dp {K : PySem.W.Frag} {A : Addr → Prop} {H : Hp} {v : V} {d : D} (h : RepB K A H v d) (c : d.canLay0 = true) : Dp K H v d := by
  rcases h with h | ⟨p, rfl, h⟩
  · exact h.dp c
  · cases h with
    | lst e r => exact .lst (.inl (.inl e)) (r.dp (by simpa [PyData.canLay0] using c))
    | dct e k r => simp [PyData.canLay0] at c
    | dctT e k r => simp [PyData.canLay0] at c
section
variable {K : PySem.W.Frag} {A : Addr → Prop} {H : Hp} {v : V}
theorem RepB.list {ds : List D} (h : RepB K A H v (.list ds)) : ∃ a xs, v = .ref a ∧ H a = some (.lst xs) ∧ RepAll K A H xs ds := by
  rcases h with h | ⟨p, rfl, h⟩
  · cases h with
    | lst n e r => exact ⟨_, _, rfl, e, r⟩
  · cases h with
    | lst e r => exact ⟨_, _, rfl, e, r⟩
theorem roOf_key {α : Type} {kvs : List (α × V)} {kds : List (D × D)} {g : α → D} (e : kds.map (·.1) = kvs.map fun p => g p.1) (hg : ∀ k, g k ≠ .none) : roOf kds = none := by
  unfold roOf
  split
  · cases kvs with
    | nil => cases e
    | cons p t =>
      have h : (PyData.none : D) = g p.1 := (List.cons.inj e).1
      exact absurd h.symm (hg p.1)
  · rfl
theorem keyD_ne (k : Key) : keyD k ≠ .none := by cases k <;> intro h <;> cases h
theorem keyTD_ne (k : List Key) : keyTD k ≠ .none := by intro h; cases h
theorem roOf_some {kds : List (D × D)} {ds : List D} (h : roOf kds = some ds) : kds = [(.none, .list ds)] := by
  unfold roOf at h
  split at h
  · cases h; rfl
  · cases h
/-- a dict of the data layer: read-only list, or a dict -/
theorem RepB.dict {kds : List (D × D)} (h : RepB K A H v (.dict kds)) : (∃ a xs ds, v = .ref a ∧ kds = [(.none, .list ds)] ∧ SqL K H a xs ∧ RepAll K A H xs ds ∧ Rep K A H v (roD ds)) ∨
    (∃ (a : Addr) (kvs : List (Key × V)), v = .ref a ∧ H a = some (.dK kvs) ∧ kds.map (·.1) = kvs.map (fun p => keyD p.1) ∧ RepAll K A H (kvs.map (·.2)) (kds.map (·.2)) ∧ roOf kds = none) ∨
    (∃ (a : Addr) (kvs : List (List Key × V)), v = .ref a ∧ H a = some (.dT kvs) ∧ kds.map (·.1) = kvs.map (fun p => keyTD p.1) ∧ RepAll K A H (kvs.map (·.2)) (kds.map (·.2)) ∧ roOf kds = none) := by
  rcases h with h | ⟨p, rfl, h⟩
  · have h0 := h
    generalize hd : (PyData.dict kds : D) = d at h h0
    cases h with
    | roF n e r => cases hd; exact .inl ⟨_, _, _, rfl, rfl, .inl (.inr ⟨_, e⟩), r, h0⟩
    | roK k r =>
      cases hd
      obtain ⟨o, its, n, k, e1, e2, e3, z, q⟩ := k
      exact .inl ⟨_, _, _, rfl, rfl, .inr ⟨o, its, n, k, e1, e2, e3, z, q⟩, r, h0⟩
    | dct n e k r => cases hd; exact .inr (.inl ⟨_, _, rfl, e, k, r, roOf_key k keyD_ne⟩)
    | dctT n e k r => cases hd; exact .inr (.inr ⟨_, _, rfl, e, k, r, roOf_key k keyTD_ne⟩)
    | _ => cases hd
  · cases h with
    | dct e k r => exact .inr (.inl ⟨_, _, rfl, e, k, r, roOf_key k keyD_ne⟩)
    | dctT e k r => exact .inr (.inr ⟨_, _, rfl, e, k, r, roOf_key k keyTD_ne⟩)
theorem RepB.tup {ds : List D} (h : RepB K A H v (.tuple ds)) : ∃ a xs, v = .ref a ∧ SqT K H a xs ∧ RepAll K A H xs ds ∧ Rep K A H v (.tuple ds) := by
  rcases h with h | ⟨p, rfl, h⟩
  · have h0 := h
    cases h with
    | tup n e r => exact ⟨_, _, rfl, .inl e, r, h0⟩
    | tupK k r =>
      obtain ⟨o, its, n, k, e1, e2, z, q⟩ := k
      exact ⟨_, _, rfl, .inr ⟨o, its, n, k, e1, e2, z, q⟩, r, h0⟩
  · cases h
theorem RepB.int {i : Int} (h : RepB K A H v (.int i)) : v = .int i := by
  rcases h with h | ⟨p, rfl, h⟩
  · cases h; rfl
  · cases h
theorem RepB.bool {i : Bool} (h : RepB K A H v (.bool i)) : v = .bl i := by
  rcases h with h | ⟨p, rfl, h⟩
  · cases h; rfl
  · cases h
theorem RepB.str {i : Str} (h : RepB K A H v (.str i)) : v = .str i := by
  rcases h with h | ⟨p, rfl, h⟩
  · cases h; rfl
  · cases h
theorem RepB.none (h : RepB K A H v .none) : v = .non := by
  rcases h with h | ⟨p, rfl, h⟩
  · cases h; rfl
  · cases h
theorem RepB.nonone {d : D} (h : RepB K A H v d) : decide (v = .non) = isNoneD d := by
  rcases h with h | ⟨p, rfl, h⟩
  · cases h <;> rfl
  · cases h <;> rfl
end

/-- a list or dict at p whose items, at qs, may be changed too -/
inductive Own2 (K : PySem.W.Frag) (A : Addr → Prop) (H : Hp) (p : Addr) (qs : List Addr) : D → Prop
  | lst {ds : List D} : H p = some (.lst (qs.map V.ref)) → Paired (OwnRep K A H) qs ds → Own2 K A H p qs (.list ds)
  | dct {kvs : List (Key × V)} {kds : List (D × D)} : H p = some (.dK kvs) → kds.map (·.1) = kvs.map (fun q => keyD q.1) → kvs.map (·.2) = qs.map V.ref → Paired (OwnRep K A H) qs (kds.map (·.2)) → Own2 K A H p qs (.dict kds)
theorem Paired.get {α β : Type} {F : α → β → Prop} : ∀ {l : List α} {m : List β} {i : Nat} {b : β}, Paired F l m → m[i]? = some b → ∃ a, l[i]? = some a ∧ F a b
  | _, _, _, _, .nil, e => by simp at e
  | _, _, 0, _, .cons r _, e => by
    simp at e
    subst e
    exact ⟨_, rfl, r⟩
  | _, _, i + 1, b, .cons _ t, e => by
    obtain ⟨a, h1, h2⟩ := Paired.get (i := i) (b := b) t (by simpa using e)
    exact ⟨a, by simpa using h1, h2⟩
theorem Paired.getL {α β : Type} {F : α → β → Prop} : ∀ {l : List α} {m : List β} {i : Nat} {a : α}, Paired F l m → l[i]? = some a → ∃ b, m[i]? = some b ∧ F a b
  | _, _, _, _, .nil, e => by simp at e
  | _, _, 0, _, .cons r _, e => by
    simp at e
    subst e
    exact ⟨_, rfl, r⟩
  | _, _, i + 1, b, .cons _ t, e => by
    obtain ⟨a, h1, h2⟩ := Paired.getL (i := i) (a := b) t (by simpa using e)
    exact ⟨a, by simpa using h1, h2⟩
theorem Paired.imp' {α β : Type} {F G : α → β → Prop} : ∀ {l : List α} {m : List β}, Paired F l m → (∀ a b, a ∈ l → F a b → G a b) → Paired G l m
  | _, _, .nil, _ => .nil
  | _, _, .cons r t, h => .cons (h _ _ List.mem_cons_self r) (Paired.imp' t fun a b m => h a b (List.mem_cons_of_mem _ m))
theorem Paired.append' {α β : Type} {F : α → β → Prop} : ∀ {l l' : List α} {m m' : List β}, Paired F l m → Paired F l' m' → Paired F (l ++ l') (m ++ m')
  | _, _, _, _, .nil, s => s
  | _, _, _, _, .cons r t, s => .cons r (Paired.append' t s)
theorem Own2.there {K : PySem.W.Frag} {A : Addr → Prop} {H : Hp} {p : Addr} {qs : List Addr} {d : D} (h : Own2 K A H p qs d) : (∃ o, H p = some o) ∧ ∀ q ∈ qs, ∃ o, H q = some o := by
  have key : ∀ {ds : List D}, Paired (OwnRep K A H) qs ds → ∀ q ∈ qs, ∃ o, H q = some o := fun r q hq => by
    obtain ⟨i, hi⟩ := List.getElem?_of_mem hq
    obtain ⟨b, _, hb⟩ := Paired.getL r hi
    exact hb.there
  cases h with
  | lst e r => exact ⟨⟨_, e⟩, key r⟩
  | dct e _ _ r => exact ⟨⟨_, e⟩, key r⟩
theorem Own2.tr {K : PySem.W.Frag} {A A' : Addr → Prop} {H H' : Hp} {p : Addr} {qs : List Addr} {d : D} (t : Tr A H A' H') (hp : H' p = H p) (hq : ∀ q ∈ qs, H' q = H q) (h : Own2 K A H p qs d) : Own2 K A' H' p qs d := by
  cases h with
  | lst e r => exact .lst (by rw [hp]; exact e) (Paired.imp' r fun a b m x => x.tr t (hq a m))
  | dct e k v r => exact .dct (by rw [hp]; exact e) k v (Paired.imp' r fun a b m x => x.tr t (hq a m))
theorem Own2.same {K : PySem.W.Frag} {A : Addr → Prop} {H H' : Hp} {p : Addr} {qs : List Addr} {d : D} (s : Same H H') (h : Own2 K A H p qs d) : Own2 K A H' p qs d := by
  obtain ⟨⟨o, e⟩, t⟩ := h.there
  refine h.tr (Tr.same s) (by rw [e, s _ _ e]) fun q hq => ?_
  obtain ⟨o, e⟩ := t q hq
  rw [e, s _ _ e]
theorem Paired.rep {K : PySem.W.Frag} {A : Addr → Prop} {H : Hp} : ∀ {qs : List Addr} {ds : List D}, Paired (OwnRep K A H) qs ds → (∀ q ∈ qs, ¬ A q) → RepAll K A H (qs.map V.ref) ds
  | _, _, .nil, _ => .nil
  | _, _, .cons r t, h => .cons (r.rep (h _ List.mem_cons_self)) (Paired.rep t fun q m => h q (List.mem_cons_of_mem _ m))
/-- all of it given up -/
theorem Own2.own {K : PySem.W.Frag} {A : Addr → Prop} {H : Hp} {p : Addr} {qs : List Addr} {d : D} (h : Own2 K A H p qs d) (n : ∀ q ∈ qs, ¬ A q) : OwnRep K A H p d := by
  cases h with
  | lst e r => exact .lst e (Paired.rep r n)
  | dct e k v r => exact .dct e k (by rw [v]; exact Paired.rep r n)
theorem Own2.item {K : PySem.W.Frag} {A : Addr → Prop} {H : Hp} {p : Addr} {qs : List Addr} {d : D} {j : Nat} {q : Addr} (h : Own2 K A H p qs d) (e : qs[j]? = some q) : ∃ d', itemD d j = some d' ∧ OwnRep K A H q d' := by
  cases h with
  | lst _ r => exact Paired.getL r e
  | dct _ _ _ r => exact Paired.getL r e

/-! ### slots -/
structure EnvE (K : PySem.W.Frag) (A : Addr → Prop) (σ : St) (H : Hp) (ρ : Rho) : Prop where
  dom : ∀ a, A a → ∃ o, H a = some o
  len : σ.length = ρ.length
  shr : ∀ (i : Nat) (d : D), ρ[i]? = some (.sh d) → ∃ v, σ[i]? = some (some v) ∧ Rep K A H v d
  own : ∀ (i : Nat) (d : D), ρ[i]? = some (.ow d) → ∃ p, σ[i]? = some (some (.ref p)) ∧ OwnRep K A H p d
  o2 : ∀ (i : Nat) (d : D), ρ[i]? = some (.o2 d) → ∃ p qs, σ[i]? = some (some (.ref p)) ∧ Own2 K A H p qs d
  al : ∀ (i k j : Nat) (d : D), ρ[i]? = some (.al k j) → ρ[k]? = some (.o2 d) → ∃ q d', σ[i]? = some (some (.ref q)) ∧ itemD d j = some d' ∧ OwnRep K A H q d'
theorem EnvE.same {K : PySem.W.Frag} {A : Addr → Prop} {σ : St} {H H' : Hp} {ρ : Rho} (s : Same H H') (e : EnvE K A σ H ρ) : EnvE K A σ H' ρ where
  dom := fun a h => let ⟨o, q⟩ := e.dom a h; ⟨o, s a o q⟩
  len := e.len
  shr := fun i d h => let ⟨v, q, r⟩ := e.shr i d h; ⟨v, q, r.tr (Tr.same s)⟩
  own := fun i d h => let ⟨p, q, r⟩ := e.own i d h; ⟨p, q, r.same s⟩
  o2 := fun i d h => let ⟨p, qs, q, r⟩ := e.o2 i d h; ⟨p, qs, q, r.same s⟩
  al := fun i k j d h h' => let ⟨q, d', e1, e2, r⟩ := e.al i k j d h h'; ⟨q, d', e1, e2, r.same s⟩
theorem nowhere {A : Addr → Prop} {H : Hp} : Tr A H (fun _ => False) H := fun a o h n => ⟨h, fun z => z⟩
/-- in the view all is shared, and no address is kept off -/
theorem EnvE.view {K : PySem.W.Frag} {A : Addr → Prop} {σ : St} {H : Hp} {ρ : Rho} (e : EnvE K A σ H ρ) : EnvE K (fun _ => False) σ H (view ρ) := by
  have get : ∀ (i : Nat) (ev : EV), (Dl.view ρ)[i]? = some ev → ∃ ev', ρ[i]? = some ev' ∧ ev = viewE ρ ev' := fun i ev h => by
    unfold Dl.view at h
    rw [List.getElem?_map] at h
    cases q : ρ[i]? with
    | none => rw [q] at h; cases h
    | some ev' =>
      rw [q] at h
      exact ⟨ev', rfl, (Option.some.inj h).symm⟩
  have shape : ∀ ev', (∃ d, viewE ρ ev' = .sh d) ∨ viewE ρ ev' = .un := fun ev' => by
    cases ev' with
    | un => exact .inr rfl
    | sh d => exact .inl ⟨d, rfl⟩
    | ow d => exact .inl ⟨d, rfl⟩
    | o2 d => exact .inl ⟨d, rfl⟩
    | al k j =>
      show (∃ d, viewA j (ρ.getD k .un) = .sh d) ∨ viewA j (ρ.getD k .un) = .un
      unfold viewA
      split
      · split
        · exact .inl ⟨_, rfl⟩
        · exact .inr rfl
      · exact .inr rfl
  refine ⟨fun _ z => z.elim, by unfold Dl.view; rw [List.length_map]; exact e.len, fun i d h => ?_, fun i d h => ?_, fun i d h => ?_, fun i k j d h h' => ?_⟩
  · obtain ⟨ev', h1, h2⟩ := get i _ h
    cases ev' with
    | un => cases h2
    | sh d' =>
      cases h2
      obtain ⟨v, q, r⟩ := e.shr i _ h1
      exact ⟨v, q, r.tr nowhere⟩
    | ow d' =>
      cases h2
      obtain ⟨p, q, r⟩ := e.own i _ h1
      exact ⟨_, q, (r.tr nowhere rfl).rep fun z => z⟩
    | o2 d' =>
      cases h2
      obtain ⟨p, qs, q, r⟩ := e.o2 i _ h1
      exact ⟨_, q, ((r.tr nowhere rfl fun _ _ => rfl).own fun _ _ z => z).rep fun z => z⟩
    | al k j =>
      have h2 : EV.sh d = viewA j (ρ.getD k .un) := h2
      rw [List.getD_eq_getElem?_getD] at h2
      cases q : ρ[k]? with
      | none =>
        rw [q] at h2
        cases h2
      | some ek =>
        rw [q] at h2
        cases ek with
        | o2 d2 =>
          obtain ⟨a, d', e1, e2, r⟩ := e.al i k j d2 h1 q
          have h2 : EV.sh d = (match itemD d2 j with
            | some e => .sh e
            | none => .un) := h2
          rw [e2] at h2
          cases h2
          exact ⟨_, e1, (r.tr nowhere rfl).rep fun z => z⟩
        | _ => cases h2
  all_goals (
    obtain ⟨ev', h1, h2⟩ := get i _ h
    rcases shape ev' with ⟨d', q⟩ | q
    · rw [q] at h2; cases h2
    · rw [q] at h2; cases h2)
theorem EnvE.fresh {K : PySem.W.Frag} {A : Addr → Prop} {σ : St} {H : Hp} {ρ : Rho} (e : EnvE K A σ H ρ) {p : Addr} (h : H p = none) : ¬ A p := fun a => by
  obtain ⟨o, q⟩ := e.dom p a
  rw [h] at q
  cases q
theorem same_new {H : Hp} {p : Addr} (h : H p = none) (o : HO) : Same H (upd H p o) := fun b u q => by rw [upd_ne (ne_of_none q h)]; exact q

/-! ### readings and what they compute -/
/-- what is wished of an exception c that comes from here -/
def XW (mg : Str → Option Value) (W : WX) (σ : St) (H : Hp) (c : String) : Prop := ∀ cls d H', mg (Str.ofString c) = some cls → Same H H' → W cls d σ H'
theorem XW.same {mg : Str → Option Value} {W : WX} {σ : St} {H H' : Hp} {c : String} (s : Same H H') (h : XW mg W σ H c) : XW mg W σ H' c := fun cls d H2 e s2 => h cls d H2 e (s.trans s2)
abbrev Dom (A : Addr → Prop) (H : Hp) : Prop := ∀ a, A a → ∃ o, H a = some o
theorem Dom.same {A : Addr → Prop} {H H' : Hp} (s : Same H H') (h : Dom A H) : Dom A H' := fun a x => let ⟨o, q⟩ := h a x; ⟨o, s a o q⟩
theorem Dom.fresh {A : Addr → Prop} {H : Hp} (h : Dom A H) {p : Addr} (e : H p = none) : ¬ A p := fun a => by
  obtain ⟨o, q⟩ := h p a
  rw [e] at q
  cases q
/-- shared answer; operand's answer; a new answer -/
def DR (K : PySem.W.Frag) (mg : Str → Option Value) (W : WX) (t : TE) (f : FE) : Prop := ∀ (A : Addr → Prop) (σ : St) (H : Hp) (ρ : Rho) (Q : VK), EnvE K A σ H ρ →
  (f ρ).post (fun d => ∀ v H', Same H H' → Rep K A H' v d → Q v H') (XW mg W σ H) → t σ H Q
def DB (K : PySem.W.Frag) (mg : Str → Option Value) (W : WX) (t : TE) (f : FE) : Prop := ∀ (A : Addr → Prop) (σ : St) (H : Hp) (ρ : Rho) (Q : VK), EnvE K A σ H ρ →
  (f ρ).post (fun d => ∀ v H', Same H H' → RepB K A H' v d → Q v H') (XW mg W σ H) → t σ H Q
def NewAt (K : PySem.W.Frag) (A : Addr → Prop) (H H' : Hp) (p : Addr) (d : D) : Prop := Same H H' ∧ H p = none ∧ OwnRep K (fun a => A a ∨ a = p) H' p d
def DN (K : PySem.W.Frag) (mg : Str → Option Value) (W : WX) (t : TE) (f : FE) : Prop := ∀ (A : Addr → Prop) (σ : St) (H : Hp) (ρ : Rho) (Q : VK), EnvE K A σ H ρ →
  (f ρ).post (fun d => ∀ p H', NewAt K A H H' p d → Q (.ref p) H') (XW mg W σ H) → t σ H Q
def DT (K : PySem.W.Frag) (mg : Str → Option Value) (W : WX) (t : TT) (f : FT) : Prop := ∀ (A : Addr → Prop) (σ : St) (H : Hp) (ρ : Rho) (Q : Bool → Hp → Prop), EnvE K A σ H ρ →
  (f ρ).post (fun b => ∀ H', Same H H' → Q b H') (XW mg W σ H) → t σ H Q
def DA (K : PySem.W.Frag) (mg : Str → Option Value) (W : WX) (t : TA) (f : FA) : Prop := ∀ (A : Addr → Prop) (σ : St) (H : Hp) (ρ : Rho) (Q : List V → Hp → Prop), EnvE K A σ H ρ →
  (f ρ).post (fun ds => ∀ vs H', Same H H' → RepAll K A H' vs ds → Q vs H') (XW mg W σ H) → t σ H Q
/-- arguments that may be one's own -/
def RepAllB (K : PySem.W.Frag) (A : Addr → Prop) (H : Hp) : List V → List D → Prop := Paired (RepB K A H)
def DAB (K : PySem.W.Frag) (mg : Str → Option Value) (W : WX) (t : TA) (f : FA) : Prop := ∀ (A : Addr → Prop) (σ : St) (H : Hp) (ρ : Rho) (Q : List V → Hp → Prop), EnvE K A σ H ρ →
  (f ρ).post (fun ds => ∀ vs H', Same H H' → RepAllB K A H' vs ds → Q vs H') (XW mg W σ H) → t σ H Q
def DO (K : PySem.W.Frag) (mg : Str → Option Value) (W : WX) (t : TO) (f : FO) : Prop := ∀ (A : Addr → Prop) (σ : St) (H : Hp) (ρ : Rho) (Q : Option Int → Hp → Prop), EnvE K A σ H ρ →
  (f ρ).post (fun o => ∀ H', Same H H' → Q o H') (XW mg W σ H) → t σ H Q

theorem NewAt.rep {K : PySem.W.Frag} {A : Addr → Prop} {H H' : Hp} {p : Addr} {d : D} (dm : Dom A H) (n : NewAt K A H H' p d) : Rep K A H' (.ref p) d := by
  obtain ⟨s, e, o⟩ := n
  refine OwnRep.rep (dm.fresh e) (o.tr (Tr.less fun a h => .inl h) rfl)
theorem Rep.b {K : PySem.W.Frag} {A : Addr → Prop} {H : Hp} {v : V} {d : D} (h : Rep K A H v d) : RepB K A H v d := .inl h
section
variable {K : PySem.W.Frag} {mg : Str → Option Value} {W : WX} {t : TE} {f : FE}
theorem DR.b (h : DR K mg W t f) : DB K mg W t f := fun A σ H ρ Q e p => h A σ H ρ Q e (p.mono (fun d _ q v H' s r => q v H' s r.b) fun _ z => z)
theorem DN.r (h : DN K mg W t f) : DR K mg W t f := fun A σ H ρ Q e p => h A σ H ρ Q e (p.mono (fun d _ q p' H' n => q _ H' n.1 (n.rep e.dom)) fun _ z => z)
end
end Dl

set_option maxRecDepth 100000
set_option maxHeartbeats 4000000
/-! The data layer, part c: the rules of expressions. -/
namespace Dl
open PySem L2
open Out

/-- the context's written part and globals, by name -/
structure CxK (K : PySem.W.Frag) (mg : Str → Option Value) (X : Cx) : Prop where
  k : X.K = K
  m : X.mg = mg
structure DE (K : PySem.W.Frag) (mg : Str → Option Value) (X : Cx) (W : WX) (e : Expr) (t : TE) (f : FE) : Prop where
  c : CxK K mg X
  pe : PE X e t
  dr : DR K mg W t f
structure DBE (K : PySem.W.Frag) (mg : Str → Option Value) (X : Cx) (W : WX) (e : Expr) (t : TE) (f : FE) : Prop where
  c : CxK K mg X
  pe : PE X e t
  dr : DB K mg W t f
structure DNE (K : PySem.W.Frag) (mg : Str → Option Value) (X : Cx) (W : WX) (e : Expr) (t : TE) (f : FE) : Prop where
  c : CxK K mg X
  pe : PE X e t
  dr : DN K mg W t f
structure DTE (K : PySem.W.Frag) (mg : Str → Option Value) (X : Cx) (W : WX) (e : Expr) (t : TT) (f : FT) : Prop where
  c : CxK K mg X
  pe : PT X e t
  dr : DT K mg W t f
structure DWE (K : PySem.W.Frag) (mg : Str → Option Value) (X : Cx) (W : WX) (e : Expr) (t : TT) (f : FT) : Prop where
  c : CxK K mg X
  pe : PW X e t
  dr : DT K mg W t f
structure DAE (K : PySem.W.Frag) (mg : Str → Option Value) (X : Cx) (W : WX) (e : List Expr) (t : TA) (f : FA) : Prop where
  c : CxK K mg X
  pe : PA X e t
  dr : DA K mg W t f
structure DABE (K : PySem.W.Frag) (mg : Str → Option Value) (X : Cx) (W : WX) (e : List Expr) (t : TA) (f : FA) : Prop where
  c : CxK K mg X
  pe : PA X e t
  dr : DAB K mg W t f
structure DOE (K : PySem.W.Frag) (mg : Str → Option Value) (X : Cx) (W : WX) (e : Option Expr) (t : TO) (f : FO) : Prop where
  c : CxK K mg X
  pe : PO X e t
  dr : DO K mg W t f
section
variable {K : PySem.W.Frag} {mg : Str → Option Value} {X : Cx} {W : WX} {e : Expr} {t : TE} {f : FE}
theorem DE.b (h : DE K mg X W e t f) : DBE K mg X W e t f := ⟨h.c, h.pe, h.dr.b⟩
theorem DNE.r (h : DNE K mg X W e t f) : DE K mg X W e t f := ⟨h.c, h.pe, h.dr.r⟩
theorem DNE.b (h : DNE K mg X W e t f) : DBE K mg X W e t f := ⟨h.c, h.pe, h.dr.r.b⟩
end

/-! ### names and constants -/
section
variable {X : Cx} {W : WX} {K : PySem.W.Frag} {mg : Str → Option Value}
theorem dr_var {i : Nat} : DR K mg W (tVar i) (fS i) := fun A σ H ρ Q e p => by
  unfold fS at p
  rw [List.getD_eq_getElem?_getD] at p
  cases q : ρ[i]? with
  | none => rw [q] at p; exact p.elim
  | some ev =>
    rw [q] at p
    cases ev with
    | sh d =>
      obtain ⟨v, h1, h2⟩ := e.shr i d q
      exact ⟨v, h1, p v H (Same.refl H) h2⟩
    | _ => exact p.elim
theorem db_var {i : Nat} : DB K mg W (tVar i) (fV i) := fun A σ H ρ Q e p => by
  unfold fV at p
  rw [List.getD_eq_getElem?_getD] at p
  cases q : ρ[i]? with
  | none => rw [q] at p; exact p.elim
  | some ev =>
    rw [q] at p
    cases ev with
    | sh d =>
      obtain ⟨v, h1, h2⟩ := e.shr i d q
      exact ⟨v, h1, p v H (Same.refl H) (.inl h2)⟩
    | ow d =>
      obtain ⟨v, h1, h2⟩ := e.own i d q
      exact ⟨_, h1, p _ H (Same.refl H) (.inr ⟨_, rfl, h2⟩)⟩
    | _ => exact p.elim
theorem de_v (i : Nat) {x : Str} {pos : Pos} (hN : X.N[i]? = some x := by rfl) (hv : Vis X.env.scope x := by first | exact Or.inl rfl | exact Or.inr (Or.inl rfl) | exact Or.inr (Or.inr rfl)) (hd : (x == ("__debug__" : Str)) = false := by decide)
    (hcd : (x == ("__classdict__" : Str)) = false := by decide) (c : CxK K mg X := by exact ⟨rfl, rfl⟩) : DE K mg X W (.Name x pos) (tVar i) (fS i) := ⟨c, pe_var hN hv hd hcd, dr_var⟩
theorem db_v (i : Nat) {x : Str} {pos : Pos} (hN : X.N[i]? = some x := by rfl) (hv : Vis X.env.scope x := by first | exact Or.inl rfl | exact Or.inr (Or.inl rfl) | exact Or.inr (Or.inr rfl)) (hd : (x == ("__debug__" : Str)) = false := by decide)
    (hcd : (x == ("__classdict__" : Str)) = false := by decide) (c : CxK K mg X := by exact ⟨rfl, rfl⟩) : DBE K mg X W (.Name x pos) (tVar i) (fV i) := ⟨c, pe_var hN hv hd hcd, db_var⟩
theorem dr_c {v : V} {d : D} (h : ∀ A H, Rep K A H v d) : DR K mg W (tC v) (fC d) := fun A σ H ρ Q e p => p v H (Same.refl H) (h A H)
theorem de_int {i j pos} (c : CxK K mg X := by exact ⟨rfl, rfl⟩) : DE K mg X W (.Constant (.int i) j pos) (tC (.int i)) (fC (.int i)) := ⟨c, pe_int, dr_c fun _ _ => .int i⟩
theorem de_bl {b j pos} (c : CxK K mg X := by exact ⟨rfl, rfl⟩) : DE K mg X W (.Constant (.bool b) j pos) (tC (.bl b)) (fC (.bool b)) := ⟨c, pe_bl, dr_c fun _ _ => .bl b⟩
theorem de_non {j pos} (c : CxK K mg X := by exact ⟨rfl, rfl⟩) : DE K mg X W (.Constant .none j pos) (tC .non) (fC .none) := ⟨c, pe_non, dr_c fun _ _ => .non⟩
theorem de_str {x j pos} (c : CxK K mg X := by exact ⟨rfl, rfl⟩) : DE K mg X W (.Constant (.str x) j pos) (tC (.str x)) (fC (.str x)) := ⟨c, pe_str, dr_c fun _ _ => .str x⟩
end

/-! a flat answer, read in the view -/
section
variable {K : PySem.W.Frag} {mg : Str → Option Value} {X : Cx} {W : WX}
theorem flat_rep {A A' : Addr → Prop} {H : Hp} {v : V} {d : D} (r : Rep K A H v d) (h : flatD d = true) : Rep K A' H v d := by
  cases r with
  | non => exact .non
  | bl b => exact .bl b
  | int i => exact .int i
  | str x => exact .str x
  | _ => exact absurd (show false = true from h) Bool.false_ne_true
theorem dr_x {t : TE} {f : FE} (h : DB K mg W t f) : DR K mg W t (fX f) := fun A σ H ρ Q e p => by
  unfold fX at p
  rw [post_bind] at p
  refine h _ σ H (view ρ) _ e.view (p.mono (fun d _ q v H' s r => ?_) fun _ z => z)
  unfold onlyFlat at q
  split at q
  · rename_i hf
    have rr : Rep K (fun _ => False) H' v d := by
      rcases r with r | ⟨p, rfl, r⟩
      · exact r
      · exact r.rep fun z => z
    exact q v H' s (flat_rep rr hf)
  · exact q.elim
theorem dt_xR {t : TT} {f : FT} (h : DT K mg W t f) : DT K mg W t (fXT f) := fun A σ H ρ Q e p => h _ σ H (view ρ) Q e.view p
theorem de_x {e : Expr} {t : TE} {f : FE} (h : DBE K mg X W e t f) : DE K mg X W e t (fX f) := ⟨h.c, h.pe, dr_x h.dr⟩
theorem dt_x {e : Expr} {t : TT} {f : FT} (h : DTE K mg X W e t f) : DTE K mg X W e t (fXT f) := ⟨h.c, h.pe, dt_xR h.dr⟩
end

/-! ### operators -/
def OpS (K : PySem.W.Frag) (r : R2) (o : D → D → Out D) : Prop := ∀ (A : Addr → Prop) (H : Hp) (x y : V) (d e : D) (Q : VK) (Wc : String → Prop), Dom A H → RepB K A H x d → RepB K A H y e →
  (o d e).post (fun z => ∀ v H', Same H H' → Rep K A H' v z → Q v H') Wc → r x y H Q
def OpSN (K : PySem.W.Frag) (r : R2) (o : D → D → Out D) : Prop := ∀ (A : Addr → Prop) (H : Hp) (x y : V) (d e : D) (Q : VK) (Wc : String → Prop), Dom A H → RepB K A H x d → RepB K A H y e →
  (o d e).post (fun z => ∀ p H', NewAt K A H H' p z → Q (.ref p) H') Wc → r x y H Q
def UnS (K : PySem.W.Frag) (r : V → Hp → VK → Prop) (o : D → Out D) : Prop := ∀ (A : Addr → Prop) (H : Hp) (x : V) (d : D) (Q : VK) (Wc : String → Prop), Dom A H → RepB K A H x d →
  (o d).post (fun z => ∀ v H', Same H H' → Rep K A H' v z → Q v H') Wc → r x H Q
def CaS (K : PySem.W.Frag) (r : List V → Hp → VK → Prop) (o : D → Out D) : Prop := ∀ (A : Addr → Prop) (H : Hp) (x : V) (d : D) (Q : VK) (Wc : String → Prop), Dom A H → RepB K A H x d →
  (o d).post (fun z => ∀ v H', Same H H' → Rep K A H' v z → Q v H') Wc → r [x] H Q
def CaSN (K : PySem.W.Frag) (r : List V → Hp → VK → Prop) (o : D → Out D) : Prop := ∀ (A : Addr → Prop) (H : Hp) (x : V) (d : D) (Q : VK) (Wc : String → Prop), Dom A H → RepB K A H x d →
  (o d).post (fun z => ∀ p H', NewAt K A H H' p z → Q (.ref p) H') Wc → r [x] H Q
def CaS2 (K : PySem.W.Frag) (r : List V → Hp → VK → Prop) (o : D → D → Out D) : Prop := ∀ (A : Addr → Prop) (H : Hp) (x y : V) (d e : D) (Q : VK) (Wc : String → Prop), Dom A H → RepB K A H x d → RepB K A H y e →
  (o d e).post (fun z => ∀ v H', Same H H' → Rep K A H' v z → Q v H') Wc → r [x, y] H Q
section
variable {K : PySem.W.Frag} {mg : Str → Option Value} {W : WX} {ta tb tc : TE} {fa fb fc : FE} {r r' : R2} {o o' : D → D → Out D}
theorem NewAt.back {A : Addr → Prop} {H H1 H2 : Hp} {p : Addr} {d : D} (s : Same H H1) (n : NewAt K A H1 H2 p d) : NewAt K A H H2 p d := ⟨s.trans n.1, s.free n.2.1, n.2.2⟩
theorem db_bin {R : V → V → Hp → Prop} {A : Addr → Prop} {σ : St} {H : Hp} {ρ : Rho} {P : D → D → Prop} (ha : DB K mg W ta fa) (hb : DB K mg W tb fb) (e : EnvE K A σ H ρ)
    (p : (fa ρ).post (fun x => (fb ρ).post (fun y => P x y) (XW mg W σ H)) (XW mg W σ H))
    (h : ∀ x y d e H2, Same H H2 → EnvE K A σ H2 ρ → RepB K A H2 x d → RepB K A H2 y e → P d e → R x y H2) : ta σ H fun x H1 => tb σ H1 fun y H2 => R x y H2 := by
  refine ha A σ H ρ _ e (p.mono (fun d _ q x H1 s1 r1 => ?_) fun _ z => z)
  refine hb A σ H1 ρ _ (e.same s1) (q.mono (fun d2 _ q2 y H2 s2 r2 => ?_) fun _ z => z.same s1)
  exact h x y d d2 H2 (s1.trans s2) (e.same (s1.trans s2)) (r1.same s2) r2 q2
theorem dr_op2 (ho : OpS K r o) (ha : DB K mg W ta fa) (hb : DB K mg W tb fb) : DR K mg W (tOp r ta tb) (f2 o fa fb) := fun A σ H ρ Q e p => by
  unfold f2 at p
  rw [post_bind] at p
  refine db_bin (P := fun x y => (o x y).post (fun z => ∀ v H', Same H H' → Rep K A H' v z → Q v H') (XW mg W σ H)) ha hb e (p.mono (fun x _ q => post_bind.mp q) fun _ z => z) fun x y d d2 H2 s e2 r1 r2 q => ?_
  exact ho A H2 x y d d2 Q _ e2.dom r1 r2 (q.mono (fun z _ k v H' s' rr => k v H' (s.trans s') rr) fun _ z => z)
theorem dn_op2 (ho : OpSN K r o) (ha : DB K mg W ta fa) (hb : DB K mg W tb fb) : DN K mg W (tOp r ta tb) (f2 o fa fb) := fun A σ H ρ Q e p => by
  unfold f2 at p
  rw [post_bind] at p
  refine db_bin (P := fun x y => (o x y).post (fun z => ∀ p' H', NewAt K A H H' p' z → Q (.ref p') H') (XW mg W σ H)) ha hb e (p.mono (fun x _ q => post_bind.mp q) fun _ z => z) fun x y d d2 H2 s e2 r1 r2 q => ?_
  exact ho A H2 x y d d2 Q _ e2.dom r1 r2 (q.mono (fun z _ k v H' n => k v H' (n.back s)) fun _ z => z)
theorem dr_un {r : V → Hp → VK → Prop} {o : D → Out D} (ho : UnS K r o) (ha : DB K mg W ta fa) : DR K mg W (tUn r ta) (f1 o fa) := fun A σ H ρ Q e p => by
  unfold f1 at p
  rw [post_bind] at p
  refine ha A σ H ρ _ e (p.mono (fun d _ q x H1 s1 r1 => ?_) fun _ z => z)
  exact ho A H1 x d Q _ (e.same s1).dom r1 (q.mono (fun z _ k v H' s' rr => k v H' (s1.trans s') rr) fun _ z => z)
theorem dr_ca {r : List V → Hp → VK → Prop} {o : D → Out D} (ho : CaS K r o) (ha : DB K mg W ta fa) : DR K mg W (tCB r (tCons ta tNil)) (f1 o fa) := fun A σ H ρ Q e p => by
  unfold f1 at p
  rw [post_bind] at p
  refine ha A σ H ρ _ e (p.mono (fun d _ q x H1 s1 r1 => ?_) fun _ z => z)
  exact ho A H1 x d Q _ (e.same s1).dom r1 (q.mono (fun z _ k v H' s' rr => k v H' (s1.trans s') rr) fun _ z => z)
theorem dn_ca {r : List V → Hp → VK → Prop} {o : D → Out D} (ho : CaSN K r o) (ha : DB K mg W ta fa) : DN K mg W (tCB r (tCons ta tNil)) (f1 o fa) := fun A σ H ρ Q e p => by
  unfold f1 at p
  rw [post_bind] at p
  refine ha A σ H ρ _ e (p.mono (fun d _ q x H1 s1 r1 => ?_) fun _ z => z)
  exact ho A H1 x d Q _ (e.same s1).dom r1 (q.mono (fun z _ k v H' n => k v H' (n.back s1)) fun _ z => z)
theorem dr_ca2 {r : List V → Hp → VK → Prop} (ho : CaS2 K r o) (ha : DB K mg W ta fa) (hb : DB K mg W tb fb) : DR K mg W (tCB r (tCons ta (tCons tb tNil))) (f2 o fa fb) := fun A σ H ρ Q e p => by
  unfold f2 at p
  rw [post_bind] at p
  refine db_bin (R := fun x y H2 => r [x, y] H2 Q) (P := fun x y => (o x y).post (fun z => ∀ v H', Same H H' → Rep K A H' v z → Q v H') (XW mg W σ H)) ha hb e (p.mono (fun x _ q => post_bind.mp q) fun _ z => z) fun x y d d2 H2 s e2 r1 r2 q => ?_
  exact ho A H2 x y d d2 Q _ e2.dom r1 r2 (q.mono (fun z _ k v H' s' rr => k v H' (s.trans s') rr) fun _ z => z)
/-- an exception is not what an operation gives -/
theorem opS_of {r : R2} (h : ∀ (A : Addr → Prop) (H : Hp) (x y : V) (d e z : D) (Q : VK), Dom A H → RepB K A H x d → RepB K A H y e → o d e = ok z → (∀ v H', Same H H' → Rep K A H' v z → Q v H') → r x y H Q)
    (hx : ∀ d e c, o d e ≠ ex c) : OpS K r o := fun A H x y d e Q Wc dm r1 r2 p => by
  cases q : o d e with
  | ok z => rw [q] at p; exact h A H x y d e z Q dm r1 r2 q p
  | ex c => exact absurd q (hx d e c)
  | no => rw [q] at p; exact p.elim
end

/-! ### the operators' rules -/
section
variable {K : PySem.W.Frag}
theorem rv_refl {A : Addr → Prop} {H : Hp} {Q : VK} {z : D} {v : V} (p : ∀ v H', Same H H' → Rep K A H' v z → Q v H') (r : Rep K A H v z) : Q v H := p v H (Same.refl H) r
def rIB : R2 := fun x y H Q => ∃ i k, x = .int i ∧ y = .bl k ∧ Q (.int (i + PyProof.Rows.b2i k)) H
def rStr2 : R2 := fun x y H Q => ∃ i j, x = .str i ∧ y = .str j ∧ i.length + j.length ≤ sizeLine ∧ Q (.str (i ++ j)) H
def rAddAll (K : PySem.W.Frag) : R2 := fun x y H Q => rI0 (fun i j => .int (i + j)) x y H Q ∨ rStr2 x y H Q ∨ rCat x y H Q ∨ rCatA K x y H Q ∨ rIB x y H Q
theorem op_addAll {X : Cx} (k : X.K = K) : OpR X (binaryOp .Add) (rAddAll K) := by subst k; exact op_add.or (OpR.or op_add_str (op_cat.or (op_catA.or op_add_ib)))
theorem new_lst {A : Addr → Prop} {H : Hp} {xs : List V} {ds : List D} {p : Addr} (dm : Dom A H) (r : RepAll K A H xs ds) (hp : H p = none) : NewAt K A H (upd H p (.lst xs)) p (.list ds) := by
  refine ⟨same_new hp _, hp, .lst upd_same (r.tr fun a o e n => ?_)⟩
  refine ⟨same_new hp _ _ _ e, fun z => ?_⟩
  rcases z with z | z
  · exact n z
  · subst z
    rw [hp] at e
    cases e
theorem new_lstR {A : Addr → Prop} {H : Hp} {xs : List V} {ds : List D} {p : Addr} (dm : Dom A H) (r : RepAll K A H xs ds) (hp : H p = none) : Rep K A (upd H p (.lst xs)) (.ref p) (.list ds) :=
  (new_lst dm r hp).rep dm
theorem new_tup {A : Addr → Prop} {H : Hp} {xs : List V} {ds : List D} {p : Addr} (dm : Dom A H) (r : RepAll K A H xs ds) (hp : H p = none) : Rep K A (upd H p (.tup xs)) (.ref p) (.tuple ds) :=
  .tup (dm.fresh hp) (.inl upd_same) (r.tr (Tr.same (same_new hp _)))
theorem RepAll.nil_of {A : Addr → Prop} {H : Hp} {xs : List V} {ds : List D} (r : RepAll K A H xs ds) (e : xs = []) : ds = [] := by
  subst e
  cases r
  rfl
theorem os_add : OpS K (rAddAll K) oAdd := by
  refine opS_of (fun A H x y d e z Q dm r1 r2 q p => ?_) (fun d e c => by unfold oAdd; repeat (first | split | simp))
  unfold oAdd at q
  split at q
  · cases q
    rw [r1.int, r2.int]
    exact .inl ⟨_, _, rfl, rfl, rv_refl p (.int _)⟩
  · split at q
    · cases q
      rw [r1.str, r2.str]
      exact .inr (.inl ⟨_, _, rfl, rfl, by assumption, rv_refl p (.str _)⟩)
    · cases q
  · split at q
    · cases q
      obtain ⟨a, xs, rfl, h1, h2⟩ := r1.list
      obtain ⟨b, ys, rfl, h3, h4⟩ := r2.list
      refine .inr (.inr (.inl ⟨_, _, xs, ys, rfl, rfl, h1, h3, by rw [h2.length, h4.length]; assumption, fun p' hp => p _ _ (same_new hp _) (new_lstR dm (h2.append h4) hp)⟩))
    · cases q
  · split at q
    · cases q
      obtain ⟨a, xs, rfl, h1, h2, w1⟩ := r1.tup
      obtain ⟨b, ys, rfl, h3, h4, w2⟩ := r2.tup
      refine .inr (.inr (.inr (.inl ⟨_, _, xs, ys, rfl, rfl, h1, h3, by rw [h2.length, h4.length]; assumption, fun ex => ?_, fun _ ey => ?_, fun _ _ p' hp => p _ _ (same_new hp _) (new_tup dm (h2.append h4) hp)⟩)))
      · have := h2.nil_of ex
        subst this
        exact rv_refl p w2
      · have := h4.nil_of ey
        subst this
        rw [List.append_nil] at p
        exact rv_refl p w1
    · cases q
  · cases q
    rw [r1.int, r2.bool]
    exact .inr (.inr (.inr (.inr ⟨_, _, rfl, rfl, rv_refl p (.int _)⟩)))
  · cases q
theorem os_cat : OpSN K rCat oCat := fun A H x y d e Q Wc dm r1 r2 p => by
  unfold oCat at p
  split at p
  · split at p
    · obtain ⟨a, xs, rfl, h1, h2⟩ := r1.list
      obtain ⟨b, ys, rfl, h3, h4⟩ := r2.list
      exact ⟨_, _, xs, ys, rfl, rfl, h1, h3, by rw [h2.length, h4.length]; assumption, fun p' hp => p _ _ (new_lst dm (h2.append h4) hp)⟩
    · exact p.elim
  · exact p.elim
theorem os_rep : OpSN K rRep oRep := fun A H x y d e Q Wc dm r1 r2 p => by
  unfold oRep at p
  split at p
  · split at p
    · rename_i h
      obtain ⟨a, xs, rfl, h1, h2⟩ := r1.list
      rw [r2.int]
      exact ⟨_, _, xs, rfl, rfl, h1, h.1, h.2.1, by rw [h2.length]; exact h.2.2, fun p' hp => p _ _ (new_lst dm (h2.rep _) hp)⟩
    · exact p.elim
  · exact p.elim
theorem os_sub : OpS K (rI0 fun i j => .int (i - j)) oSub := fun A H x y d e Q Wc dm r1 r2 p => by
  unfold oSub at p
  split at p
  · rw [r1.int, r2.int]
    exact ⟨_, _, rfl, rfl, rv_refl p (.int _)⟩
  · exact p.elim
theorem os_mul : OpS K (rI CMul fun i j => .int (i * j)) oMul := fun A H x y d e Q Wc dm r1 r2 p => by
  unfold oMul at p
  split at p
  · split at p
    · rename_i h
      rw [r1.int, r2.int]
      unfold mulOk at h
      rw [decide_eq_true_eq] at h
      exact ⟨_, _, rfl, rfl, h, rv_refl p (.int _)⟩
    · exact p.elim
  · exact p.elim
theorem os_fdiv : OpS K (rI CDiv fun i j => .int (i / j)) oFdiv := fun A H x y d e Q Wc dm r1 r2 p => by
  unfold oFdiv at p
  split at p
  · split at p
    · rename_i h
      rw [r1.int, r2.int]
      exact ⟨_, _, rfl, rfl, h, rv_refl p (.int _)⟩
    · exact p.elim
  · exact p.elim
theorem os_mod : OpS K (rI (fun _ j => 0 < j) fun i j => .int (i % j)) oMod := fun A H x y d e Q Wc dm r1 r2 p => by
  unfold oMod at p
  split at p
  · split at p
    · rename_i h
      rw [r1.int, r2.int]
      exact ⟨_, _, rfl, rfl, h, rv_refl p (.int _)⟩
    · exact p.elim
  · exact p.elim
theorem os_pow : OpS K (rI CPow fun i j => .int (i ^ j.toNat)) oPow := fun A H x y d e Q Wc dm r1 r2 p => by
  unfold oPow at p
  split at p
  · split at p
    · rename_i h
      rw [r1.int, r2.int]
      exact ⟨_, _, rfl, rfl, h, rv_refl p (.int _)⟩
    · exact p.elim
  · exact p.elim
theorem us_neg : UnS K (rU fun i => .int (-i)) oNeg := fun A H x d Q Wc dm r1 p => by
  unfold oNeg at p
  split at p
  · rw [r1.int]
    exact ⟨_, rfl, rv_refl p (.int _)⟩
  · exact p.elim
/-! #### comparisons -/
def rEqAll (K : PySem.W.Frag) : R2 := fun x y H Q => rEq x y H Q ∨ rEqD K x y H Q
def rNeAll (K : PySem.W.Frag) : R2 := fun x y H Q => rNe x y H Q ∨ rNeD K x y H Q
theorem op_eqAll {X : Cx} (k : X.K = K) (hu : X.A.units + 64 < cLine) : OpR X (compareOp .Eq) (rEqAll K) := by subst k; exact op_eq.or (op_eqD hu)
theorem op_neAll {X : Cx} (k : X.K = K) (hu : X.A.units + 64 < cLine) : OpR X (compareOp .NotEq) (rNeAll K) := by subst k; exact op_ne.or (op_neD hu)
theorem scal_of {A : Addr → Prop} {H : Hp} {x y : V} {d e : D} (r1 : RepB K A H x d) (r2 : RepB K A H y e) (h : scalD d e = true) : scal x y = true ∧ decide (x = y) = PyData.eqv d e := by
  unfold scalD at h
  split at h <;> first
    | (rw [r1.none, r2.none]; exact ⟨rfl, by decide⟩)
    | (rw [r1.none, r2.int]; exact ⟨rfl, by simp [PyData.eqv]⟩)
    | (rw [r1.none, r2.bool]; exact ⟨rfl, by simp [PyData.eqv]⟩)
    | (rw [r1.none, r2.str]; exact ⟨rfl, by simp [PyData.eqv]⟩)
    | (rw [r1.int, r2.none]; exact ⟨rfl, by simp [PyData.eqv]⟩)
    | (rw [r1.bool, r2.none]; exact ⟨rfl, by simp [PyData.eqv]⟩)
    | (rw [r1.str, r2.none]; exact ⟨rfl, by simp [PyData.eqv]⟩)
    | (rw [r1.int, r2.int]; exact ⟨rfl, by rw [dec_int]; simp [PyData.eqv]⟩)
    | (rw [r1.bool, r2.bool]; exact ⟨rfl, by rw [dec_bl]; simp [PyData.eqv]⟩)
    | (rw [r1.str, r2.str]; exact ⟨rfl, by rw [dec_str]; simp [PyData.eqv]⟩)
    | (rw [r1.int, r2.str]; exact ⟨rfl, by simp [PyData.eqv]⟩)
    | (rw [r1.str, r2.int]; exact ⟨rfl, by simp [PyData.eqv]⟩)
    | (rw [r1.bool, r2.str]; exact ⟨rfl, by simp [PyData.eqv]⟩)
    | (rw [r1.str, r2.bool]; exact ⟨rfl, by simp [PyData.eqv]⟩)
    | exact absurd h Bool.false_ne_true
theorem shaped_lay {d : D} (h : SeqAt.shaped d = true) : d.canLay0 = true := SeqAt.canLay_of_shaped h
theorem os_eq : OpS K (rEqAll K) oEq := fun A H x y d e Q Wc dm r1 r2 p => by
  unfold oEq at p
  split at p
  · rename_i h
    unfold eqOk at h
    rw [Bool.or_eq_true] at h
    rcases h with h | h
    · obtain ⟨h1, h2⟩ := scal_of r1 r2 h
      exact .inl ⟨h1, by rw [h2]; exact rv_refl p (.bl _)⟩
    · rw [Bool.and_eq_true] at h
      exact .inr ⟨d, e, r1.dp (shaped_lay h.1), r2.dp (shaped_lay h.2), h.1, h.2, rv_refl p (.bl _)⟩
  · exact p.elim
theorem os_ne : OpS K (rNeAll K) oNe := fun A H x y d e Q Wc dm r1 r2 p => by
  unfold oNe at p
  split at p
  · rename_i h
    unfold eqOk at h
    rw [Bool.or_eq_true] at h
    rcases h with h | h
    · obtain ⟨h1, h2⟩ := scal_of r1 r2 h
      exact .inl ⟨h1, by rw [h2]; exact rv_refl p (.bl _)⟩
    · rw [Bool.and_eq_true] at h
      exact .inr ⟨d, e, r1.dp (shaped_lay h.1), r2.dp (shaped_lay h.2), h.1, h.2, rv_refl p (.bl _)⟩
  · exact p.elim
def rLtStr : R2 := fun x y H Q => ∃ i j, x = .str i ∧ y = .str j ∧ Q (.bl (decide (i.cps.toList < j.cps.toList))) H
def rLtAll : R2 := fun x y H Q => rI0 (fun i j => .bl (decide (i < j))) x y H Q ∨ rLtStr x y H Q
theorem op_ltAll {X : Cx} : OpR X (compareOp .Lt) rLtAll := op_lt.or op_lt_str
theorem os_lt : OpS K rLtAll oLt := fun A H x y d e Q Wc dm r1 r2 p => by
  unfold oLt at p
  split at p
  · rw [r1.int, r2.int]
    exact .inl ⟨_, _, rfl, rfl, rv_refl p (.bl _)⟩
  · rw [r1.str, r2.str]
    exact .inr ⟨_, _, rfl, rfl, rv_refl p (.bl _)⟩
  · exact p.elim
theorem os_le : OpS K (rI0 fun i j => .bl (decide (i ≤ j))) oLe := fun A H x y d e Q Wc dm r1 r2 p => by
  unfold oLe at p
  split at p
  · rw [r1.int, r2.int]
    exact ⟨_, _, rfl, rfl, rv_refl p (.bl _)⟩
  · exact p.elim
theorem os_gt : OpS K (rI0 fun i j => .bl (decide (j < i))) oGt := fun A H x y d e Q Wc dm r1 r2 p => by
  unfold oGt at p
  split at p
  · rw [r1.int, r2.int]
    exact ⟨_, _, rfl, rfl, rv_refl p (.bl _)⟩
  · exact p.elim
theorem os_ge : OpS K (rI0 fun i j => .bl (decide (j ≤ i))) oGe := fun A H x y d e Q Wc dm r1 r2 p => by
  unfold oGe at p
  split at p
  · rw [r1.int, r2.int]
    exact ⟨_, _, rfl, rfl, rv_refl p (.bl _)⟩
  · exact p.elim
theorem os_isB : OpS K rIsB oIsB := fun A H x y d e Q Wc dm r1 r2 p => by
  unfold oIsB at p
  split at p
  · rw [r1.bool, r2.bool]
    exact ⟨_, _, rfl, rfl, rv_refl p (.bl _)⟩
  · exact p.elim
theorem os_notB : OpS K rNotB oNotB := fun A H x y d e Q Wc dm r1 r2 p => by
  unfold oNotB at p
  split at p
  · rw [r1.bool, r2.bool]
    exact ⟨_, _, rfl, rfl, rv_refl p (.bl _)⟩
  · exact p.elim
/-! #### in -/
def rInAll (K : PySem.W.Frag) : R2 := fun x y H Q => rIn K false x y H Q ∨ rInD K x y H Q
def rNinAll (K : PySem.W.Frag) : R2 := fun x y H Q => rIn K true x y H Q ∨ rNotInD K x y H Q
theorem op_inAll {X : Cx} (k : X.K = K) (hu : X.A.units + 65 < cLine) : OpR X (compareOp .In) (rInAll K) := by subst k; exact op_in_seq.or (op_inD hu)
theorem op_ninAll {X : Cx} (k : X.K = K) (hu : X.A.units + 65 < cLine) : OpR X (compareOp .NotIn) (rNinAll K) := by subst k; exact op_notIn_seq.or (op_notInD hu)
theorem flat_of {A : Addr → Prop} {H : Hp} {x : V} {d : D} (r : RepB K A H x d) (h : flatD d = true) : flatV x = true ∧ Rep K A H x d := by
  unfold flatD at h
  split at h
  · rw [r.none]; exact ⟨rfl, .non⟩
  · rw [r.bool]; exact ⟨rfl, .bl _⟩
  · rw [r.int]; exact ⟨rfl, .int _⟩
  · rw [r.str]; exact ⟨rfl, .str _⟩
  · cases h
theorem eqv_of {A : Addr → Prop} {H : Hp} {x y : V} {d e : D} (r1 : Rep K A H x d) (r2 : Rep K A H y e) (h1 : flatD d = true) (h2 : flatD e = true) : eqV x y = PyData.eqv d e := by
  cases r1 <;> first
    | exact absurd (show false = true from h1) Bool.false_ne_true
    | (cases r2 <;> first | exact absurd (show false = true from h2) Bool.false_ne_true | simp [eqV, PyData.eqv])
theorem flat_all {A : Addr → Prop} {H : Hp} {x : V} {d : D} (r : Rep K A H x d) (h : flatD d = true) : ∀ {vs : List V} {ds : List D}, RepAll K A H vs ds → ds.all flatD = true → vs.all flatV = true ∧ inV x vs = ds.any fun z => PyData.eqv z d
  | _, _, .nil, _ => ⟨rfl, rfl⟩
  | _, _, .cons q t, g => by
    rw [List.all_cons, Bool.and_eq_true] at g
    obtain ⟨i1, i2⟩ := flat_all r h t g.2
    refine ⟨by rw [List.all_cons, (flat_of q.b g.1).1, i1]; rfl, ?_⟩
    unfold inV at i2 ⊢
    rw [List.any_cons, List.any_cons, i2, eqv_of q r g.1 h]
theorem os_in : OpS K (rInAll K) oIn := fun A H x y d e Q Wc dm r1 r2 p => by
  unfold oIn at p
  split at p
  · split at p
    · rename_i h
      unfold inOk at h
      obtain ⟨a, xs, rfl, h1, h2⟩ := r2.list
      rw [Bool.or_eq_true] at h
      rcases h with h | h
      · rw [Bool.and_eq_true] at h
        obtain ⟨f1, w⟩ := flat_of r1 h.1
        obtain ⟨f2, e2⟩ := flat_all w h.1 h2 h.2
        exact .inl ⟨a, xs, rfl, .inl (SqL.of h1), f1, f2, by rw [if_neg Bool.false_ne_true, e2]; exact rv_refl p (.bl _)⟩
      · rw [Bool.and_eq_true] at h
        exact .inr ⟨_, _, r1.dp (shaped_lay h.1), r2.dp (shaped_lay h.2), h.1, h.2, rv_refl p (.bl _)⟩
    · exact p.elim
  · split at p
    · rename_i h
      obtain ⟨a, xs, rfl, h1, h2, _⟩ := r2.tup
      obtain ⟨f1, w⟩ := flat_of r1 h.1
      obtain ⟨f2, e2⟩ := flat_all w h.1 h2 h.2
      exact .inl ⟨a, xs, rfl, .inr h1, f1, f2, by rw [if_neg Bool.false_ne_true, e2]; exact rv_refl p (.bl _)⟩
    · exact p.elim
  · exact p.elim
theorem os_nin : OpS K (rNinAll K) oNin := fun A H x y d e Q Wc dm r1 r2 p => by
  unfold oNin at p
  split at p
  · split at p
    · rename_i h
      unfold inOk at h
      obtain ⟨a, xs, rfl, h1, h2⟩ := r2.list
      rw [Bool.or_eq_true] at h
      rcases h with h | h
      · rw [Bool.and_eq_true] at h
        obtain ⟨f1, w⟩ := flat_of r1 h.1
        obtain ⟨f2, e2⟩ := flat_all w h.1 h2 h.2
        exact .inl ⟨a, xs, rfl, .inl (SqL.of h1), f1, f2, by rw [if_pos rfl, e2]; exact rv_refl p (.bl _)⟩
      · rw [Bool.and_eq_true] at h
        exact .inr ⟨_, _, r1.dp (shaped_lay h.1), r2.dp (shaped_lay h.2), h.1, h.2, rv_refl p (.bl _)⟩
    · exact p.elim
  · split at p
    · rename_i h
      obtain ⟨a, xs, rfl, h1, h2, _⟩ := r2.tup
      obtain ⟨f1, w⟩ := flat_of r1 h.1
      obtain ⟨f2, e2⟩ := flat_all w h.1 h2 h.2
      exact .inl ⟨a, xs, rfl, .inr h1, f1, f2, by rw [if_pos rfl, e2]; exact rv_refl p (.bl _)⟩
    · exact p.elim
  · exact p.elim
/-! #### items, parts -/
theorem os_ix : OpS K (rIx K) oIx := fun A H x y d e Q Wc dm r1 r2 p => by
  unfold oIx at p
  split at p
  · rename_i ds i
    obtain ⟨a, xs, rfl, h1, h2⟩ := r1.list
    rw [r2.int]
    cases q : atI ds i with
    | none => rw [q] at p; exact p.elim
    | some z =>
      rw [q] at p
      obtain ⟨v, e1, e2⟩ := h2.at q
      exact .inl ⟨a, xs, i, v, rfl, rfl, (SqL.of h1), e1, rv_refl p e2⟩
  · rename_i ds i
    obtain ⟨a, xs, rfl, h1, h2, _⟩ := r1.tup
    rw [r2.int]
    cases q : atI ds i with
    | none => rw [q] at p; exact p.elim
    | some z =>
      rw [q] at p
      obtain ⟨v, e1, e2⟩ := h2.at q
      exact .inr (.inl ⟨a, xs, i, v, rfl, rfl, h1, e1, rv_refl p e2⟩)
  · rename_i kds i
    rw [post_bind] at p
    rw [r2.int]
    cases q0 : roOf kds with
    | none => rw [q0] at p; exact p.elim
    | some ds =>
      rw [q0] at p
      have p : (ofO (atI ds i)).post (fun z => ∀ v H', Same H H' → Rep K A H' v z → Q v H') Wc := p
      rcases r1.dict with ⟨a, xs, ds', rfl, e0, h1, h2, _⟩ | ⟨_, _, _, _, _, _, e0⟩ | ⟨_, _, _, _, _, _, e0⟩
      · rw [roOf_some q0] at e0
        cases e0
        cases q : atI ds i with
        | none => rw [q] at p; exact p.elim
        | some z =>
          rw [q] at p
          obtain ⟨v, e1, e2⟩ := h2.at q
          exact .inl ⟨a, xs, i, v, rfl, rfl, h1, e1, rv_refl p e2⟩
      · rw [q0] at e0; cases e0
      · rw [q0] at e0; cases e0
  · rename_i z i
    split at p
    · rename_i hz
      rw [r1.str, r2.int]
      cases q : atI z.cps.toList i with
      | none => rw [q] at p; exact p.elim
      | some c =>
        rw [q] at p
        exact .inr (.inr ⟨z, i, c, rfl, rfl, hz, q, rv_refl p (.str _)⟩)
    · exact p.elim
  · exact p.elim
end
end Dl

set_option maxRecDepth 100000
set_option maxHeartbeats 4000000
/-! The data layer, part d: expressions with their syntax. -/
namespace Dl
open PySem L2
open Out
section
variable {K : PySem.W.Frag} {mg : Str → Option Value} {X : Cx} {W : WX} {a b c e : Expr} {es : List Expr} {pos : Pos} {ta tb tc : TE} {fa fb fc : FE} {k : Nat}
theorem de_add (ha : DBE K mg X W a ta fa) (hb : DBE K mg X W b tb fb) : DE K mg X W (.BinOp a .Add b pos) (tOp (rAddAll K) ta tb) (f2 oAdd fa fb) := ⟨ha.c, pe_op (op_addAll ha.c.k) ha.pe hb.pe, dr_op2 os_add ha.dr hb.dr⟩
theorem dn_cat (ha : DBE K mg X W a ta fa) (hb : DBE K mg X W b tb fb) : DNE K mg X W (.BinOp a .Add b pos) (tOp rCat ta tb) (f2 oCat fa fb) := ⟨ha.c, pe_op op_cat ha.pe hb.pe, dn_op2 os_cat ha.dr hb.dr⟩
theorem de_sub (ha : DBE K mg X W a ta fa) (hb : DBE K mg X W b tb fb) : DE K mg X W (.BinOp a .Sub b pos) (tOp (rI0 fun i j => .int (i - j)) ta tb) (f2 oSub fa fb) := ⟨ha.c, pe_op op_sub ha.pe hb.pe, dr_op2 os_sub ha.dr hb.dr⟩
theorem de_mul (ha : DBE K mg X W a ta fa) (hb : DBE K mg X W b tb fb) : DE K mg X W (.BinOp a .Mult b pos) (tOp (rI CMul fun i j => .int (i * j)) ta tb) (f2 oMul fa fb) := ⟨ha.c, pe_op op_mul ha.pe hb.pe, dr_op2 os_mul ha.dr hb.dr⟩
theorem dn_rep (ha : DBE K mg X W a ta fa) (hb : DBE K mg X W b tb fb) : DNE K mg X W (.BinOp a .Mult b pos) (tOp rRep ta tb) (f2 oRep fa fb) := ⟨ha.c, pe_op op_rep ha.pe hb.pe, dn_op2 os_rep ha.dr hb.dr⟩
theorem de_fdiv (ha : DBE K mg X W a ta fa) (hb : DBE K mg X W b tb fb) : DE K mg X W (.BinOp a .FloorDiv b pos) (tOp (rI CDiv fun i j => .int (i / j)) ta tb) (f2 oFdiv fa fb) := ⟨ha.c, pe_op op_fdiv ha.pe hb.pe, dr_op2 os_fdiv ha.dr hb.dr⟩
theorem de_mod (ha : DBE K mg X W a ta fa) (hb : DBE K mg X W b tb fb) : DE K mg X W (.BinOp a .Mod b pos) (tOp (rI (fun _ j => 0 < j) fun i j => .int (i % j)) ta tb) (f2 oMod fa fb) := ⟨ha.c, pe_op op_mod ha.pe hb.pe, dr_op2 os_mod ha.dr hb.dr⟩
theorem de_pow (ha : DBE K mg X W a ta fa) (hb : DBE K mg X W b tb fb) : DE K mg X W (.BinOp a .Pow b pos) (tOp (rI CPow fun i j => .int (i ^ j.toNat)) ta tb) (f2 oPow fa fb) := ⟨ha.c, pe_op op_pow ha.pe hb.pe, dr_op2 os_pow ha.dr hb.dr⟩
theorem de_neg (ha : DBE K mg X W a ta fa) : DE K mg X W (.UnaryOp .USub a pos) (tUn (rU fun i => .int (-i)) ta) (f1 oNeg fa) := ⟨ha.c, pe_un un_neg ha.pe, dr_un us_neg ha.dr⟩
/-! comparisons -/
theorem de_cmp {op : CmpOp} {r : R2} {o : D → D → Out D} (ho : OpR X (compareOp op) r) (hs : OpS K r o) (ha : DBE K mg X W a ta fa) (hb : DBE K mg X W b tb fb) (hm : behindInMarks op b = false) : DE K mg X W (.Compare a [op] [b] pos) (tOp r ta tb) (f2 o fa fb) :=
  ⟨ha.c, pe_cmpR ho ha.pe hb.pe hm, dr_op2 hs ha.dr hb.dr⟩
theorem dt_test (h : DR K mg W ta fa) : DT K mg W (tTest ta) (fB fa) := fun A σ H ρ Q e p => by
  unfold fB at p
  rw [post_bind] at p
  refine h A σ H ρ _ e (p.mono (fun d _ q v H' s r => ?_) fun _ z => z)
  cases d with
  | bool b =>
    cases r
    exact ⟨b, rfl, q H' s⟩
  | _ => exact q.elim
theorem dt_tB (h : DR K mg W ta fa) : DT K mg W (tB ta) (fB fa) := dt_test h
theorem dt_cmp {op : CmpOp} {r : R2} {o : D → D → Out D} (ho : OpR X (compareOp op) r) (hs : OpS K r o) (ha : DBE K mg X W a ta fa) (hb : DBE K mg X W b tb fb) (hm : behindInMarks op b = false) : DTE K mg X W (.Compare a [op] [b] pos) (tTest (tOp r ta tb)) (fB (f2 o fa fb)) :=
  ⟨ha.c, pt_cmpR ho ha.pe hb.pe hm, dt_test (dr_op2 hs ha.dr hb.dr)⟩
theorem de_eq (hu : X.A.units + 64 < cLine) (ha : DBE K mg X W a ta fa) (hb : DBE K mg X W b tb fb) : DE K mg X W (.Compare a [.Eq] [b] pos) (tOp (rEqAll K) ta tb) (f2 oEq fa fb) := de_cmp (op_eqAll ha.c.k hu) os_eq ha hb (nomark _)
theorem dt_eq (hu : X.A.units + 64 < cLine) (ha : DBE K mg X W a ta fa) (hb : DBE K mg X W b tb fb) : DTE K mg X W (.Compare a [.Eq] [b] pos) (tTest (tOp (rEqAll K) ta tb)) (fB (f2 oEq fa fb)) := dt_cmp (op_eqAll ha.c.k hu) os_eq ha hb (nomark _)
theorem de_ne (hu : X.A.units + 64 < cLine) (ha : DBE K mg X W a ta fa) (hb : DBE K mg X W b tb fb) : DE K mg X W (.Compare a [.NotEq] [b] pos) (tOp (rNeAll K) ta tb) (f2 oNe fa fb) := de_cmp (op_neAll ha.c.k hu) os_ne ha hb (nomark _)
theorem dt_ne (hu : X.A.units + 64 < cLine) (ha : DBE K mg X W a ta fa) (hb : DBE K mg X W b tb fb) : DTE K mg X W (.Compare a [.NotEq] [b] pos) (tTest (tOp (rNeAll K) ta tb)) (fB (f2 oNe fa fb)) := dt_cmp (op_neAll ha.c.k hu) os_ne ha hb (nomark _)
theorem de_in (hu : X.A.units + 65 < cLine) (ha : DBE K mg X W a ta fa) (hb : DBE K mg X W b tb fb) (hm : behindInMarks .In b = false := by with_unfolding_all rfl) : DE K mg X W (.Compare a [.In] [b] pos) (tOp (rInAll K) ta tb) (f2 oIn fa fb) := de_cmp (op_inAll ha.c.k hu) os_in ha hb hm
theorem dt_in (hu : X.A.units + 65 < cLine) (ha : DBE K mg X W a ta fa) (hb : DBE K mg X W b tb fb) (hm : behindInMarks .In b = false := by with_unfolding_all rfl) : DTE K mg X W (.Compare a [.In] [b] pos) (tTest (tOp (rInAll K) ta tb)) (fB (f2 oIn fa fb)) := dt_cmp (op_inAll ha.c.k hu) os_in ha hb hm
theorem de_nin (hu : X.A.units + 65 < cLine) (ha : DBE K mg X W a ta fa) (hb : DBE K mg X W b tb fb) (hm : behindInMarks .NotIn b = false := by with_unfolding_all rfl) : DE K mg X W (.Compare a [.NotIn] [b] pos) (tOp (rNinAll K) ta tb) (f2 oNin fa fb) := de_cmp (op_ninAll ha.c.k hu) os_nin ha hb hm
theorem dt_nin (hu : X.A.units + 65 < cLine) (ha : DBE K mg X W a ta fa) (hb : DBE K mg X W b tb fb) (hm : behindInMarks .NotIn b = false := by with_unfolding_all rfl) : DTE K mg X W (.Compare a [.NotIn] [b] pos) (tTest (tOp (rNinAll K) ta tb)) (fB (f2 oNin fa fb)) := dt_cmp (op_ninAll ha.c.k hu) os_nin ha hb hm
theorem de_lt (ha : DBE K mg X W a ta fa) (hb : DBE K mg X W b tb fb) : DE K mg X W (.Compare a [.Lt] [b] pos) (tOp (rLtAll) ta tb) (f2 oLt fa fb) := de_cmp (op_ltAll) os_lt ha hb (nomark _)
theorem dt_lt (ha : DBE K mg X W a ta fa) (hb : DBE K mg X W b tb fb) : DTE K mg X W (.Compare a [.Lt] [b] pos) (tTest (tOp (rLtAll) ta tb)) (fB (f2 oLt fa fb)) := dt_cmp (op_ltAll) os_lt ha hb (nomark _)
theorem de_le (ha : DBE K mg X W a ta fa) (hb : DBE K mg X W b tb fb) : DE K mg X W (.Compare a [.LtE] [b] pos) (tOp (rI0 fun i j => .bl (decide (i ≤ j))) ta tb) (f2 oLe fa fb) := de_cmp (op_le) os_le ha hb (nomark _)
theorem dt_le (ha : DBE K mg X W a ta fa) (hb : DBE K mg X W b tb fb) : DTE K mg X W (.Compare a [.LtE] [b] pos) (tTest (tOp (rI0 fun i j => .bl (decide (i ≤ j))) ta tb)) (fB (f2 oLe fa fb)) := dt_cmp (op_le) os_le ha hb (nomark _)
theorem de_gt (ha : DBE K mg X W a ta fa) (hb : DBE K mg X W b tb fb) : DE K mg X W (.Compare a [.Gt] [b] pos) (tOp (rI0 fun i j => .bl (decide (j < i))) ta tb) (f2 oGt fa fb) := de_cmp (op_gt) os_gt ha hb (nomark _)
theorem dt_gt (ha : DBE K mg X W a ta fa) (hb : DBE K mg X W b tb fb) : DTE K mg X W (.Compare a [.Gt] [b] pos) (tTest (tOp (rI0 fun i j => .bl (decide (j < i))) ta tb)) (fB (f2 oGt fa fb)) := dt_cmp (op_gt) os_gt ha hb (nomark _)
theorem de_ge (ha : DBE K mg X W a ta fa) (hb : DBE K mg X W b tb fb) : DE K mg X W (.Compare a [.GtE] [b] pos) (tOp (rI0 fun i j => .bl (decide (j ≤ i))) ta tb) (f2 oGe fa fb) := de_cmp (op_ge) os_ge ha hb (nomark _)
theorem dt_ge (ha : DBE K mg X W a ta fa) (hb : DBE K mg X W b tb fb) : DTE K mg X W (.Compare a [.GtE] [b] pos) (tTest (tOp (rI0 fun i j => .bl (decide (j ≤ i))) ta tb)) (fB (f2 oGe fa fb)) := dt_cmp (op_ge) os_ge ha hb (nomark _)
theorem de_is (ha : DBE K mg X W a ta fa) (hb : DBE K mg X W b tb fb) : DE K mg X W (.Compare a [.Is] [b] pos) (tOp (rIsB) ta tb) (f2 oIsB fa fb) := de_cmp (op_isBl) os_isB ha hb (nomark _)
theorem dt_is (ha : DBE K mg X W a ta fa) (hb : DBE K mg X W b tb fb) : DTE K mg X W (.Compare a [.Is] [b] pos) (tTest (tOp (rIsB) ta tb)) (fB (f2 oIsB fa fb)) := dt_cmp (op_isBl) os_isB ha hb (nomark _)
theorem de_isn (ha : DBE K mg X W a ta fa) (hb : DBE K mg X W b tb fb) : DE K mg X W (.Compare a [.IsNot] [b] pos) (tOp (rNotB) ta tb) (f2 oNotB fa fb) := de_cmp (op_notBl) os_notB ha hb (nomark _)
theorem dt_isn (ha : DBE K mg X W a ta fa) (hb : DBE K mg X W b tb fb) : DTE K mg X W (.Compare a [.IsNot] [b] pos) (tTest (tOp (rNotB) ta tb)) (fB (f2 oNotB fa fb)) := dt_cmp (op_notBl) os_notB ha hb (nomark _)
theorem dr_chain {r r' : R2} {o o' : D → D → Out D} (hs : OpS K r o) (hs' : OpS K r' o') (ha : DB K mg W ta fa) (hb : DB K mg W tb fb) (hc : DB K mg W tc fc) : DR K mg W (tChain r r' ta tb tc) (fChain o o' fa fb fc) := fun A σ H ρ Q e p => by
  unfold fChain at p
  rw [post_bind] at p
  refine db_bin (P := fun x y => ((o x y).bind fun z => (asBool z).bind fun k => if k = true then (fc ρ).bind fun w => o' y w else ok (.bool false)).post (fun z => ∀ v H', Same H H' → Rep K A H' v z → Q v H') (XW mg W σ H)) ha hb e
    (p.mono (fun x _ q => post_bind.mp q) fun _ z => z) fun x y d d2 H2 s e2 r1 r2 q => ?_
  rw [post_bind] at q
  refine hs A H2 x y d d2 _ _ e2.dom r1 r2 (q.mono (fun z _ q v H3 s3 rz => ?_) fun _ z => z)
  cases z with
  | bool k =>
    cases rz
    refine ⟨k, rfl, ?_⟩
    cases k with
    | true =>
      rw [if_pos rfl]
      have q' : ((fc ρ).bind fun w => o' d2 w).post (fun z => ∀ v H', Same H H' → Rep K A H' v z → Q v H') (XW mg W σ H) := q
      rw [post_bind] at q'
      refine hc A σ H3 ρ _ (e2.same s3) (q'.mono (fun w _ q w' H4 s4 rw' => ?_) fun _ z => z.same (s.trans s3))
      exact hs' A H4 y w' d2 w Q _ (e2.same (s3.trans s4)).dom (r2.same (s3.trans s4)) rw' (q.mono (fun z _ k v H' s' rr => k v H' (((s.trans s3).trans s4).trans s') rr) fun _ z => z)
    | false =>
      rw [if_neg Bool.false_ne_true]
      exact q _ _ (s.trans s3) (.bl _)
  | _ => exact q.elim
theorem de_chain {op op' : CmpOp} {r r' : R2} {o o' : D → D → Out D} (ho : OpR X (compareOp op) r) (ho' : OpR X (compareOp op') r') (hs : OpS K r o) (hs' : OpS K r' o') (ha : DBE K mg X W a ta fa) (hb : DBE K mg X W b tb fb) (hc : DBE K mg X W c tc fc)
    (hm : lastMarks [op, op'] [b, c] = false := by with_unfolding_all rfl) : DE K mg X W (.Compare a [op, op'] [b, c] pos) (tChain r r' ta tb tc) (fChain o o' fa fb fc) := ⟨ha.c, pe_chain ho ho' ha.pe hb.pe hc.pe hm, dr_chain hs hs' ha.dr hb.dr hc.dr⟩
theorem dt_chain {op op' : CmpOp} {r r' : R2} {o o' : D → D → Out D} (ho : OpR X (compareOp op) r) (ho' : OpR X (compareOp op') r') (hs : OpS K r o) (hs' : OpS K r' o') (ha : DBE K mg X W a ta fa) (hb : DBE K mg X W b tb fb) (hc : DBE K mg X W c tc fc)
    (hm : lastMarks [op, op'] [b, c] = false := by with_unfolding_all rfl) : DTE K mg X W (.Compare a [op, op'] [b, c] pos) (tTest (tChain r r' ta tb tc)) (fB (fChain o o' fa fb fc)) := ⟨ha.c, pt_chain ho ho' ha.pe hb.pe hc.pe hm, dt_test (dr_chain hs hs' ha.dr hb.dr hc.dr)⟩
/-! is None -/
theorem dr_isN (ha : DB K mg W ta fa) : DR K mg W (tIsN ta) (f1 oIsN fa) := fun A σ H ρ Q e p => by
  unfold f1 at p
  rw [post_bind] at p
  refine ha A σ H ρ _ e (p.mono (fun d _ q x H1 s1 r1 => ?_) fun _ z => z)
  show Q (.bl (decide (x = .non))) H1
  rw [r1.nonone]
  exact q _ _ s1 (.bl _)
theorem dr_notN (ha : DB K mg W ta fa) : DR K mg W (tNotN ta) (f1 oNotN fa) := fun A σ H ρ Q e p => by
  unfold f1 at p
  rw [post_bind] at p
  refine ha A σ H ρ _ e (p.mono (fun d _ q x H1 s1 r1 => ?_) fun _ z => z)
  show Q (.bl (!decide (x = .non))) H1
  rw [r1.nonone]
  exact q _ _ s1 (.bl _)
theorem de_isN {j p2} (ha : DBE K mg X W a ta fa) : DE K mg X W (.Compare a [.Is] [.Constant .none j p2] pos) (tIsN ta) (f1 oIsN fa) := ⟨ha.c, pe_cmp (pc_isN ha.pe), dr_isN ha.dr⟩
theorem de_notN {j p2} (ha : DBE K mg X W a ta fa) : DE K mg X W (.Compare a [.IsNot] [.Constant .none j p2] pos) (tNotN ta) (f1 oNotN fa) := ⟨ha.c, pe_cmp (pc_notN ha.pe), dr_notN ha.dr⟩
theorem dt_isN {j p2} (ha : DBE K mg X W a ta fa) : DTE K mg X W (.Compare a [.Is] [.Constant .none j p2] pos) (tB (tIsN ta)) (fB (f1 oIsN fa)) := ⟨ha.c, pt_cmp (pc_isN ha.pe), dt_tB (dr_isN ha.dr)⟩
theorem dt_notN {j p2} (ha : DBE K mg X W a ta fa) : DTE K mg X W (.Compare a [.IsNot] [.Constant .none j p2] pos) (tB (tNotN ta)) (fB (f1 oNotN fa)) := ⟨ha.c, pt_cmp (pc_notN ha.pe), dt_tB (dr_notN ha.dr)⟩
/-! a value as a test -/
theorem dt_val (h : DE K mg X W a ta fa) (he : ∀ whole, isTrue a X.env whole = (do let v ← whole; standAt a.pos; holding [v] (truthy v)) := by intro _; rfl) : DTE K mg X W a (tB ta) (fB fa) := ⟨h.c, pt_val h.pe he, dt_tB h.dr⟩
def tTruX (K : PySem.W.Frag) (ta : TE) : TT := fun σ H Q => ta σ H fun x H' => ∃ k, TruV K x H' k ∧ Q k H'
theorem isEmpty_all {K : PySem.W.Frag} {A : Addr → Prop} {H : Hp} {vs : List V} {ds : List D} (r : RepAll K A H vs ds) : vs.isEmpty = ds.isEmpty := by
  cases r <;> rfl
theorem isEmpty_kd {α : Type} {kvs : List (α × V)} {kds : List (D × D)} {g : α × V → D} (h : kds.map (·.1) = kvs.map g) : kvs.isEmpty = kds.isEmpty := by
  have := congrArg List.length h
  rw [List.length_map, List.length_map] at this
  cases kvs <;> cases kds <;> simp at this ⊢
theorem dt_tru (ha : DB K mg W ta fa) : DT K mg W (tTruX K ta) (fTru fa) := fun A σ H ρ Q e p => by
  unfold fTru at p
  rw [post_bind] at p
  refine ha A σ H ρ _ e (p.mono (fun d ed q x H1 s1 r1 => ?_) fun _ z => z)
  cases d with
  | none => rw [r1.none]; exact ⟨false, rfl, q _ s1⟩
  | bool b => rw [r1.bool]; exact ⟨b, rfl, q _ s1⟩
  | int i => rw [r1.int]; exact ⟨_, rfl, q _ s1⟩
  | str z =>
    rw [r1.str]
    have q' : (if z.length ≤ sizeLine then ok ((z.length : Int) != 0) else no).post (fun b => ∀ H', Same H H' → Q b H') (XW mg W σ H) := q
    split at q'
    · rename_i hz
      exact ⟨_, ⟨hz, rfl⟩, q' _ s1⟩
    · exact q'.elim
  | list ds =>
    obtain ⟨a, xs, rfl, h1, h2⟩ := r1.list
    exact ⟨_, .inl ⟨xs, (SqL.of h1), rfl⟩, by rw [isEmpty_all h2]; exact q _ s1⟩
  | tuple ds =>
    obtain ⟨a, xs, rfl, h1, h2, _⟩ := r1.tup
    exact ⟨_, .inr (.inl ⟨xs, h1, rfl⟩), by rw [isEmpty_all h2]; exact q _ s1⟩
  | dict kds => exact q.elim
/-! and, or, not -/
section
variable {t u : TT} {f g : FT}
theorem dt_andR (h1 : DT K mg W t f) (h2 : DT K mg W u g) : DT K mg W (L2.tAnd t u) (Dl.tAnd f g) := fun A σ H ρ Q e p => by
  unfold Dl.tAnd at p
  rw [post_bind] at p
  refine h1 A σ H ρ _ e (p.mono (fun c _ q H1 s1 => ?_) fun _ z => z)
  cases c with
  | true => exact h2 A σ H1 ρ _ (e.same s1) ((show (g ρ).post _ _ from q).mono (fun b _ k H' s' => k H' (s1.trans s')) fun _ z => z.same s1)
  | false => exact q H1 s1
theorem dt_orR (h1 : DT K mg W t f) (h2 : DT K mg W u g) : DT K mg W (L2.tOr t u) (Dl.tOr f g) := fun A σ H ρ Q e p => by
  unfold Dl.tOr at p
  rw [post_bind] at p
  refine h1 A σ H ρ _ e (p.mono (fun c _ q H1 s1 => ?_) fun _ z => z)
  cases c with
  | false => exact h2 A σ H1 ρ _ (e.same s1) ((show (g ρ).post _ _ from q).mono (fun b _ k H' s' => k H' (s1.trans s')) fun _ z => z.same s1)
  | true => exact q H1 s1
theorem dt_notR (h1 : DT K mg W t f) : DT K mg W (L2.tNot t) (Dl.tNot f) := fun A σ H ρ Q e p => by
  unfold Dl.tNot at p
  rw [post_bind] at p
  exact h1 A σ H ρ _ e (p.mono (fun c _ q H1 s1 => q H1 s1) fun _ z => z)
theorem dr_andV (h1 : DR K mg W ta fa) (h2 : DR K mg W tb fb) : DR K mg W (tAndV ta tb) (fAndV fa fb) := fun A σ H ρ Q e p => by
  unfold fAndV at p
  rw [post_bind] at p
  refine h1 A σ H ρ _ e (p.mono (fun d _ q v H1 s1 r => ?_) fun _ z => z)
  cases d with
  | bool c =>
    cases r
    refine ⟨c, rfl, ?_⟩
    cases c with
    | true => exact h2 A σ H1 ρ _ (e.same s1) ((show (fb ρ).post _ _ from q).mono (fun b _ k v H' s' r' => k v H' (s1.trans s') r') fun _ z => z.same s1)
    | false => exact q _ H1 s1 (.bl _)
  | _ => exact q.elim
theorem dr_orV (h1 : DR K mg W ta fa) (h2 : DR K mg W tb fb) : DR K mg W (tOrV ta tb) (fOrV fa fb) := fun A σ H ρ Q e p => by
  unfold fOrV at p
  rw [post_bind] at p
  refine h1 A σ H ρ _ e (p.mono (fun d _ q v H1 s1 r => ?_) fun _ z => z)
  cases d with
  | bool c =>
    cases r
    refine ⟨c, rfl, ?_⟩
    cases c with
    | false => exact h2 A σ H1 ρ _ (e.same s1) ((show (fb ρ).post _ _ from q).mono (fun b _ k v H' s' r' => k v H' (s1.trans s') r') fun _ z => z.same s1)
    | true => exact q _ H1 s1 (.bl _)
  | _ => exact q.elim
theorem dr_notV (h1 : DR K mg W ta fa) : DR K mg W (tNotV ta) (fNotV fa) := fun A σ H ρ Q e p => by
  unfold fNotV at p
  rw [post_bind] at p
  refine h1 A σ H ρ _ e (p.mono (fun d _ q v H1 s1 r => ?_) fun _ z => z)
  cases d with
  | bool c =>
    cases r
    exact ⟨c, rfl, q _ H1 s1 (.bl _)⟩
  | _ => exact q.elim
theorem dr_if (h : DT K mg W t f) (h1 : DR K mg W ta fa) (h2 : DR K mg W tb fb) : DR K mg W (tIf t ta tb) (fIf f fa fb) := fun A σ H ρ Q e p => by
  unfold fIf at p
  rw [post_bind] at p
  refine h A σ H ρ _ e (p.mono (fun c _ q H1 s1 => ?_) fun _ z => z)
  cases c with
  | true => exact h1 A σ H1 ρ _ (e.same s1) ((show (fa ρ).post _ _ from q).mono (fun b _ k v H' s' r' => k v H' (s1.trans s') r') fun _ z => z.same s1)
  | false => exact h2 A σ H1 ρ _ (e.same s1) ((show (fb ρ).post _ _ from q).mono (fun b _ k v H' s' r' => k v H' (s1.trans s') r') fun _ z => z.same s1)
end
section
variable {t u : TT} {f g : FT} {rest : List Expr}
theorem dw_and1 (h : DTE K mg X W a t f) : DWE K mg X W (.BoolOp .And [a] pos) t f := ⟨h.c, pw_and1 h.pe, h.dr⟩
theorem dw_or1 (h : DTE K mg X W a t f) : DWE K mg X W (.BoolOp .Or [a] pos) t f := ⟨h.c, pw_or1 h.pe, h.dr⟩
theorem dw_and (h1 : DTE K mg X W a t f) (h2 : DWE K mg X W (.BoolOp .And (b :: rest) pos) u g) : DWE K mg X W (.BoolOp .And (a :: b :: rest) pos) (L2.tAnd t u) (Dl.tAnd f g) := ⟨h1.c, pw_and h1.pe h2.pe, dt_andR h1.dr h2.dr⟩
theorem dw_or (h1 : DTE K mg X W a t f) (h2 : DWE K mg X W (.BoolOp .Or (b :: rest) pos) u g) : DWE K mg X W (.BoolOp .Or (a :: b :: rest) pos) (L2.tOr t u) (Dl.tOr f g) := ⟨h1.c, pw_or h1.pe h2.pe, dt_orR h1.dr h2.dr⟩
theorem dt_w (h : DWE K mg X W a t f) : DTE K mg X W a t f := ⟨h.c, h.pe.pt, h.dr⟩
theorem dt_not (h : DTE K mg X W a t f) : DTE K mg X W (.UnaryOp .Not a pos) (L2.tNot t) (Dl.tNot f) := ⟨h.c, pt_not h.pe, dt_notR h.dr⟩
theorem de_one {op} (h : DE K mg X W a ta fa) : DE K mg X W (.BoolOp op [a] pos) ta fa := ⟨h.c, pe_one h.pe, h.dr⟩
theorem de_and (h1 : DE K mg X W a ta fa) (h2 : DE K mg X W (.BoolOp .And (b :: rest) pos) tb fb) : DE K mg X W (.BoolOp .And (a :: b :: rest) pos) (tAndV ta tb) (fAndV fa fb) := ⟨h1.c, pe_and h1.pe h2.pe, dr_andV h1.dr h2.dr⟩
theorem de_or (h1 : DE K mg X W a ta fa) (h2 : DE K mg X W (.BoolOp .Or (b :: rest) pos) tb fb) : DE K mg X W (.BoolOp .Or (a :: b :: rest) pos) (tOrV ta tb) (fOrV fa fb) := ⟨h1.c, pe_or h1.pe h2.pe, dr_orV h1.dr h2.dr⟩
theorem de_not (h1 : DE K mg X W a ta fa) : DE K mg X W (.UnaryOp .Not a pos) (tNotV ta) (fNotV fa) := ⟨h1.c, pe_not h1.pe, dr_notV h1.dr⟩
theorem de_if (h : DTE K mg X W c t f) (h1 : DE K mg X W a ta fa) (h2 : DE K mg X W b tb fb) : DE K mg X W (.IfExp c a b pos) (tIf t ta tb) (fIf f fa fb) := ⟨h.c, pe_ifExp h.pe h1.pe h2.pe, dr_if h.dr h1.dr h2.dr⟩
end
theorem dt_truE (h : DBE K mg X W a ta fa) (he : ∀ whole, isTrue a X.env whole = (do let v ← whole; standAt a.pos; holding [v] (truthy v)) := by intro _; rfl) : DTE K mg X W a (tTruX K ta) (fTru fa) := ⟨h.c, by have := pt_truth h.pe he; rw [h.c.k] at this; exact this, dt_tru h.dr⟩
/-! items, slices -/
theorem ix_K (k : X.K = K) : IxR X (rIx K) := by subst k; exact ix_seq
theorem sl_K (k : X.K = K) : SlR X (rSlL K) := by subst k; exact sl_list
theorem de_ix (ha : DBE K mg X W a ta fa) (hb : DBE K mg X W b tb fb) (hs : PlainIx b := by exact fun _ _ => rfl) : DE K mg X W (.Subscript a b pos) (tOp (rIx K) ta tb) (f2 oIx fa fb) := ⟨ha.c, pe_ix (ix_K ha.c.k) ha.pe hb.pe hs, dr_op2 os_ix ha.dr hb.dr⟩
theorem do_none : DO K mg W tNoPart fNoPart := fun A σ H ρ Q e p => p H (Same.refl H)
theorem do_some (ha : DB K mg W ta fa) : DO K mg W (tPart ta) (fPart fa) := fun A σ H ρ Q e p => by
  unfold fPart at p
  rw [post_bind] at p
  refine ha A σ H ρ _ e (p.mono (fun d _ q x H1 s1 r1 => ?_) fun _ z => z)
  cases d with
  | int i => rw [r1.int]; exact ⟨i, rfl, q H1 s1⟩
  | _ => exact q.elim
theorem doe_none (c : CxK K mg X := by exact ⟨rfl, rfl⟩) : DOE K mg X W none tNoPart fNoPart := ⟨c, po_none, do_none⟩
theorem doe_some (ha : DBE K mg X W a ta fa) : DOE K mg X W (some a) (tPart ta) (fPart fa) := ⟨ha.c, po_some ha.pe, do_some ha.dr⟩
theorem cutV_cut (xs : List V) (lo hi : Option Int) : cutV xs lo hi = cut xs lo hi := rfl
theorem RepAll.cut {K : PySem.W.Frag} {A : Addr → Prop} {H : Hp} {vs : List V} {ds : List D} (r : RepAll K A H vs ds) (lo hi : Option Int) : RepAll K A H (cutV vs lo hi) (Dl.cut ds lo hi) := by
  unfold cutV Dl.cut
  rw [r.length]
  exact (r.drop _).take _
def rSlAll (K : PySem.W.Frag) : V → Option Int → Option Int → Hp → VK → Prop := fun x lo hi H Q => rSlL K x lo hi H Q ∨ rSlA K x lo hi H Q
theorem cut_all {α : Type} (ds : List α) (lo hi : Option Int) (h : HT.sIx ds.length 0 lo = 0 ∧ HT.sIx ds.length ds.length hi = ds.length) : cut ds lo hi = ds := by
  unfold cut
  rw [h.1, h.2]
  simp
theorem dr_sl {tl th : TO} {fl fh : FO} (ha : DB K mg W ta fa) (hl : DO K mg W tl fl) (hh : DO K mg W th fh) : DR K mg W (tSl (rSlAll K) ta tl th) (fSl fa fl fh) := fun A σ H ρ Q e p => by
  unfold fSl at p
  rw [post_bind] at p
  refine ha A σ H ρ _ e (p.mono (fun d _ q x H1 s1 r1 => ?_) fun _ z => z)
  rw [post_bind] at q
  refine hl A σ H1 ρ _ (e.same s1) (q.mono (fun lo _ q H2 s2 => ?_) fun _ z => z.same s1)
  rw [post_bind] at q
  refine hh A σ H2 ρ _ (e.same (s1.trans s2)) (q.mono (fun hi _ q H3 s3 => ?_) fun _ z => z.same (s1.trans s2))
  have r3 := r1.same (s2.trans s3)
  have s := (s1.trans s2).trans s3
  have dm := (e.same s).dom
  cases d with
  | list ds =>
    obtain ⟨a, xs, rfl, h1, h2⟩ := r3.list
    exact .inl ⟨a, xs, rfl, (SqL.of h1), fun p' hp => q _ _ (s.trans (same_new hp _)) (new_lstR dm (h2.cut lo hi) hp)⟩
  | tuple ds =>
    obtain ⟨a, xs, rfl, h1, h2, w⟩ := r3.tup
    refine .inr ⟨a, xs, rfl, h1, fun hw => ?_, fun _ p' hp => q _ _ (s.trans (same_new hp _)) (new_tup dm (h2.cut lo hi) hp)⟩
    rw [h2.length] at hw
    have q' := q (.ref a) H3 s
    rw [cut_all ds lo hi hw] at q'
    exact q' w
  | _ => exact q.elim
theorem dn_sl {tl th : TO} {fl fh : FO} (ha : DB K mg W ta fa) (hl : DO K mg W tl fl) (hh : DO K mg W th fh) : DN K mg W (tSl (rSlL K) ta tl th) (fSlL fa fl fh) := fun A σ H ρ Q e p => by
  unfold fSlL at p
  rw [post_bind] at p
  refine ha A σ H ρ _ e (p.mono (fun d _ q x H1 s1 r1 => ?_) fun _ z => z)
  rw [post_bind] at q
  refine hl A σ H1 ρ _ (e.same s1) (q.mono (fun lo _ q H2 s2 => ?_) fun _ z => z.same s1)
  rw [post_bind] at q
  refine hh A σ H2 ρ _ (e.same (s1.trans s2)) (q.mono (fun hi _ q H3 s3 => ?_) fun _ z => z.same (s1.trans s2))
  have r3 := r1.same (s2.trans s3)
  have s := (s1.trans s2).trans s3
  have dm := (e.same s).dom
  cases d with
  | list ds =>
    obtain ⟨a, xs, rfl, h1, h2⟩ := r3.list
    exact ⟨a, xs, rfl, (SqL.of h1), fun p' hp => q _ _ ((new_lst dm (h2.cut lo hi) hp).back s)⟩
  | _ => exact q.elim
theorem sl_all (k : X.K = K) : SlR X (rSlAll K) := by subst k; exact sl_list.or sl_tupA
theorem de_sl {lo hi : Option Expr} {p2 : Pos} {tl th : TO} {fl fh : FO} (ha : DBE K mg X W a ta fa) (hl : DOE K mg X W lo tl fl) (hh : DOE K mg X W hi th fh) : DE K mg X W (.Subscript a (.Slice lo hi none p2) pos) (tSl (rSlAll K) ta tl th) (fSl fa fl fh) := ⟨ha.c, pe_slice (sl_all ha.c.k) ha.pe hl.pe hh.pe, dr_sl ha.dr hl.dr hh.dr⟩
theorem dn_slE {lo hi : Option Expr} {p2 : Pos} {tl th : TO} {fl fh : FO} (ha : DBE K mg X W a ta fa) (hl : DOE K mg X W lo tl fl) (hh : DOE K mg X W hi th fh) : DNE K mg X W (.Subscript a (.Slice lo hi none p2) pos) (tSl (rSlL K) ta tl th) (fSlL fa fl fh) := ⟨ha.c, pe_slice (sl_K ha.c.k) ha.pe hl.pe hh.pe, dn_sl ha.dr hl.dr hh.dr⟩
/-! arguments, displays -/
section
variable {t : TA} {f : FA}
theorem da_nil : DA K mg W tNil aNil := fun A σ H ρ Q e p => p [] H (Same.refl H) .nil
theorem da_cons (ha : DR K mg W ta fa) (hr : DA K mg W t f) : DA K mg W (tCons ta t) (aCons fa f) := fun A σ H ρ Q e p => by
  unfold aCons at p
  rw [post_bind] at p
  refine ha A σ H ρ _ e (p.mono (fun d _ q x H1 s1 r1 => ?_) fun _ z => z)
  rw [post_bind] at q
  refine hr A σ H1 ρ _ (e.same s1) (q.mono (fun ds _ q vs H2 s2 r2 => ?_) fun _ z => z.same s1)
  exact q _ H2 (s1.trans s2) (.cons (r1.tr (Tr.same s2)) r2)
theorem dab_nil : DAB K mg W tNil aNil := fun A σ H ρ Q e p => p [] H (Same.refl H) .nil
theorem Paired.imp2 {α β : Type} {F G : α → β → Prop} (h : ∀ a b, F a b → G a b) : ∀ {l : List α} {m : List β}, Paired F l m → Paired G l m
  | _, _, .nil => .nil
  | _, _, .cons r t => .cons (h _ _ r) (Paired.imp2 h t)
theorem dab_cons (ha : DB K mg W ta fa) (hr : DAB K mg W t f) : DAB K mg W (tCons ta t) (aCons fa f) := fun A σ H ρ Q e p => by
  unfold aCons at p
  rw [post_bind] at p
  refine ha A σ H ρ _ e (p.mono (fun d _ q x H1 s1 r1 => ?_) fun _ z => z)
  rw [post_bind] at q
  refine hr A σ H1 ρ _ (e.same s1) (q.mono (fun ds _ q vs H2 s2 r2 => ?_) fun _ z => z.same s1)
  exact q _ H2 (s1.trans s2) (.cons (r1.same s2) r2)
theorem dr_tup (h : DA K mg W t f) : DR K mg W (tTup t) (fTup f) := fun A σ H ρ Q e p => by
  unfold fTup at p
  rw [post_bind] at p
  refine h A σ H ρ _ e (p.mono (fun ds _ q vs H1 s1 r1 => ?_) fun _ z => z)
  split at q
  · rename_i hz
    exact ⟨by rw [r1.length]; exact hz, fun p' hp => q _ _ (s1.trans (same_new hp _)) (new_tup (e.same s1).dom r1 hp)⟩
  · exact q.elim
theorem dn_lst (h : DA K mg W t f) : DN K mg W (tLst t) (fLst f) := fun A σ H ρ Q e p => by
  unfold fLst at p
  rw [post_bind] at p
  refine h A σ H ρ _ e (p.mono (fun ds _ q vs H1 s1 r1 => ?_) fun _ z => z)
  split at q
  · rename_i hz
    exact ⟨by rw [r1.length]; exact hz, fun p' hp => q _ _ ((new_lst (e.same s1).dom r1 hp).back s1)⟩
  · exact q.elim
end
theorem dae_nil (c : CxK K mg X := by exact ⟨rfl, rfl⟩) : DAE K mg X W [] tNil aNil := ⟨c, pa_nil, da_nil⟩
theorem dae_cons {t : TA} {f : FA} (ha : DE K mg X W a ta fa) (hr : DAE K mg X W es t f) (hs : starEach (a :: es) X.env = (false, eval a X.env) :: starEach es X.env := by rfl) : DAE K mg X W (a :: es) (tCons ta t) (aCons fa f) := ⟨ha.c, pa_cons ha.pe hr.pe hs, da_cons ha.dr hr.dr⟩
theorem dabe_nil (c : CxK K mg X := by exact ⟨rfl, rfl⟩) : DABE K mg X W [] tNil aNil := ⟨c, pa_nil, dab_nil⟩
theorem dabe_cons {t : TA} {f : FA} (ha : DBE K mg X W a ta fa) (hr : DABE K mg X W es t f) (hs : starEach (a :: es) X.env = (false, eval a X.env) :: starEach es X.env := by rfl) : DABE K mg X W (a :: es) (tCons ta t) (aCons fa f) := ⟨ha.c, pa_cons ha.pe hr.pe hs, dab_cons ha.dr hr.dr⟩
theorem de_tup {x1} {t : TA} {f : FA} (h : DAE K mg X W es t f) : DE K mg X W (.Tuple es x1 pos) (tTup t) (fTup f) := ⟨h.c, pe_tup h.pe, dr_tup h.dr⟩
theorem dn_lstE {t : TA} {f : FA} (h : DAE K mg X W es t f) : DNE K mg X W (.List es pos) (tLst t) (fLst f) := ⟨h.c, pe_lst h.pe, dn_lst h.dr⟩
end
end Dl

set_option maxRecDepth 100000
set_option maxHeartbeats 4000000
/-! The data layer, part e: built-ins, calls of defs, what is walked, targets, comprehensions. -/
namespace Dl
open PySem L2
open Out
theorem bt_len : bootBuiltins "len" = some (.builtin "len") := by decide +kernel
theorem bt_all : bootBuiltins "all" = some (.builtin "all") := by decide +kernel
theorem bt_any : bootBuiltins "any" = some (.builtin "any") := by decide +kernel
theorem bt_sum : bootBuiltins "sum" = some (.builtin "sum") := by decide +kernel
theorem bt_abs : bootBuiltins "abs" = some (.builtin "abs") := by decide +kernel
theorem bt_max : bootBuiltins "max" = some (.builtin "max") := by decide +kernel
theorem bt_min : bootBuiltins "min" = some (.builtin "min") := by decide +kernel
theorem bt_isi : bootBuiltins "isinstance" = some (.builtin "isinstance") := by decide +kernel
theorem bt_int : bootBuiltins "int" = some (.type "int") := by decide +kernel
theorem bt_list : bootBuiltins "list" = some (.type "list") := by decide +kernel
theorem bt_bool : bootBuiltins "bool" = some (.type "bool") := by decide +kernel
theorem bt_str : bootBuiltins "str" = some (.type "str") := by decide +kernel
theorem bt_tuple : bootBuiltins "tuple" = some (.type "tuple") := by decide +kernel
theorem bt_dict : bootBuiltins "dict" = some (.type "dict") := by decide +kernel
section
variable {K : PySem.W.Frag} {mg : Str → Option Value} {X : Cx} {W : WX} {x : Str} {p pos : Pos} {a b : Expr} {ta tb : TE} {fa fb : FE} {id T : String}
theorem de_b1 {r : List V → Hp → VK → Prop} {o : D → Out D} (hc : CallR X (.builtin id) r) (hs : CaS K r o) (hg : Gl X x) (hm : mg x = none) (hv : bootBuiltins x = some (.builtin id)) (ha : DBE K mg X W a ta fa) (hn : x ≠ "__name__" := by decide) (hdb : (x == ("__debug__" : Str)) = false := by decide)
    (he : starEach [a] X.env = (false, eval a X.env) :: starEach [] X.env := by rfl) : DE K mg X W (.Call (.Name x p) [a] [] pos) (tCB r (tCons ta tNil)) (f1 o fa) :=
  ⟨ha.c, pe_callB hc hg (ha.c.m ▸ hm) hv (pa_cons ha.pe pa_nil he) hn hdb he rfl, dr_ca hs ha.dr⟩
theorem de_b2 {r : List V → Hp → VK → Prop} {o : D → D → Out D} (hc : CallR X (.builtin id) r) (hs : CaS2 K r o) (hg : Gl X x) (hm : mg x = none) (hv : bootBuiltins x = some (.builtin id)) (ha : DBE K mg X W a ta fa) (hb : DBE K mg X W b tb fb) (hn : x ≠ "__name__" := by decide) (hdb : (x == ("__debug__" : Str)) = false := by decide)
    (he : starEach [a, b] X.env = (false, eval a X.env) :: starEach [b] X.env := by rfl) (he2 : starEach [b] X.env = (false, eval b X.env) :: starEach [] X.env := by rfl) (hpl : (backTo pos (starEach [b] X.env)).any (·.1) = false := by rfl) :
    DE K mg X W (.Call (.Name x p) [a, b] [] pos) (tCB r (tCons ta (tCons tb tNil))) (f2 o fa fb) :=
  ⟨ha.c, pe_callB hc hg (ha.c.m ▸ hm) hv (pa_cons ha.pe (pa_cons hb.pe pa_nil he2) he) hn hdb he hpl, dr_ca2 hs ha.dr hb.dr⟩
theorem de_t1 {r : List V → Hp → VK → Prop} {o : D → Out D} (hc : CallR X (.type T) r) (hs : CaS K r o) (hg : Gl X x) (hm : mg x = none) (hv : bootBuiltins x = some (.type T)) (ha : DBE K mg X W a ta fa) (hn : x ≠ "__name__" := by decide) (hdb : (x == ("__debug__" : Str)) = false := by decide)
    (he : starEach [a] X.env = (false, eval a X.env) :: starEach [] X.env := by rfl) : DE K mg X W (.Call (.Name x p) [a] [] pos) (tCB r (tCons ta tNil)) (f1 o fa) :=
  ⟨ha.c, pe_callTy hc hg (ha.c.m ▸ hm) hv (pa_cons ha.pe pa_nil he) hn hdb he rfl, dr_ca hs ha.dr⟩
theorem dn_t1 {r : List V → Hp → VK → Prop} {o : D → Out D} (hc : CallR X (.type T) r) (hs : CaSN K r o) (hg : Gl X x) (hm : mg x = none) (hv : bootBuiltins x = some (.type T)) (ha : DBE K mg X W a ta fa) (hn : x ≠ "__name__" := by decide) (hdb : (x == ("__debug__" : Str)) = false := by decide)
    (he : starEach [a] X.env = (false, eval a X.env) :: starEach [] X.env := by rfl) : DNE K mg X W (.Call (.Name x p) [a] [] pos) (tCB r (tCons ta tNil)) (f1 o fa) :=
  ⟨ha.c, pe_callTy hc hg (ha.c.m ▸ hm) hv (pa_cons ha.pe pa_nil he) hn hdb he rfl, dn_ca hs ha.dr⟩
end
section
variable {X : Cx} {K : PySem.W.Frag}
def rLenSeq (K : PySem.W.Frag) : List V → Hp → VK → Prop := fun xs H Q => ∃ p ys, xs = [.ref p] ∧ (SqL K H p ys ∨ SqT K H p ys) ∧ Q (.int ys.length) H
def rLenStr : List V → Hp → VK → Prop := fun xs H Q => ∃ z, xs = [.str z] ∧ z.length ≤ sizeLine ∧ Q (.int z.length) H
def rLenDK : List V → Hp → VK → Prop := fun xs H Q => ∃ a kvs, xs = [V.ref a] ∧ H a = some (.dK kvs) ∧ Q (.int kvs.length) H
def rLenAll (K : PySem.W.Frag) : List V → Hp → VK → Prop := fun xs H Q => rLenSeq K xs H Q ∨ rLenStr xs H Q ∨ rLenDK xs H Q ∨ rLenT xs H Q
theorem ca_len (k : X.K = K) : CallR X (.builtin "len") (rLenAll K) := by subst k; exact call_len_seq.or (CallR.or call_len_str (CallR.or call_lenD call_len_dT))
theorem len_kd {α : Type} {kvs : List (α × V)} {kds : List (D × D)} {g : α × V → D} (h : kds.map (·.1) = kvs.map g) : kvs.length = kds.length := by
  have := congrArg List.length h
  rw [List.length_map, List.length_map] at this
  exact this.symm
theorem cs_len : CaS K (rLenAll K) oLen := fun A H x d Q Wc dm r p => by
  cases d with
  | list ds =>
    obtain ⟨a, xs, rfl, h1, h2⟩ := r.list
    exact .inl ⟨a, xs, rfl, .inl (SqL.of h1), by rw [h2.length]; exact rv_refl p (.int _)⟩
  | tuple ds =>
    obtain ⟨a, xs, rfl, h1, h2, _⟩ := r.tup
    exact .inl ⟨a, xs, rfl, .inr h1, by rw [h2.length]; exact rv_refl p (.int _)⟩
  | str z =>
    rw [r.str]
    have p' : (if z.length ≤ sizeLine then ok (PyData.int z.length) else no).post (fun z => ∀ v H', Same H H' → Rep K A H' v z → Q v H') Wc := p
    split at p'
    · rename_i hz
      exact .inr (.inl ⟨z, rfl, hz, rv_refl p' (.int _)⟩)
    · exact p'.elim
  | dict kds =>
    have p' : (match roOf kds with
      | some ds => ok (PyData.int ds.length)
      | none => ok (PyData.int kds.length)).post (fun z => ∀ v H', Same H H' → Rep K A H' v z → Q v H') Wc := p
    rcases r.dict with ⟨a, xs, ds, rfl, e0, h1, h2, _⟩ | ⟨a, kvs, rfl, e, k, _, e0⟩ | ⟨a, kvs, rfl, e, k, _, e0⟩
    · subst e0
      exact .inl ⟨a, xs, rfl, .inl h1, by rw [h2.length]; exact rv_refl p' (.int _)⟩
    · rw [e0] at p'
      exact .inr (.inr (.inl ⟨_, _, rfl, e, by rw [len_kd k]; exact rv_refl p' (.int _)⟩))
    · rw [e0] at p'
      exact .inr (.inr (.inr ⟨_, _, rfl, e, by rw [len_kd k]; exact rv_refl p' (.int _)⟩))
  | _ => exact p.elim
theorem dBools_ok {A : Addr → Prop} {H : Hp} : ∀ {vs : List V} {ds : List D} {bs : List Bool}, RepAll K A H vs ds → dBools ds = ok bs → vs = bs.map V.bl
  | _, _, _, .nil, e => by cases e; rfl
  | _, _, bs, .cons (d := d) (ds := ds) h t, e => by
    cases d with
    | bool b =>
      cases h
      have e' : (dBools ds).bind (fun bs => ok (b :: bs)) = ok bs := e
      cases q : dBools ds with
      | ok cs =>
        rw [q] at e'
        cases e'
        rw [dBools_ok t q]
        rfl
      | ex c => rw [q] at e'; cases e'
      | no => rw [q] at e'; cases e'
    | _ => cases e
theorem dInts_ok {A : Addr → Prop} {H : Hp} : ∀ {vs : List V} {ds : List D} {bs : List Int}, RepAll K A H vs ds → dInts ds = ok bs → vs = bs.map V.int
  | _, _, _, .nil, e => by cases e; rfl
  | _, _, bs, .cons (d := d) (ds := ds) h t, e => by
    cases d with
    | int b =>
      cases h
      have e' : (dInts ds).bind (fun bs => ok (b :: bs)) = ok bs := e
      cases q : dInts ds with
      | ok cs =>
        rw [q] at e'
        cases e'
        rw [dInts_ok t q]
        rfl
      | ex c => rw [q] at e'; cases e'
      | no => rw [q] at e'; cases e'
    | _ => cases e
theorem dBools_ex : ∀ (ds : List D) (c : String), dBools ds ≠ ex c
  | [], _ => fun e => by cases e
  | d :: ds, c => fun e => by
    cases d with
    | bool b =>
      have e' : (dBools ds).bind (fun bs => ok (b :: bs)) = ex c := e
      cases q : dBools ds with
      | ok cs => rw [q] at e'; cases e'
      | ex c' => exact dBools_ex ds c' q
      | no => rw [q] at e'; cases e'
    | _ => cases e
theorem dInts_ex : ∀ (ds : List D) (c : String), dInts ds ≠ ex c
  | [], _ => fun e => by cases e
  | d :: ds, c => fun e => by
    cases d with
    | int b =>
      have e' : (dInts ds).bind (fun bs => ok (b :: bs)) = ex c := e
      cases q : dInts ds with
      | ok cs => rw [q] at e'; cases e'
      | ex c' => exact dInts_ex ds c' q
      | no => rw [q] at e'; cases e'
    | _ => cases e
theorem cs_all : CaS K (rAll K) oAll := fun A H x d Q Wc dm r p => by
  cases d with
  | list ds =>
    obtain ⟨a, xs, rfl, h1, h2⟩ := r.list
    have p' : ((dBools ds).bind fun bs => ok (PyData.bool (bs.all id))).post (fun z => ∀ v H', Same H H' → Rep K A H' v z → Q v H') Wc := p
    cases q : dBools ds with
    | ok bs =>
      rw [q] at p'
      have e := dBools_ok h2 q
      subst e
      exact ⟨a, bs, rfl, (SqL.of h1), rv_refl p' (.bl _)⟩
    | ex c => exact absurd q (dBools_ex ds c)
    | no => rw [q] at p'; exact p'.elim
  | _ => exact p.elim
theorem cs_any : CaS K (rAny K) oAny := fun A H x d Q Wc dm r p => by
  cases d with
  | list ds =>
    obtain ⟨a, xs, rfl, h1, h2⟩ := r.list
    have p' : ((dBools ds).bind fun bs => ok (PyData.bool (bs.any id))).post (fun z => ∀ v H', Same H H' → Rep K A H' v z → Q v H') Wc := p
    cases q : dBools ds with
    | ok bs =>
      rw [q] at p'
      have e := dBools_ok h2 q
      subst e
      exact ⟨a, bs, rfl, (SqL.of h1), rv_refl p' (.bl _)⟩
    | ex c => exact absurd q (dBools_ex ds c)
    | no => rw [q] at p'; exact p'.elim
  | _ => exact p.elim
theorem ca_all (hc : X.calm = true) (k : X.K = K) : CallR X (.builtin "all") (rAll K) := by subst k; exact cr_all hc
theorem ca_any (hc : X.calm = true) (k : X.K = K) : CallR X (.builtin "any") (rAny K) := by subst k; exact cr_any hc
def rInt1 : List V → Hp → VK → Prop := fun xs H Q => (∃ i, xs = [.int i] ∧ Q (.int i) H) ∨ ∃ k, xs = [.bl k] ∧ Q (.int (if k then 1 else 0)) H
theorem ca_int : CallR X (.type "int") rInt1 := call_int1
theorem cs_int : CaS K rInt1 oInt := fun A H x d Q Wc dm r p => by
  cases d with
  | int i => rw [r.int]; exact .inl ⟨i, rfl, rv_refl p (.int _)⟩
  | bool k => rw [r.bool]; exact .inr ⟨k, rfl, rv_refl p (.int _)⟩
  | _ => exact p.elim
def rAbs1 : List V → Hp → VK → Prop := fun xs H Q => ∃ i, xs = [.int i] ∧ Q (.int (if i < 0 then -i else i)) H
theorem ca_abs : CallR X (.builtin "abs") rAbs1 := call_abs
theorem cs_abs : CaS K rAbs1 oAbs := fun A H x d Q Wc dm r p => by
  cases d with
  | int i => rw [r.int]; exact ⟨i, rfl, rv_refl p (.int _)⟩
  | _ => exact p.elim
def rMax2 : List V → Hp → VK → Prop := fun xs H Q => ∃ i j, xs = [.int i, .int j] ∧ Q (.int (if j > i then j else i)) H
def rMin2 : List V → Hp → VK → Prop := fun xs H Q => ∃ i j, xs = [.int i, .int j] ∧ Q (.int (if j < i then j else i)) H
theorem ca_max2 (hc : X.calm = true) : CallR X (.builtin "max") rMax2 := call_max2 hc
theorem ca_min2 (hc : X.calm = true) : CallR X (.builtin "min") rMin2 := call_min2 hc
theorem cs_max2 : CaS2 K rMax2 oMax2 := fun A H x y d e Q Wc dm r1 r2 p => by
  unfold oMax2 at p
  split at p
  · rw [r1.int, r2.int]; exact ⟨_, _, rfl, rv_refl p (.int _)⟩
  · exact p.elim
theorem cs_min2 : CaS2 K rMin2 oMin2 := fun A H x y d e Q Wc dm r1 r2 p => by
  unfold oMin2 at p
  split at p
  · rw [r1.int, r2.int]; exact ⟨_, _, rfl, rv_refl p (.int _)⟩
  · exact p.elim
def rList1 (K : PySem.W.Frag) : List V → Hp → VK → Prop := fun xs H Q => ∃ p ys, xs = [.ref p] ∧ (SqL K H p ys ∨ SqT K H p ys) ∧ ∀ l, H l = none → Q (.ref l) (upd H l (.lst ys))
theorem ca_list (k : X.K = K) : CallR X (.type "list") (rList1 K) := by subst k; exact call_list_of
theorem cs_list : CaSN K (rList1 K) oList := fun A H x d Q Wc dm r p => by
  cases d with
  | list ds =>
    obtain ⟨a, xs, rfl, h1, h2⟩ := r.list
    exact ⟨a, xs, rfl, .inl (SqL.of h1), fun l hl => p _ _ (new_lst dm h2 hl)⟩
  | tuple ds =>
    obtain ⟨a, xs, rfl, h1, h2, _⟩ := r.tup
    exact ⟨a, xs, rfl, .inr h1, fun l hl => p _ _ (new_lst dm h2 hl)⟩
  | _ => exact p.elim
def rSum1 (K : PySem.W.Frag) : List V → Hp → VK → Prop := fun vs H Q => ∃ (a : Addr) (ns : List Int), vs = [V.ref a] ∧ SqL K H a (ns.map V.int) ∧ Q (.int ns.sum) H
theorem ca_sum (hc : X.calm = true) (k : X.K = K) : CallR X (.builtin "sum") (rSum1 K) := by subst k; exact cr_sum hc
theorem cs_sum : CaS K (rSum1 K) oSum := fun A H x d Q Wc dm r p => by
  cases d with
  | list ds =>
    obtain ⟨a, xs, rfl, h1, h2⟩ := r.list
    have p' : ((dInts ds).bind fun bs => ok (PyData.int bs.sum)).post (fun z => ∀ v H', Same H H' → Rep K A H' v z → Q v H') Wc := p
    cases q : dInts ds with
    | ok bs =>
      rw [q] at p'
      have e := dInts_ok h2 q
      subst e
      exact ⟨a, bs, rfl, (SqL.of h1), rv_refl p' (.int _)⟩
    | ex c => exact absurd q (dInts_ex ds c)
    | no => rw [q] at p'; exact p'.elim
  | _ => exact p.elim
/-! isinstance -/
theorem tyX_of {A : Addr → Prop} {H : Hp} {x : V} {d : D} (r : RepB K A H x d) : TyX K H x (.type (tyOfD d)) := by
  cases d with
  | dict kds =>
    have e : tyOfD (.dict kds) = if (roOf kds).isSome then "list" else "dict" := rfl
    rcases r with r | ⟨p, rfl, r⟩
    · generalize hd : (PyData.dict kds : D) = d at r
      cases r with
      | roF n h r => cases hd; exact .base (.frz h)
      | roK k r =>
        cases hd
        obtain ⟨o, its, n, k, e1, e2, e3, z, q⟩ := k
        exact .kList k e1
      | dct n h k r => cases hd; rw [e, roOf_key k keyD_ne]; exact .base (.dK h)
      | dctT n h k r => cases hd; rw [e, roOf_key k keyTD_ne]; exact .base (.dT h)
      | _ => cases hd
    · cases r with
      | dct h k r => rw [e, roOf_key k keyD_ne]; exact .base (.dK h)
      | dctT h k r => rw [e, roOf_key k keyTD_ne]; exact .base (.dT h)
  | none => rw [r.none]; exact .base .non
  | bool b => rw [r.bool]; exact .base (.bl b)
  | int b => rw [r.int]; exact .base (.int b)
  | str b => rw [r.str]; exact .base (.str b)
  | list ds =>
    obtain ⟨a, xs, rfl, h1, _⟩ := r.list
    exact .base (.lst h1)
  | tuple ds =>
    rcases r with r | ⟨q, rfl, r⟩
    · cases r with
      | tup n e r =>
        rcases e with e | ⟨o, e⟩
        · exact .base (.tup e)
        · exact .fTuple e
      | tupK k r => obtain ⟨o, its, n, k, e1, e2, z, q⟩ := k; exact .kTuple k e1
    · cases r
def tyTable : List (String × String × Bool) := (["NoneType", "bool", "int", "str", "list", "tuple", "dict"].flatMap fun a => ["bool", "int", "str", "list", "tuple", "dict"].map fun b => (a, b, a == b || (a == "bool" && b == "int")))
theorem ty_table : (tyTable.all fun r => kitB r.1 r.2.1 == some r.2.2) = true := by decide +kernel
theorem isi_ok (T : String) (hT : T ∈ ["bool", "int", "str", "list", "tuple", "dict"]) (d : D) : PySem.W.kitOne K (.type (tyOfD d)) (.type T) = some (isiD T d) := by
  refine kit_ty ?_
  have hd : tyOfD d ∈ ["NoneType", "bool", "int", "str", "list", "tuple", "dict"] := by
    cases d <;> simp only [tyOfD]
    case dict kvs => split <;> decide
    all_goals decide
  have h := List.all_eq_true.mp ty_table (tyOfD d, T, isiD T d) (List.mem_flatMap.mpr ⟨_, hd, List.mem_map.mpr ⟨T, hT, rfl⟩⟩)
  exact eq_of_beq h
theorem cs_isi (T : String) (hT : T ∈ ["bool", "int", "str", "list", "tuple", "dict"]) : ∀ (A : Addr → Prop) (H : Hp) (x : V) (d : D) (Q : VK) (Wc : String → Prop), Dom A H → RepB K A H x d →
    (oIsi T d).post (fun z => ∀ v H', Same H H' → Rep K A H' v z → Q v H') Wc → rIsi K [x, .ty T] H Q := fun A H x d Q Wc dm r p =>
  ⟨x, .ty T, _, _, _, rfl, .ty T, tyX_of r, isi_ok T hT d, rv_refl p (.bl _)⟩
theorem ca_isi (k : X.K = K) : CallR X (.builtin "isinstance") (rIsi K) := by subst k; exact call_isi
theorem de_isi (T : String) {mg : Str → Option Value} {W : WX} {x n : Str} {p p2 pos : Pos} {a : Expr} {ta : TE} {fa : FE} (hT : T ∈ ["bool", "int", "str", "list", "tuple", "dict"]) (hg : Gl X x) (hm : mg x = none) (hv : bootBuiltins x = some (.builtin "isinstance"))
    (hgn : Gl X n) (hmn : mg n = none) (hvn : bootBuiltins n = some (.type T)) (ha : DBE K mg X W a ta fa) (hn : x ≠ "__name__" := by decide) (hdb : (x == ("__debug__" : Str)) = false := by decide) (hn2 : n ≠ "__name__" := by decide) (hdb2 : (n == ("__debug__" : Str)) = false := by decide)
    (he : starEach [a, .Name n p2] X.env = (false, eval a X.env) :: starEach [.Name n p2] X.env := by rfl) : DE K mg X W (.Call (.Name x p) [a, .Name n p2] [] pos) (tCB (rIsi K) (tCons ta (tCons (tC (.ty T)) tNil))) (f1 (oIsi T) fa) :=
  ⟨ha.c, pe_callB (ca_isi ha.c.k) hg (ha.c.m ▸ hm) hv (pa_cons ha.pe (pa_cons (pe_bltn hgn (ha.c.m ▸ hmn) hvn rfl hn2 hdb2) pa_nil rfl) he) hn hdb he rfl, fun A σ H ρ Q e p => by
    unfold f1 at p
    rw [post_bind] at p
    refine ha.dr A σ H ρ _ e (p.mono (fun d _ q x H1 s1 r1 => ?_) fun _ z => z)
    exact cs_isi T hT A H1 x d Q _ (e.same s1).dom r1 (q.mono (fun z _ k v H' s' rr => k v H' (s1.trans s') rr) fun _ z => z)⟩
end

/-! ### calls of the text's own defs -/
def XC (mg : Str → Option Value) (E : XK) (H : Hp) (c : String) : Prop := ∀ cls d H', mg (Str.ofString c) = some cls → Same H H' → E cls d H'
def RetRep (K : PySem.W.Frag) (A : Addr → Prop) (H H' : Hp) (v : V) (r : Bool × D) : Prop := Same H H' ∧ (r.1 = false → Rep K A H' v r.2) ∧ (r.1 = true → ∃ p, v = .ref p ∧ NewAt K A H H' p r.2)
def spD (K : PySem.W.Frag) (mg : Str → Option Value) (g : Fn) : Sp := fun vs H Q E => ∃ A ds, Dom A H ∧ RepAll K A H vs ds ∧ (g ds).post (fun r => ∀ v H', RetRep K A H H' v r → Q v H') (XC mg E H)
theorem RetRep.rep {K : PySem.W.Frag} {A : Addr → Prop} {H H' : Hp} {v : V} {r : Bool × D} (dm : Dom A H) (h : RetRep K A H H' v r) : Rep K A H' v r.2 := by
  obtain ⟨s, h0, h1⟩ := h
  obtain ⟨b, d⟩ := r
  cases b with
  | false => exact h0 rfl
  | true =>
    obtain ⟨p, rfl, n⟩ := h1 rfl
    exact n.rep dm
section
variable {K : PySem.W.Frag} {mg : Str → Option Value} {W : WX} {g : Fn} {t : TA} {f : FA}
theorem dr_call (h : DA K mg W t f) : DR K mg W (tCallS (spD K mg g) (WE W) t) (fCall g f) := fun A σ H ρ Q e p => by
  unfold fCall at p
  rw [post_bind] at p
  refine h A σ H ρ _ e (p.mono (fun ds _ q vs H1 s1 r1 => ?_) fun _ z => z)
  rw [post_bind] at q
  have dm := (e.same s1).dom
  exact ⟨A, ds, dm, r1, q.mono (fun r _ k v H' rr => k v H' (s1.trans rr.1) (rr.rep dm)) fun c z cls d H' e s => z cls d H' e (s1.trans s)⟩
theorem dn_call (h : DA K mg W t f) : DN K mg W (tCallS (spD K mg g) (WE W) t) (fCallN g f) := fun A σ H ρ Q e p => by
  unfold fCallN at p
  rw [post_bind] at p
  refine h A σ H ρ _ e (p.mono (fun ds _ q vs H1 s1 r1 => ?_) fun _ z => z)
  rw [post_bind] at q
  have dm := (e.same s1).dom
  refine ⟨A, ds, dm, r1, q.mono (fun r _ k v H' rr => ?_) fun c z cls d H' e s => z cls d H' e (s1.trans s)⟩
  unfold newD at k
  split at k
  · rename_i hr
    obtain ⟨p', rfl, n⟩ := rr.2.2 hr
    exact k p' H' (n.back s1)
  · exact k.elim
theorem RepAllB.none {A : Addr → Prop} {H : Hp} : ∀ {vs : List V} {ds : List D}, RepAllB K A H vs ds → RepAll K (fun _ => False) H vs ds
  | _, _, .nil => .nil
  | _, _, .cons h r => .cons (by
    rcases h with h | ⟨p, rfl, h⟩
    · exact h.tr (Tr.less fun _ z => z.elim)
    · exact (h.tr (Tr.less fun _ z => z.elim) rfl).rep fun z => z) (RepAllB.none r)
theorem dr_callB (h : DAB K mg W t f) : DR K mg W (tCallS (spD K mg g) (WE W) t) (fCallB g f) := fun A σ H ρ Q e p => by
  unfold fCallB at p
  rw [post_bind] at p
  refine h A σ H ρ _ e (p.mono (fun ds _ q vs H1 s1 r1 => ?_) fun _ z => z)
  rw [post_bind] at q
  refine ⟨fun _ => False, ds, fun _ z => z.elim, r1.none, q.mono (fun r _ k v H' rr => ?_) fun c z cls d H' e s => z cls d H' e (s1.trans s)⟩
  unfold flatO at k
  split at k
  · rename_i hr
    exact k v H' (s1.trans rr.1) (flat_rep (rr.rep fun _ z => z.elim) hr)
  · exact k.elim
end
section
variable {K : PySem.W.Frag} {mg : Str → Option Value} {P : Program} {w : World} {X : Cx} {W : WX} {k : Nat} {f : Addr} {fd : FuncData} {ps : List Str} {g : Fn} {x : Str} {p pos : Pos} {e : Expr} {es : List Expr} {t : TA} {fa : FA}
theorem pe_callK0 (c : CxK K mg X) (F : FnOk X.prog X.w K mg X.base (L2.CX X.prog X.w) k f fd ps (spD K mg g)) (hr : Room k X.A) (hg : Gl X x) (hm : mg x = some (.ref f)) (hk : PySem.W.keepIn K (.ref f) = true) (hb : Binds K fd ps []) (tk : Takes X W)
    (ha : PA X (e :: es) t) (hdb : (x == ("__debug__" : Str)) = false := by decide) (he : starEach (e :: es) X.env = (false, eval e X.env) :: starEach es X.env := by rfl) (hpl : (backTo pos (starEach es X.env)).any (·.1) = false := by rfl) :
    PE X (.Call (.Name x p) (e :: es) [] pos) (tCallS (spD K mg g) (WE W) t) := by
  obtain ⟨ck, cm⟩ := c
  subst ck cm
  exact pe_callS F hr hg hm hk hb (fun σ => passAt tk σ) ha hdb he hpl
theorem de_call (F : FnOk X.prog X.w K mg X.base (L2.CX X.prog X.w) k f fd ps (spD K mg g)) (hr : Room k X.A) (hm : mg x = some (.ref f)) (hk : PySem.W.keepIn K (.ref f) = true) (hb : Binds K fd ps []) (tk : Takes X W) (hg : Gl X x)
    (ha : DAE K mg X W (e :: es) t fa) (hdb : (x == ("__debug__" : Str)) = false := by decide) (he : starEach (e :: es) X.env = (false, eval e X.env) :: starEach es X.env := by rfl) (hpl : (backTo pos (starEach es X.env)).any (·.1) = false := by rfl) :
    DE K mg X W (.Call (.Name x p) (e :: es) [] pos) (tCallS (spD K mg g) (WE W) t) (fCall g fa) := ⟨ha.c, pe_callK0 ha.c F hr hg hm hk hb tk ha.pe hdb he hpl, dr_call ha.dr⟩
theorem dn_callE (F : FnOk X.prog X.w K mg X.base (L2.CX X.prog X.w) k f fd ps (spD K mg g)) (hr : Room k X.A) (hm : mg x = some (.ref f)) (hk : PySem.W.keepIn K (.ref f) = true) (hb : Binds K fd ps []) (tk : Takes X W) (hg : Gl X x)
    (ha : DAE K mg X W (e :: es) t fa) (hdb : (x == ("__debug__" : Str)) = false := by decide) (he : starEach (e :: es) X.env = (false, eval e X.env) :: starEach es X.env := by rfl) (hpl : (backTo pos (starEach es X.env)).any (·.1) = false := by rfl) :
    DNE K mg X W (.Call (.Name x p) (e :: es) [] pos) (tCallS (spD K mg g) (WE W) t) (fCallN g fa) := ⟨ha.c, pe_callK0 ha.c F hr hg hm hk hb tk ha.pe hdb he hpl, dn_call ha.dr⟩
theorem de_callB (F : FnOk X.prog X.w K mg X.base (L2.CX X.prog X.w) k f fd ps (spD K mg g)) (hr : Room k X.A) (hm : mg x = some (.ref f)) (hk : PySem.W.keepIn K (.ref f) = true) (hb : Binds K fd ps []) (tk : Takes X W) (hg : Gl X x)
    (ha : DABE K mg X W (e :: es) t fa) (hdb : (x == ("__debug__" : Str)) = false := by decide) (he : starEach (e :: es) X.env = (false, eval e X.env) :: starEach es X.env := by rfl) (hpl : (backTo pos (starEach es X.env)).any (·.1) = false := by rfl) :
    DE K mg X W (.Call (.Name x p) (e :: es) [] pos) (tCallS (spD K mg g) (WE W) t) (fCallB g fa) := ⟨ha.c, pe_callK0 ha.c F hr hg hm hk hb tk ha.pe hdb he hpl, dr_callB ha.dr⟩
end

/-! ### what is walked -/
def Iterates (K : PySem.W.Frag) (A : Addr → Prop) (H1 : Hp) (J : It) (ds : List D) : Prop := ∀ (A' : Addr → Prop) (H' : Hp), Tr A H1 A' H' → Dom A' H' → ∀ i, i ≤ ds.length →
  (i = ds.length → J.stop i H') ∧ ∀ d, ds[i]? = some d → J.go i H' ∧ ∀ x H'', J.yld i H' x H'' → Same H' H'' ∧ Rep K A' H'' x d
def DIr (K : PySem.W.Frag) (mg : Str → Option Value) (W : WX) (wi : TI) (fi : FA) : Prop := ∀ (A : Addr → Prop) (σ : St) (H : Hp) (ρ : Rho) (R : It → Hp → Prop), EnvE K A σ H ρ →
  (fi ρ).post (fun ds => ∀ J H', Same H H' → Iterates K A H' J ds → R J H') (XW mg W σ H) → wi σ H R
structure DIE (K : PySem.W.Frag) (mg : Str → Option Value) (X : Cx) (W : WX) (tg iter : Expr) (wi : TI) (fi : FA) : Prop where
  c : CxK K mg X
  pi : PI X tg iter wi
  dr : DIr K mg W wi fi
section
variable {K : PySem.W.Frag} {mg : Str → Option Value} {W : WX} {ta tb : TE} {fa fb : FE}
theorem iter_list {A : Addr → Prop} {H : Hp} {a : Addr} {ds : List D} (r : Rep K A H (.ref a) (.list ds)) : Iterates K A H (Itl K a) ds := fun A' H' t dm i hi => by
  obtain ⟨b, xs, e, h1, h2⟩ := (r.tr t).b.list
  cases e
  refine ⟨fun e => ⟨xs, (SqL.of h1), by rw [h2.length, e]; exact Nat.le_refl _⟩, fun d hd => ?_⟩
  obtain ⟨v, hv, rv⟩ := h2.get hd
  refine ⟨⟨xs, v, (SqL.of h1), hv⟩, fun x H'' y => ?_⟩
  obtain ⟨e1, y⟩ := y
  subst e1
  have := y xs (SqL.of h1)
  rw [hv] at this
  cases this
  exact ⟨Same.refl _, rv⟩
theorem iter_ro {A : Addr → Prop} {H : Hp} {a : Addr} {ds : List D} (r : Rep K A H (.ref a) (roD ds)) : Iterates K A H (Itl K a) ds := fun A' H' t dm i hi => by
  have h0 : ∃ xs, SqL K H' a xs ∧ RepAll K A' H' xs ds := by
    rcases (r.tr t).b.dict with ⟨b, xs, ds', e, e0, h1, h2, _⟩ | ⟨_, _, _, _, _, _, e0⟩ | ⟨_, _, _, _, _, _, e0⟩
    · cases e
      cases e0
      exact ⟨xs, h1, h2⟩
    · cases e0
    · cases e0
  obtain ⟨xs, h1, h2⟩ := h0
  refine ⟨fun e => ⟨xs, h1, by rw [h2.length, e]; exact Nat.le_refl _⟩, fun d hd => ?_⟩
  obtain ⟨v, hv, rv⟩ := h2.get hd
  refine ⟨⟨xs, v, h1, hv⟩, fun x H'' y => ?_⟩
  obtain ⟨e1, y⟩ := y
  subst e1
  have := y xs h1
  rw [hv] at this
  cases this
  exact ⟨Same.refl _, rv⟩
theorem iter_tup {A : Addr → Prop} {H : Hp} {a : Addr} {ds : List D} (r : Rep K A H (.ref a) (.tuple ds)) : Iterates K A H (Itt K a) ds := fun A' H' t dm i hi => by
  obtain ⟨b, xs, e, h1, h2, _⟩ := (r.tr t).b.tup
  cases e
  refine ⟨fun e => ⟨xs, h1, by rw [h2.length, e]; exact Nat.le_refl _⟩, fun d hd => ?_⟩
  obtain ⟨v, hv, rv⟩ := h2.get hd
  refine ⟨⟨xs, v, h1, hv⟩, fun x H'' y => ?_⟩
  obtain ⟨e1, y⟩ := y
  subst e1
  have := y xs h1
  rw [hv] at this
  cases this
  exact ⟨Same.refl _, rv⟩
theorem rangeD_get {lo : Int} {n i : Nat} {d : D} (h : (rangeD lo n)[i]? = some d) : i < n ∧ d = .int (lo + (i : Nat)) := by
  unfold rangeD at h
  rw [List.getElem?_map] at h
  cases q : (List.range n)[i]? with
  | none => rw [q] at h; cases h
  | some j =>
    rw [q] at h
    obtain ⟨h1, h2⟩ := List.getElem?_eq_some_iff.mp q
    rw [List.length_range] at h1
    rw [List.getElem_range] at h2
    subst h2
    exact ⟨h1, (Option.some.inj h).symm⟩
theorem rangeD_length (lo : Int) (n : Nat) : (rangeD lo n).length = n := by
  unfold rangeD
  rw [List.length_map, List.length_range]
theorem iter_range {A : Addr → Prop} {H : Hp} (lo : Int) (n : Nat) : Iterates K A H (Itr lo n) (rangeD lo n) := fun A' H' t dm i hi => by
  refine ⟨fun e => by rw [rangeD_length] at e; exact Nat.le_of_eq e.symm, fun d hd => ?_⟩
  obtain ⟨h1, rfl⟩ := rangeD_get hd
  refine ⟨h1, fun x H'' y => ?_⟩
  obtain ⟨e1, y⟩ := y
  subst e1 y
  exact ⟨Same.refl _, .int _⟩
theorem di_list (h : DR K mg W ta fa) : DIr K mg W (L2.iList K ta) (Dl.iList fa) := fun A σ H ρ R e p => by
  unfold Dl.iList at p
  rw [post_bind] at p
  refine h A σ H ρ _ e (p.mono (fun d _ q v H1 s1 r => ?_) fun _ z => z)
  cases d with
  | list ds =>
    obtain ⟨a, xs, rfl, h1, h2⟩ := r.b.list
    exact ⟨a, rfl, ⟨xs, (SqL.of h1)⟩, q _ H1 s1 (iter_list r)⟩
  | dict kds =>
    have q' : (ofO (roOf kds)).post (fun ds => ∀ J H', Same H H' → Iterates K A H' J ds → R J H') (XW mg W σ H) := q
    cases q0 : roOf kds with
    | none => rw [q0] at q'; exact q'.elim
    | some ds =>
      rw [q0] at q'
      rcases r.b.dict with ⟨a, xs, ds', rfl, e0, h1, h2, r0⟩ | ⟨_, _, _, _, _, _, e0⟩ | ⟨_, _, _, _, _, _, e0⟩
      · rw [roOf_some q0] at e0
        cases e0
        exact ⟨a, rfl, ⟨xs, h1⟩, q' _ H1 s1 (iter_ro r0)⟩
      · rw [q0] at e0; cases e0
      · rw [q0] at e0; cases e0
  | _ => exact q.elim
theorem di_tup (h : DR K mg W ta fa) : DIr K mg W (L2.iTup K ta) (Dl.iTup fa) := fun A σ H ρ R e p => by
  unfold Dl.iTup at p
  rw [post_bind] at p
  refine h A σ H ρ _ e (p.mono (fun d _ q v H1 s1 r => ?_) fun _ z => z)
  cases d with
  | tuple ds =>
    obtain ⟨a, xs, rfl, h1, h2, _⟩ := r.b.tup
    exact ⟨a, rfl, ⟨xs, h1⟩, q _ H1 s1 (iter_tup r)⟩
  | _ => exact q.elim
theorem di_range1 (h : DB K mg W ta fa) : DIr K mg W (iRng1 (tCons ta tNil)) (iRange1 fa) := fun A σ H ρ R e p => by
  unfold iRange1 at p
  rw [post_bind] at p
  refine h A σ H ρ _ e (p.mono (fun d _ q v H1 s1 r => ?_) fun _ z => z)
  cases d with
  | int j =>
    rw [r.int]
    have q' : (if -(2 ^ 62) ≤ j ∧ j < 2 ^ 62 then ok (rangeD 0 j.toNat) else no).post (fun ds => ∀ J H', Same H H' → Iterates K A H' J ds → R J H') (XW mg W σ H) := q
    split at q'
    · rename_i hz
      exact ⟨j, rfl, hz.1, hz.2, q' _ H1 s1 (iter_range 0 _)⟩
    · exact q'.elim
  | _ => exact q.elim
theorem di_range2 (h : DB K mg W ta fa) (h' : DB K mg W tb fb) : DIr K mg W (iRng2 (tCons ta (tCons tb tNil))) (iRange2 fa fb) := fun A σ H ρ R e p => by
  unfold iRange2 at p
  rw [post_bind] at p
  refine h A σ H ρ _ e (p.mono (fun d _ q v H1 s1 r => ?_) fun _ z => z)
  rw [post_bind] at q
  refine h' A σ H1 ρ _ (e.same s1) (q.mono (fun d2 _ q v2 H2 s2 r2 => ?_) fun _ z => z.same s1)
  unfold oRange2 at q
  cases d with
  | int i =>
    cases d2 with
    | int j =>
      rw [r.int, r2.int]
      have q' : (if -(2 ^ 62) ≤ i ∧ i < 2 ^ 62 ∧ -(2 ^ 62) ≤ j ∧ j < 2 ^ 62 then ok (rangeD i (j - i).toNat) else no).post (fun ds => ∀ J H', Same H H' → Iterates K A H' J ds → R J H') (XW mg W σ H) := q
      split at q'
      · rename_i hz
        exact ⟨i, j, rfl, hz, q' _ H2 (s1.trans s2) (iter_range i _)⟩
      · exact q'.elim
    | _ => exact q.elim
  | _ => exact q.elim
end
section
variable {K : PySem.W.Frag} {mg : Str → Option Value} {X : Cx} {W : WX} {tg a b : Expr} {ta tb : TE} {fa fb : FE} {p pos : Pos}
theorem die_list (h : DE K mg X W a ta fa) : DIE K mg X W tg a (L2.iList K ta) (Dl.iList fa) := ⟨h.c, by have := pi_list (tg := tg) h.pe; rw [h.c.k] at this; exact this, di_list h.dr⟩
theorem die_tup (h : DE K mg X W a ta fa) : DIE K mg X W tg a (L2.iTup K ta) (Dl.iTup fa) := ⟨h.c, by have := pi_tup (tg := tg) h.pe; rw [h.c.k] at this; exact this, di_tup h.dr⟩
theorem die_range1 (hm : mg "range" = none) (h : DBE K mg X W a ta fa) (hg : Gl X "range" := by rfl) (hs : starEach [a] X.env = [(false, eval a X.env)] := by rfl) : DIE K mg X W tg (.Call (.Name "range" p) [a] [] pos) (iRng1 (tCons ta tNil)) (iRange1 fa) :=
  ⟨h.c, pi_range1 hg (h.c.m ▸ hm) (pa_cons h.pe pa_nil hs) hs, di_range1 h.dr⟩
theorem die_range2 (hm : mg "range" = none) (h : DBE K mg X W a ta fa) (h2 : DBE K mg X W b tb fb) (hg : Gl X "range" := by rfl) (hs : starEach [a, b] X.env = [(false, eval a X.env), (false, eval b X.env)] := by rfl) (hs2 : starEach [b] X.env = [(false, eval b X.env)] := by rfl) :
    DIE K mg X W tg (.Call (.Name "range" p) [a, b] [] pos) (iRng2 (tCons ta (tCons tb tNil))) (iRange2 fa fb) :=
  ⟨h.c, pi_range2 hg (h.c.m ▸ hm) (pa_cons h.pe (pa_cons h2.pe pa_nil hs2) (by rw [hs, hs2])) hs hs2, di_range2 h.dr h2.dr⟩
end
end Dl

set_option maxRecDepth 100000
set_option maxHeartbeats 4000000
/-! The data layer, part f: comprehensions, slots, statements, defs. -/
namespace Dl
open PySem L2
open Out
/-! ### targets within an expression -/
def GRE (K : PySem.W.Frag) (g : TG) (fg : FG) (is : List Nat) : Prop := ∀ (A : Addr → Prop) (σ : St) (H : Hp) (ρ : Rho) (v : V) (d : D) (Q : St → Hp → Prop), EnvE K A σ H ρ → Rep K A H v d →
  (fg d ρ).post (fun ρ' => ∀ σ', EnvE K A σ' H ρ' → (∀ vs, (∀ i ∈ is, i ∈ vs) → wipe σ' vs = wipe σ vs) → Q σ' H) (fun _ => False) → g v σ H Q
def GREs (K : PySem.W.Frag) (g : TGs) (fg : FGs) (is : List Nat) : Prop := ∀ (A : Addr → Prop) (σ : St) (H : Hp) (ρ : Rho) (vs : List V) (ds : List D) (Q : St → Hp → Prop), EnvE K A σ H ρ → RepAll K A H vs ds →
  (fg ds ρ).post (fun ρ' => ∀ σ', EnvE K A σ' H ρ' → (∀ vs, (∀ i ∈ is, i ∈ vs) → wipe σ' vs = wipe σ vs) → Q σ' H) (fun _ => False) → g vs σ H Q
theorem wipe_set {σ : St} {x : Option V} {i : Nat} : ∀ {vs : List Nat}, i ∈ vs → wipe (σ.set i x) vs = wipe σ vs
  | [], h => by cases h
  | v :: vs, h => by
    unfold wipe
    by_cases hv : i ∈ vs
    · rw [wipe_set hv]
    · have e : i = v := by
        rcases List.mem_cons.mp h with z | z
        · exact z
        · exact absurd z hv
      subst e
      have hs : ∀ (ws : List Nat) (τ : St), i ∉ ws → wipe (τ.set i x) ws = (wipe τ ws).set i x := by
        intro ws
        induction ws with
        | nil => intro τ _; rfl
        | cons w ws ih =>
          intro τ hw
          unfold wipe
          rw [ih τ fun z => hw (List.mem_cons_of_mem _ z), List.set_comm]
          exact fun z => hw (by rw [z]; exact List.mem_cons_self)
      rw [hs vs σ hv, List.set_set]
theorem EnvE.set {K : PySem.W.Frag} {A : Addr → Prop} {σ : St} {H : Hp} {ρ : Rho} {v : V} {d : D} (e : EnvE K A σ H ρ) (r : Rep K A H v d) (i : Nat) : EnvE K A (σ.set i (some v)) H (ρ.set i (.sh d)) where
  dom := e.dom
  len := by rw [List.length_set, List.length_set]; exact e.len
  shr := fun j d' h => by
    rw [List.getElem?_set] at h ⊢
    by_cases hij : i = j
    · subst hij
      rw [if_pos rfl] at h ⊢
      split at h
      · rename_i hl
        cases h
        rw [if_pos (by rw [e.len]; exact hl)]
        exact ⟨v, rfl, r⟩
      · cases h
    · rw [if_neg hij] at h ⊢
      exact e.shr j d' h
  own := fun j d' h => by
    rw [List.getElem?_set] at h ⊢
    by_cases hij : i = j
    · subst hij
      rw [if_pos rfl] at h
      split at h <;> cases h
    · rw [if_neg hij] at h ⊢
      exact e.own j d' h
  o2 := fun j d' h => by
    rw [List.getElem?_set] at h ⊢
    by_cases hij : i = j
    · subst hij
      rw [if_pos rfl] at h
      split at h <;> cases h
    · rw [if_neg hij] at h ⊢
      exact e.o2 j d' h
  al := fun j k m d' h h' => by
    rw [List.getElem?_set] at h h' ⊢
    by_cases hij : i = j
    · subst hij
      rw [if_pos rfl] at h
      split at h <;> cases h
    · rw [if_neg hij] at h ⊢
      by_cases hik : i = k
      · rw [if_pos hik] at h'
        split at h' <;> cases h'
      · rw [if_neg hik] at h'
        exact e.al j k m d' h h'
theorem gre_name {K : PySem.W.Frag} (i : Nat) : GRE K (gName i) (gSet i) [i] := fun A σ H ρ v d Q e r p =>
  p _ (e.set r i) fun vs h => wipe_set (h i (by simp))
theorem gres_nil {K : PySem.W.Frag} : GREs K gNil gsNil [] := fun A σ H ρ vs ds Q e r p => by
  cases r with
  | nil => exact ⟨rfl, p _ e fun _ _ => rfl⟩
  | cons _ _ => exact p.elim
theorem gres_cons {K : PySem.W.Frag} {g : TG} {u : TGs} {fg : FG} {fu : FGs} {is js : List Nat} (h1 : GRE K g fg is) (h2 : GREs K u fu js) : GREs K (gCons g u) (gsCons fg fu) (is ++ js) := fun A σ H ρ vs ds Q e r p => by
  cases r with
  | nil => exact p.elim
  | cons r rs =>
    rename_i v vs d ds
    have p' : ((fg d ρ).bind fun ρ' => fu ds ρ').post _ _ := p
    rw [post_bind] at p'
    refine ⟨v, vs, rfl, h1 A σ H ρ v d _ e r (p'.mono (fun ρ' _ q σ' e' w => ?_) fun _ z => z)⟩
    exact h2 A σ' H ρ' vs ds Q e' rs (q.mono (fun ρ'' _ k σ'' e'' w' => k σ'' e'' fun ws hw => (w' ws fun i hi => hw i (List.mem_append_right _ hi)).trans (w ws fun i hi => hw i (List.mem_append_left _ hi))) fun _ z => z)
theorem gre_tup {K : PySem.W.Frag} {n : Nat} {u : TGs} {fu : FGs} {js : List Nat} (h : GREs K u fu js) : GRE K (L2.gTup K n u) (Dl.gTup n fu) js := fun A σ H ρ v d Q e r p => by
  cases d with
  | tuple ds =>
    have p' : (if ds.length = n then fu ds ρ else no).post (fun ρ' => ∀ σ', EnvE K A σ' H ρ' → (∀ vs, (∀ i ∈ js, i ∈ vs) → wipe σ' vs = wipe σ vs) → Q σ' H) (fun _ => False) := p
    split at p'
    · rename_i hn
      obtain ⟨a, xs, rfl, h1, h2, _⟩ := r.b.tup
      exact ⟨a, xs, rfl, h1, by rw [h2.length]; exact hn, h A σ H ρ xs ds Q e h2 p'⟩
    · exact p'.elim
  | _ => exact p.elim
structure DGX (K : PySem.W.Frag) (X : Cx) (tg : Expr) (g : TG) (fg : FG) (is : List Nat) : Prop where
  c : X.K = K
  pg : PG X tg g
  gr : GRE K g fg is
structure DGXs (K : PySem.W.Frag) (X : Cx) (tg : List Expr) (g : TGs) (fg : FGs) (is : List Nat) : Prop where
  c : X.K = K
  pg : PGs X tg g
  gr : GREs K g fg is
section
variable {K : PySem.W.Frag} {X : Cx} {pos : Pos}
theorem gx_v (i : Nat) {x : Str} (hN : X.N.Nodup) (hi : X.N[i]? = some x := by rfl) (hx : Loc X.env.scope x := by first | exact Or.inl rfl | exact Or.inr rfl) (hf : X.fn x = true ∨ X.env.scope.names.lookup x = some .local := by first | exact .inl rfl | exact .inr rfl | assumption) (c : X.K = K := by rfl) : DGX K X (.Name x pos) (gName i) (gSet i) [i] :=
  ⟨c, pg_name hN hi hx hf, gre_name i⟩
theorem gxs_nil (c : X.K = K := by rfl) : DGXs K X [] gNil gsNil [] := ⟨c, pgs_nil, gres_nil⟩
theorem gxs_cons {e : Expr} {es : List Expr} {g : TG} {u : TGs} {fg : FG} {fu : FGs} {is js : List Nat} (h1 : DGX K X e g fg is) (h2 : DGXs K X es u fu js)
    (hs : (assignEach (e :: es) X.env).map (·.2) = assign e X.env :: (assignEach es X.env).map (·.2) := by rfl) : DGXs K X (e :: es) (gCons g u) (gsCons fg fu) (is ++ js) := ⟨h1.c, pgs_cons h1.pg h2.pg hs, gres_cons h1.gr h2.gr⟩
theorem gx_tup {es : List Expr} {k n : Nat} {u : TGs} {fu : FGs} {js : List Nat} (hc : X.calm = true) (h : DGXs K X es u fu js) (hn : (assignEach es X.env).length = n := by rfl) (hst : (assignEach es X.env).findIdx? (·.1) = none := by rfl) :
    DGX K X (.Tuple es k pos) (L2.gTup K n u) (Dl.gTup n fu) js := ⟨h.c, by have := pg_tup (pos := pos) (k := k) hc h.pg hn hst; rw [h.c] at this; exact this, gre_tup h.gr⟩
end
/-! ### comprehensions -/
abbrev W0 : WX := fun _ _ _ _ => False
theorem post_calm {α : Type} {x : Out α} {P : α → Prop} {W : String → Prop} (h : x.calm.post P W) (W' : String → Prop) : x.post P W' := by
  cases x with
  | ok a => exact h
  | ex c => exact h.elim
  | no => exact h
theorem wipeR_length (ρ : Rho) : ∀ vs : List Nat, (wipeR ρ vs).length = ρ.length
  | [] => rfl
  | v :: vs => by unfold wipeR; rw [List.length_set, wipeR_length ρ vs]
theorem wipeR_in {ρ : Rho} {i : Nat} : ∀ {vs : List Nat}, i ∉ vs → (wipeR ρ vs)[i]? = ρ[i]?
  | [], _ => rfl
  | v :: vs, h => by
    have h1 : v ≠ i := fun e => h (by rw [e]; exact List.mem_cons_self)
    have h2 : i ∉ vs := fun m => h (List.mem_cons_of_mem _ m)
    unfold wipeR
    rw [List.getElem?_set_ne h1]
    exact wipeR_in h2
theorem wipeR_out {ρ : Rho} {i : Nat} {ev : EV} : ∀ {vs : List Nat}, (wipeR ρ vs)[i]? = some ev → ev ≠ .un → i ∉ vs
  | [], _, _ => by simp
  | v :: vs, h, n => by
    unfold wipeR at h
    rw [List.getElem?_set] at h
    by_cases hv : v = i
    · rw [if_pos hv] at h
      split at h
      · cases h
        exact absurd rfl n
      · cases h
    · rw [if_neg hv] at h
      exact fun m => by
        rcases List.mem_cons.mp m with z | z
        · exact hv z.symm
        · exact wipeR_out h n z
theorem EnvE.wipe {K : PySem.W.Frag} {A : Addr → Prop} {σ : St} {H : Hp} {ρ : Rho} (e : EnvE K A σ H ρ) (vs : List Nat) : EnvE K A (L2.wipe σ vs) H (wipeR ρ vs) where
  dom := e.dom
  len := by rw [wipe_length, wipeR_length]; exact e.len
  shr := fun i d h => by
    have n := wipeR_out h (by intro z; cases z)
    rw [wipe_out n]
    rw [wipeR_in n] at h
    exact e.shr i d h
  own := fun i d h => by
    have n := wipeR_out h (by intro z; cases z)
    rw [wipe_out n]
    rw [wipeR_in n] at h
    exact e.own i d h
  o2 := fun i d h => by
    have n := wipeR_out h (by intro z; cases z)
    rw [wipe_out n]
    rw [wipeR_in n] at h
    exact e.o2 i d h
  al := fun i k j d h h' => by
    have n := wipeR_out h (by intro z; cases z)
    have n' := wipeR_out h' (by intro z; cases z)
    rw [wipe_out n]
    rw [wipeR_in n] at h
    rw [wipeR_in n'] at h'
    exact e.al i k j d h h'
theorem wipe_wipe (σ : St) : ∀ vs : List Nat, L2.wipe (L2.wipe σ vs) vs = L2.wipe σ vs := fun vs => by
  apply List.ext_getElem?
  intro i
  by_cases h : i ∈ vs
  · have key : ∀ (τ : St), τ.length = σ.length → (L2.wipe τ vs)[i]? = (if i < σ.length then some none else none) := by
      intro τ ht
      by_cases hl : i < σ.length
      · rw [if_pos hl]
        have hl' : i < (L2.wipe τ vs).length := by rw [wipe_length, ht]; exact hl
        cases q : (L2.wipe τ vs)[i]? with
        | none => rw [List.getElem?_eq_none_iff] at q; omega
        | some x =>
          cases x with
          | none => rfl
          | some x => exact absurd h (wipe_some q).2
      · rw [if_neg hl, List.getElem?_eq_none_iff, wipe_length, ht]
        omega
    rw [key _ (wipe_length σ vs), key σ rfl]
  · rw [wipe_out h]
theorem EnvE.more {K : PySem.W.Frag} {A : Addr → Prop} {σ : St} {H H' : Hp} {ρ : Rho} {p : Addr} (e : EnvE K A σ H ρ) (hp : H p = none) (s : Same H H') (hp' : ∃ o, H' p = some o) : EnvE K (fun a => A a ∨ a = p) σ H' ρ := by
  have t : Tr A H (fun a => A a ∨ a = p) H' := fun a o h n => ⟨s a o h, fun z => by
    rcases z with z | z
    · exact n z
    · subst z
      rw [hp] at h
      cases h⟩
  refine ⟨fun a z => ?_, e.len, fun i d h => ?_, fun i d h => ?_, fun i d h => ?_, fun i k j d h h' => ?_⟩
  · rcases z with z | z
    · obtain ⟨o, q⟩ := e.dom a z
      exact ⟨o, s a o q⟩
    · rw [z]; exact hp'
  · obtain ⟨v, q, r⟩ := e.shr i d h
    exact ⟨v, q, r.tr t⟩
  · obtain ⟨v, q, r⟩ := e.own i d h
    obtain ⟨o, q2⟩ := r.there
    exact ⟨v, q, r.tr t (by rw [q2, s _ _ q2])⟩
  · obtain ⟨v, qs, q, r⟩ := e.o2 i d h
    obtain ⟨⟨o, q2⟩, q3⟩ := r.there
    refine ⟨v, qs, q, r.tr t (by rw [q2, s _ _ q2]) fun b hb => ?_⟩
    obtain ⟨o, q4⟩ := q3 b hb
    rw [q4, s _ _ q4]
  · obtain ⟨v, d', q, q1, r⟩ := e.al i k j d h h'
    obtain ⟨o, q2⟩ := r.there
    exact ⟨v, d', q, q1, r.tr t (by rw [q2, s _ _ q2])⟩
section
variable {K : PySem.W.Frag} {mg : Str → Option Value} {W : WX} {wi : TI} {g : TG} {tt : TT} {te : TE} {fi : FA} {fg : FG} {fc : FT} {fe : FE} {is vs : List Nat}
theorem dn_lc (hi : DIr K mg W wi fi) (hg : GRE K g fg is) (hv : ∀ i ∈ is, i ∈ vs) (ht : DT K mg W0 tt fc) (he : DR K mg W0 te fe) : DN K mg W (tLc wi g tt te vs) (fLc fi fg fc fe vs) := fun A σ H ρ Q e p => by
  unfold fLc at p
  rw [post_bind] at p
  refine hi A σ H ρ _ e (p.mono (fun ds _ q J H1 s1 itr => ?_) fun _ z => z)
  unfold lcAll at q
  split at q
  case isFalse => exact q.elim
  rename_i hz
  rw [post_bind] at q
  intro L hL
  have e1 : EnvE K A (L2.wipe σ vs) H1 (wipeR ρ vs) := (e.same s1).wipe vs
  refine ⟨fun i m H' => ∃ ys : List D, m = ds.length - i ∧ i ≤ ds.length ∧ ys.length ≤ i ∧ Same H1 H' ∧ OwnRep K (fun a => A a ∨ a = L) H' L (.list ys) ∧
    (lcGo fg fc fe (wipeR ρ vs) (ds.drop i)).post (fun zs => ∀ H2, Same H1 H2 → OwnRep K (fun a => A a ∨ a = L) H2 L (.list (ys ++ zs)) → Q (.ref L) H2) (XW mg W σ H), ⟨ds.length, [], rfl, Nat.zero_le _, Nat.le_refl _, same_new hL _, .lst upd_same .nil, ?_⟩, ?_⟩
  · rw [List.drop_zero]
    refine q.mono (fun zs _ k H2 s2 o => ?_) fun _ z => z
    exact k L H2 ⟨s1.trans s2, s1.free hL, o⟩
  · rintro i m H' ⟨ys, rfl, hi, hy, s', ow, k⟩
    have e2 := e1.more hL s' ow.there
    have tr : Tr A H1 (fun a => A a ∨ a = L) H' := fun a o h n => ⟨s' a o h, fun z => by
      rcases z with z | z
      · exact n z
      · subst z
        rw [hL] at h
        cases h⟩
    obtain ⟨st, go⟩ := itr _ H' tr e2.dom i hi
    by_cases hlt : i < ds.length
    · obtain ⟨g1, g2⟩ := go _ (List.getElem?_eq_getElem hlt)
      refine .inr ⟨g1, _, fun H' n => n, fun x H'' y => ?_⟩
      obtain ⟨s3, rx⟩ := g2 x H'' y
      have e3 := e2.same s3
      have k' : ((fg ds[i] (wipeR ρ vs)).calm.bind fun ρ' => (fc ρ').calm.bind fun b => if b = true then (fe ρ').calm.bind fun y => (lcGo fg fc fe (wipeR ρ vs) (ds.drop (i + 1))).bind fun ys => ok (y :: ys) else lcGo fg fc fe (wipeR ρ vs) (ds.drop (i + 1))).post
          (fun zs => ∀ H2, Same H1 H2 → OwnRep K (fun a => A a ∨ a = L) H2 L (.list (ys ++ zs)) → Q (.ref L) H2) (XW mg W σ H) := by
        rw [List.drop_eq_getElem_cons hlt] at k
        exact k
      rw [post_bind] at k'
      refine hg _ _ _ _ x ds[i] _ e3 rx ((post_calm k' _).mono (fun ρ2 _ k2 σ2 e4 w => ?_) fun _ z => z)
      refine ⟨by rw [w vs hv, wipe_wipe], ?_⟩
      rw [post_bind] at k2
      refine ht _ _ _ _ _ e4 ((post_calm k2 _).mono (fun b _ k3 H4 s4 => ?_) fun _ z => z)
      cases b with
      | true =>
        rw [if_pos rfl]
        have k3' : ((fe ρ2).calm.bind fun y => (lcGo fg fc fe (wipeR ρ vs) (ds.drop (i + 1))).bind fun ys => ok (y :: ys)).post _ _ := k3
        rw [post_bind] at k3'
        refine he _ _ _ _ _ (e4.same s4) ((post_calm k3' _).mono (fun y _ k4 v H5 s5 rv => ?_) fun _ z => z)
        have s15 := (s3.trans s4).trans s5
        have ow5 := ow.same s15
        cases ow5 with
        | lst eL rL =>
          rename_i xs
          have hlen : xs.length = ys.length := rL.length
          refine ⟨xs, eL, by rw [hlen]; omega, ds.length - (i + 1), by omega, ys ++ [y], rfl, hlt, by rw [List.length_append, List.length_singleton]; omega, fun a o h => ?_, ?_, ?_⟩
          · rw [upd_ne (fun z => by subst z; rw [hL] at h; cases h)]
            exact s15 _ _ (s' _ _ h)
          · refine .lst upd_same ((rL.append (.cons rv .nil)).tr fun a o h n => ⟨?_, n⟩)
            rw [upd_ne (fun z => n (.inr z))]
            exact h
          · rw [post_bind] at k4
            refine k4.mono (fun zs _ k5 H2 s2 o => ?_) fun _ z => z
            refine k5 H2 s2 ?_
            rw [List.append_assoc] at o
            exact o
      | false =>
        rw [if_neg Bool.false_ne_true]
        have s14 := s3.trans s4
        exact ⟨ds.length - (i + 1), by omega, ys, rfl, hlt, Nat.le_succ_of_le hy, s'.trans s14, ow.same s14, k3⟩
    · have ei : i = ds.length := by omega
      refine .inl ⟨st ei, ?_⟩
      rw [ei, List.drop_eq_nil_of_le (Nat.le_refl _)] at k
      have := k H' s' (by rw [List.append_nil]; exact ow)
      exact this
end
section
variable {K : PySem.W.Frag} {mg : Str → Option Value} {X : Cx} {W : WX}
structure DPT (K : PySem.W.Frag) (mg : Str → Option Value) (X : Cx) (ifs : List Expr) (t : TT) (f : FT) : Prop where
  pe : PTs X ifs t
  dr : DT K mg W0 t f
theorem dn_lcE {elt tg iter : Expr} {ifs : List Expr} {scope : Scope} {own : List (Str × Nat)} {pos : Pos} {wi : TI} {g : TG} {tt : TT} {te : TE} {fi : FA} {fg : FG} {fc : FT} {fe : FE} {is : List Nat} (hc : X.calm = true) (hN : X.N.Nodup) (hi : DIE K mg X W tg iter wi fi) (ok : BlkOk X.N X.env.scope scope own)
    (hg : ∀ (s : Shared) (H : Hp) (C : Addr) (cl : List (Str × Addr)) (fp : List Addr), DGX K (X.blk s H scope (compEnvC scope cl C X.env) fp) tg g fg is) (hv : ∀ i ∈ is, i ∈ own.map (·.2))
    (ht : ∀ (s : Shared) (H : Hp) (C : Addr) (cl : List (Str × Addr)) (fp : List Addr), DPT K mg (X.blk s H scope (compEnvC scope cl C X.env) fp) ifs tt fc)
    (he : ∀ (s : Shared) (H : Hp) (C : Addr) (cl : List (Str × Addr)) (fp : List Addr), DE K mg (X.blk s H scope (compEnvC scope cl C X.env) fp) W0 elt te fe) (hs : ∀ x, foldedSetIterable iter X.env x = pure x := by intro _; rfl) :
    DNE K mg X W (.ListComp elt [⟨tg, iter, ifs, 0⟩] scope pos) (tLc wi g tt te (own.map (·.2))) (fLc fi fg fc fe (own.map (·.2))) :=
  ⟨hi.c, pe_lc hc hN hi.pi ok (fun s H C cl fp => (hg s H C cl fp).pg) (fun s H C cl fp => (ht s H C cl fp).pe) (fun s H C cl fp => (he s H C cl fp).pe) hs,
    fun A σ H => dn_lc hi.dr (hg ⟨X.s_0.heap, X.s_0.gens, X.s_0.drawn, X.s_0.toks, X.s_0.os⟩ X.H_0 0 [] []).gr hv (ht X.s_0 X.H_0 0 [] []).dr (he X.s_0 X.H_0 0 [] []).dr A σ H⟩
theorem pt_nil : DPT K mg X [] L2.tYes Dl.tYes := ⟨pts_nil, fun A σ H ρ Q e p => p H (Same.refl H)⟩
theorem pt_one {c : Expr} {t : TT} {f : FT} (h : DTE K mg X W0 c t f) : DPT K mg X [c] t f := ⟨pts_one h.pe, h.dr⟩
end
end Dl

set_option maxRecDepth 100000
set_option maxHeartbeats 4000000
/-! The data layer, part g: slots that own, statements, defs. -/
namespace Dl
open PySem L2
open Out
/-- what is kept off: the callers' M, and what the slots own (γ) -/
def Av (M : Addr → Prop) (γ : Nat → List Addr) (a : Addr) : Prop := M a ∨ ∃ i, a ∈ γ i
structure EnvG (K : PySem.W.Frag) (M : Addr → Prop) (γ : Nat → List Addr) (H0 : Hp) (σ : St) (H : Hp) (ρ : Rho) : Prop where
  same : Same H0 H
  dom : Dom M H0
  len : σ.length = ρ.length
  fr : ∀ i a, a ∈ γ i → H0 a = none ∧ ∃ o, H a = some o
  nd : ∀ i, (γ i).Nodup
  dj : ∀ i j a, a ∈ γ i → a ∈ γ j → i = j
  shr : ∀ (i : Nat) (d : D), ρ[i]? = some (.sh d) → ∃ v, σ[i]? = some (some v) ∧ Rep K (Av M γ) H v d
  own : ∀ (i : Nat) (d : D), ρ[i]? = some (.ow d) → ∃ p, σ[i]? = some (some (.ref p)) ∧ γ i = [p] ∧ OwnRep K (Av M γ) H p d
  o2 : ∀ (i : Nat) (d : D), ρ[i]? = some (.o2 d) → ∃ p qs, σ[i]? = some (some (.ref p)) ∧ γ i = p :: qs ∧ Own2 K (Av M γ) H p qs d
  al : ∀ (i k j : Nat) (d : D), ρ[i]? = some (.al k j) → ρ[k]? = some (.o2 d) → ∃ p qs q, γ k = p :: qs ∧ qs[j]? = some q ∧ σ[i]? = some (some (.ref q))
def EnvOk (K : PySem.W.Frag) (M : Addr → Prop) (H0 : Hp) (σ : St) (H : Hp) (ρ : Rho) : Prop := ∃ γ, EnvG K M γ H0 σ H ρ
section
variable {K : PySem.W.Frag} {M : Addr → Prop} {γ : Nat → List Addr} {H0 H H' : Hp} {σ : St} {ρ : Rho}
theorem EnvG.ok (e : EnvG K M γ H0 σ H ρ) : EnvOk K M H0 σ H ρ := ⟨γ, e⟩
theorem EnvG.dom' (e : EnvG K M γ H0 σ H ρ) : Dom (Av M γ) H := fun a z => by
  rcases z with z | ⟨i, h⟩
  · obtain ⟨o, q⟩ := e.dom a z
    exact ⟨o, e.same a o q⟩
  · exact (e.fr i a h).2
theorem EnvG.e (e : EnvG K M γ H0 σ H ρ) : EnvE K (Av M γ) σ H ρ where
  dom := e.dom'
  len := e.len
  shr := e.shr
  own := fun i d h => let ⟨p, q1, _, q3⟩ := e.own i d h; ⟨p, q1, q3⟩
  o2 := fun i d h => let ⟨p, qs, q1, _, q3⟩ := e.o2 i d h; ⟨p, qs, q1, q3⟩
  al := fun i k j d h h' => by
    obtain ⟨p, qs, q, h1, h2, h3⟩ := e.al i k j d h h'
    obtain ⟨p', qs', _, g1, g2⟩ := e.o2 k d h'
    rw [h1] at g1
    cases g1
    obtain ⟨d', h4, h5⟩ := g2.item h2
    exact ⟨q, d', h3, h4, h5⟩
theorem EnvG.same' (e : EnvG K M γ H0 σ H ρ) (s : Same H H') : EnvG K M γ H0 σ H' ρ :=
  ⟨e.same.trans s, e.dom, e.len, fun i a h => let ⟨h1, o, h2⟩ := e.fr i a h; ⟨h1, o, s a o h2⟩, e.nd, e.dj, fun i d h => let ⟨v, q, r⟩ := e.shr i d h; ⟨v, q, r.tr (Tr.same s)⟩,
    fun i d h => let ⟨p, q1, q2, q3⟩ := e.own i d h; ⟨p, q1, q2, q3.same s⟩, fun i d h => let ⟨p, qs, q1, q2, q3⟩ := e.o2 i d h; ⟨p, qs, q1, q2, q3.same s⟩, e.al⟩
theorem EnvG.notOwn (e : EnvG K M γ H0 σ H ρ) {a : Addr} {o : HO} (h : H0 a = some o) (n : ¬ M a) : ¬ Av M γ a := fun z => by
  rcases z with z | ⟨i, h1⟩
  · exact n z
  · obtain ⟨q, _⟩ := e.fr i a h1
    rw [h] at q
    cases q
theorem EnvG.tr (e : EnvG K M γ H0 σ H ρ) : Tr M H0 (Av M γ) H := fun a o h n => ⟨e.same a o h, e.notOwn h n⟩
theorem EnvG.noM (e : EnvG K M γ H0 σ H ρ) {i : Nat} {a : Addr} (h : a ∈ γ i) : ¬ M a := fun z => by
  obtain ⟨o, q⟩ := e.dom a z
  rw [(e.fr i a h).1] at q
  cases q
theorem getSet {α : Type} {l : List α} {i j : Nat} {a b : α} (h : (l.set i a)[j]? = some b) : (i = j ∧ b = a ∧ i < l.length) ∨ (i ≠ j ∧ l[j]? = some b) := by
  rw [List.getElem?_set] at h
  by_cases hij : i = j
  · rw [if_pos hij] at h
    split at h
    · rename_i hl
      cases h
      exact .inl ⟨hij, rfl, hl⟩
    · cases h
  · rw [if_neg hij] at h
    exact .inr ⟨hij, h⟩
theorem setGet {α : Type} {l : List α} {i : Nat} {a : α} (h : i < l.length) : (l.set i a)[i]? = some a := by
  rw [List.getElem?_set, if_pos rfl, if_pos h]
theorem EnvG.set {v : V} {d : D} (e : EnvG K M γ H0 σ H ρ) (r : Rep K (Av M γ) H v d) (i : Nat) : EnvG K M γ H0 (σ.set i (some v)) H (ρ.set i (.sh d)) where
  same := e.same
  dom := e.dom
  len := by rw [List.length_set, List.length_set]; exact e.len
  fr := e.fr
  nd := e.nd
  dj := e.dj
  shr := fun j d' h => by
    rcases getSet h with ⟨hij, h2, hl⟩ | ⟨hij, h2⟩
    · cases h2
      subst hij
      exact ⟨v, setGet (by rw [e.len]; exact hl), r⟩
    · rw [List.getElem?_set_ne hij]
      exact e.shr j d' h2
  own := fun j d' h => by
    rcases getSet h with ⟨_, h2, _⟩ | ⟨hij, h2⟩
    · cases h2
    · rw [List.getElem?_set_ne hij]
      exact e.own j d' h2
  o2 := fun j d' h => by
    rcases getSet h with ⟨_, h2, _⟩ | ⟨hij, h2⟩
    · cases h2
    · rw [List.getElem?_set_ne hij]
      exact e.o2 j d' h2
  al := fun j k m d' h h' => by
    rcases getSet h with ⟨_, h2, _⟩ | ⟨hij, h2⟩
    · cases h2
    · rcases getSet h' with ⟨_, h3, _⟩ | ⟨hik, h3⟩
      · cases h3
      · rw [List.getElem?_set_ne hij]
        exact e.al j k m d' h2 h3
/-- what slot i owns is given up -/
def drop (γ : Nat → List Addr) (i : Nat) : Nat → List Addr := fun j => if j = i then [] else γ j
theorem drop_in {i j : Nat} {a : Addr} (h : a ∈ drop γ i j) : j ≠ i ∧ a ∈ γ j := by
  unfold drop at h
  by_cases hj : j = i
  · rw [if_pos hj] at h
    cases h
  · rw [if_neg hj] at h
    exact ⟨hj, h⟩
theorem drop_ne {i j : Nat} (h : j ≠ i) : drop γ i j = γ j := by unfold drop; rw [if_neg h]
theorem Av.drop {i : Nat} {a : Addr} (z : Av M (drop γ i) a) : Av M γ a := by
  rcases z with z | ⟨j, h⟩
  · exact .inl z
  · exact .inr ⟨j, (drop_in h).2⟩
/-- a slot's own list is shared from now on -/
theorem EnvG.frz (e : EnvG K M γ H0 σ H ρ) (i : Nat) : EnvG K M (drop γ i) H0 σ H (frz i ρ) := by
  have less : Tr (Av M γ) H (Av M (drop γ i)) H := Tr.less fun a z => Av.drop z
  have key : ∀ (j : Nat) (ev : EV), (Dl.frz i ρ)[j]? = some ev → (i ≠ j ∧ ρ[j]? = some ev) ∨ (i = j ∧ ∃ ev', ρ[j]? = some ev' ∧ ev = frzE ev') := fun j ev h => by
    unfold Dl.frz at h
    rcases getSet h with ⟨hij, h2, hl⟩ | ⟨hij, h2⟩
    · refine .inr ⟨hij, ρ.getD i .un, ?_, h2⟩
      rw [List.getD_eq_getElem?_getD, ← hij, List.getElem?_eq_getElem hl]
      rfl
    · exact .inl ⟨hij, h2⟩
  have no : ∀ a, a ∈ γ i → ¬ Av M (drop γ i) a := fun a h z => by
    rcases z with z | ⟨j, h2⟩
    · exact e.noM h z
    · obtain ⟨hj, h3⟩ := drop_in h2
      exact hj (e.dj j i a h3 h)
  refine ⟨e.same, e.dom, by unfold Dl.frz; rw [List.length_set]; exact e.len, fun j a h => e.fr j a (drop_in h).2, fun j => ?_, fun j k a h1 h2 => e.dj j k a (drop_in h1).2 (drop_in h2).2, fun j d h => ?_, fun j d h => ?_, fun j d h => ?_, fun j k m d h h' => ?_⟩
  · by_cases hj : j = i
    · unfold drop
      rw [if_pos hj]
      exact List.nodup_nil
    · rw [drop_ne hj]
      exact e.nd j
  · rcases key j _ h with ⟨_, h⟩ | ⟨n, ev', h, h'⟩
    · obtain ⟨v, q, r⟩ := e.shr j d h
      exact ⟨v, q, r.tr less⟩
    · cases ev' with
      | un => cases h'
      | al k m => cases h'
      | sh d' =>
        cases h'
        obtain ⟨v, q, r⟩ := e.shr j d h
        exact ⟨v, q, r.tr less⟩
      | ow d' =>
        cases h'
        obtain ⟨p, q1, q2, q3⟩ := e.own j d h
        exact ⟨_, q1, (q3.tr less rfl).rep (no p (by rw [n, q2]; exact List.mem_cons_self))⟩
      | o2 d' =>
        cases h'
        obtain ⟨p, qs, q1, q2, q3⟩ := e.o2 j d h
        exact ⟨_, q1, ((q3.tr less rfl fun _ _ => rfl).own fun q hq => no q (by rw [n, q2]; exact List.mem_cons_of_mem _ hq)).rep (no p (by rw [n, q2]; exact List.mem_cons_self))⟩
  · rcases key j _ h with ⟨n, h⟩ | ⟨n, ev', h, h'⟩
    · obtain ⟨p, q1, q2, q3⟩ := e.own j d h
      exact ⟨p, q1, by rw [drop_ne (Ne.symm n)]; exact q2, q3.tr less rfl⟩
    · cases ev' <;> cases h'
  · rcases key j _ h with ⟨n, h⟩ | ⟨n, ev', h, h'⟩
    · obtain ⟨p, qs, q1, q2, q3⟩ := e.o2 j d h
      exact ⟨p, qs, q1, by rw [drop_ne (Ne.symm n)]; exact q2, q3.tr less rfl fun _ _ => rfl⟩
    · cases ev' <;> cases h'
  · have hk : i ≠ k ∧ ρ[k]? = some (.o2 d) := by
      rcases key k _ h' with ⟨n, h⟩ | ⟨n, ev', h, h'⟩
      · exact ⟨n, h⟩
      · cases ev' <;> cases h'
    have hj : ρ[j]? = some (.al k m) := by
      rcases key j _ h with ⟨_, h⟩ | ⟨n, ev', h, h'⟩
      · exact h
      · cases ev' with
        | al k' m' => cases h'; exact h
        | _ => cases h'
    obtain ⟨p, qs, q, h1, h2, h3⟩ := e.al j k m d hj hk.2
    exact ⟨p, qs, q, by rw [drop_ne (Ne.symm hk.1)]; exact h1, h2, h3⟩
/-- slot i owns ps -/
def give (γ : Nat → List Addr) (i : Nat) (ps : List Addr) : Nat → List Addr := fun j => if j = i then ps else γ j
theorem give_same {i : Nat} {ps : List Addr} : give γ i ps i = ps := by unfold give; rw [if_pos rfl]
theorem give_ne {i j : Nat} {ps : List Addr} (h : j ≠ i) : give γ i ps j = γ j := by unfold give; rw [if_neg h]
theorem give_in {i j : Nat} {ps : List Addr} {a : Addr} (h : a ∈ give γ i ps j) : (j = i ∧ a ∈ ps) ∨ (j ≠ i ∧ a ∈ γ j) := by
  by_cases hj : j = i
  · subst hj
    rw [give_same] at h
    exact .inl ⟨rfl, h⟩
  · rw [give_ne hj] at h
    exact .inr ⟨hj, h⟩
/-- new lists at ps come to slot i (aliases to it are forgotten) -/
theorem EnvG.setG {p : Addr} {ps : List Addr} {ev : EV} {ρ' : Rho} (e : EnvG K M γ H0 σ H ρ) (s : Same H H') (hn : ∀ a ∈ ps, H a = none ∧ ∃ o, H' a = some o) (nd : ps.Nodup) (i : Nat) (hl : ρ'.length = ρ.length)
    (hρ : ∀ (j : Nat) (ev' : EV), ρ'[j]? = some ev' → ρ[j]? = some ev' ∨ ev' = EV.un) (hal : (∃ d, ev = .ow d) ∨ ∀ (j m : Nat), ρ'[j]? ≠ some (EV.al i m))
    (hev : (∃ d, ev = .ow d ∧ ps = [p] ∧ OwnRep K (Av M (give γ i ps)) H' p d) ∨ ∃ qs d, ev = .o2 d ∧ ps = p :: qs ∧ Own2 K (Av M (give γ i ps)) H' p qs d) :
    EnvG K M (give γ i ps) H0 (σ.set i (some (.ref p))) H' (ρ'.set i ev) := by
  have old : ∀ j a, a ∈ γ j → ∃ o, H a = some o := fun j a h => (e.fr j a h).2
  have tr : Tr (Av M γ) H (Av M (give γ i ps)) H' := fun a o h n => ⟨s a o h, fun z => by
    rcases z with z | ⟨j, hj⟩
    · exact n (.inl z)
    · rcases give_in hj with ⟨_, h'⟩ | ⟨_, h'⟩
      · rw [(hn a h').1] at h
        cases h
      · exact n (.inr ⟨j, h'⟩)⟩
  have un : ∀ (j : Nat) (ev' : EV), (ρ'.set i ev)[j]? = some ev' → (i = j ∧ ev' = ev ∧ i < ρ.length) ∨ (i ≠ j ∧ ((ρ[j]? = some ev' ∧ ρ'[j]? = some ev') ∨ ev' = .un)) := fun j ev' h => by
    rcases getSet h with ⟨h1, h2, h3⟩ | ⟨h1, h2⟩
    · exact .inl ⟨h1, h2, by rw [← hl]; exact h3⟩
    · rcases hρ j ev' h2 with h3 | h3
      · exact .inr ⟨h1, .inl ⟨h3, h2⟩⟩
      · exact .inr ⟨h1, .inr h3⟩
  have si : i < ρ.length → (σ.set i (some (V.ref p)))[i]? = some (some (.ref p)) := fun h => setGet (by rw [e.len]; exact h)
  refine ⟨e.same.trans s, e.dom, by rw [List.length_set, List.length_set, hl]; exact e.len, fun j a h => ?_, fun j => ?_, fun j k a h1 h2 => ?_, fun j d h => ?_, fun j d h => ?_, fun j d h => ?_, fun j k m d h h' => ?_⟩
  · rcases give_in h with ⟨_, h'⟩ | ⟨_, h'⟩
    · obtain ⟨q1, q2⟩ := hn a h'
      exact ⟨e.same.free q1, q2⟩
    · obtain ⟨q1, o, q2⟩ := e.fr j a h'
      exact ⟨q1, o, s a o q2⟩
  · by_cases hj : j = i
    · subst hj
      rw [give_same]
      exact nd
    · rw [give_ne hj]
      exact e.nd j
  · rcases give_in h1 with ⟨h1, h3⟩ | ⟨h1, h3⟩
    · rcases give_in h2 with ⟨h2, _⟩ | ⟨h2, h4⟩
      · rw [h1, h2]
      · obtain ⟨o, q⟩ := old k a h4
        rw [(hn a h3).1] at q
        cases q
    · rcases give_in h2 with ⟨h2, h4⟩ | ⟨h2, h4⟩
      · obtain ⟨o, q⟩ := old j a h3
        rw [(hn a h4).1] at q
        cases q
      · exact e.dj j k a h3 h4
  · rcases un j _ h with ⟨_, h2, _⟩ | ⟨hij, ⟨h2, _⟩ | h2⟩
    · rcases hev with ⟨d', h3, _⟩ | ⟨qs, d', h3, _⟩ <;> (rw [h3] at h2; cases h2)
    · obtain ⟨v, q, r⟩ := e.shr j d h2
      exact ⟨v, by rw [List.getElem?_set_ne hij]; exact q, r.tr tr⟩
    · cases h2
  · rcases un j _ h with ⟨h1, h2, h3⟩ | ⟨hij, ⟨h2, _⟩ | h2⟩
    · subst h1
      rcases hev with ⟨d', h4, h5, h6⟩ | ⟨qs, d', h4, _⟩
      · rw [h4] at h2
        cases h2
        exact ⟨p, si h3, by rw [give_same]; exact h5, h6⟩
      · rw [h4] at h2
        cases h2
    · obtain ⟨q, q1, q2, q3⟩ := e.own j d h2
      obtain ⟨o, q4⟩ := q3.there
      exact ⟨q, by rw [List.getElem?_set_ne hij]; exact q1, by rw [give_ne (Ne.symm hij)]; exact q2, q3.tr tr (by rw [q4, s _ _ q4])⟩
    · cases h2
  · rcases un j _ h with ⟨h1, h2, h3⟩ | ⟨hij, ⟨h2, _⟩ | h2⟩
    · subst h1
      rcases hev with ⟨d', h4, _⟩ | ⟨qs, d', h4, h5, h6⟩
      · rw [h4] at h2
        cases h2
      · rw [h4] at h2
        cases h2
        exact ⟨p, qs, si h3, by rw [give_same]; exact h5, h6⟩
    · obtain ⟨q, qs, q1, q2, q3⟩ := e.o2 j d h2
      obtain ⟨⟨o, q4⟩, q5⟩ := q3.there
      refine ⟨q, qs, by rw [List.getElem?_set_ne hij]; exact q1, by rw [give_ne (Ne.symm hij)]; exact q2, q3.tr tr (by rw [q4, s _ _ q4]) fun b hb => ?_⟩
      obtain ⟨o, q6⟩ := q5 b hb
      rw [q6, s _ _ q6]
    · cases h2
  · rcases un j _ h with ⟨_, h2, _⟩ | ⟨hij, ⟨h2, h2'⟩ | h2⟩
    · rcases hev with ⟨d', h3, _⟩ | ⟨qs, d', h3, _⟩ <;> (rw [h3] at h2; cases h2)
    · rcases un k _ h' with ⟨h3, h4, _⟩ | ⟨hik, ⟨h3, _⟩ | h3⟩
      · subst h3
        rcases hal with ⟨d', h5⟩ | h5
        · rw [h5] at h4
          cases h4
        · exact absurd h2' (h5 j m)
      · obtain ⟨a, qs, q, g1, g2, g3⟩ := e.al j k m d h2 h3
        exact ⟨a, qs, q, by rw [give_ne (Ne.symm hik)]; exact g1, g2, by rw [List.getElem?_set_ne hij]; exact g3⟩
      · cases h3
    · cases h2
theorem setN_old {i : Nat} {p : Addr} : ∀ a, Av M (give γ i [p]) a → Av M γ a ∨ a = p := fun a z => by
  rcases z with z | ⟨j, hj⟩
  · exact .inl (.inl z)
  · rcases give_in hj with ⟨_, h⟩ | ⟨_, h⟩
    · exact .inr (List.mem_singleton.mp h)
    · exact .inl (.inr ⟨j, h⟩)
/-- a new list comes to a slot -/
theorem EnvG.setN {p : Addr} {d : D} (e : EnvG K M γ H0 σ H ρ) (n : NewAt K (Av M γ) H H' p d) (i : Nat) : EnvOk K M H0 (σ.set i (some (.ref p))) H' (ρ.set i (.ow d)) := by
  obtain ⟨s, hp, ow⟩ := n
  exact ⟨_, e.setG (p := p) (ps := [p]) (ev := .ow d) s (fun a h => by rw [List.mem_singleton.mp h]; exact ⟨hp, ow.there⟩) (by simp) i rfl (fun j ev' h => .inl h) (.inl ⟨d, rfl⟩) (.inl ⟨d, rfl, rfl, ow.tr (Tr.less setN_old) rfl⟩)⟩
/-- a new list of new lists: p, its items at qs -/
def NewAt2 (K : PySem.W.Frag) (A : Addr → Prop) (H H' : Hp) (p : Addr) (d : D) : Prop := ∃ qs, Same H H' ∧ (p :: qs).Nodup ∧ (∀ a ∈ p :: qs, H a = none) ∧ Own2 K (fun a => A a ∨ a ∈ p :: qs) H' p qs d
theorem kill_of {i j : Nat} {ev' : EV} (h : (ρ.map (killE i))[j]? = some ev') : (ρ[j]? = some ev' ∨ ev' = .un) ∧ ∀ m, ev' ≠ .al i m := by
  rw [List.getElem?_map] at h
  cases q : ρ[j]? with
  | none => rw [q] at h; cases h
  | some ev =>
    rw [q] at h
    have h := Option.some.inj h
    cases ev with
    | al k m =>
      have h : (if k = i then EV.un else EV.al k m) = ev' := h
      split at h
      · subst h
        exact ⟨.inr rfl, fun m z => by cases z⟩
      · rename_i hk
        subst h
        exact ⟨.inl rfl, fun m' z => by cases z; exact hk rfl⟩
    | _ => subst h; exact ⟨.inl rfl, fun m' z => by cases z⟩
theorem EnvG.setN2 {p : Addr} {d : D} (e : EnvG K M γ H0 σ H ρ) (n : NewAt2 K (Av M γ) H H' p d) (i : Nat) : EnvOk K M H0 (σ.set i (some (.ref p))) H' ((ρ.map (killE i)).set i (.o2 d)) := by
  obtain ⟨qs, s, nd, hn, ow⟩ := n
  obtain ⟨t1, t2⟩ := ow.there
  refine ⟨_, e.setG (p := p) (ps := p :: qs) (ev := .o2 d) s (fun a h => ⟨hn a h, ?_⟩) nd i (by rw [List.length_map]) (fun j ev' h => (kill_of h).1) (.inr fun j m h => (kill_of h).2 m rfl) (.inr ⟨qs, d, rfl, rfl, ow.tr (Tr.less fun a z => ?_) rfl fun _ _ => rfl⟩)⟩
  · rcases List.mem_cons.mp h with rfl | h
    · exact t1
    · exact t2 a h
  · rcases z with z | ⟨j, hj⟩
    · exact .inl (.inl z)
    · rcases give_in hj with ⟨_, h⟩ | ⟨_, h⟩
      · exact .inr h
      · exact .inl (.inr ⟨j, h⟩)
/-- one of the lists that slot k owns is changed, at a; what slot k is then is told by ev. More may be owned by k then (ps) -/
theorem EnvG.putG {a : Addr} {ps : List Addr} {k : Nat} {o : HO} {ev ev' : EV} (e : EnvG K M γ H0 σ H ρ) (ha : a ∈ γ k) (s : Same H H') (hk : ρ[k]? = some ev') (hps : ∀ b, b ∈ γ k → b ∈ ps) (hn : ∀ b ∈ ps, b ∈ γ k ∨ (H b = none ∧ ∃ o, H' b = some o)) (nd : ps.Nodup)
    (hev : (∃ d p, ev = .ow d ∧ σ[k]? = some (some (.ref p)) ∧ ps = [p] ∧ OwnRep K (Av M (give γ k ps)) (upd H' a o) p d) ∨
      ∃ d p qs, ev = .o2 d ∧ σ[k]? = some (some (.ref p)) ∧ ps = p :: qs ∧ Own2 K (Av M (give γ k ps)) (upd H' a o) p qs d ∧ (∃ d', ev' = .o2 d') ∧ ∀ p' qs', γ k = p' :: qs' → ∀ (m : Nat) q, qs'[m]? = some q → qs[m]? = some q) :
    EnvG K M (give γ k ps) H0 σ (upd H' a o) (ρ.set k ev) := by
  have kl : k < ρ.length := (List.getElem?_eq_some_iff.mp hk).1
  have na : Av M γ a := .inr ⟨k, ha⟩
  have h0 : H0 a = none := (e.fr k a ha).1
  have tr : Tr (Av M γ) H (Av M (give γ k ps)) (upd H' a o) := fun b u h n => ⟨by rw [upd_ne (fun z => n (by rw [z]; exact na))]; exact s _ _ h, fun z => by
    rcases z with z | ⟨j, hj⟩
    · exact n (.inl z)
    · rcases give_in hj with ⟨_, h'⟩ | ⟨_, h'⟩
      · rcases hn b h' with h2 | ⟨h2, _⟩
        · exact n (.inr ⟨k, h2⟩)
        · rw [h2] at h
          cases h
      · exact n (.inr ⟨j, h'⟩)⟩
  have ne : ∀ j, j ≠ k → ∀ b, b ∈ γ j → b ≠ a := fun j hj b hb z => hj (e.dj j k a (z ▸ hb) ha)
  have keep : ∀ j, j ≠ k → ∀ b, b ∈ γ j → upd H' a o b = H b := fun j hj b hb => by
    obtain ⟨u, q⟩ := (e.fr j b hb).2
    rw [upd_ne (ne j hj b hb), q, s _ _ q]
  refine ⟨fun b u h => ?_, e.dom, by rw [List.length_set]; exact e.len, fun j b h => ?_, fun j => ?_, fun j j' b h1 h2 => ?_, fun j d h => ?_, fun j d h => ?_, fun j d h => ?_, fun j k' m d h h' => ?_⟩
  · rw [upd_ne (fun z => by rw [z, h0] at h; cases h)]
    exact s _ _ (e.same b u h)
  · have there : ∀ b, (∃ u, H' b = some u) → ∃ u, upd H' a o b = some u := fun b ⟨u, hu⟩ => by
      by_cases z : b = a
      · exact ⟨o, by rw [z]; exact upd_same⟩
      · exact ⟨u, by rw [upd_ne z]; exact hu⟩
    have old : ∀ j, b ∈ γ j → H0 b = none ∧ ∃ u, upd H' a o b = some u := fun j hj => by
      obtain ⟨q1, u, q2⟩ := e.fr j b hj
      exact ⟨q1, there b ⟨u, s _ _ q2⟩⟩
    rcases give_in h with ⟨_, h'⟩ | ⟨_, h'⟩
    · rcases hn b h' with h2 | ⟨h2, h3⟩
      · exact old k h2
      · exact ⟨e.same.free h2, there b h3⟩
    · exact old j h'
  · by_cases hj : j = k
    · subst hj
      rw [give_same]
      exact nd
    · rw [give_ne hj]
      exact e.nd j
  · have mix : ∀ j, j ≠ k → b ∈ γ j → b ∈ ps → False := fun j hj h1 h2 => by
      rcases hn b h2 with h3 | ⟨h3, _⟩
      · exact hj (e.dj j k b h1 h3)
      · obtain ⟨u, q⟩ := (e.fr j b h1).2
        rw [h3] at q
        cases q
    rcases give_in h1 with ⟨h1, h3⟩ | ⟨h1, h3⟩
    · rcases give_in h2 with ⟨h2, _⟩ | ⟨h2, h4⟩
      · rw [h1, h2]
      · exact (mix j' h2 h4 h3).elim
    · rcases give_in h2 with ⟨h2, h4⟩ | ⟨h2, h4⟩
      · exact (mix j h1 h3 h4).elim
      · exact e.dj j j' b h3 h4
  · rcases getSet h with ⟨_, h2, _⟩ | ⟨_, h2⟩
    · rcases hev with ⟨d', p, h3, _⟩ | ⟨d', p, qs, h3, _⟩ <;> (rw [h3] at h2; cases h2)
    · obtain ⟨v, q, r⟩ := e.shr j d h2
      exact ⟨v, q, r.tr tr⟩
  · rcases getSet h with ⟨hkj, h2, _⟩ | ⟨hkj, h2⟩
    · subst hkj
      rcases hev with ⟨d', p, h3, h4, h5, h6⟩ | ⟨d', p, qs, h3, _⟩
      · rw [h3] at h2
        cases h2
        exact ⟨p, h4, by rw [give_same]; exact h5, h6⟩
      · rw [h3] at h2
        cases h2
    · obtain ⟨p, q1, q2, q3⟩ := e.own j d h2
      exact ⟨p, q1, by rw [give_ne (Ne.symm hkj)]; exact q2, q3.tr tr (keep j (Ne.symm hkj) p (by rw [q2]; exact List.mem_cons_self))⟩
  · rcases getSet h with ⟨hkj, h2, _⟩ | ⟨hkj, h2⟩
    · subst hkj
      rcases hev with ⟨d', p, h3, _⟩ | ⟨d', p, qs, h3, h4, h5, h6, _⟩
      · rw [h3] at h2
        cases h2
      · rw [h3] at h2
        cases h2
        exact ⟨p, qs, h4, by rw [give_same]; exact h5, h6⟩
    · obtain ⟨p, qs, q1, q2, q3⟩ := e.o2 j d h2
      exact ⟨p, qs, q1, by rw [give_ne (Ne.symm hkj)]; exact q2, q3.tr tr (keep j (Ne.symm hkj) p (by rw [q2]; exact List.mem_cons_self)) fun b hb => keep j (Ne.symm hkj) b (by rw [q2]; exact List.mem_cons_of_mem _ hb)⟩
  · rcases getSet h with ⟨_, h2, _⟩ | ⟨_, h2⟩
    · rcases hev with ⟨d', p, h3, _⟩ | ⟨d', p, qs, h3, _⟩ <;> (rw [h3] at h2; cases h2)
    · rcases getSet h' with ⟨hkk, h3, _⟩ | ⟨hkk, h3⟩
      · subst hkk
        rcases hev with ⟨d', p, h4, _⟩ | ⟨d', p, qs, h4, h5, h6, h7, ⟨d2, h8⟩, h9⟩
        · rw [h4] at h3
          cases h3
        · rw [h8] at hk
          obtain ⟨p', qs', q, g1, g2, g3⟩ := e.al j k m d2 h2 hk
          exact ⟨p, qs, q, by rw [give_same]; exact h6, h9 p' qs' g1 m q g2, g3⟩
      · obtain ⟨p', qs', q, g1, g2, g3⟩ := e.al j k' m d h2 h3
        exact ⟨p', qs', q, by rw [give_ne (Ne.symm hkk)]; exact g1, g2, g3⟩
theorem give_self {i : Nat} : give γ i (γ i) = γ := by
  funext j
  by_cases hj : j = i
  · rw [hj, give_same]
  · rw [give_ne hj]
/-- a slot's own list or dict is changed -/
theorem EnvG.put {p : Addr} {d d' : D} {i : Nat} {o : HO} (e : EnvG K M γ H0 σ H ρ) (h1 : ρ[i]? = some (.ow d)) (h2 : σ[i]? = some (some (.ref p))) (hg : γ i = [p]) (ow : OwnRep K (Av M γ) (upd H p o) p d') : EnvG K M γ H0 σ (upd H p o) (ρ.set i (.ow d')) := by
  have := e.putG (a := p) (ps := [p]) (k := i) (o := o) (ev := .ow d') (by rw [hg]; simp) (Same.refl H) h1 (fun b h => by rw [hg] at h; exact h) (fun b h => .inl (by rw [hg]; exact h)) (by simp) (.inl ⟨d', p, rfl, h2, rfl, by rw [← hg, give_self]; exact ow⟩)
  rw [← hg, give_self] at this
  exact this
/-- another name for an inner list -/
theorem EnvG.alias {i k m : Nat} {d : D} {p q : Addr} {qs : List Addr} (e : EnvG K M γ H0 σ H ρ) (hik : i ≠ k) (h1 : ρ[k]? = some (.o2 d)) (hg : γ k = p :: qs) (hq : qs[m]? = some q) : EnvG K M γ H0 (σ.set i (some (.ref q))) H (ρ.set i (.al k m)) where
  same := e.same
  dom := e.dom
  len := by rw [List.length_set, List.length_set]; exact e.len
  fr := e.fr
  nd := e.nd
  dj := e.dj
  shr := fun j d' h => by
    rcases getSet h with ⟨_, h2, _⟩ | ⟨hij, h2⟩
    · cases h2
    · rw [List.getElem?_set_ne hij]
      exact e.shr j d' h2
  own := fun j d' h => by
    rcases getSet h with ⟨_, h2, _⟩ | ⟨hij, h2⟩
    · cases h2
    · rw [List.getElem?_set_ne hij]
      exact e.own j d' h2
  o2 := fun j d' h => by
    rcases getSet h with ⟨_, h2, _⟩ | ⟨hij, h2⟩
    · cases h2
    · rw [List.getElem?_set_ne hij]
      exact e.o2 j d' h2
  al := fun j k' m' d' h h' => by
    rcases getSet h' with ⟨_, h3, _⟩ | ⟨_, h3⟩
    · cases h3
    · rcases getSet h with ⟨hij, h2, hl⟩ | ⟨hij, h2⟩
      · cases h2
        subst hij
        exact ⟨p, qs, q, hg, hq, setGet (by rw [e.len]; exact hl)⟩
      · rw [List.getElem?_set_ne hij]
        exact e.al j k' m' d' h2 h3
/-- H without what is owned: as a loop's body's entry -/
noncomputable def hide (γ : Nat → List Addr) (H : Hp) : Hp := fun a => open Classical in if ∃ i, a ∈ γ i then none else H a
theorem hide_of {a : Addr} (h : ¬ ∃ i, a ∈ γ i) : hide γ H a = H a := by unfold hide; rw [if_neg h]
theorem hide_own {a : Addr} (h : ∃ i, a ∈ γ i) : hide γ H a = none := by unfold hide; rw [if_pos h]
theorem EnvG.h0 (e : EnvG K M γ H0 σ H ρ) {a : Addr} {o : HO} (h : H0 a = some o) : ¬ ∃ i, a ∈ γ i := fun ⟨i, h1⟩ => by
  rw [(e.fr i a h1).1] at h
  cases h
theorem EnvG.sub (e : EnvG K M γ H0 σ H ρ) : Same H0 (hide γ H) := fun a o h => by rw [hide_of (e.h0 h)]; exact e.same a o h
theorem EnvG.hide (e : EnvG K M γ H0 σ H ρ) : EnvG K M γ (hide γ H) σ H ρ where
  same := fun a o h => by
    unfold Dl.hide at h
    split at h
    · cases h
    · exact h
  dom := fun a z => by
    obtain ⟨o, q⟩ := e.dom a z
    exact ⟨o, e.sub a o q⟩
  len := e.len
  fr := fun i a h => ⟨hide_own ⟨i, h⟩, (e.fr i a h).2⟩
  nd := e.nd
  dj := e.dj
  shr := e.shr
  own := e.own
  o2 := e.o2
  al := e.al
theorem EnvG.weak {H0' : Hp} (e : EnvG K M γ H0' σ H ρ) (s : Same H0 H0') (dm : Dom M H0) : EnvG K M γ H0 σ H ρ :=
  ⟨s.trans e.same, dm, e.len, fun i a h => ⟨s.free (e.fr i a h).1, (e.fr i a h).2⟩, e.nd, e.dj, e.shr, e.own, e.o2, e.al⟩
theorem EnvOk.weak {H0' : Hp} (e : EnvOk K M H0' σ H ρ) (s : Same H0 H0') (dm : Dom M H0) : EnvOk K M H0 σ H ρ := let ⟨γ, e⟩ := e; ⟨γ, e.weak s dm⟩
theorem EnvOk.same (e : EnvOk K M H0 σ H ρ) : Same H0 H := let ⟨_, e⟩ := e; e.same
/-- what a loop walks, ahead of the loop's first turn -/
theorem EnvG.trHide (e : EnvG K M γ H0 σ H ρ) : Tr (Av M γ) H M (Dl.hide γ H) := fun a o h n => ⟨by rw [hide_of fun z => n (.inr z)]; exact h, fun z => n (.inl z)⟩
end
theorem RetRep.weak {K : PySem.W.Frag} {M : Addr → Prop} {H0 H0' H : Hp} {v : V} {r : Bool × D} (h : RetRep K M H0' H v r) (s : Same H0 H0') : RetRep K M H0 H v r := by
  obtain ⟨s1, h0, h1⟩ := h
  exact ⟨s.trans s1, h0, fun q => let ⟨p, e, n⟩ := h1 q; ⟨p, e, n.back s⟩⟩

/-! ### statements -/
def PostS (K : PySem.W.Frag) (mg : Str → Option Value) (W : WX) (M : Addr → Prop) (H0 : Hp) (E : Ends) (r : SRes) : Prop := match r with
  | .nx ρ => ∀ σ H, EnvOk K M H0 σ H ρ → E.nx σ H
  | .bk ρ => ∀ σ H, EnvOk K M H0 σ H ρ → E.bk σ H
  | .ct ρ => ∀ σ H, EnvOk K M H0 σ H ρ → E.ct σ H
  | .rt b d => ∀ v H, RetRep K M H0 H v (b, d) → E.rt v H
  | .ex c ρ => ∀ σ H, EnvOk K M H0 σ H ρ → XW mg W σ H c
  | .no => False
def SR (K : PySem.W.Frag) (mg : Str → Option Value) (W : WX) (t : TS) (F : FS) : Prop := ∀ (M : Addr → Prop) (H0 : Hp) (σ : St) (H : Hp) (ρ : Rho) (E : Ends), EnvOk K M H0 σ H ρ → PostS K mg W M H0 E (F ρ) → t E σ H
structure DS (K : PySem.W.Frag) (mg : Str → Option Value) (X : Cx) (W : WX) (s : Stmt) (t : TS) (F : FS) : Prop where
  ps : PS X s t
  sr : SR K mg W t F
structure DSs (K : PySem.W.Frag) (mg : Str → Option Value) (X : Cx) (W : WX) (s : List Stmt) (t : TS) (F : FS) : Prop where
  ps : PSs X s t
  sr : SR K mg W t F
theorem post_toS {α : Type} {γ : Nat → List Addr} {K : PySem.W.Frag} {mg : Str → Option Value} {W : WX} {M : Addr → Prop} {H0 : Hp} {E : Ends} {x : Out α} {ρ : Rho} {f : α → SRes} {σ : St} {H : Hp} (e : EnvG K M γ H0 σ H ρ) (p : PostS K mg W M H0 E (x.toS ρ f)) :
    x.post (fun a => PostS K mg W M H0 E (f a)) (XW mg W σ H) := by
  cases x with
  | ok a => exact p
  | ex c => exact p σ H e.ok
  | no => exact p
/-- targets, as statements have them -/
def GRS (K : PySem.W.Frag) (g : TG) (fg : FG) : Prop := ∀ (M : Addr → Prop) (γ : Nat → List Addr) (H0 : Hp) (σ : St) (H : Hp) (ρ : Rho) (v : V) (d : D) (Q : St → Hp → Prop), EnvG K M γ H0 σ H ρ → Rep K (Av M γ) H v d →
  (fg d ρ).post (fun ρ' => ∀ σ', EnvG K M γ H0 σ' H ρ' → Q σ' H) (fun _ => False) → g v σ H Q
def GRSs (K : PySem.W.Frag) (g : TGs) (fg : FGs) : Prop := ∀ (M : Addr → Prop) (γ : Nat → List Addr) (H0 : Hp) (σ : St) (H : Hp) (ρ : Rho) (vs : List V) (ds : List D) (Q : St → Hp → Prop), EnvG K M γ H0 σ H ρ → RepAll K (Av M γ) H vs ds →
  (fg ds ρ).post (fun ρ' => ∀ σ', EnvG K M γ H0 σ' H ρ' → Q σ' H) (fun _ => False) → g vs σ H Q
structure DG (K : PySem.W.Frag) (X : Cx) (tg : Expr) (g : TG) (fg : FG) : Prop where
  c : X.K = K
  pg : PG X tg g
  gr : GRS K g fg
structure DGs (K : PySem.W.Frag) (X : Cx) (tg : List Expr) (g : TGs) (fg : FGs) : Prop where
  c : X.K = K
  pg : PGs X tg g
  gr : GRSs K g fg
section
variable {K : PySem.W.Frag}
theorem grs_name (i : Nat) : GRS K (gName i) (gSet i) := fun M γ H0 σ H ρ v d Q e r p => p _ (e.set r i)
theorem grss_nil : GRSs K gNil gsNil := fun M γ H0 σ H ρ vs ds Q e r p => by
  cases r with
  | nil => exact ⟨rfl, p _ e⟩
  | cons _ _ => exact p.elim
theorem grss_cons {g : TG} {u : TGs} {fg : FG} {fu : FGs} (h1 : GRS K g fg) (h2 : GRSs K u fu) : GRSs K (gCons g u) (gsCons fg fu) := fun M γ H0 σ H ρ vs ds Q e r p => by
  cases r with
  | nil => exact p.elim
  | cons r rs =>
    rename_i v vs d ds
    have p' : ((fg d ρ).bind fun ρ' => fu ds ρ').post _ _ := p
    rw [post_bind] at p'
    exact ⟨v, vs, rfl, h1 M γ H0 σ H ρ v d _ e r (p'.mono (fun ρ' _ q σ' e' => h2 M γ H0 σ' H ρ' vs ds Q e' rs q) fun _ z => z)⟩
theorem grs_tup {n : Nat} {u : TGs} {fu : FGs} (h : GRSs K u fu) : GRS K (L2.gTup K n u) (Dl.gTup n fu) := fun M γ H0 σ H ρ v d Q e r p => by
  cases d with
  | tuple ds =>
    have p' : (if ds.length = n then fu ds ρ else no).post (fun ρ' => ∀ σ', EnvG K M γ H0 σ' H ρ' → Q σ' H) (fun _ => False) := p
    split at p'
    · rename_i hn
      obtain ⟨a, xs, rfl, h1, h2, _⟩ := r.b.tup
      exact ⟨a, xs, rfl, h1, by rw [h2.length]; exact hn, h M γ H0 σ H ρ xs ds Q e h2 p'⟩
    · exact p'.elim
  | _ => exact p.elim
end
section
variable {K : PySem.W.Frag} {X : Cx} {pos : Pos}
theorem g_v (i : Nat) {x : Str} (hN : X.N.Nodup) (hi : X.N[i]? = some x := by rfl) (hx : Loc X.env.scope x := by first | exact Or.inl rfl | exact Or.inr rfl) (hf : X.fn x = true ∨ X.env.scope.names.lookup x = some .local := by first | exact .inl rfl | exact .inr rfl | assumption) (c : X.K = K := by rfl) : DG K X (.Name x pos) (gName i) (gSet i) :=
  ⟨c, pg_name hN hi hx hf, grs_name i⟩
theorem gs_nil (c : X.K = K := by rfl) : DGs K X [] gNil gsNil := ⟨c, pgs_nil, grss_nil⟩
theorem gs_cons {e : Expr} {es : List Expr} {g : TG} {u : TGs} {fg : FG} {fu : FGs} (h1 : DG K X e g fg) (h2 : DGs K X es u fu)
    (hs : (assignEach (e :: es) X.env).map (·.2) = assign e X.env :: (assignEach es X.env).map (·.2) := by rfl) : DGs K X (e :: es) (gCons g u) (gsCons fg fu) := ⟨h1.c, pgs_cons h1.pg h2.pg hs, grss_cons h1.gr h2.gr⟩
theorem g_tup {es : List Expr} {k n : Nat} {u : TGs} {fu : FGs} (hc : X.calm = true) (h : DGs K X es u fu) (hn : (assignEach es X.env).length = n := by rfl) (hst : (assignEach es X.env).findIdx? (·.1) = none := by rfl) :
    DG K X (.Tuple es k pos) (L2.gTup K n u) (Dl.gTup n fu) := ⟨h.c, by have := pg_tup (pos := pos) (k := k) hc h.pg hn hst; rw [h.c] at this; exact this, grs_tup h.gr⟩
end
section
variable {K : PySem.W.Frag} {mg : Str → Option Value} {W : WX} {t u : TS} {F G : FS} {te : TE} {fe : FE} {c : TT} {fc : FT}
theorem sr_next : SR K mg W tNext sNext := fun M H0 σ H ρ E e p => p σ H e
theorem sr_seq (h1 : SR K mg W t F) (h2 : SR K mg W u G) : SR K mg W (tSeq t u) (sSeq F G) := fun M H0 σ H ρ E e p => by
  refine h1 M H0 σ H ρ _ e ?_
  unfold sSeq at p
  cases q : F ρ with
  | nx ρ' =>
    rw [q] at p
    exact fun σ' H' e' => h2 M H0 σ' H' ρ' E e' p
  | rt b d => rw [q] at p; exact p
  | bk ρ' => rw [q] at p; exact p
  | ct ρ' => rw [q] at p; exact p
  | ex c ρ' => rw [q] at p; exact p
  | no => rw [q] at p; exact p
theorem sr_frz (i : Nat) (h : SR K mg W t F) : SR K mg W t (sFrz i F) := fun M H0 σ H ρ E ⟨γ, e⟩ p => h M H0 σ H (frz i ρ) E (e.frz i).ok p
theorem sr_break : SR K mg W tBreak sBreak := fun M H0 σ H ρ E e p => p σ H e
theorem sr_cont : SR K mg W tCont sCont := fun M H0 σ H ρ E e p => p σ H e
theorem sr_drop (h : DR K mg W te fe) : SR K mg W (tDrop te) (sDrop fe) := fun M H0 σ H ρ E ⟨γ, e⟩ p =>
  h _ σ H ρ _ e.e ((post_toS e p).mono (fun d _ q v H' s r => q σ H' (e.same' s).ok) fun _ z => z)
theorem sr_ret (h : DR K mg W te fe) : SR K mg W (tRet te) (sRet fe) := fun M H0 σ H ρ E ⟨γ, e⟩ p =>
  h _ σ H ρ _ e.e ((post_toS e p).mono (fun d _ q v H' s r => q v H' ⟨e.same.trans s, fun _ => r.tr (Tr.less fun a z => .inl z), fun z => nomatch z⟩) fun _ z => z)
theorem sr_retN (h : DN K mg W te fe) : SR K mg W (tRet te) (sRetN fe) := fun M H0 σ H ρ E ⟨γ, e⟩ p =>
  h _ σ H ρ _ e.e ((post_toS e p).mono (fun d _ q a H' n => q _ H' ⟨e.same.trans n.1, fun z => (nomatch z), fun _ => ⟨a, rfl, e.same.trans n.1, e.same.free n.2.1, n.2.2.tr (Tr.less fun b z => z.elim (fun z => .inl (.inl z)) .inr) rfl⟩⟩) fun _ z => z)
theorem sr_ret0 : SR K mg W tRetN sRet0 := fun M H0 σ H ρ E e p => p .non H ⟨e.same, fun _ => .non, fun z => nomatch z⟩
theorem sr_retO (i : Nat) : SR K mg W (tRet (tVar i)) (sRetO i) := fun M H0 σ H ρ E ⟨γ, e⟩ p => by
  have p' := post_toS e p
  rw [List.getD_eq_getElem?_getD] at p'
  have less : ∀ (p : Addr), p ∈ γ i → (∀ a, (M a ∨ a = p) → Av M γ a) := fun p hp a z => by
    rcases z with z | z
    · exact .inl z
    · rw [z]; exact .inr ⟨i, hp⟩
  cases q : ρ[i]? with
  | none => rw [q] at p'; exact p'.elim
  | some ev =>
    rw [q] at p'
    cases ev with
    | ow d =>
      obtain ⟨a, h2, hg, h4⟩ := e.own i d q
      have ha : a ∈ γ i := by rw [hg]; exact List.mem_cons_self
      exact ⟨_, h2, p' _ H ⟨e.same, fun z => (nomatch z), fun _ => ⟨a, rfl, e.same, (e.fr i a ha).1, h4.tr (Tr.less (less a ha)) rfl⟩⟩⟩
    | o2 d =>
      obtain ⟨a, qs, h2, hg, h4⟩ := e.o2 i d q
      have ha : a ∈ γ i := by rw [hg]; exact List.mem_cons_self
      refine ⟨_, h2, p' _ H ⟨e.same, fun z => (nomatch z), fun _ => ⟨a, rfl, e.same, (e.fr i a ha).1, (h4.tr (Tr.less (less a ha)) rfl fun _ _ => rfl).own fun q hq z => ?_⟩⟩⟩
      have hq' : q ∈ γ i := by rw [hg]; exact List.mem_cons_of_mem _ hq
      rcases z with z | z
      · exact e.noM hq' z
      · have := e.nd i
        rw [hg, List.nodup_cons] at this
        exact this.1 (z ▸ hq)
    | _ => exact p'.elim
theorem sr_if (h : DT K mg W c fc) (h1 : SR K mg W t F) (h2 : SR K mg W u G) : SR K mg W (tIfS c t u) (sIf fc F G) := fun M H0 σ H ρ E ⟨γ, e⟩ p =>
  h _ σ H ρ _ e.e ((post_toS e p).mono (fun b _ q H' s => by
    cases b with
    | true => exact h1 M H0 σ H' ρ E (e.same' s).ok q
    | false => exact h2 M H0 σ H' ρ E (e.same' s).ok q) fun _ z => z)
theorem sr_asg {g : TG} {fg : FG} (h : DR K mg W te fe) (hg : GRS K g fg) : SR K mg W (tAsg te g) (sAsg fe fg) := fun M H0 σ H ρ E ⟨γ, e⟩ p =>
  h _ σ H ρ _ e.e ((post_toS e p).mono (fun d _ q v H' s r => by
    have e' := e.same' s
    have q' : PostS K mg W M H0 E ((fg d ρ).calm.toS ρ .nx) := q
    refine hg M γ H0 σ H' ρ v d _ e' r ?_
    cases z : fg d ρ with
    | ok ρ' => rw [z] at q'; exact fun σ' e2 => q' σ' H' e2.ok
    | ex c' => rw [z] at q'; exact q'.elim
    | no => rw [z] at q'; exact q'.elim) fun _ z => z)
theorem sr_setN (i : Nat) (h : DN K mg W te fe) : SR K mg W (tAsg te (gName i)) (sSetN fe i) := fun M H0 σ H ρ E ⟨γ, e⟩ p =>
  h _ σ H ρ _ e.e ((post_toS e p).mono (fun d _ q a H' n => q _ H' (e.setN n i)) fun _ z => z)
end
end Dl

set_option maxRecDepth 100000
set_option maxHeartbeats 4000000
/-! The data layer, part h: lists that change, loops, statements with their syntax, defs. -/
namespace Dl
open PySem L2
open Out
section
variable {K : PySem.W.Frag} {mg : Str → Option Value} {W : WX} {t u : TS} {F G : FS} {te tk : TE} {fe fk : FE} {c : TT} {fc : FT}
theorem owL_of {M : Addr → Prop} {γ : Nat → List Addr} {H0 H : Hp} {σ : St} {ρ : Rho} {i : Nat} {P : List D → Prop} {Wc : String → Prop} (e : EnvG K M γ H0 σ H ρ) (p : (owL (slot i ρ)).post P Wc) :
    ∃ ds a xs, ρ[i]? = some (.ow (.list ds)) ∧ σ[i]? = some (some (.ref a)) ∧ γ i = [a] ∧ H a = some (.lst xs) ∧ RepAll K (Av M γ) H xs ds ∧ P ds := by
  unfold slot at p
  rw [List.getD_eq_getElem?_getD] at p
  cases q : ρ[i]? with
  | none => rw [q] at p; exact p.elim
  | some ev =>
    rw [q] at p
    cases ev with
    | ow d =>
      cases d with
      | list ds =>
        obtain ⟨a, h2, h3, h4⟩ := e.own i _ q
        cases h4 with
        | lst e r => exact ⟨ds, a, _, rfl, h2, h3, e, r, p⟩
      | _ => exact p.elim
    | _ => exact p.elim
theorem o2L_of {M : Addr → Prop} {γ : Nat → List Addr} {H0 H : Hp} {σ : St} {ρ : Rho} {i : Nat} {P : List D → Prop} {Wc : String → Prop} (e : EnvG K M γ H0 σ H ρ) (p : (o2L (slot i ρ)).post P Wc) :
    ∃ ds a qs, ρ[i]? = some (.o2 (.list ds)) ∧ σ[i]? = some (some (.ref a)) ∧ γ i = a :: qs ∧ H a = some (.lst (qs.map V.ref)) ∧ Paired (OwnRep K (Av M γ) H) qs ds ∧ P ds := by
  unfold slot at p
  rw [List.getD_eq_getElem?_getD] at p
  cases q : ρ[i]? with
  | none => rw [q] at p; exact p.elim
  | some ev =>
    rw [q] at p
    cases ev with
    | o2 d =>
      cases d with
      | list ds =>
        obtain ⟨a, qs, h2, h3, h4⟩ := e.o2 i _ q
        cases h4 with
        | lst e r => exact ⟨ds, a, qs, rfl, h2, h3, e, r, p⟩
      | _ => exact p.elim
    | _ => exact p.elim
theorem upd_tr {A A' : Addr → Prop} {H : Hp} {a : Addr} {o : HO} (h : A a) (s : ∀ b, A' b → A b) : Tr A H A' (upd H a o) := fun b u e n => ⟨by rw [upd_ne (fun z => n (by rw [z]; exact h))]; exact e, fun z => n (s b z)⟩
/-- the owned list in slot i becomes ys -/
theorem EnvG.putL {M : Addr → Prop} {γ : Nat → List Addr} {H0 H : Hp} {σ : St} {ρ : Rho} {i : Nat} {d : D} {a : Addr} {ys : List V} {es : List D} (e : EnvG K M γ H0 σ H ρ) (h1 : ρ[i]? = some (.ow d)) (h2 : σ[i]? = some (some (.ref a))) (hg : γ i = [a]) (r : RepAll K (Av M γ) H ys es) :
    EnvG K M γ H0 σ (upd H a (.lst ys)) (ρ.set i (.ow (.list es))) := e.put h1 h2 hg (.lst upd_same (r.tr (upd_tr (.inr ⟨i, by rw [hg]; exact List.mem_cons_self⟩) fun _ z => z)))
theorem sr_app (i : Nat) (h : DR K mg W te fe) : SR K mg W (tDrop (tBM K "list" rAppend (tVar i) (tCons te tNil))) (sApp i fe) := fun M H0 σ H ρ E ⟨γ, e⟩ p => by
  obtain ⟨ds, a, xs, h1, h2, h3, h4, h5, p⟩ := owL_of e (post_toS e p)
  refine ⟨_, h2, .inl ⟨rfl, _, SqL.of h4⟩, ?_⟩
  refine h _ σ H ρ _ e.e ((post_toS e p).mono (fun y _ p v H1 s1 rv => ?_) fun _ z => z)
  split at p
  · rename_i hz
    exact ⟨a, xs, v, rfl, rfl, s1 _ _ h4, by rw [h5.length]; exact hz, p σ _ ((e.same' s1).putL h1 h2 h3 ((h5.tr (Tr.same s1)).append (.cons rv .nil))).ok⟩
  · exact p.elim
theorem sr_put (i : Nat) (h : DR K mg W te fe) (hk : DB K mg W tk fk) : SR K mg W (tAsg te (gSub (tVar i) tk rSetL)) (sPut i fk fe) := fun M H0 σ H ρ E ⟨γ, e⟩ p => by
  refine h _ σ H ρ _ e.e ((post_toS e p).mono (fun y _ p v H1 s1 rv => ?_) fun _ z => z)
  have e1 := e.same' s1
  obtain ⟨ds, a, xs, h1, h2, h3, h4, h5, p⟩ := owL_of e1 (post_toS e1 p)
  refine ⟨_, h2, ?_⟩
  refine hk _ σ H1 ρ _ e1.e ((post_toS e1 p).mono (fun k _ p w H2 s2 rk => ?_) fun _ z => z)
  have e2 := e1.same' s2
  cases k with
  | int k =>
    rw [rk.int]
    have p' := post_toS e2 (show PostS K mg W M H0 E ((ofO (ixN ds.length k)).toS ρ fun j => .nx (ρ.set i (.ow (.list (ds.set j y))))) from p)
    cases q : ixN ds.length k with
    | none => rw [q] at p'; exact p'.elim
    | some j =>
      rw [q] at p'
      exact ⟨a, xs, k, j, rfl, rfl, s2 _ _ h4, by rw [h5.length]; exact q, p' σ _ (e2.putL h1 h2 h3 (RepAll.set (rv.tr (Tr.same s2)) j (h5.tr (Tr.same s2)))).ok⟩
  | _ => exact p.elim
theorem RepAll.erase {A : Addr → Prop} {H : Hp} : ∀ {vs : List V} {ds : List D} (i : Nat), RepAll K A H vs ds → RepAll K A H (vs.eraseIdx i) (ds.eraseIdx i)
  | _, _, _, .nil => .nil
  | _, _, 0, .cons _ r => r
  | _, _, i + 1, .cons h r => .cons h (RepAll.erase i r)
theorem popAt_of {A : Addr → Prop} {H : Hp} {xs : List V} {es : List D} {k : D} {v : V} {P : Nat × D → Prop} {Wc : String → Prop} (r : RepAll K A H xs es) (rk : RepB K A H v k) (p : (popAt es k).post P Wc) :
    ∃ n j y w, v = .int n ∧ k = .int n ∧ -(2 ^ 63) ≤ n ∧ n < 2 ^ 63 ∧ seqIndex? n xs.length = some j ∧ xs[j]? = some w ∧ Rep K A H w y ∧ P (j, y) := by
  cases k with
  | int n =>
    have p' : (if -(2 ^ 63) ≤ n ∧ n < 2 ^ 63 then (ofO (L2.ixN es.length n)).bind fun j => (ofO es[j]?).bind fun y => ok (j, y) else no).post P Wc := p
    split at p'
    · rename_i hz
      cases q : L2.ixN es.length n with
      | none => rw [q] at p'; exact p'.elim
      | some j =>
        rw [q] at p'
        have p' : ((ofO es[j]?).bind fun y => ok (j, y)).post P Wc := p'
        cases q2 : es[j]? with
        | none => rw [q2] at p'; exact p'.elim
        | some y =>
          rw [q2] at p'
          obtain ⟨w, h1, h2⟩ := r.get q2
          exact ⟨n, j, y, w, rk.int, rfl, hz.1, hz.2, by rw [r.length]; exact (ixN_seq q).1, h1, h2, p'⟩
    · exact p'.elim
  | _ => exact p.elim
theorem sr_popApp (i j : Nat) (hij : j ≠ i) (hk : DB K mg W tk fk) : SR K mg W (tDrop (tBM K "list" rAppend (tVar i) (tCons (tBM K "list" rPopAt (tVar j) (tCons tk tNil)) tNil))) (sPopApp i j fk) := fun M H0 σ H ρ E ⟨γ, e⟩ p => by
  obtain ⟨ds, a, xs, h1, h2, h3, h4, h5, p⟩ := owL_of e (post_toS e p)
  obtain ⟨es, b, ys, g1, g2, g3, g4, g5, p⟩ := owL_of e (post_toS e p)
  refine ⟨_, h2, .inl ⟨rfl, _, SqL.of h4⟩, ?_⟩
  refine ⟨_, g2, .inl ⟨rfl, _, SqL.of g4⟩, ?_⟩
  refine hk _ σ H ρ _ e.e ((post_toS e p).mono (fun k _ p v H1 s1 rk => ?_) fun _ z => z)
  have e1 := e.same' s1
  have r5 := g5.tr (Tr.same s1)
  obtain ⟨n, m, y, w, rfl, rfl, n1, n2, q1, q2, ry, p⟩ := popAt_of r5 rk (post_toS e1 p)
  refine ⟨b, ys, n, m, w, rfl, rfl, s1 _ _ g4, n1, n2, q1, q2, ?_⟩
  have nab : a ≠ b := fun z => hij (e.dj j i a (by rw [g3, z]; exact List.mem_cons_self) (by rw [h3]; exact List.mem_cons_self))
  have p' : PostS K mg W M H0 E (if ds.length < sizeLine then .nx ((ρ.set j (.ow (.list (es.eraseIdx m)))).set i (.ow (.list (ds ++ [y])))) else .no) := p
  split at p'
  · rename_i hz
    have e2 := e1.putL g1 g2 g3 (r5.erase m)
    have tr : Tr (Av M γ) H1 (Av M γ) (upd H1 b (.lst (ys.eraseIdx m))) := upd_tr (.inr ⟨j, by rw [g3]; exact List.mem_cons_self⟩) fun _ z => z
    have h1' : (ρ.set j (.ow (.list (es.eraseIdx m))))[i]? = some (.ow (.list ds)) := by rw [List.getElem?_set_ne hij]; exact h1
    exact ⟨a, xs, w, rfl, rfl, by rw [upd_ne nab]; exact s1 _ _ h4, by rw [h5.length]; exact hz, p' σ _ (e2.putL h1' h2 h3 (((h5.tr (Tr.same s1)).tr tr).append (.cons (ry.tr tr) .nil))).ok⟩
  · exact p'.elim
theorem sr_setPop (i j : Nat) (hk : DB K mg W tk fk) : SR K mg W (tAsg (tBM K "list" rPopAt (tVar j) (tCons tk tNil)) (gName i)) (sSetPop i j fk) := fun M H0 σ H ρ E ⟨γ, e⟩ p => by
  obtain ⟨es, b, ys, g1, g2, g3, g4, g5, p⟩ := owL_of e (post_toS e p)
  refine ⟨_, g2, .inl ⟨rfl, _, SqL.of g4⟩, ?_⟩
  refine hk _ σ H ρ _ e.e ((post_toS e p).mono (fun k _ p v H1 s1 rk => ?_) fun _ z => z)
  have e1 := e.same' s1
  have r5 := g5.tr (Tr.same s1)
  obtain ⟨n, m, y, w, rfl, rfl, n1, n2, q1, q2, ry, p⟩ := popAt_of r5 rk (post_toS e1 p)
  refine ⟨b, ys, n, m, w, rfl, rfl, s1 _ _ g4, n1, n2, q1, q2, ?_⟩
  have e2 := e1.putL g1 g2 g3 (r5.erase m)
  have tr : Tr (Av M γ) H1 (Av M γ) (upd H1 b (.lst (ys.eraseIdx m))) := upd_tr (.inr ⟨j, by rw [g3]; exact List.mem_cons_self⟩) fun _ z => z
  exact p _ _ (e2.set (ry.tr tr) i).ok
/-! #### lists of lists -/
/-- a new list of new lists -/
def DN2 (K : PySem.W.Frag) (mg : Str → Option Value) (W : WX) (t : TE) (f : FE) : Prop := ∀ (A : Addr → Prop) (σ : St) (H : Hp) (ρ : Rho) (Q : VK), EnvE K A σ H ρ →
  (f ρ).post (fun d => ∀ p H', NewAt2 K A H H' p d → Q (.ref p) H') (XW mg W σ H) → t σ H Q
theorem dn2_nil : DN2 K mg W (tLst tNil) (fLst aNil) := fun A σ H ρ Q e p => by
  refine ⟨Nat.zero_le _, fun a ha => ?_⟩
  have p' : (if 0 ≤ sizeLine then ok (PyData.list []) else no).post (fun d => ∀ p H', NewAt2 K A H H' p d → Q (.ref p) H') (XW mg W σ H) := p
  rw [if_pos (Nat.zero_le _)] at p'
  exact p' a _ ⟨[], same_new ha _, by simp, fun b hb => by rw [List.mem_singleton.mp hb]; exact ha, .lst upd_same .nil⟩
theorem sr_setN2 (i : Nat) (h : DN2 K mg W te fe) : SR K mg W (tAsg te (gName i)) (sSetN2 fe i) := fun M H0 σ H ρ E ⟨γ, e⟩ p =>
  h _ σ H ρ _ e.e ((post_toS e p).mono (fun d _ q a H' n => q _ H' (e.setN2 n i)) fun _ z => z)
theorem sr_al (i j : Nat) (hk : DB K mg W tk fk) : SR K mg W (tAsg (tOp (rIx K) (tVar j) tk) (gName i)) (sAl i j fk) := fun M H0 σ H ρ E ⟨γ, e⟩ p => by
  obtain ⟨ds, a, qs, g1, g2, g3, g4, g5, p⟩ := o2L_of e (post_toS e p)
  refine ⟨_, g2, ?_⟩
  refine hk _ σ H ρ _ e.e ((post_toS e p).mono (fun k _ p v H1 s1 rk => ?_) fun _ z => z)
  have e1 := e.same' s1
  cases k with
  | int k =>
    rw [rk.int]
    have p := post_toS e1 (show PostS K mg W M H0 E ((ofO (ixN ds.length k)).toS ρ fun m => if i = j then .no else .nx (ρ.set i (.al j m))) from p)
    cases q : ixN ds.length k with
    | none => rw [q] at p; exact p.elim
    | some m =>
      rw [q] at p
      have p : PostS K mg W M H0 E (if i = j then .no else .nx (ρ.set i (.al j m))) := p
      split at p
      · exact p.elim
      · rename_i hij
        obtain ⟨_, hm, _, _⟩ := ixN_seq q
        have hl : qs.length = ds.length := Paired.length g5
        obtain ⟨b, hq⟩ : ∃ b, qs[m]? = some b := ⟨_, List.getElem?_eq_getElem (by omega)⟩
        refine .inl ⟨a, qs.map V.ref, k, .ref b, rfl, rfl, SqL.of (s1 _ _ g4), ?_, p _ _ (e1.alias hij g1 g3 hq).ok⟩
        unfold atI
        rw [List.length_map, hl, q]
        show (qs.map V.ref)[m]? = _
        rw [List.getElem?_map, hq]
        rfl
  | _ => exact p.elim
theorem alL_of {M : Addr → Prop} {γ : Nat → List Addr} {H0 H : Hp} {σ : St} {ρ : Rho} {i : Nat} {P : Nat × Nat × List D × List D → Prop} {Wc : String → Prop} (e : EnvG K M γ H0 σ H ρ) (p : (alL ρ (slot i ρ)).post P Wc) :
    ∃ k j ds es a qs q xs, ρ[k]? = some (.o2 (.list ds)) ∧ σ[k]? = some (some (.ref a)) ∧ γ k = a :: qs ∧ H a = some (.lst (qs.map V.ref)) ∧ Paired (OwnRep K (Av M γ) H) qs ds ∧ qs[j]? = some q ∧ ds[j]? = some (.list es) ∧ σ[i]? = some (some (.ref q)) ∧ H q = some (.lst xs) ∧ RepAll K (Av M γ) H xs es ∧ P (k, j, ds, es) := by
  have hs : slot i ρ = (ρ[i]?).getD .un := by unfold slot; rw [List.getD_eq_getElem?_getD]
  rw [hs] at p
  cases q0 : ρ[i]? with
  | none => rw [q0] at p; exact p.elim
  | some ev =>
    rw [q0] at p
    cases ev with
    | al k j =>
      have p : ((o2L (slot k ρ)).bind fun ds => (ofO ds[j]?).bind fun d => match d with
        | .list es => ok (k, j, ds, es)
        | _ => no).post P Wc := p
      rw [post_bind] at p
      obtain ⟨ds, a, qs, g1, g2, g3, g4, g5, p⟩ := o2L_of e p
      cases hd : ds[j]? with
      | none => rw [hd] at p; exact p.elim
      | some d =>
        rw [hd] at p
        cases d with
        | list es =>
          obtain ⟨a', qs', q', e1, e2, e3⟩ := e.al i k j _ q0 g1
          rw [g3] at e1
          cases e1
          obtain ⟨q, e4, e5⟩ := Paired.get g5 hd
          rw [e2] at e4
          cases e4
          cases e5 with
          | lst e6 e7 => exact ⟨k, j, ds, es, a, qs, q', _, g1, g2, g3, g4, g5, e2, hd, e3, e6, e7, p⟩
        | _ => exact p.elim
    | _ => exact p.elim
theorem Paired.set' {α β : Type} {F G : α → β → Prop} : ∀ {l : List α} {m : List β} {i : Nat} {a : α} {b : β}, Paired F l m → l[i]? = some a → G a b → (∀ j a' b', l[j]? = some a' → j ≠ i → F a' b' → G a' b') → Paired G l (m.set i b)
  | _, _, _, _, _, .nil, h, _, _ => by simp at h
  | _, _, 0, _, _, .cons r t, h, g, k => by
    simp at h
    subst h
    refine .cons g (Paired.imp' t fun a b m f => ?_)
    obtain ⟨j, hj⟩ := List.getElem?_of_mem m
    exact k (j + 1) a b (by simpa using hj) (by omega) f
  | _, _, i + 1, _, _, .cons r t, h, g, k => .cons (k 0 _ _ rfl (by omega) r) (Paired.set' t (by simpa using h) g fun j a' b' hj hne f => k (j + 1) a' b' (by simpa using hj) (by omega) f)
/-- an inner list becomes ys -/
theorem EnvG.putI {M : Addr → Prop} {γ : Nat → List Addr} {H0 H : Hp} {σ : St} {ρ : Rho} {k j : Nat} {ds : List D} {a q : Addr} {qs : List Addr} {ys : List V} {es : List D} (e : EnvG K M γ H0 σ H ρ) (h1 : ρ[k]? = some (.o2 (.list ds))) (h2 : σ[k]? = some (some (.ref a))) (hg : γ k = a :: qs)
    (h4 : H a = some (.lst (qs.map V.ref))) (h5 : Paired (OwnRep K (Av M γ) H) qs ds) (hq : qs[j]? = some q) (r : RepAll K (Av M γ) H ys es) : EnvG K M γ H0 σ (upd H q (.lst ys)) (ρ.set k (.o2 (.list (ds.set j (.list es))))) := by
  have nd := e.nd k
  rw [hg, List.nodup_cons] at nd
  have hqm : q ∈ qs := List.mem_of_getElem? hq
  have hqk : q ∈ γ k := by rw [hg]; exact List.mem_cons_of_mem _ hqm
  have tr : Tr (Av M γ) H (Av M γ) (upd H q (.lst ys)) := upd_tr (.inr ⟨k, hqk⟩) fun _ z => z
  have := e.putG (a := q) (ps := γ k) (k := k) (o := .lst ys) (ev := .o2 (.list (ds.set j (.list es)))) hqk (Same.refl H) h1 (fun b h => h) (fun b h => .inl h) (e.nd k)
    (.inr ⟨_, a, qs, rfl, h2, hg, by
      rw [give_self]
      refine .lst (by rw [upd_ne (fun z => nd.1 (by rw [z]; exact hqm))]; exact h4) (Paired.set' h5 hq (.lst upd_same (r.tr tr)) fun m a' b' hm hne f => ?_)
      refine f.tr tr (upd_ne fun z => hne ?_)
      have i1 : m < qs.length := (List.getElem?_eq_some_iff.mp hm).1
      have i2 : j < qs.length := (List.getElem?_eq_some_iff.mp hq).1
      have w1 := (List.getElem?_eq_some_iff.mp hm).2
      have w2 := (List.getElem?_eq_some_iff.mp hq).2
      exact (List.getElem_inj nd.2).mp (w1.trans (z.trans w2.symm)), ⟨_, rfl⟩, fun p' qs' z m q' hm => by rw [hg] at z; cases z; exact hm⟩)
  rw [give_self] at this
  exact this
theorem sr_alApp (i : Nat) (h : DR K mg W te fe) : SR K mg W (tDrop (tBM K "list" rAppend (tVar i) (tCons te tNil))) (sAlApp i fe) := fun M H0 σ H ρ E ⟨γ, e⟩ p => by
  obtain ⟨k, j, ds, es, a, qs, q, xs, h1, h2, h3, h4, h5, h6, h7, h8, h9, h10, p⟩ := alL_of e (post_toS e p)
  refine ⟨_, h8, .inl ⟨rfl, _, SqL.of h9⟩, ?_⟩
  refine h _ σ H ρ _ e.e ((post_toS e p).mono (fun y _ p v H1 s1 rv => ?_) fun _ z => z)
  have p : PostS K mg W M H0 E (if es.length < sizeLine then .nx (ρ.set k (.o2 (.list (ds.set j (.list (es ++ [y])))))) else .no) := p
  split at p
  · rename_i hz
    exact ⟨q, xs, v, rfl, rfl, s1 _ _ h9, by rw [h10.length]; exact hz, p σ _ ((e.same' s1).putI h1 h2 h3 (s1 _ _ h4) (Paired.imp' h5 fun _ _ _ x => x.same s1) h6 ((h10.tr (Tr.same s1)).append (.cons rv .nil))).ok⟩
  · exact p.elim
theorem sr_alPut (i : Nat) (h : DR K mg W te fe) (hk : DB K mg W tk fk) : SR K mg W (tAsg te (gSub (tVar i) tk rSetL)) (sAlPut i fk fe) := fun M H0 σ H ρ E ⟨γ, e⟩ p => by
  refine h _ σ H ρ _ e.e ((post_toS e p).mono (fun y _ p v H1 s1 rv => ?_) fun _ z => z)
  have e1 := e.same' s1
  obtain ⟨k, j, ds, es, a, qs, q, xs, h1, h2, h3, h4, h5, h6, h7, h8, h9, h10, p⟩ := alL_of e1 (post_toS e1 p)
  refine ⟨_, h8, ?_⟩
  refine hk _ σ H1 ρ _ e1.e ((post_toS e1 p).mono (fun n _ p w H2 s2 rk => ?_) fun _ z => z)
  have e2 := e1.same' s2
  cases n with
  | int n =>
    rw [rk.int]
    have p := post_toS e2 (show PostS K mg W M H0 E ((ofO (ixN es.length n)).toS ρ fun m => .nx (ρ.set k (.o2 (.list (ds.set j (.list (es.set m y))))))) from p)
    cases q0 : ixN es.length n with
    | none => rw [q0] at p; exact p.elim
    | some m =>
      rw [q0] at p
      exact ⟨q, xs, n, m, rfl, rfl, s2 _ _ h9, by rw [h10.length]; exact q0, p σ _ (e2.putI h1 h2 h3 (s2 _ _ h4) (Paired.imp' h5 fun _ _ _ x => x.same s2) h6 (RepAll.set (rv.tr (Tr.same s2)) m (h10.tr (Tr.same s2)))).ok⟩
  | _ => exact p.elim
theorem sr_2App (i : Nat) (h : DN K mg W te fe) : SR K mg W (tDrop (tBM K "list" rAppend (tVar i) (tCons te tNil))) (s2App i fe) := fun M H0 σ H ρ E ⟨γ, e⟩ p => by
  obtain ⟨ds, a, qs, h1, h2, h3, h4, h5, p⟩ := o2L_of e (post_toS e p)
  refine ⟨_, h2, .inl ⟨rfl, _, SqL.of h4⟩, ?_⟩
  refine h _ σ H ρ _ e.e ((post_toS e p).mono (fun y _ p b H1 n => ?_) fun _ z => z)
  obtain ⟨s1, hb, ob⟩ := n
  split at p
  · rename_i hz
    have hl : qs.length = ds.length := Paired.length h5
    refine ⟨a, qs.map V.ref, .ref b, rfl, rfl, s1 _ _ h4, by rw [List.length_map, hl]; exact hz, ?_⟩
    have ha : a ∈ γ i := by rw [h3]; exact List.mem_cons_self
    have nd := e.nd i
    have nb : ∀ j c, c ∈ γ j → c ≠ b := fun j c hc z => by
      obtain ⟨o, q⟩ := (e.fr j c hc).2
      rw [z, hb] at q
      cases q
    have av : ∀ c, Av M (give γ i (a :: (qs ++ [b]))) c → Av M γ c ∨ c = b := fun c z => by
      rcases z with z | ⟨j, hj⟩
      · exact .inl (.inl z)
      · rcases give_in hj with ⟨_, h'⟩ | ⟨_, h'⟩
        · rcases List.mem_cons.mp h' with z | z
          · exact .inl (.inr ⟨i, by rw [z]; exact ha⟩)
          · rcases List.mem_append.mp z with z | z
            · exact .inl (.inr ⟨i, by rw [h3]; exact List.mem_cons_of_mem _ z⟩)
            · exact .inr (List.mem_singleton.mp z)
        · exact .inl (.inr ⟨j, h'⟩)
    have tr : Tr (Av M γ) H (Av M (give γ i (a :: (qs ++ [b])))) (upd H1 a (.lst (qs.map V.ref ++ [V.ref b]))) := fun c u hc nc => ⟨by rw [upd_ne (fun z => nc (by rw [z]; exact .inr ⟨i, ha⟩))]; exact s1 _ _ hc, fun z => by
      rcases av c z with z | z
      · exact nc z
      · rw [z, hb] at hc
        cases hc⟩
    have tr1 : Tr (fun c => Av M γ c ∨ c = b) H1 (Av M (give γ i (a :: (qs ++ [b])))) (upd H1 a (.lst (qs.map V.ref ++ [V.ref b]))) := fun c u hc nc => ⟨by rw [upd_ne (fun z => nc (.inl (by rw [z]; exact .inr ⟨i, ha⟩)))]; exact hc, fun z => nc (av c z)⟩
    have ndq := nd
    rw [h3, List.nodup_cons] at ndq
    refine p σ _ (EnvG.ok (γ := give γ i (a :: (qs ++ [b]))) ?_)
    refine e.putG ha s1 h1 (fun c hc => ?_) (fun c hc => ?_) ?_ (.inr ⟨_, a, qs ++ [b], rfl, h2, rfl, ?_, ⟨_, rfl⟩, fun p' qs' z m q hm => ?_⟩)
    · rw [h3] at hc
      rcases List.mem_cons.mp hc with z | z
      · rw [z]; exact List.mem_cons_self
      · exact List.mem_cons_of_mem _ (List.mem_append_left _ z)
    · rw [h3]
      rcases List.mem_cons.mp hc with z | z
      · exact .inl (by rw [z]; exact List.mem_cons_self)
      · rcases List.mem_append.mp z with z | z
        · exact .inl (List.mem_cons_of_mem _ z)
        · rw [List.mem_singleton.mp z]
          exact .inr ⟨hb, ob.there⟩
    · rw [List.nodup_cons]
      refine ⟨fun z => ?_, ?_⟩
      · rcases List.mem_append.mp z with z | z
        · exact ndq.1 z
        · exact nb i a ha (List.mem_singleton.mp z)
      · rw [List.nodup_append]
        refine ⟨ndq.2, by simp, fun c hc c' hc' => ?_⟩
        rw [List.mem_singleton.mp hc']
        exact nb i c (by rw [h3]; exact List.mem_cons_of_mem _ hc)
    · refine .lst (by rw [List.map_append]; exact upd_same) (Paired.append' (Paired.imp' h5 fun q d hq x => ?_) (.cons (ob.tr tr1 ?_) .nil))
      · obtain ⟨o, hq'⟩ := x.there
        exact x.tr tr (by rw [upd_ne (fun z => ndq.1 (by rw [← z]; exact hq)), hq', s1 _ _ hq'])
      · exact upd_ne (fun z => nb i a ha z.symm)
    · rw [h3] at z
      cases z
      have hi : m < qs.length := (List.getElem?_eq_some_iff.mp hm).1
      rw [List.getElem?_append_left hi]
      exact hm
  · exact p.elim
theorem sr_2AppAt (i : Nat) (hk : DB K mg W tk fk) (h : DR K mg W te fe) : SR K mg W (tDrop (tBM K "list" rAppend (tOp (rIx K) (tVar i) tk) (tCons te tNil))) (s2AppAt i fk fe) := fun M H0 σ H ρ E ⟨γ, e⟩ p => by
  obtain ⟨ds, a, qs, g1, g2, g3, g4, g5, p⟩ := o2L_of e (post_toS e p)
  refine ⟨_, g2, ?_⟩
  refine hk _ σ H ρ _ e.e ((post_toS e p).mono (fun k _ p v H1 s1 rk => ?_) fun _ z => z)
  have e1 := e.same' s1
  cases k with
  | int k =>
    rw [rk.int]
    have p := post_toS e1 (show PostS K mg W M H0 E ((ofO (ixN ds.length k)).toS ρ fun m => (ofO ds[m]?).toS ρ fun d => (itList d).toS ρ fun es => (fe ρ).toS ρ fun y => if es.length < sizeLine then .nx (ρ.set i (.o2 (.list (ds.set m (.list (es ++ [y])))))) else .no) from p)
    cases q : ixN ds.length k with
    | none => rw [q] at p; exact p.elim
    | some m =>
      rw [q] at p
      have p := post_toS e1 (show PostS K mg W M H0 E ((ofO ds[m]?).toS ρ fun d => (itList d).toS ρ fun es => (fe ρ).toS ρ fun y => if es.length < sizeLine then .nx (ρ.set i (.o2 (.list (ds.set m (.list (es ++ [y])))))) else .no) from p)
      cases hd : ds[m]? with
      | none => rw [hd] at p; exact p.elim
      | some d =>
        rw [hd] at p
        obtain ⟨b, hb, ob⟩ := Paired.get g5 hd
        cases ob with
        | lst e6 e7 =>
          rename_i xs es
          have p := post_toS e1 (show PostS K mg W M H0 E ((fe ρ).toS ρ fun y => if es.length < sizeLine then .nx (ρ.set i (.o2 (.list (ds.set m (.list (es ++ [y])))))) else .no) from p)
          refine .inl ⟨a, qs.map V.ref, k, .ref b, rfl, rfl, SqL.of (s1 _ _ g4), ?_, ?_⟩
          · have hl : qs.length = ds.length := Paired.length g5
            unfold atI
            rw [List.length_map, hl, q]
            show (qs.map V.ref)[m]? = _
            rw [List.getElem?_map, hb]
            rfl
          · refine ⟨.inl ⟨rfl, _, SqL.of (s1 _ _ e6)⟩, ?_⟩
            refine h _ σ H1 ρ _ e1.e (p.mono (fun y _ p w H2 s2 rw' => ?_) fun _ z => z)
            split at p
            · rename_i hz
              have s := s1.trans s2
              exact ⟨b, xs, w, rfl, rfl, s _ _ e6, by rw [e7.length]; exact hz, p σ _ ((e.same' s).putI g1 g2 g3 (s _ _ g4) (Paired.imp' g5 fun _ _ _ x => x.same s) hb ((e7.tr (Tr.same s)).append (.cons rw' .nil))).ok⟩
            · exact p.elim
        | dct e6 e7 e8 =>
          rename_i kds
          have p : (itList (.dict kds)).toS ρ (fun es => (fe ρ).toS ρ fun y => if es.length < sizeLine then .nx (ρ.set i (.o2 (.list (ds.set m (.list (es ++ [y])))))) else .no) = (itList (.dict kds)).toS ρ (fun es => (fe ρ).toS ρ fun y => if es.length < sizeLine then .nx (ρ.set i (.o2 (.list (ds.set m (.list (es ++ [y])))))) else .no) ∧ PostS K mg W M H0 E ((itList (.dict kds)).toS ρ fun es => (fe ρ).toS ρ fun y => if es.length < sizeLine then .nx (ρ.set i (.o2 (.list (ds.set m (.list (es ++ [y])))))) else .no) := ⟨rfl, p⟩
          have p := p.2
          have z : itList (.dict kds) = no := by
            show ofO (roOf kds) = no
            rw [roOf_key e7 keyD_ne]
            rfl
          rw [z] at p
          exact p.elim
        | dctT e6 e7 e8 =>
          rename_i kds
          have z : itList (.dict kds) = no := by
            show ofO (roOf kds) = no
            rw [roOf_key e7 keyTD_ne]
            rfl
          have p : PostS K mg W M H0 E ((itList (.dict kds)).toS ρ fun es => (fe ρ).toS ρ fun y => if es.length < sizeLine then .nx (ρ.set i (.o2 (.list (ds.set m (.list (es ++ [y])))))) else .no) := p
          rw [z] at p
          exact p.elim
  | _ => exact p.elim
/-- x += e -/
def IpS (K : PySem.W.Frag) (r : TIp) (o : D → D → Out D) : Prop := ∀ (A : Addr → Prop) (H : Hp) (x y : V) (d e : D) (Q : VK) (Wc : String → Prop), Dom A H → RepB K A H x d → RepB K A H y e →
  (o d e).post (fun z => ∀ v H', Same H H' → Rep K A H' v z → Q v H') Wc → r x y H Q
theorem is_add : IpS K (ipI fun i j => i + j) oIAdd := fun A H x y d e Q Wc dm r1 r2 p => by
  unfold oIAdd at p
  split at p
  · rw [r1.int, r2.int]
    exact ⟨_, _, rfl, rfl, rv_refl p (.int _)⟩
  · exact p.elim
theorem sr_aug {r : TIp} {o : D → D → Out D} (i : Nat) (hr : IpS K r o) (h : DB K mg W te fe) : SR K mg W (tAug i te r) (sAug o i fe) := fun M H0 σ H ρ E ⟨γ, e⟩ p => by
  have p1 := post_toS e p
  rw [List.getD_eq_getElem?_getD] at p1
  have key : ∀ d v, σ[i]? = some (some v) → RepB K (Av M γ) H v d → PostS K mg W M H0 E ((fe ρ).toS ρ fun y => (o d y).toS ρ fun d => .nx (ρ.set i (.sh d))) → tAug i te r E σ H := fun d v h1 rv p => by
    refine ⟨v, h1, h _ σ H ρ _ e.e ((post_toS e p).mono (fun y _ p w H1 s1 rw' => ?_) fun _ z => z)⟩
    have e1 := e.same' s1
    exact hr _ H1 v w d y _ _ e1.dom' (rv.same s1) rw' ((post_toS e1 p).mono (fun z _ p u H2 s2 ru => p _ _ ((e1.same' s2).set ru i).ok) fun _ z => z)
  cases q : ρ[i]? with
  | none => rw [q] at p1; exact p1.elim
  | some ev =>
    rw [q] at p1
    cases ev with
    | sh d =>
      obtain ⟨v, h1, h2⟩ := e.shr i d q
      exact key d v h1 (.inl h2) p1
    | ow d =>
      obtain ⟨a, h1, _, h2⟩ := e.own i d q
      exact key d _ h1 (.inr ⟨a, rfl, h2⟩) p1
    | _ => exact p1.elim
/-! ### loops -/
theorem PostS.weak {M : Addr → Prop} {H0 H0' : Hp} {E : Ends} {r : SRes} (p : PostS K mg W M H0 E r) (s : Same H0 H0') (dm : Dom M H0) : PostS K mg W M H0' E r := by
  cases r with
  | nx ρ => exact fun σ H e => p σ H (e.weak s dm)
  | bk ρ => exact fun σ H e => p σ H (e.weak s dm)
  | ct ρ => exact fun σ H e => p σ H (e.weak s dm)
  | rt b d => exact fun v H r => p v H (r.weak s)
  | ex c ρ => exact fun σ H e => p σ H (e.weak s dm)
  | no => exact p
theorem sr_for {wi : TI} {g : TG} {fi : FA} {fg : FG} (hi : DIr K mg W wi fi) (hg : GRS K g fg) (hb : SR K mg W t F) : SR K mg W (tFor wi g t) (sFor fi fg F) := fun M H0 σ H ρ E ⟨γ, e⟩ p => by
  refine hi _ σ H ρ _ e.e ((post_toS e p).mono (fun ds _ p J H1 s1 itr => ?_) fun _ z => z)
  have e1 := e.same' s1
  have p : PostS K mg W M (hide γ H1) E (forGo fg F ds ρ) := PostS.weak p e1.sub e.dom
  refine ⟨fun i m σ' H' => ∃ ρ', m = ds.length - i ∧ i ≤ ds.length ∧ EnvOk K M (hide γ H1) σ' H' ρ' ∧ PostS K mg W M (hide γ H1) E (forGo fg F (ds.drop i) ρ'), ⟨_, ρ, rfl, Nat.zero_le _, e1.hide.ok, by rw [List.drop_zero]; exact p⟩, ?_⟩
  rintro i m σ' H' ⟨ρ', rfl, hi, ⟨γ', e'⟩, p⟩
  obtain ⟨st, go⟩ := itr _ H' (e1.trHide.trans e'.tr) e'.dom' i hi
  by_cases hlt : i < ds.length
  · obtain ⟨g1, g2⟩ := go _ (List.getElem?_eq_getElem hlt)
    refine .inr ⟨g1, _, fun _ _ n => n, fun x H'' y => ?_⟩
    obtain ⟨s3, rx⟩ := g2 x H'' y
    have e3 := e'.same' s3
    rw [List.drop_eq_getElem_cons hlt] at p
    have p : PostS K mg W M (hide γ H1) E ((fg ds[i] ρ').calm.toS ρ' fun ρ2 => match F ρ2 with
      | .nx ρ3 => forGo fg F (ds.drop (i + 1)) ρ3
      | .ct ρ3 => forGo fg F (ds.drop (i + 1)) ρ3
      | .bk ρ3 => .nx ρ3
      | r => r) := p
    refine hg M γ' _ σ' H'' ρ' x ds[i] _ e3 rx ((post_calm (post_toS e3 p) (fun _ => False)).mono (fun ρ2 _ p σ2 e4 => ?_) fun _ z => z)
    refine hb M _ σ2 H'' ρ2 _ e4.ok ?_
    cases q : F ρ2 with
    | nx ρ3 => rw [q] at p; exact fun σ5 H5 e5 => ⟨_, by omega, ρ3, rfl, hlt, e5, p⟩
    | ct ρ3 => rw [q] at p; exact fun σ5 H5 e5 => ⟨_, by omega, ρ3, rfl, hlt, e5, p⟩
    | bk ρ3 => rw [q] at p; exact fun σ5 H5 e5 => p σ5 H5 e5
    | rt b d => rw [q] at p; exact p
    | ex c ρ3 => rw [q] at p; exact p
    | no => rw [q] at p; exact p
  · have ei : i = ds.length := by omega
    rw [List.drop_eq_nil_of_le (by omega)] at p
    exact .inl ⟨st ei, p σ' H' e'.ok⟩
theorem whileGo_zero (b : FS) (ρ : Rho) : whileGo fc b 0 ρ = .no := rfl
theorem sr_while (hc : DT K mg W c fc) (hb : SR K mg W t F) : SR K mg W (tWhile c t) (sWhile fc F) := fun M H0 σ H ρ E e p => by
  unfold sWhile at p
  generalize bigFuel = n at p
  refine ⟨fun m σ' H' => ∃ ρ', EnvOk K M H0 σ' H' ρ' ∧ PostS K mg W M H0 E (whileGo fc F m ρ'), ⟨n, ρ, e, p⟩, ?_⟩
  rintro m σ' H' ⟨ρ', ⟨γ, e'⟩, p⟩
  cases m with
  | zero => exact p.elim
  | succ m =>
    have p : PostS K mg W M H0 E ((fc ρ').toS ρ' fun k => if k = true then (match F ρ' with
      | .nx ρ2 => whileGo fc F m ρ2
      | .ct ρ2 => whileGo fc F m ρ2
      | .bk ρ2 => .nx ρ2
      | r => r) else .nx ρ') := p
    refine hc _ σ' H' ρ' _ e'.e ((post_toS e' p).mono (fun b _ p H1 s1 => ?_) fun _ z => z)
    have e1 := e'.same' s1
    cases b with
    | false => exact p σ' H1 e1.ok
    | true =>
      rw [if_pos rfl]
      have p : PostS K mg W M H0 E (match F ρ' with
        | .nx ρ2 => whileGo fc F m ρ2
        | .ct ρ2 => whileGo fc F m ρ2
        | .bk ρ2 => .nx ρ2
        | r => r) := p
      refine ⟨_, fun _ _ n => n, hb M H0 σ' H1 ρ' _ e1.ok ?_⟩
      cases q : F ρ' with
      | nx ρ3 => rw [q] at p; exact fun σ5 H5 e5 => ⟨m, by omega, ρ3, e5, p⟩
      | ct ρ3 => rw [q] at p; exact fun σ5 H5 e5 => ⟨m, by omega, ρ3, e5, p⟩
      | bk ρ3 => rw [q] at p; exact fun σ5 H5 e5 => p σ5 H5 e5
      | rt b d => rw [q] at p; exact p
      | ex c ρ3 => rw [q] at p; exact p
      | no => rw [q] at p; exact p
end

/-! ### statements with their syntax -/
section
variable {K : PySem.W.Frag} {mg : Str → Option Value} {X : Cx} {W : WX} {s : Stmt} {ss : List Stmt} {t u : TS} {F G : FS} {e k : Expr} {te tk : TE} {fe fk : FE} {pos p2 p3 p4 : Pos}
theorem dss_nil : DSs K mg X W [] tNext sNext := ⟨pss_nil, sr_next⟩
theorem dss_cons (h1 : DS K mg X W s t F) (h2 : DSs K mg X W ss u G) : DSs K mg X W (s :: ss) (tSeq t u) (sSeq F G) := ⟨pss_cons h1.ps h2.ps, sr_seq h1.sr h2.sr⟩
theorem dss_one (h1 : DS K mg X W s t F) : DSs K mg X W [s] t F := ⟨pss_one h1.ps, h1.sr⟩
theorem ds_frz (i : Nat) (h : DS K mg X W s t F) : DS K mg X W s t (sFrz i F) := ⟨h.ps, sr_frz i h.sr⟩
theorem ds_pass : DS K mg X W (.Pass pos) tNext sNext := ⟨ps_pass, sr_next⟩
theorem ds_break : DS K mg X W (.Break pos) tBreak sBreak := ⟨ps_break, sr_break⟩
theorem ds_cont : DS K mg X W (.Continue pos) tCont sCont := ⟨ps_continue, sr_cont⟩
theorem ds_expr (h : DE K mg X W e te fe) (hs : swapsWith e none pos.line X.env = pure false := by rfl) : DS K mg X W (.Expr e pos) (tDrop te) (sDrop fe) := ⟨ps_expr h.pe hs, sr_drop h.dr⟩
theorem ds_ret (h : DE K mg X W e te fe) : DS K mg X W (.Return (some e) pos) (tRet te) (sRet fe) := ⟨ps_ret h.pe, sr_ret h.dr⟩
theorem ds_retN (h : DNE K mg X W e te fe) : DS K mg X W (.Return (some e) pos) (tRet te) (sRetN fe) := ⟨ps_ret h.pe, sr_retN h.dr⟩
theorem ds_ret0 : DS K mg X W (.Return none pos) tRetN sRet0 := ⟨ps_retN, sr_ret0⟩
theorem ds_retO (i : Nat) {x : Str} (hN : X.N[i]? = some x := by rfl) (hv : Vis X.env.scope x := by first | exact Or.inl rfl | exact Or.inr (Or.inl rfl) | exact Or.inr (Or.inr rfl)) (hd : (x == ("__debug__" : Str)) = false := by decide)
    (hcd : (x == ("__classdict__" : Str)) = false := by decide) : DS K mg X W (.Return (some (.Name x p2)) pos) (tRet (tVar i)) (sRetO i) := ⟨ps_ret (pe_var hN hv hd hcd), sr_retO i⟩
theorem ds_if {c : Expr} {a b : List Stmt} {tc : TT} {fc : FT} (hc : DTE K mg X W c tc fc) (ha : DSs K mg X W a t F) (hb : DSs K mg X W b u G) : DS K mg X W (.If c a b pos) (tIfS tc t u) (sIf fc F G) := ⟨ps_if hc.pe ha.ps hb.ps, sr_if hc.dr ha.sr hb.sr⟩
theorem ds_asg {tg : Expr} {g : TG} {fg : FG} (h : DE K mg X W e te fe) (hg : DG K X tg g fg) (hs : swapsWithSole [tg] e pos.line X.env = pure false := by rfl) (hw : swappedStores [tg] e X.env = pure none := by rfl)
    (h1 : (assignEach [tg] X.env).map (·.2) = [assign tg X.env] := by rfl) : DS K mg X W (.Assign [tg] e pos) (tAsg te g) (sAsg fe fg) := ⟨ps_asg h.pe hg.pg hs hw h1, sr_asg h.dr hg.gr⟩
theorem ds_set (i : Nat) {x : Str} (hN : X.N.Nodup) (h : DE K mg X W e te fe) (hi : X.N[i]? = some x := by rfl) (hx : Loc X.env.scope x := by first | exact Or.inl rfl | exact Or.inr rfl) (hs : swapsWith e (some (.Name x p2)) pos.line X.env = pure false := by rfl)
    (hf : X.fn x = true ∨ X.env.scope.names.lookup x = some .local := by first | exact .inl rfl | exact .inr rfl | assumption) : DS K mg X W (.Assign [.Name x p2] e pos) (tAsg te (gName i)) (sAsg fe (gSet i)) := ⟨ps_set hN hi hx h.pe hs hf, sr_asg h.dr (grs_name i)⟩
theorem ds_setN (i : Nat) {x : Str} (hN : X.N.Nodup) (h : DNE K mg X W e te fe) (hi : X.N[i]? = some x := by rfl) (hx : Loc X.env.scope x := by first | exact Or.inl rfl | exact Or.inr rfl) (hs : swapsWith e (some (.Name x p2)) pos.line X.env = pure false := by rfl)
    (hf : X.fn x = true ∨ X.env.scope.names.lookup x = some .local := by first | exact .inl rfl | exact .inr rfl | assumption) : DS K mg X W (.Assign [.Name x p2] e pos) (tAsg te (gName i)) (sSetN fe i) := ⟨ps_set hN hi hx h.pe hs hf, sr_setN i h.dr⟩
theorem ds_aug (i : Nat) {x : Str} (hN : X.N.Nodup) (h : DBE K mg X W e te fe) (hi : X.N[i]? = some x := by rfl) (hx : Loc X.env.scope x := by first | exact Or.inl rfl | exact Or.inr rfl)
    (hf : X.fn x = true ∨ X.env.scope.names.lookup x = some .local := by first | exact .inl rfl | exact .inr rfl | assumption) : DS K mg X W (.AugAssign (.Name x p2) .Add e pos) (tAug i te (ipI fun i j => i + j)) (sAug oIAdd i fe) := ⟨ps_aug hN hi hx h.pe ip_add hf, sr_aug i is_add h.dr⟩
theorem pe_meth1 {x nm : Str} {id : String} {apos cpos : Pos} {a : Expr} {ta : TE} {r : V → List V → Hp → VK → Prop} (i : Nat) (slot : PySem.Slot "list" nm id) (hty : typeOf (.builtin id) = pure (.type "method_descriptor")) (hm : MtR X id r) (ha : PE X a ta) (hN : X.N[i]? = some x) (hv : Vis X.env.scope x)
    (hd : (x == ("__debug__" : Str)) = false) (hcd : (x == ("__classdict__" : Str)) = false) (hbase : attributeBase (.Name x p2) nm X.env (eval (.Name x p2) X.env) = eval (.Name x p2) X.env)
    (hfew : ((backTo cpos (starEach [a] X.env)).all (fun x => !x.1) && (backToKw cpos (keywordEach [] X.env)).all (fun x => x.1.isSome)
      && decide (([a] : List Expr).length + ([] : List Keyword).length + (if ([] : List Keyword).isEmpty then 0 else 1) < 30)) = true)
    (hline : (apos.endLine == cpos.line) = true) (hs : starEach [a] X.env = (false, eval a X.env) :: starEach [] X.env) (ck : X.K = K) : PE X (.Call (.Attribute (.Name x p2) nm apos) [a] [] cpos) (tBM K "list" r (tVar i) (tCons ta tNil)) := by
  subst ck
  exact pe_bm PySem.F.plainAttrs_list slot hty hm (pe_var hN hv hd hcd) (pa_cons ha pa_nil hs) hbase hfew hline hs rfl
theorem ds_app (i : Nat) {x : Str} {apos cpos : Pos} (h : DE K mg X W e te fe) (hN : X.N[i]? = some x := by rfl) (hv : Vis X.env.scope x := by first | exact Or.inl rfl | exact Or.inr (Or.inl rfl) | exact Or.inr (Or.inr rfl))
    (hd : (x == ("__debug__" : Str)) = false := by decide) (hcd : (x == ("__classdict__" : Str)) = false := by decide) (hbase : attributeBase (.Name x p2) "append" X.env (eval (.Name x p2) X.env) = eval (.Name x p2) X.env := by rfl)
    (hfew : ((backTo cpos (starEach [e] X.env)).all (fun x => !x.1) && (backToKw cpos (keywordEach [] X.env)).all (fun x => x.1.isSome)
      && decide (([e] : List Expr).length + ([] : List Keyword).length + (if ([] : List Keyword).isEmpty then 0 else 1) < 30)) = true := by rfl)
    (hline : (apos.endLine == cpos.line) = true := by rfl) (hs : starEach [e] X.env = (false, eval e X.env) :: starEach [] X.env := by rfl)
    (hsw : swapsWith (.Call (.Attribute (.Name x p2) "append" apos) [e] [] cpos) none pos.line X.env = pure false := by rfl) :
    DS K mg X W (.Expr (.Call (.Attribute (.Name x p2) "append" apos) [e] [] cpos) pos) (tDrop (tBM K "list" rAppend (tVar i) (tCons te tNil))) (sApp i fe) :=
  ⟨ps_expr (pe_meth1 i PySem.F.slot_list_append PySem.F.type_list_append mt_append h.pe hN hv hd hcd hbase hfew hline hs h.c.k) hsw, sr_app i h.dr⟩
theorem pe_pop (j : Nat) {y : Str} {bpos dpos : Pos} (h : PE X k tk) (hN2 : X.N[j]? = some y := by rfl) (hv2 : Vis X.env.scope y := by first | exact Or.inl rfl | exact Or.inr (Or.inl rfl) | exact Or.inr (Or.inr rfl))
    (hd2 : (y == ("__debug__" : Str)) = false := by decide) (hcd2 : (y == ("__classdict__" : Str)) = false := by decide) (hbase2 : attributeBase (.Name y p3) "pop" X.env (eval (.Name y p3) X.env) = eval (.Name y p3) X.env := by rfl)
    (hfew2 : ((backTo dpos (starEach [k] X.env)).all (fun x => !x.1) && (backToKw dpos (keywordEach [] X.env)).all (fun x => x.1.isSome)
      && decide (([k] : List Expr).length + ([] : List Keyword).length + (if ([] : List Keyword).isEmpty then 0 else 1) < 30)) = true := by rfl)
    (hline2 : (bpos.endLine == dpos.line) = true := by rfl) (hs2 : starEach [k] X.env = (false, eval k X.env) :: starEach [] X.env := by rfl) (ck : X.K = K := by rfl) :
    PE X (.Call (.Attribute (.Name y p3) "pop" bpos) [k] [] dpos) (tBM K "list" rPopAt (tVar j) (tCons tk tNil)) :=
  pe_meth1 j PySem.F.slot_list_pop PySem.F.type_list_pop mt_popAt h hN2 hv2 hd2 hcd2 hbase2 hfew2 hline2 hs2 ck
theorem ds_popApp (i j : Nat) (hij : j ≠ i) {x : Str} {apos cpos : Pos} {a : Expr} (hk : DBE K mg X W k tk fk) (hp : PE X k tk → PE X a (tBM K "list" rPopAt (tVar j) (tCons tk tNil)))
    (hN : X.N[i]? = some x := by rfl) (hv : Vis X.env.scope x := by first | exact Or.inl rfl | exact Or.inr (Or.inl rfl) | exact Or.inr (Or.inr rfl))
    (hd : (x == ("__debug__" : Str)) = false := by decide) (hcd : (x == ("__classdict__" : Str)) = false := by decide) (hbase : attributeBase (.Name x p2) "append" X.env (eval (.Name x p2) X.env) = eval (.Name x p2) X.env := by rfl)
    (hfew : ((backTo cpos (starEach [a] X.env)).all (fun x => !x.1) && (backToKw cpos (keywordEach [] X.env)).all (fun x => x.1.isSome)
      && decide (([a] : List Expr).length + ([] : List Keyword).length + (if ([] : List Keyword).isEmpty then 0 else 1) < 30)) = true := by rfl)
    (hline : (apos.endLine == cpos.line) = true := by rfl) (hs : starEach [a] X.env = (false, eval a X.env) :: starEach [] X.env := by rfl)
    (hsw : swapsWith (.Call (.Attribute (.Name x p2) "append" apos) [a] [] cpos) none pos.line X.env = pure false := by rfl) (ck : X.K = K := by rfl) :
    DS K mg X W (.Expr (.Call (.Attribute (.Name x p2) "append" apos) [a] [] cpos) pos) (tDrop (tBM K "list" rAppend (tVar i) (tCons (tBM K "list" rPopAt (tVar j) (tCons tk tNil)) tNil))) (sPopApp i j fk) :=
  ⟨ps_expr (pe_meth1 i PySem.F.slot_list_append PySem.F.type_list_append mt_append (hp hk.pe) hN hv hd hcd hbase hfew hline hs ck) hsw, sr_popApp i j hij hk.dr⟩
theorem ds_setPop (i j : Nat) {x : Str} {a : Expr} (hN : X.N.Nodup) (hk : DBE K mg X W k tk fk) (hp : PE X k tk → PE X a (tBM K "list" rPopAt (tVar j) (tCons tk tNil))) (hi : X.N[i]? = some x := by rfl) (hx : Loc X.env.scope x := by first | exact Or.inl rfl | exact Or.inr rfl)
    (hs : swapsWith a (some (.Name x p2)) pos.line X.env = pure false := by rfl) (hf : X.fn x = true ∨ X.env.scope.names.lookup x = some .local := by first | exact .inl rfl | exact .inr rfl | assumption) :
    DS K mg X W (.Assign [.Name x p2] a pos) (tAsg (tBM K "list" rPopAt (tVar j) (tCons tk tNil)) (gName i)) (sSetPop i j fk) := ⟨ps_set hN hi hx (hp hk.pe) hs hf, sr_setPop i j hk.dr⟩
theorem ds_put (i : Nat) {x : Str} (h : DE K mg X W e te fe) (hk : DBE K mg X W k tk fk) (hN : X.N[i]? = some x := by rfl) (hv : Vis X.env.scope x := by first | exact Or.inl rfl | exact Or.inr (Or.inl rfl) | exact Or.inr (Or.inr rfl))
    (hd : (x == ("__debug__" : Str)) = false := by decide) (hcd : (x == ("__classdict__" : Str)) = false := by decide)
    (hsub : PE X (.Name x p2) (tVar i) → PE X k tk → PG X (.Subscript (.Name x p2) k p3) (gSub (tVar i) tk rSetL)) (hs : swapsWithSole [.Subscript (.Name x p2) k p3] e pos.line X.env = pure false := by rfl) (hw : swappedStores [.Subscript (.Name x p2) k p3] e X.env = pure none := by rfl)
    (h1 : (assignEach [.Subscript (.Name x p2) k p3] X.env).map (·.2) = [assign (.Subscript (.Name x p2) k p3) X.env] := by rfl) : DS K mg X W (.Assign [.Subscript (.Name x p2) k p3] e pos) (tAsg te (gSub (tVar i) tk rSetL)) (sPut i fk fe) := ⟨ps_asg h.pe (hsub (pe_var hN hv hd hcd) hk.pe) hs hw h1, sr_put i h.dr hk.dr⟩
theorem ds_for {tg iter : Expr} {body : List Stmt} {wi : TI} {g : TG} {fi : FA} {fg : FG} (hp : PassesOwn (model X.prog X.w) X.A X.env X.xe) (hc : X.calm = true) (hi : DIE K mg X W tg iter wi fi) (hg : DG K X tg g fg) (hb : DSs K mg X W body t F)
    (hs : ∀ x, foldedSetIterable iter X.env x = pure x := by intro _; rfl) : DS K mg X W (.For tg iter body [] pos) (tFor wi g t) (sFor fi fg F) := ⟨ps_for hp hc hi.pi hg.pg hb.ps hs, sr_for hi.dr hg.gr hb.sr⟩
theorem ds_while {c : Expr} {body : List Stmt} {tc : TT} {fc : FT} (hp : PassesOwn (model X.prog X.w) X.A X.env X.xe) (hc : DTE K mg X W c tc fc) (hb : DSs K mg X W body t F) : DS K mg X W (.While c body [] pos) (tWhile tc t) (sWhile fc F) := ⟨ps_while hp hc.pe hb.ps, sr_while hc.dr hb.sr⟩
/-- x = [.. for ..], stored within the comprehension's frame -/
theorem ds_setLcN (i : Nat) {y : Str} {py : Pos} {elt tg iter : Expr} {ifs : List Expr} {scope : Scope} {own : List (Str × Nat)} {spos : Pos} {wi : TI} {g : TG} {tt : TT} {fi : FA} {fg : FG} {fc : FT} {is : List Nat} (hc : X.calm = true) (hN : X.N.Nodup) (hi : DIE K mg X W tg iter wi fi) (ok : BlkOk X.N X.env.scope scope own)
    (hg : ∀ (s : Shared) (H : Hp) (C : Addr) (cl : List (Str × Addr)) (fp : List Addr), DGX K (X.blk s H scope (compEnvC scope cl C X.env) fp) tg g fg is) (hv : ∀ i ∈ is, i ∈ own.map (·.2))
    (ht : ∀ (s : Shared) (H : Hp) (C : Addr) (cl : List (Str × Addr)) (fp : List Addr), DPT K mg (X.blk s H scope (compEnvC scope cl C X.env) fp) ifs tt fc)
    (he : ∀ (s : Shared) (H : Hp) (C : Addr) (cl : List (Str × Addr)) (fp : List Addr), DE K mg (X.blk s H scope (compEnvC scope cl C X.env) fp) W0 elt te fe)
    (hy : X.N[i]? = some y := by rfl) (hyl : X.env.scope.names.lookup y = some .local := by rfl) (hsw : swapsWith (.ListComp elt [⟨tg, iter, ifs, 0⟩] scope pos) (some (.Name y py)) spos.line X.env = pure true := by exact sw_true rfl rfl rfl (by decide +kernel)) (hs : ∀ x, foldedSetIterable iter X.env x = pure x := by intro _; rfl) :
    DS K mg X W (.Assign [.Name y py] (.ListComp elt [⟨tg, iter, ifs, 0⟩] scope pos) spos) (tAsg (tLc wi g tt te (own.map (·.2))) (gName i)) (sSetN (fLc fi fg fc fe (own.map (·.2))) i) :=
  ⟨ps_setLc hc hN hy hyl hsw hi.pi ok (fun s H C cl fp => (hg s H C cl fp).pg) (fun s H C cl fp => (ht s H C cl fp).pe) (fun s H C cl fp => (he s H C cl fp).pe) hs, sr_setN i (dn_lcE (X := X) (pos := pos) hc hN hi ok hg hv ht he hs).dr⟩
theorem ds_setLc (i : Nat) {y : Str} {py : Pos} {elt tg iter : Expr} {ifs : List Expr} {scope : Scope} {own : List (Str × Nat)} {spos : Pos} {wi : TI} {g : TG} {tt : TT} {fi : FA} {fg : FG} {fc : FT} {is : List Nat} (hc : X.calm = true) (hN : X.N.Nodup) (hi : DIE K mg X W tg iter wi fi) (ok : BlkOk X.N X.env.scope scope own)
    (hg : ∀ (s : Shared) (H : Hp) (C : Addr) (cl : List (Str × Addr)) (fp : List Addr), DGX K (X.blk s H scope (compEnvC scope cl C X.env) fp) tg g fg is) (hv : ∀ i ∈ is, i ∈ own.map (·.2))
    (ht : ∀ (s : Shared) (H : Hp) (C : Addr) (cl : List (Str × Addr)) (fp : List Addr), DPT K mg (X.blk s H scope (compEnvC scope cl C X.env) fp) ifs tt fc)
    (he : ∀ (s : Shared) (H : Hp) (C : Addr) (cl : List (Str × Addr)) (fp : List Addr), DE K mg (X.blk s H scope (compEnvC scope cl C X.env) fp) W0 elt te fe)
    (hy : X.N[i]? = some y := by rfl) (hyl : X.env.scope.names.lookup y = some .local := by rfl) (hsw : swapsWith (.ListComp elt [⟨tg, iter, ifs, 0⟩] scope pos) (some (.Name y py)) spos.line X.env = pure true := by exact sw_true rfl rfl rfl (by decide +kernel)) (hs : ∀ x, foldedSetIterable iter X.env x = pure x := by intro _; rfl) :
    DS K mg X W (.Assign [.Name y py] (.ListComp elt [⟨tg, iter, ifs, 0⟩] scope pos) spos) (tAsg (tLc wi g tt te (own.map (·.2))) (gName i)) (sAsg (fLc fi fg fc fe (own.map (·.2))) (gSet i)) :=
  ⟨ps_setLc hc hN hy hyl hsw hi.pi ok (fun s H C cl fp => (hg s H C cl fp).pg) (fun s H C cl fp => (ht s H C cl fp).pe) (fun s H C cl fp => (he s H C cl fp).pe) hs, sr_asg (dn_lcE (X := X) (pos := pos) hc hN hi ok hg hv ht he hs).dr.r (grs_name i)⟩
end

/-! ### a def -/
theorem start_ok {K : PySem.W.Frag} {A : Addr → Prop} {H : Hp} {N : List Str} {vs : List V} {ds : List D} (dm : Dom A H) (r : RepAll K A H vs ds) : EnvOk K A H (L2.start N vs) H (startR N.length ds) := by
  have hl := r.length
  have get : ∀ (i : Nat) (ev : EV), (startR N.length ds)[i]? = some ev → ev ≠ .un → ∃ d, ds[i]? = some d ∧ ev = .sh d := fun i ev h n => by
    unfold startR at h
    by_cases hi : i < ds.length
    · rw [List.getElem?_append_left (by simpa using hi), List.getElem?_map, List.getElem?_eq_getElem hi] at h
      cases h
      exact ⟨_, List.getElem?_eq_getElem hi, rfl⟩
    · rw [List.getElem?_append_right (by simpa using hi), List.getElem?_replicate] at h
      split at h
      · cases h
        exact absurd rfl n
      · cases h
  refine ⟨fun _ => [], Same.refl H, dm, by unfold L2.start startR; simp [hl], fun i a h => (nomatch h), fun _ => List.nodup_nil, fun i j a h => (nomatch h), fun i d h => ?_, fun i d h => ?_, fun i d h => ?_, fun i k j d h => ?_⟩
  · obtain ⟨d', h1, h2⟩ := get i _ h (by intro z; cases z)
    cases h2
    obtain ⟨v, h3, h4⟩ := r.get h1
    refine ⟨v, ?_, h4.tr (fun a o e n => ⟨e, fun z => ?_⟩)⟩
    · unfold L2.start
      have hi : i < vs.length := (List.getElem?_eq_some_iff.mp h3).1
      rw [List.getElem?_append_left (by simpa using hi), List.getElem?_map, h3]
      rfl
    · rcases z with z | ⟨j, q⟩
      · exact n z
      · cases q
  all_goals (
    obtain ⟨d', h1, h2⟩ := get i _ h (by intro z; cases z)
    cases h2)
abbrev WD (E : XK) : WX := fun cls d _ H => E cls d H
theorem fn_d {P : Program} {w : World} {K : PySem.W.Frag} {mg : Str → Option Value} {base : Heap} {x qual : Str} {st : Stmt} {f : Addr} {fd : FuncData} {N ps : List Str} {k np n : Nat} {FB : FS} (F : Fun K x qual st f fd) (S : FnScope N ps (defScope st)) (hn : N.length = n) (hp : ps.length = np)
    (hbody : ∀ (cdv : Value) (A : Around) (outer : List Env) (s : Shared) (H : Hp) (E : XK), Room k (A.deeper (PyProof.Rows.envOfC qual (defScope st) s.heap.objs.size f cdv)) →
      ∃ t, DSs K mg (cxOf (L2.CX P w) P w K mg base N qual (defScope st) f cdv A outer s H E) (WD E) (defBody st) t FB) : FnOk P w K mg base (L2.CX P w) (k + 1) f fd ps (spD K mg (runF np n FB)) := by
  subst hn hp
  have len : ∀ vs H Q E, spD K mg (runF ps.length N.length FB) vs H Q E → vs.length = ps.length := fun vs H Q E h => by
    obtain ⟨A, ds, dm, r, p⟩ := h
    unfold runF at p
    split at p
    · rename_i hz
      rw [r.length]
      exact hz
    · exact p.elim
  refine F.okX S len fun cdv A outer s H vs Q E hr h => ?_
  obtain ⟨t, h1, h2⟩ := hbody cdv A outer s H E hr
  refine ⟨t, h1, ?_⟩
  obtain ⟨A', ds, dm, r, p⟩ := h
  unfold runF at p
  split at p
  · refine h2 A' H _ H _ _ (start_ok dm r) ?_
    cases q : FB (startR N.length ds) with
    | nx ρ => rw [q] at p; exact fun σ H' e => p .non H' ⟨e.same, fun _ => .non, fun z => nomatch z⟩
    | rt b d => rw [q] at p; exact p
    | bk ρ => rw [q] at p; exact p.elim
    | ct ρ => rw [q] at p; exact p.elim
    | ex c ρ => rw [q] at p; exact fun σ H' e cls d H2 e1 s => p cls d H2 e1 (e.same.trans s)
    | no => rw [q] at p; exact p.elim
  · exact p.elim
/-- nothing can be asked of this one -/
theorem fn_none {P : Program} {w : World} {K : PySem.W.Frag} {mg : Str → Option Value} {base : Heap} {CX : CXT} {f : Addr} {fd : FuncData} {ps : List Str} : FnOk P w K mg base CX 0 f fd ps (spD K mg fun _ => no) := by
  have no : ∀ vs H Q E, ¬ spD K mg (fun _ => Out.no) vs H Q E := fun vs H Q E h => by
    obtain ⟨_, _, _, _, p⟩ := h
    exact p
  exact ⟨fun vs H Q E h => absurd h (no vs H Q E), fun A outer s H args us vs Q E _ _ _ _ h => absurd h (no vs H Q E)⟩
/-- the law, from its script -/
theorem law_sp {K : PySem.W.Frag} {mg : Str → Option Value} {g : Fn} {H : Hp} {a : Addr} {ns : List Int} {b : Bool} (h : g [roD (ns.map PyData.int)] = ok (b, .bool true)) (ho : Only H) (hs : SqL K H a (ns.map V.int)) : spD K mg g [.ref a] H (fun v _ => v = .bl true) fun _ _ _ => False := by
  have ra : ∀ (l : List Int) (A : Addr → Prop), RepAll K A H (l.map V.int) (l.map PyData.int) := fun l A => by
    induction l with
    | nil => exact .nil
    | cons n l ih => exact .cons (.int n) ih
  have r : Rep K (fun _ => False) H (.ref a) (roD (ns.map PyData.int)) := by
    rcases hs with hs | ⟨o, its, n, h1, h2, h3, h4, h5, h6⟩
    · rcases hs with hs | ⟨o, hs⟩
      · rcases ho a with z | ⟨o, xs, z⟩
        · rw [z] at hs; cases hs
        · rw [z] at hs; cases hs
      · exact .roF (fun z => z) hs (ra ns _)
    · exact .roK ⟨o, its, n, h1, h2, h3, h4, h5, h6⟩ (ra ns _)
  refine ⟨fun _ => False, _, fun _ z => z.elim, .cons r .nil, ?_⟩
  rw [h]
  intro v H' rr
  have := rr.rep (fun _ z => z.elim)
  exact this.b.bool
end Dl

set_option maxRecDepth 100000
/-! The data layer, part i: lists of own lists in the syntax; xs[::-1]. -/
namespace Dl
open PySem L2 Out

theorem EnvE.moreL {K : PySem.W.Frag} {A : Addr → Prop} {σ : St} {H H' : Hp} {ρ : Rho} {ps : List Addr} (e : EnvE K A σ H ρ) (hp : ∀ p ∈ ps, H p = none) (s : Same H H') (hp' : ∀ p ∈ ps, ∃ o, H' p = some o) : EnvE K (fun a => A a ∨ a ∈ ps) σ H' ρ := by
  have t : Tr A H (fun a => A a ∨ a ∈ ps) H' := fun a o h n => ⟨s a o h, fun z => by
    rcases z with z | z
    · exact n z
    · rw [hp a z] at h
      cases h⟩
  refine ⟨fun a z => ?_, e.len, fun i d h => ?_, fun i d h => ?_, fun i d h => ?_, fun i k j d h h' => ?_⟩
  · rcases z with z | z
    · obtain ⟨o, q⟩ := e.dom a z
      exact ⟨o, s a o q⟩
    · exact hp' a z
  · obtain ⟨v, q, r⟩ := e.shr i d h
    exact ⟨v, q, r.tr t⟩
  · obtain ⟨v, q, r⟩ := e.own i d h
    obtain ⟨o, q2⟩ := r.there
    exact ⟨v, q, r.tr t (by rw [q2, s _ _ q2])⟩
  · obtain ⟨v, qs, q, r⟩ := e.o2 i d h
    obtain ⟨⟨o, q2⟩, q3⟩ := r.there
    refine ⟨v, qs, q, r.tr t (by rw [q2, s _ _ q2]) fun b hb => ?_⟩
    obtain ⟨o, q4⟩ := q3 b hb
    rw [q4, s _ _ q4]
  · obtain ⟨v, d', q, q1, r⟩ := e.al i k j d h h'
    obtain ⟨o, q2⟩ := r.there
    exact ⟨v, d', q, q1, r.tr t (by rw [q2, s _ _ q2])⟩
theorem Paired.snoc {α β : Type} {F : α → β → Prop} {a : α} {b : β} (h : F a b) : ∀ {l : List α} {m : List β}, Paired F l m → Paired F (l ++ [a]) (m ++ [b])
  | _, _, .nil => .cons h .nil
  | _, _, .cons r t => .cons r (Paired.snoc h t)
section
variable {K : PySem.W.Frag} {mg : Str → Option Value} {W : WX} {wi : TI} {g : TG} {tt : TT} {te : TE} {fi : FA} {fg : FG} {fc : FT} {fe : FE} {is vs : List Nat}
theorem dn2_lc (hi : DIr K mg W wi fi) (hg : GRE K g fg is) (hv : ∀ i ∈ is, i ∈ vs) (ht : DT K mg W0 tt fc) (he : DN K mg W0 te fe) : DN2 K mg W (tLc wi g tt te vs) (fLc fi fg fc fe vs) := fun A σ H ρ Q e p => by
  unfold fLc at p
  rw [post_bind] at p
  refine hi A σ H ρ _ e (p.mono (fun ds _ q J H1 s1 itr => ?_) fun _ z => z)
  unfold lcAll at q
  split at q
  case isFalse => exact q.elim
  rename_i hz
  rw [post_bind] at q
  intro L hL
  have e1 : EnvE K A (L2.wipe σ vs) H1 (wipeR ρ vs) := (e.same s1).wipe vs
  refine ⟨fun i m H' => ∃ (ys : List D) (qs : List Addr), m = ds.length - i ∧ i ≤ ds.length ∧ ys.length ≤ i ∧ Same H1 H' ∧ (L :: qs).Nodup ∧ (∀ a ∈ L :: qs, H1 a = none) ∧ Own2 K (fun a => A a ∨ a ∈ L :: qs) H' L qs (.list ys) ∧
    (lcGo fg fc fe (wipeR ρ vs) (ds.drop i)).post (fun zs => ∀ H2 qs', Same H1 H2 → (L :: qs').Nodup → (∀ a ∈ L :: qs', H1 a = none) → Own2 K (fun a => A a ∨ a ∈ L :: qs') H2 L qs' (.list (ys ++ zs)) → Q (.ref L) H2) (XW mg W σ H),
    ⟨ds.length, [], [], rfl, Nat.zero_le _, Nat.le_refl _, same_new hL _, by simp, fun a ha => by rw [List.mem_singleton.mp ha]; exact hL, .lst upd_same .nil, ?_⟩, ?_⟩
  · rw [List.drop_zero]
    refine q.mono (fun zs _ k H2 qs' s2 n1 n2 o => ?_) fun _ z => z
    exact k L H2 ⟨qs', s1.trans s2, n1, fun a ha => s1.free (n2 a ha), o⟩
  · rintro i m H' ⟨ys, qs, rfl, hi, hy, s', nd, nn, ow, k⟩
    have e2 := e1.moreL nn s' fun a ha => by
      rcases List.mem_cons.mp ha with rfl | ha
      · exact ow.there.1
      · exact ow.there.2 a ha
    have tr : Tr A H1 (fun a => A a ∨ a ∈ L :: qs) H' := fun a o h n => ⟨s' a o h, fun z => by
      rcases z with z | z
      · exact n z
      · rw [nn a z] at h
        cases h⟩
    obtain ⟨st, go⟩ := itr _ H' tr e2.dom i hi
    by_cases hlt : i < ds.length
    · obtain ⟨g1, g2⟩ := go _ (List.getElem?_eq_getElem hlt)
      refine .inr ⟨g1, _, fun H' n => n, fun x H'' y => ?_⟩
      obtain ⟨s3, rx⟩ := g2 x H'' y
      have e3 := e2.same s3
      have k' : ((fg ds[i] (wipeR ρ vs)).calm.bind fun ρ' => (fc ρ').calm.bind fun b => if b = true then (fe ρ').calm.bind fun y => (lcGo fg fc fe (wipeR ρ vs) (ds.drop (i + 1))).bind fun ys => ok (y :: ys) else lcGo fg fc fe (wipeR ρ vs) (ds.drop (i + 1))).post
          (fun zs => ∀ H2 qs', Same H1 H2 → (L :: qs').Nodup → (∀ a ∈ L :: qs', H1 a = none) → Own2 K (fun a => A a ∨ a ∈ L :: qs') H2 L qs' (.list (ys ++ zs)) → Q (.ref L) H2) (XW mg W σ H) := by
        rw [List.drop_eq_getElem_cons hlt] at k
        exact k
      rw [post_bind] at k'
      refine hg _ _ _ _ x ds[i] _ e3 rx ((post_calm k' _).mono (fun ρ2 _ k2 σ2 e4 w => ?_) fun _ z => z)
      refine ⟨by rw [w vs hv, wipe_wipe], ?_⟩
      rw [post_bind] at k2
      refine ht _ _ _ _ _ e4 ((post_calm k2 _).mono (fun b _ k3 H4 s4 => ?_) fun _ z => z)
      cases b with
      | true =>
        rw [if_pos rfl]
        have k3' : ((fe ρ2).calm.bind fun y => (lcGo fg fc fe (wipeR ρ vs) (ds.drop (i + 1))).bind fun ys => ok (y :: ys)).post _ _ := k3
        rw [post_bind] at k3'
        refine he _ _ _ _ _ (e4.same s4) ((post_calm k3' _).mono (fun y _ k4 q H5 nw => ?_) fun _ z => z)
        obtain ⟨s5, hq, oq⟩ := nw
        have s14 := s3.trans s4
        have s15 := s14.trans s5
        have ow5 := ow.same s15
        have fr : ∀ a o, H' a = some o → a ≠ q := fun a o h z => by
          have := s14 a o h
          rw [z, hq] at this
          cases this
        obtain ⟨⟨oL, hLo⟩, hQo⟩ := ow.there
        have hLq : L ≠ q := fr L oL hLo
        cases ow5 with
        | lst eL rL =>
          have hlen : qs.length = ys.length := Paired.length rL
          have nq : q ∉ qs := fun hm => by
            obtain ⟨o, h⟩ := hQo q hm
            exact fr q o h rfl
          have tr2 : ∀ a o, H5 a = some o → ¬ (A a ∨ a ∈ L :: qs) → a ≠ q → upd H5 L (.lst (qs.map V.ref ++ [V.ref q])) a = some o ∧ ¬ (A a ∨ a ∈ L :: (qs ++ [q])) := fun a o h n nq' => by
            refine ⟨by rw [upd_ne (fun z => n (.inr (by rw [z]; exact List.mem_cons_self)))]; exact h, fun z => ?_⟩
            rcases z with z | z
            · exact n (.inl z)
            · rcases List.mem_cons.mp z with z | z
              · exact n (.inr (by rw [z]; exact List.mem_cons_self))
              · rcases List.mem_append.mp z with z | z
                · exact n (.inr (List.mem_cons_of_mem _ z))
                · exact nq' (List.mem_singleton.mp z)
          have nL : ∀ b ∈ qs, b ≠ L := fun b hb z => by
            subst z
            exact (List.nodup_cons.mp nd).1 hb
          have r0 : Paired (OwnRep K (fun a => A a ∨ a ∈ L :: qs) H') qs ys := by
            cases ow with
            | lst _ r => exact r
          refine ⟨qs.map V.ref, eL, by rw [List.length_map, hlen]; omega, ds.length - (i + 1), by omega, ys ++ [y], qs ++ [q], rfl, hlt, by rw [List.length_append, List.length_singleton]; omega, fun a o h => ?_, ?_, ?_, ?_, ?_⟩
          · rw [upd_ne (fun z => by subst z; rw [nn _ List.mem_cons_self] at h; cases h)]
            exact s15 _ _ (s' _ _ h)
          · refine List.nodup_cons.mpr ⟨fun z => ?_, ?_⟩
            · rcases List.mem_append.mp z with z | z
              · exact (List.nodup_cons.mp nd).1 z
              · exact hLq (List.mem_singleton.mp z)
            · refine List.nodup_append.mpr ⟨(List.nodup_cons.mp nd).2, by simp, fun a ha b hb => ?_⟩
              rw [List.mem_singleton.mp hb]
              intro z
              rw [z] at ha
              exact nq ha
          · intro a ha
            rcases List.mem_cons.mp ha with ha | ha
            · rw [ha]; exact nn _ List.mem_cons_self
            · rcases List.mem_append.mp ha with ha | ha
              · exact nn _ (List.mem_cons_of_mem _ ha)
              · rw [List.mem_singleton.mp ha]
                exact (s'.trans s14).free hq
          · refine .lst (by rw [List.map_append]; exact upd_same) (Paired.snoc ?_ (Paired.imp' r0 fun b d hb x => ?_))
            · refine oq.tr (fun a o h n => ?_) (by rw [upd_ne (fun z => hLq z.symm)])
              exact tr2 a o h (fun z => n (.inl z)) fun z => n (.inr z)
            · obtain ⟨o, hb'⟩ := hQo b hb
              refine x.tr (fun a o h n => ?_) (by rw [upd_ne (nL b hb), hb', s15 _ _ hb'])
              exact tr2 a o (s15 _ _ h) n (fr a o h)
          · rw [post_bind] at k4
            refine k4.mono (fun zs _ k5 H2 qs' s2 n1 n2 o => ?_) fun _ z => z
            refine k5 H2 qs' s2 n1 n2 ?_
            rw [List.append_assoc] at o
            exact o
      | false =>
        rw [if_neg Bool.false_ne_true]
        have s14 := s3.trans s4
        exact ⟨ds.length - (i + 1), by omega, ys, qs, rfl, hlt, Nat.le_succ_of_le hy, s'.trans s14, nd, nn, ow.same s14, k3⟩
    · have ei : i = ds.length := by omega
      refine .inl ⟨st ei, ?_⟩
      rw [ei, List.drop_eq_nil_of_le (Nat.le_refl _)] at k
      have := k H' qs s' nd nn (by rw [List.append_nil]; exact ow)
      exact this
end
structure DN2E (K : PySem.W.Frag) (mg : Str → Option Value) (X : Cx) (W : WX) (e : Expr) (t : TE) (f : FE) : Prop where
  c : CxK K mg X
  pe : PE X e t
  dr : DN2 K mg W t f
section
variable {K : PySem.W.Frag} {mg : Str → Option Value} {X : Cx} {W : WX} {s : Stmt} {e k : Expr} {te tk : TE} {fe fk : FE} {pos p2 p3 p4 : Pos}
theorem dn2_lcE {elt tg iter : Expr} {ifs : List Expr} {scope : Scope} {own : List (Str × Nat)} {pos : Pos} {wi : TI} {g : TG} {tt : TT} {te : TE} {fi : FA} {fg : FG} {fc : FT} {fe : FE} {is : List Nat} (hc : X.calm = true) (hN : X.N.Nodup) (hi : DIE K mg X W tg iter wi fi) (ok : BlkOk X.N X.env.scope scope own)
    (hg : ∀ (s : Shared) (H : Hp) (C : Addr) (cl : List (Str × Addr)) (fp : List Addr), DGX K (X.blk s H scope (compEnvC scope cl C X.env) fp) tg g fg is) (hv : ∀ i ∈ is, i ∈ own.map (·.2))
    (ht : ∀ (s : Shared) (H : Hp) (C : Addr) (cl : List (Str × Addr)) (fp : List Addr), DPT K mg (X.blk s H scope (compEnvC scope cl C X.env) fp) ifs tt fc)
    (he : ∀ (s : Shared) (H : Hp) (C : Addr) (cl : List (Str × Addr)) (fp : List Addr), DNE K mg (X.blk s H scope (compEnvC scope cl C X.env) fp) W0 elt te fe) (hs : ∀ x, foldedSetIterable iter X.env x = pure x := by intro _; rfl) :
    DN2E K mg X W (.ListComp elt [⟨tg, iter, ifs, 0⟩] scope pos) (tLc wi g tt te (own.map (·.2))) (fLc fi fg fc fe (own.map (·.2))) :=
  ⟨hi.c, pe_lc hc hN hi.pi ok (fun s H C cl fp => (hg s H C cl fp).pg) (fun s H C cl fp => (ht s H C cl fp).pe) (fun s H C cl fp => (he s H C cl fp).pe) hs,
    fun A σ H => dn2_lc hi.dr (hg ⟨X.s_0.heap, X.s_0.gens, X.s_0.drawn, X.s_0.toks, X.s_0.os⟩ X.H_0 0 [] []).gr hv (ht X.s_0 X.H_0 0 [] []).dr (he X.s_0 X.H_0 0 [] []).dr A σ H⟩
theorem dn2_nilE (c : CxK K mg X := by exact ⟨rfl, rfl⟩) : DN2E K mg X W (.List [] pos) (tLst tNil) (fLst aNil) := ⟨c, pe_lst pa_nil, dn2_nil⟩
theorem ds_setN2 (i : Nat) {x : Str} (hN : X.N.Nodup) (h : DN2E K mg X W e te fe) (hi : X.N[i]? = some x := by rfl) (hx : Loc X.env.scope x := by first | exact Or.inl rfl | exact Or.inr rfl) (hs : swapsWith e (some (.Name x p2)) pos.line X.env = pure false := by rfl)
    (hf : X.fn x = true ∨ X.env.scope.names.lookup x = some .local := by first | exact .inl rfl | exact .inr rfl | assumption) : DS K mg X W (.Assign [.Name x p2] e pos) (tAsg te (gName i)) (sSetN2 fe i) := ⟨ps_set hN hi hx h.pe hs hf, sr_setN2 i h.dr⟩
theorem ds_setLcN2 (i : Nat) {y : Str} {py : Pos} {elt tg iter : Expr} {ifs : List Expr} {scope : Scope} {own : List (Str × Nat)} {spos : Pos} {wi : TI} {g : TG} {tt : TT} {fi : FA} {fg : FG} {fc : FT} {is : List Nat} (hc : X.calm = true) (hN : X.N.Nodup) (hi : DIE K mg X W tg iter wi fi) (ok : BlkOk X.N X.env.scope scope own)
    (hg : ∀ (s : Shared) (H : Hp) (C : Addr) (cl : List (Str × Addr)) (fp : List Addr), DGX K (X.blk s H scope (compEnvC scope cl C X.env) fp) tg g fg is) (hv : ∀ i ∈ is, i ∈ own.map (·.2))
    (ht : ∀ (s : Shared) (H : Hp) (C : Addr) (cl : List (Str × Addr)) (fp : List Addr), DPT K mg (X.blk s H scope (compEnvC scope cl C X.env) fp) ifs tt fc)
    (he : ∀ (s : Shared) (H : Hp) (C : Addr) (cl : List (Str × Addr)) (fp : List Addr), DNE K mg (X.blk s H scope (compEnvC scope cl C X.env) fp) W0 elt te fe)
    (hy : X.N[i]? = some y := by rfl) (hyl : X.env.scope.names.lookup y = some .local := by rfl) (hsw : swapsWith (.ListComp elt [⟨tg, iter, ifs, 0⟩] scope pos) (some (.Name y py)) spos.line X.env = pure true := by exact sw_true rfl rfl rfl (by decide +kernel)) (hs : ∀ x, foldedSetIterable iter X.env x = pure x := by intro _; rfl) :
    DS K mg X W (.Assign [.Name y py] (.ListComp elt [⟨tg, iter, ifs, 0⟩] scope pos) spos) (tAsg (tLc wi g tt te (own.map (·.2))) (gName i)) (sSetN2 (fLc fi fg fc fe (own.map (·.2))) i) :=
  ⟨ps_setLc hc hN hy hyl hsw hi.pi ok (fun s H C cl fp => (hg s H C cl fp).pg) (fun s H C cl fp => (ht s H C cl fp).pe) (fun s H C cl fp => (he s H C cl fp).pe) hs, sr_setN2 i (dn2_lcE (X := X) (pos := pos) hc hN hi ok hg hv ht he hs).dr⟩
/-- x = z[k]: another name -/
theorem ds_al (i j : Nat) {x y : Str} (hN : X.N.Nodup) (hk : DBE K mg X W k tk fk) (hi : X.N[i]? = some x := by rfl) (hx : Loc X.env.scope x := by first | exact Or.inl rfl | exact Or.inr rfl)
    (hj : X.N[j]? = some y := by rfl) (hv : Vis X.env.scope y := by first | exact Or.inl rfl | exact Or.inr (Or.inl rfl) | exact Or.inr (Or.inr rfl)) (hd : (y == ("__debug__" : Str)) = false := by decide) (hcd : (y == ("__classdict__" : Str)) = false := by decide)
    (hp : PlainIx k := by exact fun _ _ => rfl) (hs : swapsWith (.Subscript (.Name y p3) k p4) (some (.Name x p2)) pos.line X.env = pure false := by rfl)
    (hf : X.fn x = true ∨ X.env.scope.names.lookup x = some .local := by first | exact .inl rfl | exact .inr rfl | assumption) : DS K mg X W (.Assign [.Name x p2] (.Subscript (.Name y p3) k p4) pos) (tAsg (tOp (rIx K) (tVar j) tk) (gName i)) (sAl i j fk) :=
  ⟨ps_set hN hi hx (pe_ix (ix_K hk.c.k) (pe_var hj hv hd hcd) hk.pe hp) hs hf, sr_al i j hk.dr⟩
theorem pe_methE {nm : Str} {id : String} {apos cpos : Pos} {b a : Expr} {tb ta : TE} {r : V → List V → Hp → VK → Prop} (slot : PySem.Slot "list" nm id) (hty : typeOf (.builtin id) = pure (.type "method_descriptor")) (hm : MtR X id r) (hb : PE X b tb) (ha : PE X a ta)
    (hbase : attributeBase b nm X.env (eval b X.env) = eval b X.env)
    (hfew : ((backTo cpos (starEach [a] X.env)).all (fun x => !x.1) && (backToKw cpos (keywordEach [] X.env)).all (fun x => x.1.isSome)
      && decide (([a] : List Expr).length + ([] : List Keyword).length + (if ([] : List Keyword).isEmpty then 0 else 1) < 30)) = true)
    (hline : (apos.endLine == cpos.line) = true) (hs : starEach [a] X.env = (false, eval a X.env) :: starEach [] X.env) (ck : X.K = K) : PE X (.Call (.Attribute b nm apos) [a] [] cpos) (tBM K "list" r tb (tCons ta tNil)) := by
  subst ck
  exact pe_bm PySem.F.plainAttrs_list slot hty hm hb (pa_cons ha pa_nil hs) hbase hfew hline hs rfl
theorem ds_alApp (i : Nat) {x : Str} {apos cpos : Pos} (h : DE K mg X W e te fe) (hN : X.N[i]? = some x := by rfl) (hv : Vis X.env.scope x := by first | exact Or.inl rfl | exact Or.inr (Or.inl rfl) | exact Or.inr (Or.inr rfl))
    (hd : (x == ("__debug__" : Str)) = false := by decide) (hcd : (x == ("__classdict__" : Str)) = false := by decide) (hbase : attributeBase (.Name x p2) "append" X.env (eval (.Name x p2) X.env) = eval (.Name x p2) X.env := by rfl)
    (hfew : ((backTo cpos (starEach [e] X.env)).all (fun x => !x.1) && (backToKw cpos (keywordEach [] X.env)).all (fun x => x.1.isSome)
      && decide (([e] : List Expr).length + ([] : List Keyword).length + (if ([] : List Keyword).isEmpty then 0 else 1) < 30)) = true := by rfl)
    (hline : (apos.endLine == cpos.line) = true := by rfl) (hs : starEach [e] X.env = (false, eval e X.env) :: starEach [] X.env := by rfl)
    (hsw : swapsWith (.Call (.Attribute (.Name x p2) "append" apos) [e] [] cpos) none pos.line X.env = pure false := by rfl) :
    DS K mg X W (.Expr (.Call (.Attribute (.Name x p2) "append" apos) [e] [] cpos) pos) (tDrop (tBM K "list" rAppend (tVar i) (tCons te tNil))) (sAlApp i fe) :=
  ⟨ps_expr (pe_meth1 i PySem.F.slot_list_append PySem.F.type_list_append mt_append h.pe hN hv hd hcd hbase hfew hline hs h.c.k) hsw, sr_alApp i h.dr⟩
theorem ds_2App (i : Nat) {x : Str} {apos cpos : Pos} (h : DNE K mg X W e te fe) (hN : X.N[i]? = some x := by rfl) (hv : Vis X.env.scope x := by first | exact Or.inl rfl | exact Or.inr (Or.inl rfl) | exact Or.inr (Or.inr rfl))
    (hd : (x == ("__debug__" : Str)) = false := by decide) (hcd : (x == ("__classdict__" : Str)) = false := by decide) (hbase : attributeBase (.Name x p2) "append" X.env (eval (.Name x p2) X.env) = eval (.Name x p2) X.env := by rfl)
    (hfew : ((backTo cpos (starEach [e] X.env)).all (fun x => !x.1) && (backToKw cpos (keywordEach [] X.env)).all (fun x => x.1.isSome)
      && decide (([e] : List Expr).length + ([] : List Keyword).length + (if ([] : List Keyword).isEmpty then 0 else 1) < 30)) = true := by rfl)
    (hline : (apos.endLine == cpos.line) = true := by rfl) (hs : starEach [e] X.env = (false, eval e X.env) :: starEach [] X.env := by rfl)
    (hsw : swapsWith (.Call (.Attribute (.Name x p2) "append" apos) [e] [] cpos) none pos.line X.env = pure false := by rfl) :
    DS K mg X W (.Expr (.Call (.Attribute (.Name x p2) "append" apos) [e] [] cpos) pos) (tDrop (tBM K "list" rAppend (tVar i) (tCons te tNil))) (s2App i fe) :=
  ⟨ps_expr (pe_meth1 i PySem.F.slot_list_append PySem.F.type_list_append mt_append h.pe hN hv hd hcd hbase hfew hline hs h.c.k) hsw, sr_2App i h.dr⟩
theorem ds_2AppAt (i : Nat) {x : Str} {spos apos cpos : Pos} (hk : DBE K mg X W k tk fk) (h : DE K mg X W e te fe) (hN : X.N[i]? = some x := by rfl) (hv : Vis X.env.scope x := by first | exact Or.inl rfl | exact Or.inr (Or.inl rfl) | exact Or.inr (Or.inr rfl))
    (hd : (x == ("__debug__" : Str)) = false := by decide) (hcd : (x == ("__classdict__" : Str)) = false := by decide) (hp : PlainIx k := by exact fun _ _ => rfl)
    (hbase : attributeBase (.Subscript (.Name x p2) k spos) "append" X.env (eval (.Subscript (.Name x p2) k spos) X.env) = eval (.Subscript (.Name x p2) k spos) X.env := by rfl)
    (hfew : ((backTo cpos (starEach [e] X.env)).all (fun x => !x.1) && (backToKw cpos (keywordEach [] X.env)).all (fun x => x.1.isSome)
      && decide (([e] : List Expr).length + ([] : List Keyword).length + (if ([] : List Keyword).isEmpty then 0 else 1) < 30)) = true := by rfl)
    (hline : (apos.endLine == cpos.line) = true := by rfl) (hs : starEach [e] X.env = (false, eval e X.env) :: starEach [] X.env := by rfl)
    (hsw : swapsWith (.Call (.Attribute (.Subscript (.Name x p2) k spos) "append" apos) [e] [] cpos) none pos.line X.env = pure false := by rfl) :
    DS K mg X W (.Expr (.Call (.Attribute (.Subscript (.Name x p2) k spos) "append" apos) [e] [] cpos) pos) (tDrop (tBM K "list" rAppend (tOp (rIx K) (tVar i) tk) (tCons te tNil))) (s2AppAt i fk fe) :=
  ⟨ps_expr (pe_methE PySem.F.slot_list_append PySem.F.type_list_append mt_append (pe_ix (ix_K hk.c.k) (pe_var hN hv hd hcd) hk.pe hp) h.pe hbase hfew hline hs h.c.k) hsw, sr_2AppAt i hk.dr h.dr⟩
theorem ds_alPut (i : Nat) {x : Str} (h : DE K mg X W e te fe) (hk : DBE K mg X W k tk fk) (hN : X.N[i]? = some x := by rfl) (hv : Vis X.env.scope x := by first | exact Or.inl rfl | exact Or.inr (Or.inl rfl) | exact Or.inr (Or.inr rfl))
    (hd : (x == ("__debug__" : Str)) = false := by decide) (hcd : (x == ("__classdict__" : Str)) = false := by decide)
    (hsub : PE X (.Name x p2) (tVar i) → PE X k tk → PG X (.Subscript (.Name x p2) k p3) (gSub (tVar i) tk rSetL)) (hs : swapsWithSole [.Subscript (.Name x p2) k p3] e pos.line X.env = pure false := by rfl) (hw : swappedStores [.Subscript (.Name x p2) k p3] e X.env = pure none := by rfl)
    (h1 : (assignEach [.Subscript (.Name x p2) k p3] X.env).map (·.2) = [assign (.Subscript (.Name x p2) k p3) X.env] := by rfl) : DS K mg X W (.Assign [.Subscript (.Name x p2) k p3] e pos) (tAsg te (gSub (tVar i) tk rSetL)) (sAlPut i fk fe) := ⟨ps_asg h.pe (hsub (pe_var hN hv hd hcd) hk.pe) hs hw h1, sr_alPut i h.dr hk.dr⟩
end
/-! xs[::-1] -/
def oRev : D → Out D
  | .list ds => ok (.list ds.reverse)
  | _ => no
theorem RepAll.reverse {K : PySem.W.Frag} {A : Addr → Prop} {H : Hp} : ∀ {vs : List V} {ds : List D}, RepAll K A H vs ds → RepAll K A H vs.reverse ds.reverse
  | _, _, .nil => .nil
  | _, _, .cons r t => by
    rw [List.reverse_cons, List.reverse_cons]
    exact (RepAll.reverse t).append (.cons r .nil)
section
variable {K : PySem.W.Frag} {mg : Str → Option Value} {X : Cx} {W : WX} {a : Expr} {ta : TE} {fa : FE} {pos : Pos}
theorem dn_rev (ha : DB K mg W ta fa) : DN K mg W (tRevL K ta) (f1 oRev fa) := fun A σ H ρ Q e p => by
  unfold f1 at p
  rw [post_bind] at p
  refine ha A σ H ρ _ e (p.mono (fun d _ q x H1 s1 r1 => ?_) fun _ z => z)
  cases d with
  | list ds =>
    obtain ⟨a, xs, rfl, h1, h2⟩ := r1.list
    exact ⟨a, xs, rfl, SqL.of h1, fun p' hp => q _ _ ((new_lst (e.same s1).dom h2.reverse hp).back s1)⟩
  | _ => exact q.elim
theorem dn_revE {k : Nat} {p1 p2 p3 : Pos} (ha : DBE K mg X W a ta fa) : DNE K mg X W (.Subscript a (.Slice none none (some (.UnaryOp .USub (.Constant (.int 1) k p1) p2)) p3) pos) (tRevL K ta) (f1 oRev fa) := ⟨ha.c, by have := pe_revL (pos := pos) (k := k) (p1 := p1) (p2 := p2) (p3 := p3) ha.pe; rw [ha.c.k] at this; exact this, dn_rev ha.dr⟩
end
end Dl

set_option maxRecDepth 100000
/-! The plain side, part a: how what the defs compute is worked out (no program, no heap). -/
namespace Dl
open PySem Out

/-! ### what holds of an outcome -/
def Out.SM {α : Type} (x : Out α) (P : α → Prop) : Prop := match x with
  | .ok a => P a
  | _ => False
def SRes.SM (r : SRes) (N B C : Rho → Prop) (R : Bool → D → Prop) : Prop := match r with
  | .nx ρ => N ρ
  | .bk ρ => B ρ
  | .ct ρ => C ρ
  | .rt b d => R b d
  | .ex _ _ => False
  | .no => False
/-- a case of one field: nothing is worked out by chance -/
structure Out.S {α : Type} (x : Out α) (P : α → Prop) : Prop where
  sm : x.SM P
structure SRes.S (r : SRes) (N B C : Rho → Prop) (R : Bool → D → Prop) : Prop where
  sm : r.SM N B C R
theorem S_iff {α : Type} {x : Out α} {P : α → Prop} : x.S P ↔ ∃ a, x = ok a ∧ P a := by
  cases x with
  | ok a => exact ⟨fun h => ⟨a, rfl, h.sm⟩, fun ⟨b, e, h⟩ => by cases e; exact ⟨h⟩⟩
  | _ => exact ⟨fun h => h.sm.elim, fun ⟨b, e, h⟩ => by cases e⟩
theorem S_ok {α : Type} {a : α} {P : α → Prop} : (ok a).S P ↔ P a := ⟨fun h => h.sm, fun h => ⟨h⟩⟩
theorem S_no {α : Type} {P : α → Prop} : (no : Out α).S P ↔ False := ⟨fun h => h.sm, fun h => h.elim⟩
theorem S_guard {α : Type} {c : Prop} [Decidable c] {x : Out α} {P : α → Prop} : (if c then x else no).S P ↔ c ∧ x.S P := by
  by_cases h : c
  · rw [if_pos h]; exact ⟨fun z => ⟨h, z⟩, fun z => z.2⟩
  · rw [if_neg h]; exact ⟨fun z => z.sm.elim, fun z => absurd z.1 h⟩
theorem S_ite {α : Type} {c : Prop} [Decidable c] {x y : Out α} {P : α → Prop} : (if c then x else y).S P ↔ if c then x.S P else y.S P := by split <;> rfl
section
variable {N B C N' B' C' : Rho → Prop} {R R' : Bool → D → Prop} {ρ : Rho} {b : Bool} {d : D} {r r' : SRes} {c : Prop} [Decidable c]
theorem SS_nx : (SRes.nx ρ).S N B C R ↔ N ρ := ⟨fun h => h.sm, fun h => ⟨h⟩⟩
theorem SS_bk : (SRes.bk ρ).S N B C R ↔ B ρ := ⟨fun h => h.sm, fun h => ⟨h⟩⟩
theorem SS_ct : (SRes.ct ρ).S N B C R ↔ C ρ := ⟨fun h => h.sm, fun h => ⟨h⟩⟩
theorem SS_rt : (SRes.rt b d).S N B C R ↔ R b d := ⟨fun h => h.sm, fun h => ⟨h⟩⟩
theorem SS_no : (SRes.no).S N B C R ↔ False := ⟨fun h => h.sm, fun h => h.elim⟩
theorem SS_ex {c : String} : (SRes.ex c ρ).S N B C R ↔ False := ⟨fun h => h.sm, fun h => h.elim⟩
theorem SS_guard : (if c then r else .no).S N B C R ↔ c ∧ r.S N B C R := by
  by_cases h : c
  · rw [if_pos h]; exact ⟨fun z => ⟨h, z⟩, fun z => z.2⟩
  · rw [if_neg h]; exact ⟨fun z => z.sm.elim, fun z => absurd z.1 h⟩
theorem SS_ite : (if c then r else r').S N B C R ↔ if c then r.S N B C R else r'.S N B C R := by split <;> rfl
theorem SRes.S.mono (h : r.S N B C R) (hN : ∀ ρ, N ρ → N' ρ) (hB : ∀ ρ, B ρ → B' ρ) (hC : ∀ ρ, C ρ → C' ρ) (hR : ∀ b d, R b d → R' b d) : r.S N' B' C' R' := by
  cases r with
  | nx ρ => exact ⟨hN ρ h.sm⟩
  | bk ρ => exact ⟨hB ρ h.sm⟩
  | ct ρ => exact ⟨hC ρ h.sm⟩
  | rt b d => exact ⟨hR b d h.sm⟩
  | ex c ρ => exact h.sm.elim
  | no => exact h.sm.elim
theorem SS_seq {u : FS} (h : r.S (fun ρ => (u ρ).S N B C R) B C R) : (r.seq u).S N B C R := by
  cases r with
  | nx ρ => exact h.sm
  | bk ρ => exact ⟨h.sm⟩
  | ct ρ => exact ⟨h.sm⟩
  | rt b d => exact ⟨h.sm⟩
  | ex c ρ => exact h.sm.elim
  | no => exact h.sm.elim
/-- t, then u -/
theorem SS_seq' {u : FS} (M : Rho → Prop) (h : r.S M B C R) (k : ∀ ρ, M ρ → (u ρ).S N B C R) : (r.seq u).S N B C R := SS_seq (h.mono k (fun _ z => z) (fun _ z => z) fun _ _ z => z)
end
/-! ### guards move out -/
section
variable {α β : Type} {c : Prop} [Decidable c] {x y : Out α} {f : α → Out β} {ρ : Rho} {g : α → SRes} {r r' : SRes} {u : FS}
theorem bind_guard : (if c then x else no).bind f = if c then x.bind f else no := by split <;> rfl
theorem bind_ite : (if c then x else y).bind f = if c then x.bind f else y.bind f := by split <;> rfl
theorem calm_ite : (if c then x else y).calm = if c then x.calm else y.calm := by split <;> rfl
theorem toS_ite : (if c then x else y).toS ρ g = if c then x.toS ρ g else y.toS ρ g := by split <;> rfl
theorem seq_ite : (if c then r else r').seq u = if c then r.seq u else r'.seq u := by split <;> rfl
theorem sseq_assoc {v : FS} : (r.seq u).seq v = r.seq (sSeq u v) := by cases r <;> rfl
theorem obind_assoc {γ : Type} {g : β → Out γ} : (x.bind f).bind g = x.bind fun a => (f a).bind g := by cases x <;> rfl
end
/-! ### the rules -/
section
variable {ρ : Rho} {a b e : FE} {x y : D} {i : Nat} {ev ev' : EV} {o o' : D → D → Out D} {o1 : D → Out D} {t u : FT} {lo hi : FO} {r : FA} {g : Fn} {s s' : FS} {fg : FG} {gs : FGs} {it : FA}
theorem fV_0 : fV 0 (ev :: ρ) = evB ev := rfl
theorem fV_s : fV (i + 1) (ev :: ρ) = fV i ρ := rfl
theorem fS_0 : fS 0 (ev :: ρ) = evS ev := rfl
theorem fS_s : fS (i + 1) (ev :: ρ) = fS i ρ := rfl
theorem evB_sh : evB (.sh x) = ok x := rfl
theorem evB_ow : evB (.ow x) = ok x := rfl
theorem evS_sh : evS (.sh x) = ok x := rfl
theorem slot_0 : slot 0 (ev :: ρ) = ev := rfl
theorem slot_s : slot (i + 1) (ev :: ρ) = slot i ρ := rfl
theorem getD_0 : List.getD (ev :: ρ) 0 .un = ev := rfl
theorem getD_s : List.getD (ev :: ρ) (i + 1) .un = List.getD ρ i .un := rfl
theorem frz_ap : frz i ρ = ρ.set i (frzE (slot i ρ)) := rfl
theorem frzE_sh : frzE (.sh x) = .sh x := rfl
theorem frzE_ow : frzE (.ow x) = .sh x := rfl
theorem frzE_o2 : frzE (.o2 x) = .sh x := rfl
theorem frzE_un : frzE .un = .un := rfl
theorem fC_ap : fC x ρ = ok x := rfl
theorem f1_ap : f1 o1 a ρ = (a ρ).bind o1 := rfl
theorem f2_ap : f2 o a b ρ = (a ρ).bind fun x => (b ρ).bind fun y => o x y := rfl
theorem fX_ap : fX a ρ = (a (view ρ)).bind onlyFlat := rfl
theorem fXT_ap : fXT t ρ = t (view ρ) := rfl
theorem fSl_ap : fSl a lo hi ρ = (a ρ).bind fun x => (lo ρ).bind fun l => (hi ρ).bind fun h => oSl l h x := rfl
theorem fSlL_ap : fSlL a lo hi ρ = (a ρ).bind fun x => (lo ρ).bind fun l => (hi ρ).bind fun h => oSlL l h x := rfl
theorem fNoPart_ap : fNoPart ρ = ok none := rfl
theorem fPart_ap : fPart a ρ = (a ρ).bind fun x => (asInt x).bind fun i => ok (some i) := rfl
theorem fB_ap : fB a ρ = (a ρ).bind asBool := rfl
theorem tAnd_ap : Dl.tAnd t u ρ = (t ρ).bind fun c => if c = true then u ρ else ok false := rfl
theorem tOr_ap : Dl.tOr t u ρ = (t ρ).bind fun c => if c = true then ok true else u ρ := rfl
theorem tNot_ap : Dl.tNot t ρ = (t ρ).bind fun c => ok (!c) := rfl
theorem tYes_ap : Dl.tYes ρ = ok true := rfl
theorem fTru_ap : fTru a ρ = (a ρ).bind truD := rfl
theorem fAndV_ap : fAndV a b ρ = (a ρ).bind fun x => (asBool x).bind fun c => if c = true then b ρ else ok (.bool false) := rfl
theorem fOrV_ap : fOrV a b ρ = (a ρ).bind fun x => (asBool x).bind fun c => if c = true then ok (.bool true) else b ρ := rfl
theorem fNotV_ap : fNotV a ρ = (a ρ).bind fun x => (asBool x).bind fun c => ok (.bool (!c)) := rfl
theorem fIf_ap : fIf t a b ρ = (t ρ).bind fun k => if k = true then a ρ else b ρ := rfl
theorem fChain_ap : fChain o o' a b e ρ = (a ρ).bind fun x => (b ρ).bind fun y => (o x y).bind fun z => (asBool z).bind fun k => if k = true then (e ρ).bind fun w => o' y w else ok (.bool false) := rfl
theorem aNil_ap : aNil ρ = ok [] := rfl
theorem aCons_ap : aCons a r ρ = (a ρ).bind fun x => (r ρ).bind fun xs => ok (x :: xs) := rfl
theorem fTup_ap : fTup r ρ = (r ρ).bind fun xs => if xs.length ≤ sizeLine then ok (.tuple xs) else no := rfl
theorem fLst_ap : fLst r ρ = (r ρ).bind fun xs => if xs.length ≤ sizeLine then ok (.list xs) else no := rfl
theorem fCall_ap : fCall g r ρ = (r ρ).bind fun xs => (g xs).bind fun r => ok r.2 := rfl
theorem fCallN_ap : fCallN g r ρ = (r ρ).bind fun xs => (g xs).bind newD := rfl
theorem fCallB_ap : fCallB g r ρ = (r ρ).bind fun xs => (g xs).bind flatO := rfl
theorem iList_ap : iList a ρ = (a ρ).bind itList := rfl
theorem iTup_ap : iTup a ρ = (a ρ).bind itTup := rfl
theorem iRange1_ap : iRange1 a ρ = (a ρ).bind oRange1 := rfl
theorem iRange2_ap : iRange2 a b ρ = (a ρ).bind fun x => (b ρ).bind fun y => oRange2 x y := rfl
theorem gSet_ap : gSet i x ρ = ok (ρ.set i (.sh x)) := rfl
theorem gTup_ap {n : Nat} {ds : List D} : gTup n gs (.tuple ds) ρ = if ds.length = n then gs ds ρ else no := rfl
theorem gsNil_ap : gsNil [] ρ = ok ρ := rfl
theorem gsCons_ap {ds : List D} : gsCons fg gs (x :: ds) ρ = (fg x ρ).bind fun ρ' => gs ds ρ' := rfl
theorem fLc_ap {vs : List Nat} : fLc it fg t e vs ρ = (it ρ).bind fun xs => lcAll fg t e (wipeR ρ vs) xs := rfl
theorem wipe_nil : wipeR ρ [] = ρ := rfl
theorem wipe_cons {v : Nat} {vs : List Nat} : wipeR ρ (v :: vs) = (wipeR ρ vs).set v .un := rfl
theorem sNext_ap : sNext ρ = .nx ρ := rfl
theorem sSeq_ap : sSeq s s' ρ = (s ρ).seq s' := rfl
theorem sFrz_ap : sFrz i s ρ = s (frz i ρ) := rfl
theorem sBreak_ap : sBreak ρ = .bk ρ := rfl
theorem sCont_ap : sCont ρ = .ct ρ := rfl
theorem sDrop_ap : sDrop a ρ = (a ρ).toS ρ fun _ => .nx ρ := rfl
theorem sRet_ap : sRet a ρ = (a ρ).toS ρ fun d => .rt false d := rfl
theorem sRetN_ap : sRetN a ρ = (a ρ).toS ρ fun d => .rt true d := rfl
theorem sRet0_ap : sRet0 ρ = .rt false .none := rfl
theorem sRetO_ap : sRetO i ρ = (owOf (slot i ρ)).toS ρ fun d => .rt true d := rfl
theorem owOf_ow : owOf (.ow x) = ok x := rfl
theorem owOf_o2 : owOf (.o2 x) = ok x := rfl
theorem sIf_ap : sIf t s s' ρ = (t ρ).toS ρ fun b => if b = true then s ρ else s' ρ := rfl
theorem sAsg_ap : sAsg a fg ρ = (a ρ).toS ρ fun d => (fg d ρ).calm.toS ρ .nx := rfl
theorem sSetN_ap : sSetN a i ρ = (a ρ).toS ρ fun d => .nx (ρ.set i (.ow d)) := rfl
theorem owL_ap {ds : List D} : owL (.ow (.list ds)) = ok ds := rfl
theorem sApp_ap : sApp i a ρ = (owL (slot i ρ)).toS ρ fun ds => (a ρ).toS ρ fun y => if ds.length < sizeLine then .nx (ρ.set i (.ow (.list (ds ++ [y])))) else .no := rfl
theorem sPut_ap : sPut i b a ρ = (a ρ).toS ρ fun y => (owL (slot i ρ)).toS ρ fun ds => (b ρ).toS ρ fun k => (asInt k).toS ρ fun k => (ofO (L2.ixN ds.length k)).toS ρ fun j => .nx (ρ.set i (.ow (.list (ds.set j y)))) := rfl
theorem sAug_ap : sAug o i a ρ = (evB (slot i ρ)).toS ρ fun x => (a ρ).toS ρ fun y => (o x y).toS ρ fun d => .nx (ρ.set i (.sh d)) := rfl
theorem sFor_ap : sFor it fg s ρ = (it ρ).toS ρ fun xs => forGo fg s xs ρ := rfl
theorem sSetN2_ap : sSetN2 a i ρ = (a ρ).toS ρ fun d => .nx ((ρ.map (killE i)).set i (.o2 d)) := rfl
end
/-! ### operations on data that is known -/
/-- an item of a list as Python counts them -/
def nth {α : Type} [Inhabited α] (l : List α) (i : Int) : α := l.getD (if i < 0 then i + l.length else i).toNat default
theorem nth_nat {α : Type} [Inhabited α] {l : List α} {i : Nat} : nth l (i : Int) = l.getD i default := by
  unfold nth
  rw [if_neg (by omega)]
  rfl
theorem nth_get {α : Type} [Inhabited α] {l : List α} {i : Nat} (h : i < l.length) : nth l (i : Int) = l[i] := by
  rw [nth_nat, List.getD_eq_getElem?_getD, List.getElem?_eq_getElem h]
  rfl
theorem nth_pos {α : Type} [Inhabited α] {l : List α} {i : Int} (h : 0 ≤ i) : nth l i = l.getD i.toNat default := by
  unfold nth
  rw [if_neg (by omega)]
theorem nth_mem {α : Type} [Inhabited α] {l : List α} {i : Int} (h0 : 0 ≤ i) (h : i < l.length) : nth l i ∈ l := by
  rw [nth_pos h0, List.getD_eq_getElem?_getD, List.getElem?_eq_getElem (by omega)]
  exact List.getElem_mem _
theorem atI_map {α β : Type} [Inhabited α] {f : α → β} {l : List α} {i : Int} : L2.atI (l.map f) i = if -(l.length : Int) ≤ i ∧ i < l.length then some (f (nth l i)) else none := by
  unfold L2.atI L2.ixN nth
  rw [List.length_map]
  by_cases h0 : 0 ≤ i
  · rw [if_pos h0]
    by_cases h1 : i < l.length
    · rw [if_pos h1, if_pos ⟨by omega, h1⟩, if_neg (by omega)]
      show (l.map f)[i.toNat]? = _
      rw [List.getElem?_map, List.getD_eq_getElem?_getD, List.getElem?_eq_getElem (by omega)]
      rfl
    · rw [if_neg h1, if_neg (by omega)]
      rfl
  · rw [if_neg h0]
    by_cases h1 : -(l.length : Int) ≤ i
    · rw [if_pos h1, if_pos ⟨h1, by omega⟩, if_pos (by omega)]
      show (l.map f)[(i + l.length).toNat]? = _
      rw [List.getElem?_map, List.getD_eq_getElem?_getD, List.getElem?_eq_getElem (by omega)]
      rfl
    · rw [if_neg h1, if_neg (by omega)]
      rfl
section
variable {α : Type} {f : α → D} {l m : List α} {i j : Int} {a b : List D} {x y z w : D} {s t : Str} {p q : Bool}
theorem ofO_ite {β : Type} {c : Prop} [Decidable c] {v : β} : ofO (if c then some v else none) = if c then ok v else no := by split <;> rfl
theorem oIx_map [Inhabited α] : oIx (.list (l.map f)) (.int i) = if -(l.length : Int) ≤ i ∧ i < l.length then ok (f (nth l i)) else no := by
  show ofO (L2.atI (l.map f) i) = _
  rw [atI_map, ofO_ite]
theorem oIx_tmap [Inhabited α] : oIx (.tuple (l.map f)) (.int i) = if -(l.length : Int) ≤ i ∧ i < l.length then ok (f (nth l i)) else no := by
  show ofO (L2.atI (l.map f) i) = _
  rw [atI_map, ofO_ite]
theorem oIx_ro [Inhabited α] : oIx (roD (l.map f)) (.int i) = if -(l.length : Int) ≤ i ∧ i < l.length then ok (f (nth l i)) else no := by
  show ofO (L2.atI (l.map f) i) = _
  rw [atI_map, ofO_ite]
theorem oIx_t0 : oIx (.tuple (x :: a)) (.int 0) = ok x := by
  show ofO (L2.atI (x :: a) 0) = _
  unfold L2.atI L2.ixN
  rw [if_pos (by omega), if_pos (by simp)]
  rfl
theorem oIx_t1 : oIx (.tuple (x :: y :: a)) (.int 1) = ok y := by
  show ofO (L2.atI (x :: y :: a) 1) = _
  unfold L2.atI L2.ixN
  rw [if_pos (by omega), if_pos (by simp; omega)]
  rfl
theorem oIx_t2 : oIx (.tuple (x :: y :: z :: a)) (.int 2) = ok z := by
  show ofO (L2.atI (x :: y :: z :: a) 2) = _
  unfold L2.atI L2.ixN
  rw [if_pos (by omega), if_pos (by simp; omega)]
  rfl
theorem oIx_t3 : oIx (.tuple (x :: y :: z :: w :: a)) (.int 3) = ok w := by
  show ofO (L2.atI (x :: y :: z :: w :: a) 3) = _
  unfold L2.atI L2.ixN
  rw [if_pos (by omega), if_pos (by simp; omega)]
  rfl
theorem oAdd_int : oAdd (.int i) (.int j) = ok (.int (i + j)) := rfl
theorem oAdd_lst : oAdd (.list a) (.list b) = if a.length + b.length ≤ sizeLine then ok (.list (a ++ b)) else no := rfl
theorem oAdd_str : oAdd (.str s) (.str t) = if s.length + t.length ≤ sizeLine then ok (.str (s ++ t)) else no := rfl
theorem oAdd_tup : oAdd (.tuple a) (.tuple b) = if a.length + b.length ≤ sizeLine then ok (.tuple (a ++ b)) else no := rfl
theorem oCat_ap : oCat (.list a) (.list b) = if a.length + b.length ≤ sizeLine then ok (.list (a ++ b)) else no := rfl
theorem oRep_ap : oRep (.list a) (.int i) = if -(2 ^ 63) ≤ i ∧ i < 2 ^ 63 ∧ a.length * i.toNat ≤ sizeLine then ok (.list (List.replicate i.toNat a).flatten) else no := rfl
theorem oSub_int : oSub (.int i) (.int j) = ok (.int (i - j)) := rfl
theorem oMul_int : oMul (.int i) (.int j) = if mulOk i j = true then ok (.int (i * j)) else no := rfl
theorem oFdiv_int : oFdiv (.int i) (.int j) = if 0 < j ∧ j < 1073741824 then ok (.int (i / j)) else no := rfl
theorem oMod_int : oMod (.int i) (.int j) = if 0 < j then ok (.int (i % j)) else no := rfl
theorem oPow_int : oPow (.int i) (.int j) = if 0 ≤ j ∧ j ≤ 1000000 ∧ i.natAbs < 2 ^ 64 then ok (.int (i ^ j.toNat)) else no := rfl
theorem oNeg_int : oNeg (.int i) = ok (.int (-i)) := rfl
theorem oEq_int : oEq (.int i) (.int j) = ok (.bool (decide (i = j))) := by
  show (if eqOk (.int i) (.int j) = true then _ else _) = _
  rw [if_pos (show eqOk (.int i) (.int j) = true from rfl)]
  show ok (PyData.bool (i == j)) = _
  rw [Bool.beq_eq_decide_eq]
theorem oNe_int : oNe (.int i) (.int j) = ok (.bool (decide (i ≠ j))) := by
  show (if eqOk (.int i) (.int j) = true then _ else _) = _
  rw [if_pos (show eqOk (.int i) (.int j) = true from rfl)]
  show ok (PyData.bool (!(i == j))) = _
  rw [Bool.beq_eq_decide_eq]
  simp
theorem str_beq : (s == t) = decide (s = t) := Bool.beq_eq_decide_eq ..
theorem oEq_str : oEq (.str s) (.str t) = ok (.bool (decide (s = t))) := by
  show (if eqOk (.str s) (.str t) = true then _ else _) = _
  rw [if_pos (show eqOk (.str s) (.str t) = true from rfl)]
  show ok (PyData.bool (s == t)) = _
  rw [str_beq]
theorem oNe_str : oNe (.str s) (.str t) = ok (.bool (decide (s ≠ t))) := by
  show (if eqOk (.str s) (.str t) = true then _ else _) = _
  rw [if_pos (show eqOk (.str s) (.str t) = true from rfl)]
  show ok (PyData.bool (!(s == t))) = _
  rw [str_beq]
  simp
theorem oEq_bool : oEq (.bool p) (.bool q) = ok (.bool (p == q)) := rfl
theorem oNe_bool : oNe (.bool p) (.bool q) = ok (.bool (!(p == q))) := rfl
theorem oLt_int : oLt (.int i) (.int j) = ok (.bool (decide (i < j))) := rfl
theorem oLe_int : oLe (.int i) (.int j) = ok (.bool (decide (i ≤ j))) := rfl
theorem oGt_int : oGt (.int i) (.int j) = ok (.bool (decide (j < i))) := rfl
theorem oGe_int : oGe (.int i) (.int j) = ok (.bool (decide (j ≤ i))) := rfl
theorem asInt_ap : asInt (.int i) = ok i := rfl
theorem asBool_ap : asBool (.bool p) = ok p := rfl
theorem oLen_map : oLen (.list (l.map f)) = ok (.int l.length) := by
  show ok (PyData.int ((l.map f).length : Nat)) = _
  rw [List.length_map]
theorem oLen_lst : oLen (.list a) = ok (.int a.length) := rfl
theorem oLen_tup : oLen (.tuple a) = ok (.int a.length) := rfl
theorem oLen_ro : oLen (roD (l.map f)) = ok (.int l.length) := by
  show ok (PyData.int ((l.map f).length : Nat)) = _
  rw [List.length_map]
theorem oAll_map {h : α → Bool} : oAll (.list (l.map fun a => .bool (h a))) = ok (.bool (l.all h)) := by
  have : ∀ l : List α, dBools (l.map fun a => PyData.bool (h a)) = ok (l.map h) := fun l => by
    induction l with
    | nil => rfl
    | cons a l ih =>
      show ((asBool (.bool (h a))).bind fun b => (dBools (l.map fun a => PyData.bool (h a))).bind fun bs => ok (b :: bs)) = _
      rw [ih]
      rfl
  show (dBools (l.map fun a => PyData.bool (h a))).bind _ = _
  rw [this]
  show ok (PyData.bool ((l.map h).all id)) = _
  rw [List.all_map]
  rfl
theorem oAny_map {h : α → Bool} : oAny (.list (l.map fun a => .bool (h a))) = ok (.bool (l.any h)) := by
  have : ∀ l : List α, dBools (l.map fun a => PyData.bool (h a)) = ok (l.map h) := fun l => by
    induction l with
    | nil => rfl
    | cons a l ih =>
      show ((asBool (.bool (h a))).bind fun b => (dBools (l.map fun a => PyData.bool (h a))).bind fun bs => ok (b :: bs)) = _
      rw [ih]
      rfl
  show (dBools (l.map fun a => PyData.bool (h a))).bind _ = _
  rw [this]
  show ok (PyData.bool ((l.map h).any id)) = _
  rw [List.any_map]
  rfl
theorem oSum_map {h : α → Int} : oSum (.list (l.map fun a => .int (h a))) = ok (.int (l.map h).sum) := by
  have : ∀ l : List α, dInts (l.map fun a => PyData.int (h a)) = ok (l.map h) := fun l => by
    induction l with
    | nil => rfl
    | cons a l ih =>
      show ((asInt (.int (h a))).bind fun b => (dInts (l.map fun a => PyData.int (h a))).bind fun bs => ok (b :: bs)) = _
      rw [ih]
      rfl
  show (dInts (l.map fun a => PyData.int (h a))).bind _ = _
  rw [this]
  rfl
theorem oInt_int : oInt (.int i) = ok (.int i) := rfl
theorem oInt_bool : oInt (.bool p) = ok (.int (if p = true then 1 else 0)) := rfl
theorem oAbs_int : oAbs (.int i) = ok (.int (if i < 0 then -i else i)) := rfl
theorem oMax2_int : oMax2 (.int i) (.int j) = ok (.int (max i j)) := by
  show ok (PyData.int (if j > i then j else i)) = _
  congr 2
  split <;> omega
theorem oMin2_int : oMin2 (.int i) (.int j) = ok (.int (min i j)) := by
  show ok (PyData.int (if j < i then j else i)) = _
  congr 2
  split <;> omega
theorem oList_lst : oList (.list a) = ok (.list a) := rfl
theorem oList_tup : oList (.tuple a) = ok (.list a) := rfl
theorem oRev_map : oRev (.list (l.map f)) = ok (.list (l.reverse.map f)) := by
  show ok (PyData.list (l.map f).reverse) = _
  rw [List.map_reverse]
theorem cut_map {β : Type} {h : α → β} {lo hi : Option Int} : cut (l.map h) lo hi = (cut l lo hi).map h := by
  unfold cut
  rw [List.length_map, List.map_take, List.map_drop]
theorem oSl_map {lo hi : Option Int} : oSl lo hi (.list (l.map f)) = ok (.list ((cut l lo hi).map f)) := by
  show ok (PyData.list (cut (l.map f) lo hi)) = _
  rw [cut_map]
theorem oSlL_map {lo hi : Option Int} : oSlL lo hi (.list (l.map f)) = ok (.list ((cut l lo hi).map f)) := by
  show ok (PyData.list (cut (l.map f) lo hi)) = _
  rw [cut_map]
theorem oIsi_bool : oIsi "bool" (.bool p) = ok (.bool true) := rfl
theorem oIsN_none : oIsN .none = ok (.bool true) := rfl
theorem oIsN_int : oIsN (.int i) = ok (.bool false) := rfl
theorem truD_bool : truD (.bool p) = ok p := rfl
theorem truD_int : truD (.int i) = ok (decide (i ≠ 0)) := by
  show ok (i != 0) = _
  congr 1
  by_cases h : i = 0 <;> simp [bne, h]
theorem truD_map : truD (.list (l.map f)) = ok (!l.isEmpty) := by
  show ok (!(l.map f).isEmpty) = _
  cases l <;> rfl
theorem itList_ap : itList (.list a) = ok a := rfl
theorem itList_ro : itList (roD a) = ok a := rfl
theorem itTup_ap : itTup (.tuple a) = ok a := rfl
def rgOk (i : Int) : Prop := -(2 ^ 62) ≤ i ∧ i < 2 ^ 62
instance (i : Int) : Decidable (rgOk i) := by unfold rgOk; exact inferInstance
theorem rg_of {i : Int} (h : -1000000 ≤ i) (h' : i ≤ 1000000) : rgOk i := ⟨Int.le_trans (by decide) h, Int.lt_of_le_of_lt h' (by decide)⟩
theorem oRange1_int : oRange1 (.int i) = if rgOk i then ok ((List.range i.toNat).map fun k => .int (k : Int)) else no := by
  show (if -(2 ^ 62) ≤ i ∧ i < 2 ^ 62 then ok (rangeD 0 i.toNat) else no) = _
  unfold rgOk
  congr 2
  unfold rangeD
  simp only [Int.zero_add]
theorem oRange2_int : oRange2 (.int i) (.int j) = if rgOk i ∧ rgOk j then ok ((List.range (j - i).toNat).map fun k => .int (i + (k : Int))) else no := by
  show (if -(2 ^ 62) ≤ i ∧ i < 2 ^ 62 ∧ -(2 ^ 62) ≤ j ∧ j < 2 ^ 62 then ok (rangeD i (j - i).toNat) else no) = _
  unfold rgOk
  by_cases h : -(2 ^ 62) ≤ i ∧ i < 2 ^ 62 ∧ -(2 ^ 62) ≤ j ∧ j < 2 ^ 62
  · rw [if_pos h, if_pos ⟨⟨h.1, h.2.1⟩, h.2.2⟩]
    rfl
  · rw [if_neg h, if_neg (fun z => h ⟨z.1.1, z.1.2, z.2⟩)]
theorem onlyFlat_int : onlyFlat (.int i) = ok (.int i) := rfl
theorem onlyFlat_str : onlyFlat (.str s) = ok (.str s) := rfl
theorem onlyFlat_bool : onlyFlat (.bool p) = ok (.bool p) := rfl
theorem newD_ap : newD (true, x) = ok x := rfl
theorem oIAdd_int : oIAdd (.int i) (.int j) = ok (.int (i + j)) := rfl
end
/-! ### lists of own lists -/
theorem ixN_nat {n k : Nat} : ofO (L2.ixN n (k : Int)) = if k < n then ok k else no := by
  unfold L2.ixN
  rw [if_pos (by omega)]
  by_cases h : k < n
  · rw [if_pos (by omega), if_pos h]; rfl
  · rw [if_neg (by omega), if_neg h]; rfl
def asLst : D → Out (List D)
  | .list es => ok es
  | _ => no
theorem asLst_ap {es : List D} : asLst (.list es) = ok es := rfl
theorem ofO_get {α : Type} [Inhabited α] {f : α → D} {l : List α} {j : Nat} : ofO (l.map f)[j]? = if j < l.length then ok (f (nth l j)) else no := by
  by_cases h : j < l.length
  · rw [if_pos h, List.getElem?_map, List.getElem?_eq_getElem h, nth_get h]
    rfl
  · rw [if_neg h, List.getElem?_eq_none (by rw [List.length_map]; omega)]
    rfl
section
variable {ρ : Rho} {i j k m n : Nat} {fk fe : FE} {ds : List D} {d : D}
theorem o2L_ap : o2L (.o2 (.list ds)) = ok ds := rfl
theorem sAl_ap : sAl i j fk ρ = (o2L (slot j ρ)).toS ρ fun ds => (fk ρ).toS ρ fun k => (asInt k).toS ρ fun k => (ofO (L2.ixN ds.length k)).toS ρ fun m => if i = j then .no else .nx (ρ.set i (.al j m)) := rfl
theorem alL_ap : alL ρ (.al k j) = (o2L (slot k ρ)).bind fun ds => (ofO ds[j]?).bind fun d => (asLst d).bind fun es => ok (k, j, ds, es) := by
  show ((o2L (slot k ρ)).bind fun ds => (ofO ds[j]?).bind fun d => _) = _
  congr 1
  funext ds
  congr 1
  funext d
  cases d <;> rfl
theorem sAlApp_ap : sAlApp i fe ρ = (alL ρ (slot i ρ)).toS ρ fun r => (fe ρ).toS ρ fun y => if r.2.2.2.length < sizeLine then .nx (ρ.set r.1 (.o2 (.list (r.2.2.1.set r.2.1 (.list (r.2.2.2 ++ [y])))))) else .no := rfl
theorem sAlPut_ap : sAlPut i fk fe ρ = (fe ρ).toS ρ fun y => (alL ρ (slot i ρ)).toS ρ fun r => (fk ρ).toS ρ fun k => (asInt k).toS ρ fun k => (ofO (L2.ixN r.2.2.2.length k)).toS ρ fun m =>
  .nx (ρ.set r.1 (.o2 (.list (r.2.2.1.set r.2.1 (.list (r.2.2.2.set m y)))))) := rfl
theorem s2App_ap : s2App i fe ρ = (o2L (slot i ρ)).toS ρ fun ds => (fe ρ).toS ρ fun y => if ds.length < sizeLine then .nx (ρ.set i (.o2 (.list (ds ++ [y])))) else .no := rfl
theorem s2AppAt_ap : s2AppAt i fk fe ρ = (o2L (slot i ρ)).toS ρ fun ds => (fk ρ).toS ρ fun k => (asInt k).toS ρ fun k => (ofO (L2.ixN ds.length k)).toS ρ fun m => (ofO ds[m]?).toS ρ fun d => (itList d).toS ρ fun es => (fe ρ).toS ρ fun y =>
  if es.length < sizeLine then .nx (ρ.set i (.o2 (.list (ds.set m (.list (es ++ [y])))))) else .no := rfl
theorem killE_un : killE i .un = .un := rfl
theorem killE_sh : killE i (.sh d) = .sh d := rfl
theorem killE_ow : killE i (.ow d) = .ow d := rfl
theorem killE_o2 : killE i (.o2 d) = .o2 d := rfl
theorem killE_al : killE i (.al k j) = if k = i then .un else .al k j := rfl
theorem view_ap : view ρ = ρ.map (viewE ρ) := rfl
theorem viewE_un : viewE ρ .un = .un := rfl
theorem viewE_sh : viewE ρ (.sh d) = .sh d := rfl
theorem viewE_ow : viewE ρ (.ow d) = .sh d := rfl
theorem viewE_o2 : viewE ρ (.o2 d) = .sh d := rfl
theorem viewE_al : viewE ρ (.al k j) = viewA j (slot k ρ) := rfl
theorem viewA_map {α : Type} [Inhabited α] {f : α → D} {l : List α} : viewA j (.o2 (.list (l.map f))) = if j < l.length then .sh (f (nth l j)) else .un := by
  show (match (l.map f)[j]? with | some e => EV.sh e | none => EV.un) = _
  by_cases h : j < l.length
  · rw [if_pos h, List.getElem?_map, List.getElem?_eq_getElem h, nth_get h]
    rfl
  · rw [if_neg h, List.getElem?_eq_none (by rw [List.length_map]; omega)]
end
theorem nth_set {α : Type} [Inhabited α] {l : List α} {i j : Nat} {v : α} (h : i < l.length) : nth (l.set i v) (j : Int) = if j = i then v else nth l j := by
  rw [nth_nat, nth_nat, List.getD_eq_getElem?_getD, List.getElem?_set]
  by_cases e : i = j
  · subst e
    rw [if_pos rfl, if_pos rfl, if_pos h]
    rfl
  · rw [if_neg e, if_neg (fun z => e z.symm), List.getD_eq_getElem?_getD]
theorem nth_map {α β : Type} [Inhabited α] [Inhabited β] {f : α → β} {l : List α} {i : Nat} (h : i < l.length) : nth (l.map f) (i : Int) = f (nth l i) := by
  rw [nth_get (by rw [List.length_map]; exact h), nth_get h, List.getElem_map]
theorem nth_range {n i : Nat} (h : i < n) : nth (List.range n) (i : Int) = i := by
  rw [nth_get (by rw [List.length_range]; exact h), List.getElem_range]
theorem nth_tab {β : Type} [Inhabited β] {f : Nat → β} {n i : Nat} (h : i < n) : nth ((List.range n).map f) (i : Int) = f i := by
  rw [nth_map (by rw [List.length_range]; exact h), nth_range h]
/-! ### comprehensions -/
def mapO {α β : Type} (F : α → Out β) : List α → Out (List β)
  | [] => ok []
  | a :: l => (F a).bind fun b => (mapO F l).bind fun bs => ok (b :: bs)
theorem mapO_ok {α β : Type} {F : α → Out β} {h : α → β} : ∀ {l : List α}, (∀ a ∈ l, F a = ok (h a)) → mapO F l = ok (l.map h)
  | [], _ => rfl
  | a :: l, k => by
    show (F a).bind (fun b => (mapO F l).bind fun bs => ok (b :: bs)) = _
    rw [k a List.mem_cons_self, mapO_ok (h := h) fun b hb => k b (List.mem_cons_of_mem _ hb)]
    rfl
theorem mapO_all {α β : Type} {h : α → β} {l : List α} : mapO (fun a => ok (h a)) l = ok (l.map h) := mapO_ok fun _ _ => rfl
theorem mapO_guard {α β : Type} {c : α → Prop} [DecidablePred c] {h : α → β} : ∀ {l : List α}, mapO (fun a => if c a then ok (h a) else no) l = if ∀ a ∈ l, c a then ok (l.map h) else no
  | [] => by rw [if_pos (fun a h => nomatch h)]; rfl
  | a :: l => by
    show (if c a then ok (h a) else no).bind (fun b => (mapO (fun a => if c a then ok (h a) else no) l).bind fun bs => ok (b :: bs)) = _
    rw [mapO_guard (l := l)]
    by_cases h1 : c a
    · rw [if_pos h1]
      by_cases h2 : ∀ a ∈ l, c a
      · rw [if_pos h2, if_pos (fun b hb => by
          rcases List.mem_cons.mp hb with rfl | hb
          · exact h1
          · exact h2 b hb)]
        rfl
      · rw [if_neg h2, if_neg (fun z => h2 fun b hb => z b (List.mem_cons_of_mem _ hb))]
        rfl
    · have hn : ¬ ∀ b ∈ a :: l, c b := fun z => h1 (z a List.mem_cons_self)
      rw [if_neg h1, if_neg hn]
      rfl
theorem lcAll_map {α : Type} {fg : FG} {e : FE} {ρ : Rho} {f : α → D} {l : List α} : lcAll fg Dl.tYes e ρ (l.map f) = if l.length ≤ sizeLine then (mapO (fun a => (fg (f a) ρ).calm.bind fun ρ' => (e ρ').calm) l).bind fun ys => ok (.list ys) else no := by
  have : ∀ l : List α, lcGo fg Dl.tYes e ρ (l.map f) = mapO (fun a => (fg (f a) ρ).calm.bind fun ρ' => (e ρ').calm) l := fun l => by
    induction l with
    | nil => rfl
    | cons a l ih =>
      show ((fg (f a) ρ).calm.bind fun ρ' => (Dl.tYes ρ').calm.bind fun b => if b = true then (e ρ').calm.bind fun y => (lcGo fg Dl.tYes e ρ (l.map f)).bind fun ys => ok (y :: ys) else lcGo fg Dl.tYes e ρ (l.map f)) = _
      rw [ih]
      show _ = ((fg (f a) ρ).calm.bind fun ρ' => (e ρ').calm).bind _
      rw [obind_assoc]
      rfl
  unfold lcAll
  rw [List.length_map, this]
/-- with a test -/
def filO {α β : Type} (F : α → Out (Option β)) : List α → Out (List β)
  | [] => ok []
  | a :: l => (F a).bind fun b => (filO F l).bind fun bs => ok (match b with | some b => b :: bs | none => bs)
theorem filO_ok {α β : Type} {F : α → Out (Option β)} {h : α → Option β} : ∀ {l : List α}, (∀ a ∈ l, F a = ok (h a)) → filO F l = ok (l.filterMap h)
  | [], _ => rfl
  | a :: l, k => by
    show (F a).bind (fun b => (filO F l).bind fun bs => ok (match b with | some b => b :: bs | none => bs)) = _
    rw [k a List.mem_cons_self, filO_ok (h := h) fun b hb => k b (List.mem_cons_of_mem _ hb), List.filterMap_cons]
    show ok (match h a with | some b => b :: _ | none => _) = _
    cases h a <;> rfl
theorem lcAll_fil {α : Type} {fg : FG} {c : FT} {e : FE} {ρ : Rho} {f : α → D} {l : List α} : lcAll fg c e ρ (l.map f) = if l.length ≤ sizeLine then (filO (fun a => (fg (f a) ρ).calm.bind fun ρ' => (c ρ').calm.bind fun b => if b = true then (e ρ').calm.bind fun y => ok (some y) else ok none) l).bind fun ys => ok (.list ys) else no := by
  have : ∀ l : List α, lcGo fg c e ρ (l.map f) = filO (fun a => (fg (f a) ρ).calm.bind fun ρ' => (c ρ').calm.bind fun b => if b = true then (e ρ').calm.bind fun y => ok (some y) else ok none) l := fun l => by
    induction l with
    | nil => rfl
    | cons a l ih =>
      show ((fg (f a) ρ).calm.bind fun ρ' => (c ρ').calm.bind fun b => if b = true then (e ρ').calm.bind fun y => (lcGo fg c e ρ (l.map f)).bind fun ys => ok (y :: ys) else lcGo fg c e ρ (l.map f)) = _
      rw [ih]
      show _ = ((fg (f a) ρ).calm.bind fun ρ' => (c ρ').calm.bind fun b => if b = true then (e ρ').calm.bind fun y => ok (some y) else ok none).bind _
      rw [obind_assoc]
      congr 1
      funext ρ'
      rw [obind_assoc]
      congr 1
      funext b
      cases b with
      | true =>
        rw [if_pos rfl, if_pos rfl, obind_assoc]
        rfl
      | false =>
        rw [if_neg Bool.false_ne_true, if_neg Bool.false_ne_true]
        show _ = (filO _ l).bind fun bs => ok bs
        cases filO (fun a => (fg (f a) ρ).calm.bind fun ρ' => (c ρ').calm.bind fun b => if b = true then (e ρ').calm.bind fun y => ok (some y) else ok none) l <;> rfl
  unfold lcAll
  rw [List.length_map, this]
theorem filO_if {α β : Type} {c : α → Prop} [DecidablePred c] {h : α → β} {l : List α} : filO (fun a => if c a then ok (some (h a)) else ok none) l = ok ((l.filter fun a => decide (c a)).map h) := by
  rw [filO_ok (h := fun a => if c a then some (h a) else none) (fun a _ => by split <;> rfl)]
  congr 1
  induction l with
  | nil => rfl
  | cons a l ih =>
    by_cases q : c a
    · simp [q, ih]
    · simp [q, ih]
theorem filter_none {α : Type} {p : α → Prop} [DecidablePred p] {l : List α} : 0 < ((l.filter fun a => decide (p a)).length : Int) ↔ ∃ a ∈ l, p a := by
  constructor
  · intro h
    have h : 0 < (l.filter fun a => decide (p a)).length := by omega
    obtain ⟨a, ha⟩ := List.exists_mem_of_length_pos h
    rw [List.mem_filter] at ha
    exact ⟨a, ha.1, of_decide_eq_true ha.2⟩
  · rintro ⟨a, h1, h2⟩
    have := List.length_pos_of_mem (List.mem_filter (p := fun a => decide (p a)) |>.mpr ⟨h1, decide_eq_true h2⟩)
    omega
theorem all_nth {α : Type} [Inhabited α] {P : α → Prop} {l : List α} : (∀ a ∈ l, P a) ↔ ∀ k : Nat, k < l.length → P (nth l k) := by
  constructor
  · intro h k hk
    exact h _ (nth_mem (by omega) (by omega))
  · intro h a ha
    obtain ⟨k, hk, e⟩ := List.mem_iff_getElem.mp ha
    have := h k hk
    rw [nth_get hk, e] at this
    exact this
/-! ### loops -/
theorem SS_for {α : Type} {fg : FG} {s : FS} {f : α → D} {N B C : Rho → Prop} {R : Bool → D → Prop} (I : Nat → Rho → Prop) {l : List α} {ρ : Rho} (h0 : I 0 ρ)
    (hs : ∀ (i : Nat) (a : α) (ρ : Rho), l[i]? = some a → I i ρ → ((fg (f a) ρ).calm.toS ρ s).S (I (i + 1)) N (I (i + 1)) R) (hn : ∀ ρ, I l.length ρ → N ρ) : (forGo fg s (l.map f) ρ).S N B C R := by
  have key : ∀ (m : List α) (k : Nat) (ρ : Rho), l.drop k = m → k + m.length = l.length → I k ρ → (forGo fg s (m.map f) ρ).S N B C R := fun m => by
    induction m with
    | nil =>
      intro k ρ hd hk hi
      rw [List.length_nil, Nat.add_zero] at hk
      subst hk
      exact ⟨hn ρ hi⟩
    | cons a m ih =>
      intro k ρ hd hk hi
      have hg : l[k]? = some a := by
        rw [← List.head?_drop, hd]
        rfl
      have hd' : l.drop (k + 1) = m := by
        rw [← List.tail_drop, hd]
        rfl
      have := hs k a ρ hg hi
      show ((fg (f a) ρ).calm.toS ρ fun ρ' => match s ρ' with
        | .nx ρ2 => forGo fg s (m.map f) ρ2
        | .ct ρ2 => forGo fg s (m.map f) ρ2
        | .bk ρ2 => .nx ρ2
        | r => r).S N B C R
      cases q : fg (f a) ρ with
      | ok ρ' =>
        rw [q] at this
        have this : (s ρ').S (I (k + 1)) N (I (k + 1)) R := this
        show (match s ρ' with
          | .nx ρ2 => forGo fg s (m.map f) ρ2
          | .ct ρ2 => forGo fg s (m.map f) ρ2
          | .bk ρ2 => .nx ρ2
          | r => r : SRes).S N B C R
        have hk' : k + 1 + m.length = l.length := by rw [List.length_cons] at hk; omega
        cases q2 : s ρ' with
        | nx ρ2 => rw [q2] at this; exact ih (k + 1) ρ2 hd' hk' this.sm
        | ct ρ2 => rw [q2] at this; exact ih (k + 1) ρ2 hd' hk' this.sm
        | bk ρ2 => rw [q2] at this; exact ⟨this.sm⟩
        | rt b d => rw [q2] at this; exact ⟨this.sm⟩
        | ex c ρ2 => rw [q2] at this; exact this.sm.elim
        | no => rw [q2] at this; exact this.sm.elim
      | ex c => rw [q] at this; exact this.sm.elim
      | no => rw [q] at this; exact this.sm.elim
  exact key l 0 ρ rfl (by omega) h0
theorem range_get {n i a : Nat} (h : (List.range n)[i]? = some a) : i < n ∧ a = i := by
  by_cases hi : i < n
  · rw [List.getElem?_range hi] at h
    exact ⟨hi, (Option.some.inj h).symm⟩
  · rw [List.getElem?_eq_none (by rw [List.length_range]; omega)] at h
    cases h
/-- .. over range(n) -/
theorem SS_forR {fg : FG} {s : FS} {f : Nat → D} {N B C : Rho → Prop} {R : Bool → D → Prop} (I : Nat → Rho → Prop) {n : Nat} {ρ : Rho} (h0 : I 0 ρ)
    (hs : ∀ (i : Nat) (ρ : Rho), i < n → I i ρ → ((fg (f i) ρ).calm.toS ρ s).S (I (i + 1)) N (I (i + 1)) R) (hn : ∀ ρ, I n ρ → N ρ) : (forGo fg s ((List.range n).map f) ρ).S N B C R :=
  SS_for I h0 (fun i a ρ h hI => by
    obtain ⟨h1, rfl⟩ := range_get h
    exact hs _ ρ h1 hI) fun ρ h => hn ρ (by rw [List.length_range] at h; exact h)
/-- a loop that never leaves its list early, told by a state -/
theorem for_fold {α σ : Type} {fg : FG} {s : FS} {f : α → D} (I : σ → Rho → Prop) (st : σ → α → σ) : ∀ {l : List α} {ρ : Rho} {x : σ}, I x ρ → (∀ x a ρ, a ∈ l → I x ρ → ((fg (f a) ρ).calm.toS ρ s).S (I (st x a)) (fun _ => False) (I (st x a)) fun _ _ => False) →
    ∃ ρ', forGo fg s (l.map f) ρ = .nx ρ' ∧ I (l.foldl st x) ρ'
  | [], ρ, x, h, _ => ⟨ρ, rfl, h⟩
  | a :: l, ρ, x, h, k => by
    have := k x a ρ List.mem_cons_self h
    cases q : fg (f a) ρ with
    | ok ρ' =>
      rw [q] at this
      have this : (s ρ').S (I (st x a)) (fun _ => False) (I (st x a)) fun _ _ => False := this
      have e : forGo fg s ((a :: l).map f) ρ = (match s ρ' with
        | .nx ρ2 => forGo fg s (l.map f) ρ2
        | .ct ρ2 => forGo fg s (l.map f) ρ2
        | .bk ρ2 => .nx ρ2
        | r => r) := by
        show ((fg (f a) ρ).calm.toS ρ fun ρ' => match s ρ' with
          | .nx ρ2 => forGo fg s (l.map f) ρ2
          | .ct ρ2 => forGo fg s (l.map f) ρ2
          | .bk ρ2 => .nx ρ2
          | r => r) = _
        rw [q]
        rfl
      rw [e]
      cases q2 : s ρ' with
      | nx ρ2 => rw [q2] at this; exact for_fold I st this.sm fun x a ρ m => k x a ρ (List.mem_cons_of_mem _ m)
      | ct ρ2 => rw [q2] at this; exact for_fold I st this.sm fun x a ρ m => k x a ρ (List.mem_cons_of_mem _ m)
      | bk ρ2 => rw [q2] at this; exact this.sm.elim
      | rt b d => rw [q2] at this; exact this.sm.elim
      | ex c ρ2 => rw [q2] at this; exact this.sm.elim
      | no => rw [q2] at this; exact this.sm.elim
    | ex c => rw [q] at this; exact this.sm.elim
    | no => rw [q] at this; exact this.sm.elim
/-! ### a def -/
theorem run_S {np n : Nat} {b : FS} {ds : List D} {P : Bool × D → Prop} (h : ds.length = np) (k : (b (startR n ds)).S (fun _ => P (false, .none)) (fun _ => False) (fun _ => False) fun b d => P (b, d)) : (runF np n b ds).S P := by
  unfold runF
  rw [if_pos h]
  cases q : b (startR n ds) with
  | nx ρ => rw [q] at k; exact ⟨k.sm⟩
  | bk ρ => rw [q] at k; exact k.sm.elim
  | ct ρ => rw [q] at k; exact k.sm.elim
  | rt b d => rw [q] at k; exact ⟨k.sm⟩
  | ex c ρ => rw [q] at k; exact k.sm.elim
  | no => rw [q] at k; exact k.sm.elim
theorem run_ok {np n : Nat} {b : FS} {ds : List D} {v : Bool × D} (h : ds.length = np) (k : (b (startR n ds)).S (fun _ => (false, PyData.none) = v) (fun _ => False) (fun _ => False) fun b d => (b, d) = v) : runF np n b ds = ok v := by
  obtain ⟨a, h1, h2⟩ := S_iff.mp (run_S (P := fun w => w = v) h k)
  rw [h1, h2]
theorem ok_dec {x : Out (Bool × D)} {f : Bool} {P : Prop} [Decidable P] (h : x.S fun r => ∃ b, r = (f, .bool b) ∧ (b = true ↔ P)) : x = ok (f, .bool (decide P)) := by
  obtain ⟨r, h1, b, h2, h3⟩ := S_iff.mp h
  rw [h1, h2]
  congr 3
  by_cases q : P
  · rw [decide_eq_true q]; exact h3.mpr q
  · rw [decide_eq_false q]
    cases b with
    | false => rfl
    | true => exact absurd (h3.mp rfl) q
theorem ite_F {c p : Prop} [Decidable c] : (if c then p else False) ↔ c ∧ p := by
  by_cases h : c
  · rw [if_pos h]; exact ⟨fun z => ⟨h, z⟩, fun z => z.2⟩
  · rw [if_neg h]; exact ⟨fun z => z.elim, fun z => h z.1⟩
theorem ret_b {f c : Bool} {P : Prop} : (∃ b, (f, PyData.bool c) = (f, PyData.bool b) ∧ (b = true ↔ P)) ↔ (c = true ↔ P) :=
  ⟨fun ⟨b, h, k⟩ => by cases h; exact k, fun h => ⟨c, rfl, h⟩⟩
theorem bl_b {c : Bool} {P : Prop} : (∃ b, PyData.bool c = PyData.bool b ∧ (b = true ↔ P)) ↔ (c = true ↔ P) :=
  ⟨fun ⟨b, h, k⟩ => by cases h; exact k, fun h => ⟨c, rfl, h⟩⟩
theorem ok_decB {x : Out D} {P : Prop} [Decidable P] (h : x.S fun r => ∃ b, r = .bool b ∧ (b = true ↔ P)) : x = ok (.bool (decide P)) := by
  obtain ⟨r, h1, b, h2, h3⟩ := S_iff.mp h
  rw [h1, h2]
  congr 2
  by_cases q : P
  · rw [decide_eq_true q]; exact h3.mpr q
  · rw [decide_eq_false q]
    cases b with
    | false => rfl
    | true => exact absurd (h3.mp rfl) q
theorem ok_ex {x : Out (Bool × D)} {α : Type} {f : α → D} {b : Bool} {Q : α → Prop} (h : x.S fun r => ∃ l, r = (b, f l) ∧ Q l) : ∃ l, x = ok (b, f l) ∧ Q l := by
  obtain ⟨r, h1, l, h2, h3⟩ := S_iff.mp h
  exact ⟨l, by rw [h1, h2], h3⟩
theorem szl {n : Nat} (h : n ≤ 1000000) : n ≤ sizeLine := Nat.le_trans h (by decide)
theorem sz0 : 0 ≤ sizeLine := szl (by omega)
theorem sz1 : 1 ≤ sizeLine := szl (by omega)
theorem sz2 : 2 ≤ sizeLine := szl (by omega)
theorem sz3 : 3 ≤ sizeLine := szl (by omega)
theorem sz4 : 4 ≤ sizeLine := szl (by omega)
theorem sz5 : 5 ≤ sizeLine := szl (by omega)
theorem sz6 : 6 ≤ sizeLine := szl (by omega)
theorem sz7 : 7 ≤ sizeLine := szl (by omega)
theorem sz8 : 8 ≤ sizeLine := szl (by omega)
theorem sz9 : 9 ≤ sizeLine := szl (by omega)
theorem sz10 : 10 ≤ sizeLine := szl (by omega)
theorem sz11 : 11 ≤ sizeLine := szl (by omega)
theorem sz12 : 12 ≤ sizeLine := szl (by omega)
theorem sz13 : 13 ≤ sizeLine := szl (by omega)
theorem sz14 : 14 ≤ sizeLine := szl (by omega)
theorem sz15 : 15 ≤ sizeLine := szl (by omega)
theorem sz16 : 16 ≤ sizeLine := szl (by omega)
theorem sz17 : 17 ≤ sizeLine := szl (by omega)
theorem sz18 : 18 ≤ sizeLine := szl (by omega)
theorem sz19 : 19 ≤ sizeLine := szl (by omega)
theorem sz20 : 20 ≤ sizeLine := szl (by omega)
theorem szl' {n : Nat} (h : n < 1000000) : n < sizeLine := Nat.lt_of_lt_of_le h (by decide)
/-! ### == of a thing and itself -/
theorem oEq_self {d : D} (h : SeqAt.shaped d = true) : oEq d d = ok (.bool true) := by
  unfold oEq eqOk
  rw [if_pos (by rw [h]; simp), SeqAt.eqv_refl d (SeqAt.canLay_of_shaped h)]
theorem oNe_self {d : D} (h : SeqAt.shaped d = true) : oNe d d = ok (.bool false) := by
  unfold oNe eqOk
  rw [if_pos (by rw [h]; simp), SeqAt.eqv_refl d (SeqAt.canLay_of_shaped h)]
  rfl
/-- data that == takes, at most k deep -/
def Shp (k : Nat) (d : D) : Prop := d.canLay0 = true ∧ d.depth ≤ k
theorem Shp.shaped {k : Nat} {d : D} (h : Shp k d) (hk : k ≤ 64) : SeqAt.shaped d = true := by
  unfold SeqAt.shaped
  rw [h.1]
  exact decide_eq_true (Nat.le_trans h.2 hk)
theorem shp_int {i : Int} : Shp 0 (.int i) := ⟨rfl, Nat.le_refl _⟩
theorem shp_str {s : Str} (h : PyData.strOk s = true) : Shp 0 (.str s) := ⟨by unfold PyData.canLay0; exact h, Nat.le_refl _⟩
theorem shp_all {k : Nat} : ∀ {ds : List D}, (∀ d ∈ ds, Shp k d) → PyData.canLayAll0 ds = true ∧ PyData.depthAll ds ≤ k
  | [], _ => ⟨rfl, Nat.zero_le _⟩
  | d :: ds, h => by
    obtain ⟨h1, h2⟩ := shp_all fun e he => h e (List.mem_cons_of_mem _ he)
    obtain ⟨h3, h4⟩ := h d List.mem_cons_self
    unfold PyData.canLayAll0 PyData.depthAll
    rw [h3, h1]
    exact ⟨rfl, Nat.max_le.mpr ⟨h4, h2⟩⟩
theorem shp_lst {k : Nat} {ds : List D} (h : ∀ d ∈ ds, Shp k d) : Shp (k + 1) (.list ds) := by
  obtain ⟨h1, h2⟩ := shp_all h
  unfold Shp PyData.canLay0 PyData.depth
  exact ⟨h1, Nat.add_le_add_right h2 1⟩
theorem shp_tup {k : Nat} {ds : List D} (h : ∀ d ∈ ds, Shp k d) : Shp (k + 1) (.tuple ds) := by
  obtain ⟨h1, h2⟩ := shp_all h
  unfold Shp PyData.canLay0 PyData.depth
  exact ⟨h1, Nat.add_le_add_right h2 1⟩
theorem Shp.up {k m : Nat} {d : D} (h : Shp k d) (hk : k ≤ m) : Shp m d := ⟨h.1, Nat.le_trans h.2 hk⟩
theorem shp_map {α : Type} {k : Nat} {f : α → D} {l : List α} (h : ∀ a ∈ l, Shp k (f a)) : Shp (k + 1) (.list (l.map f)) := shp_lst fun d hd => by
  obtain ⟨a, ha, rfl⟩ := List.mem_map.mp hd
  exact h a ha
end Dl

/-! what the defs compute; printed by gen.py -/
namespace K81
open PySem Dl Out
def fb_is_common_row : FS :=
  sSeq (sIf (tNot (fTru (f1 oAll (fLc (iList (fS 2)) (gTup 2 (gsCons (gSet 3) (gsCons (gSet 4) (gsNil)))) (tYes) (fAndV (fChain oLe oLt (fC (.int 0)) (fV 3) (f1 oLen (fV 0))) (fAndV (fChain oLe oLt (fC (.int 0)) (fV 4) (f1 oLen (fV 1))) (f2 oEq (f2 oIx (fV 0) (fV 3)) (f2 oIx (fV 1) (fV 4))))) [3, 4])))) (sRet (fC (.bool false))) (sNext)) (sRet (f1 oAll (fLc (iRange2 (fC (.int 1)) (f1 oLen (fV 2))) (gSet 5) (tYes) (fAndV (f2 oLt (f2 oIx (f2 oIx (fV 2) (f2 oSub (fV 5) (fC (.int 1)))) (fC (.int 0))) (f2 oIx (f2 oIx (fV 2) (fV 5)) (fC (.int 0)))) (f2 oLt (f2 oIx (f2 oIx (fV 2) (f2 oSub (fV 5) (fC (.int 1)))) (fC (.int 1))) (f2 oIx (f2 oIx (fV 2) (fV 5)) (fC (.int 1))))) [5])))
def g_is_common_row : Fn := runF 3 6 fb_is_common_row
def fb_is_label : FS :=
  sSeq (sAsg (f2 oIx (f2 oIx (fV 2) (fV 3)) (fV 4)) (gSet 5)) (sSeq (sIf (tOr (fB (f2 oLt (fV 5) (fC (.int 0)))) (tOr (tAnd (fB (f2 oLt (fV 3) (f1 oLen (fV 0)))) (fB (f2 oLt (fV 5) (f2 oIx (f2 oIx (fV 2) (f2 oAdd (fV 3) (fC (.int 1)))) (fV 4))))) (tAnd (fB (f2 oLt (fV 4) (f1 oLen (fV 1)))) (fB (f2 oLt (fV 5) (f2 oIx (f2 oIx (fV 2) (fV 3)) (f2 oAdd (fV 4) (fC (.int 1))))))))) (sRet (fC (.bool false))) (sNext)) (sSeq (sIf (tOr (fB (f2 oEq (fV 3) (f1 oLen (fV 0)))) (tOr (fB (f2 oEq (fV 4) (f1 oLen (fV 1)))) (fB (f2 oNe (f2 oIx (fV 0) (fV 3)) (f2 oIx (fV 1) (fV 4)))))) (sRet (fC (.bool true))) (sNext)) (sRet (f2 oGe (fV 5) (f2 oAdd (f2 oIx (f2 oIx (fV 2) (f2 oAdd (fV 3) (fC (.int 1)))) (f2 oAdd (fV 4) (fC (.int 1)))) (fC (.int 1)))))))
def g_is_label : Fn := runF 5 6 fb_is_label
def fb_judge_common : FS :=
  sSeq (sAsg (fS 2) (gTup 3 (gsCons (gSet 3) (gsCons (gSet 4) (gsCons (gSet 5) (gsNil)))))) (sSeq (sIf (tOr (fB (f2 oNe (fV 3) (f1 oLen (fV 4)))) (tNot (fTru (fCall g_is_common_row (aCons (fS 0) (aCons (fS 1) (aCons (fS 4) (aNil)))))))) (sRet (fC (.bool false))) (sNext)) (sSeq (sIf (tOr (fB (f2 oNe (f1 oLen (fV 5)) (f2 oAdd (f1 oLen (fV 0)) (fC (.int 1))))) (tNot (fTru (f1 oAll (fLc (iList (fS 5)) (gSet 6) (tYes) (f2 oEq (f1 oLen (fV 6)) (f2 oAdd (f1 oLen (fV 1)) (fC (.int 1)))) [6]))))) (sRet (fC (.bool false))) (sNext)) (sSeq (sFor (iRange1 (f2 oAdd (f1 oLen (fV 0)) (fC (.int 1)))) (gSet 7) (sIf (tNot (fTru (f1 oAll (fLc (iRange1 (f2 oAdd (f1 oLen (fV 1)) (fC (.int 1)))) (gSet 8) (tYes) (fCall g_is_label (aCons (fS 0) (aCons (fS 1) (aCons (fS 5) (aCons (fS 7) (aCons (fS 8) (aNil))))))) [8])))) (sRet (fC (.bool false))) (sNext))) (sRet (f2 oGe (fV 3) (f2 oIx (f2 oIx (fV 5) (fC (.int 0))) (fC (.int 0))))))))
def g_judge_common : Fn := runF 3 9 fb_judge_common
def fb_law_cell : FS :=
  sSeq (sIf (fB (f2 oLt (fV 1) (f1 oLen (fV 0)))) (sRet (f1 oInt (f2 oIx (fV 0) (fV 1)))) (sNext)) (sRet (fC (.int 0)))
def g_law_cell : Fn := runF 2 2 fb_law_cell
def fb_law_numbers : FS :=
  sSeq (sSetN (fLst (aNil)) 3) (sSeq (sIf (fB (f2 oGe (fV 0) (f2 oPow (fC (.int 10)) (fC (.int 18))))) (sSeq (sFor (iRange1 (fV 1)) (gSet 4) (sSeq (sApp 3 (f2 oMod (f1 oInt (fV 0)) (fV 2))) (sAsg (f2 oFdiv (f1 oInt (fV 0)) (fV 2)) (gSet 0)))) (sRetO 3)) (sNext)) (sSeq (sFor (iRange1 (fV 1)) (gSet 4) (sSeq (sAsg (f2 oMod (f1 oInt (f2 oAdd (f2 oAdd (f2 oMul (fV 0) (fC (.int 48271))) (f2 oMul (fV 4) (fC (.int 69621)))) (fC (.int 7)))) (fC (.int 2147483647))) (gSet 5)) (sSeq (sAsg (f2 oMod (f1 oInt (f2 oAdd (f2 oAdd (f2 oAdd (f2 oMul (fV 5) (fV 5)) (f2 oMul (fV 5) (fC (.int 40692)))) (f2 oMul (fV 4) (fC (.int 16807)))) (fC (.int 11)))) (fC (.int 2147483399))) (gSet 5)) (sApp 3 (f2 oMod (f1 oInt (f2 oFdiv (fV 5) (fC (.int 32)))) (fV 2)))))) (sRetO 3)))
def g_law_numbers : Fn := runF 3 6 fb_law_numbers
def fb_law_table : FS :=
  sSeq (sSetN2 (fLc (iRange1 (f2 oAdd (f1 oLen (fV 0)) (fC (.int 1)))) (gSet 4) (tYes) (fLc (iRange1 (f2 oAdd (f1 oLen (fV 1)) (fC (.int 1)))) (gSet 3) (tYes) (fC (.int 0)) [3]) [4]) 2) (sSeq (sFor (iRange1 (f1 oLen (fV 0))) (gSet 5) (sSeq (sAsg (f2 oSub (f2 oSub (f1 oLen (fV 0)) (fC (.int 1))) (fV 5)) (gSet 4)) (sSeq (sAl 6 2 (fV 4)) (sFor (iRange1 (f1 oLen (fV 1))) (gSet 7) (sSeq (sAsg (f2 oSub (f2 oSub (f1 oLen (fV 1)) (fC (.int 1))) (fV 7)) (gSet 3)) (sSeq (sAlPut 6 (fV 3) (f2 oMax2 (fX (f2 oIx (f2 oIx (fV 2) (f2 oAdd (fV 4) (fC (.int 1)))) (fV 3))) (fX (f2 oIx (fV 6) (f2 oAdd (fV 3) (fC (.int 1))))))) (sIf (fB (f2 oEq (f2 oIx (fV 0) (fV 4)) (f2 oIx (fV 1) (fV 3)))) (sAlPut 6 (fV 3) (f2 oAdd (fC (.int 1)) (fX (f2 oIx (f2 oIx (fV 2) (f2 oAdd (fV 4) (fC (.int 1)))) (f2 oAdd (fV 3) (fC (.int 1))))))) (sNext)))))))) (sRetO 2))
def g_law_table : Fn := runF 2 8 fb_law_table
def fb_law_from_end : FS :=
  sSeq (sAsg (fCall g_law_table (aCons (f1 oRev (fV 0)) (aCons (f1 oRev (fV 1)) (aNil)))) (gSet 2)) (sSeq (sAsg (f1 oLen (fV 0)) (gSet 3)) (sSeq (sAsg (f1 oLen (fV 1)) (gSet 4)) (sSeq (sAsg (fLst (aNil)) (gSet 5)) (sSeq (sFor (iRange1 (f2 oAdd (f1 oLen (fV 0)) (f1 oLen (fV 1)))) (gSet 6) (sIf (tAnd (fB (f2 oGt (fV 3) (fC (.int 0)))) (fB (f2 oGt (fV 4) (fC (.int 0))))) (sIf (fB (f2 oEq (f2 oIx (fV 0) (f2 oSub (fV 3) (fC (.int 1)))) (f2 oIx (fV 1) (f2 oSub (fV 4) (fC (.int 1)))))) (sSeq (sAsg (f2 oCat (fLst (aCons (fTup (aCons (f2 oSub (fV 3) (fC (.int 1))) (aCons (f2 oSub (fV 4) (fC (.int 1))) (aNil)))) (aNil))) (fV 5)) (gSet 5)) (sSeq (sAsg (f2 oSub (fV 3) (fC (.int 1))) (gSet 3)) (sAsg (f2 oSub (fV 4) (fC (.int 1))) (gSet 4)))) (sIf (fB (f2 oEq (f2 oIx (f2 oIx (fV 2) (f2 oSub (f1 oLen (fV 0)) (fV 3))) (f2 oSub (f1 oLen (fV 1)) (fV 4))) (f2 oIx (f2 oIx (fV 2) (f2 oSub (f1 oLen (fV 0)) (fV 3))) (f2 oAdd (f2 oSub (f1 oLen (fV 1)) (fV 4)) (fC (.int 1)))))) (sAsg (f2 oSub (fV 4) (fC (.int 1))) (gSet 4)) (sAsg (f2 oSub (fV 3) (fC (.int 1))) (gSet 3)))) (sNext))) (sRet (fS 5))))))
def g_law_from_end : Fn := runF 2 7 fb_law_from_end
def fb_law_good : FS :=
  sSeq (sAsg (fS 2) (gTup 3 (gsCons (gSet 3) (gsCons (gSet 4) (gsCons (gSet 5) (gsNil)))))) (sSeq (sIf (tOr (fB (f2 oNe (fV 3) (f1 oLen (fV 4)))) (tOr (fB (f2 oNe (f1 oLen (fV 5)) (f2 oAdd (f1 oLen (fV 0)) (fC (.int 1))))) (fB (f2 oGt (f1 oLen (fLc (iList (fS 5)) (gSet 6) (fB (f2 oNe (f1 oLen (fV 6)) (f2 oAdd (f1 oLen (fV 1)) (fC (.int 1))))) (fC (.int 1)) [6])) (fC (.int 0)))))) (sRet (fC (.bool false))) (sNext)) (sSeq (sFor (iRange1 (f1 oLen (fV 4))) (gSet 7) (sSeq (sAsg (f2 oIx (fV 4) (fV 7)) (gTup 2 (gsCons (gSet 8) (gsCons (gSet 9) (gsNil))))) (sSeq (sIf (tOr (fB (f2 oLt (fV 8) (fC (.int 0)))) (tOr (fB (f2 oLt (fV 9) (fC (.int 0)))) (tOr (fB (f2 oGe (fV 8) (f1 oLen (fV 0)))) (tOr (fB (f2 oGe (fV 9) (f1 oLen (fV 1)))) (fB (f2 oNe (f2 oIx (fV 0) (fV 8)) (f2 oIx (fV 1) (fV 9)))))))) (sRet (fC (.bool false))) (sNext)) (sIf (tAnd (fB (f2 oGt (fV 7) (fC (.int 0)))) (tOr (fB (f2 oGe (f2 oIx (f2 oIx (fV 4) (f2 oSub (fV 7) (fC (.int 1)))) (fC (.int 0))) (fV 8))) (fB (f2 oGe (f2 oIx (f2 oIx (fV 4) (f2 oSub (fV 7) (fC (.int 1)))) (fC (.int 1))) (fV 9))))) (sRet (fC (.bool false))) (sNext))))) (sSeq (sFor (iRange1 (f2 oAdd (f1 oLen (fV 0)) (fC (.int 1)))) (gSet 8) (sFor (iRange1 (f2 oAdd (f1 oLen (fV 1)) (fC (.int 1)))) (gSet 9) (sSeq (sAsg (fC (.int 0)) (gSet 10)) (sSeq (sIf (fB (f2 oLt (fV 8) (f1 oLen (fV 0)))) (sAsg (f2 oMax2 (fV 10) (f2 oIx (f2 oIx (fV 5) (f2 oAdd (fV 8) (fC (.int 1)))) (fV 9))) (gSet 10)) (sNext)) (sSeq (sIf (fB (f2 oLt (fV 9) (f1 oLen (fV 1)))) (sAsg (f2 oMax2 (fV 10) (f2 oIx (f2 oIx (fV 5) (fV 8)) (f2 oAdd (fV 9) (fC (.int 1))))) (gSet 10)) (sNext)) (sSeq (sIf (tAnd (fB (f2 oLt (fV 8) (f1 oLen (fV 0)))) (tAnd (fB (f2 oLt (fV 9) (f1 oLen (fV 1)))) (fB (f2 oEq (f2 oIx (fV 0) (fV 8)) (f2 oIx (fV 1) (fV 9)))))) (sAsg (f2 oMax2 (fV 10) (f2 oAdd (fC (.int 1)) (f2 oIx (f2 oIx (fV 5) (f2 oAdd (fV 8) (fC (.int 1)))) (f2 oAdd (fV 9) (fC (.int 1)))))) (gSet 10)) (sNext)) (sIf (fB (f2 oLt (f2 oIx (f2 oIx (fV 5) (fV 8)) (fV 9)) (fV 10))) (sRet (fC (.bool false))) (sNext)))))))) (sRet (f2 oGe (fV 3) (f2 oIx (f2 oIx (fV 5) (fC (.int 0))) (fC (.int 0))))))))
def g_law_good : Fn := runF 3 11 fb_law_good
def fb_law_spoilt : FS :=
  sSeq (sAsg (fS 2) (gTup 3 (gsCons (gSet 4) (gsCons (gSet 5) (gsCons (gSet 6) (gsNil)))))) (sSeq (sSetN (fLst (aCons (fS 2) (aCons (fTup (aCons (f2 oAdd (fV 4) (fC (.int 1))) (aCons (fS 5) (aCons (fS 6) (aNil))))) (aCons (fTup (aCons (f2 oSub (fV 4) (fC (.int 1))) (aCons (fS 5) (aCons (fS 6) (aNil))))) (aCons (fTup (aCons (fS 4) (aCons (fS 5) (aCons (fSl (fV 6) (fNoPart) (fPart (f1 oNeg (fC (.int 1))))) (aNil))))) (aCons (fTup (aCons (fS 4) (aCons (fS 5) (aCons (fSl (fV 6) (fPart (fC (.int 1))) (fNoPart)) (aNil))))) (aNil))))))) 7) (sSeq (sSetN (f2 oCat (fV 7) (fLst (aCons (fTup (aCons (fS 4) (aCons (fS 5) (aCons (f2 oCat (fV 6) (fLst (aCons (f2 oIx (fV 6) (fC (.int 0))) (aNil)))) (aNil))))) (aCons (fTup (aCons (fS 4) (aCons (fS 5) (aCons (fLc (iList (fS 6)) (gSet 8) (tYes) (f2 oCat (fV 8) (fLst (aCons (fC (.int 0)) (aNil)))) [8]) (aNil))))) (aCons (fTup (aCons (fS 4) (aCons (fS 5) (aCons (fLc (iList (fS 6)) (gSet 8) (tYes) (fSl (fV 8) (fNoPart) (fPart (f1 oNeg (fC (.int 1))))) [8]) (aNil))))) (aNil)))))) 7) (sSeq (sSetN (f2 oCat (fV 7) (fLst (aCons (fTup (aCons (fS 4) (aCons (f1 oRev (fV 5)) (aCons (fS 6) (aNil))))) (aCons (fTup (aCons (fS 4) (aCons (fSl (fV 5) (fNoPart) (fPart (f1 oNeg (fC (.int 1))))) (aCons (fS 6) (aNil))))) (aCons (fTup (aCons (fS 4) (aCons (f2 oCat (fV 5) (fLst (aCons (fTup (aCons (f1 oLen (fV 0)) (aCons (f1 oLen (fV 1)) (aNil)))) (aNil)))) (aCons (fS 6) (aNil))))) (aNil)))))) 7) (sSeq (sSetN (f2 oCat (fV 7) (fLst (aCons (fTup (aCons (f2 oSub (fV 4) (fC (.int 1))) (aCons (fSl (fV 5) (fNoPart) (fPart (f1 oNeg (fC (.int 1))))) (aCons (fS 6) (aNil))))) (aCons (fTup (aCons (f2 oAdd (fV 4) (fC (.int 1))) (aCons (f2 oCat (fV 5) (fLst (aCons (fTup (aCons (f2 oSub (f1 oLen (fV 0)) (fC (.int 1))) (aCons (f2 oSub (f1 oLen (fV 1)) (fC (.int 1))) (aNil)))) (aNil)))) (aCons (fS 6) (aNil))))) (aCons (fTup (aCons (f2 oSub (fV 4) (fC (.int 1))) (aCons (fSl (fV 5) (fPart (fC (.int 1))) (fNoPart)) (aCons (fS 6) (aNil))))) (aNil)))))) 7) (sSeq (sApp 7 (fTup (aCons (fC (.int 0)) (aCons (fLst (aNil)) (aCons (fLc (iList (fS 6)) (gSet 8) (tYes) (fLc (iList (fS 8)) (gSet 9) (tYes) (fC (.int 0)) [9]) [8]) (aNil)))))) (sSeq (sFor (iList (fLst (aCons (fC (.int 1)) (aCons (f1 oNeg (fC (.int 1))) (aCons (fC (.int 2)) (aNil)))))) (gSet 10) (sSeq (sFor (iRange1 (fC (.int 4))) (gSet 11) (sSeq (sAsg (f2 oMod (f2 oIx (fV 3) (f2 oMul (fC (.int 2)) (fV 11))) (f1 oLen (fV 6))) (gSet 12)) (sSeq (sAsg (f2 oMod (f2 oIx (fV 3) (f2 oAdd (f2 oMul (fC (.int 2)) (fV 11)) (fC (.int 1)))) (f1 oLen (f2 oIx (fV 6) (fV 12)))) (gSet 13)) (sSeq (sAsg (f2 oCat (f2 oCat (fSl (f2 oIx (fV 6) (fV 12)) (fNoPart) (fPart (fV 13))) (fLst (aCons (f2 oAdd (f2 oIx (f2 oIx (fV 6) (fV 12)) (fV 13)) (fV 10)) (aNil)))) (fSl (f2 oIx (fV 6) (fV 12)) (fPart (f2 oAdd (fV 13) (fC (.int 1)))) (fNoPart))) (gSet 8)) (sApp 7 (fTup (aCons (fS 4) (aCons (fS 5) (aCons (f2 oCat (f2 oCat (fSl (fV 6) (fNoPart) (fPart (fV 12))) (fLst (aCons (fS 8) (aNil)))) (fSl (fV 6) (fPart (f2 oAdd (fV 12) (fC (.int 1)))) (fNoPart))) (aNil)))))))))) (sSeq (sApp 7 (fTup (aCons (fS 4) (aCons (fS 5) (aCons (fLc (iList (fS 6)) (gSet 8) (tYes) (fLc (iList (fS 8)) (gSet 9) (tYes) (f2 oAdd (fV 9) (fV 10)) [9]) [8]) (aNil)))))) (sApp 7 (fTup (aCons (fS 4) (aCons (fS 5) (aCons (f2 oCat (fLst (aCons (fLc (iList (f2 oIx (fV 6) (fC (.int 0)))) (gSet 9) (tYes) (f2 oSub (fV 9) (fV 10)) [9]) (aNil))) (fSl (fV 6) (fPart (fC (.int 1))) (fNoPart))) (aNil))))))))) (sSeq (sIf (fB (f2 oGt (f1 oLen (fV 5)) (fC (.int 0)))) (sSeq (sAsg (f2 oMod (f2 oIx (fV 3) (fC (.int 8))) (f1 oLen (fV 5))) (gSet 14)) (sSeq (sAsg (f2 oIx (fV 5) (fV 14)) (gTup 2 (gsCons (gSet 12) (gsCons (gSet 13) (gsNil))))) (sSeq (sFor (iList (fLst (aCons (fTup (aCons (f2 oAdd (fV 12) (fC (.int 1))) (aCons (fS 13) (aNil)))) (aCons (fTup (aCons (fS 12) (aCons (f2 oAdd (fV 13) (fC (.int 1))) (aNil)))) (aCons (fTup (aCons (f2 oSub (fV 12) (fC (.int 1))) (aCons (fS 13) (aNil)))) (aCons (fTup (aCons (fS 12) (aCons (f2 oSub (fV 13) (fC (.int 1))) (aNil)))) (aCons (fTup (aCons (fS 13) (aCons (fS 12) (aNil)))) (aCons (fTup (aCons (f2 oSub (fV 12) (f1 oLen (fV 0))) (aCons (fS 13) (aNil)))) (aCons (fTup (aCons (fS 12) (aCons (f2 oSub (fV 13) (f1 oLen (fV 1))) (aNil)))) (aCons (f2 oIx (fV 5) (f2 oMod (f2 oIx (fV 3) (fC (.int 9))) (f1 oLen (fV 5)))) (aNil))))))))))) (gSet 15) (sApp 7 (fTup (aCons (fS 4) (aCons (f2 oCat (f2 oCat (fSl (fV 5) (fNoPart) (fPart (fV 14))) (fLst (aCons (fS 15) (aNil)))) (fSl (fV 5) (fPart (f2 oAdd (fV 14) (fC (.int 1)))) (fNoPart))) (aCons (fS 6) (aNil))))))) (sApp 7 (fTup (aCons (f2 oAdd (fV 4) (fC (.int 1))) (aCons (f2 oCat (f2 oCat (fSl (fV 5) (fNoPart) (fPart (fV 14))) (fLst (aCons (f2 oIx (fV 5) (fV 14)) (aNil)))) (fSl (fV 5) (fPart (fV 14)) (fNoPart))) (aCons (fS 6) (aNil))))))))) (sNext)) (sRetO 7))))))))
def g_law_spoilt : Fn := runF 4 16 fb_law_spoilt
def fb_law : FS :=
  sSeq (sAsg (fCall g_law_numbers (aCons (fCall g_law_cell (aCons (fS 0) (aCons (fC (.int 0)) (aNil)))) (aCons (fC (.int 16)) (aCons (fC (.int 5040)) (aNil))))) (gSet 1)) (sSeq (sAsg (fLst (aCons (fC (.str (Str.ofString "a"))) (aCons (fC (.str (Str.ofString "b"))) (aCons (fC (.str (Str.ofString ""))) (aCons (fC (.str (Str.ofString " "))) (aCons (fC (.str (Str.ofString "a b"))) (aCons (fC (.str (Str.ofString "B"))) (aNil)))))))) (gSet 2)) (sSeq (sAsg (f2 oAdd (fC (.int 1)) (f2 oMod (f2 oIx (fV 1) (fC (.int 10))) (fC (.int 6)))) (gSet 3)) (sSeq (sAsg (fLc (iList (fCall g_law_numbers (aCons (fCall g_law_cell (aCons (fS 0) (aCons (fC (.int 1)) (aNil)))) (aCons (f2 oMod (f2 oIx (fV 1) (fC (.int 11))) (fC (.int 10))) (aCons (fC (.int 5040)) (aNil)))))) (gSet 5) (tYes) (f2 oIx (fV 2) (f2 oMod (fV 5) (fV 3))) [5]) (gSet 4)) (sSeq (sAsg (fLc (iList (fCall g_law_numbers (aCons (fCall g_law_cell (aCons (fS 0) (aCons (fC (.int 2)) (aNil)))) (aCons (f2 oMod (f2 oIx (fV 1) (fC (.int 12))) (fC (.int 10))) (aCons (fC (.int 5040)) (aNil)))))) (gSet 5) (tYes) (f2 oIx (fV 2) (f2 oMod (fV 5) (fV 3))) [5]) (gSet 6)) (sSeq (sIf (fB (f2 oEq (f2 oMod (f2 oIx (fV 1) (fC (.int 13))) (fC (.int 4))) (fC (.int 0)))) (sAsg (f2 oAdd (f2 oAdd (fSl (fV 4) (fNoPart) (fPart (f2 oMod (f2 oIx (fV 1) (fC (.int 14))) (f2 oAdd (f1 oLen (fV 4)) (fC (.int 1)))))) (fSl (fV 6) (fNoPart) (fPart (fC (.int 2))))) (fSl (fSl (fV 4) (fPart (f2 oMod (f2 oIx (fV 1) (fC (.int 14))) (f2 oAdd (f1 oLen (fV 4)) (fC (.int 1))))) (fNoPart)) (fNoPart) (fPart (fC (.int 5))))) (gSet 6)) (sNext)) (sSeq (sAsg (fTup (aCons (f1 oList (fV 4)) (aCons (f1 oList (fV 6)) (aNil)))) (gSet 7)) (sSeq (sAsg (fCall g_law_table (aCons (fS 4) (aCons (fS 6) (aNil)))) (gSet 8)) (sSeq (sAsg (fTup (aCons (f2 oIx (f2 oIx (fV 8) (fC (.int 0))) (fC (.int 0))) (aCons (fCall g_law_from_end (aCons (fS 4) (aCons (fS 6) (aNil)))) (aCons (fS 8) (aNil))))) (gSet 9)) (sSeq (sAsg (fTup (aCons (f2 oIx (fV 9) (fC (.int 0))) (aCons (f2 oIx (fV 9) (fC (.int 1))) (aCons (fLc (iRange1 (f2 oAdd (f1 oLen (fV 4)) (fC (.int 1)))) (gSet 12) (tYes) (fLc (iRange1 (f2 oAdd (f1 oLen (fV 6)) (fC (.int 1)))) (gSet 11) (tYes) (f2 oAdd (f2 oIx (f2 oIx (fV 8) (fV 12)) (fV 11)) (f1 oInt (fAndV (f2 oGt (f2 oAdd (fV 12) (fV 11)) (fC (.int 0))) (f2 oLt (f2 oIx (f2 oIx (fV 8) (fV 12)) (fV 11)) (f2 oIx (f2 oIx (fV 8) (fC (.int 0))) (fC (.int 0))))))) [11]) [12]) (aNil))))) (gSet 10)) (sSeq (sAsg (fTup (aCons (f2 oIx (fV 9) (fC (.int 0))) (aCons (f2 oIx (fV 9) (fC (.int 1))) (aCons (fLc (iRange1 (f2 oAdd (f1 oLen (fV 4)) (fC (.int 1)))) (gSet 12) (tYes) (fLc (iRange1 (f2 oAdd (f1 oLen (fV 6)) (fC (.int 1)))) (gSet 11) (tYes) (f2 oMin2 (f2 oIx (f2 oIx (fV 8) (fC (.int 0))) (fC (.int 0))) (f2 oMin2 (f2 oSub (f1 oLen (fV 4)) (fV 12)) (f2 oSub (f1 oLen (fV 6)) (fV 11)))) [11]) [12]) (aNil))))) (gSet 13)) (sSeq (sIf (tNot (fTru (fCall g_law_good (aCons (fS 4) (aCons (fS 6) (aCons (fS 9) (aNil))))))) (sRet (fC (.bool false))) (sNext)) (sSeq (sFor (iList (f2 oCat (f2 oCat (fCall g_law_spoilt (aCons (fS 4) (aCons (fS 6) (aCons (fS 9) (aCons (fS 1) (aNil)))))) (fLst (aCons (fS 10) (aCons (fS 13) (aNil))))) (fCall g_law_spoilt (aCons (fS 4) (aCons (fS 6) (aCons (fS 13) (aCons (fS 1) (aNil)))))))) (gSet 14) (sSeq (sAsg (fTup (aCons (f2 oIx (fV 14) (fC (.int 0))) (aCons (f1 oList (f2 oIx (fV 14) (fC (.int 1)))) (aCons (fLc (iList (f2 oIx (fV 14) (fC (.int 2)))) (gSet 16) (tYes) (f1 oList (fV 16)) [16]) (aNil))))) (gSet 15)) (sSeq (sAsg (fCall g_judge_common (aCons (fS 4) (aCons (fS 6) (aCons (fS 15) (aNil))))) (gSet 17)) (sIf (tOr (tNot (fTru (f1 (oIsi "bool") (fV 17)))) (tOr (fB (f2 oNe (fV 17) (fCall g_law_good (aCons (fS 4) (aCons (fS 6) (aCons (fS 14) (aNil))))))) (tOr (fB (f2 oNe (fV 15) (fV 14))) (fB (f2 oNe (fTup (aCons (fS 4) (aCons (fS 6) (aNil)))) (fV 7)))))) (sRet (fC (.bool false))) (sNext))))) (sRet (fC (.bool true)))))))))))))))
def g_law : Fn := runF 1 18 fb_law
theorem S_is_common_row {x0 x1 x2 : D} {P : Bool × D → Prop} (k : (fb_is_common_row [.sh x0, .sh x1, .sh x2, .un, .un, .un]).S (fun _ => P (false, .none)) (fun _ => False) (fun _ => False) fun b d => P (b, d)) : (g_is_common_row [x0, x1, x2]).S P := run_S (by rfl) k
theorem S_is_label {x0 x1 x2 x3 x4 : D} {P : Bool × D → Prop} (k : (fb_is_label [.sh x0, .sh x1, .sh x2, .sh x3, .sh x4, .un]).S (fun _ => P (false, .none)) (fun _ => False) (fun _ => False) fun b d => P (b, d)) : (g_is_label [x0, x1, x2, x3, x4]).S P := run_S (by rfl) k
theorem S_judge_common {x0 x1 x2 : D} {P : Bool × D → Prop} (k : (fb_judge_common [.sh x0, .sh x1, .sh x2, .un, .un, .un, .un, .un, .un]).S (fun _ => P (false, .none)) (fun _ => False) (fun _ => False) fun b d => P (b, d)) : (g_judge_common [x0, x1, x2]).S P := run_S (by rfl) k
theorem S_law_cell {x0 x1 : D} {P : Bool × D → Prop} (k : (fb_law_cell [.sh x0, .sh x1]).S (fun _ => P (false, .none)) (fun _ => False) (fun _ => False) fun b d => P (b, d)) : (g_law_cell [x0, x1]).S P := run_S (by rfl) k
theorem S_law_numbers {x0 x1 x2 : D} {P : Bool × D → Prop} (k : (fb_law_numbers [.sh x0, .sh x1, .sh x2, .un, .un, .un]).S (fun _ => P (false, .none)) (fun _ => False) (fun _ => False) fun b d => P (b, d)) : (g_law_numbers [x0, x1, x2]).S P := run_S (by rfl) k
theorem S_law_table {x0 x1 : D} {P : Bool × D → Prop} (k : (fb_law_table [.sh x0, .sh x1, .un, .un, .un, .un, .un, .un]).S (fun _ => P (false, .none)) (fun _ => False) (fun _ => False) fun b d => P (b, d)) : (g_law_table [x0, x1]).S P := run_S (by rfl) k
theorem S_law_from_end {x0 x1 : D} {P : Bool × D → Prop} (k : (fb_law_from_end [.sh x0, .sh x1, .un, .un, .un, .un, .un]).S (fun _ => P (false, .none)) (fun _ => False) (fun _ => False) fun b d => P (b, d)) : (g_law_from_end [x0, x1]).S P := run_S (by rfl) k
theorem S_law_good {x0 x1 x2 : D} {P : Bool × D → Prop} (k : (fb_law_good [.sh x0, .sh x1, .sh x2, .un, .un, .un, .un, .un, .un, .un, .un]).S (fun _ => P (false, .none)) (fun _ => False) (fun _ => False) fun b d => P (b, d)) : (g_law_good [x0, x1, x2]).S P := run_S (by rfl) k
theorem S_law_spoilt {x0 x1 x2 x3 : D} {P : Bool × D → Prop} (k : (fb_law_spoilt [.sh x0, .sh x1, .sh x2, .sh x3, .un, .un, .un, .un, .un, .un, .un, .un, .un, .un, .un, .un]).S (fun _ => P (false, .none)) (fun _ => False) (fun _ => False) fun b d => P (b, d)) : (g_law_spoilt [x0, x1, x2, x3]).S P := run_S (by rfl) k
theorem S_law {x0 : D} {P : Bool × D → Prop} (k : (fb_law [.sh x0, .un, .un, .un, .un, .un, .un, .un, .un, .un, .un, .un, .un, .un, .un, .un, .un, .un]).S (fun _ => P (false, .none)) (fun _ => False) (fun _ => False) fun b d => P (b, d)) : (g_law [x0]).S P := run_S (by rfl) k
end K81

set_option maxRecDepth 100000
set_option maxHeartbeats 4000000
namespace K81
open PySem Dl Out
def eRow (r : List Int) : D := .list (r.map .int)
def ePr (p : Int × Int) : D := .tuple [.int p.1, .int p.2]
abbrev eOld (l : List Str) : D := .list (l.map .str)
abbrev eLab (l : List (List Int)) : D := .list (l.map eRow)
abbrev ePrs (l : List (Int × Int)) : D := .list (l.map ePr)
instance : Inhabited Str := ⟨⟨#[]⟩⟩
def lab (ls : List (List Int)) (i j : Int) : Int := nth (nth ls i) j
def LabOk (old new : List Str) (ls : List (List Int)) (i j : Int) : Prop :=
  0 ≤ lab ls i j ∧ (i < old.length → lab ls (i + 1) j ≤ lab ls i j) ∧ (j < new.length → lab ls i (j + 1) ≤ lab ls i j) ∧ (i < old.length → j < new.length → nth old i = nth new j → lab ls (i + 1) (j + 1) + 1 ≤ lab ls i j)
def Rect (old new : List Str) (ls : List (List Int)) : Prop := ls.length = old.length + 1 ∧ ∀ r ∈ ls, r.length = new.length + 1
open Classical in
theorem is_label_eq {old new : List Str} {ls : List (List Int)} {i j : Int} (hi : 0 ≤ i) (hi' : i ≤ old.length) (hj : 0 ≤ j) (hj' : j ≤ new.length) (hr : Rect old new ls) :
    g_is_label [eOld old, eOld new, eLab ls, .int i, .int j] = ok (false, .bool (decide (LabOk old new ls i j))) := by
  refine ok_dec (run_S rfl ?_)
  show (fb_is_label [.sh (eOld old), .sh (eOld new), .sh (eLab ls), .sh (.int i), .sh (.int j), .un]).S _ _ _ _
  simp -implicitDefEqProofs -dsimp only [fb_is_label, sSeq_ap, sFrz_ap, sNext_ap, sBreak_ap, sCont_ap, sDrop_ap, sRet_ap, sRetN_ap, sRet0_ap, sRetO_ap, owOf_ow, owOf_o2, sIf_ap, sAsg_ap, sSetN_ap, owL_ap, sApp_ap, sPut_ap, sAug_ap, sFor_ap, sSetN2_ap, bind_ok, bind_no, bind_ex, calm_ok, calm_no, calm_ex, toS_ok, toS_no, toS_ex, seq_nx, seq_rt, seq_bk, seq_ct, seq_no, seq_ex, bind_guard, bind_ite, calm_ite, toS_ite, seq_ite, sseq_assoc, obind_assoc, S_ok, S_no, S_guard, S_ite, SS_nx, SS_bk, SS_ct, SS_rt, SS_no, SS_guard, SS_ite, ite_F, ret_b, bl_b, fV_0, fV_s, fS_0, fS_s, evB_sh, evB_ow, evS_sh, slot_0, slot_s, getD_0, getD_s, frz_ap, frzE_sh, frzE_ow, frzE_o2, frzE_un, fC_ap, f1_ap, f2_ap, fX_ap, fXT_ap, fSl_ap, fSlL_ap, fNoPart_ap, fPart_ap, fB_ap, tAnd_ap, tOr_ap, tNot_ap, tYes_ap, fTru_ap, fAndV_ap, fOrV_ap, fNotV_ap, fIf_ap, fChain_ap, aNil_ap, aCons_ap, fTup_ap, fLst_ap, fCall_ap, fCallN_ap, fCallB_ap, iList_ap, iTup_ap, iRange1_ap, iRange2_ap, gSet_ap, gTup_ap, gsNil_ap, gsCons_ap, fLc_ap, wipe_nil, wipe_cons, ofO_ite, oIx_map, oIx_tmap, oIx_ro, oIx_t0, oIx_t1, oIx_t2, oIx_t3, oAdd_int, oAdd_lst, oAdd_str, oAdd_tup, oCat_ap, oRep_ap, oSub_int, oMul_int, oFdiv_int, oMod_int, oPow_int, oNeg_int, oEq_int, oNe_int, oEq_str, oNe_str, oEq_bool, oNe_bool, oLt_int, oLe_int, oGt_int, oGe_int, asInt_ap, asBool_ap, oLen_map, oLen_tup, oLen_ro, oAll_map, oAny_map, oSum_map, oInt_int, oInt_bool, oAbs_int, oMax2_int, oMin2_int, oList_lst, oList_tup, oRev_map, oSl_map, oSlL_map, oIsi_bool, oIsN_none, oIsN_int, truD_bool, truD_int, truD_map, itList_ap, itList_ro, itTup_ap, oRange1_int, oRange2_int, onlyFlat_int, onlyFlat_str, onlyFlat_bool, newD_ap, oIAdd_int, o2L_ap, sAl_ap, alL_ap, asLst_ap, sAlApp_ap, sAlPut_ap, s2App_ap, s2AppAt_ap, killE_un, killE_sh, killE_ow, killE_o2, killE_al, view_ap, viewE_un, viewE_sh, viewE_ow, viewE_o2, viewE_al, viewA_map, ofO_get, ixN_nat, List.map_cons, List.map_nil, mapO_all, mapO_guard, lcAll_map, filO_if, List.set_cons_zero, List.set_cons_succ, decide_eq_true_eq, Bool.not_eq_true', decide_eq_false_iff_not, if_true, if_false, ite_true, ite_false, Bool.false_eq_true, List.length_cons, List.length_nil, List.length_range, and_self, Int.toNat_natCast, eRow]
  obtain ⟨h1, h2⟩ := hr
  have h3 : (nth ls i).length = new.length + 1 := h2 _ (nth_mem hi (by omega))
  have h4 : i < old.length → (nth ls (i + 1)).length = new.length + 1 := fun h => h2 _ (nth_mem (by omega) (by omega))
  unfold LabOk lab
  clear h2
  grind (splits := 40)
def PairOk (old new : List Str) (p : Int × Int) : Prop := 0 ≤ p.1 ∧ p.1 < old.length ∧ 0 ≤ p.2 ∧ p.2 < new.length ∧ nth old p.1 = nth new p.2
def Up (l : List (Int × Int)) (k : Nat) : Prop := (nth l k).1 < (nth l (k + 1)).1 ∧ (nth l k).2 < (nth l (k + 1)).2
def CommonRow (old new : List Str) (l : List (Int × Int)) : Prop := (∀ p ∈ l, PairOk old new p) ∧ ∀ k : Nat, k + 1 < l.length → Up l k
open Classical in
theorem is_common_eq {old new : List Str} {l : List (Int × Int)} (hl : l.length ≤ 1000) :
    g_is_common_row [eOld old, eOld new, ePrs l] = ok (false, .bool (decide (CommonRow old new l))) := by
  refine ok_dec (run_S rfl ?_)
  show (fb_is_common_row [.sh (eOld old), .sh (eOld new), .sh (ePrs l), .un, .un, .un]).S _ _ _ _
  have z0 : l.length ≤ sizeLine := szl (by omega)
  simp -implicitDefEqProofs -dsimp only [fb_is_common_row, sSeq_ap, sFrz_ap, sNext_ap, sBreak_ap, sCont_ap, sDrop_ap, sRet_ap, sRetN_ap, sRet0_ap, sRetO_ap, owOf_ow, owOf_o2, sIf_ap, sAsg_ap, sSetN_ap, owL_ap, sApp_ap, sPut_ap, sAug_ap, sFor_ap, sSetN2_ap, bind_ok, bind_no, bind_ex, calm_ok, calm_no, calm_ex, toS_ok, toS_no, toS_ex, seq_nx, seq_rt, seq_bk, seq_ct, seq_no, seq_ex, bind_guard, bind_ite, calm_ite, toS_ite, seq_ite, sseq_assoc, obind_assoc, S_ok, S_no, S_guard, S_ite, SS_nx, SS_bk, SS_ct, SS_rt, SS_no, SS_guard, SS_ite, ite_F, ret_b, bl_b, fV_0, fV_s, fS_0, fS_s, evB_sh, evB_ow, evS_sh, slot_0, slot_s, getD_0, getD_s, frz_ap, frzE_sh, frzE_ow, frzE_o2, frzE_un, fC_ap, f1_ap, f2_ap, fX_ap, fXT_ap, fSl_ap, fSlL_ap, fNoPart_ap, fPart_ap, fB_ap, tAnd_ap, tOr_ap, tNot_ap, tYes_ap, fTru_ap, fAndV_ap, fOrV_ap, fNotV_ap, fIf_ap, fChain_ap, aNil_ap, aCons_ap, fTup_ap, fLst_ap, fCall_ap, fCallN_ap, fCallB_ap, iList_ap, iTup_ap, iRange1_ap, iRange2_ap, gSet_ap, gTup_ap, gsNil_ap, gsCons_ap, fLc_ap, wipe_nil, wipe_cons, ofO_ite, oIx_map, oIx_tmap, oIx_ro, oIx_t0, oIx_t1, oIx_t2, oIx_t3, oAdd_int, oAdd_lst, oAdd_str, oAdd_tup, oCat_ap, oRep_ap, oSub_int, oMul_int, oFdiv_int, oMod_int, oPow_int, oNeg_int, oEq_int, oNe_int, oEq_str, oNe_str, oEq_bool, oNe_bool, oLt_int, oLe_int, oGt_int, oGe_int, asInt_ap, asBool_ap, oLen_map, oLen_tup, oLen_ro, oAll_map, oAny_map, oSum_map, oInt_int, oInt_bool, oAbs_int, oMax2_int, oMin2_int, oList_lst, oList_tup, oRev_map, oSl_map, oSlL_map, oIsi_bool, oIsN_none, oIsN_int, truD_bool, truD_int, truD_map, itList_ap, itList_ro, itTup_ap, oRange1_int, oRange2_int, onlyFlat_int, onlyFlat_str, onlyFlat_bool, newD_ap, oIAdd_int, o2L_ap, sAl_ap, alL_ap, asLst_ap, sAlApp_ap, sAlPut_ap, s2App_ap, s2AppAt_ap, killE_un, killE_sh, killE_ow, killE_o2, killE_al, view_ap, viewE_un, viewE_sh, viewE_ow, viewE_o2, viewE_al, viewA_map, ofO_get, ixN_nat, List.map_cons, List.map_nil, mapO_all, mapO_guard, lcAll_map, filO_if, List.set_cons_zero, List.set_cons_succ, decide_eq_true_eq, Bool.not_eq_true', decide_eq_false_iff_not, if_true, if_false, ite_true, ite_false, Bool.false_eq_true, List.length_cons, List.length_nil, List.length_range, and_self, Int.toNat_natCast, ePr, z0]
  rw [mapO_ok (h := fun p => PyData.bool (decide (PairOk old new p)))]
  rotate_left
  · intro a ha
    apply ok_decB
    simp -implicitDefEqProofs -dsimp only [sSeq_ap, sFrz_ap, sNext_ap, sBreak_ap, sCont_ap, sDrop_ap, sRet_ap, sRetN_ap, sRet0_ap, sRetO_ap, owOf_ow, owOf_o2, sIf_ap, sAsg_ap, sSetN_ap, owL_ap, sApp_ap, sPut_ap, sAug_ap, sFor_ap, sSetN2_ap, bind_ok, bind_no, bind_ex, calm_ok, calm_no, calm_ex, toS_ok, toS_no, toS_ex, seq_nx, seq_rt, seq_bk, seq_ct, seq_no, seq_ex, bind_guard, bind_ite, calm_ite, toS_ite, seq_ite, sseq_assoc, obind_assoc, S_ok, S_no, S_guard, S_ite, SS_nx, SS_bk, SS_ct, SS_rt, SS_no, SS_guard, SS_ite, ite_F, ret_b, bl_b, fV_0, fV_s, fS_0, fS_s, evB_sh, evB_ow, evS_sh, slot_0, slot_s, getD_0, getD_s, frz_ap, frzE_sh, frzE_ow, frzE_o2, frzE_un, fC_ap, f1_ap, f2_ap, fX_ap, fXT_ap, fSl_ap, fSlL_ap, fNoPart_ap, fPart_ap, fB_ap, tAnd_ap, tOr_ap, tNot_ap, tYes_ap, fTru_ap, fAndV_ap, fOrV_ap, fNotV_ap, fIf_ap, fChain_ap, aNil_ap, aCons_ap, fTup_ap, fLst_ap, fCall_ap, fCallN_ap, fCallB_ap, iList_ap, iTup_ap, iRange1_ap, iRange2_ap, gSet_ap, gTup_ap, gsNil_ap, gsCons_ap, fLc_ap, wipe_nil, wipe_cons, ofO_ite, oIx_map, oIx_tmap, oIx_ro, oIx_t0, oIx_t1, oIx_t2, oIx_t3, oAdd_int, oAdd_lst, oAdd_str, oAdd_tup, oCat_ap, oRep_ap, oSub_int, oMul_int, oFdiv_int, oMod_int, oPow_int, oNeg_int, oEq_int, oNe_int, oEq_str, oNe_str, oEq_bool, oNe_bool, oLt_int, oLe_int, oGt_int, oGe_int, asInt_ap, asBool_ap, oLen_map, oLen_tup, oLen_ro, oAll_map, oAny_map, oSum_map, oInt_int, oInt_bool, oAbs_int, oMax2_int, oMin2_int, oList_lst, oList_tup, oRev_map, oSl_map, oSlL_map, oIsi_bool, oIsN_none, oIsN_int, truD_bool, truD_int, truD_map, itList_ap, itList_ro, itTup_ap, oRange1_int, oRange2_int, onlyFlat_int, onlyFlat_str, onlyFlat_bool, newD_ap, oIAdd_int, o2L_ap, sAl_ap, alL_ap, asLst_ap, sAlApp_ap, sAlPut_ap, s2App_ap, s2AppAt_ap, killE_un, killE_sh, killE_ow, killE_o2, killE_al, view_ap, viewE_un, viewE_sh, viewE_ow, viewE_o2, viewE_al, viewA_map, ofO_get, ixN_nat, List.map_cons, List.map_nil, mapO_all, mapO_guard, lcAll_map, filO_if, List.set_cons_zero, List.set_cons_succ, decide_eq_true_eq, Bool.not_eq_true', decide_eq_false_iff_not, if_true, if_false, ite_true, ite_false, Bool.false_eq_true, List.length_cons, List.length_nil, List.length_range, and_self, Int.toNat_natCast]
    clear z0
    unfold PairOk
    grind
  simp -implicitDefEqProofs -dsimp only [sSeq_ap, sFrz_ap, sNext_ap, sBreak_ap, sCont_ap, sDrop_ap, sRet_ap, sRetN_ap, sRet0_ap, sRetO_ap, owOf_ow, owOf_o2, sIf_ap, sAsg_ap, sSetN_ap, owL_ap, sApp_ap, sPut_ap, sAug_ap, sFor_ap, sSetN2_ap, bind_ok, bind_no, bind_ex, calm_ok, calm_no, calm_ex, toS_ok, toS_no, toS_ex, seq_nx, seq_rt, seq_bk, seq_ct, seq_no, seq_ex, bind_guard, bind_ite, calm_ite, toS_ite, seq_ite, sseq_assoc, obind_assoc, S_ok, S_no, S_guard, S_ite, SS_nx, SS_bk, SS_ct, SS_rt, SS_no, SS_guard, SS_ite, ite_F, ret_b, bl_b, fV_0, fV_s, fS_0, fS_s, evB_sh, evB_ow, evS_sh, slot_0, slot_s, getD_0, getD_s, frz_ap, frzE_sh, frzE_ow, frzE_o2, frzE_un, fC_ap, f1_ap, f2_ap, fX_ap, fXT_ap, fSl_ap, fSlL_ap, fNoPart_ap, fPart_ap, fB_ap, tAnd_ap, tOr_ap, tNot_ap, tYes_ap, fTru_ap, fAndV_ap, fOrV_ap, fNotV_ap, fIf_ap, fChain_ap, aNil_ap, aCons_ap, fTup_ap, fLst_ap, fCall_ap, fCallN_ap, fCallB_ap, iList_ap, iTup_ap, iRange1_ap, iRange2_ap, gSet_ap, gTup_ap, gsNil_ap, gsCons_ap, fLc_ap, wipe_nil, wipe_cons, ofO_ite, oIx_map, oIx_tmap, oIx_ro, oIx_t0, oIx_t1, oIx_t2, oIx_t3, oAdd_int, oAdd_lst, oAdd_str, oAdd_tup, oCat_ap, oRep_ap, oSub_int, oMul_int, oFdiv_int, oMod_int, oPow_int, oNeg_int, oEq_int, oNe_int, oEq_str, oNe_str, oEq_bool, oNe_bool, oLt_int, oLe_int, oGt_int, oGe_int, asInt_ap, asBool_ap, oLen_map, oLen_tup, oLen_ro, oAll_map, oAny_map, oSum_map, oInt_int, oInt_bool, oAbs_int, oMax2_int, oMin2_int, oList_lst, oList_tup, oRev_map, oSl_map, oSlL_map, oIsi_bool, oIsN_none, oIsN_int, truD_bool, truD_int, truD_map, itList_ap, itList_ro, itTup_ap, oRange1_int, oRange2_int, onlyFlat_int, onlyFlat_str, onlyFlat_bool, newD_ap, oIAdd_int, o2L_ap, sAl_ap, alL_ap, asLst_ap, sAlApp_ap, sAlPut_ap, s2App_ap, s2AppAt_ap, killE_un, killE_sh, killE_ow, killE_o2, killE_al, view_ap, viewE_un, viewE_sh, viewE_ow, viewE_o2, viewE_al, viewA_map, ofO_get, ixN_nat, List.map_cons, List.map_nil, mapO_all, mapO_guard, lcAll_map, filO_if, List.set_cons_zero, List.set_cons_succ, decide_eq_true_eq, Bool.not_eq_true', decide_eq_false_iff_not, if_true, if_false, ite_true, ite_false, Bool.false_eq_true, List.length_cons, List.length_nil, List.length_range, and_self, Int.toNat_natCast, ePr, List.all_eq_true]
  have z1 : ((l.length : Int) - 1).toNat ≤ 1000 := by omega
  have z2 : ((l.length : Int) - 1).toNat ≤ sizeLine := szl (by omega)
  have z3 : rgOk 1 ∧ rgOk (l.length : Int) := ⟨rg_of (by omega) (by omega), rg_of (by omega) (by omega)⟩
  simp -implicitDefEqProofs -dsimp only [sSeq_ap, sFrz_ap, sNext_ap, sBreak_ap, sCont_ap, sDrop_ap, sRet_ap, sRetN_ap, sRet0_ap, sRetO_ap, owOf_ow, owOf_o2, sIf_ap, sAsg_ap, sSetN_ap, owL_ap, sApp_ap, sPut_ap, sAug_ap, sFor_ap, sSetN2_ap, bind_ok, bind_no, bind_ex, calm_ok, calm_no, calm_ex, toS_ok, toS_no, toS_ex, seq_nx, seq_rt, seq_bk, seq_ct, seq_no, seq_ex, bind_guard, bind_ite, calm_ite, toS_ite, seq_ite, sseq_assoc, obind_assoc, S_ok, S_no, S_guard, S_ite, SS_nx, SS_bk, SS_ct, SS_rt, SS_no, SS_guard, SS_ite, ite_F, ret_b, bl_b, fV_0, fV_s, fS_0, fS_s, evB_sh, evB_ow, evS_sh, slot_0, slot_s, getD_0, getD_s, frz_ap, frzE_sh, frzE_ow, frzE_o2, frzE_un, fC_ap, f1_ap, f2_ap, fX_ap, fXT_ap, fSl_ap, fSlL_ap, fNoPart_ap, fPart_ap, fB_ap, tAnd_ap, tOr_ap, tNot_ap, tYes_ap, fTru_ap, fAndV_ap, fOrV_ap, fNotV_ap, fIf_ap, fChain_ap, aNil_ap, aCons_ap, fTup_ap, fLst_ap, fCall_ap, fCallN_ap, fCallB_ap, iList_ap, iTup_ap, iRange1_ap, iRange2_ap, gSet_ap, gTup_ap, gsNil_ap, gsCons_ap, fLc_ap, wipe_nil, wipe_cons, ofO_ite, oIx_map, oIx_tmap, oIx_ro, oIx_t0, oIx_t1, oIx_t2, oIx_t3, oAdd_int, oAdd_lst, oAdd_str, oAdd_tup, oCat_ap, oRep_ap, oSub_int, oMul_int, oFdiv_int, oMod_int, oPow_int, oNeg_int, oEq_int, oNe_int, oEq_str, oNe_str, oEq_bool, oNe_bool, oLt_int, oLe_int, oGt_int, oGe_int, asInt_ap, asBool_ap, oLen_map, oLen_tup, oLen_ro, oAll_map, oAny_map, oSum_map, oInt_int, oInt_bool, oAbs_int, oMax2_int, oMin2_int, oList_lst, oList_tup, oRev_map, oSl_map, oSlL_map, oIsi_bool, oIsN_none, oIsN_int, truD_bool, truD_int, truD_map, itList_ap, itList_ro, itTup_ap, oRange1_int, oRange2_int, onlyFlat_int, onlyFlat_str, onlyFlat_bool, newD_ap, oIAdd_int, o2L_ap, sAl_ap, alL_ap, asLst_ap, sAlApp_ap, sAlPut_ap, s2App_ap, s2AppAt_ap, killE_un, killE_sh, killE_ow, killE_o2, killE_al, view_ap, viewE_un, viewE_sh, viewE_ow, viewE_o2, viewE_al, viewA_map, ofO_get, ixN_nat, List.map_cons, List.map_nil, mapO_all, mapO_guard, lcAll_map, filO_if, List.set_cons_zero, List.set_cons_succ, decide_eq_true_eq, Bool.not_eq_true', decide_eq_false_iff_not, if_true, if_false, ite_true, ite_false, Bool.false_eq_true, List.length_cons, List.length_nil, List.length_range, and_self, Int.toNat_natCast, z2, z3, and_self]
  rw [mapO_ok (h := fun (k : Nat) => PyData.bool (decide (Up l k)))]
  rotate_left
  · intro a ha
    rw [List.mem_range] at ha
    apply ok_decB
    have e1 : (1 + (a : Int) - 1) = a := by omega
    have e2 : (1 + (a : Int)) = a + 1 := by omega
    simp -implicitDefEqProofs -dsimp only [sSeq_ap, sFrz_ap, sNext_ap, sBreak_ap, sCont_ap, sDrop_ap, sRet_ap, sRetN_ap, sRet0_ap, sRetO_ap, owOf_ow, owOf_o2, sIf_ap, sAsg_ap, sSetN_ap, owL_ap, sApp_ap, sPut_ap, sAug_ap, sFor_ap, sSetN2_ap, bind_ok, bind_no, bind_ex, calm_ok, calm_no, calm_ex, toS_ok, toS_no, toS_ex, seq_nx, seq_rt, seq_bk, seq_ct, seq_no, seq_ex, bind_guard, bind_ite, calm_ite, toS_ite, seq_ite, sseq_assoc, obind_assoc, S_ok, S_no, S_guard, S_ite, SS_nx, SS_bk, SS_ct, SS_rt, SS_no, SS_guard, SS_ite, ite_F, ret_b, bl_b, fV_0, fV_s, fS_0, fS_s, evB_sh, evB_ow, evS_sh, slot_0, slot_s, getD_0, getD_s, frz_ap, frzE_sh, frzE_ow, frzE_o2, frzE_un, fC_ap, f1_ap, f2_ap, fX_ap, fXT_ap, fSl_ap, fSlL_ap, fNoPart_ap, fPart_ap, fB_ap, tAnd_ap, tOr_ap, tNot_ap, tYes_ap, fTru_ap, fAndV_ap, fOrV_ap, fNotV_ap, fIf_ap, fChain_ap, aNil_ap, aCons_ap, fTup_ap, fLst_ap, fCall_ap, fCallN_ap, fCallB_ap, iList_ap, iTup_ap, iRange1_ap, iRange2_ap, gSet_ap, gTup_ap, gsNil_ap, gsCons_ap, fLc_ap, wipe_nil, wipe_cons, ofO_ite, oIx_map, oIx_tmap, oIx_ro, oIx_t0, oIx_t1, oIx_t2, oIx_t3, oAdd_int, oAdd_lst, oAdd_str, oAdd_tup, oCat_ap, oRep_ap, oSub_int, oMul_int, oFdiv_int, oMod_int, oPow_int, oNeg_int, oEq_int, oNe_int, oEq_str, oNe_str, oEq_bool, oNe_bool, oLt_int, oLe_int, oGt_int, oGe_int, asInt_ap, asBool_ap, oLen_map, oLen_tup, oLen_ro, oAll_map, oAny_map, oSum_map, oInt_int, oInt_bool, oAbs_int, oMax2_int, oMin2_int, oList_lst, oList_tup, oRev_map, oSl_map, oSlL_map, oIsi_bool, oIsN_none, oIsN_int, truD_bool, truD_int, truD_map, itList_ap, itList_ro, itTup_ap, oRange1_int, oRange2_int, onlyFlat_int, onlyFlat_str, onlyFlat_bool, newD_ap, oIAdd_int, o2L_ap, sAl_ap, alL_ap, asLst_ap, sAlApp_ap, sAlPut_ap, s2App_ap, s2AppAt_ap, killE_un, killE_sh, killE_ow, killE_o2, killE_al, view_ap, viewE_un, viewE_sh, viewE_ow, viewE_o2, viewE_al, viewA_map, ofO_get, ixN_nat, List.map_cons, List.map_nil, mapO_all, mapO_guard, lcAll_map, filO_if, List.set_cons_zero, List.set_cons_succ, decide_eq_true_eq, Bool.not_eq_true', decide_eq_false_iff_not, if_true, if_false, ite_true, ite_false, Bool.false_eq_true, List.length_cons, List.length_nil, List.length_range, and_self, Int.toNat_natCast, e1, e2]
    clear z0 z1 z2 z3
    unfold Up
    grind
  simp -implicitDefEqProofs -dsimp only [sSeq_ap, sFrz_ap, sNext_ap, sBreak_ap, sCont_ap, sDrop_ap, sRet_ap, sRetN_ap, sRet0_ap, sRetO_ap, owOf_ow, owOf_o2, sIf_ap, sAsg_ap, sSetN_ap, owL_ap, sApp_ap, sPut_ap, sAug_ap, sFor_ap, sSetN2_ap, bind_ok, bind_no, bind_ex, calm_ok, calm_no, calm_ex, toS_ok, toS_no, toS_ex, seq_nx, seq_rt, seq_bk, seq_ct, seq_no, seq_ex, bind_guard, bind_ite, calm_ite, toS_ite, seq_ite, sseq_assoc, obind_assoc, S_ok, S_no, S_guard, S_ite, SS_nx, SS_bk, SS_ct, SS_rt, SS_no, SS_guard, SS_ite, ite_F, ret_b, bl_b, fV_0, fV_s, fS_0, fS_s, evB_sh, evB_ow, evS_sh, slot_0, slot_s, getD_0, getD_s, frz_ap, frzE_sh, frzE_ow, frzE_o2, frzE_un, fC_ap, f1_ap, f2_ap, fX_ap, fXT_ap, fSl_ap, fSlL_ap, fNoPart_ap, fPart_ap, fB_ap, tAnd_ap, tOr_ap, tNot_ap, tYes_ap, fTru_ap, fAndV_ap, fOrV_ap, fNotV_ap, fIf_ap, fChain_ap, aNil_ap, aCons_ap, fTup_ap, fLst_ap, fCall_ap, fCallN_ap, fCallB_ap, iList_ap, iTup_ap, iRange1_ap, iRange2_ap, gSet_ap, gTup_ap, gsNil_ap, gsCons_ap, fLc_ap, wipe_nil, wipe_cons, ofO_ite, oIx_map, oIx_tmap, oIx_ro, oIx_t0, oIx_t1, oIx_t2, oIx_t3, oAdd_int, oAdd_lst, oAdd_str, oAdd_tup, oCat_ap, oRep_ap, oSub_int, oMul_int, oFdiv_int, oMod_int, oPow_int, oNeg_int, oEq_int, oNe_int, oEq_str, oNe_str, oEq_bool, oNe_bool, oLt_int, oLe_int, oGt_int, oGe_int, asInt_ap, asBool_ap, oLen_map, oLen_tup, oLen_ro, oAll_map, oAny_map, oSum_map, oInt_int, oInt_bool, oAbs_int, oMax2_int, oMin2_int, oList_lst, oList_tup, oRev_map, oSl_map, oSlL_map, oIsi_bool, oIsN_none, oIsN_int, truD_bool, truD_int, truD_map, itList_ap, itList_ro, itTup_ap, oRange1_int, oRange2_int, onlyFlat_int, onlyFlat_str, onlyFlat_bool, newD_ap, oIAdd_int, o2L_ap, sAl_ap, alL_ap, asLst_ap, sAlApp_ap, sAlPut_ap, s2App_ap, s2AppAt_ap, killE_un, killE_sh, killE_ow, killE_o2, killE_al, view_ap, viewE_un, viewE_sh, viewE_ow, viewE_o2, viewE_al, viewA_map, ofO_get, ixN_nat, List.map_cons, List.map_nil, mapO_all, mapO_guard, lcAll_map, filO_if, List.set_cons_zero, List.set_cons_succ, decide_eq_true_eq, Bool.not_eq_true', decide_eq_false_iff_not, if_true, if_false, ite_true, ite_false, Bool.false_eq_true, List.length_cons, List.length_nil, List.length_range, and_self, Int.toNat_natCast, List.all_eq_true, List.mem_range]
  clear z0 z1 z2 z3
  unfold CommonRow
  by_cases h : ∀ p ∈ l, PairOk old new p
  · grind
  · grind
def ePap (c : Int) (l : List (Int × Int)) (ls : List (List Int)) : D := .tuple [.int c, ePrs l, eLab ls]
def Good (old new : List Str) (c : Int) (l : List (Int × Int)) (ls : List (List Int)) : Prop :=
  c = l.length ∧ CommonRow old new l ∧ Rect old new ls ∧ (∀ i j : Nat, i ≤ old.length → j ≤ new.length → LabOk old new ls i j) ∧ lab ls 0 0 ≤ c
structure Small (old new : List Str) (l : List (Int × Int)) (ls : List (List Int)) : Prop where
  so : old.length ≤ 1000
  sn : new.length ≤ 1000
  sl : l.length ≤ 1000
  sls : ls.length ≤ 1000
  sr : ∀ r ∈ ls, r.length ≤ 1000
open Classical in
theorem judge_eq {old new : List Str} {c : Int} {l : List (Int × Int)} {ls : List (List Int)} (h : Small old new l ls) :
    g_judge_common [eOld old, eOld new, ePap c l ls] = ok (false, .bool (decide (Good old new c l ls))) := by
  obtain ⟨h1, h2, h3, h4, h5⟩ := h
  refine ok_dec (run_S rfl ?_)
  show (fb_judge_common [.sh (eOld old), .sh (eOld new), .sh (ePap c l ls), .un, .un, .un, .un, .un, .un]).S _ _ _ _
  have z0 : ls.length ≤ sizeLine := szl (by omega)
  have z1 : rgOk ((old.length : Int) + 1) := rg_of (by omega) (by omega)
  simp -implicitDefEqProofs -dsimp only [fb_judge_common, sSeq_ap, sFrz_ap, sNext_ap, sBreak_ap, sCont_ap, sDrop_ap, sRet_ap, sRetN_ap, sRet0_ap, sRetO_ap, owOf_ow, owOf_o2, sIf_ap, sAsg_ap, sSetN_ap, owL_ap, sApp_ap, sPut_ap, sAug_ap, sFor_ap, sSetN2_ap, bind_ok, bind_no, bind_ex, calm_ok, calm_no, calm_ex, toS_ok, toS_no, toS_ex, seq_nx, seq_rt, seq_bk, seq_ct, seq_no, seq_ex, bind_guard, bind_ite, calm_ite, toS_ite, seq_ite, sseq_assoc, obind_assoc, S_ok, S_no, S_guard, S_ite, SS_nx, SS_bk, SS_ct, SS_rt, SS_no, SS_guard, SS_ite, ite_F, ret_b, bl_b, fV_0, fV_s, fS_0, fS_s, evB_sh, evB_ow, evS_sh, slot_0, slot_s, getD_0, getD_s, frz_ap, frzE_sh, frzE_ow, frzE_o2, frzE_un, fC_ap, f1_ap, f2_ap, fX_ap, fXT_ap, fSl_ap, fSlL_ap, fNoPart_ap, fPart_ap, fB_ap, tAnd_ap, tOr_ap, tNot_ap, tYes_ap, fTru_ap, fAndV_ap, fOrV_ap, fNotV_ap, fIf_ap, fChain_ap, aNil_ap, aCons_ap, fTup_ap, fLst_ap, fCall_ap, fCallN_ap, fCallB_ap, iList_ap, iTup_ap, iRange1_ap, iRange2_ap, gSet_ap, gTup_ap, gsNil_ap, gsCons_ap, fLc_ap, wipe_nil, wipe_cons, ofO_ite, oIx_map, oIx_tmap, oIx_ro, oIx_t0, oIx_t1, oIx_t2, oIx_t3, oAdd_int, oAdd_lst, oAdd_str, oAdd_tup, oCat_ap, oRep_ap, oSub_int, oMul_int, oFdiv_int, oMod_int, oPow_int, oNeg_int, oEq_int, oNe_int, oEq_str, oNe_str, oEq_bool, oNe_bool, oLt_int, oLe_int, oGt_int, oGe_int, asInt_ap, asBool_ap, oLen_map, oLen_tup, oLen_ro, oAll_map, oAny_map, oSum_map, oInt_int, oInt_bool, oAbs_int, oMax2_int, oMin2_int, oList_lst, oList_tup, oRev_map, oSl_map, oSlL_map, oIsi_bool, oIsN_none, oIsN_int, truD_bool, truD_int, truD_map, itList_ap, itList_ro, itTup_ap, oRange1_int, oRange2_int, onlyFlat_int, onlyFlat_str, onlyFlat_bool, newD_ap, oIAdd_int, o2L_ap, sAl_ap, alL_ap, asLst_ap, sAlApp_ap, sAlPut_ap, s2App_ap, s2AppAt_ap, killE_un, killE_sh, killE_ow, killE_o2, killE_al, view_ap, viewE_un, viewE_sh, viewE_ow, viewE_o2, viewE_al, viewA_map, ofO_get, ixN_nat, List.map_cons, List.map_nil, mapO_all, mapO_guard, lcAll_map, filO_if, List.set_cons_zero, List.set_cons_succ, decide_eq_true_eq, Bool.not_eq_true', decide_eq_false_iff_not, if_true, if_false, ite_true, ite_false, Bool.false_eq_true, List.length_cons, List.length_nil, List.length_range, and_self, Int.toNat_natCast, ePap, is_common_eq h3, z0, eRow]
  clear z0 z1
  have hR : (ls.all fun a => decide ((a.length : Int) = new.length + 1)) = false ↔ ¬ ∀ r ∈ ls, r.length = new.length + 1 := by
    rw [← Bool.not_eq_true, List.all_eq_true]
    simp only [decide_eq_true_eq]
    constructor
    · intro h z
      exact h fun r hr => by rw [z r hr]; rfl
    · intro h z
      exact h fun r hr => by have := z r hr; omega
  split
  · rename_i q; unfold Good; grind
  split
  · rename_i q _; unfold Good; grind
  split
  · unfold Good Rect; grind
  split
  · rename_i w
    have w := hR.mp w
    unfold Good Rect; grind
  rename_i q1 q2 q3 q4
  have q4 : ∀ r ∈ ls, r.length = new.length + 1 := Classical.not_not.mp fun z => q4 (hR.mpr z)
  have hrect : Rect old new ls := ⟨by omega, q4⟩
  have q1 : c = l.length := by grind
  have q2 : CommonRow old new l := by grind
  clear hR q4 q3
  have z1 : rgOk ((old.length : Int) + 1) := rg_of (by omega) (by omega)
  refine ⟨z1, SS_seq' (fun ρ => ∃ x y z, ρ = [EV.sh (eOld old), EV.sh (eOld new), EV.sh (ePap c l ls), EV.sh (.int c), EV.sh (ePrs l), EV.sh (eLab ls), x, y, z] ∧ ∀ i j : Nat, i ≤ old.length → j ≤ new.length → LabOk old new ls i j) ?_ ?_⟩
  · refine SS_forR (fun k ρ => ∃ x y z, ρ = [EV.sh (eOld old), EV.sh (eOld new), EV.sh (ePap c l ls), EV.sh (.int c), EV.sh (ePrs l), EV.sh (eLab ls), x, y, z] ∧ ∀ i j : Nat, i < k → j ≤ new.length → LabOk old new ls i j) ⟨_, _, _, rfl, by omega⟩ ?_ ?_
    · rintro i ρ hi ⟨x, y, z, rfl, hk⟩
      have z2 : rgOk ((new.length : Int) + 1) := rg_of (by omega) (by omega)
      have z3 : ((new.length : Int) + 1).toNat ≤ sizeLine := szl (by omega)
      simp -implicitDefEqProofs -dsimp only [sSeq_ap, sFrz_ap, sNext_ap, sBreak_ap, sCont_ap, sDrop_ap, sRet_ap, sRetN_ap, sRet0_ap, sRetO_ap, owOf_ow, owOf_o2, sIf_ap, sAsg_ap, sSetN_ap, owL_ap, sApp_ap, sPut_ap, sAug_ap, sFor_ap, sSetN2_ap, bind_ok, bind_no, bind_ex, calm_ok, calm_no, calm_ex, toS_ok, toS_no, toS_ex, seq_nx, seq_rt, seq_bk, seq_ct, seq_no, seq_ex, bind_guard, bind_ite, calm_ite, toS_ite, seq_ite, sseq_assoc, obind_assoc, S_ok, S_no, S_guard, S_ite, SS_nx, SS_bk, SS_ct, SS_rt, SS_no, SS_guard, SS_ite, ite_F, ret_b, bl_b, fV_0, fV_s, fS_0, fS_s, evB_sh, evB_ow, evS_sh, slot_0, slot_s, getD_0, getD_s, frz_ap, frzE_sh, frzE_ow, frzE_o2, frzE_un, fC_ap, f1_ap, f2_ap, fX_ap, fXT_ap, fSl_ap, fSlL_ap, fNoPart_ap, fPart_ap, fB_ap, tAnd_ap, tOr_ap, tNot_ap, tYes_ap, fTru_ap, fAndV_ap, fOrV_ap, fNotV_ap, fIf_ap, fChain_ap, aNil_ap, aCons_ap, fTup_ap, fLst_ap, fCall_ap, fCallN_ap, fCallB_ap, iList_ap, iTup_ap, iRange1_ap, iRange2_ap, gSet_ap, gTup_ap, gsNil_ap, gsCons_ap, fLc_ap, wipe_nil, wipe_cons, ofO_ite, oIx_map, oIx_tmap, oIx_ro, oIx_t0, oIx_t1, oIx_t2, oIx_t3, oAdd_int, oAdd_lst, oAdd_str, oAdd_tup, oCat_ap, oRep_ap, oSub_int, oMul_int, oFdiv_int, oMod_int, oPow_int, oNeg_int, oEq_int, oNe_int, oEq_str, oNe_str, oEq_bool, oNe_bool, oLt_int, oLe_int, oGt_int, oGe_int, asInt_ap, asBool_ap, oLen_map, oLen_tup, oLen_ro, oAll_map, oAny_map, oSum_map, oInt_int, oInt_bool, oAbs_int, oMax2_int, oMin2_int, oList_lst, oList_tup, oRev_map, oSl_map, oSlL_map, oIsi_bool, oIsN_none, oIsN_int, truD_bool, truD_int, truD_map, itList_ap, itList_ro, itTup_ap, oRange1_int, oRange2_int, onlyFlat_int, onlyFlat_str, onlyFlat_bool, newD_ap, oIAdd_int, o2L_ap, sAl_ap, alL_ap, asLst_ap, sAlApp_ap, sAlPut_ap, s2App_ap, s2AppAt_ap, killE_un, killE_sh, killE_ow, killE_o2, killE_al, view_ap, viewE_un, viewE_sh, viewE_ow, viewE_o2, viewE_al, viewA_map, ofO_get, ixN_nat, List.map_cons, List.map_nil, mapO_all, mapO_guard, lcAll_map, filO_if, List.set_cons_zero, List.set_cons_succ, decide_eq_true_eq, Bool.not_eq_true', decide_eq_false_iff_not, if_true, if_false, ite_true, ite_false, Bool.false_eq_true, List.length_cons, List.length_nil, List.length_range, and_self, Int.toNat_natCast, z2, z3]
      rw [mapO_ok (h := fun (j : Nat) => PyData.bool (decide (LabOk old new ls i j)))]
      rotate_left
      · intro j hj
        rw [List.mem_range] at hj
        rw [is_label_eq (by omega) (by omega) (by omega) (by omega) hrect]
        rfl
      simp -implicitDefEqProofs -dsimp only [sSeq_ap, sFrz_ap, sNext_ap, sBreak_ap, sCont_ap, sDrop_ap, sRet_ap, sRetN_ap, sRet0_ap, sRetO_ap, owOf_ow, owOf_o2, sIf_ap, sAsg_ap, sSetN_ap, owL_ap, sApp_ap, sPut_ap, sAug_ap, sFor_ap, sSetN2_ap, bind_ok, bind_no, bind_ex, calm_ok, calm_no, calm_ex, toS_ok, toS_no, toS_ex, seq_nx, seq_rt, seq_bk, seq_ct, seq_no, seq_ex, bind_guard, bind_ite, calm_ite, toS_ite, seq_ite, sseq_assoc, obind_assoc, S_ok, S_no, S_guard, S_ite, SS_nx, SS_bk, SS_ct, SS_rt, SS_no, SS_guard, SS_ite, ite_F, ret_b, bl_b, fV_0, fV_s, fS_0, fS_s, evB_sh, evB_ow, evS_sh, slot_0, slot_s, getD_0, getD_s, frz_ap, frzE_sh, frzE_ow, frzE_o2, frzE_un, fC_ap, f1_ap, f2_ap, fX_ap, fXT_ap, fSl_ap, fSlL_ap, fNoPart_ap, fPart_ap, fB_ap, tAnd_ap, tOr_ap, tNot_ap, tYes_ap, fTru_ap, fAndV_ap, fOrV_ap, fNotV_ap, fIf_ap, fChain_ap, aNil_ap, aCons_ap, fTup_ap, fLst_ap, fCall_ap, fCallN_ap, fCallB_ap, iList_ap, iTup_ap, iRange1_ap, iRange2_ap, gSet_ap, gTup_ap, gsNil_ap, gsCons_ap, fLc_ap, wipe_nil, wipe_cons, ofO_ite, oIx_map, oIx_tmap, oIx_ro, oIx_t0, oIx_t1, oIx_t2, oIx_t3, oAdd_int, oAdd_lst, oAdd_str, oAdd_tup, oCat_ap, oRep_ap, oSub_int, oMul_int, oFdiv_int, oMod_int, oPow_int, oNeg_int, oEq_int, oNe_int, oEq_str, oNe_str, oEq_bool, oNe_bool, oLt_int, oLe_int, oGt_int, oGe_int, asInt_ap, asBool_ap, oLen_map, oLen_tup, oLen_ro, oAll_map, oAny_map, oSum_map, oInt_int, oInt_bool, oAbs_int, oMax2_int, oMin2_int, oList_lst, oList_tup, oRev_map, oSl_map, oSlL_map, oIsi_bool, oIsN_none, oIsN_int, truD_bool, truD_int, truD_map, itList_ap, itList_ro, itTup_ap, oRange1_int, oRange2_int, onlyFlat_int, onlyFlat_str, onlyFlat_bool, newD_ap, oIAdd_int, o2L_ap, sAl_ap, alL_ap, asLst_ap, sAlApp_ap, sAlPut_ap, s2App_ap, s2AppAt_ap, killE_un, killE_sh, killE_ow, killE_o2, killE_al, view_ap, viewE_un, viewE_sh, viewE_ow, viewE_o2, viewE_al, viewA_map, ofO_get, ixN_nat, List.map_cons, List.map_nil, mapO_all, mapO_guard, lcAll_map, filO_if, List.set_cons_zero, List.set_cons_succ, decide_eq_true_eq, Bool.not_eq_true', decide_eq_false_iff_not, if_true, if_false, ite_true, ite_false, Bool.false_eq_true, List.length_cons, List.length_nil, List.length_range, and_self, Int.toNat_natCast, z2, z3]
      split
      · rename_i w
        rw [← Bool.not_eq_true, List.all_eq_true] at w
        simp only [decide_eq_true_eq, List.mem_range] at w
        have : ¬ Good old new c l ls := fun g => w fun j hj => g.2.2.2.1 i j (by omega) (by omega)
        grind
      · rename_i w
        rw [← Bool.not_eq_true, List.all_eq_true] at w
        simp only [decide_eq_true_eq, List.mem_range, Classical.not_not] at w
        refine ⟨_, _, _, rfl, fun i' j h1 h2 => ?_⟩
        by_cases e : i' = i
        · rw [e]; exact w j (by omega)
        · exact hk i' j (by omega) h2
    · rintro ρ ⟨x, y, z, rfl, hk⟩
      exact ⟨_, _, _, rfl, fun i j h1 h2 => hk i j (by omega) h2⟩
  · rintro ρ ⟨x, y, z, rfl, hk⟩
    simp -implicitDefEqProofs -dsimp only [sSeq_ap, sFrz_ap, sNext_ap, sBreak_ap, sCont_ap, sDrop_ap, sRet_ap, sRetN_ap, sRet0_ap, sRetO_ap, owOf_ow, owOf_o2, sIf_ap, sAsg_ap, sSetN_ap, owL_ap, sApp_ap, sPut_ap, sAug_ap, sFor_ap, sSetN2_ap, bind_ok, bind_no, bind_ex, calm_ok, calm_no, calm_ex, toS_ok, toS_no, toS_ex, seq_nx, seq_rt, seq_bk, seq_ct, seq_no, seq_ex, bind_guard, bind_ite, calm_ite, toS_ite, seq_ite, sseq_assoc, obind_assoc, S_ok, S_no, S_guard, S_ite, SS_nx, SS_bk, SS_ct, SS_rt, SS_no, SS_guard, SS_ite, ite_F, ret_b, bl_b, fV_0, fV_s, fS_0, fS_s, evB_sh, evB_ow, evS_sh, slot_0, slot_s, getD_0, getD_s, frz_ap, frzE_sh, frzE_ow, frzE_o2, frzE_un, fC_ap, f1_ap, f2_ap, fX_ap, fXT_ap, fSl_ap, fSlL_ap, fNoPart_ap, fPart_ap, fB_ap, tAnd_ap, tOr_ap, tNot_ap, tYes_ap, fTru_ap, fAndV_ap, fOrV_ap, fNotV_ap, fIf_ap, fChain_ap, aNil_ap, aCons_ap, fTup_ap, fLst_ap, fCall_ap, fCallN_ap, fCallB_ap, iList_ap, iTup_ap, iRange1_ap, iRange2_ap, gSet_ap, gTup_ap, gsNil_ap, gsCons_ap, fLc_ap, wipe_nil, wipe_cons, ofO_ite, oIx_map, oIx_tmap, oIx_ro, oIx_t0, oIx_t1, oIx_t2, oIx_t3, oAdd_int, oAdd_lst, oAdd_str, oAdd_tup, oCat_ap, oRep_ap, oSub_int, oMul_int, oFdiv_int, oMod_int, oPow_int, oNeg_int, oEq_int, oNe_int, oEq_str, oNe_str, oEq_bool, oNe_bool, oLt_int, oLe_int, oGt_int, oGe_int, asInt_ap, asBool_ap, oLen_map, oLen_tup, oLen_ro, oAll_map, oAny_map, oSum_map, oInt_int, oInt_bool, oAbs_int, oMax2_int, oMin2_int, oList_lst, oList_tup, oRev_map, oSl_map, oSlL_map, oIsi_bool, oIsN_none, oIsN_int, truD_bool, truD_int, truD_map, itList_ap, itList_ro, itTup_ap, oRange1_int, oRange2_int, onlyFlat_int, onlyFlat_str, onlyFlat_bool, newD_ap, oIAdd_int, o2L_ap, sAl_ap, alL_ap, asLst_ap, sAlApp_ap, sAlPut_ap, s2App_ap, s2AppAt_ap, killE_un, killE_sh, killE_ow, killE_o2, killE_al, view_ap, viewE_un, viewE_sh, viewE_ow, viewE_o2, viewE_al, viewA_map, ofO_get, ixN_nat, List.map_cons, List.map_nil, mapO_all, mapO_guard, lcAll_map, filO_if, List.set_cons_zero, List.set_cons_succ, decide_eq_true_eq, Bool.not_eq_true', decide_eq_false_iff_not, if_true, if_false, ite_true, ite_false, Bool.false_eq_true, List.length_cons, List.length_nil, List.length_range, and_self, Int.toNat_natCast, eRow]
    have e0 := hrect.1
    have e1 : (nth ls 0).length = new.length + 1 := hrect.2 _ (nth_mem (by omega) (by omega))
    refine ⟨by omega, by omega, ?_⟩
    unfold Good
    simp only [q1, q2, hrect, hk, true_and, true_iff, decide_eq_true_eq]
    exact ⟨fun h => ⟨fun i j a b => hk i j a b, h⟩, fun h => h.2⟩
open Classical in
theorem good_eq {old new : List Str} {c : Int} {l : List (Int × Int)} {ls : List (List Int)} (h : Small old new l ls) :
    g_law_good [eOld old, eOld new, ePap c l ls] = ok (false, .bool (decide (Good old new c l ls))) := by
  obtain ⟨h1, h2, h3, h4, h5⟩ := h
  refine ok_dec (run_S rfl ?_)
  show (fb_law_good [.sh (eOld old), .sh (eOld new), .sh (ePap c l ls), .un, .un, .un, .un, .un, .un, .un, .un]).S _ _ _ _
  have z0 : ls.length ≤ sizeLine := szl (by omega)
  have z1 : rgOk (l.length : Int) := rg_of (by omega) (by omega)
  simp -implicitDefEqProofs -dsimp only [fb_law_good, sSeq_ap, sFrz_ap, sNext_ap, sBreak_ap, sCont_ap, sDrop_ap, sRet_ap, sRetN_ap, sRet0_ap, sRetO_ap, owOf_ow, owOf_o2, sIf_ap, sAsg_ap, sSetN_ap, owL_ap, sApp_ap, sPut_ap, sAug_ap, sFor_ap, sSetN2_ap, bind_ok, bind_no, bind_ex, calm_ok, calm_no, calm_ex, toS_ok, toS_no, toS_ex, seq_nx, seq_rt, seq_bk, seq_ct, seq_no, seq_ex, bind_guard, bind_ite, calm_ite, toS_ite, seq_ite, sseq_assoc, obind_assoc, S_ok, S_no, S_guard, S_ite, SS_nx, SS_bk, SS_ct, SS_rt, SS_no, SS_guard, SS_ite, ite_F, ret_b, bl_b, fV_0, fV_s, fS_0, fS_s, evB_sh, evB_ow, evS_sh, slot_0, slot_s, getD_0, getD_s, frz_ap, frzE_sh, frzE_ow, frzE_o2, frzE_un, fC_ap, f1_ap, f2_ap, fX_ap, fXT_ap, fSl_ap, fSlL_ap, fNoPart_ap, fPart_ap, fB_ap, tAnd_ap, tOr_ap, tNot_ap, tYes_ap, fTru_ap, fAndV_ap, fOrV_ap, fNotV_ap, fIf_ap, fChain_ap, aNil_ap, aCons_ap, fTup_ap, fLst_ap, fCall_ap, fCallN_ap, fCallB_ap, iList_ap, iTup_ap, iRange1_ap, iRange2_ap, gSet_ap, gTup_ap, gsNil_ap, gsCons_ap, fLc_ap, wipe_nil, wipe_cons, ofO_ite, oIx_map, oIx_tmap, oIx_ro, oIx_t0, oIx_t1, oIx_t2, oIx_t3, oAdd_int, oAdd_lst, oAdd_str, oAdd_tup, oCat_ap, oRep_ap, oSub_int, oMul_int, oFdiv_int, oMod_int, oPow_int, oNeg_int, oEq_int, oNe_int, oEq_str, oNe_str, oEq_bool, oNe_bool, oLt_int, oLe_int, oGt_int, oGe_int, asInt_ap, asBool_ap, oLen_map, oLen_tup, oLen_ro, oAll_map, oAny_map, oSum_map, oInt_int, oInt_bool, oAbs_int, oMax2_int, oMin2_int, oList_lst, oList_tup, oRev_map, oSl_map, oSlL_map, oIsi_bool, oIsN_none, oIsN_int, truD_bool, truD_int, truD_map, itList_ap, itList_ro, itTup_ap, oRange1_int, oRange2_int, onlyFlat_int, onlyFlat_str, onlyFlat_bool, newD_ap, oIAdd_int, o2L_ap, sAl_ap, alL_ap, asLst_ap, sAlApp_ap, sAlPut_ap, s2App_ap, s2AppAt_ap, killE_un, killE_sh, killE_ow, killE_o2, killE_al, view_ap, viewE_un, viewE_sh, viewE_ow, viewE_o2, viewE_al, viewA_map, ofO_get, ixN_nat, List.map_cons, List.map_nil, mapO_all, mapO_guard, lcAll_map, filO_if, List.set_cons_zero, List.set_cons_succ, decide_eq_true_eq, Bool.not_eq_true', decide_eq_false_iff_not, if_true, if_false, ite_true, ite_false, Bool.false_eq_true, List.length_cons, List.length_nil, List.length_range, and_self, Int.toNat_natCast, ePap, z0, eRow, lcAll_fil]
  clear z0
  split
  · rename_i q; unfold Good; grind
  split
  · unfold Good Rect; grind
  simp -implicitDefEqProofs -dsimp only [sSeq_ap, sFrz_ap, sNext_ap, sBreak_ap, sCont_ap, sDrop_ap, sRet_ap, sRetN_ap, sRet0_ap, sRetO_ap, owOf_ow, owOf_o2, sIf_ap, sAsg_ap, sSetN_ap, owL_ap, sApp_ap, sPut_ap, sAug_ap, sFor_ap, sSetN2_ap, bind_ok, bind_no, bind_ex, calm_ok, calm_no, calm_ex, toS_ok, toS_no, toS_ex, seq_nx, seq_rt, seq_bk, seq_ct, seq_no, seq_ex, bind_guard, bind_ite, calm_ite, toS_ite, seq_ite, sseq_assoc, obind_assoc, S_ok, S_no, S_guard, S_ite, SS_nx, SS_bk, SS_ct, SS_rt, SS_no, SS_guard, SS_ite, ite_F, ret_b, bl_b, fV_0, fV_s, fS_0, fS_s, evB_sh, evB_ow, evS_sh, slot_0, slot_s, getD_0, getD_s, frz_ap, frzE_sh, frzE_ow, frzE_o2, frzE_un, fC_ap, f1_ap, f2_ap, fX_ap, fXT_ap, fSl_ap, fSlL_ap, fNoPart_ap, fPart_ap, fB_ap, tAnd_ap, tOr_ap, tNot_ap, tYes_ap, fTru_ap, fAndV_ap, fOrV_ap, fNotV_ap, fIf_ap, fChain_ap, aNil_ap, aCons_ap, fTup_ap, fLst_ap, fCall_ap, fCallN_ap, fCallB_ap, iList_ap, iTup_ap, iRange1_ap, iRange2_ap, gSet_ap, gTup_ap, gsNil_ap, gsCons_ap, fLc_ap, wipe_nil, wipe_cons, ofO_ite, oIx_map, oIx_tmap, oIx_ro, oIx_t0, oIx_t1, oIx_t2, oIx_t3, oAdd_int, oAdd_lst, oAdd_str, oAdd_tup, oCat_ap, oRep_ap, oSub_int, oMul_int, oFdiv_int, oMod_int, oPow_int, oNeg_int, oEq_int, oNe_int, oEq_str, oNe_str, oEq_bool, oNe_bool, oLt_int, oLe_int, oGt_int, oGe_int, asInt_ap, asBool_ap, oLen_map, oLen_tup, oLen_ro, oAll_map, oAny_map, oSum_map, oInt_int, oInt_bool, oAbs_int, oMax2_int, oMin2_int, oList_lst, oList_tup, oRev_map, oSl_map, oSlL_map, oIsi_bool, oIsN_none, oIsN_int, truD_bool, truD_int, truD_map, itList_ap, itList_ro, itTup_ap, oRange1_int, oRange2_int, onlyFlat_int, onlyFlat_str, onlyFlat_bool, newD_ap, oIAdd_int, o2L_ap, sAl_ap, alL_ap, asLst_ap, sAlApp_ap, sAlPut_ap, s2App_ap, s2AppAt_ap, killE_un, killE_sh, killE_ow, killE_o2, killE_al, view_ap, viewE_un, viewE_sh, viewE_ow, viewE_o2, viewE_al, viewA_map, ofO_get, ixN_nat, List.map_cons, List.map_nil, mapO_all, mapO_guard, lcAll_map, filO_if, List.set_cons_zero, List.set_cons_succ, decide_eq_true_eq, Bool.not_eq_true', decide_eq_false_iff_not, if_true, if_false, ite_true, ite_false, Bool.false_eq_true, List.length_cons, List.length_nil, List.length_range, and_self, Int.toNat_natCast, filter_none]
  split
  · rename_i w
    unfold Good Rect
    grind
  rename_i q1 q2 q3
  have q1 : c = l.length := Classical.not_not.mp q1
  have hrect : Rect old new ls := ⟨by omega, fun r hr => by
    by_cases z : r.length = new.length + 1
    · exact z
    · exact absurd ⟨r, hr, by omega⟩ q3⟩
  clear q2 q3
  refine ⟨z1, SS_seq' (fun ρ => ∃ x y z w v, ρ = [EV.sh (eOld old), EV.sh (eOld new), EV.sh (ePap c l ls), EV.sh (.int c), EV.sh (ePrs l), EV.sh (eLab ls), x, y, z, w, v] ∧ CommonRow old new l) ?_ ?_⟩
  · refine SS_forR (fun k ρ => ∃ x y z w v, ρ = [EV.sh (eOld old), EV.sh (eOld new), EV.sh (ePap c l ls), EV.sh (.int c), EV.sh (ePrs l), EV.sh (eLab ls), x, y, z, w, v] ∧ ∀ i : Nat, i < k → PairOk old new (nth l i) ∧ (i + 1 < k → Up l i)) ⟨_, _, _, _, _, rfl, by omega⟩ ?_ ?_
    · rintro i ρ hi ⟨x, y, z, w, v, rfl, hk⟩
      simp -implicitDefEqProofs -dsimp only [sSeq_ap, sFrz_ap, sNext_ap, sBreak_ap, sCont_ap, sDrop_ap, sRet_ap, sRetN_ap, sRet0_ap, sRetO_ap, owOf_ow, owOf_o2, sIf_ap, sAsg_ap, sSetN_ap, owL_ap, sApp_ap, sPut_ap, sAug_ap, sFor_ap, sSetN2_ap, bind_ok, bind_no, bind_ex, calm_ok, calm_no, calm_ex, toS_ok, toS_no, toS_ex, seq_nx, seq_rt, seq_bk, seq_ct, seq_no, seq_ex, bind_guard, bind_ite, calm_ite, toS_ite, seq_ite, sseq_assoc, obind_assoc, S_ok, S_no, S_guard, S_ite, SS_nx, SS_bk, SS_ct, SS_rt, SS_no, SS_guard, SS_ite, ite_F, ret_b, bl_b, fV_0, fV_s, fS_0, fS_s, evB_sh, evB_ow, evS_sh, slot_0, slot_s, getD_0, getD_s, frz_ap, frzE_sh, frzE_ow, frzE_o2, frzE_un, fC_ap, f1_ap, f2_ap, fX_ap, fXT_ap, fSl_ap, fSlL_ap, fNoPart_ap, fPart_ap, fB_ap, tAnd_ap, tOr_ap, tNot_ap, tYes_ap, fTru_ap, fAndV_ap, fOrV_ap, fNotV_ap, fIf_ap, fChain_ap, aNil_ap, aCons_ap, fTup_ap, fLst_ap, fCall_ap, fCallN_ap, fCallB_ap, iList_ap, iTup_ap, iRange1_ap, iRange2_ap, gSet_ap, gTup_ap, gsNil_ap, gsCons_ap, fLc_ap, wipe_nil, wipe_cons, ofO_ite, oIx_map, oIx_tmap, oIx_ro, oIx_t0, oIx_t1, oIx_t2, oIx_t3, oAdd_int, oAdd_lst, oAdd_str, oAdd_tup, oCat_ap, oRep_ap, oSub_int, oMul_int, oFdiv_int, oMod_int, oPow_int, oNeg_int, oEq_int, oNe_int, oEq_str, oNe_str, oEq_bool, oNe_bool, oLt_int, oLe_int, oGt_int, oGe_int, asInt_ap, asBool_ap, oLen_map, oLen_tup, oLen_ro, oAll_map, oAny_map, oSum_map, oInt_int, oInt_bool, oAbs_int, oMax2_int, oMin2_int, oList_lst, oList_tup, oRev_map, oSl_map, oSlL_map, oIsi_bool, oIsN_none, oIsN_int, truD_bool, truD_int, truD_map, itList_ap, itList_ro, itTup_ap, oRange1_int, oRange2_int, onlyFlat_int, onlyFlat_str, onlyFlat_bool, newD_ap, oIAdd_int, o2L_ap, sAl_ap, alL_ap, asLst_ap, sAlApp_ap, sAlPut_ap, s2App_ap, s2AppAt_ap, killE_un, killE_sh, killE_ow, killE_o2, killE_al, view_ap, viewE_un, viewE_sh, viewE_ow, viewE_o2, viewE_al, viewA_map, ofO_get, ixN_nat, List.map_cons, List.map_nil, mapO_all, mapO_guard, lcAll_map, filO_if, List.set_cons_zero, List.set_cons_succ, decide_eq_true_eq, Bool.not_eq_true', decide_eq_false_iff_not, if_true, if_false, ite_true, ite_false, Bool.false_eq_true, List.length_cons, List.length_nil, List.length_range, and_self, Int.toNat_natCast, ePr]
      have b1 : -(l.length : Int) ≤ i ∧ (i : Int) < l.length := by omega
      simp only [b1, and_self, true_and]
      have n1 : ¬ PairOk old new (nth l i) → ¬ Good old new c l ls := fun h g => h (all_nth.mp g.2.1.1 i (by omega))
      have n2 : ∀ k : Nat, i = k + 1 → ¬ Up l k → ¬ Good old new c l ls := fun k e h g => h (g.2.1.2 k (by omega))
      have F : ∀ P : Prop, P = (∃ x_1 y z w v_1,
                            [EV.sh (eOld old), EV.sh (eOld new), EV.sh (ePap c l ls), EV.sh (PyData.int c),
                                  EV.sh (ePrs l), EV.sh (eLab ls), x, EV.sh (PyData.int i),
                                  EV.sh (PyData.int (nth l i).fst), EV.sh (PyData.int (nth l i).snd), v] =
                                [EV.sh (eOld old), EV.sh (eOld new), EV.sh (ePap c l ls), EV.sh (PyData.int c),
                                  EV.sh (ePrs l), EV.sh (eLab ls), x_1, y, z, w, v_1] ∧
                              ∀ (i_1 : Nat), i_1 < i + 1 → PairOk old new (nth l i_1) ∧ (i_1 + 1 < i + 1 → Up l i_1)) → PairOk old new (nth l i) → (∀ k, i = k + 1 → Up l k) → P := fun P e hp hu => by
        rw [e]
        refine ⟨_, _, _, _, _, rfl, fun k hk' => ⟨?_, fun hk2 => ?_⟩⟩
        · by_cases e : k = i
          · rw [e]; exact hp
          · exact (hk k (by omega)).1
        · by_cases e : i = k + 1
          · exact hu k e
          · exact (hk k (by omega)).2 (by omega)
      generalize hP : (∃ x_1 y z w v_1,
                            [EV.sh (eOld old), EV.sh (eOld new), EV.sh (ePap c l ls), EV.sh (PyData.int c),
                                  EV.sh (ePrs l), EV.sh (eLab ls), x, EV.sh (PyData.int i),
                                  EV.sh (PyData.int (nth l i).fst), EV.sh (PyData.int (nth l i).snd), v] =
                                [EV.sh (eOld old), EV.sh (eOld new), EV.sh (ePap c l ls), EV.sh (PyData.int c),
                                  EV.sh (ePrs l), EV.sh (eLab ls), x_1, y, z, w, v_1] ∧
                              ∀ (i_1 : Nat), i_1 < i + 1 → PairOk old new (nth l i_1) ∧ (i_1 + 1 < i + 1 → Up l i_1)) = P
      have F := F P hP.symm
      clear hP hk hrect h5 z1 h1 h2 h3 h4
      generalize Good old new c l ls = G at *
      unfold PairOk at n1 F
      cases i with
      | zero => grind (splits := 40)
      | succ i =>
        have e1 : ((i + 1 : Nat) : Int) - 1 = i := by omega
        have e2 : ((i + 1 : Nat) : Int) = (i : Int) + 1 := by omega
        have n2 := n2 i rfl
        have F : _ → _ → P := fun a b => F a fun k e => by
          have : k = i := by omega
          rw [this]
          exact b
        unfold Up at n2 F
        rw [e1]
        rw [e2] at *
        grind (splits := 40)
    · rintro ρ ⟨x, y, z, w, v, rfl, hk⟩
      exact ⟨_, _, _, _, _, rfl, all_nth.mpr fun k hk' => (hk k (by omega)).1, fun k hk' => (hk k (by omega)).2 (by omega)⟩
  · rintro ρ ⟨x, y, z, w, v, rfl, hcr⟩
    have z1 : rgOk ((old.length : Int) + 1) := rg_of (by omega) (by omega)
    have z2 : rgOk ((new.length : Int) + 1) := rg_of (by omega) (by omega)
    simp -implicitDefEqProofs -dsimp only [sSeq_ap, sFrz_ap, sNext_ap, sBreak_ap, sCont_ap, sDrop_ap, sRet_ap, sRetN_ap, sRet0_ap, sRetO_ap, owOf_ow, owOf_o2, sIf_ap, sAsg_ap, sSetN_ap, owL_ap, sApp_ap, sPut_ap, sAug_ap, sFor_ap, sSetN2_ap, bind_ok, bind_no, bind_ex, calm_ok, calm_no, calm_ex, toS_ok, toS_no, toS_ex, seq_nx, seq_rt, seq_bk, seq_ct, seq_no, seq_ex, bind_guard, bind_ite, calm_ite, toS_ite, seq_ite, sseq_assoc, obind_assoc, S_ok, S_no, S_guard, S_ite, SS_nx, SS_bk, SS_ct, SS_rt, SS_no, SS_guard, SS_ite, ite_F, ret_b, bl_b, fV_0, fV_s, fS_0, fS_s, evB_sh, evB_ow, evS_sh, slot_0, slot_s, getD_0, getD_s, frz_ap, frzE_sh, frzE_ow, frzE_o2, frzE_un, fC_ap, f1_ap, f2_ap, fX_ap, fXT_ap, fSl_ap, fSlL_ap, fNoPart_ap, fPart_ap, fB_ap, tAnd_ap, tOr_ap, tNot_ap, tYes_ap, fTru_ap, fAndV_ap, fOrV_ap, fNotV_ap, fIf_ap, fChain_ap, aNil_ap, aCons_ap, fTup_ap, fLst_ap, fCall_ap, fCallN_ap, fCallB_ap, iList_ap, iTup_ap, iRange1_ap, iRange2_ap, gSet_ap, gTup_ap, gsNil_ap, gsCons_ap, fLc_ap, wipe_nil, wipe_cons, ofO_ite, oIx_map, oIx_tmap, oIx_ro, oIx_t0, oIx_t1, oIx_t2, oIx_t3, oAdd_int, oAdd_lst, oAdd_str, oAdd_tup, oCat_ap, oRep_ap, oSub_int, oMul_int, oFdiv_int, oMod_int, oPow_int, oNeg_int, oEq_int, oNe_int, oEq_str, oNe_str, oEq_bool, oNe_bool, oLt_int, oLe_int, oGt_int, oGe_int, asInt_ap, asBool_ap, oLen_map, oLen_tup, oLen_ro, oAll_map, oAny_map, oSum_map, oInt_int, oInt_bool, oAbs_int, oMax2_int, oMin2_int, oList_lst, oList_tup, oRev_map, oSl_map, oSlL_map, oIsi_bool, oIsN_none, oIsN_int, truD_bool, truD_int, truD_map, itList_ap, itList_ro, itTup_ap, oRange1_int, oRange2_int, onlyFlat_int, onlyFlat_str, onlyFlat_bool, newD_ap, oIAdd_int, o2L_ap, sAl_ap, alL_ap, asLst_ap, sAlApp_ap, sAlPut_ap, s2App_ap, s2AppAt_ap, killE_un, killE_sh, killE_ow, killE_o2, killE_al, view_ap, viewE_un, viewE_sh, viewE_ow, viewE_o2, viewE_al, viewA_map, ofO_get, ixN_nat, List.map_cons, List.map_nil, mapO_all, mapO_guard, lcAll_map, filO_if, List.set_cons_zero, List.set_cons_succ, decide_eq_true_eq, Bool.not_eq_true', decide_eq_false_iff_not, if_true, if_false, ite_true, ite_false, Bool.false_eq_true, List.length_cons, List.length_nil, List.length_range, and_self, Int.toNat_natCast, eRow, z1, true_and]
    refine SS_seq' (fun ρ => ∃ x y z w v, ρ = [EV.sh (eOld old), EV.sh (eOld new), EV.sh (ePap c l ls), EV.sh (.int c), EV.sh (ePrs l), EV.sh (eLab ls), x, y, z, w, v] ∧ ∀ i j : Nat, i ≤ old.length → j ≤ new.length → LabOk old new ls i j) ?_ ?_
    · refine SS_forR (fun k ρ => ∃ x y z w v, ρ = [EV.sh (eOld old), EV.sh (eOld new), EV.sh (ePap c l ls), EV.sh (.int c), EV.sh (ePrs l), EV.sh (eLab ls), x, y, z, w, v] ∧ ∀ i j : Nat, i < k → j ≤ new.length → LabOk old new ls i j) ⟨_, _, _, _, _, rfl, by omega⟩ ?_ ?_
      · rintro i ρ hi ⟨x, y, z, w, v, rfl, hk⟩
        simp -implicitDefEqProofs -dsimp only [sSeq_ap, sFrz_ap, sNext_ap, sBreak_ap, sCont_ap, sDrop_ap, sRet_ap, sRetN_ap, sRet0_ap, sRetO_ap, owOf_ow, owOf_o2, sIf_ap, sAsg_ap, sSetN_ap, owL_ap, sApp_ap, sPut_ap, sAug_ap, sFor_ap, sSetN2_ap, bind_ok, bind_no, bind_ex, calm_ok, calm_no, calm_ex, toS_ok, toS_no, toS_ex, seq_nx, seq_rt, seq_bk, seq_ct, seq_no, seq_ex, bind_guard, bind_ite, calm_ite, toS_ite, seq_ite, sseq_assoc, obind_assoc, S_ok, S_no, S_guard, S_ite, SS_nx, SS_bk, SS_ct, SS_rt, SS_no, SS_guard, SS_ite, ite_F, ret_b, bl_b, fV_0, fV_s, fS_0, fS_s, evB_sh, evB_ow, evS_sh, slot_0, slot_s, getD_0, getD_s, frz_ap, frzE_sh, frzE_ow, frzE_o2, frzE_un, fC_ap, f1_ap, f2_ap, fX_ap, fXT_ap, fSl_ap, fSlL_ap, fNoPart_ap, fPart_ap, fB_ap, tAnd_ap, tOr_ap, tNot_ap, tYes_ap, fTru_ap, fAndV_ap, fOrV_ap, fNotV_ap, fIf_ap, fChain_ap, aNil_ap, aCons_ap, fTup_ap, fLst_ap, fCall_ap, fCallN_ap, fCallB_ap, iList_ap, iTup_ap, iRange1_ap, iRange2_ap, gSet_ap, gTup_ap, gsNil_ap, gsCons_ap, fLc_ap, wipe_nil, wipe_cons, ofO_ite, oIx_map, oIx_tmap, oIx_ro, oIx_t0, oIx_t1, oIx_t2, oIx_t3, oAdd_int, oAdd_lst, oAdd_str, oAdd_tup, oCat_ap, oRep_ap, oSub_int, oMul_int, oFdiv_int, oMod_int, oPow_int, oNeg_int, oEq_int, oNe_int, oEq_str, oNe_str, oEq_bool, oNe_bool, oLt_int, oLe_int, oGt_int, oGe_int, asInt_ap, asBool_ap, oLen_map, oLen_tup, oLen_ro, oAll_map, oAny_map, oSum_map, oInt_int, oInt_bool, oAbs_int, oMax2_int, oMin2_int, oList_lst, oList_tup, oRev_map, oSl_map, oSlL_map, oIsi_bool, oIsN_none, oIsN_int, truD_bool, truD_int, truD_map, itList_ap, itList_ro, itTup_ap, oRange1_int, oRange2_int, onlyFlat_int, onlyFlat_str, onlyFlat_bool, newD_ap, oIAdd_int, o2L_ap, sAl_ap, alL_ap, asLst_ap, sAlApp_ap, sAlPut_ap, s2App_ap, s2AppAt_ap, killE_un, killE_sh, killE_ow, killE_o2, killE_al, view_ap, viewE_un, viewE_sh, viewE_ow, viewE_o2, viewE_al, viewA_map, ofO_get, ixN_nat, List.map_cons, List.map_nil, mapO_all, mapO_guard, lcAll_map, filO_if, List.set_cons_zero, List.set_cons_succ, decide_eq_true_eq, Bool.not_eq_true', decide_eq_false_iff_not, if_true, if_false, ite_true, ite_false, Bool.false_eq_true, List.length_cons, List.length_nil, List.length_range, and_self, Int.toNat_natCast, eRow, z2, true_and]
        obtain ⟨J, hJ⟩ : ∃ J : Nat → Rho → Prop, ∀ k ρ, J k ρ ↔ ∃ x y w v, ρ = [EV.sh (eOld old), EV.sh (eOld new), EV.sh (ePap c l ls), EV.sh (.int c), EV.sh (ePrs l), EV.sh (eLab ls), x, y, EV.sh (.int i), w, v] ∧ ∀ j : Nat, j < k → LabOk old new ls i j := ⟨_, fun _ _ => Iff.rfl⟩
        refine SS_forR J ((hJ _ _).mpr ⟨_, _, _, _, rfl, by omega⟩) ?_ ?_
        · intro j ρ hj hr
          obtain ⟨x, y, w, v, rfl, hk2⟩ := (hJ _ _).mp hr
          clear hr
          simp -implicitDefEqProofs -dsimp only [sSeq_ap, sFrz_ap, sNext_ap, sBreak_ap, sCont_ap, sDrop_ap, sRet_ap, sRetN_ap, sRet0_ap, sRetO_ap, owOf_ow, owOf_o2, sIf_ap, sAsg_ap, sSetN_ap, owL_ap, sApp_ap, sPut_ap, sAug_ap, sFor_ap, sSetN2_ap, bind_ok, bind_no, bind_ex, calm_ok, calm_no, calm_ex, toS_ok, toS_no, toS_ex, seq_nx, seq_rt, seq_bk, seq_ct, seq_no, seq_ex, bind_guard, bind_ite, calm_ite, toS_ite, seq_ite, sseq_assoc, obind_assoc, S_ok, S_no, S_guard, S_ite, SS_nx, SS_bk, SS_ct, SS_rt, SS_no, SS_guard, SS_ite, ite_F, ret_b, bl_b, fV_0, fV_s, fS_0, fS_s, evB_sh, evB_ow, evS_sh, slot_0, slot_s, getD_0, getD_s, frz_ap, frzE_sh, frzE_ow, frzE_o2, frzE_un, fC_ap, f1_ap, f2_ap, fX_ap, fXT_ap, fSl_ap, fSlL_ap, fNoPart_ap, fPart_ap, fB_ap, tAnd_ap, tOr_ap, tNot_ap, tYes_ap, fTru_ap, fAndV_ap, fOrV_ap, fNotV_ap, fIf_ap, fChain_ap, aNil_ap, aCons_ap, fTup_ap, fLst_ap, fCall_ap, fCallN_ap, fCallB_ap, iList_ap, iTup_ap, iRange1_ap, iRange2_ap, gSet_ap, gTup_ap, gsNil_ap, gsCons_ap, fLc_ap, wipe_nil, wipe_cons, ofO_ite, oIx_map, oIx_tmap, oIx_ro, oIx_t0, oIx_t1, oIx_t2, oIx_t3, oAdd_int, oAdd_lst, oAdd_str, oAdd_tup, oCat_ap, oRep_ap, oSub_int, oMul_int, oFdiv_int, oMod_int, oPow_int, oNeg_int, oEq_int, oNe_int, oEq_str, oNe_str, oEq_bool, oNe_bool, oLt_int, oLe_int, oGt_int, oGe_int, asInt_ap, asBool_ap, oLen_map, oLen_tup, oLen_ro, oAll_map, oAny_map, oSum_map, oInt_int, oInt_bool, oAbs_int, oMax2_int, oMin2_int, oList_lst, oList_tup, oRev_map, oSl_map, oSlL_map, oIsi_bool, oIsN_none, oIsN_int, truD_bool, truD_int, truD_map, itList_ap, itList_ro, itTup_ap, oRange1_int, oRange2_int, onlyFlat_int, onlyFlat_str, onlyFlat_bool, newD_ap, oIAdd_int, o2L_ap, sAl_ap, alL_ap, asLst_ap, sAlApp_ap, sAlPut_ap, s2App_ap, s2AppAt_ap, killE_un, killE_sh, killE_ow, killE_o2, killE_al, view_ap, viewE_un, viewE_sh, viewE_ow, viewE_o2, viewE_al, viewA_map, ofO_get, ixN_nat, List.map_cons, List.map_nil, mapO_all, mapO_guard, lcAll_map, filO_if, List.set_cons_zero, List.set_cons_succ, decide_eq_true_eq, Bool.not_eq_true', decide_eq_false_iff_not, if_true, if_false, ite_true, ite_false, Bool.false_eq_true, List.length_cons, List.length_nil, List.length_range, and_self, Int.toNat_natCast, eRow]
          have F : ∀ d : D, LabOk old new ls i j → J (j + 1) [EV.sh (eOld old), EV.sh (eOld new), EV.sh (ePap c l ls), EV.sh (.int c), EV.sh (ePrs l), EV.sh (eLab ls), x, y, EV.sh (.int i), EV.sh (.int j), EV.sh d] := fun d h => (hJ _ _).mpr ⟨_, _, _, _, rfl, fun k hk' => by
            by_cases e : k = j
            · rw [e]; exact h
            · exact hk2 k (by omega)⟩
          have n1 : ¬ LabOk old new ls i j → ¬ Good old new c l ls := fun h g => h (g.2.2.2.1 i j (by omega) (by omega))
          have e0 := hrect.1
          have e1 : (nth ls i).length = new.length + 1 := hrect.2 _ (nth_mem (by omega) (by omega))
          have e2 : (i : Int) < old.length → (nth ls ((i : Int) + 1)).length = new.length + 1 := fun h => hrect.2 _ (nth_mem (by omega) (by omega))
          clear hJ hk hk2 hrect h5 z1 z2 h1 h2 h3 h4 hcr
          generalize Good old new c l ls = G at *
          generalize J (j + 1) = J1 at *
          unfold LabOk lab at n1 F
          generalize [EV.sh (eOld old), EV.sh (eOld new), EV.sh (ePap c l ls), EV.sh (PyData.int c)] = L at *
          grind (splits := 60)
        · intro ρ hr
          obtain ⟨x, y, w, v, rfl, hk2⟩ := (hJ _ _).mp hr
          refine ⟨_, _, _, _, _, rfl, fun i' j a b => ?_⟩
          by_cases e : i' = i
          · rw [e]; exact hk2 j (by omega)
          · exact hk i' j (by omega) b
      · rintro ρ ⟨x, y, z, w, v, rfl, hk⟩
        exact ⟨_, _, _, _, _, rfl, fun i j a b => hk i j (by omega) b⟩
    · rintro ρ ⟨x, y, z, w, v, rfl, hk⟩
      simp -implicitDefEqProofs -dsimp only [sSeq_ap, sFrz_ap, sNext_ap, sBreak_ap, sCont_ap, sDrop_ap, sRet_ap, sRetN_ap, sRet0_ap, sRetO_ap, owOf_ow, owOf_o2, sIf_ap, sAsg_ap, sSetN_ap, owL_ap, sApp_ap, sPut_ap, sAug_ap, sFor_ap, sSetN2_ap, bind_ok, bind_no, bind_ex, calm_ok, calm_no, calm_ex, toS_ok, toS_no, toS_ex, seq_nx, seq_rt, seq_bk, seq_ct, seq_no, seq_ex, bind_guard, bind_ite, calm_ite, toS_ite, seq_ite, sseq_assoc, obind_assoc, S_ok, S_no, S_guard, S_ite, SS_nx, SS_bk, SS_ct, SS_rt, SS_no, SS_guard, SS_ite, ite_F, ret_b, bl_b, fV_0, fV_s, fS_0, fS_s, evB_sh, evB_ow, evS_sh, slot_0, slot_s, getD_0, getD_s, frz_ap, frzE_sh, frzE_ow, frzE_o2, frzE_un, fC_ap, f1_ap, f2_ap, fX_ap, fXT_ap, fSl_ap, fSlL_ap, fNoPart_ap, fPart_ap, fB_ap, tAnd_ap, tOr_ap, tNot_ap, tYes_ap, fTru_ap, fAndV_ap, fOrV_ap, fNotV_ap, fIf_ap, fChain_ap, aNil_ap, aCons_ap, fTup_ap, fLst_ap, fCall_ap, fCallN_ap, fCallB_ap, iList_ap, iTup_ap, iRange1_ap, iRange2_ap, gSet_ap, gTup_ap, gsNil_ap, gsCons_ap, fLc_ap, wipe_nil, wipe_cons, ofO_ite, oIx_map, oIx_tmap, oIx_ro, oIx_t0, oIx_t1, oIx_t2, oIx_t3, oAdd_int, oAdd_lst, oAdd_str, oAdd_tup, oCat_ap, oRep_ap, oSub_int, oMul_int, oFdiv_int, oMod_int, oPow_int, oNeg_int, oEq_int, oNe_int, oEq_str, oNe_str, oEq_bool, oNe_bool, oLt_int, oLe_int, oGt_int, oGe_int, asInt_ap, asBool_ap, oLen_map, oLen_tup, oLen_ro, oAll_map, oAny_map, oSum_map, oInt_int, oInt_bool, oAbs_int, oMax2_int, oMin2_int, oList_lst, oList_tup, oRev_map, oSl_map, oSlL_map, oIsi_bool, oIsN_none, oIsN_int, truD_bool, truD_int, truD_map, itList_ap, itList_ro, itTup_ap, oRange1_int, oRange2_int, onlyFlat_int, onlyFlat_str, onlyFlat_bool, newD_ap, oIAdd_int, o2L_ap, sAl_ap, alL_ap, asLst_ap, sAlApp_ap, sAlPut_ap, s2App_ap, s2AppAt_ap, killE_un, killE_sh, killE_ow, killE_o2, killE_al, view_ap, viewE_un, viewE_sh, viewE_ow, viewE_o2, viewE_al, viewA_map, ofO_get, ixN_nat, List.map_cons, List.map_nil, mapO_all, mapO_guard, lcAll_map, filO_if, List.set_cons_zero, List.set_cons_succ, decide_eq_true_eq, Bool.not_eq_true', decide_eq_false_iff_not, if_true, if_false, ite_true, ite_false, Bool.false_eq_true, List.length_cons, List.length_nil, List.length_range, and_self, Int.toNat_natCast, eRow]
      have e0 := hrect.1
      have e1 : (nth ls 0).length = new.length + 1 := hrect.2 _ (nth_mem (by omega) (by omega))
      refine ⟨by omega, by omega, ?_⟩
      unfold Good
      simp only [q1, hcr, hrect, true_and, decide_eq_true_eq]
      exact ⟨fun h => ⟨fun i j a b => hk i j a b, h⟩, fun h => h.2⟩
theorem cell_eq {ns : List Int} {k : Int} (hk : 0 ≤ k) : ∃ i, g_law_cell [roD (ns.map .int), .int k] = ok (false, .int i) := by
  suffices h : (g_law_cell [roD (ns.map .int), .int k]).S fun r => ∃ i, r = (false, .int i) by
    obtain ⟨_, h1, i, rfl⟩ := S_iff.mp h
    exact ⟨i, h1⟩
  refine run_S rfl ?_
  show (fb_law_cell [.sh (roD (ns.map .int)), .sh (.int k)]).S _ _ _ _
  simp -implicitDefEqProofs -dsimp only [fb_law_cell, sSeq_ap, sFrz_ap, sNext_ap, sBreak_ap, sCont_ap, sDrop_ap, sRet_ap, sRetN_ap, sRet0_ap, sRetO_ap, owOf_ow, owOf_o2, sIf_ap, sAsg_ap, sSetN_ap, owL_ap, sApp_ap, sPut_ap, sAug_ap, sFor_ap, sSetN2_ap, bind_ok, bind_no, bind_ex, calm_ok, calm_no, calm_ex, toS_ok, toS_no, toS_ex, seq_nx, seq_rt, seq_bk, seq_ct, seq_no, seq_ex, bind_guard, bind_ite, calm_ite, toS_ite, seq_ite, sseq_assoc, obind_assoc, S_ok, S_no, S_guard, S_ite, SS_nx, SS_bk, SS_ct, SS_rt, SS_no, SS_guard, SS_ite, ite_F, ret_b, bl_b, fV_0, fV_s, fS_0, fS_s, evB_sh, evB_ow, evS_sh, slot_0, slot_s, getD_0, getD_s, frz_ap, frzE_sh, frzE_ow, frzE_o2, frzE_un, fC_ap, f1_ap, f2_ap, fX_ap, fXT_ap, fSl_ap, fSlL_ap, fNoPart_ap, fPart_ap, fB_ap, tAnd_ap, tOr_ap, tNot_ap, tYes_ap, fTru_ap, fAndV_ap, fOrV_ap, fNotV_ap, fIf_ap, fChain_ap, aNil_ap, aCons_ap, fTup_ap, fLst_ap, fCall_ap, fCallN_ap, fCallB_ap, iList_ap, iTup_ap, iRange1_ap, iRange2_ap, gSet_ap, gTup_ap, gsNil_ap, gsCons_ap, fLc_ap, wipe_nil, wipe_cons, ofO_ite, oIx_map, oIx_tmap, oIx_ro, oIx_t0, oIx_t1, oIx_t2, oIx_t3, oAdd_int, oAdd_lst, oAdd_str, oAdd_tup, oCat_ap, oRep_ap, oSub_int, oMul_int, oFdiv_int, oMod_int, oPow_int, oNeg_int, oEq_int, oNe_int, oEq_str, oNe_str, oEq_bool, oNe_bool, oLt_int, oLe_int, oGt_int, oGe_int, asInt_ap, asBool_ap, oLen_map, oLen_tup, oLen_ro, oAll_map, oAny_map, oSum_map, oInt_int, oInt_bool, oAbs_int, oMax2_int, oMin2_int, oList_lst, oList_tup, oRev_map, oSl_map, oSlL_map, oIsi_bool, oIsN_none, oIsN_int, truD_bool, truD_int, truD_map, itList_ap, itList_ro, itTup_ap, oRange1_int, oRange2_int, onlyFlat_int, onlyFlat_str, onlyFlat_bool, newD_ap, oIAdd_int, o2L_ap, sAl_ap, alL_ap, asLst_ap, sAlApp_ap, sAlPut_ap, s2App_ap, s2AppAt_ap, killE_un, killE_sh, killE_ow, killE_o2, killE_al, view_ap, viewE_un, viewE_sh, viewE_ow, viewE_o2, viewE_al, viewA_map, ofO_get, ixN_nat, List.map_cons, List.map_nil, mapO_all, mapO_guard, lcAll_map, filO_if, List.set_cons_zero, List.set_cons_succ, decide_eq_true_eq, Bool.not_eq_true', decide_eq_false_iff_not, if_true, if_false, ite_true, ite_false, Bool.false_eq_true, List.length_cons, List.length_nil, List.length_range, and_self, Int.toNat_natCast]
  split
  · exact ⟨by omega, _, rfl⟩
  · exact ⟨_, rfl⟩
/-- a list of draws -/
def Draws (n : Nat) (l : List Int) : Prop := l.length = n ∧ ∀ x ∈ l, 0 ≤ x ∧ x < 5040
theorem mulOk_r {i j : Int} (h : 0 ≤ j) (h' : j < 10000000000) : mulOk i j = true := decide_eq_true (.inr ⟨by omega, by omega⟩)
theorem Draws.snoc {n : Nat} {l : List Int} {x : Int} (h : Draws n l) (h0 : 0 ≤ x) (h1 : x < 5040) : Draws (n + 1) (l ++ [x]) :=
  ⟨by rw [List.length_append, h.1]; rfl, fun y hy => by
    rcases List.mem_append.mp hy with hy | hy
    · exact h.2 y hy
    · rw [List.mem_singleton.mp hy]; exact ⟨h0, h1⟩⟩
theorem numbers_eq {cell : Int} {n : Nat} (hn : n ≤ 1000) : ∃ l, g_law_numbers [.int cell, .int n, .int 5040] = ok (true, .list (l.map .int)) ∧ Draws n l := by
  suffices h : (g_law_numbers [.int cell, .int n, .int 5040]).S fun r => ∃ l : List Int, r = (true, .list (l.map .int)) ∧ Draws n l by
    obtain ⟨_, h1, l, rfl, h2⟩ := S_iff.mp h
    exact ⟨l, h1, h2⟩
  refine run_S rfl ?_
  show (fb_law_numbers [.sh (.int cell), .sh (.int n), .sh (.int 5040), .un, .un, .un]).S _ _ _ _
  have z0 : (0 : Nat) ≤ sizeLine := Nat.zero_le _
  have z1 : rgOk (n : Int) := rg_of (by omega) (by omega)
  have z2 : (0 : Int) ≤ 18 ∧ (18 : Int) ≤ 1000000 ∧ (10 : Int).natAbs < 2 ^ 64 := by decide
  have e0 : ([] : List D) = ([] : List Int).map .int := rfl
  simp -implicitDefEqProofs -dsimp only [fb_law_numbers, sSeq_ap, sFrz_ap, sNext_ap, sBreak_ap, sCont_ap, sDrop_ap, sRet_ap, sRetN_ap, sRet0_ap, sRetO_ap, owOf_ow, owOf_o2, sIf_ap, sAsg_ap, sSetN_ap, owL_ap, sApp_ap, sPut_ap, sAug_ap, sFor_ap, sSetN2_ap, bind_ok, bind_no, bind_ex, calm_ok, calm_no, calm_ex, toS_ok, toS_no, toS_ex, seq_nx, seq_rt, seq_bk, seq_ct, seq_no, seq_ex, bind_guard, bind_ite, calm_ite, toS_ite, seq_ite, sseq_assoc, obind_assoc, S_ok, S_no, S_guard, S_ite, SS_nx, SS_bk, SS_ct, SS_rt, SS_no, SS_guard, SS_ite, ite_F, ret_b, bl_b, fV_0, fV_s, fS_0, fS_s, evB_sh, evB_ow, evS_sh, slot_0, slot_s, getD_0, getD_s, frz_ap, frzE_sh, frzE_ow, frzE_o2, frzE_un, fC_ap, f1_ap, f2_ap, fX_ap, fXT_ap, fSl_ap, fSlL_ap, fNoPart_ap, fPart_ap, fB_ap, tAnd_ap, tOr_ap, tNot_ap, tYes_ap, fTru_ap, fAndV_ap, fOrV_ap, fNotV_ap, fIf_ap, fChain_ap, aNil_ap, aCons_ap, fTup_ap, fLst_ap, fCall_ap, fCallN_ap, fCallB_ap, iList_ap, iTup_ap, iRange1_ap, iRange2_ap, gSet_ap, gTup_ap, gsNil_ap, gsCons_ap, fLc_ap, wipe_nil, wipe_cons, ofO_ite, oIx_map, oIx_tmap, oIx_ro, oIx_t0, oIx_t1, oIx_t2, oIx_t3, oAdd_int, oAdd_lst, oAdd_str, oAdd_tup, oCat_ap, oRep_ap, oSub_int, oMul_int, oFdiv_int, oMod_int, oPow_int, oNeg_int, oEq_int, oNe_int, oEq_str, oNe_str, oEq_bool, oNe_bool, oLt_int, oLe_int, oGt_int, oGe_int, asInt_ap, asBool_ap, oLen_map, oLen_tup, oLen_ro, oAll_map, oAny_map, oSum_map, oInt_int, oInt_bool, oAbs_int, oMax2_int, oMin2_int, oList_lst, oList_tup, oRev_map, oSl_map, oSlL_map, oIsi_bool, oIsN_none, oIsN_int, truD_bool, truD_int, truD_map, itList_ap, itList_ro, itTup_ap, oRange1_int, oRange2_int, onlyFlat_int, onlyFlat_str, onlyFlat_bool, newD_ap, oIAdd_int, o2L_ap, sAl_ap, alL_ap, asLst_ap, sAlApp_ap, sAlPut_ap, s2App_ap, s2AppAt_ap, killE_un, killE_sh, killE_ow, killE_o2, killE_al, view_ap, viewE_un, viewE_sh, viewE_ow, viewE_o2, viewE_al, viewA_map, ofO_get, ixN_nat, List.map_cons, List.map_nil, mapO_all, mapO_guard, lcAll_map, filO_if, List.set_cons_zero, List.set_cons_succ, decide_eq_true_eq, Bool.not_eq_true', decide_eq_false_iff_not, if_true, if_false, ite_true, ite_false, Bool.false_eq_true, List.length_cons, List.length_nil, List.length_range, and_self, Int.toNat_natCast, z0, z1, z2]
  split
  · refine SS_seq' (fun ρ => ∃ l c x y, ρ = [.sh (.int c), .sh (.int n), .sh (.int 5040), .ow (.list (l.map .int)), x, y] ∧ Draws n l) ?_ ?_
    · refine SS_forR (fun k ρ => ∃ l c x y, ρ = [.sh (.int c), .sh (.int n), .sh (.int 5040), .ow (.list (l.map .int)), x, y] ∧ Draws k l) ⟨[], _, _, _, rfl, rfl, fun x h => nomatch h⟩ ?_ ?_
      · rintro i ρ hi ⟨l, c, x, y, rfl, hd⟩
        have z3 : l.length < sizeLine := szl' (by rw [hd.1]; omega)
        have z4 : (0 : Int) < 5040 ∧ (5040 : Int) < 1073741824 := by decide
        simp -implicitDefEqProofs -dsimp only [sSeq_ap, sFrz_ap, sNext_ap, sBreak_ap, sCont_ap, sDrop_ap, sRet_ap, sRetN_ap, sRet0_ap, sRetO_ap, owOf_ow, owOf_o2, sIf_ap, sAsg_ap, sSetN_ap, owL_ap, sApp_ap, sPut_ap, sAug_ap, sFor_ap, sSetN2_ap, bind_ok, bind_no, bind_ex, calm_ok, calm_no, calm_ex, toS_ok, toS_no, toS_ex, seq_nx, seq_rt, seq_bk, seq_ct, seq_no, seq_ex, bind_guard, bind_ite, calm_ite, toS_ite, seq_ite, sseq_assoc, obind_assoc, S_ok, S_no, S_guard, S_ite, SS_nx, SS_bk, SS_ct, SS_rt, SS_no, SS_guard, SS_ite, ite_F, ret_b, bl_b, fV_0, fV_s, fS_0, fS_s, evB_sh, evB_ow, evS_sh, slot_0, slot_s, getD_0, getD_s, frz_ap, frzE_sh, frzE_ow, frzE_o2, frzE_un, fC_ap, f1_ap, f2_ap, fX_ap, fXT_ap, fSl_ap, fSlL_ap, fNoPart_ap, fPart_ap, fB_ap, tAnd_ap, tOr_ap, tNot_ap, tYes_ap, fTru_ap, fAndV_ap, fOrV_ap, fNotV_ap, fIf_ap, fChain_ap, aNil_ap, aCons_ap, fTup_ap, fLst_ap, fCall_ap, fCallN_ap, fCallB_ap, iList_ap, iTup_ap, iRange1_ap, iRange2_ap, gSet_ap, gTup_ap, gsNil_ap, gsCons_ap, fLc_ap, wipe_nil, wipe_cons, ofO_ite, oIx_map, oIx_tmap, oIx_ro, oIx_t0, oIx_t1, oIx_t2, oIx_t3, oAdd_int, oAdd_lst, oAdd_str, oAdd_tup, oCat_ap, oRep_ap, oSub_int, oMul_int, oFdiv_int, oMod_int, oPow_int, oNeg_int, oEq_int, oNe_int, oEq_str, oNe_str, oEq_bool, oNe_bool, oLt_int, oLe_int, oGt_int, oGe_int, asInt_ap, asBool_ap, oLen_map, oLen_tup, oLen_ro, oAll_map, oAny_map, oSum_map, oInt_int, oInt_bool, oAbs_int, oMax2_int, oMin2_int, oList_lst, oList_tup, oRev_map, oSl_map, oSlL_map, oIsi_bool, oIsN_none, oIsN_int, truD_bool, truD_int, truD_map, itList_ap, itList_ro, itTup_ap, oRange1_int, oRange2_int, onlyFlat_int, onlyFlat_str, onlyFlat_bool, newD_ap, oIAdd_int, o2L_ap, sAl_ap, alL_ap, asLst_ap, sAlApp_ap, sAlPut_ap, s2App_ap, s2AppAt_ap, killE_un, killE_sh, killE_ow, killE_o2, killE_al, view_ap, viewE_un, viewE_sh, viewE_ow, viewE_o2, viewE_al, viewA_map, ofO_get, ixN_nat, List.map_cons, List.map_nil, mapO_all, mapO_guard, lcAll_map, filO_if, List.set_cons_zero, List.set_cons_succ, decide_eq_true_eq, Bool.not_eq_true', decide_eq_false_iff_not, if_true, if_false, ite_true, ite_false, Bool.false_eq_true, List.length_cons, List.length_nil, List.length_range, and_self, Int.toNat_natCast, z3, z4, List.length_map]
        refine ⟨l ++ [c % 5040], _, _, _, by rw [List.map_append]; rfl, hd.snoc (by omega) (by omega)⟩
      · rintro ρ ⟨l, c, x, y, rfl, hd⟩
        exact ⟨l, c, x, y, rfl, hd⟩
    · rintro ρ ⟨l, c, x, y, rfl, hd⟩
      simp -implicitDefEqProofs -dsimp only [sSeq_ap, sFrz_ap, sNext_ap, sBreak_ap, sCont_ap, sDrop_ap, sRet_ap, sRetN_ap, sRet0_ap, sRetO_ap, owOf_ow, owOf_o2, sIf_ap, sAsg_ap, sSetN_ap, owL_ap, sApp_ap, sPut_ap, sAug_ap, sFor_ap, sSetN2_ap, bind_ok, bind_no, bind_ex, calm_ok, calm_no, calm_ex, toS_ok, toS_no, toS_ex, seq_nx, seq_rt, seq_bk, seq_ct, seq_no, seq_ex, bind_guard, bind_ite, calm_ite, toS_ite, seq_ite, sseq_assoc, obind_assoc, S_ok, S_no, S_guard, S_ite, SS_nx, SS_bk, SS_ct, SS_rt, SS_no, SS_guard, SS_ite, ite_F, ret_b, bl_b, fV_0, fV_s, fS_0, fS_s, evB_sh, evB_ow, evS_sh, slot_0, slot_s, getD_0, getD_s, frz_ap, frzE_sh, frzE_ow, frzE_o2, frzE_un, fC_ap, f1_ap, f2_ap, fX_ap, fXT_ap, fSl_ap, fSlL_ap, fNoPart_ap, fPart_ap, fB_ap, tAnd_ap, tOr_ap, tNot_ap, tYes_ap, fTru_ap, fAndV_ap, fOrV_ap, fNotV_ap, fIf_ap, fChain_ap, aNil_ap, aCons_ap, fTup_ap, fLst_ap, fCall_ap, fCallN_ap, fCallB_ap, iList_ap, iTup_ap, iRange1_ap, iRange2_ap, gSet_ap, gTup_ap, gsNil_ap, gsCons_ap, fLc_ap, wipe_nil, wipe_cons, ofO_ite, oIx_map, oIx_tmap, oIx_ro, oIx_t0, oIx_t1, oIx_t2, oIx_t3, oAdd_int, oAdd_lst, oAdd_str, oAdd_tup, oCat_ap, oRep_ap, oSub_int, oMul_int, oFdiv_int, oMod_int, oPow_int, oNeg_int, oEq_int, oNe_int, oEq_str, oNe_str, oEq_bool, oNe_bool, oLt_int, oLe_int, oGt_int, oGe_int, asInt_ap, asBool_ap, oLen_map, oLen_tup, oLen_ro, oAll_map, oAny_map, oSum_map, oInt_int, oInt_bool, oAbs_int, oMax2_int, oMin2_int, oList_lst, oList_tup, oRev_map, oSl_map, oSlL_map, oIsi_bool, oIsN_none, oIsN_int, truD_bool, truD_int, truD_map, itList_ap, itList_ro, itTup_ap, oRange1_int, oRange2_int, onlyFlat_int, onlyFlat_str, onlyFlat_bool, newD_ap, oIAdd_int, o2L_ap, sAl_ap, alL_ap, asLst_ap, sAlApp_ap, sAlPut_ap, s2App_ap, s2AppAt_ap, killE_un, killE_sh, killE_ow, killE_o2, killE_al, view_ap, viewE_un, viewE_sh, viewE_ow, viewE_o2, viewE_al, viewA_map, ofO_get, ixN_nat, List.map_cons, List.map_nil, mapO_all, mapO_guard, lcAll_map, filO_if, List.set_cons_zero, List.set_cons_succ, decide_eq_true_eq, Bool.not_eq_true', decide_eq_false_iff_not, if_true, if_false, ite_true, ite_false, Bool.false_eq_true, List.length_cons, List.length_nil, List.length_range, and_self, Int.toNat_natCast]
      exact ⟨l, rfl, hd⟩
  · refine SS_seq' (fun ρ => ∃ l x y, ρ = [.sh (.int cell), .sh (.int n), .sh (.int 5040), .ow (.list (l.map .int)), x, y] ∧ Draws n l) ?_ ?_
    · refine SS_forR (fun k ρ => ∃ l x y, ρ = [.sh (.int cell), .sh (.int n), .sh (.int 5040), .ow (.list (l.map .int)), x, y] ∧ Draws k l) ⟨[], _, _, rfl, rfl, fun x h => nomatch h⟩ ?_ ?_
      · rintro i ρ hi ⟨l, x, y, rfl, hd⟩
        have z3 : l.length < sizeLine := szl' (by rw [hd.1]; omega)
        have z4 : (0 : Int) < 5040 ∧ (0 : Int) < 32 ∧ (32 : Int) < 1073741824 ∧ (0 : Int) < 2147483647 ∧ (0 : Int) < 2147483399 := by decide
        have m1 := fun i => mulOk_r (i := i) (j := 48271) (by omega) (by omega)
        have m2 := fun i => mulOk_r (i := i) (j := 69621) (by omega) (by omega)
        have m3 := fun i => mulOk_r (i := i) (j := 40692) (by omega) (by omega)
        have m4 := fun i => mulOk_r (i := i) (j := 16807) (by omega) (by omega)
        have m5 : ∀ i j : Int, mulOk j (i % 2147483647) = true := fun i j => mulOk_r (by omega) (by omega)
        simp -implicitDefEqProofs -dsimp only [sSeq_ap, sFrz_ap, sNext_ap, sBreak_ap, sCont_ap, sDrop_ap, sRet_ap, sRetN_ap, sRet0_ap, sRetO_ap, owOf_ow, owOf_o2, sIf_ap, sAsg_ap, sSetN_ap, owL_ap, sApp_ap, sPut_ap, sAug_ap, sFor_ap, sSetN2_ap, bind_ok, bind_no, bind_ex, calm_ok, calm_no, calm_ex, toS_ok, toS_no, toS_ex, seq_nx, seq_rt, seq_bk, seq_ct, seq_no, seq_ex, bind_guard, bind_ite, calm_ite, toS_ite, seq_ite, sseq_assoc, obind_assoc, S_ok, S_no, S_guard, S_ite, SS_nx, SS_bk, SS_ct, SS_rt, SS_no, SS_guard, SS_ite, ite_F, ret_b, bl_b, fV_0, fV_s, fS_0, fS_s, evB_sh, evB_ow, evS_sh, slot_0, slot_s, getD_0, getD_s, frz_ap, frzE_sh, frzE_ow, frzE_o2, frzE_un, fC_ap, f1_ap, f2_ap, fX_ap, fXT_ap, fSl_ap, fSlL_ap, fNoPart_ap, fPart_ap, fB_ap, tAnd_ap, tOr_ap, tNot_ap, tYes_ap, fTru_ap, fAndV_ap, fOrV_ap, fNotV_ap, fIf_ap, fChain_ap, aNil_ap, aCons_ap, fTup_ap, fLst_ap, fCall_ap, fCallN_ap, fCallB_ap, iList_ap, iTup_ap, iRange1_ap, iRange2_ap, gSet_ap, gTup_ap, gsNil_ap, gsCons_ap, fLc_ap, wipe_nil, wipe_cons, ofO_ite, oIx_map, oIx_tmap, oIx_ro, oIx_t0, oIx_t1, oIx_t2, oIx_t3, oAdd_int, oAdd_lst, oAdd_str, oAdd_tup, oCat_ap, oRep_ap, oSub_int, oMul_int, oFdiv_int, oMod_int, oPow_int, oNeg_int, oEq_int, oNe_int, oEq_str, oNe_str, oEq_bool, oNe_bool, oLt_int, oLe_int, oGt_int, oGe_int, asInt_ap, asBool_ap, oLen_map, oLen_tup, oLen_ro, oAll_map, oAny_map, oSum_map, oInt_int, oInt_bool, oAbs_int, oMax2_int, oMin2_int, oList_lst, oList_tup, oRev_map, oSl_map, oSlL_map, oIsi_bool, oIsN_none, oIsN_int, truD_bool, truD_int, truD_map, itList_ap, itList_ro, itTup_ap, oRange1_int, oRange2_int, onlyFlat_int, onlyFlat_str, onlyFlat_bool, newD_ap, oIAdd_int, o2L_ap, sAl_ap, alL_ap, asLst_ap, sAlApp_ap, sAlPut_ap, s2App_ap, s2AppAt_ap, killE_un, killE_sh, killE_ow, killE_o2, killE_al, view_ap, viewE_un, viewE_sh, viewE_ow, viewE_o2, viewE_al, viewA_map, ofO_get, ixN_nat, List.map_cons, List.map_nil, mapO_all, mapO_guard, lcAll_map, filO_if, List.set_cons_zero, List.set_cons_succ, decide_eq_true_eq, Bool.not_eq_true', decide_eq_false_iff_not, if_true, if_false, ite_true, ite_false, Bool.false_eq_true, List.length_cons, List.length_nil, List.length_range, and_self, Int.toNat_natCast, z3, z4, m1, m2, m3, m4, m5, List.length_map]
        refine ⟨l ++ [_], _, _, by rw [List.map_append]; rfl, hd.snoc (by omega) (by omega)⟩
      · rintro ρ ⟨l, x, y, rfl, hd⟩
        exact ⟨l, x, y, rfl, hd⟩
    · rintro ρ ⟨l, x, y, rfl, hd⟩
      simp -implicitDefEqProofs -dsimp only [sSeq_ap, sFrz_ap, sNext_ap, sBreak_ap, sCont_ap, sDrop_ap, sRet_ap, sRetN_ap, sRet0_ap, sRetO_ap, owOf_ow, owOf_o2, sIf_ap, sAsg_ap, sSetN_ap, owL_ap, sApp_ap, sPut_ap, sAug_ap, sFor_ap, sSetN2_ap, bind_ok, bind_no, bind_ex, calm_ok, calm_no, calm_ex, toS_ok, toS_no, toS_ex, seq_nx, seq_rt, seq_bk, seq_ct, seq_no, seq_ex, bind_guard, bind_ite, calm_ite, toS_ite, seq_ite, sseq_assoc, obind_assoc, S_ok, S_no, S_guard, S_ite, SS_nx, SS_bk, SS_ct, SS_rt, SS_no, SS_guard, SS_ite, ite_F, ret_b, bl_b, fV_0, fV_s, fS_0, fS_s, evB_sh, evB_ow, evS_sh, slot_0, slot_s, getD_0, getD_s, frz_ap, frzE_sh, frzE_ow, frzE_o2, frzE_un, fC_ap, f1_ap, f2_ap, fX_ap, fXT_ap, fSl_ap, fSlL_ap, fNoPart_ap, fPart_ap, fB_ap, tAnd_ap, tOr_ap, tNot_ap, tYes_ap, fTru_ap, fAndV_ap, fOrV_ap, fNotV_ap, fIf_ap, fChain_ap, aNil_ap, aCons_ap, fTup_ap, fLst_ap, fCall_ap, fCallN_ap, fCallB_ap, iList_ap, iTup_ap, iRange1_ap, iRange2_ap, gSet_ap, gTup_ap, gsNil_ap, gsCons_ap, fLc_ap, wipe_nil, wipe_cons, ofO_ite, oIx_map, oIx_tmap, oIx_ro, oIx_t0, oIx_t1, oIx_t2, oIx_t3, oAdd_int, oAdd_lst, oAdd_str, oAdd_tup, oCat_ap, oRep_ap, oSub_int, oMul_int, oFdiv_int, oMod_int, oPow_int, oNeg_int, oEq_int, oNe_int, oEq_str, oNe_str, oEq_bool, oNe_bool, oLt_int, oLe_int, oGt_int, oGe_int, asInt_ap, asBool_ap, oLen_map, oLen_tup, oLen_ro, oAll_map, oAny_map, oSum_map, oInt_int, oInt_bool, oAbs_int, oMax2_int, oMin2_int, oList_lst, oList_tup, oRev_map, oSl_map, oSlL_map, oIsi_bool, oIsN_none, oIsN_int, truD_bool, truD_int, truD_map, itList_ap, itList_ro, itTup_ap, oRange1_int, oRange2_int, onlyFlat_int, onlyFlat_str, onlyFlat_bool, newD_ap, oIAdd_int, o2L_ap, sAl_ap, alL_ap, asLst_ap, sAlApp_ap, sAlPut_ap, s2App_ap, s2AppAt_ap, killE_un, killE_sh, killE_ow, killE_o2, killE_al, view_ap, viewE_un, viewE_sh, viewE_ow, viewE_o2, viewE_al, viewA_map, ofO_get, ixN_nat, List.map_cons, List.map_nil, mapO_all, mapO_guard, lcAll_map, filO_if, List.set_cons_zero, List.set_cons_succ, decide_eq_true_eq, Bool.not_eq_true', decide_eq_false_iff_not, if_true, if_false, ite_true, ite_false, Bool.false_eq_true, List.length_cons, List.length_nil, List.length_range, and_self, Int.toNat_natCast]
      exact ⟨l, rfl, hd⟩
end K81

set_option maxRecDepth 100000
set_option maxHeartbeats 4000000
namespace K81
open PySem Dl Out
def lcs : List Str → List Str → Nat
  | [], _ => 0
  | _ :: _, [] => 0
  | x :: a, y :: b => if x = y then 1 + lcs a b else max (lcs a (y :: b)) (lcs (x :: a) b)
termination_by a b => a.length + b.length
/-- what the table holds -/
def T (old new : List Str) (i j : Nat) : Int := lcs (old.drop i) (new.drop j)
theorem lcs_nil (a : List Str) : lcs a [] = 0 := by cases a <;> simp [lcs]
theorem T_end {old new : List Str} {j : Nat} : T old new old.length j = 0 := by unfold T; rw [List.drop_length]; simp [lcs]
theorem T_end' {old new : List Str} {i : Nat} : T old new i new.length = 0 := by unfold T; rw [List.drop_length, lcs_nil]; rfl
theorem drop_nth {l : List Str} {i : Nat} (h : i < l.length) : l.drop i = nth l i :: l.drop (i + 1) := by
  rw [nth_get h, List.drop_eq_getElem_cons h]
theorem T_eq {old new : List Str} {i j : Nat} (hi : i < old.length) (hj : j < new.length) : T old new i j = if nth old i = nth new j then 1 + T old new (i + 1) (j + 1) else max (T old new (i + 1) j) (T old new i (j + 1)) := by
  unfold T
  rw [drop_nth hi, drop_nth hj]
  rw [lcs]
  split
  · simp
  · rw [← drop_nth hi, ← drop_nth hj]
    omega
def Put (old new : List Str) (ls ls' : List (List Int)) (i j : Nat) (v : Int) : Prop := Rect old new ls' ∧ ∀ i' j' : Nat, lab ls' i' j' = if i' = i ∧ j' = j then v else lab ls i' j'
theorem put_of {old new : List Str} {ls : List (List Int)} {i j : Nat} {v : Int} (h : Rect old new ls) (hi : i ≤ old.length) (hj : j ≤ new.length) : Put old new ls (ls.set i ((nth ls i).set j v)) i j v := by
  have h0 := h.1
  have h1 : (nth ls i).length = new.length + 1 := h.2 _ (nth_mem (by omega) (by omega))
  refine ⟨⟨by rw [List.length_set]; exact h0, fun r hr => ?_⟩, fun i' j' => ?_⟩
  · rcases List.mem_or_eq_of_mem_set hr with hr | rfl
    · exact h.2 r hr
    · rw [List.length_set]; exact h1
  · unfold lab
    rw [nth_set (by omega)]
    by_cases e : i' = i
    · rw [if_pos e, nth_set (by omega), e]
      by_cases e2 : j' = j
      · rw [if_pos e2, if_pos ⟨rfl, e2⟩]
      · rw [if_neg e2, if_neg (fun z => e2 z.2)]
    · rw [if_neg e, if_neg (fun z => e z.1)]
/-- a rows are done, and b places of the next one -/
def Done (old new : List Str) (a b : Nat) (ls : List (List Int)) : Prop := Rect old new ls ∧ ∀ i j : Nat, i ≤ old.length → j ≤ new.length → (old.length ≤ i + a ∨ (i + a + 1 = old.length ∧ new.length ≤ j + b) ∨ j = new.length) → lab ls i j = T old new i j
theorem set_eq {ls : List (List Int)} {i j : Nat} {v : Int} : (ls.map eRow).set i (.list (((nth ls i).map .int).set j (.int v))) = (ls.set i ((nth ls i).set j v)).map eRow := by
  rw [List.map_set]
  congr 1
  show _ = PyData.list (((nth ls i).set j v).map .int)
  rw [List.map_set]
theorem Done.put {old new : List Str} {a b i j : Nat} {ls ls' : List (List Int)} {v : Int} (h : Done old new a b ls) (p : Put old new ls ls' i j v) (hi : i + a + 1 = old.length) (hj : j + b + 1 = new.length) (hv : v = T old new i j) : Done old new a (b + 1) ls' := by
  refine ⟨p.1, fun i' j' h1 h2 h3 => ?_⟩
  rw [p.2]
  by_cases e : i' = i ∧ j' = j
  · rw [if_pos e, hv, e.1, e.2]
  · rw [if_neg e]
    exact h.2 i' j' h1 h2 (by omega)
theorem table_eq {old new : List Str} (ho : old.length ≤ 1000) (hn : new.length ≤ 1000) : ∃ ls, g_law_table [eOld old, eOld new] = ok (true, eLab ls) ∧ Rect old new ls ∧ ∀ i j : Nat, i ≤ old.length → j ≤ new.length → lab ls i j = T old new i j := by
  refine ok_ex (f := fun ls => eLab ls) (Q := fun ls => Rect old new ls ∧ ∀ i j : Nat, i ≤ old.length → j ≤ new.length → lab ls i j = T old new i j) (S_law_table ?_)
  have z1 : rgOk (old.length : Int) := rg_of (by omega) (by omega)
  have z2 : rgOk ((old.length : Int) + 1) := rg_of (by omega) (by omega)
  have z3 : rgOk ((new.length : Int) + 1) := rg_of (by omega) (by omega)
  have z4 : ((old.length : Int) + 1).toNat ≤ sizeLine := szl (by omega)
  have z5 : ((new.length : Int) + 1).toNat ≤ sizeLine := szl (by omega)
  simp -implicitDefEqProofs -dsimp only [fb_law_table, sSeq_ap, sFrz_ap, sNext_ap, sBreak_ap, sCont_ap, sDrop_ap, sRet_ap, sRetN_ap, sRet0_ap, sRetO_ap, owOf_ow, owOf_o2, sIf_ap, sAsg_ap, sSetN_ap, owL_ap, sApp_ap, sPut_ap, sAug_ap, sFor_ap, sSetN2_ap, bind_ok, bind_no, bind_ex, calm_ok, calm_no, calm_ex, toS_ok, toS_no, toS_ex, seq_nx, seq_rt, seq_bk, seq_ct, seq_no, seq_ex, bind_guard, bind_ite, calm_ite, toS_ite, seq_ite, sseq_assoc, obind_assoc, S_ok, S_no, S_guard, S_ite, SS_nx, SS_bk, SS_ct, SS_rt, SS_no, SS_guard, SS_ite, ite_F, ret_b, bl_b, fV_0, fV_s, fS_0, fS_s, evB_sh, evB_ow, evS_sh, slot_0, slot_s, getD_0, getD_s, frz_ap, frzE_sh, frzE_ow, frzE_o2, frzE_un, fC_ap, f1_ap, f2_ap, fX_ap, fXT_ap, fSl_ap, fSlL_ap, fNoPart_ap, fPart_ap, fB_ap, tAnd_ap, tOr_ap, tNot_ap, tYes_ap, fTru_ap, fAndV_ap, fOrV_ap, fNotV_ap, fIf_ap, fChain_ap, aNil_ap, aCons_ap, fTup_ap, fLst_ap, fCall_ap, fCallN_ap, fCallB_ap, iList_ap, iTup_ap, iRange1_ap, iRange2_ap, gSet_ap, gTup_ap, gsNil_ap, gsCons_ap, fLc_ap, wipe_nil, wipe_cons, ofO_ite, oIx_map, oIx_tmap, oIx_ro, oIx_t0, oIx_t1, oIx_t2, oIx_t3, oAdd_int, oAdd_lst, oAdd_str, oAdd_tup, oCat_ap, oRep_ap, oSub_int, oMul_int, oFdiv_int, oMod_int, oPow_int, oNeg_int, oEq_int, oNe_int, oEq_str, oNe_str, oEq_bool, oNe_bool, oLt_int, oLe_int, oGt_int, oGe_int, asInt_ap, asBool_ap, oLen_map, oLen_tup, oLen_ro, oAll_map, oAny_map, oSum_map, oInt_int, oInt_bool, oAbs_int, oMax2_int, oMin2_int, oList_lst, oList_tup, oRev_map, oSl_map, oSlL_map, oIsi_bool, oIsN_none, oIsN_int, truD_bool, truD_int, truD_map, itList_ap, itList_ro, itTup_ap, oRange1_int, oRange2_int, onlyFlat_int, onlyFlat_str, onlyFlat_bool, newD_ap, oIAdd_int, o2L_ap, sAl_ap, alL_ap, asLst_ap, sAlApp_ap, sAlPut_ap, s2App_ap, s2AppAt_ap, killE_un, killE_sh, killE_ow, killE_o2, killE_al, view_ap, viewE_un, viewE_sh, viewE_ow, viewE_o2, viewE_al, viewA_map, ofO_get, ixN_nat, List.map_cons, List.map_nil, mapO_all, mapO_guard, lcAll_map, filO_if, List.set_cons_zero, List.set_cons_succ, decide_eq_true_eq, Bool.not_eq_true', decide_eq_false_iff_not, if_true, if_false, ite_true, ite_false, Bool.false_eq_true, List.length_cons, List.length_nil, List.length_range, and_self, Int.toNat_natCast, z1, z2, z3, z4, z5]
  have e0 : (List.map (fun a => PyData.list (List.map (fun a => PyData.int 0) (List.range ((new.length : Int) + 1).toNat))) (List.range ((old.length : Int) + 1).toNat)) = ((List.range (old.length + 1)).map fun _ => (List.range (new.length + 1)).map fun _ => (0 : Int)).map eRow := by
    have a1 : ((old.length : Int) + 1).toNat = old.length + 1 := by omega
    have a2 : ((new.length : Int) + 1).toNat = new.length + 1 := by omega
    rw [a1, a2, List.map_map]
    congr 1
    funext a
    show _ = PyData.list (((List.range (new.length + 1)).map fun _ => (0 : Int)).map .int)
    rw [List.map_map]
    rfl
  rw [e0]
  clear z2 z3 z4 z5
  refine SS_seq' (fun ρ => ∃ ls x3 x4 x5 x6 x7, ρ = [.sh (eOld old), .sh (eOld new), .o2 (eLab ls), x3, x4, x5, x6, x7] ∧ Done old new old.length 0 ls) ?_ ?_
  · obtain ⟨J, hJ⟩ : ∃ J : Nat → Rho → Prop, ∀ k ρ, J k ρ ↔ ∃ ls x3 x4 x5 x6 x7, ρ = [.sh (eOld old), .sh (eOld new), .o2 (eLab ls), x3, x4, x5, x6, x7] ∧ Done old new k 0 ls := ⟨_, fun _ _ => Iff.rfl⟩
    refine SS_forR J ((hJ _ _).mpr ⟨_, _, _, _, _, _, rfl, ⟨?_, ?_⟩, ?_⟩) ?_ ?_
    · rw [List.length_map, List.length_range]
    · intro r hr
      obtain ⟨_, _, rfl⟩ := List.mem_map.mp hr
      rw [List.length_map, List.length_range]
    · intro i j hi hj h
      have : T old new i j = 0 := by
        rcases h with h | h | h
        · have : i = old.length := by omega
          rw [this]; exact T_end
        · have : j = new.length := by omega
          rw [this]; exact T_end'
        · rw [h]; exact T_end'
      rw [this]
      unfold lab
      rw [nth_tab (by omega), nth_tab (by omega)]
    · intro a ρ ha hr
      obtain ⟨ls, x3, x4, x5, x6, x7, rfl, hd⟩ := (hJ _ _).mp hr
      obtain ⟨i, hi⟩ : ∃ i : Nat, i + a + 1 = old.length := ⟨old.length - a - 1, by omega⟩
      have ei : (old.length : Int) - 1 - a = i := by omega
      have hl := hd.1.1
      have z1 : i < ls.length := by omega
      have z2 : ¬ (6 : Nat) = 2 := by omega
      have z3 : rgOk (new.length : Int) := rg_of (by omega) (by omega)
      simp -implicitDefEqProofs -dsimp only [sSeq_ap, sFrz_ap, sNext_ap, sBreak_ap, sCont_ap, sDrop_ap, sRet_ap, sRetN_ap, sRet0_ap, sRetO_ap, owOf_ow, owOf_o2, sIf_ap, sAsg_ap, sSetN_ap, owL_ap, sApp_ap, sPut_ap, sAug_ap, sFor_ap, sSetN2_ap, bind_ok, bind_no, bind_ex, calm_ok, calm_no, calm_ex, toS_ok, toS_no, toS_ex, seq_nx, seq_rt, seq_bk, seq_ct, seq_no, seq_ex, bind_guard, bind_ite, calm_ite, toS_ite, seq_ite, sseq_assoc, obind_assoc, S_ok, S_no, S_guard, S_ite, SS_nx, SS_bk, SS_ct, SS_rt, SS_no, SS_guard, SS_ite, ite_F, ret_b, bl_b, fV_0, fV_s, fS_0, fS_s, evB_sh, evB_ow, evS_sh, slot_0, slot_s, getD_0, getD_s, frz_ap, frzE_sh, frzE_ow, frzE_o2, frzE_un, fC_ap, f1_ap, f2_ap, fX_ap, fXT_ap, fSl_ap, fSlL_ap, fNoPart_ap, fPart_ap, fB_ap, tAnd_ap, tOr_ap, tNot_ap, tYes_ap, fTru_ap, fAndV_ap, fOrV_ap, fNotV_ap, fIf_ap, fChain_ap, aNil_ap, aCons_ap, fTup_ap, fLst_ap, fCall_ap, fCallN_ap, fCallB_ap, iList_ap, iTup_ap, iRange1_ap, iRange2_ap, gSet_ap, gTup_ap, gsNil_ap, gsCons_ap, fLc_ap, wipe_nil, wipe_cons, ofO_ite, oIx_map, oIx_tmap, oIx_ro, oIx_t0, oIx_t1, oIx_t2, oIx_t3, oAdd_int, oAdd_lst, oAdd_str, oAdd_tup, oCat_ap, oRep_ap, oSub_int, oMul_int, oFdiv_int, oMod_int, oPow_int, oNeg_int, oEq_int, oNe_int, oEq_str, oNe_str, oEq_bool, oNe_bool, oLt_int, oLe_int, oGt_int, oGe_int, asInt_ap, asBool_ap, oLen_map, oLen_tup, oLen_ro, oAll_map, oAny_map, oSum_map, oInt_int, oInt_bool, oAbs_int, oMax2_int, oMin2_int, oList_lst, oList_tup, oRev_map, oSl_map, oSlL_map, oIsi_bool, oIsN_none, oIsN_int, truD_bool, truD_int, truD_map, itList_ap, itList_ro, itTup_ap, oRange1_int, oRange2_int, onlyFlat_int, onlyFlat_str, onlyFlat_bool, newD_ap, oIAdd_int, o2L_ap, sAl_ap, alL_ap, asLst_ap, sAlApp_ap, sAlPut_ap, s2App_ap, s2AppAt_ap, killE_un, killE_sh, killE_ow, killE_o2, killE_al, view_ap, viewE_un, viewE_sh, viewE_ow, viewE_o2, viewE_al, viewA_map, ofO_get, ixN_nat, List.map_cons, List.map_nil, mapO_all, mapO_guard, lcAll_map, filO_if, List.set_cons_zero, List.set_cons_succ, decide_eq_true_eq, Bool.not_eq_true', decide_eq_false_iff_not, if_true, if_false, ite_true, ite_false, Bool.false_eq_true, List.length_cons, List.length_nil, List.length_range, and_self, Int.toNat_natCast, ei, z1, z2, z3, List.length_map, true_and]
      obtain ⟨J2, hJ2⟩ : ∃ J : Nat → Rho → Prop, ∀ k ρ, J k ρ ↔ ∃ ls x3 x7, ρ = [.sh (eOld old), .sh (eOld new), .o2 (eLab ls), x3, .sh (.int i), .sh (.int a), .al 2 i, x7] ∧ Done old new a k ls := ⟨_, fun _ _ => Iff.rfl⟩
      refine SS_forR J2 ((hJ2 _ _).mpr ⟨_, _, _, rfl, hd⟩) ?_ ?_
      · intro b ρ hb hr
        obtain ⟨ls, x3, x7, rfl, hd⟩ := (hJ2 _ _).mp hr
        obtain ⟨j, hj⟩ : ∃ j : Nat, j + b + 1 = new.length := ⟨new.length - b - 1, by omega⟩
        have ej : (new.length : Int) - 1 - b = j := by omega
        have hl := hd.1.1
        have z1 : i < ls.length := by omega
        have hr1 : (nth ls i).length = new.length + 1 := hd.1.2 _ (nth_mem (by omega) (by omega))
        have hr2 : (nth ls ((i : Int) + 1)).length = new.length + 1 := hd.1.2 _ (nth_mem (by omega) (by omega))
        have b1 : -(ls.length : Int) ≤ (i : Int) + 1 ∧ (i : Int) + 1 < ls.length := by omega
        have b2 : -(((nth ls ((i : Int) + 1)).length : Nat) : Int) ≤ (j : Int) ∧ (j : Int) < ((nth ls ((i : Int) + 1)).length : Nat) := by omega
        simp -implicitDefEqProofs -dsimp only [sSeq_ap, sFrz_ap, sNext_ap, sBreak_ap, sCont_ap, sDrop_ap, sRet_ap, sRetN_ap, sRet0_ap, sRetO_ap, owOf_ow, owOf_o2, sIf_ap, sAsg_ap, sSetN_ap, owL_ap, sApp_ap, sPut_ap, sAug_ap, sFor_ap, sSetN2_ap, bind_ok, bind_no, bind_ex, calm_ok, calm_no, calm_ex, toS_ok, toS_no, toS_ex, seq_nx, seq_rt, seq_bk, seq_ct, seq_no, seq_ex, bind_guard, bind_ite, calm_ite, toS_ite, seq_ite, sseq_assoc, obind_assoc, S_ok, S_no, S_guard, S_ite, SS_nx, SS_bk, SS_ct, SS_rt, SS_no, SS_guard, SS_ite, ite_F, ret_b, bl_b, fV_0, fV_s, fS_0, fS_s, evB_sh, evB_ow, evS_sh, slot_0, slot_s, getD_0, getD_s, frz_ap, frzE_sh, frzE_ow, frzE_o2, frzE_un, fC_ap, f1_ap, f2_ap, fX_ap, fXT_ap, fSl_ap, fSlL_ap, fNoPart_ap, fPart_ap, fB_ap, tAnd_ap, tOr_ap, tNot_ap, tYes_ap, fTru_ap, fAndV_ap, fOrV_ap, fNotV_ap, fIf_ap, fChain_ap, aNil_ap, aCons_ap, fTup_ap, fLst_ap, fCall_ap, fCallN_ap, fCallB_ap, iList_ap, iTup_ap, iRange1_ap, iRange2_ap, gSet_ap, gTup_ap, gsNil_ap, gsCons_ap, fLc_ap, wipe_nil, wipe_cons, ofO_ite, oIx_map, oIx_tmap, oIx_ro, oIx_t0, oIx_t1, oIx_t2, oIx_t3, oAdd_int, oAdd_lst, oAdd_str, oAdd_tup, oCat_ap, oRep_ap, oSub_int, oMul_int, oFdiv_int, oMod_int, oPow_int, oNeg_int, oEq_int, oNe_int, oEq_str, oNe_str, oEq_bool, oNe_bool, oLt_int, oLe_int, oGt_int, oGe_int, asInt_ap, asBool_ap, oLen_map, oLen_tup, oLen_ro, oAll_map, oAny_map, oSum_map, oInt_int, oInt_bool, oAbs_int, oMax2_int, oMin2_int, oList_lst, oList_tup, oRev_map, oSl_map, oSlL_map, oIsi_bool, oIsN_none, oIsN_int, truD_bool, truD_int, truD_map, itList_ap, itList_ro, itTup_ap, oRange1_int, oRange2_int, onlyFlat_int, onlyFlat_str, onlyFlat_bool, newD_ap, oIAdd_int, o2L_ap, sAl_ap, alL_ap, asLst_ap, sAlApp_ap, sAlPut_ap, s2App_ap, s2AppAt_ap, killE_un, killE_sh, killE_ow, killE_o2, killE_al, view_ap, viewE_un, viewE_sh, viewE_ow, viewE_o2, viewE_al, viewA_map, ofO_get, ixN_nat, List.map_cons, List.map_nil, mapO_all, mapO_guard, lcAll_map, filO_if, List.set_cons_zero, List.set_cons_succ, decide_eq_true_eq, Bool.not_eq_true', decide_eq_false_iff_not, if_true, if_false, ite_true, ite_false, Bool.false_eq_true, List.length_cons, List.length_nil, List.length_range, and_self, Int.toNat_natCast, ej, z1, eRow, b1, b2, List.length_map]
        have F : ∀ ls', Done old new a (b + 1) ls' → J2 (b + 1) [.sh (eOld old), .sh (eOld new), .o2 (.list (ls'.map eRow)), .sh (.int j), .sh (.int i), .sh (.int a), .al 2 i, .sh (.int b)] := fun ls' h => (hJ2 _ _).mpr ⟨ls', _, _, rfl, h⟩
        have v1 : nth (nth ls ((i : Int) + 1)) j = T old new (i + 1) j := hd.2 (i + 1) j (by omega) (by omega) (by omega)
        have v2 : nth (nth ls i) ((j : Int) + 1) = T old new i (j + 1) := hd.2 i (j + 1) (by omega) (by omega) (by omega)
        rw [v1, v2]
        refine ⟨by omega, by omega, by omega, by omega, ?_⟩
        have tq := T_eq (old := old) (new := new) (i := i) (j := j) (by omega) (by omega)
        have P1 := put_of (ls := ls) (i := i) (j := j) (v := max (T old new (i + 1) j) (T old new i (j + 1))) hd.1 (by omega) (by omega)
        split
        · rename_i he
          rw [if_pos he] at tq
          simp only [set_eq]
          generalize ls.set i ((nth ls i).set j (max (T old new (i + 1) j) (T old new i (j + 1)))) = ls' at *
          have hl' := P1.1.1
          have z1 : i < ls'.length := by omega
          have hr1 : (nth ls' i).length = new.length + 1 := P1.1.2 _ (nth_mem (by omega) (by omega))
          have hr2 : (nth ls' ((i : Int) + 1)).length = new.length + 1 := P1.1.2 _ (nth_mem (by omega) (by omega))
          have b1 : -(ls'.length : Int) ≤ (i : Int) + 1 ∧ (i : Int) + 1 < ls'.length := by omega
          have b2 : -(((nth ls' ((i : Int) + 1)).length : Nat) : Int) ≤ (j : Int) + 1 ∧ (j : Int) + 1 < ((nth ls' ((i : Int) + 1)).length : Nat) := by omega
          have b3 : j < (nth ls' i).length := by omega
          have v3 : nth (nth ls' ((i : Int) + 1)) ((j : Int) + 1) = T old new (i + 1) (j + 1) := by
            have := P1.2 (i + 1) (j + 1)
            rw [if_neg (by omega)] at this
            exact this.trans (hd.2 (i + 1) (j + 1) (by omega) (by omega) (by omega))
          simp -implicitDefEqProofs -dsimp only [sSeq_ap, sFrz_ap, sNext_ap, sBreak_ap, sCont_ap, sDrop_ap, sRet_ap, sRetN_ap, sRet0_ap, sRetO_ap, owOf_ow, owOf_o2, sIf_ap, sAsg_ap, sSetN_ap, owL_ap, sApp_ap, sPut_ap, sAug_ap, sFor_ap, sSetN2_ap, bind_ok, bind_no, bind_ex, calm_ok, calm_no, calm_ex, toS_ok, toS_no, toS_ex, seq_nx, seq_rt, seq_bk, seq_ct, seq_no, seq_ex, bind_guard, bind_ite, calm_ite, toS_ite, seq_ite, sseq_assoc, obind_assoc, S_ok, S_no, S_guard, S_ite, SS_nx, SS_bk, SS_ct, SS_rt, SS_no, SS_guard, SS_ite, ite_F, ret_b, bl_b, fV_0, fV_s, fS_0, fS_s, evB_sh, evB_ow, evS_sh, slot_0, slot_s, getD_0, getD_s, frz_ap, frzE_sh, frzE_ow, frzE_o2, frzE_un, fC_ap, f1_ap, f2_ap, fX_ap, fXT_ap, fSl_ap, fSlL_ap, fNoPart_ap, fPart_ap, fB_ap, tAnd_ap, tOr_ap, tNot_ap, tYes_ap, fTru_ap, fAndV_ap, fOrV_ap, fNotV_ap, fIf_ap, fChain_ap, aNil_ap, aCons_ap, fTup_ap, fLst_ap, fCall_ap, fCallN_ap, fCallB_ap, iList_ap, iTup_ap, iRange1_ap, iRange2_ap, gSet_ap, gTup_ap, gsNil_ap, gsCons_ap, fLc_ap, wipe_nil, wipe_cons, ofO_ite, oIx_map, oIx_tmap, oIx_ro, oIx_t0, oIx_t1, oIx_t2, oIx_t3, oAdd_int, oAdd_lst, oAdd_str, oAdd_tup, oCat_ap, oRep_ap, oSub_int, oMul_int, oFdiv_int, oMod_int, oPow_int, oNeg_int, oEq_int, oNe_int, oEq_str, oNe_str, oEq_bool, oNe_bool, oLt_int, oLe_int, oGt_int, oGe_int, asInt_ap, asBool_ap, oLen_map, oLen_tup, oLen_ro, oAll_map, oAny_map, oSum_map, oInt_int, oInt_bool, oAbs_int, oMax2_int, oMin2_int, oList_lst, oList_tup, oRev_map, oSl_map, oSlL_map, oIsi_bool, oIsN_none, oIsN_int, truD_bool, truD_int, truD_map, itList_ap, itList_ro, itTup_ap, oRange1_int, oRange2_int, onlyFlat_int, onlyFlat_str, onlyFlat_bool, newD_ap, oIAdd_int, o2L_ap, sAl_ap, alL_ap, asLst_ap, sAlApp_ap, sAlPut_ap, s2App_ap, s2AppAt_ap, killE_un, killE_sh, killE_ow, killE_o2, killE_al, view_ap, viewE_un, viewE_sh, viewE_ow, viewE_o2, viewE_al, viewA_map, ofO_get, ixN_nat, List.map_cons, List.map_nil, mapO_all, mapO_guard, lcAll_map, filO_if, List.set_cons_zero, List.set_cons_succ, decide_eq_true_eq, Bool.not_eq_true', decide_eq_false_iff_not, if_true, if_false, ite_true, ite_false, Bool.false_eq_true, List.length_cons, List.length_nil, List.length_range, and_self, Int.toNat_natCast, z1, eRow, b1, b2, b3, List.length_map, v3, set_eq]
          have P2 := put_of (ls := ls') (i := i) (j := j) (v := 1 + T old new (i + 1) (j + 1)) P1.1 (by omega) (by omega)
          refine F _ (hd.put (i := i) (j := j) (v := 1 + T old new (i + 1) (j + 1)) ⟨P2.1, fun i' j' => ?_⟩ hi hj tq.symm)
          rw [P2.2, P1.2]
          split <;> rfl
        · rename_i he
          rw [if_neg he] at tq
          simp -implicitDefEqProofs -dsimp only [sSeq_ap, sFrz_ap, sNext_ap, sBreak_ap, sCont_ap, sDrop_ap, sRet_ap, sRetN_ap, sRet0_ap, sRetO_ap, owOf_ow, owOf_o2, sIf_ap, sAsg_ap, sSetN_ap, owL_ap, sApp_ap, sPut_ap, sAug_ap, sFor_ap, sSetN2_ap, bind_ok, bind_no, bind_ex, calm_ok, calm_no, calm_ex, toS_ok, toS_no, toS_ex, seq_nx, seq_rt, seq_bk, seq_ct, seq_no, seq_ex, bind_guard, bind_ite, calm_ite, toS_ite, seq_ite, sseq_assoc, obind_assoc, S_ok, S_no, S_guard, S_ite, SS_nx, SS_bk, SS_ct, SS_rt, SS_no, SS_guard, SS_ite, ite_F, ret_b, bl_b, fV_0, fV_s, fS_0, fS_s, evB_sh, evB_ow, evS_sh, slot_0, slot_s, getD_0, getD_s, frz_ap, frzE_sh, frzE_ow, frzE_o2, frzE_un, fC_ap, f1_ap, f2_ap, fX_ap, fXT_ap, fSl_ap, fSlL_ap, fNoPart_ap, fPart_ap, fB_ap, tAnd_ap, tOr_ap, tNot_ap, tYes_ap, fTru_ap, fAndV_ap, fOrV_ap, fNotV_ap, fIf_ap, fChain_ap, aNil_ap, aCons_ap, fTup_ap, fLst_ap, fCall_ap, fCallN_ap, fCallB_ap, iList_ap, iTup_ap, iRange1_ap, iRange2_ap, gSet_ap, gTup_ap, gsNil_ap, gsCons_ap, fLc_ap, wipe_nil, wipe_cons, ofO_ite, oIx_map, oIx_tmap, oIx_ro, oIx_t0, oIx_t1, oIx_t2, oIx_t3, oAdd_int, oAdd_lst, oAdd_str, oAdd_tup, oCat_ap, oRep_ap, oSub_int, oMul_int, oFdiv_int, oMod_int, oPow_int, oNeg_int, oEq_int, oNe_int, oEq_str, oNe_str, oEq_bool, oNe_bool, oLt_int, oLe_int, oGt_int, oGe_int, asInt_ap, asBool_ap, oLen_map, oLen_tup, oLen_ro, oAll_map, oAny_map, oSum_map, oInt_int, oInt_bool, oAbs_int, oMax2_int, oMin2_int, oList_lst, oList_tup, oRev_map, oSl_map, oSlL_map, oIsi_bool, oIsN_none, oIsN_int, truD_bool, truD_int, truD_map, itList_ap, itList_ro, itTup_ap, oRange1_int, oRange2_int, onlyFlat_int, onlyFlat_str, onlyFlat_bool, newD_ap, oIAdd_int, o2L_ap, sAl_ap, alL_ap, asLst_ap, sAlApp_ap, sAlPut_ap, s2App_ap, s2AppAt_ap, killE_un, killE_sh, killE_ow, killE_o2, killE_al, view_ap, viewE_un, viewE_sh, viewE_ow, viewE_o2, viewE_al, viewA_map, ofO_get, ixN_nat, List.map_cons, List.map_nil, mapO_all, mapO_guard, lcAll_map, filO_if, List.set_cons_zero, List.set_cons_succ, decide_eq_true_eq, Bool.not_eq_true', decide_eq_false_iff_not, if_true, if_false, ite_true, ite_false, Bool.false_eq_true, List.length_cons, List.length_nil, List.length_range, and_self, Int.toNat_natCast, set_eq]
          exact F _ (hd.put P1 hi hj tq.symm)
      · intro ρ hr
        obtain ⟨ls, x3, x7, rfl, hd⟩ := (hJ2 _ _).mp hr
        refine (hJ _ _).mpr ⟨_, _, _, _, _, _, rfl, hd.1, fun i' j' h1 h2 h3 => hd.2 i' j' h1 h2 ?_⟩
        omega
    · intro ρ hr
      obtain ⟨ls, x3, x4, x5, x6, x7, rfl, hd⟩ := (hJ _ _).mp hr
      exact ⟨_, _, _, _, _, _, rfl, hd⟩
  · rintro ρ ⟨ls, x3, x4, x5, x6, x7, rfl, hd⟩
    simp -implicitDefEqProofs -dsimp only [sSeq_ap, sFrz_ap, sNext_ap, sBreak_ap, sCont_ap, sDrop_ap, sRet_ap, sRetN_ap, sRet0_ap, sRetO_ap, owOf_ow, owOf_o2, sIf_ap, sAsg_ap, sSetN_ap, owL_ap, sApp_ap, sPut_ap, sAug_ap, sFor_ap, sSetN2_ap, bind_ok, bind_no, bind_ex, calm_ok, calm_no, calm_ex, toS_ok, toS_no, toS_ex, seq_nx, seq_rt, seq_bk, seq_ct, seq_no, seq_ex, bind_guard, bind_ite, calm_ite, toS_ite, seq_ite, sseq_assoc, obind_assoc, S_ok, S_no, S_guard, S_ite, SS_nx, SS_bk, SS_ct, SS_rt, SS_no, SS_guard, SS_ite, ite_F, ret_b, bl_b, fV_0, fV_s, fS_0, fS_s, evB_sh, evB_ow, evS_sh, slot_0, slot_s, getD_0, getD_s, frz_ap, frzE_sh, frzE_ow, frzE_o2, frzE_un, fC_ap, f1_ap, f2_ap, fX_ap, fXT_ap, fSl_ap, fSlL_ap, fNoPart_ap, fPart_ap, fB_ap, tAnd_ap, tOr_ap, tNot_ap, tYes_ap, fTru_ap, fAndV_ap, fOrV_ap, fNotV_ap, fIf_ap, fChain_ap, aNil_ap, aCons_ap, fTup_ap, fLst_ap, fCall_ap, fCallN_ap, fCallB_ap, iList_ap, iTup_ap, iRange1_ap, iRange2_ap, gSet_ap, gTup_ap, gsNil_ap, gsCons_ap, fLc_ap, wipe_nil, wipe_cons, ofO_ite, oIx_map, oIx_tmap, oIx_ro, oIx_t0, oIx_t1, oIx_t2, oIx_t3, oAdd_int, oAdd_lst, oAdd_str, oAdd_tup, oCat_ap, oRep_ap, oSub_int, oMul_int, oFdiv_int, oMod_int, oPow_int, oNeg_int, oEq_int, oNe_int, oEq_str, oNe_str, oEq_bool, oNe_bool, oLt_int, oLe_int, oGt_int, oGe_int, asInt_ap, asBool_ap, oLen_map, oLen_tup, oLen_ro, oAll_map, oAny_map, oSum_map, oInt_int, oInt_bool, oAbs_int, oMax2_int, oMin2_int, oList_lst, oList_tup, oRev_map, oSl_map, oSlL_map, oIsi_bool, oIsN_none, oIsN_int, truD_bool, truD_int, truD_map, itList_ap, itList_ro, itTup_ap, oRange1_int, oRange2_int, onlyFlat_int, onlyFlat_str, onlyFlat_bool, newD_ap, oIAdd_int, o2L_ap, sAl_ap, alL_ap, asLst_ap, sAlApp_ap, sAlPut_ap, s2App_ap, s2AppAt_ap, killE_un, killE_sh, killE_ow, killE_o2, killE_al, view_ap, viewE_un, viewE_sh, viewE_ow, viewE_o2, viewE_al, viewA_map, ofO_get, ixN_nat, List.map_cons, List.map_nil, mapO_all, mapO_guard, lcAll_map, filO_if, List.set_cons_zero, List.set_cons_succ, decide_eq_true_eq, Bool.not_eq_true', decide_eq_false_iff_not, if_true, if_false, ite_true, ite_false, Bool.false_eq_true, List.length_cons, List.length_nil, List.length_range, and_self, Int.toNat_natCast]
    exact ⟨ls, rfl, hd.1, fun i j h1 h2 => hd.2 i j h1 h2 (by omega)⟩
end K81

set_option maxRecDepth 100000
set_option maxHeartbeats 4000000
namespace K81
open PySem Dl Out
theorem lcs_ge : ∀ (a b s : List Str), s.Sublist a → s.Sublist b → s.length ≤ lcs a b := by
  intro a b
  induction a, b using lcs.induct with
  | case1 b =>
    intro s h1 h2
    rw [List.sublist_nil.mp h1]
    exact Nat.zero_le _
  | case2 x a =>
    intro s h1 h2
    rw [List.sublist_nil.mp h2]
    exact Nat.zero_le _
  | case3 a x b ih =>
    intro s h1 h2
    rw [lcs, if_pos rfl]
    have := ih s.tail h1.tail h2.tail
    rw [List.length_tail] at this
    omega
  | case4 x a y b hxy ih1 ih2 =>
    intro s h1 h2
    rw [lcs, if_neg hxy]
    rcases List.sublist_cons_iff.mp h1 with h | ⟨r, rfl, h⟩
    · have := ih1 s h h2
      omega
    · rcases List.sublist_cons_iff.mp h2 with h' | ⟨r', e, h'⟩
      · have := ih2 _ h1 h'
        omega
      · cases e
        exact absurd rfl hxy
theorem lcs_att : ∀ (a b : List Str), ∃ s : List Str, s.Sublist a ∧ s.Sublist b ∧ s.length = lcs a b := by
  intro a b
  induction a, b using lcs.induct with
  | case1 b => exact ⟨[], List.nil_sublist _, List.nil_sublist _, by rw [lcs]; rfl⟩
  | case2 x a => exact ⟨[], List.nil_sublist _, List.nil_sublist _, by rw [lcs]; rfl⟩
  | case3 a x b ih =>
    obtain ⟨s, h1, h2, h3⟩ := ih
    exact ⟨x :: s, h1.cons_cons x, h2.cons_cons x, by rw [lcs, if_pos rfl, List.length_cons, h3]; omega⟩
  | case4 x a y b hxy ih1 ih2 =>
    obtain ⟨s, h1, h2, h3⟩ := ih1
    obtain ⟨t, k1, k2, k3⟩ := ih2
    rw [lcs, if_neg hxy]
    by_cases h : lcs a (y :: b) ≤ lcs (x :: a) b
    · exact ⟨t, k1, k2.cons y, by omega⟩
    · exact ⟨s, h1.cons x, h2, by omega⟩
theorem lcs_rev (a b : List Str) : lcs a.reverse b.reverse = lcs a b := by
  obtain ⟨s, h1, h2, h3⟩ := lcs_att a b
  obtain ⟨t, k1, k2, k3⟩ := lcs_att a.reverse b.reverse
  have m1 := lcs_ge a.reverse b.reverse s.reverse h1.reverse h2.reverse
  have m2 := lcs_ge a b t.reverse (by have := k1.reverse; rwa [List.reverse_reverse] at this) (by have := k2.reverse; rwa [List.reverse_reverse] at this)
  rw [List.length_reverse] at m1 m2
  omega
theorem lcs_mono {a a' b b' : List Str} (h : a.Sublist a') (h' : b.Sublist b') : lcs a b ≤ lcs a' b' := by
  obtain ⟨s, h1, h2, h3⟩ := lcs_att a b
  have := lcs_ge a' b' s (h1.trans h) (h2.trans h')
  omega
theorem lcs_le (a b : List Str) : lcs a b ≤ a.length := by
  obtain ⟨s, h1, h2, h3⟩ := lcs_att a b
  have := h1.length_le
  omega
/-- of the first i and the first j -/
def R (old new : List Str) (i j : Nat) : Int := lcs (old.take i).reverse (new.take j).reverse
theorem T_rev {old new : List Str} {i j : Nat} (hi : i ≤ old.length) (hj : j ≤ new.length) : T old.reverse new.reverse (old.length - i) (new.length - j) = R old new i j := by
  unfold T R
  rw [List.drop_reverse, List.drop_reverse]
  have e1 : old.length - (old.length - i) = i := by omega
  have e2 : new.length - (new.length - j) = j := by omega
  rw [e1, e2]
theorem R_all {old new : List Str} : R old new old.length new.length = T old new 0 0 := by
  unfold T R
  rw [List.take_length, List.take_length, lcs_rev]
  rfl
theorem R_zero {old new : List Str} {i j : Nat} (h : i = 0 ∨ j = 0) : R old new i j = 0 := by
  unfold R
  rcases h with h | h
  · rw [h]; simp [lcs]
  · rw [h]; simp [lcs_nil]
theorem take_rev {l : List Str} {i : Nat} (h : i < l.length) : (l.take (i + 1)).reverse = nth l i :: (l.take i).reverse := by
  rw [nth_get h, List.take_succ_eq_append_getElem h, List.reverse_append]
  rfl
theorem R_eq {old new : List Str} {i j : Nat} (hi : i < old.length) (hj : j < new.length) : R old new (i + 1) (j + 1) = if nth old i = nth new j then 1 + R old new i j else max (R old new i (j + 1)) (R old new (i + 1) j) := by
  unfold R
  rw [take_rev hi, take_rev hj]
  rw [lcs]
  split
  · simp
  · rw [← take_rev hi, ← take_rev hj]
    omega
theorem nth_cons {α : Type} [Inhabited α] {a : α} {l : List α} {k : Nat} : nth (a :: l) ((k + 1 : Nat) : Int) = nth l k := by
  rw [nth_nat, nth_nat]
  rfl
theorem nth_zero {α : Type} [Inhabited α] {a : α} {l : List α} : nth (a :: l) ((0 : Nat) : Int) = a := by
  rw [nth_nat]
  rfl
/-- common pairs at i, j and behind -/
def Beyond (old new : List Str) (i j : Nat) (l : List (Int × Int)) : Prop := CommonRow old new l ∧ ∀ p ∈ l, (i : Int) ≤ p.1 ∧ (j : Int) ≤ p.2
theorem Beyond.less {old new : List Str} {i j i' j' : Nat} {l : List (Int × Int)} (h : Beyond old new i j l) (hi : i' ≤ i) (hj : j' ≤ j) : Beyond old new i' j' l := ⟨h.1, fun p hp => by
  have := h.2 p hp
  omega⟩
theorem Beyond.cons {old new : List Str} {i j : Nat} {l : List (Int × Int)} (h : Beyond old new (i + 1) (j + 1) l) (hi : i < old.length) (hj : j < new.length) (e : nth old i = nth new j) : Beyond old new i j (((i : Int), (j : Int)) :: l) := by
  refine ⟨⟨fun p hp => ?_, fun k hk => ?_⟩, fun p hp => ?_⟩
  · rcases List.mem_cons.mp hp with rfl | hp
    · exact ⟨by show (0 : Int) ≤ i; omega, by show (i : Int) < _; omega, by show (0 : Int) ≤ j; omega, by show (j : Int) < _; omega, e⟩
    · exact h.1.1 p hp
  · cases k with
    | zero =>
      rw [List.length_cons] at hk
      have := h.2 (nth l ((0 : Nat) : Int)) (nth_mem (by omega) (by omega))
      have e : ((0 : Nat) : Int) + 1 = ((0 + 1 : Nat) : Int) := rfl
      unfold Up
      rw [e, nth_cons, nth_zero]
      show (i : Int) < _ ∧ (j : Int) < _
      omega
    | succ k =>
      rw [List.length_cons] at hk
      have := h.1.2 k (by omega)
      unfold Up at this ⊢
      have e : ((k + 1 : Nat) : Int) + 1 = ((k + 1 + 1 : Nat) : Int) := by omega
      have e2 : (k : Int) + 1 = ((k + 1 : Nat) : Int) := by omega
      rw [e, nth_cons, nth_cons, ← e2]
      exact this
  · rcases List.mem_cons.mp hp with rfl | hp
    · exact ⟨Int.le_refl _, Int.le_refl _⟩
    · have := h.2 p hp
      omega
theorem from_end_eq {old new : List Str} (ho : old.length ≤ 1000) (hn : new.length ≤ 1000) : ∃ l, g_law_from_end [eOld old, eOld new] = ok (false, ePrs l) ∧ CommonRow old new l ∧ (l.length : Int) = T old new 0 0 := by
  refine ok_ex (f := fun l => ePrs l) (Q := fun l => CommonRow old new l ∧ (l.length : Int) = T old new 0 0) (S_law_from_end ?_)
  obtain ⟨tb, ht, hr, hT⟩ := table_eq (old := old.reverse) (new := new.reverse) (by rw [List.length_reverse]; exact ho) (by rw [List.length_reverse]; exact hn)
  have z0 : (0 : Nat) ≤ sizeLine := Nat.zero_le _
  have z1 : rgOk ((old.length : Int) + new.length) := rg_of (by omega) (by omega)
  simp -implicitDefEqProofs -dsimp only [fb_law_from_end, sSeq_ap, sFrz_ap, sNext_ap, sBreak_ap, sCont_ap, sDrop_ap, sRet_ap, sRetN_ap, sRet0_ap, sRetO_ap, owOf_ow, owOf_o2, sIf_ap, sAsg_ap, sSetN_ap, owL_ap, sApp_ap, sPut_ap, sAug_ap, sFor_ap, sSetN2_ap, bind_ok, bind_no, bind_ex, calm_ok, calm_no, calm_ex, toS_ok, toS_no, toS_ex, seq_nx, seq_rt, seq_bk, seq_ct, seq_no, seq_ex, bind_guard, bind_ite, calm_ite, toS_ite, seq_ite, sseq_assoc, obind_assoc, S_ok, S_no, S_guard, S_ite, SS_nx, SS_bk, SS_ct, SS_rt, SS_no, SS_guard, SS_ite, ite_F, ret_b, bl_b, fV_0, fV_s, fS_0, fS_s, evB_sh, evB_ow, evS_sh, slot_0, slot_s, getD_0, getD_s, frz_ap, frzE_sh, frzE_ow, frzE_o2, frzE_un, fC_ap, f1_ap, f2_ap, fX_ap, fXT_ap, fSl_ap, fSlL_ap, fNoPart_ap, fPart_ap, fB_ap, tAnd_ap, tOr_ap, tNot_ap, tYes_ap, fTru_ap, fAndV_ap, fOrV_ap, fNotV_ap, fIf_ap, fChain_ap, aNil_ap, aCons_ap, fTup_ap, fLst_ap, fCall_ap, fCallN_ap, fCallB_ap, iList_ap, iTup_ap, iRange1_ap, iRange2_ap, gSet_ap, gTup_ap, gsNil_ap, gsCons_ap, fLc_ap, wipe_nil, wipe_cons, ofO_ite, oIx_map, oIx_tmap, oIx_ro, oIx_t0, oIx_t1, oIx_t2, oIx_t3, oAdd_int, oAdd_lst, oAdd_str, oAdd_tup, oCat_ap, oRep_ap, oSub_int, oMul_int, oFdiv_int, oMod_int, oPow_int, oNeg_int, oEq_int, oNe_int, oEq_str, oNe_str, oEq_bool, oNe_bool, oLt_int, oLe_int, oGt_int, oGe_int, asInt_ap, asBool_ap, oLen_map, oLen_tup, oLen_ro, oAll_map, oAny_map, oSum_map, oInt_int, oInt_bool, oAbs_int, oMax2_int, oMin2_int, oList_lst, oList_tup, oRev_map, oSl_map, oSlL_map, oIsi_bool, oIsN_none, oIsN_int, truD_bool, truD_int, truD_map, itList_ap, itList_ro, itTup_ap, oRange1_int, oRange2_int, onlyFlat_int, onlyFlat_str, onlyFlat_bool, newD_ap, oIAdd_int, o2L_ap, sAl_ap, alL_ap, asLst_ap, sAlApp_ap, sAlPut_ap, s2App_ap, s2AppAt_ap, killE_un, killE_sh, killE_ow, killE_o2, killE_al, view_ap, viewE_un, viewE_sh, viewE_ow, viewE_o2, viewE_al, viewA_map, ofO_get, ixN_nat, List.map_cons, List.map_nil, mapO_all, mapO_guard, lcAll_map, filO_if, List.set_cons_zero, List.set_cons_succ, decide_eq_true_eq, Bool.not_eq_true', decide_eq_false_iff_not, if_true, if_false, ite_true, ite_false, Bool.false_eq_true, List.length_cons, List.length_nil, List.length_range, and_self, Int.toNat_natCast, ht, z0, z1]
  unfold Rect at hr
  rw [List.length_reverse, List.length_reverse] at hr
  rw [List.length_reverse, List.length_reverse] at hT
  refine SS_seq' (fun ρ => ∃ (i j : Nat) (l : List (Int × Int)) (x : EV), ρ = [.sh (eOld old), .sh (eOld new), .sh (eLab tb), .sh (.int i), .sh (.int j), .sh (ePrs l), x] ∧ Beyond old new i j l ∧ i ≤ old.length ∧ j ≤ new.length ∧ (l.length : Int) + R old new i j = T old new 0 0 ∧ (i = 0 ∨ j = 0)) ?_ ?_
  · obtain ⟨J, hJ⟩ : ∃ J : Nat → Rho → Prop, ∀ k ρ, J k ρ ↔ ∃ (i j : Nat) (l : List (Int × Int)) (x : EV), ρ = [.sh (eOld old), .sh (eOld new), .sh (eLab tb), .sh (.int i), .sh (.int j), .sh (ePrs l), x] ∧ Beyond old new i j l ∧ i ≤ old.length ∧ j ≤ new.length ∧ (l.length : Int) + R old new i j = T old new 0 0 ∧ (l.length ≤ k) ∧ (i = 0 ∨ j = 0 ∨ i + j + k ≤ old.length + new.length) := ⟨_, fun _ _ => Iff.rfl⟩
    refine SS_forR J ((hJ _ _).mpr ⟨old.length, new.length, [], _, rfl, ⟨⟨fun p h => (nomatch h), fun k h => by simp at h⟩, fun p h => (nomatch h)⟩, Nat.le_refl _, Nat.le_refl _, by rw [R_all]; simp, Nat.le_refl _, by omega⟩) ?_ ?_
    · intro k ρ hk hρ
      obtain ⟨i, j, l, x, rfl, hb, hi, hj, hR, hl, hs⟩ := (hJ _ _).mp hρ
      clear hρ
      have F : ∀ (i' j' : Nat) (l' : List (Int × Int)), Beyond old new i' j' l' → i' ≤ old.length → j' ≤ new.length → (l'.length : Int) + R old new i' j' = T old new 0 0 → l'.length ≤ k + 1 → (i' = 0 ∨ j' = 0 ∨ i' + j' + (k + 1) ≤ old.length + new.length) → J (k + 1) [.sh (eOld old), .sh (eOld new), .sh (eLab tb), .sh (.int i'), .sh (.int j'), .sh (ePrs l'), .sh (.int k)] := fun i' j' l' a b c d e f => (hJ _ _).mpr ⟨i', j', l', _, rfl, a, b, c, d, e, f⟩
      have z2 : 0 + 1 + l.length ≤ sizeLine := szl (by omega)
      have z3 : 0 + 1 ≤ sizeLine := szl (by omega)
      have z4 : 0 + 1 + 1 ≤ sizeLine := szl (by omega)
      simp -implicitDefEqProofs -dsimp only [sSeq_ap, sFrz_ap, sNext_ap, sBreak_ap, sCont_ap, sDrop_ap, sRet_ap, sRetN_ap, sRet0_ap, sRetO_ap, owOf_ow, owOf_o2, sIf_ap, sAsg_ap, sSetN_ap, owL_ap, sApp_ap, sPut_ap, sAug_ap, sFor_ap, sSetN2_ap, bind_ok, bind_no, bind_ex, calm_ok, calm_no, calm_ex, toS_ok, toS_no, toS_ex, seq_nx, seq_rt, seq_bk, seq_ct, seq_no, seq_ex, bind_guard, bind_ite, calm_ite, toS_ite, seq_ite, sseq_assoc, obind_assoc, S_ok, S_no, S_guard, S_ite, SS_nx, SS_bk, SS_ct, SS_rt, SS_no, SS_guard, SS_ite, ite_F, ret_b, bl_b, fV_0, fV_s, fS_0, fS_s, evB_sh, evB_ow, evS_sh, slot_0, slot_s, getD_0, getD_s, frz_ap, frzE_sh, frzE_ow, frzE_o2, frzE_un, fC_ap, f1_ap, f2_ap, fX_ap, fXT_ap, fSl_ap, fSlL_ap, fNoPart_ap, fPart_ap, fB_ap, tAnd_ap, tOr_ap, tNot_ap, tYes_ap, fTru_ap, fAndV_ap, fOrV_ap, fNotV_ap, fIf_ap, fChain_ap, aNil_ap, aCons_ap, fTup_ap, fLst_ap, fCall_ap, fCallN_ap, fCallB_ap, iList_ap, iTup_ap, iRange1_ap, iRange2_ap, gSet_ap, gTup_ap, gsNil_ap, gsCons_ap, fLc_ap, wipe_nil, wipe_cons, ofO_ite, oIx_map, oIx_tmap, oIx_ro, oIx_t0, oIx_t1, oIx_t2, oIx_t3, oAdd_int, oAdd_lst, oAdd_str, oAdd_tup, oCat_ap, oRep_ap, oSub_int, oMul_int, oFdiv_int, oMod_int, oPow_int, oNeg_int, oEq_int, oNe_int, oEq_str, oNe_str, oEq_bool, oNe_bool, oLt_int, oLe_int, oGt_int, oGe_int, asInt_ap, asBool_ap, oLen_map, oLen_tup, oLen_ro, oAll_map, oAny_map, oSum_map, oInt_int, oInt_bool, oAbs_int, oMax2_int, oMin2_int, oList_lst, oList_tup, oRev_map, oSl_map, oSlL_map, oIsi_bool, oIsN_none, oIsN_int, truD_bool, truD_int, truD_map, itList_ap, itList_ro, itTup_ap, oRange1_int, oRange2_int, onlyFlat_int, onlyFlat_str, onlyFlat_bool, newD_ap, oIAdd_int, o2L_ap, sAl_ap, alL_ap, asLst_ap, sAlApp_ap, sAlPut_ap, s2App_ap, s2AppAt_ap, killE_un, killE_sh, killE_ow, killE_o2, killE_al, view_ap, viewE_un, viewE_sh, viewE_ow, viewE_o2, viewE_al, viewA_map, ofO_get, ixN_nat, List.map_cons, List.map_nil, mapO_all, mapO_guard, lcAll_map, filO_if, List.set_cons_zero, List.set_cons_succ, decide_eq_true_eq, Bool.not_eq_true', decide_eq_false_iff_not, if_true, if_false, ite_true, ite_false, Bool.false_eq_true, List.length_cons, List.length_nil, List.length_range, and_self, Int.toNat_natCast, eRow, z2, z3, z4, List.length_map]
      by_cases hi0 : i = 0
      · rw [if_neg (by omega)]
        exact F i j l hb hi hj hR (by omega) (.inl hi0)
      rw [if_pos (by omega)]
      by_cases hj0 : j = 0
      · rw [if_neg (by omega)]
        exact F i j l hb hi hj hR (by omega) (.inr (.inl hj0))
      rw [if_pos (by omega)]
      obtain ⟨i, rfl⟩ : ∃ i' : Nat, i = i' + 1 := ⟨i - 1, by omega⟩
      obtain ⟨j, rfl⟩ : ∃ j' : Nat, j = j' + 1 := ⟨j - 1, by omega⟩
      have e1 : ((i + 1 : Nat) : Int) - 1 = i := by omega
      have e2 : ((j + 1 : Nat) : Int) - 1 = j := by omega
      have e3 : (old.length : Int) - ((i + 1 : Nat) : Int) = ((old.length - (i + 1) : Nat) : Int) := by omega
      have e4 : (new.length : Int) - ((j + 1 : Nat) : Int) = ((new.length - (j + 1) : Nat) : Int) := by omega
      have e5 : ((new.length - (j + 1) : Nat) : Int) + 1 = ((new.length - j : Nat) : Int) := by omega
      rw [e1, e2, e3, e4, e5]
      have hrow : (nth tb ((old.length - (i + 1) : Nat) : Int)).length = new.length + 1 := hr.2 _ (nth_mem (by omega) (by have := hr.1; omega))
      have hr1 := hr.1
      have RR := R_eq (old := old) (new := new) (i := i) (j := j) (by omega) (by omega)
      refine ⟨by omega, by omega, ?_⟩
      split
      · rename_i he
        rw [if_pos he] at RR
        exact F i j (((i : Int), (j : Int)) :: l) (hb.cons (by omega) (by omega) he) (by omega) (by omega) (by rw [List.length_cons]; omega) (by rw [List.length_cons]; omega) (by omega)
      · rename_i he
        rw [if_neg he] at RR
        refine ⟨by omega, by omega, by omega, by omega, ?_⟩
        have t1 : nth (nth tb ((old.length - (i + 1) : Nat) : Int)) ((new.length - (j + 1) : Nat) : Int) = R old new (i + 1) (j + 1) := (hT _ _ (by omega) (by omega)).trans (T_rev (by omega) (by omega))
        have t2 : nth (nth tb ((old.length - (i + 1) : Nat) : Int)) ((new.length - j : Nat) : Int) = R old new (i + 1) j := (hT _ _ (by omega) (by omega)).trans (T_rev (by omega) (by omega))
        rw [t1, t2]
        split
        · exact F (i + 1) j l (hb.less (by omega) (by omega)) (by omega) (by omega) (by omega) (by omega) (by omega)
        · exact F i (j + 1) l (hb.less (by omega) (by omega)) (by omega) (by omega) (by omega) (by omega) (by omega)
    · intro ρ hρ
      obtain ⟨i, j, l, x, rfl, hb, hi, hj, hR, hl, hs⟩ := (hJ _ _).mp hρ
      exact ⟨i, j, l, x, rfl, hb, hi, hj, hR, by omega⟩
  · rintro ρ ⟨i, j, l, x, rfl, hb, hi, hj, hR, hs⟩
    simp -implicitDefEqProofs -dsimp only [sSeq_ap, sFrz_ap, sNext_ap, sBreak_ap, sCont_ap, sDrop_ap, sRet_ap, sRetN_ap, sRet0_ap, sRetO_ap, owOf_ow, owOf_o2, sIf_ap, sAsg_ap, sSetN_ap, owL_ap, sApp_ap, sPut_ap, sAug_ap, sFor_ap, sSetN2_ap, bind_ok, bind_no, bind_ex, calm_ok, calm_no, calm_ex, toS_ok, toS_no, toS_ex, seq_nx, seq_rt, seq_bk, seq_ct, seq_no, seq_ex, bind_guard, bind_ite, calm_ite, toS_ite, seq_ite, sseq_assoc, obind_assoc, S_ok, S_no, S_guard, S_ite, SS_nx, SS_bk, SS_ct, SS_rt, SS_no, SS_guard, SS_ite, ite_F, ret_b, bl_b, fV_0, fV_s, fS_0, fS_s, evB_sh, evB_ow, evS_sh, slot_0, slot_s, getD_0, getD_s, frz_ap, frzE_sh, frzE_ow, frzE_o2, frzE_un, fC_ap, f1_ap, f2_ap, fX_ap, fXT_ap, fSl_ap, fSlL_ap, fNoPart_ap, fPart_ap, fB_ap, tAnd_ap, tOr_ap, tNot_ap, tYes_ap, fTru_ap, fAndV_ap, fOrV_ap, fNotV_ap, fIf_ap, fChain_ap, aNil_ap, aCons_ap, fTup_ap, fLst_ap, fCall_ap, fCallN_ap, fCallB_ap, iList_ap, iTup_ap, iRange1_ap, iRange2_ap, gSet_ap, gTup_ap, gsNil_ap, gsCons_ap, fLc_ap, wipe_nil, wipe_cons, ofO_ite, oIx_map, oIx_tmap, oIx_ro, oIx_t0, oIx_t1, oIx_t2, oIx_t3, oAdd_int, oAdd_lst, oAdd_str, oAdd_tup, oCat_ap, oRep_ap, oSub_int, oMul_int, oFdiv_int, oMod_int, oPow_int, oNeg_int, oEq_int, oNe_int, oEq_str, oNe_str, oEq_bool, oNe_bool, oLt_int, oLe_int, oGt_int, oGe_int, asInt_ap, asBool_ap, oLen_map, oLen_tup, oLen_ro, oAll_map, oAny_map, oSum_map, oInt_int, oInt_bool, oAbs_int, oMax2_int, oMin2_int, oList_lst, oList_tup, oRev_map, oSl_map, oSlL_map, oIsi_bool, oIsN_none, oIsN_int, truD_bool, truD_int, truD_map, itList_ap, itList_ro, itTup_ap, oRange1_int, oRange2_int, onlyFlat_int, onlyFlat_str, onlyFlat_bool, newD_ap, oIAdd_int, o2L_ap, sAl_ap, alL_ap, asLst_ap, sAlApp_ap, sAlPut_ap, s2App_ap, s2AppAt_ap, killE_un, killE_sh, killE_ow, killE_o2, killE_al, view_ap, viewE_un, viewE_sh, viewE_ow, viewE_o2, viewE_al, viewA_map, ofO_get, ixN_nat, List.map_cons, List.map_nil, mapO_all, mapO_guard, lcAll_map, filO_if, List.set_cons_zero, List.set_cons_succ, decide_eq_true_eq, Bool.not_eq_true', decide_eq_false_iff_not, if_true, if_false, ite_true, ite_false, Bool.false_eq_true, List.length_cons, List.length_nil, List.length_range, and_self, Int.toNat_natCast]
    rw [R_zero hs] at hR
    exact ⟨l, rfl, hb.1, by omega⟩
theorem T_pos {old new : List Str} {i j : Nat} : 0 ≤ T old new i j := by unfold T; omega
theorem best_good {old new : List Str} {l : List (Int × Int)} {ls : List (List Int)} (hl : CommonRow old new l) (hn : (l.length : Int) = T old new 0 0) (hr : Rect old new ls) (hT : ∀ i j : Nat, i ≤ old.length → j ≤ new.length → lab ls i j = T old new i j) : Good old new (T old new 0 0) l ls := by
  refine ⟨hn.symm, hl, hr, fun i j hi hj => ?_, ?_⟩
  · have e1 : (i : Int) + 1 = ((i + 1 : Nat) : Int) := rfl
    have e2 : (j : Int) + 1 = ((j + 1 : Nat) : Int) := rfl
    unfold LabOk
    rw [e1, e2, hT i j hi hj]
    refine ⟨T_pos, fun h => ?_, fun h => ?_, fun h h' e => ?_⟩
    · rw [hT (i + 1) j (by omega) hj]
      unfold T
      exact Int.ofNat_le.mpr (lcs_mono (List.drop_sublist_drop_left _ (Nat.le_succ i)) (List.Sublist.refl _))
    · rw [hT i (j + 1) hi (by omega)]
      unfold T
      exact Int.ofNat_le.mpr (lcs_mono (List.Sublist.refl _) (List.drop_sublist_drop_left _ (Nat.le_succ j)))
    · rw [hT (i + 1) (j + 1) (by omega) (by omega), T_eq (i := i) (j := j) (by omega) (by omega), if_pos e]
      omega
  · have := hT 0 0 (by omega) (by omega)
    have e0 : lab ls 0 0 = lab ls ((0 : Nat) : Int) ((0 : Nat) : Int) := rfl
    rw [e0, this]
    exact Int.le_refl _
end K81

set_option maxRecDepth 100000
set_option maxHeartbeats 4000000
namespace K81
open PySem Dl Out
/-- lists of pairs, of rows, of at most n things -/
def PL (n : Nat) (ds : List D) : Prop := ds.length ≤ n ∧ ∀ d ∈ ds, ∃ p, d = ePr p
def IsRow (n : Nat) (d : D) : Prop := ∃ r, d = eRow r ∧ r.length ≤ n
def LL (n : Nat) (ds : List D) : Prop := ds.length ≤ n ∧ ∀ d ∈ ds, IsRow n d
def IsPap (n : Nat) (d : D) : Prop := ∃ c ds es, d = .tuple [.int c, .list ds, .list es] ∧ PL n ds ∧ LL n es
def Paps (n m : Nat) (ds : List D) : Prop := ds.length ≤ m ∧ ∀ d ∈ ds, IsPap n d
theorem Paps.snoc {n m : Nat} {ds : List D} {d : D} (h : Paps n m ds) (hd : IsPap n d) : Paps n (m + 1) (ds ++ [d]) := ⟨by rw [List.length_append]; have := h.1; simp; omega, fun e he => by
  rcases List.mem_append.mp he with he | he
  · exact h.2 e he
  · rw [List.mem_singleton.mp he]; exact hd⟩
theorem pap {n : Nat} {c : Int} {ds es : List D} (h : PL n ds) (k : LL n es) : IsPap n (.tuple [.int c, .list ds, .list es]) := ⟨c, ds, es, rfl, h, k⟩
theorem cut_le {α : Type} {l : List α} {lo hi : Option Int} : (cut l lo hi).length ≤ l.length := by
  unfold cut
  rw [List.length_take, List.length_drop]
  omega
theorem cut_mem {α : Type} {l : List α} {lo hi : Option Int} {a : α} (h : a ∈ cut l lo hi) : a ∈ l := List.mem_of_mem_drop (List.mem_of_mem_take h)
theorem pl_map {n : Nat} {l : List (Int × Int)} (h : l.length ≤ n) : PL n (l.map ePr) := ⟨by rw [List.length_map]; exact h, fun d hd => by
  obtain ⟨p, _, rfl⟩ := List.mem_map.mp hd
  exact ⟨p, rfl⟩⟩
theorem pl_cut {n : Nat} {l : List (Int × Int)} {lo hi : Option Int} (h : l.length ≤ n) : PL n ((cut l lo hi).map ePr) := pl_map (Nat.le_trans cut_le h)
theorem pl_app {a b n : Nat} {ds es : List D} (h : PL a ds) (k : PL b es) (e : a + b ≤ n) : PL n (ds ++ es) := ⟨by rw [List.length_append]; have := h.1; have := k.1; omega, fun d hd => by
  rcases List.mem_append.mp hd with hd | hd
  · exact h.2 d hd
  · exact k.2 d hd⟩
theorem pl_nil {n : Nat} : PL n [] := ⟨Nat.zero_le _, fun d h => (nomatch h)⟩
theorem pl_one {i j : Int} : PL 1 [.tuple [.int i, .int j]] := ⟨Nat.le_refl _, fun d h => by rw [List.mem_singleton.mp h]; exact ⟨(i, j), rfl⟩⟩
theorem pl_oneP {p : Int × Int} : PL 1 [ePr p] := ⟨Nat.le_refl _, fun d h => by rw [List.mem_singleton.mp h]; exact ⟨p, rfl⟩⟩
theorem row {n : Nat} {r : List Int} (h : r.length ≤ n) : IsRow n (.list (r.map .int)) := ⟨r, rfl, h⟩
theorem row_map {n : Nat} {r : List Int} {f : Int → Int} (h : r.length ≤ n) : IsRow n (.list (r.map fun a => .int (f a))) := ⟨r.map f, by unfold eRow; rw [List.map_map]; rfl, by rw [List.length_map]; exact h⟩
theorem row_snoc {n : Nat} {r : List Int} {i : Int} (h : r.length + 1 ≤ n) : IsRow n (.list (r.map .int ++ [.int i])) := ⟨r ++ [i], by unfold eRow; rw [List.map_append]; rfl, by simpa using h⟩
theorem ll_map {α : Type} {n : Nat} {l : List α} {f : α → D} (h : l.length ≤ n) (k : ∀ a ∈ l, IsRow n (f a)) : LL n (l.map f) := ⟨by rw [List.length_map]; exact h, fun d hd => by
  obtain ⟨p, hp, rfl⟩ := List.mem_map.mp hd
  exact k p hp⟩
theorem ll_row {n : Nat} {l : List (List Int)} (h : l.length ≤ n) (k : ∀ a ∈ l, a.length ≤ n) : LL n (l.map eRow) := ll_map h fun a ha => row (k a ha)
theorem ll_cut {n : Nat} {l : List (List Int)} {lo hi : Option Int} (h : l.length ≤ n) (k : ∀ a ∈ l, a.length ≤ n) : LL n ((cut l lo hi).map eRow) := ll_row (Nat.le_trans cut_le h) fun a ha => k a (cut_mem ha)
theorem ll_app {n : Nat} {ds es : List D} (h : ∀ d ∈ ds, IsRow n d) (k : ∀ d ∈ es, IsRow n d) (e : ds.length + es.length ≤ n) : LL n (ds ++ es) := ⟨by rw [List.length_append]; exact e, fun d hd => by
  rcases List.mem_append.mp hd with hd | hd
  · exact h d hd
  · exact k d hd⟩
theorem row_one {n : Nat} {d : D} (h : IsRow n d) : ∀ e ∈ [d], IsRow n e := fun e he => by rw [List.mem_singleton.mp he]; exact h
theorem row_mid {n : Nat} {r s : List Int} {i : Int} (h : r.length + 1 + s.length ≤ n) : IsRow n (.list (r.map .int ++ [.int i] ++ s.map .int)) := ⟨r ++ [i] ++ s, by unfold eRow; rw [List.map_append, List.map_append]; rfl, by simp; omega⟩
theorem eight {a0 b0 a1 b1 a2 b2 a3 b3 a4 b4 a5 b5 a6 b6 a7 b7 : Int} : [PyData.tuple [.int a0, .int b0], PyData.tuple [.int a1, .int b1], PyData.tuple [.int a2, .int b2], PyData.tuple [.int a3, .int b3], PyData.tuple [.int a4, .int b4], PyData.tuple [.int a5, .int b5], PyData.tuple [.int a6, .int b6], PyData.tuple [.int a7, .int b7]] = [(a0, b0), (a1, b1), (a2, b2), (a3, b3), (a4, b4), (a5, b5), (a6, b6), (a7, b7)].map ePr := rfl
theorem mulOk_2 {i : Int} : mulOk 2 i = true := decide_eq_true (.inl ⟨by decide, by decide⟩)
theorem spoilt_eq {old new : List Str} {c : Int} {l : List (Int × Int)} {ls : List (List Int)} {dr : List Int} (ho : old.length ≤ 400) (hn : new.length ≤ 400) (hl : l.length ≤ 400) (hls : ls.length ≤ 400) (h0 : 0 < ls.length) (hr : ∀ r ∈ ls, r.length ≤ 400 ∧ 0 < r.length) (hd : Draws 16 dr) :
    ∃ ds, g_law_spoilt [eOld old, eOld new, ePap c l ls, .list (dr.map .int)] = ok (true, .list ds) ∧ Paps 1000 100 ds := by
  refine ok_ex (f := fun ds => .list ds) (Q := fun ds => Paps 1000 100 ds) (S_law_spoilt ?_)
  have z0 : ls.length ≤ sizeLine := szl (by omega)
  have z1 : ls.length + 1 ≤ sizeLine := szl (by omega)
  have z2 : l.length + 1 ≤ sizeLine := szl (by omega)
  have b0 : -(ls.length : Int) ≤ 0 ∧ (0 : Int) < ls.length := by omega
  have r1 : ∀ r ∈ ls, r.length + 1 ≤ sizeLine := fun r h => szl (by have := (hr r h).1; omega)
  simp -implicitDefEqProofs -dsimp only [fb_law_spoilt, sSeq_ap, sFrz_ap, sNext_ap, sBreak_ap, sCont_ap, sDrop_ap, sRet_ap, sRetN_ap, sRet0_ap, sRetO_ap, owOf_ow, owOf_o2, sIf_ap, sAsg_ap, sSetN_ap, owL_ap, sApp_ap, sPut_ap, sAug_ap, sFor_ap, sSetN2_ap, bind_ok, bind_no, bind_ex, calm_ok, calm_no, calm_ex, toS_ok, toS_no, toS_ex, seq_nx, seq_rt, seq_bk, seq_ct, seq_no, seq_ex, bind_guard, bind_ite, calm_ite, toS_ite, seq_ite, sseq_assoc, obind_assoc, S_ok, S_no, S_guard, S_ite, SS_nx, SS_bk, SS_ct, SS_rt, SS_no, SS_guard, SS_ite, ite_F, ret_b, bl_b, fV_0, fV_s, fS_0, fS_s, evB_sh, evB_ow, evS_sh, slot_0, slot_s, getD_0, getD_s, frz_ap, frzE_sh, frzE_ow, frzE_o2, frzE_un, fC_ap, f1_ap, f2_ap, fX_ap, fXT_ap, fSl_ap, fSlL_ap, fNoPart_ap, fPart_ap, fB_ap, tAnd_ap, tOr_ap, tNot_ap, tYes_ap, fTru_ap, fAndV_ap, fOrV_ap, fNotV_ap, fIf_ap, fChain_ap, aNil_ap, aCons_ap, fTup_ap, fLst_ap, fCall_ap, fCallN_ap, fCallB_ap, iList_ap, iTup_ap, iRange1_ap, iRange2_ap, gSet_ap, gTup_ap, gsNil_ap, gsCons_ap, fLc_ap, wipe_nil, wipe_cons, ofO_ite, oIx_map, oIx_tmap, oIx_ro, oIx_t0, oIx_t1, oIx_t2, oIx_t3, oAdd_int, oAdd_lst, oAdd_str, oAdd_tup, oCat_ap, oRep_ap, oSub_int, oMul_int, oFdiv_int, oMod_int, oPow_int, oNeg_int, oEq_int, oNe_int, oEq_str, oNe_str, oEq_bool, oNe_bool, oLt_int, oLe_int, oGt_int, oGe_int, asInt_ap, asBool_ap, oLen_map, oLen_tup, oLen_ro, oAll_map, oAny_map, oSum_map, oInt_int, oInt_bool, oAbs_int, oMax2_int, oMin2_int, oList_lst, oList_tup, oRev_map, oSl_map, oSlL_map, oIsi_bool, oIsN_none, oIsN_int, truD_bool, truD_int, truD_map, itList_ap, itList_ro, itTup_ap, oRange1_int, oRange2_int, onlyFlat_int, onlyFlat_str, onlyFlat_bool, newD_ap, oIAdd_int, o2L_ap, sAl_ap, alL_ap, asLst_ap, sAlApp_ap, sAlPut_ap, s2App_ap, s2AppAt_ap, killE_un, killE_sh, killE_ow, killE_o2, killE_al, view_ap, viewE_un, viewE_sh, viewE_ow, viewE_o2, viewE_al, viewA_map, ofO_get, ixN_nat, List.map_cons, List.map_nil, mapO_all, mapO_guard, lcAll_map, filO_if, List.set_cons_zero, List.set_cons_succ, decide_eq_true_eq, Bool.not_eq_true', decide_eq_false_iff_not, if_true, if_false, ite_true, ite_false, Bool.false_eq_true, List.length_cons, List.length_nil, List.length_range, and_self, Int.toNat_natCast, Nat.reduceAdd, sz0, sz1, sz2, sz3, sz4, sz5, sz6, sz7, sz8, sz9, sz10, sz11, sz12, sz13, sz14, sz15, sz16, sz17, sz18, sz19, sz20, ePap, eRow, z0, z1, z2, b0, List.length_map, List.length_append]
  have hr9 : ∀ r ∈ ls, r.length ≤ 1000 := fun r h => by have := (hr r h).1; omega
  have l1 : LL 1000 (ls.map eRow) := ll_row (by omega) hr9
  have p1 : PL 1000 (l.map ePr) := pl_map (by omega)
  have p9 : PL 400 (l.map ePr) := pl_map (by omega)
  have n0 : (nth ls 0).length ≤ 1000 := hr9 _ (nth_mem (by omega) (by omega))
  refine ⟨r1, fun r h => szl (by have := (hr r h).1; omega), szl' (by omega), ?_⟩
  refine SS_seq' (fun ρ => ∃ ds x8 x9 x10 x11 x12 x13, ρ = [.sh (eOld old), .sh (eOld new), .sh (ePap c l ls), .sh (.list (dr.map .int)), .sh (.int c), .sh (ePrs l), .sh (eLab ls), .ow (.list ds), x8, x9, x10, x11, x12, x13, .un, .un] ∧ Paps 1000 33 ds) ?_ ?_
  · obtain ⟨J, hJ⟩ : ∃ J : Nat → Rho → Prop, ∀ k ρ, J k ρ ↔ ∃ ds x8 x9 x10 x11 x12 x13, ρ = [.sh (eOld old), .sh (eOld new), .sh (ePap c l ls), .sh (.list (dr.map .int)), .sh (.int c), .sh (ePrs l), .sh (eLab ls), .ow (.list ds), x8, x9, x10, x11, x12, x13, .un, .un] ∧ Paps 1000 (15 + 6 * k) ds := ⟨_, fun _ _ => Iff.rfl⟩
    have e3 : [PyData.int 1, PyData.int (-1), PyData.int 2] = ([1, -1, 2] : List Int).map .int := rfl
    rw [e3]
    refine SS_for J ((hJ _ _).mpr ⟨_, _, _, _, _, _, _, rfl, by simp, ?_⟩) ?_ ?_
    · intro d hd
      simp only [List.cons_append, List.nil_append, List.mem_cons, List.not_mem_nil, or_false] at hd
      rcases hd with rfl | rfl | rfl | rfl | rfl | rfl | rfl | rfl | rfl | rfl | rfl | rfl | rfl | rfl | rfl
      · exact pap p1 l1
      · exact pap p1 l1
      · exact pap p1 l1
      · exact pap p1 (ll_cut (by omega) hr9)
      · exact pap p1 (ll_cut (by omega) hr9)
      · exact pap p1 (ll_app l1.2 (row_one (row n0)) (by simp; omega))
      · exact pap p1 (ll_map (by omega) fun r h => row_snoc (by have := (hr r h).1; omega))
      · exact pap p1 (ll_map (by omega) fun r h => row (Nat.le_trans cut_le (hr9 r h)))
      · exact pap (pl_map (by rw [List.length_reverse]; omega)) l1
      · exact pap (pl_cut (by omega)) l1
      · exact pap (pl_app p9 pl_one (by omega)) l1
      · exact pap (pl_cut (by omega)) l1
      · exact pap (pl_app p9 pl_one (by omega)) l1
      · exact pap (pl_cut (by omega)) l1
      · exact pap pl_nil (ll_map (by omega) fun r h => row_map (f := fun _ => 0) (hr9 r h))
    · intro i a ρ ha hρ
      obtain ⟨ds, x8, x9, x10, x11, x12, x13, rfl, hp⟩ := (hJ _ _).mp hρ
      clear hρ
      have hi3 : i < 3 := (List.getElem?_eq_some_iff.mp ha).1
      clear ha
      have z4 : rgOk 4 := rg_of (by omega) (by omega)
      simp -implicitDefEqProofs -dsimp only [sSeq_ap, sFrz_ap, sNext_ap, sBreak_ap, sCont_ap, sDrop_ap, sRet_ap, sRetN_ap, sRet0_ap, sRetO_ap, owOf_ow, owOf_o2, sIf_ap, sAsg_ap, sSetN_ap, owL_ap, sApp_ap, sPut_ap, sAug_ap, sFor_ap, sSetN2_ap, bind_ok, bind_no, bind_ex, calm_ok, calm_no, calm_ex, toS_ok, toS_no, toS_ex, seq_nx, seq_rt, seq_bk, seq_ct, seq_no, seq_ex, bind_guard, bind_ite, calm_ite, toS_ite, seq_ite, sseq_assoc, obind_assoc, S_ok, S_no, S_guard, S_ite, SS_nx, SS_bk, SS_ct, SS_rt, SS_no, SS_guard, SS_ite, ite_F, ret_b, bl_b, fV_0, fV_s, fS_0, fS_s, evB_sh, evB_ow, evS_sh, slot_0, slot_s, getD_0, getD_s, frz_ap, frzE_sh, frzE_ow, frzE_o2, frzE_un, fC_ap, f1_ap, f2_ap, fX_ap, fXT_ap, fSl_ap, fSlL_ap, fNoPart_ap, fPart_ap, fB_ap, tAnd_ap, tOr_ap, tNot_ap, tYes_ap, fTru_ap, fAndV_ap, fOrV_ap, fNotV_ap, fIf_ap, fChain_ap, aNil_ap, aCons_ap, fTup_ap, fLst_ap, fCall_ap, fCallN_ap, fCallB_ap, iList_ap, iTup_ap, iRange1_ap, iRange2_ap, gSet_ap, gTup_ap, gsNil_ap, gsCons_ap, fLc_ap, wipe_nil, wipe_cons, ofO_ite, oIx_map, oIx_tmap, oIx_ro, oIx_t0, oIx_t1, oIx_t2, oIx_t3, oAdd_int, oAdd_lst, oAdd_str, oAdd_tup, oCat_ap, oRep_ap, oSub_int, oMul_int, oFdiv_int, oMod_int, oPow_int, oNeg_int, oEq_int, oNe_int, oEq_str, oNe_str, oEq_bool, oNe_bool, oLt_int, oLe_int, oGt_int, oGe_int, asInt_ap, asBool_ap, oLen_map, oLen_tup, oLen_ro, oAll_map, oAny_map, oSum_map, oInt_int, oInt_bool, oAbs_int, oMax2_int, oMin2_int, oList_lst, oList_tup, oRev_map, oSl_map, oSlL_map, oIsi_bool, oIsN_none, oIsN_int, truD_bool, truD_int, truD_map, itList_ap, itList_ro, itTup_ap, oRange1_int, oRange2_int, onlyFlat_int, onlyFlat_str, onlyFlat_bool, newD_ap, oIAdd_int, o2L_ap, sAl_ap, alL_ap, asLst_ap, sAlApp_ap, sAlPut_ap, s2App_ap, s2AppAt_ap, killE_un, killE_sh, killE_ow, killE_o2, killE_al, view_ap, viewE_un, viewE_sh, viewE_ow, viewE_o2, viewE_al, viewA_map, ofO_get, ixN_nat, List.map_cons, List.map_nil, mapO_all, mapO_guard, lcAll_map, filO_if, List.set_cons_zero, List.set_cons_succ, decide_eq_true_eq, Bool.not_eq_true', decide_eq_false_iff_not, if_true, if_false, ite_true, ite_false, Bool.false_eq_true, List.length_cons, List.length_nil, List.length_range, and_self, Int.toNat_natCast, z4, true_and]
      refine SS_seq' (fun ρ => ∃ ds x8 x9 x11 x12 x13, ρ = [.sh (eOld old), .sh (eOld new), .sh (ePap c l ls), .sh (.list (dr.map .int)), .sh (.int c), .sh (ePrs l), .sh (eLab ls), .ow (.list ds), x8, x9, .sh (.int a), x11, x12, x13, .un, .un] ∧ Paps 1000 (15 + 6 * i + 4) ds) ?_ ?_
      · obtain ⟨J2, hJ2⟩ : ∃ J : Nat → Rho → Prop, ∀ k ρ, J k ρ ↔ ∃ ds x8 x9 x11 x12 x13, ρ = [.sh (eOld old), .sh (eOld new), .sh (ePap c l ls), .sh (.list (dr.map .int)), .sh (.int c), .sh (ePrs l), .sh (eLab ls), .ow (.list ds), x8, x9, .sh (.int a), x11, x12, x13, .un, .un] ∧ Paps 1000 (15 + 6 * i + k) ds := ⟨_, fun _ _ => Iff.rfl⟩
        have e4 : (4 : Int).toNat = 4 := rfl
        rw [e4]
        refine SS_forR J2 ((hJ2 _ _).mpr ⟨_, _, _, _, _, _, rfl, hp⟩) ?_ ?_
        · intro k ρ hk hρ
          obtain ⟨ds, x8, x9, x11, x12, x13, rfl, hp⟩ := (hJ2 _ _).mp hρ
          clear hρ
          simp -implicitDefEqProofs -dsimp only [sSeq_ap, sFrz_ap, sNext_ap, sBreak_ap, sCont_ap, sDrop_ap, sRet_ap, sRetN_ap, sRet0_ap, sRetO_ap, owOf_ow, owOf_o2, sIf_ap, sAsg_ap, sSetN_ap, owL_ap, sApp_ap, sPut_ap, sAug_ap, sFor_ap, sSetN2_ap, bind_ok, bind_no, bind_ex, calm_ok, calm_no, calm_ex, toS_ok, toS_no, toS_ex, seq_nx, seq_rt, seq_bk, seq_ct, seq_no, seq_ex, bind_guard, bind_ite, calm_ite, toS_ite, seq_ite, sseq_assoc, obind_assoc, S_ok, S_no, S_guard, S_ite, SS_nx, SS_bk, SS_ct, SS_rt, SS_no, SS_guard, SS_ite, ite_F, ret_b, bl_b, fV_0, fV_s, fS_0, fS_s, evB_sh, evB_ow, evS_sh, slot_0, slot_s, getD_0, getD_s, frz_ap, frzE_sh, frzE_ow, frzE_o2, frzE_un, fC_ap, f1_ap, f2_ap, fX_ap, fXT_ap, fSl_ap, fSlL_ap, fNoPart_ap, fPart_ap, fB_ap, tAnd_ap, tOr_ap, tNot_ap, tYes_ap, fTru_ap, fAndV_ap, fOrV_ap, fNotV_ap, fIf_ap, fChain_ap, aNil_ap, aCons_ap, fTup_ap, fLst_ap, fCall_ap, fCallN_ap, fCallB_ap, iList_ap, iTup_ap, iRange1_ap, iRange2_ap, gSet_ap, gTup_ap, gsNil_ap, gsCons_ap, fLc_ap, wipe_nil, wipe_cons, ofO_ite, oIx_map, oIx_tmap, oIx_ro, oIx_t0, oIx_t1, oIx_t2, oIx_t3, oAdd_int, oAdd_lst, oAdd_str, oAdd_tup, oCat_ap, oRep_ap, oSub_int, oMul_int, oFdiv_int, oMod_int, oPow_int, oNeg_int, oEq_int, oNe_int, oEq_str, oNe_str, oEq_bool, oNe_bool, oLt_int, oLe_int, oGt_int, oGe_int, asInt_ap, asBool_ap, oLen_map, oLen_tup, oLen_ro, oAll_map, oAny_map, oSum_map, oInt_int, oInt_bool, oAbs_int, oMax2_int, oMin2_int, oList_lst, oList_tup, oRev_map, oSl_map, oSlL_map, oIsi_bool, oIsN_none, oIsN_int, truD_bool, truD_int, truD_map, itList_ap, itList_ro, itTup_ap, oRange1_int, oRange2_int, onlyFlat_int, onlyFlat_str, onlyFlat_bool, newD_ap, oIAdd_int, o2L_ap, sAl_ap, alL_ap, asLst_ap, sAlApp_ap, sAlPut_ap, s2App_ap, s2AppAt_ap, killE_un, killE_sh, killE_ow, killE_o2, killE_al, view_ap, viewE_un, viewE_sh, viewE_ow, viewE_o2, viewE_al, viewA_map, ofO_get, ixN_nat, List.map_cons, List.map_nil, mapO_all, mapO_guard, lcAll_map, filO_if, List.set_cons_zero, List.set_cons_succ, decide_eq_true_eq, Bool.not_eq_true', decide_eq_false_iff_not, if_true, if_false, ite_true, ite_false, Bool.false_eq_true, List.length_cons, List.length_nil, List.length_range, and_self, Int.toNat_natCast, Nat.reduceAdd, sz0, sz1, sz2, sz3, sz4, sz5, sz6, sz7, sz8, sz9, sz10, sz11, sz12, sz13, sz14, sz15, sz16, sz17, sz18, sz19, sz20, eRow, mulOk_2, List.length_map, List.length_append]
          have d0 := hd.1
          have a1 := Int.emod_nonneg (nth dr (2 * (k : Int))) (b := ls.length) (by omega)
          have a2 := Int.emod_lt_of_pos (nth dr (2 * (k : Int))) (b := ls.length) (by omega)
          generalize nth dr (2 * (k : Int)) % ls.length = iv at *
          have hrow := hr _ (nth_mem a1 a2)
          generalize nth ls iv = r at *
          have a3 := Int.emod_nonneg (nth dr (2 * (k : Int) + 1)) (b := r.length) (by omega)
          have a4 := Int.emod_lt_of_pos (nth dr (2 * (k : Int) + 1)) (b := r.length) (by omega)
          generalize nth dr (2 * (k : Int) + 1) % r.length = jv at *
          have c1 := cut_le (l := r) (lo := none) (hi := some jv)
          have c2 := cut_le (l := r) (lo := some (jv + 1)) (hi := none)
          have c3 := cut_le (l := ls) (lo := none) (hi := some iv)
          have c4 := cut_le (l := ls) (lo := some (iv + 1)) (hi := none)
          have c5 := hp.1
          refine ⟨by omega, by omega, by omega, by omega, by omega, by omega, by omega, by omega, szl (by omega), by omega, szl (by omega), szl (by omega), szl (by omega), szl' (by omega), ?_⟩
          refine (hJ2 _ _).mpr ⟨_, _, _, _, _, _, rfl, hp.snoc (pap p1 (ll_app (fun d hd => ?_) (ll_cut (by omega) hr9).2 (by simp; omega)))⟩
          rcases List.mem_append.mp hd with hd | hd
          · exact (ll_cut (by omega) hr9).2 d hd
          · rw [List.mem_singleton.mp hd]
            exact row_mid (by omega)
        · intro ρ hρ
          obtain ⟨ds, x8, x9, x11, x12, x13, rfl, hp⟩ := (hJ2 _ _).mp hρ
          exact ⟨_, _, _, _, _, _, rfl, hp⟩
      · rintro ρ ⟨ds, x8, x9, x11, x12, x13, rfl, hp⟩
        simp -implicitDefEqProofs -dsimp only [sSeq_ap, sFrz_ap, sNext_ap, sBreak_ap, sCont_ap, sDrop_ap, sRet_ap, sRetN_ap, sRet0_ap, sRetO_ap, owOf_ow, owOf_o2, sIf_ap, sAsg_ap, sSetN_ap, owL_ap, sApp_ap, sPut_ap, sAug_ap, sFor_ap, sSetN2_ap, bind_ok, bind_no, bind_ex, calm_ok, calm_no, calm_ex, toS_ok, toS_no, toS_ex, seq_nx, seq_rt, seq_bk, seq_ct, seq_no, seq_ex, bind_guard, bind_ite, calm_ite, toS_ite, seq_ite, sseq_assoc, obind_assoc, S_ok, S_no, S_guard, S_ite, SS_nx, SS_bk, SS_ct, SS_rt, SS_no, SS_guard, SS_ite, ite_F, ret_b, bl_b, fV_0, fV_s, fS_0, fS_s, evB_sh, evB_ow, evS_sh, slot_0, slot_s, getD_0, getD_s, frz_ap, frzE_sh, frzE_ow, frzE_o2, frzE_un, fC_ap, f1_ap, f2_ap, fX_ap, fXT_ap, fSl_ap, fSlL_ap, fNoPart_ap, fPart_ap, fB_ap, tAnd_ap, tOr_ap, tNot_ap, tYes_ap, fTru_ap, fAndV_ap, fOrV_ap, fNotV_ap, fIf_ap, fChain_ap, aNil_ap, aCons_ap, fTup_ap, fLst_ap, fCall_ap, fCallN_ap, fCallB_ap, iList_ap, iTup_ap, iRange1_ap, iRange2_ap, gSet_ap, gTup_ap, gsNil_ap, gsCons_ap, fLc_ap, wipe_nil, wipe_cons, ofO_ite, oIx_map, oIx_tmap, oIx_ro, oIx_t0, oIx_t1, oIx_t2, oIx_t3, oAdd_int, oAdd_lst, oAdd_str, oAdd_tup, oCat_ap, oRep_ap, oSub_int, oMul_int, oFdiv_int, oMod_int, oPow_int, oNeg_int, oEq_int, oNe_int, oEq_str, oNe_str, oEq_bool, oNe_bool, oLt_int, oLe_int, oGt_int, oGe_int, asInt_ap, asBool_ap, oLen_map, oLen_tup, oLen_ro, oAll_map, oAny_map, oSum_map, oInt_int, oInt_bool, oAbs_int, oMax2_int, oMin2_int, oList_lst, oList_tup, oRev_map, oSl_map, oSlL_map, oIsi_bool, oIsN_none, oIsN_int, truD_bool, truD_int, truD_map, itList_ap, itList_ro, itTup_ap, oRange1_int, oRange2_int, onlyFlat_int, onlyFlat_str, onlyFlat_bool, newD_ap, oIAdd_int, o2L_ap, sAl_ap, alL_ap, asLst_ap, sAlApp_ap, sAlPut_ap, s2App_ap, s2AppAt_ap, killE_un, killE_sh, killE_ow, killE_o2, killE_al, view_ap, viewE_un, viewE_sh, viewE_ow, viewE_o2, viewE_al, viewA_map, ofO_get, ixN_nat, List.map_cons, List.map_nil, mapO_all, mapO_guard, lcAll_map, filO_if, List.set_cons_zero, List.set_cons_succ, decide_eq_true_eq, Bool.not_eq_true', decide_eq_false_iff_not, if_true, if_false, ite_true, ite_false, Bool.false_eq_true, List.length_cons, List.length_nil, List.length_range, and_self, Int.toNat_natCast, Nat.reduceAdd, sz0, sz1, sz2, sz3, sz4, sz5, sz6, sz7, sz8, sz9, sz10, sz11, sz12, sz13, sz14, sz15, sz16, sz17, sz18, sz19, sz20, eRow, z0, b0, List.length_map, List.length_append]
        have c5 := hp.1
        have c6 := cut_le (l := ls) (lo := some 1) (hi := none)
        refine ⟨fun r h => szl (by have := hr9 r h; omega), szl' (by omega), szl (by omega), szl (by omega), szl' (by omega), ?_⟩
        refine (hJ _ _).mpr ⟨_, _, _, _, _, _, _, rfl, ?_⟩
        have e5 : 15 + 6 * (i + 1) = 15 + 6 * i + 4 + 1 + 1 := by omega
        rw [e5]
        exact (hp.snoc (pap p1 (ll_map (by omega) fun r h => row_map (f := fun x => x + a) (hr9 r h)))).snoc (pap p1 (ll_app (row_one (row_map (f := fun x => x - a) n0)) (ll_cut (by omega) hr9).2 (by simp; omega)))
    · intro ρ hρ
      obtain ⟨ds, x8, x9, x10, x11, x12, x13, rfl, hp⟩ := (hJ _ _).mp hρ
      exact ⟨_, _, _, _, _, _, _, rfl, hp⟩
  · rintro ρ ⟨ds, x8, x9, x10, x11, x12, x13, rfl, hp⟩
    have d0 := hd.1
    have z5 : -(dr.length : Int) ≤ 8 ∧ (8 : Int) < dr.length := by omega
    have z6 : -(dr.length : Int) ≤ 9 ∧ (9 : Int) < dr.length := by omega
    simp -implicitDefEqProofs -dsimp only [sSeq_ap, sFrz_ap, sNext_ap, sBreak_ap, sCont_ap, sDrop_ap, sRet_ap, sRetN_ap, sRet0_ap, sRetO_ap, owOf_ow, owOf_o2, sIf_ap, sAsg_ap, sSetN_ap, owL_ap, sApp_ap, sPut_ap, sAug_ap, sFor_ap, sSetN2_ap, bind_ok, bind_no, bind_ex, calm_ok, calm_no, calm_ex, toS_ok, toS_no, toS_ex, seq_nx, seq_rt, seq_bk, seq_ct, seq_no, seq_ex, bind_guard, bind_ite, calm_ite, toS_ite, seq_ite, sseq_assoc, obind_assoc, S_ok, S_no, S_guard, S_ite, SS_nx, SS_bk, SS_ct, SS_rt, SS_no, SS_guard, SS_ite, ite_F, ret_b, bl_b, fV_0, fV_s, fS_0, fS_s, evB_sh, evB_ow, evS_sh, slot_0, slot_s, getD_0, getD_s, frz_ap, frzE_sh, frzE_ow, frzE_o2, frzE_un, fC_ap, f1_ap, f2_ap, fX_ap, fXT_ap, fSl_ap, fSlL_ap, fNoPart_ap, fPart_ap, fB_ap, tAnd_ap, tOr_ap, tNot_ap, tYes_ap, fTru_ap, fAndV_ap, fOrV_ap, fNotV_ap, fIf_ap, fChain_ap, aNil_ap, aCons_ap, fTup_ap, fLst_ap, fCall_ap, fCallN_ap, fCallB_ap, iList_ap, iTup_ap, iRange1_ap, iRange2_ap, gSet_ap, gTup_ap, gsNil_ap, gsCons_ap, fLc_ap, wipe_nil, wipe_cons, ofO_ite, oIx_map, oIx_tmap, oIx_ro, oIx_t0, oIx_t1, oIx_t2, oIx_t3, oAdd_int, oAdd_lst, oAdd_str, oAdd_tup, oCat_ap, oRep_ap, oSub_int, oMul_int, oFdiv_int, oMod_int, oPow_int, oNeg_int, oEq_int, oNe_int, oEq_str, oNe_str, oEq_bool, oNe_bool, oLt_int, oLe_int, oGt_int, oGe_int, asInt_ap, asBool_ap, oLen_map, oLen_tup, oLen_ro, oAll_map, oAny_map, oSum_map, oInt_int, oInt_bool, oAbs_int, oMax2_int, oMin2_int, oList_lst, oList_tup, oRev_map, oSl_map, oSlL_map, oIsi_bool, oIsN_none, oIsN_int, truD_bool, truD_int, truD_map, itList_ap, itList_ro, itTup_ap, oRange1_int, oRange2_int, onlyFlat_int, onlyFlat_str, onlyFlat_bool, newD_ap, oIAdd_int, o2L_ap, sAl_ap, alL_ap, asLst_ap, sAlApp_ap, sAlPut_ap, s2App_ap, s2AppAt_ap, killE_un, killE_sh, killE_ow, killE_o2, killE_al, view_ap, viewE_un, viewE_sh, viewE_ow, viewE_o2, viewE_al, viewA_map, ofO_get, ixN_nat, List.map_cons, List.map_nil, mapO_all, mapO_guard, lcAll_map, filO_if, List.set_cons_zero, List.set_cons_succ, decide_eq_true_eq, Bool.not_eq_true', decide_eq_false_iff_not, if_true, if_false, ite_true, ite_false, Bool.false_eq_true, List.length_cons, List.length_nil, List.length_range, and_self, Int.toNat_natCast, Nat.reduceAdd, sz0, sz1, sz2, sz3, sz4, sz5, sz6, sz7, sz8, sz9, sz10, sz11, sz12, sz13, sz14, sz15, sz16, sz17, sz18, sz19, sz20, ePr, z5, z6, List.length_map, List.length_append]
    split
    · have a1 := Int.emod_nonneg (nth dr 8) (b := l.length) (by omega)
      have a2 := Int.emod_lt_of_pos (nth dr 8) (b := l.length) (by omega)
      have a3 := Int.emod_nonneg (nth dr 9) (b := l.length) (by omega)
      have a4 := Int.emod_lt_of_pos (nth dr 9) (b := l.length) (by omega)
      rw [eight]
      generalize nth dr 8 % l.length = iv at *
      generalize nth dr 9 % l.length = jv at *
      generalize hq : [((nth l iv).1 + 1, (nth l iv).2), ((nth l iv).1, (nth l iv).2 + 1), ((nth l iv).1 - 1, (nth l iv).2), ((nth l iv).1, (nth l iv).2 - 1), ((nth l iv).2, (nth l iv).1), ((nth l iv).1 - (old.length : Int), (nth l iv).2), ((nth l iv).1, (nth l iv).2 - (new.length : Int)), ((nth l jv).1, (nth l jv).2)] = qs
      have hq8 : qs.length = 8 := by rw [← hq]; rfl
      clear hq
      have c1 := cut_le (l := l) (lo := none) (hi := some iv)
      have c2 := cut_le (l := l) (lo := some (iv + 1)) (hi := none)
      have c3 := cut_le (l := l) (lo := some iv) (hi := none)
      refine ⟨by omega, by omega, by omega, by omega, ?_⟩
      refine SS_seq' (fun ρ => ∃ ds x8 x9 x10 x11 x12 x13 x15, ρ = [.sh (eOld old), .sh (eOld new), .sh (ePap c l ls), .sh (.list (dr.map .int)), .sh (.int c), .sh (ePrs l), .sh (eLab ls), .ow (.list ds), x8, x9, x10, x11, x12, x13, .sh (.int iv), x15] ∧ Paps 1000 41 ds) ?_ ?_
      · obtain ⟨J, hJ⟩ : ∃ J : Nat → Rho → Prop, ∀ k ρ, J k ρ ↔ ∃ ds x8 x9 x10 x11 x12 x13 x15, ρ = [.sh (eOld old), .sh (eOld new), .sh (ePap c l ls), .sh (.list (dr.map .int)), .sh (.int c), .sh (ePrs l), .sh (eLab ls), .ow (.list ds), x8, x9, x10, x11, x12, x13, .sh (.int iv), x15] ∧ Paps 1000 (33 + k) ds := ⟨_, fun _ _ => Iff.rfl⟩
        refine SS_for J ((hJ _ _).mpr ⟨_, _, _, _, _, _, _, _, rfl, hp⟩) ?_ ?_
        · intro k q ρ hk hρ
          obtain ⟨ds, x8, x9, x10, x11, x12, x13, x15, rfl, hp⟩ := (hJ _ _).mp hρ
          clear hρ
          have hk8 : k < qs.length := (List.getElem?_eq_some_iff.mp hk).1
          have c5 := hp.1
          have z7 : (cut l none (some iv)).length + 1 ≤ sizeLine := szl (by omega)
          have z8 : (cut l none (some iv)).length + 1 + (cut l (some (iv + 1)) none).length ≤ sizeLine := szl (by omega)
          have z9 : ds.length < sizeLine := szl' (by omega)
          simp -implicitDefEqProofs -dsimp only [sSeq_ap, sFrz_ap, sNext_ap, sBreak_ap, sCont_ap, sDrop_ap, sRet_ap, sRetN_ap, sRet0_ap, sRetO_ap, owOf_ow, owOf_o2, sIf_ap, sAsg_ap, sSetN_ap, owL_ap, sApp_ap, sPut_ap, sAug_ap, sFor_ap, sSetN2_ap, bind_ok, bind_no, bind_ex, calm_ok, calm_no, calm_ex, toS_ok, toS_no, toS_ex, seq_nx, seq_rt, seq_bk, seq_ct, seq_no, seq_ex, bind_guard, bind_ite, calm_ite, toS_ite, seq_ite, sseq_assoc, obind_assoc, S_ok, S_no, S_guard, S_ite, SS_nx, SS_bk, SS_ct, SS_rt, SS_no, SS_guard, SS_ite, ite_F, ret_b, bl_b, fV_0, fV_s, fS_0, fS_s, evB_sh, evB_ow, evS_sh, slot_0, slot_s, getD_0, getD_s, frz_ap, frzE_sh, frzE_ow, frzE_o2, frzE_un, fC_ap, f1_ap, f2_ap, fX_ap, fXT_ap, fSl_ap, fSlL_ap, fNoPart_ap, fPart_ap, fB_ap, tAnd_ap, tOr_ap, tNot_ap, tYes_ap, fTru_ap, fAndV_ap, fOrV_ap, fNotV_ap, fIf_ap, fChain_ap, aNil_ap, aCons_ap, fTup_ap, fLst_ap, fCall_ap, fCallN_ap, fCallB_ap, iList_ap, iTup_ap, iRange1_ap, iRange2_ap, gSet_ap, gTup_ap, gsNil_ap, gsCons_ap, fLc_ap, wipe_nil, wipe_cons, ofO_ite, oIx_map, oIx_tmap, oIx_ro, oIx_t0, oIx_t1, oIx_t2, oIx_t3, oAdd_int, oAdd_lst, oAdd_str, oAdd_tup, oCat_ap, oRep_ap, oSub_int, oMul_int, oFdiv_int, oMod_int, oPow_int, oNeg_int, oEq_int, oNe_int, oEq_str, oNe_str, oEq_bool, oNe_bool, oLt_int, oLe_int, oGt_int, oGe_int, asInt_ap, asBool_ap, oLen_map, oLen_tup, oLen_ro, oAll_map, oAny_map, oSum_map, oInt_int, oInt_bool, oAbs_int, oMax2_int, oMin2_int, oList_lst, oList_tup, oRev_map, oSl_map, oSlL_map, oIsi_bool, oIsN_none, oIsN_int, truD_bool, truD_int, truD_map, itList_ap, itList_ro, itTup_ap, oRange1_int, oRange2_int, onlyFlat_int, onlyFlat_str, onlyFlat_bool, newD_ap, oIAdd_int, o2L_ap, sAl_ap, alL_ap, asLst_ap, sAlApp_ap, sAlPut_ap, s2App_ap, s2AppAt_ap, killE_un, killE_sh, killE_ow, killE_o2, killE_al, view_ap, viewE_un, viewE_sh, viewE_ow, viewE_o2, viewE_al, viewA_map, ofO_get, ixN_nat, List.map_cons, List.map_nil, mapO_all, mapO_guard, lcAll_map, filO_if, List.set_cons_zero, List.set_cons_succ, decide_eq_true_eq, Bool.not_eq_true', decide_eq_false_iff_not, if_true, if_false, ite_true, ite_false, Bool.false_eq_true, List.length_cons, List.length_nil, List.length_range, and_self, Int.toNat_natCast, Nat.reduceAdd, sz0, sz1, sz2, sz3, sz4, sz5, sz6, sz7, sz8, sz9, sz10, sz11, sz12, sz13, sz14, sz15, sz16, sz17, sz18, sz19, sz20, List.length_map, List.length_append, z7, z8, z9]
          exact (hJ _ _).mpr ⟨_, _, _, _, _, _, _, _, rfl, hp.snoc (pap (pl_app (a := 401) (b := 400) (pl_app (a := 400) (b := 1) (pl_cut (by omega)) pl_oneP (by omega)) (pl_cut (by omega)) (by omega)) l1)⟩
        · intro ρ hρ
          obtain ⟨ds, x8, x9, x10, x11, x12, x13, x15, rfl, hp⟩ := (hJ _ _).mp hρ
          rw [hq8] at hp
          exact ⟨_, _, _, _, _, _, _, _, rfl, hp⟩
      · rintro ρ ⟨ds, x8, x9, x10, x11, x12, x13, x15, rfl, hp⟩
        have c5 := hp.1
        have z7 : (cut l none (some iv)).length + 1 ≤ sizeLine := szl (by omega)
        have z8 : (cut l none (some iv)).length + 1 + (cut l (some iv) none).length ≤ sizeLine := szl (by omega)
        have z9 : ds.length < sizeLine := szl' (by omega)
        have b1 : -(l.length : Int) ≤ iv ∧ iv < l.length := by omega
        simp -implicitDefEqProofs -dsimp only [sSeq_ap, sFrz_ap, sNext_ap, sBreak_ap, sCont_ap, sDrop_ap, sRet_ap, sRetN_ap, sRet0_ap, sRetO_ap, owOf_ow, owOf_o2, sIf_ap, sAsg_ap, sSetN_ap, owL_ap, sApp_ap, sPut_ap, sAug_ap, sFor_ap, sSetN2_ap, bind_ok, bind_no, bind_ex, calm_ok, calm_no, calm_ex, toS_ok, toS_no, toS_ex, seq_nx, seq_rt, seq_bk, seq_ct, seq_no, seq_ex, bind_guard, bind_ite, calm_ite, toS_ite, seq_ite, sseq_assoc, obind_assoc, S_ok, S_no, S_guard, S_ite, SS_nx, SS_bk, SS_ct, SS_rt, SS_no, SS_guard, SS_ite, ite_F, ret_b, bl_b, fV_0, fV_s, fS_0, fS_s, evB_sh, evB_ow, evS_sh, slot_0, slot_s, getD_0, getD_s, frz_ap, frzE_sh, frzE_ow, frzE_o2, frzE_un, fC_ap, f1_ap, f2_ap, fX_ap, fXT_ap, fSl_ap, fSlL_ap, fNoPart_ap, fPart_ap, fB_ap, tAnd_ap, tOr_ap, tNot_ap, tYes_ap, fTru_ap, fAndV_ap, fOrV_ap, fNotV_ap, fIf_ap, fChain_ap, aNil_ap, aCons_ap, fTup_ap, fLst_ap, fCall_ap, fCallN_ap, fCallB_ap, iList_ap, iTup_ap, iRange1_ap, iRange2_ap, gSet_ap, gTup_ap, gsNil_ap, gsCons_ap, fLc_ap, wipe_nil, wipe_cons, ofO_ite, oIx_map, oIx_tmap, oIx_ro, oIx_t0, oIx_t1, oIx_t2, oIx_t3, oAdd_int, oAdd_lst, oAdd_str, oAdd_tup, oCat_ap, oRep_ap, oSub_int, oMul_int, oFdiv_int, oMod_int, oPow_int, oNeg_int, oEq_int, oNe_int, oEq_str, oNe_str, oEq_bool, oNe_bool, oLt_int, oLe_int, oGt_int, oGe_int, asInt_ap, asBool_ap, oLen_map, oLen_tup, oLen_ro, oAll_map, oAny_map, oSum_map, oInt_int, oInt_bool, oAbs_int, oMax2_int, oMin2_int, oList_lst, oList_tup, oRev_map, oSl_map, oSlL_map, oIsi_bool, oIsN_none, oIsN_int, truD_bool, truD_int, truD_map, itList_ap, itList_ro, itTup_ap, oRange1_int, oRange2_int, onlyFlat_int, onlyFlat_str, onlyFlat_bool, newD_ap, oIAdd_int, o2L_ap, sAl_ap, alL_ap, asLst_ap, sAlApp_ap, sAlPut_ap, s2App_ap, s2AppAt_ap, killE_un, killE_sh, killE_ow, killE_o2, killE_al, view_ap, viewE_un, viewE_sh, viewE_ow, viewE_o2, viewE_al, viewA_map, ofO_get, ixN_nat, List.map_cons, List.map_nil, mapO_all, mapO_guard, lcAll_map, filO_if, List.set_cons_zero, List.set_cons_succ, decide_eq_true_eq, Bool.not_eq_true', decide_eq_false_iff_not, if_true, if_false, ite_true, ite_false, Bool.false_eq_true, List.length_cons, List.length_nil, List.length_range, and_self, Int.toNat_natCast, Nat.reduceAdd, sz0, sz1, sz2, sz3, sz4, sz5, sz6, sz7, sz8, sz9, sz10, sz11, sz12, sz13, sz14, sz15, sz16, sz17, sz18, sz19, sz20, List.length_map, List.length_append, z7, z8, z9, b1]
        have hp := hp.snoc (d := .tuple [.int (c + 1), .list ((cut l none (some iv)).map ePr ++ [ePr (nth l iv)] ++ (cut l (some iv) none).map ePr), eLab ls]) (pap (pl_app (a := 401) (b := 400) (pl_app (a := 400) (b := 1) (pl_cut (by omega)) pl_oneP (by omega)) (pl_cut (by omega)) (by omega)) l1)
        exact ⟨_, rfl, by have := hp.1; omega, hp.2⟩
    · exact ⟨ds, rfl, by have := hp.1; omega, hp.2⟩
end K81

set_option maxRecDepth 100000
set_option maxHeartbeats 4000000
namespace K81
open PySem Dl Out
def pool : List Str := [Str.ofString "a", Str.ofString "b", Str.ofString "", Str.ofString " ", Str.ofString "a b", Str.ofString "B"]
theorem pool_eq : PyData.list [.str (Str.ofString "a"), .str (Str.ofString "b"), .str (Str.ofString ""), .str (Str.ofString " "), .str (Str.ofString "a b"), .str (Str.ofString "B")] = .list (pool.map .str) := rfl
theorem map_str {α : Type} {f : α → Str} {l : List α} : l.map (fun a => PyData.str (f a)) = (l.map f).map PyData.str := by rw [List.map_map]; rfl
/-- words that == takes, at most n -/
def Words (n : Nat) (l : List Str) : Prop := l.length ≤ n ∧ ∀ s ∈ l, PyData.strOk s = true
theorem pool_ok : ∀ s ∈ pool, PyData.strOk s = true := by decide +kernel
theorem words_map {n : Nat} {l : List Int} {f : Int → Int} (h : l.length ≤ n) (k : ∀ a ∈ l, 0 ≤ f a ∧ f a < 6) : Words n (l.map fun a => nth pool (f a)) := ⟨by rw [List.length_map]; exact h, fun s hs => by
  obtain ⟨a, ha, rfl⟩ := List.mem_map.mp hs
  exact pool_ok _ (nth_mem (k a ha).1 (k a ha).2)⟩
theorem words_cut {n : Nat} {l : List Str} {lo hi : Option Int} (h : Words n l) : Words n (cut l lo hi) := ⟨Nat.le_trans cut_le h.1, fun s hs => h.2 s (cut_mem hs)⟩
theorem words_app {a b n : Nat} {l m : List Str} (h : Words a l) (k : Words b m) (e : a + b ≤ n) : Words n (l ++ m) := ⟨by rw [List.length_append]; have := h.1; have := k.1; omega, fun s hs => by
  rcases List.mem_append.mp hs with hs | hs
  · exact h.2 s hs
  · exact k.2 s hs⟩
theorem numbersI {cell c : Int} (h0 : 0 ≤ c) (h1 : c ≤ 1000) : ∃ l, g_law_numbers [.int cell, .int c, .int 5040] = ok (true, .list (l.map .int)) ∧ Draws c.toNat l := by
  obtain ⟨l, h, k⟩ := numbers_eq (cell := cell) (n := c.toNat) (by omega)
  rw [Int.toNat_of_nonneg h0] at h
  exact ⟨l, h, k⟩
theorem Draws.at {n : Nat} {l : List Int} (h : Draws n l) {i : Int} (h0 : 0 ≤ i) (h1 : i < n) : 0 ≤ nth l i ∧ nth l i < 5040 := h.2 _ (nth_mem h0 (by rw [h.1]; exact h1))
theorem tab_lab {a b : Nat} {f : Nat → Nat → Int} : (List.range a).map (fun i => PyData.list ((List.range b).map fun j => PyData.int (f i j))) = ((List.range a).map fun i => (List.range b).map fun j => f i j).map eRow := by
  rw [List.map_map]
  congr 1
  funext i
  show _ = PyData.list (((List.range b).map fun j => f i j).map .int)
  rw [List.map_map]
  rfl
theorem tab_rect {old new : List Str} {a b : Nat} {f : Nat → Nat → Int} (ha : a = old.length + 1) (hb : b = new.length + 1) : Rect old new ((List.range a).map fun i => (List.range b).map fun j => f i j) := ⟨by rw [List.length_map, List.length_range, ha], fun r hr => by
  obtain ⟨i, _, rfl⟩ := List.mem_map.mp hr
  rw [List.length_map, List.length_range, hb]⟩
theorem row_fold {l : List (List Int)} : l.map (fun a => PyData.list (a.map PyData.int)) = l.map eRow := rfl
theorem ex_map {α : Type} {f : α → D} {Q : α → Prop} : ∀ {ds : List D}, (∀ d ∈ ds, ∃ a, d = f a ∧ Q a) → ∃ l : List α, ds = l.map f ∧ ∀ a ∈ l, Q a
  | [], _ => ⟨[], rfl, fun a h => (nomatch h)⟩
  | d :: ds, h => by
    obtain ⟨l, h1, h2⟩ := ex_map fun e he => h e (List.mem_cons_of_mem _ he)
    obtain ⟨a, h3, h4⟩ := h d List.mem_cons_self
    refine ⟨a :: l, by rw [h1, h3]; rfl, fun b hb => ?_⟩
    rcases List.mem_cons.mp hb with rfl | hb
    · exact h4
    · exact h2 b hb
abbrev P3 : Type := Int × List (Int × Int) × List (List Int)
def eP3 (p : P3) : D := .tuple [.int p.1, ePrs p.2.1, eLab p.2.2]
def Sz (p : P3) : Prop := p.2.1.length ≤ 1000 ∧ p.2.2.length ≤ 1000 ∧ ∀ r ∈ p.2.2, r.length ≤ 1000
theorem paps_map {ds : List D} (h : ∀ d ∈ ds, IsPap 1000 d) : ∃ ps : List P3, ds = ps.map eP3 ∧ ∀ p ∈ ps, Sz p := ex_map fun d hd => by
  obtain ⟨c, xs, ys, rfl, ⟨h1, h2⟩, h3, h4⟩ := h d hd
  obtain ⟨l, rfl, _⟩ := ex_map (f := ePr) (Q := fun _ => True) fun d hd => by
    obtain ⟨p, hp⟩ := h2 d hd
    exact ⟨p, hp, trivial⟩
  obtain ⟨ls, rfl, h5⟩ := ex_map (f := eRow) (Q := fun r => r.length ≤ 1000) h4
  rw [List.length_map] at h1 h3
  exact ⟨(c, l, ls), rfl, h1, h3, h5⟩
theorem shaped_words {n : Nat} {l : List Str} (h : Words n l) : Shp 1 (eOld l) := shp_map fun s hs => shp_str (h.2 s hs)
theorem shaped_p3 {p : P3} : Shp 4 (eP3 p) := shp_tup fun d hd => by
  rcases List.mem_cons.mp hd with rfl | hd
  · exact shp_int.up (by omega)
  · rcases List.mem_cons.mp hd with rfl | hd
    · exact (shp_map (k := 1) fun q _ => shp_tup fun d hd => by
        rcases List.mem_cons.mp hd with rfl | hd
        · exact shp_int
        · rw [List.mem_singleton.mp hd]; exact shp_int).up (by omega)
    · rw [List.mem_singleton.mp hd]
      exact (shp_map (k := 1) fun r _ => shp_map fun i _ => shp_int).up (by omega)
open Classical in
theorem law_true (ns : List Int) (_ : ns.length ≤ 63) : ∃ b, g_law [roD (ns.map PyData.int)] = .ok (b, .bool true) := by
  suffices h : (g_law [roD (ns.map PyData.int)]).S fun r => ∃ b, r = (b, .bool true) by
    obtain ⟨r, h1, b, h2⟩ := S_iff.mp h
    exact ⟨b, by rw [h1, h2]⟩
  refine S_law ?_
  obtain ⟨i0, hc0⟩ := cell_eq (ns := ns) (k := 0) (by omega)
  obtain ⟨i1, hc1⟩ := cell_eq (ns := ns) (k := 1) (by omega)
  obtain ⟨i2, hc2⟩ := cell_eq (ns := ns) (k := 2) (by omega)
  obtain ⟨dr, hn0, hd⟩ := numbersI (cell := i0) (c := 16) (by omega) (by omega)
  have hd : Draws 16 dr := hd
  have hdl := hd.1
  have q10 : -(dr.length : Int) ≤ 10 ∧ (10 : Int) < dr.length := by omega
  have q11 : -(dr.length : Int) ≤ 11 ∧ (11 : Int) < dr.length := by omega
  have q12 : -(dr.length : Int) ≤ 12 ∧ (12 : Int) < dr.length := by omega
  have p6 : (0 : Int) < 6 ∧ (0 : Int) < 10 := by omega
  obtain ⟨l1, hn1, hd1⟩ := numbersI (cell := i1) (c := nth dr 11 % 10) (by omega) (by omega)
  obtain ⟨l2, hn2, hd2⟩ := numbersI (cell := i2) (c := nth dr 12 % 10) (by omega) (by omega)
  have s1 : l1.length ≤ sizeLine := szl (by have := hd1.1; omega)
  have s2 : l2.length ≤ sizeLine := szl (by have := hd2.1; omega)
  have p7 : 0 < 1 + nth dr 10 % 6 := by omega
  have p8 : ∀ a : Int, 0 ≤ a % (1 + nth dr 10 % 6) ∧ a % (1 + nth dr 10 % 6) < 6 := fun a => by
    have a1 := Int.emod_nonneg a (b := 1 + nth dr 10 % 6) (by omega)
    have a2 := Int.emod_lt_of_pos a (b := 1 + nth dr 10 % 6) (by omega)
    omega
  have pl : pool.length = 6 := rfl
  have p9 : ∀ a : Int, -(pool.length : Int) ≤ a % (1 + nth dr 10 % 6) ∧ a % (1 + nth dr 10 % 6) < pool.length := fun a => by
    have := p8 a
    omega
  simp -implicitDefEqProofs -dsimp only [fb_law, sSeq_ap, sFrz_ap, sNext_ap, sBreak_ap, sCont_ap, sDrop_ap, sRet_ap, sRetN_ap, sRet0_ap, sRetO_ap, owOf_ow, owOf_o2, sAsg_ap, sSetN_ap, owL_ap, sApp_ap, sPut_ap, sAug_ap, sFor_ap, sSetN2_ap, bind_ok, bind_no, bind_ex, calm_ok, calm_no, calm_ex, toS_ok, toS_no, toS_ex, seq_nx, seq_rt, seq_bk, seq_ct, seq_no, seq_ex, bind_guard, bind_ite, calm_ite, toS_ite, seq_ite, sseq_assoc, obind_assoc, S_ok, S_no, S_guard, S_ite, SS_nx, SS_bk, SS_ct, SS_rt, SS_no, SS_guard, SS_ite, ite_F, ret_b, bl_b, fV_0, fV_s, fS_0, fS_s, evB_sh, evB_ow, evS_sh, slot_0, slot_s, getD_0, getD_s, frz_ap, frzE_sh, frzE_ow, frzE_o2, frzE_un, fC_ap, f1_ap, f2_ap, fX_ap, fXT_ap, fSl_ap, fSlL_ap, fNoPart_ap, fPart_ap, fB_ap, tAnd_ap, tOr_ap, tNot_ap, tYes_ap, fTru_ap, fAndV_ap, fOrV_ap, fNotV_ap, fIf_ap, fChain_ap, aNil_ap, aCons_ap, fTup_ap, fLst_ap, fCall_ap, fCallN_ap, fCallB_ap, iList_ap, iTup_ap, iRange1_ap, iRange2_ap, gSet_ap, gTup_ap, gsNil_ap, gsCons_ap, fLc_ap, wipe_nil, wipe_cons, ofO_ite, oIx_map, oIx_tmap, oIx_ro, oIx_t0, oIx_t1, oIx_t2, oIx_t3, oAdd_int, oAdd_lst, oAdd_str, oAdd_tup, oCat_ap, oRep_ap, oSub_int, oMul_int, oFdiv_int, oMod_int, oPow_int, oNeg_int, oEq_int, oNe_int, oEq_str, oNe_str, oEq_bool, oNe_bool, oLt_int, oLe_int, oGt_int, oGe_int, asInt_ap, asBool_ap, oLen_map, oLen_tup, oLen_ro, oAll_map, oAny_map, oSum_map, oInt_int, oInt_bool, oAbs_int, oMax2_int, oMin2_int, oList_lst, oList_tup, oRev_map, oSl_map, oSlL_map, oIsi_bool, oIsN_none, oIsN_int, truD_bool, truD_int, truD_map, itList_ap, itList_ro, itTup_ap, oRange1_int, oRange2_int, onlyFlat_int, onlyFlat_str, onlyFlat_bool, newD_ap, oIAdd_int, o2L_ap, sAl_ap, alL_ap, asLst_ap, sAlApp_ap, sAlPut_ap, s2App_ap, s2AppAt_ap, killE_un, killE_sh, killE_ow, killE_o2, killE_al, view_ap, viewE_un, viewE_sh, viewE_ow, viewE_o2, viewE_al, viewA_map, ofO_get, ixN_nat, List.map_cons, List.map_nil, mapO_all, mapO_guard, lcAll_map, filO_if, List.set_cons_zero, List.set_cons_succ, decide_eq_true_eq, Bool.not_eq_true', decide_eq_false_iff_not, if_true, if_false, ite_true, ite_false, Bool.false_eq_true, List.length_cons, List.length_nil, List.length_range, and_self, Int.toNat_natCast, Nat.reduceAdd, sz0, sz1, sz2, sz3, sz4, sz5, sz6, sz7, sz8, sz9, sz10, sz11, sz12, sz13, sz14, sz15, sz16, sz17, sz18, sz19, sz20, hc0, hc1, hc2, hn0, hn1, hn2, q10, q11, q12, p6, p7, p9, s1, s2, pool_eq, map_str]
  obtain ⟨old, eo⟩ : ∃ old, old = l1.map fun a => nth pool (a % (1 + nth dr 10 % 6)) := ⟨_, rfl⟩
  obtain ⟨new0, en⟩ : ∃ new, new = l2.map fun a => nth pool (a % (1 + nth dr 10 % 6)) := ⟨_, rfl⟩
  have wo : Words 10 old := by rw [eo]; exact words_map (by have := hd1.1; omega) fun a _ => p8 a
  have wn : Words 10 new0 := by rw [en]; exact words_map (by have := hd2.1; omega) fun a _ => p8 a
  rw [← eo, ← en]
  clear eo en hn1 hn2 hd1 hd2 s1 s2 hc0 hc1 hc2
  refine SS_seq' (fun ρ => ∃ (x5 : EV) (new : List Str), ρ = [.sh (roD (ns.map .int)), .sh (.list (dr.map .int)), .sh (.list (pool.map .str)), .sh (.int (1 + nth dr 10 % 6)), .sh (eOld old), x5, .sh (eOld new), .un, .un, .un, .un, .un, .un, .un, .un, .un, .un, .un] ∧ Words 30 new) ?_ ?_
  · have q13 : -(dr.length : Int) ≤ 13 ∧ (13 : Int) < dr.length := by omega
    have q14 : -(dr.length : Int) ≤ 14 ∧ (14 : Int) < dr.length := by omega
    have p4 : (0 : Int) < 4 := by omega
    have p5 : 0 < (old.length : Int) + 1 := by omega
    simp -implicitDefEqProofs -dsimp only [sSeq_ap, sFrz_ap, sNext_ap, sBreak_ap, sCont_ap, sDrop_ap, sRet_ap, sRetN_ap, sRet0_ap, sRetO_ap, owOf_ow, owOf_o2, sIf_ap, sAsg_ap, sSetN_ap, owL_ap, sApp_ap, sPut_ap, sAug_ap, sFor_ap, sSetN2_ap, bind_ok, bind_no, bind_ex, calm_ok, calm_no, calm_ex, toS_ok, toS_no, toS_ex, seq_nx, seq_rt, seq_bk, seq_ct, seq_no, seq_ex, bind_guard, bind_ite, calm_ite, toS_ite, seq_ite, sseq_assoc, obind_assoc, S_ok, S_no, S_guard, S_ite, SS_nx, SS_bk, SS_ct, SS_rt, SS_no, SS_guard, SS_ite, ite_F, ret_b, bl_b, fV_0, fV_s, fS_0, fS_s, evB_sh, evB_ow, evS_sh, slot_0, slot_s, getD_0, getD_s, frz_ap, frzE_sh, frzE_ow, frzE_o2, frzE_un, fC_ap, f1_ap, f2_ap, fX_ap, fXT_ap, fSl_ap, fSlL_ap, fNoPart_ap, fPart_ap, fB_ap, tAnd_ap, tOr_ap, tNot_ap, tYes_ap, fTru_ap, fAndV_ap, fOrV_ap, fNotV_ap, fIf_ap, fChain_ap, aNil_ap, aCons_ap, fTup_ap, fLst_ap, fCall_ap, fCallN_ap, fCallB_ap, iList_ap, iTup_ap, iRange1_ap, iRange2_ap, gSet_ap, gTup_ap, gsNil_ap, gsCons_ap, fLc_ap, wipe_nil, wipe_cons, ofO_ite, oIx_map, oIx_tmap, oIx_ro, oIx_t0, oIx_t1, oIx_t2, oIx_t3, oAdd_int, oAdd_lst, oAdd_str, oAdd_tup, oCat_ap, oRep_ap, oSub_int, oMul_int, oFdiv_int, oMod_int, oPow_int, oNeg_int, oEq_int, oNe_int, oEq_str, oNe_str, oEq_bool, oNe_bool, oLt_int, oLe_int, oGt_int, oGe_int, asInt_ap, asBool_ap, oLen_map, oLen_tup, oLen_ro, oAll_map, oAny_map, oSum_map, oInt_int, oInt_bool, oAbs_int, oMax2_int, oMin2_int, oList_lst, oList_tup, oRev_map, oSl_map, oSlL_map, oIsi_bool, oIsN_none, oIsN_int, truD_bool, truD_int, truD_map, itList_ap, itList_ro, itTup_ap, oRange1_int, oRange2_int, onlyFlat_int, onlyFlat_str, onlyFlat_bool, newD_ap, oIAdd_int, o2L_ap, sAl_ap, alL_ap, asLst_ap, sAlApp_ap, sAlPut_ap, s2App_ap, s2AppAt_ap, killE_un, killE_sh, killE_ow, killE_o2, killE_al, view_ap, viewE_un, viewE_sh, viewE_ow, viewE_o2, viewE_al, viewA_map, ofO_get, ixN_nat, List.map_cons, List.map_nil, mapO_all, mapO_guard, lcAll_map, filO_if, List.set_cons_zero, List.set_cons_succ, decide_eq_true_eq, Bool.not_eq_true', decide_eq_false_iff_not, if_true, if_false, ite_true, ite_false, Bool.false_eq_true, List.length_cons, List.length_nil, List.length_range, and_self, Int.toNat_natCast, Nat.reduceAdd, sz0, sz1, sz2, sz3, sz4, sz5, sz6, sz7, sz8, sz9, sz10, sz11, sz12, sz13, sz14, sz15, sz16, sz17, sz18, sz19, sz20, q13, q14, p4, p5, List.length_map, List.length_append]
    split
    · have c1 := (words_cut (lo := none) (hi := some (nth dr 14 % ((old.length : Int) + 1))) wo)
      have c2 := (words_cut (lo := none) (hi := some 2) wn)
      have c3 := (words_cut (lo := none) (hi := some 5) (words_cut (lo := some (nth dr 14 % ((old.length : Int) + 1))) (hi := none) wo))
      have c1l := c1.1
      have c2l := c2.1
      have c3l := c3.1
      refine ⟨szl (by omega), szl (by omega), .un, _, ?_, words_app (a := 20) (b := 10) (words_app (a := 10) (b := 10) c1 c2 (by omega)) c3 (by omega)⟩
      rw [show ∀ l m : List Str, l.map PyData.str ++ m.map PyData.str = (l ++ m).map PyData.str from fun l m => List.map_append.symm, show ∀ l m : List Str, l.map PyData.str ++ m.map PyData.str = (l ++ m).map PyData.str from fun l m => List.map_append.symm]
    · exact ⟨_, _, rfl, Nat.le_trans wn.1 (by omega), wn.2⟩
  · rintro ρ ⟨x5, new, rfl, wn⟩
    have wol := wo.1
    have wnl := wn.1
    obtain ⟨tb, ht, hr, hT⟩ := table_eq (old := old) (new := new) (by omega) (by omega)
    obtain ⟨pr, hf, hcr, hpl⟩ := from_end_eq (old := old) (new := new) (by omega) (by omega)
    have hr0 := hr.1
    have h00 : (nth tb 0).length = new.length + 1 := hr.2 _ (nth_mem (by omega) (by omega))
    have b1 : -(tb.length : Int) ≤ 0 ∧ (0 : Int) < tb.length := by omega
    have b2 : -((nth tb 0).length : Int) ≤ 0 ∧ (0 : Int) < (nth tb 0).length := by omega
    have z1 : rgOk ((old.length : Int) + 1) := rg_of (by omega) (by omega)
    have z2 : rgOk ((new.length : Int) + 1) := rg_of (by omega) (by omega)
    have z3 : ((old.length : Int) + 1).toNat ≤ sizeLine := szl (by omega)
    have z4 : ((new.length : Int) + 1).toNat ≤ sizeLine := szl (by omega)
    simp -implicitDefEqProofs -dsimp only [sSeq_ap, sFrz_ap, sNext_ap, sBreak_ap, sCont_ap, sDrop_ap, sRet_ap, sRetN_ap, sRet0_ap, sRetO_ap, owOf_ow, owOf_o2, sAsg_ap, sSetN_ap, owL_ap, sApp_ap, sPut_ap, sAug_ap, sFor_ap, sSetN2_ap, bind_ok, bind_no, bind_ex, calm_ok, calm_no, calm_ex, toS_ok, toS_no, toS_ex, seq_nx, seq_rt, seq_bk, seq_ct, seq_no, seq_ex, bind_guard, bind_ite, calm_ite, toS_ite, seq_ite, sseq_assoc, obind_assoc, S_ok, S_no, S_guard, S_ite, SS_nx, SS_bk, SS_ct, SS_rt, SS_no, SS_guard, SS_ite, ite_F, ret_b, bl_b, fV_0, fV_s, fS_0, fS_s, evB_sh, evB_ow, evS_sh, slot_0, slot_s, getD_0, getD_s, frz_ap, frzE_sh, frzE_ow, frzE_o2, frzE_un, fC_ap, f1_ap, f2_ap, fX_ap, fXT_ap, fSl_ap, fSlL_ap, fNoPart_ap, fPart_ap, fB_ap, tAnd_ap, tOr_ap, tNot_ap, tYes_ap, fTru_ap, fAndV_ap, fOrV_ap, fNotV_ap, fIf_ap, fChain_ap, aNil_ap, aCons_ap, fTup_ap, fLst_ap, fCall_ap, fCallN_ap, fCallB_ap, iList_ap, iTup_ap, iRange1_ap, iRange2_ap, gSet_ap, gTup_ap, gsNil_ap, gsCons_ap, fLc_ap, wipe_nil, wipe_cons, ofO_ite, oIx_map, oIx_tmap, oIx_ro, oIx_t0, oIx_t1, oIx_t2, oIx_t3, oAdd_int, oAdd_lst, oAdd_str, oAdd_tup, oCat_ap, oRep_ap, oSub_int, oMul_int, oFdiv_int, oMod_int, oPow_int, oNeg_int, oEq_int, oNe_int, oEq_str, oNe_str, oEq_bool, oNe_bool, oLt_int, oLe_int, oGt_int, oGe_int, asInt_ap, asBool_ap, oLen_map, oLen_tup, oLen_ro, oAll_map, oAny_map, oSum_map, oInt_int, oInt_bool, oAbs_int, oMax2_int, oMin2_int, oList_lst, oList_tup, oRev_map, oSl_map, oSlL_map, oIsi_bool, oIsN_none, oIsN_int, truD_bool, truD_int, truD_map, itList_ap, itList_ro, itTup_ap, oRange1_int, oRange2_int, onlyFlat_int, onlyFlat_str, onlyFlat_bool, newD_ap, oIAdd_int, o2L_ap, sAl_ap, alL_ap, asLst_ap, sAlApp_ap, sAlPut_ap, s2App_ap, s2AppAt_ap, killE_un, killE_sh, killE_ow, killE_o2, killE_al, view_ap, viewE_un, viewE_sh, viewE_ow, viewE_o2, viewE_al, viewA_map, ofO_get, ixN_nat, List.map_cons, List.map_nil, mapO_all, mapO_guard, lcAll_map, filO_if, List.set_cons_zero, List.set_cons_succ, decide_eq_true_eq, Bool.not_eq_true', decide_eq_false_iff_not, if_true, if_false, ite_true, ite_false, Bool.false_eq_true, List.length_cons, List.length_nil, List.length_range, and_self, Int.toNat_natCast, Nat.reduceAdd, sz0, sz1, sz2, sz3, sz4, sz5, sz6, sz7, sz8, sz9, sz10, sz11, sz12, sz13, sz14, sz15, sz16, sz17, sz18, sz19, sz20, ht, hf, b1, b2, z1, z2, z3, z4, eRow]
    have e1 : ((old.length : Int) + 1).toNat = old.length + 1 := by omega
    have e2 : ((new.length : Int) + 1).toNat = new.length + 1 := by omega
    obtain ⟨M, hM⟩ : ∃ M : Nat → Nat → Int, ∀ i j, M i j = nth (nth tb i) j + (if 0 < (i : Int) + j then (if nth (nth tb i) j < nth (nth tb 0) 0 then 1 else 0) else 0) := ⟨_, fun _ _ => rfl⟩
    rw [mapO_ok (h := fun (i : Nat) => PyData.list ((List.range ((new.length : Int) + 1).toNat).map fun (j : Nat) => PyData.int (M i j)))]
    rotate_left
    · intro i hi
      rw [List.mem_range] at hi
      have hrow : (nth tb i).length = new.length + 1 := hr.2 _ (nth_mem (by omega) (by omega))
      rw [mapO_ok (h := fun (j : Nat) => PyData.int (M i j))]
      · rfl
      · intro j hj
        rw [List.mem_range] at hj
        rw [hM]
        rw [if_pos (by omega), if_pos (by omega)]
        split
        · rw [if_pos (by omega), if_pos (by omega)]
        · rfl
    simp -implicitDefEqProofs -dsimp only [sSeq_ap, sFrz_ap, sNext_ap, sBreak_ap, sCont_ap, sDrop_ap, sRet_ap, sRetN_ap, sRet0_ap, sRetO_ap, owOf_ow, owOf_o2, sAsg_ap, sSetN_ap, owL_ap, sApp_ap, sPut_ap, sAug_ap, sFor_ap, sSetN2_ap, bind_ok, bind_no, bind_ex, calm_ok, calm_no, calm_ex, toS_ok, toS_no, toS_ex, seq_nx, seq_rt, seq_bk, seq_ct, seq_no, seq_ex, bind_guard, bind_ite, calm_ite, toS_ite, seq_ite, sseq_assoc, obind_assoc, S_ok, S_no, S_guard, S_ite, SS_nx, SS_bk, SS_ct, SS_rt, SS_no, SS_guard, SS_ite, ite_F, ret_b, bl_b, fV_0, fV_s, fS_0, fS_s, evB_sh, evB_ow, evS_sh, slot_0, slot_s, getD_0, getD_s, frz_ap, frzE_sh, frzE_ow, frzE_o2, frzE_un, fC_ap, f1_ap, f2_ap, fX_ap, fXT_ap, fSl_ap, fSlL_ap, fNoPart_ap, fPart_ap, fB_ap, tAnd_ap, tOr_ap, tNot_ap, tYes_ap, fTru_ap, fAndV_ap, fOrV_ap, fNotV_ap, fIf_ap, fChain_ap, aNil_ap, aCons_ap, fTup_ap, fLst_ap, fCall_ap, fCallN_ap, fCallB_ap, iList_ap, iTup_ap, iRange1_ap, iRange2_ap, gSet_ap, gTup_ap, gsNil_ap, gsCons_ap, fLc_ap, wipe_nil, wipe_cons, ofO_ite, oIx_map, oIx_tmap, oIx_ro, oIx_t0, oIx_t1, oIx_t2, oIx_t3, oAdd_int, oAdd_lst, oAdd_str, oAdd_tup, oCat_ap, oRep_ap, oSub_int, oMul_int, oFdiv_int, oMod_int, oPow_int, oNeg_int, oEq_int, oNe_int, oEq_str, oNe_str, oEq_bool, oNe_bool, oLt_int, oLe_int, oGt_int, oGe_int, asInt_ap, asBool_ap, oLen_map, oLen_tup, oLen_ro, oAll_map, oAny_map, oSum_map, oInt_int, oInt_bool, oAbs_int, oMax2_int, oMin2_int, oList_lst, oList_tup, oRev_map, oSl_map, oSlL_map, oIsi_bool, oIsN_none, oIsN_int, truD_bool, truD_int, truD_map, itList_ap, itList_ro, itTup_ap, oRange1_int, oRange2_int, onlyFlat_int, onlyFlat_str, onlyFlat_bool, newD_ap, oIAdd_int, o2L_ap, sAl_ap, alL_ap, asLst_ap, sAlApp_ap, sAlPut_ap, s2App_ap, s2AppAt_ap, killE_un, killE_sh, killE_ow, killE_o2, killE_al, view_ap, viewE_un, viewE_sh, viewE_ow, viewE_o2, viewE_al, viewA_map, ofO_get, ixN_nat, List.map_cons, List.map_nil, mapO_all, mapO_guard, lcAll_map, filO_if, List.set_cons_zero, List.set_cons_succ, decide_eq_true_eq, Bool.not_eq_true', decide_eq_false_iff_not, if_true, if_false, ite_true, ite_false, Bool.false_eq_true, List.length_cons, List.length_nil, List.length_range, and_self, Int.toNat_natCast, Nat.reduceAdd, sz0, sz1, sz2, sz3, sz4, sz5, sz6, sz7, sz8, sz9, sz10, sz11, sz12, sz13, sz14, sz15, sz16, sz17, sz18, sz19, sz20, b1, b2, z1, z2, z3, z4, tab_lab, eRow]
    have hLM := tab_rect (old := old) (new := new) (f := fun i j => M i j) e1 e2
    have hLF := tab_rect (old := old) (new := new) (f := fun i j => min (nth (nth tb 0) 0) (min ((old.length : Int) - i) ((new.length : Int) - j))) e1 e2
    generalize ((List.range ((old.length : Int) + 1).toNat).map fun i => (List.range ((new.length : Int) + 1).toNat).map fun j => M i j) = LM at *
    generalize ((List.range ((old.length : Int) + 1).toNat).map fun (i : Nat) => (List.range ((new.length : Int) + 1).toNat).map fun (j : Nat) => min (nth (nth tb 0) 0) (min ((old.length : Int) - i) ((new.length : Int) - j))) = LF at *
    have hc : nth (nth tb 0) 0 = T old new 0 0 := hT 0 0 (by omega) (by omega)
    have gd : Good old new (nth (nth tb 0) 0) pr tb := by
      rw [hc]
      exact best_good hcr hpl hr hT
    have hle : T old new 0 0 ≤ old.length := Int.ofNat_le.mpr (lcs_le _ _)
    have hpr : pr.length ≤ 10 := by omega
    have sm : Small old new pr tb := ⟨by omega, by omega, by omega, by omega, fun r h => by have := hr.2 r h; omega⟩
    have hg : g_law_good [eOld old, eOld new, .tuple [.int (nth (nth tb 0) 0), ePrs pr, eLab tb]] = ok (false, .bool true) := by
      have := good_eq (c := nth (nth tb 0) 0) sm
      rw [decide_eq_true gd] at this
      exact this
    have lf1 := hLF.1
    have lm1 := hLM.1
    obtain ⟨ds1, hs1, hp1⟩ := spoilt_eq (old := old) (new := new) (c := nth (nth tb 0) 0) (l := pr) (ls := tb) (dr := dr) (by omega) (by omega) (by omega) (by omega) (by omega) (fun r h => by have := hr.2 r h; omega) hd
    obtain ⟨ds2, hs2, hp2⟩ := spoilt_eq (old := old) (new := new) (c := nth (nth tb 0) 0) (l := pr) (ls := LF) (dr := dr) (by omega) (by omega) (by omega) (by omega) (by omega) (fun r h => by have := hLF.2 r h; omega) hd
    unfold ePap at hs1 hs2
    have d1 := hp1.1
    have d2 := hp2.1
    have z5 : ds1.length + 2 ≤ sizeLine := szl (by omega)
    have z6 : ds1.length + 2 + ds2.length ≤ sizeLine := szl (by omega)
    simp -implicitDefEqProofs -dsimp only [sSeq_ap, sFrz_ap, sNext_ap, sBreak_ap, sCont_ap, sDrop_ap, sRet_ap, sRetN_ap, sRet0_ap, sRetO_ap, owOf_ow, owOf_o2, sIf_ap, sAsg_ap, sSetN_ap, owL_ap, sApp_ap, sPut_ap, sAug_ap, sFor_ap, sSetN2_ap, bind_ok, bind_no, bind_ex, calm_ok, calm_no, calm_ex, toS_ok, toS_no, toS_ex, seq_nx, seq_rt, seq_bk, seq_ct, seq_no, seq_ex, bind_guard, bind_ite, calm_ite, toS_ite, seq_ite, sseq_assoc, obind_assoc, S_ok, S_no, S_guard, S_ite, SS_nx, SS_bk, SS_ct, SS_rt, SS_no, SS_guard, SS_ite, ite_F, ret_b, bl_b, fV_0, fV_s, fS_0, fS_s, evB_sh, evB_ow, evS_sh, slot_0, slot_s, getD_0, getD_s, frz_ap, frzE_sh, frzE_ow, frzE_o2, frzE_un, fC_ap, f1_ap, f2_ap, fX_ap, fXT_ap, fSl_ap, fSlL_ap, fNoPart_ap, fPart_ap, fB_ap, tAnd_ap, tOr_ap, tNot_ap, tYes_ap, fTru_ap, fAndV_ap, fOrV_ap, fNotV_ap, fIf_ap, fChain_ap, aNil_ap, aCons_ap, fTup_ap, fLst_ap, fCall_ap, fCallN_ap, fCallB_ap, iList_ap, iTup_ap, iRange1_ap, iRange2_ap, gSet_ap, gTup_ap, gsNil_ap, gsCons_ap, fLc_ap, wipe_nil, wipe_cons, ofO_ite, oIx_map, oIx_tmap, oIx_ro, oIx_t0, oIx_t1, oIx_t2, oIx_t3, oAdd_int, oAdd_lst, oAdd_str, oAdd_tup, oCat_ap, oRep_ap, oSub_int, oMul_int, oFdiv_int, oMod_int, oPow_int, oNeg_int, oEq_int, oNe_int, oEq_str, oNe_str, oEq_bool, oNe_bool, oLt_int, oLe_int, oGt_int, oGe_int, asInt_ap, asBool_ap, oLen_map, oLen_tup, oLen_ro, oAll_map, oAny_map, oSum_map, oInt_int, oInt_bool, oAbs_int, oMax2_int, oMin2_int, oList_lst, oList_tup, oRev_map, oSl_map, oSlL_map, oIsi_bool, oIsN_none, oIsN_int, truD_bool, truD_int, truD_map, itList_ap, itList_ro, itTup_ap, oRange1_int, oRange2_int, onlyFlat_int, onlyFlat_str, onlyFlat_bool, newD_ap, oIAdd_int, o2L_ap, sAl_ap, alL_ap, asLst_ap, sAlApp_ap, sAlPut_ap, s2App_ap, s2AppAt_ap, killE_un, killE_sh, killE_ow, killE_o2, killE_al, view_ap, viewE_un, viewE_sh, viewE_ow, viewE_o2, viewE_al, viewA_map, ofO_get, ixN_nat, List.map_cons, List.map_nil, mapO_all, mapO_guard, lcAll_map, filO_if, List.set_cons_zero, List.set_cons_succ, decide_eq_true_eq, Bool.not_eq_true', decide_eq_false_iff_not, if_true, if_false, ite_true, ite_false, Bool.false_eq_true, List.length_cons, List.length_nil, List.length_range, and_self, Int.toNat_natCast, Nat.reduceAdd, sz0, sz1, sz2, sz3, sz4, sz5, sz6, sz7, sz8, sz9, sz10, sz11, sz12, sz13, sz14, sz15, sz16, sz17, sz18, sz19, sz20, hg, hs1, hs2, List.length_append, z5, z6]
    have lpr : PL 1000 (pr.map ePr) := pl_map (by omega)
    obtain ⟨ps, hps, hsz⟩ := paps_map (ds := ds1 ++ [PyData.tuple [.int (nth (nth tb 0) 0), ePrs pr, eLab LM], PyData.tuple [.int (nth (nth tb 0) 0), ePrs pr, eLab LF]] ++ ds2) fun d hd => by
      rcases List.mem_append.mp hd with hd | hd
      · rcases List.mem_append.mp hd with hd | hd
        · exact hp1.2 d hd
        · rcases List.mem_cons.mp hd with rfl | hd
          · exact pap lpr (ll_row (by omega) fun r h => by have := hLM.2 r h; omega)
          · rw [List.mem_singleton.mp hd]
            exact pap lpr (ll_row (by omega) fun r h => by have := hLF.2 r h; omega)
      · exact hp2.2 d hd
    rw [hps]
    have hkept : oNe (.tuple [eOld old, eOld new]) (.tuple [eOld old, eOld new]) = ok (.bool false) := oNe_self (Shp.shaped (k := 2) (shp_tup fun d hd => by
      rcases List.mem_cons.mp hd with rfl | hd
      · exact shaped_words wo
      · rw [List.mem_singleton.mp hd]; exact shaped_words wn) (by omega))
    clear hps hs1 hs2 hp1 hp2 hg gd hT hf ht hr hcr hpl hLM hLF
    obtain ⟨J, hJ⟩ : ∃ J : Nat → Rho → Prop, ∀ k ρ, J k ρ ↔ ∃ x9 x10 x13 x14 x15 x16 x17, ρ = [.sh (roD (ns.map .int)), .sh (.list (dr.map .int)), .sh (.list (pool.map .str)), .sh (.int (1 + nth dr 10 % 6)), .sh (eOld old), x5, .sh (eOld new), .sh (.tuple [eOld old, eOld new]), .sh (eLab tb), x9, x10, .un, .un, x13, x14, x15, x16, x17] := ⟨_, fun _ _ => Iff.rfl⟩
    refine SS_seq' (fun ρ => J ps.length ρ) ?_ ?_
    · refine SS_for J ((hJ _ _).mpr ⟨_, _, _, _, _, _, _, rfl⟩) ?_ fun ρ h => h
      intro k p ρ hk hρ
      obtain ⟨x9, x10, x13, x14, x15, x16, x17, rfl⟩ := (hJ _ _).mp hρ
      clear hρ
      have hp := hsz p (List.mem_of_getElem? hk)
      have z7 : p.2.2.length ≤ sizeLine := szl (by have := hp.2.1; omega)
      have sm : Small old new p.2.1 p.2.2 := ⟨by omega, by omega, hp.1, hp.2.1, hp.2.2⟩
      have jq := judge_eq (c := p.1) sm
      have gq := good_eq (c := p.1) sm
      unfold ePap at jq gq
      have hne : oNe (.tuple [.int p.1, ePrs p.2.1, eLab p.2.2]) (.tuple [.int p.1, ePrs p.2.1, eLab p.2.2]) = ok (.bool false) := oNe_self (Shp.shaped (k := 4) (shaped_p3 (p := p)) (by omega))
      simp -implicitDefEqProofs -dsimp only [sSeq_ap, sFrz_ap, sNext_ap, sBreak_ap, sCont_ap, sDrop_ap, sRet_ap, sRetN_ap, sRet0_ap, sRetO_ap, owOf_ow, owOf_o2, sIf_ap, sAsg_ap, sSetN_ap, owL_ap, sApp_ap, sPut_ap, sAug_ap, sFor_ap, sSetN2_ap, bind_ok, bind_no, bind_ex, calm_ok, calm_no, calm_ex, toS_ok, toS_no, toS_ex, seq_nx, seq_rt, seq_bk, seq_ct, seq_no, seq_ex, bind_guard, bind_ite, calm_ite, toS_ite, seq_ite, sseq_assoc, obind_assoc, S_ok, S_no, S_guard, S_ite, SS_nx, SS_bk, SS_ct, SS_rt, SS_no, SS_guard, SS_ite, ite_F, ret_b, bl_b, fV_0, fV_s, fS_0, fS_s, evB_sh, evB_ow, evS_sh, slot_0, slot_s, getD_0, getD_s, frz_ap, frzE_sh, frzE_ow, frzE_o2, frzE_un, fC_ap, f1_ap, f2_ap, fX_ap, fXT_ap, fSl_ap, fSlL_ap, fNoPart_ap, fPart_ap, fB_ap, tAnd_ap, tOr_ap, tNot_ap, tYes_ap, fTru_ap, fAndV_ap, fOrV_ap, fNotV_ap, fIf_ap, fChain_ap, aNil_ap, aCons_ap, fTup_ap, fLst_ap, fCall_ap, fCallN_ap, fCallB_ap, iList_ap, iTup_ap, iRange1_ap, iRange2_ap, gSet_ap, gTup_ap, gsNil_ap, gsCons_ap, fLc_ap, wipe_nil, wipe_cons, ofO_ite, oIx_map, oIx_tmap, oIx_ro, oIx_t0, oIx_t1, oIx_t2, oIx_t3, oAdd_int, oAdd_lst, oAdd_str, oAdd_tup, oCat_ap, oRep_ap, oSub_int, oMul_int, oFdiv_int, oMod_int, oPow_int, oNeg_int, oEq_int, oNe_int, oEq_str, oNe_str, oEq_bool, oNe_bool, oLt_int, oLe_int, oGt_int, oGe_int, asInt_ap, asBool_ap, oLen_map, oLen_tup, oLen_ro, oAll_map, oAny_map, oSum_map, oInt_int, oInt_bool, oAbs_int, oMax2_int, oMin2_int, oList_lst, oList_tup, oRev_map, oSl_map, oSlL_map, oIsi_bool, oIsN_none, oIsN_int, truD_bool, truD_int, truD_map, itList_ap, itList_ro, itTup_ap, oRange1_int, oRange2_int, onlyFlat_int, onlyFlat_str, onlyFlat_bool, newD_ap, oIAdd_int, o2L_ap, sAl_ap, alL_ap, asLst_ap, sAlApp_ap, sAlPut_ap, s2App_ap, s2AppAt_ap, killE_un, killE_sh, killE_ow, killE_o2, killE_al, view_ap, viewE_un, viewE_sh, viewE_ow, viewE_o2, viewE_al, viewA_map, ofO_get, ixN_nat, List.map_cons, List.map_nil, mapO_all, mapO_guard, lcAll_map, filO_if, List.set_cons_zero, List.set_cons_succ, decide_eq_true_eq, Bool.not_eq_true', decide_eq_false_iff_not, if_true, if_false, ite_true, ite_false, Bool.false_eq_true, List.length_cons, List.length_nil, List.length_range, and_self, Int.toNat_natCast, Nat.reduceAdd, sz0, sz1, sz2, sz3, sz4, sz5, sz6, sz7, sz8, sz9, sz10, sz11, sz12, sz13, sz14, sz15, sz16, sz17, sz18, sz19, sz20, eP3, eRow, row_fold, z7, jq, gq, hne, hkept, beq_self_eq_true, Bool.not_true]
      exact (hJ _ _).mpr ⟨_, _, _, _, _, _, _, rfl⟩
    · intro ρ hρ
      obtain ⟨x9, x10, x13, x14, x15, x16, x17, rfl⟩ := (hJ _ _).mp hρ
      simp -implicitDefEqProofs -dsimp only [sSeq_ap, sFrz_ap, sNext_ap, sBreak_ap, sCont_ap, sDrop_ap, sRet_ap, sRetN_ap, sRet0_ap, sRetO_ap, owOf_ow, owOf_o2, sIf_ap, sAsg_ap, sSetN_ap, owL_ap, sApp_ap, sPut_ap, sAug_ap, sFor_ap, sSetN2_ap, bind_ok, bind_no, bind_ex, calm_ok, calm_no, calm_ex, toS_ok, toS_no, toS_ex, seq_nx, seq_rt, seq_bk, seq_ct, seq_no, seq_ex, bind_guard, bind_ite, calm_ite, toS_ite, seq_ite, sseq_assoc, obind_assoc, S_ok, S_no, S_guard, S_ite, SS_nx, SS_bk, SS_ct, SS_rt, SS_no, SS_guard, SS_ite, ite_F, ret_b, bl_b, fV_0, fV_s, fS_0, fS_s, evB_sh, evB_ow, evS_sh, slot_0, slot_s, getD_0, getD_s, frz_ap, frzE_sh, frzE_ow, frzE_o2, frzE_un, fC_ap, f1_ap, f2_ap, fX_ap, fXT_ap, fSl_ap, fSlL_ap, fNoPart_ap, fPart_ap, fB_ap, tAnd_ap, tOr_ap, tNot_ap, tYes_ap, fTru_ap, fAndV_ap, fOrV_ap, fNotV_ap, fIf_ap, fChain_ap, aNil_ap, aCons_ap, fTup_ap, fLst_ap, fCall_ap, fCallN_ap, fCallB_ap, iList_ap, iTup_ap, iRange1_ap, iRange2_ap, gSet_ap, gTup_ap, gsNil_ap, gsCons_ap, fLc_ap, wipe_nil, wipe_cons, ofO_ite, oIx_map, oIx_tmap, oIx_ro, oIx_t0, oIx_t1, oIx_t2, oIx_t3, oAdd_int, oAdd_lst, oAdd_str, oAdd_tup, oCat_ap, oRep_ap, oSub_int, oMul_int, oFdiv_int, oMod_int, oPow_int, oNeg_int, oEq_int, oNe_int, oEq_str, oNe_str, oEq_bool, oNe_bool, oLt_int, oLe_int, oGt_int, oGe_int, asInt_ap, asBool_ap, oLen_map, oLen_tup, oLen_ro, oAll_map, oAny_map, oSum_map, oInt_int, oInt_bool, oAbs_int, oMax2_int, oMin2_int, oList_lst, oList_tup, oRev_map, oSl_map, oSlL_map, oIsi_bool, oIsN_none, oIsN_int, truD_bool, truD_int, truD_map, itList_ap, itList_ro, itTup_ap, oRange1_int, oRange2_int, onlyFlat_int, onlyFlat_str, onlyFlat_bool, newD_ap, oIAdd_int, o2L_ap, sAl_ap, alL_ap, asLst_ap, sAlApp_ap, sAlPut_ap, s2App_ap, s2AppAt_ap, killE_un, killE_sh, killE_ow, killE_o2, killE_al, view_ap, viewE_un, viewE_sh, viewE_ow, viewE_o2, viewE_al, viewA_map, ofO_get, ixN_nat, List.map_cons, List.map_nil, mapO_all, mapO_guard, lcAll_map, filO_if, List.set_cons_zero, List.set_cons_succ, decide_eq_true_eq, Bool.not_eq_true', decide_eq_false_iff_not, if_true, if_false, ite_true, ite_false, Bool.false_eq_true, List.length_cons, List.length_nil, List.length_range, and_self, Int.toNat_natCast]
      exact ⟨_, rfl⟩
end K81

set_option maxRecDepth 100000
set_option maxHeartbeats 4000000
/-! the walk of each def; printed by gen.py -/
namespace K81
open PySem L2 Dl
def topS (i : Nat) : Stmt := PySem.Challenge.pw_screenspoken_k81_judge_of_common_rows.main.body.getD i (.Pass ⟨0, 0, 0, 0⟩)
abbrev s_is_common_row : Stmt := topS 1
abbrev s_is_label : Stmt := topS 2
abbrev s_judge_common : Stmt := topS 3
abbrev s_law_cell : Stmt := topS 5
abbrev s_law_numbers : Stmt := topS 6
abbrev s_law_table : Stmt := topS 7
abbrev s_law_from_end : Stmt := topS 8
abbrev s_law_good : Stmt := topS 9
abbrev s_law_spoilt : Stmt := topS 10
abbrev s_law : Stmt := topS 11
/-- where the defs stand -/
structure Txt (K : PySem.W.Frag) (mg : Str → Option Value) where
  a_is_common_row : Addr
  d_is_common_row : FuncData
  f_is_common_row : Fun K "is_common_row" "is_common_row" s_is_common_row a_is_common_row d_is_common_row
  b_is_common_row : Binds K d_is_common_row ["old", "new", "pairs"] []
  m_is_common_row : mg "is_common_row" = some (.ref a_is_common_row)
  k_is_common_row : PySem.W.keepIn K (.ref a_is_common_row) = true
  a_is_label : Addr
  d_is_label : FuncData
  f_is_label : Fun K "is_label" "is_label" s_is_label a_is_label d_is_label
  b_is_label : Binds K d_is_label ["old", "new", "labels", "i", "j"] []
  m_is_label : mg "is_label" = some (.ref a_is_label)
  k_is_label : PySem.W.keepIn K (.ref a_is_label) = true
  a_judge_common : Addr
  d_judge_common : FuncData
  f_judge_common : Fun K "judge_common" "judge_common" s_judge_common a_judge_common d_judge_common
  b_judge_common : Binds K d_judge_common ["old", "new", "paper"] []
  m_judge_common : mg "judge_common" = some (.ref a_judge_common)
  k_judge_common : PySem.W.keepIn K (.ref a_judge_common) = true
  a_law_cell : Addr
  d_law_cell : FuncData
  f_law_cell : Fun K "_law_cell" "_law_cell" s_law_cell a_law_cell d_law_cell
  b_law_cell : Binds K d_law_cell ["script", "k"] []
  m_law_cell : mg "_law_cell" = some (.ref a_law_cell)
  k_law_cell : PySem.W.keepIn K (.ref a_law_cell) = true
  a_law_numbers : Addr
  d_law_numbers : FuncData
  f_law_numbers : Fun K "_law_numbers" "_law_numbers" s_law_numbers a_law_numbers d_law_numbers
  b_law_numbers : Binds K d_law_numbers ["cell", "count", "limit"] []
  m_law_numbers : mg "_law_numbers" = some (.ref a_law_numbers)
  k_law_numbers : PySem.W.keepIn K (.ref a_law_numbers) = true
  a_law_table : Addr
  d_law_table : FuncData
  f_law_table : Fun K "_law_table" "_law_table" s_law_table a_law_table d_law_table
  b_law_table : Binds K d_law_table ["old", "new"] []
  m_law_table : mg "_law_table" = some (.ref a_law_table)
  k_law_table : PySem.W.keepIn K (.ref a_law_table) = true
  a_law_from_end : Addr
  d_law_from_end : FuncData
  f_law_from_end : Fun K "_law_from_end" "_law_from_end" s_law_from_end a_law_from_end d_law_from_end
  b_law_from_end : Binds K d_law_from_end ["old", "new"] []
  m_law_from_end : mg "_law_from_end" = some (.ref a_law_from_end)
  k_law_from_end : PySem.W.keepIn K (.ref a_law_from_end) = true
  a_law_good : Addr
  d_law_good : FuncData
  f_law_good : Fun K "_law_good" "_law_good" s_law_good a_law_good d_law_good
  b_law_good : Binds K d_law_good ["old", "new", "paper"] []
  m_law_good : mg "_law_good" = some (.ref a_law_good)
  k_law_good : PySem.W.keepIn K (.ref a_law_good) = true
  a_law_spoilt : Addr
  d_law_spoilt : FuncData
  f_law_spoilt : Fun K "_law_spoilt" "_law_spoilt" s_law_spoilt a_law_spoilt d_law_spoilt
  b_law_spoilt : Binds K d_law_spoilt ["old", "new", "paper", "draws"] []
  m_law_spoilt : mg "_law_spoilt" = some (.ref a_law_spoilt)
  k_law_spoilt : PySem.W.keepIn K (.ref a_law_spoilt) = true
  a_law : Addr
  d_law : FuncData
  f_law : Fun K "law" "law" s_law a_law d_law
  b_law : Binds K d_law ["script"] []
  m_law : mg "law" = some (.ref a_law)
  k_law : PySem.W.keepIn K (.ref a_law) = true
  n_all : mg "all" = none
  n_bool : mg "bool" = none
  n_int : mg "int" = none
  n_isinstance : mg "isinstance" = none
  n_len : mg "len" = none
  n_list : mg "list" = none
  n_max : mg "max" = none
  n_min : mg "min" = none
  n_range : mg "range" = none
theorem hu65 {k : Nat} {A : Around} (hr : Room k A) : A.units + 65 < cLine := by have := hr.un; omega
section
variable {P : Program} {w : World} {K : PySem.W.Frag} {mg : Str → Option Value} {base : Heap}
theorem sc_is_common_row : FnScope ["old", "new", "pairs", "i", "j", "k"] ["old", "new", "pairs"] (defScope s_is_common_row) := ⟨rfl, rfl, rfl, by decide +kernel, rfl, by decide +kernel, by decide +kernel⟩
theorem ok_is_common_row (T : Txt K mg) : FnOk P w K mg base (L2.CX P w) 1 T.a_is_common_row T.d_is_common_row ["old", "new", "pairs"] (spD K mg g_is_common_row) := by
  have sc := sc_is_common_row
  exact fn_d T.f_is_common_row sc rfl rfl fun cdv A outer s H E hr => ⟨_, dss_cons (ds_if (dt_not (dt_truE (DE.b (de_b1 (ca_all (by rfl) (by rfl)) cs_all (by rfl) T.n_all bt_all (DE.b (DNE.r (dn_lcE rfl sc.nd (own := [("i", 3), ("j", 4)]) (die_list (de_v 2)) (blkOk_by (by (show blkC ["old", "new", "pairs", "i", "j", "k"] (defScope s_is_common_row) _ _ = true); decide +kernel)) (fun _ _ _ _ _ => gx_tup rfl (gxs_cons (gx_v 3 sc.nd) (gxs_cons (gx_v 4 sc.nd) (gxs_nil)))) (by decide) (fun _ _ _ _ _ => pt_nil) (fun _ _ _ _ _ => de_and (de_chain (op_le) (op_ltAll) os_le os_lt (DE.b (de_int)) (db_v 3) (DE.b (de_b1 (ca_len (by rfl)) cs_len (by rfl) T.n_len bt_len (db_v 0)))) (de_and (de_chain (op_le) (op_ltAll) os_le os_lt (DE.b (de_int)) (db_v 4) (DE.b (de_b1 (ca_len (by rfl)) cs_len (by rfl) T.n_len bt_len (db_v 1)))) (de_one (de_eq hr.units (DE.b (de_ix (db_v 0) (db_v 3))) (DE.b (de_ix (db_v 1) (db_v 4)))))))))))))) (dss_one (ds_ret (de_bl))) (dss_nil)) (dss_one (ds_ret (de_b1 (ca_all (by rfl) (by rfl)) cs_all (by rfl) T.n_all bt_all (DE.b (DNE.r (dn_lcE rfl sc.nd (own := [("k", 5)]) (die_range2 T.n_range (DE.b (de_int)) (DE.b (de_b1 (ca_len (by rfl)) cs_len (by rfl) T.n_len bt_len (db_v 2)))) (blkOk_by (by (show blkC ["old", "new", "pairs", "i", "j", "k"] (defScope s_is_common_row) _ _ = true); decide +kernel)) (fun _ _ _ _ _ => gx_v 5 sc.nd) (by decide) (fun _ _ _ _ _ => pt_nil) (fun _ _ _ _ _ => de_and (de_lt (DE.b (de_ix (DE.b (de_ix (db_v 2) (DE.b (de_sub (db_v 5) (DE.b (de_int)))))) (DE.b (de_int)))) (DE.b (de_ix (DE.b (de_ix (db_v 2) (db_v 5))) (DE.b (de_int))))) (de_one (de_lt (DE.b (de_ix (DE.b (de_ix (db_v 2) (DE.b (de_sub (db_v 5) (DE.b (de_int)))))) (DE.b (de_int)))) (DE.b (de_ix (DE.b (de_ix (db_v 2) (db_v 5))) (DE.b (de_int)))))))))))))⟩
theorem sc_is_label : FnScope ["old", "new", "labels", "i", "j", "label"] ["old", "new", "labels", "i", "j"] (defScope s_is_label) := ⟨rfl, rfl, rfl, by decide +kernel, rfl, by decide +kernel, by decide +kernel⟩
theorem ok_is_label (T : Txt K mg) : FnOk P w K mg base (L2.CX P w) 1 T.a_is_label T.d_is_label ["old", "new", "labels", "i", "j"] (spD K mg g_is_label) := by
  have sc := sc_is_label
  exact fn_d T.f_is_label sc rfl rfl fun cdv A outer s H E hr => ⟨_, dss_cons (ds_set 5 sc.nd (de_ix (DE.b (de_ix (db_v 2) (db_v 3))) (db_v 4))) (dss_cons (ds_if (dt_w (dw_or (dt_lt (db_v 5) (DE.b (de_int))) (dw_or (dt_w (dw_and (dt_lt (db_v 3) (DE.b (de_b1 (ca_len (by rfl)) cs_len (by rfl) T.n_len bt_len (db_v 0)))) (dw_and1 (dt_lt (db_v 5) (DE.b (de_ix (DE.b (de_ix (db_v 2) (DE.b (de_add (db_v 3) (DE.b (de_int)))))) (db_v 4))))))) (dw_or1 (dt_w (dw_and (dt_lt (db_v 4) (DE.b (de_b1 (ca_len (by rfl)) cs_len (by rfl) T.n_len bt_len (db_v 1)))) (dw_and1 (dt_lt (db_v 5) (DE.b (de_ix (DE.b (de_ix (db_v 2) (db_v 3))) (DE.b (de_add (db_v 4) (DE.b (de_int)))))))))))))) (dss_one (ds_ret (de_bl))) (dss_nil)) (dss_cons (ds_if (dt_w (dw_or (dt_eq hr.units (db_v 3) (DE.b (de_b1 (ca_len (by rfl)) cs_len (by rfl) T.n_len bt_len (db_v 0)))) (dw_or (dt_eq hr.units (db_v 4) (DE.b (de_b1 (ca_len (by rfl)) cs_len (by rfl) T.n_len bt_len (db_v 1)))) (dw_or1 (dt_ne hr.units (DE.b (de_ix (db_v 0) (db_v 3))) (DE.b (de_ix (db_v 1) (db_v 4)))))))) (dss_one (ds_ret (de_bl))) (dss_nil)) (dss_one (ds_ret (de_ge (db_v 5) (DE.b (de_add (DE.b (de_ix (DE.b (de_ix (db_v 2) (DE.b (de_add (db_v 3) (DE.b (de_int)))))) (DE.b (de_add (db_v 4) (DE.b (de_int)))))) (DE.b (de_int)))))))))⟩
theorem sc_judge_common : FnScope ["old", "new", "paper", "count", "pairs", "labels", "row", "i", "j"] ["old", "new", "paper"] (defScope s_judge_common) := ⟨rfl, rfl, rfl, by decide +kernel, rfl, by decide +kernel, by decide +kernel⟩
theorem ok_judge_common (T : Txt K mg) : FnOk P w K mg base (L2.CX P w) 2 T.a_judge_common T.d_judge_common ["old", "new", "paper"] (spD K mg g_judge_common) := by
  have sc := sc_judge_common
  exact fn_d T.f_judge_common sc rfl rfl fun cdv A outer s H E hr => ⟨_, dss_cons (ds_asg (de_v 2) (g_tup rfl (gs_cons (g_v 3 sc.nd) (gs_cons (g_v 4 sc.nd) (gs_cons (g_v 5 sc.nd) (gs_nil)))))) (dss_cons (ds_if (dt_w (dw_or (dt_ne hr.units (db_v 3) (DE.b (de_b1 (ca_len (by rfl)) cs_len (by rfl) T.n_len bt_len (db_v 4)))) (dw_or1 (dt_not (dt_truE (DE.b (de_call (ok_is_common_row T) (hr.mono (by decide)) T.m_is_common_row T.k_is_common_row T.b_is_common_row (takes_of rfl rfl rfl rfl) (by rfl) (dae_cons (de_v 0) (dae_cons (de_v 1) (dae_cons (de_v 4) (dae_nil))))))))))) (dss_one (ds_ret (de_bl))) (dss_nil)) (dss_cons (ds_if (dt_w (dw_or (dt_ne hr.units (DE.b (de_b1 (ca_len (by rfl)) cs_len (by rfl) T.n_len bt_len (db_v 5))) (DE.b (de_add (DE.b (de_b1 (ca_len (by rfl)) cs_len (by rfl) T.n_len bt_len (db_v 0))) (DE.b (de_int))))) (dw_or1 (dt_not (dt_truE (DE.b (de_b1 (ca_all (by rfl) (by rfl)) cs_all (by rfl) T.n_all bt_all (DE.b (DNE.r (dn_lcE rfl sc.nd (own := [("row", 6)]) (die_list (de_v 5)) (blkOk_by (by (show blkC ["old", "new", "paper", "count", "pairs", "labels", "row", "i", "j"] (defScope s_judge_common) _ _ = true); decide +kernel)) (fun _ _ _ _ _ => gx_v 6 sc.nd) (by decide) (fun _ _ _ _ _ => pt_nil) (fun _ _ _ _ _ => de_eq hr.units (DE.b (de_b1 (ca_len (by rfl)) cs_len (by rfl) T.n_len bt_len (db_v 6))) (DE.b (de_add (DE.b (de_b1 (ca_len (by rfl)) cs_len (by rfl) T.n_len bt_len (db_v 1))) (DE.b (de_int))))))))))))))) (dss_one (ds_ret (de_bl))) (dss_nil)) (dss_cons (ds_for (passes_of rfl) rfl (die_range1 T.n_range (DE.b (de_add (DE.b (de_b1 (ca_len (by rfl)) cs_len (by rfl) T.n_len bt_len (db_v 0))) (DE.b (de_int))))) (g_v 7 sc.nd) (dss_one (ds_if (dt_not (dt_truE (DE.b (de_b1 (ca_all (by rfl) (by rfl)) cs_all (by rfl) T.n_all bt_all (DE.b (DNE.r (dn_lcE rfl sc.nd (own := [("j", 8)]) (die_range1 T.n_range (DE.b (de_add (DE.b (de_b1 (ca_len (by rfl)) cs_len (by rfl) T.n_len bt_len (db_v 1))) (DE.b (de_int))))) (blkOk_by (by (show blkC ["old", "new", "paper", "count", "pairs", "labels", "row", "i", "j"] (defScope s_judge_common) _ _ = true); decide +kernel)) (fun _ _ _ _ _ => gx_v 8 sc.nd) (by decide) (fun _ _ _ _ _ => pt_nil) (fun _ _ _ _ _ => de_call (ok_is_label T) (hr.mono (by decide)) T.m_is_label T.k_is_label T.b_is_label takes0 (by rfl) (dae_cons (de_v 0) (dae_cons (de_v 1) (dae_cons (de_v 5) (dae_cons (de_v 7) (dae_cons (de_v 8) (dae_nil)))))))))))))) (dss_one (ds_ret (de_bl))) (dss_nil)))) (dss_one (ds_ret (de_ge (db_v 3) (DE.b (de_ix (DE.b (de_ix (db_v 5) (DE.b (de_int)))) (DE.b (de_int))))))))))⟩
theorem sc_law_cell : FnScope ["script", "k"] ["script", "k"] (defScope s_law_cell) := ⟨rfl, rfl, rfl, by decide +kernel, rfl, by decide +kernel, by decide +kernel⟩
theorem ok_law_cell (T : Txt K mg) : FnOk P w K mg base (L2.CX P w) 1 T.a_law_cell T.d_law_cell ["script", "k"] (spD K mg g_law_cell) := by
  have sc := sc_law_cell
  exact fn_d T.f_law_cell sc rfl rfl fun cdv A outer s H E hr => ⟨_, dss_cons (ds_if (dt_lt (db_v 1) (DE.b (de_b1 (ca_len (by rfl)) cs_len (by rfl) T.n_len bt_len (db_v 0)))) (dss_one (ds_ret (de_t1 ca_int cs_int (by rfl) T.n_int bt_int (DE.b (de_ix (db_v 0) (db_v 1)))))) (dss_nil)) (dss_one (ds_ret (de_int)))⟩
theorem sc_law_numbers : FnScope ["cell", "count", "limit", "found", "k", "mixed"] ["cell", "count", "limit"] (defScope s_law_numbers) := ⟨rfl, rfl, rfl, by decide +kernel, rfl, by decide +kernel, by decide +kernel⟩
theorem ok_law_numbers (T : Txt K mg) : FnOk P w K mg base (L2.CX P w) 1 T.a_law_numbers T.d_law_numbers ["cell", "count", "limit"] (spD K mg g_law_numbers) := by
  have sc := sc_law_numbers
  exact fn_d T.f_law_numbers sc rfl rfl fun cdv A outer s H E hr => ⟨_, dss_cons (ds_setN 3 sc.nd (dn_lstE (dae_nil))) (dss_cons (ds_if (dt_ge (db_v 0) (DE.b (de_pow (DE.b (de_int)) (DE.b (de_int))))) (dss_cons (ds_for (passes_of rfl) rfl (die_range1 T.n_range (db_v 1)) (g_v 4 sc.nd) (dss_cons (ds_app 3 (de_mod (DE.b (de_t1 ca_int cs_int (by rfl) T.n_int bt_int (db_v 0))) (db_v 2))) (dss_one (ds_set 0 sc.nd (de_fdiv (DE.b (de_t1 ca_int cs_int (by rfl) T.n_int bt_int (db_v 0))) (db_v 2)))))) (dss_one (ds_retO 3))) (dss_nil)) (dss_cons (ds_for (passes_of rfl) rfl (die_range1 T.n_range (db_v 1)) (g_v 4 sc.nd) (dss_cons (ds_set 5 sc.nd (de_mod (DE.b (de_t1 ca_int cs_int (by rfl) T.n_int bt_int (DE.b (de_add (DE.b (de_add (DE.b (de_mul (db_v 0) (DE.b (de_int)))) (DE.b (de_mul (db_v 4) (DE.b (de_int)))))) (DE.b (de_int)))))) (DE.b (de_int)))) (dss_cons (ds_set 5 sc.nd (de_mod (DE.b (de_t1 ca_int cs_int (by rfl) T.n_int bt_int (DE.b (de_add (DE.b (de_add (DE.b (de_add (DE.b (de_mul (db_v 5) (db_v 5))) (DE.b (de_mul (db_v 5) (DE.b (de_int)))))) (DE.b (de_mul (db_v 4) (DE.b (de_int)))))) (DE.b (de_int)))))) (DE.b (de_int)))) (dss_one (ds_app 3 (de_mod (DE.b (de_t1 ca_int cs_int (by rfl) T.n_int bt_int (DE.b (de_fdiv (db_v 5) (DE.b (de_int)))))) (db_v 2))))))) (dss_one (ds_retO 3))))⟩
theorem sc_law_table : FnScope ["old", "new", "table", "j", "i", "a", "row", "b"] ["old", "new"] (defScope s_law_table) := ⟨rfl, rfl, rfl, by decide +kernel, rfl, by decide +kernel, by decide +kernel⟩
theorem ok_law_table (T : Txt K mg) : FnOk P w K mg base (L2.CX P w) 1 T.a_law_table T.d_law_table ["old", "new"] (spD K mg g_law_table) := by
  have sc := sc_law_table
  exact fn_d T.f_law_table sc rfl rfl fun cdv A outer s H E hr => ⟨_, dss_cons (ds_setLcN2 2 rfl sc.nd (own := [("i", 4)]) (die_range1 T.n_range (DE.b (de_add (DE.b (de_b1 (ca_len (by rfl)) cs_len (by rfl) T.n_len bt_len (db_v 0))) (DE.b (de_int))))) (blkOk_by (by (show blkC ["old", "new", "table", "j", "i", "a", "row", "b"] (defScope s_law_table) _ _ = true); decide +kernel)) (fun _ _ _ _ _ => gx_v 4 sc.nd) (by decide) (fun _ _ _ _ _ => pt_nil) (fun _ _ _ _ _ => dn_lcE rfl sc.nd (own := [("j", 3)]) (die_range1 T.n_range (DE.b (de_add (DE.b (de_b1 (ca_len (by rfl)) cs_len (by rfl) T.n_len bt_len (db_v 1))) (DE.b (de_int))))) (blkOk_by (by (show blkC ["old", "new", "table", "j", "i", "a", "row", "b"] (relS _ (defScope s_law_table)) _ _ = true); decide +kernel)) (fun _ _ _ _ _ => gx_v 3 sc.nd) (by decide) (fun _ _ _ _ _ => pt_nil) (fun _ _ _ _ _ => de_int))) (dss_cons (ds_for (passes_of rfl) rfl (die_range1 T.n_range (DE.b (de_b1 (ca_len (by rfl)) cs_len (by rfl) T.n_len bt_len (db_v 0)))) (g_v 5 sc.nd) (dss_cons (ds_set 4 sc.nd (de_sub (DE.b (de_sub (DE.b (de_b1 (ca_len (by rfl)) cs_len (by rfl) T.n_len bt_len (db_v 0))) (DE.b (de_int)))) (db_v 5))) (dss_cons (ds_al 6 2 sc.nd (db_v 4)) (dss_one (ds_for (passes_of rfl) rfl (die_range1 T.n_range (DE.b (de_b1 (ca_len (by rfl)) cs_len (by rfl) T.n_len bt_len (db_v 1)))) (g_v 7 sc.nd) (dss_cons (ds_set 3 sc.nd (de_sub (DE.b (de_sub (DE.b (de_b1 (ca_len (by rfl)) cs_len (by rfl) T.n_len bt_len (db_v 1))) (DE.b (de_int)))) (db_v 7))) (dss_cons (ds_alPut 6 (de_b2 (ca_max2 (by rfl)) cs_max2 (by rfl) T.n_max bt_max (DE.b (de_x (DE.b (de_ix (DE.b (de_ix (db_v 2) (DE.b (de_add (db_v 4) (DE.b (de_int)))))) (db_v 3))))) (DE.b (de_x (DE.b (de_ix (db_v 6) (DE.b (de_add (db_v 3) (DE.b (de_int))))))))) (db_v 3) (hsub := fun o z => pg_sub o z set_list)) (dss_one (ds_if (dt_eq hr.units (DE.b (de_ix (db_v 0) (db_v 4))) (DE.b (de_ix (db_v 1) (db_v 3)))) (dss_one (ds_alPut 6 (de_add (DE.b (de_int)) (DE.b (de_x (DE.b (de_ix (DE.b (de_ix (db_v 2) (DE.b (de_add (db_v 4) (DE.b (de_int)))))) (DE.b (de_add (db_v 3) (DE.b (de_int))))))))) (db_v 3) (hsub := fun o z => pg_sub o z set_list))) (dss_nil)))))))))) (dss_one (ds_retO 2)))⟩
theorem sc_law_from_end : FnScope ["old", "new", "turned", "i", "j", "pairs", "turn"] ["old", "new"] (defScope s_law_from_end) := ⟨rfl, rfl, rfl, by decide +kernel, rfl, by decide +kernel, by decide +kernel⟩
theorem ok_law_from_end (T : Txt K mg) : FnOk P w K mg base (L2.CX P w) 2 T.a_law_from_end T.d_law_from_end ["old", "new"] (spD K mg g_law_from_end) := by
  have sc := sc_law_from_end
  exact fn_d T.f_law_from_end sc rfl rfl fun cdv A outer s H E hr => ⟨_, dss_cons (ds_set 2 sc.nd (de_call (ok_law_table T) (hr.mono (by decide)) T.m_law_table T.k_law_table T.b_law_table (takes_of rfl rfl rfl rfl) (by rfl) (dae_cons (DNE.r (dn_revE (db_v 0))) (dae_cons (DNE.r (dn_revE (db_v 1))) (dae_nil))))) (dss_cons (ds_set 3 sc.nd (de_b1 (ca_len (by rfl)) cs_len (by rfl) T.n_len bt_len (db_v 0))) (dss_cons (ds_set 4 sc.nd (de_b1 (ca_len (by rfl)) cs_len (by rfl) T.n_len bt_len (db_v 1))) (dss_cons (ds_set 5 sc.nd (DNE.r (dn_lstE (dae_nil)))) (dss_cons (ds_for (passes_of rfl) rfl (die_range1 T.n_range (DE.b (de_add (DE.b (de_b1 (ca_len (by rfl)) cs_len (by rfl) T.n_len bt_len (db_v 0))) (DE.b (de_b1 (ca_len (by rfl)) cs_len (by rfl) T.n_len bt_len (db_v 1)))))) (g_v 6 sc.nd) (dss_one (ds_if (dt_w (dw_and (dt_gt (db_v 3) (DE.b (de_int))) (dw_and1 (dt_gt (db_v 4) (DE.b (de_int)))))) (dss_one (ds_if (dt_eq hr.units (DE.b (de_ix (db_v 0) (DE.b (de_sub (db_v 3) (DE.b (de_int)))))) (DE.b (de_ix (db_v 1) (DE.b (de_sub (db_v 4) (DE.b (de_int))))))) (dss_cons (ds_set 5 sc.nd (DNE.r (dn_cat (DE.b (DNE.r (dn_lstE (dae_cons (de_tup (dae_cons (de_sub (db_v 3) (DE.b (de_int))) (dae_cons (de_sub (db_v 4) (DE.b (de_int))) (dae_nil)))) (dae_nil))))) (db_v 5)))) (dss_cons (ds_set 3 sc.nd (de_sub (db_v 3) (DE.b (de_int)))) (dss_one (ds_set 4 sc.nd (de_sub (db_v 4) (DE.b (de_int))))))) (dss_one (ds_if (dt_eq hr.units (DE.b (de_ix (DE.b (de_ix (db_v 2) (DE.b (de_sub (DE.b (de_b1 (ca_len (by rfl)) cs_len (by rfl) T.n_len bt_len (db_v 0))) (db_v 3))))) (DE.b (de_sub (DE.b (de_b1 (ca_len (by rfl)) cs_len (by rfl) T.n_len bt_len (db_v 1))) (db_v 4))))) (DE.b (de_ix (DE.b (de_ix (db_v 2) (DE.b (de_sub (DE.b (de_b1 (ca_len (by rfl)) cs_len (by rfl) T.n_len bt_len (db_v 0))) (db_v 3))))) (DE.b (de_add (DE.b (de_sub (DE.b (de_b1 (ca_len (by rfl)) cs_len (by rfl) T.n_len bt_len (db_v 1))) (db_v 4))) (DE.b (de_int))))))) (dss_one (ds_set 4 sc.nd (de_sub (db_v 4) (DE.b (de_int))))) (dss_one (ds_set 3 sc.nd (de_sub (db_v 3) (DE.b (de_int))))))))) (dss_nil)))) (dss_one (ds_ret (de_v 5)))))))⟩
theorem sc_law_good : FnScope ["old", "new", "paper", "count", "pairs", "labels", "row", "k", "i", "j", "low"] ["old", "new", "paper"] (defScope s_law_good) := ⟨rfl, rfl, rfl, by decide +kernel, rfl, by decide +kernel, by decide +kernel⟩
theorem ok_law_good (T : Txt K mg) : FnOk P w K mg base (L2.CX P w) 1 T.a_law_good T.d_law_good ["old", "new", "paper"] (spD K mg g_law_good) := by
  have sc := sc_law_good
  exact fn_d T.f_law_good sc rfl rfl fun cdv A outer s H E hr => ⟨_, dss_cons (ds_asg (de_v 2) (g_tup rfl (gs_cons (g_v 3 sc.nd) (gs_cons (g_v 4 sc.nd) (gs_cons (g_v 5 sc.nd) (gs_nil)))))) (dss_cons (ds_if (dt_w (dw_or (dt_ne hr.units (db_v 3) (DE.b (de_b1 (ca_len (by rfl)) cs_len (by rfl) T.n_len bt_len (db_v 4)))) (dw_or (dt_ne hr.units (DE.b (de_b1 (ca_len (by rfl)) cs_len (by rfl) T.n_len bt_len (db_v 5))) (DE.b (de_add (DE.b (de_b1 (ca_len (by rfl)) cs_len (by rfl) T.n_len bt_len (db_v 0))) (DE.b (de_int))))) (dw_or1 (dt_gt (DE.b (de_b1 (ca_len (by rfl)) cs_len (by rfl) T.n_len bt_len (DE.b (DNE.r (dn_lcE rfl sc.nd (own := [("row", 6)]) (die_list (de_v 5)) (blkOk_by (by (show blkC ["old", "new", "paper", "count", "pairs", "labels", "row", "k", "i", "j", "low"] (defScope s_law_good) _ _ = true); decide +kernel)) (fun _ _ _ _ _ => gx_v 6 sc.nd) (by decide) (fun _ _ _ _ _ => pt_one (dt_ne hr.units (DE.b (de_b1 (ca_len (by rfl)) cs_len (by rfl) T.n_len bt_len (db_v 6))) (DE.b (de_add (DE.b (de_b1 (ca_len (by rfl)) cs_len (by rfl) T.n_len bt_len (db_v 1))) (DE.b (de_int)))))) (fun _ _ _ _ _ => de_int)))))) (DE.b (de_int))))))) (dss_one (ds_ret (de_bl))) (dss_nil)) (dss_cons (ds_for (passes_of rfl) rfl (die_range1 T.n_range (DE.b (de_b1 (ca_len (by rfl)) cs_len (by rfl) T.n_len bt_len (db_v 4)))) (g_v 7 sc.nd) (dss_cons (ds_asg (de_ix (db_v 4) (db_v 7)) (g_tup rfl (gs_cons (g_v 8 sc.nd) (gs_cons (g_v 9 sc.nd) (gs_nil))))) (dss_cons (ds_if (dt_w (dw_or (dt_lt (db_v 8) (DE.b (de_int))) (dw_or (dt_lt (db_v 9) (DE.b (de_int))) (dw_or (dt_ge (db_v 8) (DE.b (de_b1 (ca_len (by rfl)) cs_len (by rfl) T.n_len bt_len (db_v 0)))) (dw_or (dt_ge (db_v 9) (DE.b (de_b1 (ca_len (by rfl)) cs_len (by rfl) T.n_len bt_len (db_v 1)))) (dw_or1 (dt_ne hr.units (DE.b (de_ix (db_v 0) (db_v 8))) (DE.b (de_ix (db_v 1) (db_v 9)))))))))) (dss_one (ds_ret (de_bl))) (dss_nil)) (dss_one (ds_if (dt_w (dw_and (dt_gt (db_v 7) (DE.b (de_int))) (dw_and1 (dt_w (dw_or (dt_ge (DE.b (de_ix (DE.b (de_ix (db_v 4) (DE.b (de_sub (db_v 7) (DE.b (de_int)))))) (DE.b (de_int)))) (db_v 8)) (dw_or1 (dt_ge (DE.b (de_ix (DE.b (de_ix (db_v 4) (DE.b (de_sub (db_v 7) (DE.b (de_int)))))) (DE.b (de_int)))) (db_v 9)))))))) (dss_one (ds_ret (de_bl))) (dss_nil)))))) (dss_cons (ds_for (passes_of rfl) rfl (die_range1 T.n_range (DE.b (de_add (DE.b (de_b1 (ca_len (by rfl)) cs_len (by rfl) T.n_len bt_len (db_v 0))) (DE.b (de_int))))) (g_v 8 sc.nd) (dss_one (ds_for (passes_of rfl) rfl (die_range1 T.n_range (DE.b (de_add (DE.b (de_b1 (ca_len (by rfl)) cs_len (by rfl) T.n_len bt_len (db_v 1))) (DE.b (de_int))))) (g_v 9 sc.nd) (dss_cons (ds_set 10 sc.nd (de_int)) (dss_cons (ds_if (dt_lt (db_v 8) (DE.b (de_b1 (ca_len (by rfl)) cs_len (by rfl) T.n_len bt_len (db_v 0)))) (dss_one (ds_set 10 sc.nd (de_b2 (ca_max2 (by rfl)) cs_max2 (by rfl) T.n_max bt_max (db_v 10) (DE.b (de_ix (DE.b (de_ix (db_v 5) (DE.b (de_add (db_v 8) (DE.b (de_int)))))) (db_v 9)))))) (dss_nil)) (dss_cons (ds_if (dt_lt (db_v 9) (DE.b (de_b1 (ca_len (by rfl)) cs_len (by rfl) T.n_len bt_len (db_v 1)))) (dss_one (ds_set 10 sc.nd (de_b2 (ca_max2 (by rfl)) cs_max2 (by rfl) T.n_max bt_max (db_v 10) (DE.b (de_ix (DE.b (de_ix (db_v 5) (db_v 8))) (DE.b (de_add (db_v 9) (DE.b (de_int))))))))) (dss_nil)) (dss_cons (ds_if (dt_w (dw_and (dt_lt (db_v 8) (DE.b (de_b1 (ca_len (by rfl)) cs_len (by rfl) T.n_len bt_len (db_v 0)))) (dw_and (dt_lt (db_v 9) (DE.b (de_b1 (ca_len (by rfl)) cs_len (by rfl) T.n_len bt_len (db_v 1)))) (dw_and1 (dt_eq hr.units (DE.b (de_ix (db_v 0) (db_v 8))) (DE.b (de_ix (db_v 1) (db_v 9)))))))) (dss_one (ds_set 10 sc.nd (de_b2 (ca_max2 (by rfl)) cs_max2 (by rfl) T.n_max bt_max (db_v 10) (DE.b (de_add (DE.b (de_int)) (DE.b (de_ix (DE.b (de_ix (db_v 5) (DE.b (de_add (db_v 8) (DE.b (de_int)))))) (DE.b (de_add (db_v 9) (DE.b (de_int))))))))))) (dss_nil)) (dss_one (ds_if (dt_lt (DE.b (de_ix (DE.b (de_ix (db_v 5) (db_v 8))) (db_v 9))) (db_v 10)) (dss_one (ds_ret (de_bl))) (dss_nil)))))))))) (dss_one (ds_ret (de_ge (db_v 3) (DE.b (de_ix (DE.b (de_ix (db_v 5) (DE.b (de_int)))) (DE.b (de_int))))))))))⟩
theorem sc_law_spoilt : FnScope ["old", "new", "paper", "draws", "count", "pairs", "labels", "found", "row", "label", "step", "k", "i", "j", "at", "other"] ["old", "new", "paper", "draws"] (defScope s_law_spoilt) := ⟨rfl, rfl, rfl, by decide +kernel, rfl, by decide +kernel, by decide +kernel⟩
theorem ok_law_spoilt (T : Txt K mg) : FnOk P w K mg base (L2.CX P w) 1 T.a_law_spoilt T.d_law_spoilt ["old", "new", "paper", "draws"] (spD K mg g_law_spoilt) := by
  have sc := sc_law_spoilt
  exact fn_d T.f_law_spoilt sc rfl rfl fun cdv A outer s H E hr => ⟨_, dss_cons (ds_asg (de_v 2) (g_tup rfl (gs_cons (g_v 4 sc.nd) (gs_cons (g_v 5 sc.nd) (gs_cons (g_v 6 sc.nd) (gs_nil)))))) (dss_cons (ds_setN 7 sc.nd (dn_lstE (dae_cons (de_v 2) (dae_cons (de_tup (dae_cons (de_add (db_v 4) (DE.b (de_int))) (dae_cons (de_v 5) (dae_cons (de_v 6) (dae_nil))))) (dae_cons (de_tup (dae_cons (de_sub (db_v 4) (DE.b (de_int))) (dae_cons (de_v 5) (dae_cons (de_v 6) (dae_nil))))) (dae_cons (de_tup (dae_cons (de_v 4) (dae_cons (de_v 5) (dae_cons (de_sl (db_v 6) (doe_none) (doe_some (DE.b (de_neg (DE.b (de_int)))))) (dae_nil))))) (dae_cons (de_tup (dae_cons (de_v 4) (dae_cons (de_v 5) (dae_cons (de_sl (db_v 6) (doe_some (DE.b (de_int))) (doe_none)) (dae_nil))))) (dae_nil)))))))) (dss_cons (ds_setN 7 sc.nd (dn_cat (db_v 7) (DE.b (DNE.r (dn_lstE (dae_cons (de_tup (dae_cons (de_v 4) (dae_cons (de_v 5) (dae_cons (DNE.r (dn_cat (db_v 6) (DE.b (DNE.r (dn_lstE (dae_cons (de_ix (db_v 6) (DE.b (de_int))) (dae_nil))))))) (dae_nil))))) (dae_cons (de_tup (dae_cons (de_v 4) (dae_cons (de_v 5) (dae_cons (DNE.r (dn_lcE rfl sc.nd (own := [("row", 8)]) (die_list (de_v 6)) (blkOk_by (by (show blkC ["old", "new", "paper", "draws", "count", "pairs", "labels", "found", "row", "label", "step", "k", "i", "j", "at", "other"] (defScope s_law_spoilt) _ _ = true); decide +kernel)) (fun _ _ _ _ _ => gx_v 8 sc.nd) (by decide) (fun _ _ _ _ _ => pt_nil) (fun _ _ _ _ _ => DNE.r (dn_cat (db_v 8) (DE.b (DNE.r (dn_lstE (dae_cons (de_int) (dae_nil))))))))) (dae_nil))))) (dae_cons (de_tup (dae_cons (de_v 4) (dae_cons (de_v 5) (dae_cons (DNE.r (dn_lcE rfl sc.nd (own := [("row", 8)]) (die_list (de_v 6)) (blkOk_by (by (show blkC ["old", "new", "paper", "draws", "count", "pairs", "labels", "found", "row", "label", "step", "k", "i", "j", "at", "other"] (defScope s_law_spoilt) _ _ = true); decide +kernel)) (fun _ _ _ _ _ => gx_v 8 sc.nd) (by decide) (fun _ _ _ _ _ => pt_nil) (fun _ _ _ _ _ => de_sl (db_v 8) (doe_none) (doe_some (DE.b (de_neg (DE.b (de_int)))))))) (dae_nil))))) (dae_nil))))))))) (dss_cons (ds_setN 7 sc.nd (dn_cat (db_v 7) (DE.b (DNE.r (dn_lstE (dae_cons (de_tup (dae_cons (de_v 4) (dae_cons (DNE.r (dn_revE (db_v 5))) (dae_cons (de_v 6) (dae_nil))))) (dae_cons (de_tup (dae_cons (de_v 4) (dae_cons (de_sl (db_v 5) (doe_none) (doe_some (DE.b (de_neg (DE.b (de_int)))))) (dae_cons (de_v 6) (dae_nil))))) (dae_cons (de_tup (dae_cons (de_v 4) (dae_cons (DNE.r (dn_cat (db_v 5) (DE.b (DNE.r (dn_lstE (dae_cons (de_tup (dae_cons (de_b1 (ca_len (by rfl)) cs_len (by rfl) T.n_len bt_len (db_v 0)) (dae_cons (de_b1 (ca_len (by rfl)) cs_len (by rfl) T.n_len bt_len (db_v 1)) (dae_nil)))) (dae_nil))))))) (dae_cons (de_v 6) (dae_nil))))) (dae_nil))))))))) (dss_cons (ds_setN 7 sc.nd (dn_cat (db_v 7) (DE.b (DNE.r (dn_lstE (dae_cons (de_tup (dae_cons (de_sub (db_v 4) (DE.b (de_int))) (dae_cons (de_sl (db_v 5) (doe_none) (doe_some (DE.b (de_neg (DE.b (de_int)))))) (dae_cons (de_v 6) (dae_nil))))) (dae_cons (de_tup (dae_cons (de_add (db_v 4) (DE.b (de_int))) (dae_cons (DNE.r (dn_cat (db_v 5) (DE.b (DNE.r (dn_lstE (dae_cons (de_tup (dae_cons (de_sub (DE.b (de_b1 (ca_len (by rfl)) cs_len (by rfl) T.n_len bt_len (db_v 0))) (DE.b (de_int))) (dae_cons (de_sub (DE.b (de_b1 (ca_len (by rfl)) cs_len (by rfl) T.n_len bt_len (db_v 1))) (DE.b (de_int))) (dae_nil)))) (dae_nil))))))) (dae_cons (de_v 6) (dae_nil))))) (dae_cons (de_tup (dae_cons (de_sub (db_v 4) (DE.b (de_int))) (dae_cons (de_sl (db_v 5) (doe_some (DE.b (de_int))) (doe_none)) (dae_cons (de_v 6) (dae_nil))))) (dae_nil))))))))) (dss_cons (ds_app 7 (de_tup (dae_cons (de_int) (dae_cons (DNE.r (dn_lstE (dae_nil))) (dae_cons (DNE.r (dn_lcE rfl sc.nd (own := [("row", 8)]) (die_list (de_v 6)) (blkOk_by (by (show blkC ["old", "new", "paper", "draws", "count", "pairs", "labels", "found", "row", "label", "step", "k", "i", "j", "at", "other"] (defScope s_law_spoilt) _ _ = true); decide +kernel)) (fun _ _ _ _ _ => gx_v 8 sc.nd) (by decide) (fun _ _ _ _ _ => pt_nil) (fun _ _ _ _ _ => DNE.r (dn_lcE rfl sc.nd (own := [("label", 9)]) (die_list (de_v 8)) (blkOk_by (by (show blkC ["old", "new", "paper", "draws", "count", "pairs", "labels", "found", "row", "label", "step", "k", "i", "j", "at", "other"] (relS _ (defScope s_law_spoilt)) _ _ = true); decide +kernel)) (fun _ _ _ _ _ => gx_v 9 sc.nd) (by decide) (fun _ _ _ _ _ => pt_nil) (fun _ _ _ _ _ => de_int))))) (dae_nil)))))) (dss_cons (ds_for (passes_of rfl) rfl (die_list (DNE.r (dn_lstE (dae_cons (de_int) (dae_cons (de_neg (DE.b (de_int))) (dae_cons (de_int) (dae_nil))))))) (g_v 10 sc.nd) (dss_cons (ds_for (passes_of rfl) rfl (die_range1 T.n_range (DE.b (de_int))) (g_v 11 sc.nd) (dss_cons (ds_set 12 sc.nd (de_mod (DE.b (de_ix (db_v 3) (DE.b (de_mul (DE.b (de_int)) (db_v 11))))) (DE.b (de_b1 (ca_len (by rfl)) cs_len (by rfl) T.n_len bt_len (db_v 6))))) (dss_cons (ds_set 13 sc.nd (de_mod (DE.b (de_ix (db_v 3) (DE.b (de_add (DE.b (de_mul (DE.b (de_int)) (db_v 11))) (DE.b (de_int)))))) (DE.b (de_b1 (ca_len (by rfl)) cs_len (by rfl) T.n_len bt_len (DE.b (de_ix (db_v 6) (db_v 12))))))) (dss_cons (ds_set 8 sc.nd (DNE.r (dn_cat (DE.b (DNE.r (dn_cat (DE.b (de_sl (DE.b (de_ix (db_v 6) (db_v 12))) (doe_none) (doe_some (db_v 13)))) (DE.b (DNE.r (dn_lstE (dae_cons (de_add (DE.b (de_ix (DE.b (de_ix (db_v 6) (db_v 12))) (db_v 13))) (db_v 10)) (dae_nil)))))))) (DE.b (de_sl (DE.b (de_ix (db_v 6) (db_v 12))) (doe_some (DE.b (de_add (db_v 13) (DE.b (de_int))))) (doe_none)))))) (dss_one (ds_app 7 (de_tup (dae_cons (de_v 4) (dae_cons (de_v 5) (dae_cons (DNE.r (dn_cat (DE.b (DNE.r (dn_cat (DE.b (de_sl (db_v 6) (doe_none) (doe_some (db_v 12)))) (DE.b (DNE.r (dn_lstE (dae_cons (de_v 8) (dae_nil)))))))) (DE.b (de_sl (db_v 6) (doe_some (DE.b (de_add (db_v 12) (DE.b (de_int))))) (doe_none))))) (dae_nil))))))))))) (dss_cons (ds_app 7 (de_tup (dae_cons (de_v 4) (dae_cons (de_v 5) (dae_cons (DNE.r (dn_lcE rfl sc.nd (own := [("row", 8)]) (die_list (de_v 6)) (blkOk_by (by (show blkC ["old", "new", "paper", "draws", "count", "pairs", "labels", "found", "row", "label", "step", "k", "i", "j", "at", "other"] (defScope s_law_spoilt) _ _ = true); decide +kernel)) (fun _ _ _ _ _ => gx_v 8 sc.nd) (by decide) (fun _ _ _ _ _ => pt_nil) (fun _ _ _ _ _ => DNE.r (dn_lcE rfl sc.nd (own := [("label", 9)]) (die_list (de_v 8)) (blkOk_by (by (show blkC ["old", "new", "paper", "draws", "count", "pairs", "labels", "found", "row", "label", "step", "k", "i", "j", "at", "other"] (relS _ (defScope s_law_spoilt)) _ _ = true); decide +kernel)) (fun _ _ _ _ _ => gx_v 9 sc.nd) (by decide) (fun _ _ _ _ _ => pt_nil) (fun _ _ _ _ _ => de_add (db_v 9) (db_v 10)))))) (dae_nil)))))) (dss_one (ds_app 7 (de_tup (dae_cons (de_v 4) (dae_cons (de_v 5) (dae_cons (DNE.r (dn_cat (DE.b (DNE.r (dn_lstE (dae_cons (DNE.r (dn_lcE rfl sc.nd (own := [("label", 9)]) (die_list (de_ix (db_v 6) (DE.b (de_int)))) (blkOk_by (by (show blkC ["old", "new", "paper", "draws", "count", "pairs", "labels", "found", "row", "label", "step", "k", "i", "j", "at", "other"] (defScope s_law_spoilt) _ _ = true); decide +kernel)) (fun _ _ _ _ _ => gx_v 9 sc.nd) (by decide) (fun _ _ _ _ _ => pt_nil) (fun _ _ _ _ _ => de_sub (db_v 9) (db_v 10)))) (dae_nil))))) (DE.b (de_sl (db_v 6) (doe_some (DE.b (de_int))) (doe_none))))) (dae_nil)))))))))) (dss_cons (ds_if (dt_gt (DE.b (de_b1 (ca_len (by rfl)) cs_len (by rfl) T.n_len bt_len (db_v 5))) (DE.b (de_int))) (dss_cons (ds_set 14 sc.nd (de_mod (DE.b (de_ix (db_v 3) (DE.b (de_int)))) (DE.b (de_b1 (ca_len (by rfl)) cs_len (by rfl) T.n_len bt_len (db_v 5))))) (dss_cons (ds_asg (de_ix (db_v 5) (db_v 14)) (g_tup rfl (gs_cons (g_v 12 sc.nd) (gs_cons (g_v 13 sc.nd) (gs_nil))))) (dss_cons (ds_for (passes_of rfl) rfl (die_list (DNE.r (dn_lstE (dae_cons (de_tup (dae_cons (de_add (db_v 12) (DE.b (de_int))) (dae_cons (de_v 13) (dae_nil)))) (dae_cons (de_tup (dae_cons (de_v 12) (dae_cons (de_add (db_v 13) (DE.b (de_int))) (dae_nil)))) (dae_cons (de_tup (dae_cons (de_sub (db_v 12) (DE.b (de_int))) (dae_cons (de_v 13) (dae_nil)))) (dae_cons (de_tup (dae_cons (de_v 12) (dae_cons (de_sub (db_v 13) (DE.b (de_int))) (dae_nil)))) (dae_cons (de_tup (dae_cons (de_v 13) (dae_cons (de_v 12) (dae_nil)))) (dae_cons (de_tup (dae_cons (de_sub (db_v 12) (DE.b (de_b1 (ca_len (by rfl)) cs_len (by rfl) T.n_len bt_len (db_v 0)))) (dae_cons (de_v 13) (dae_nil)))) (dae_cons (de_tup (dae_cons (de_v 12) (dae_cons (de_sub (db_v 13) (DE.b (de_b1 (ca_len (by rfl)) cs_len (by rfl) T.n_len bt_len (db_v 1)))) (dae_nil)))) (dae_cons (de_ix (db_v 5) (DE.b (de_mod (DE.b (de_ix (db_v 3) (DE.b (de_int)))) (DE.b (de_b1 (ca_len (by rfl)) cs_len (by rfl) T.n_len bt_len (db_v 5)))))) (dae_nil)))))))))))) (g_v 15 sc.nd) (dss_one (ds_app 7 (de_tup (dae_cons (de_v 4) (dae_cons (DNE.r (dn_cat (DE.b (DNE.r (dn_cat (DE.b (de_sl (db_v 5) (doe_none) (doe_some (db_v 14)))) (DE.b (DNE.r (dn_lstE (dae_cons (de_v 15) (dae_nil)))))))) (DE.b (de_sl (db_v 5) (doe_some (DE.b (de_add (db_v 14) (DE.b (de_int))))) (doe_none))))) (dae_cons (de_v 6) (dae_nil)))))))) (dss_one (ds_app 7 (de_tup (dae_cons (de_add (db_v 4) (DE.b (de_int))) (dae_cons (DNE.r (dn_cat (DE.b (DNE.r (dn_cat (DE.b (de_sl (db_v 5) (doe_none) (doe_some (db_v 14)))) (DE.b (DNE.r (dn_lstE (dae_cons (de_ix (db_v 5) (db_v 14)) (dae_nil)))))))) (DE.b (de_sl (db_v 5) (doe_some (db_v 14)) (doe_none))))) (dae_cons (de_v 6) (dae_nil)))))))))) (dss_nil)) (dss_one (ds_retO 7)))))))))⟩
theorem sc_law : FnScope ["script", "draws", "pool", "size", "old", "number", "new", "kept", "table", "best", "more", "j", "i", "full", "paper", "given", "row", "told"] ["script"] (defScope s_law) := ⟨rfl, rfl, rfl, by decide +kernel, rfl, by decide +kernel, by decide +kernel⟩
theorem ok_law (T : Txt K mg) : FnOk P w K mg base (L2.CX P w) 3 T.a_law T.d_law ["script"] (spD K mg g_law) := by
  have sc := sc_law
  exact fn_d T.f_law sc rfl rfl fun cdv A outer s H E hr => ⟨_, dss_cons (ds_set 1 sc.nd (de_call (ok_law_numbers T) (hr.mono (by decide)) T.m_law_numbers T.k_law_numbers T.b_law_numbers (takes_of rfl rfl rfl rfl) (by rfl) (dae_cons (de_call (ok_law_cell T) (hr.mono (by decide)) T.m_law_cell T.k_law_cell T.b_law_cell (takes_of rfl rfl rfl rfl) (by rfl) (dae_cons (de_v 0) (dae_cons (de_int) (dae_nil)))) (dae_cons (de_int) (dae_cons (de_int) (dae_nil)))))) (dss_cons (ds_set 2 sc.nd (DNE.r (dn_lstE (dae_cons (de_str) (dae_cons (de_str) (dae_cons (de_str) (dae_cons (de_str) (dae_cons (de_str) (dae_cons (de_str) (dae_nil)))))))))) (dss_cons (ds_set 3 sc.nd (de_add (DE.b (de_int)) (DE.b (de_mod (DE.b (de_ix (db_v 1) (DE.b (de_int)))) (DE.b (de_int)))))) (dss_cons (ds_set 4 sc.nd (DNE.r (dn_lcE rfl sc.nd (own := [("number", 5)]) (die_list (de_call (ok_law_numbers T) (hr.mono (by decide)) T.m_law_numbers T.k_law_numbers T.b_law_numbers (takes_of rfl rfl rfl rfl) (by rfl) (dae_cons (de_call (ok_law_cell T) (hr.mono (by decide)) T.m_law_cell T.k_law_cell T.b_law_cell (takes_of rfl rfl rfl rfl) (by rfl) (dae_cons (de_v 0) (dae_cons (de_int) (dae_nil)))) (dae_cons (de_mod (DE.b (de_ix (db_v 1) (DE.b (de_int)))) (DE.b (de_int))) (dae_cons (de_int) (dae_nil)))))) (blkOk_by (by (show blkC ["script", "draws", "pool", "size", "old", "number", "new", "kept", "table", "best", "more", "j", "i", "full", "paper", "given", "row", "told"] (defScope s_law) _ _ = true); decide +kernel)) (fun _ _ _ _ _ => gx_v 5 sc.nd) (by decide) (fun _ _ _ _ _ => pt_nil) (fun _ _ _ _ _ => de_ix (db_v 2) (DE.b (de_mod (db_v 5) (db_v 3))))))) (dss_cons (ds_set 6 sc.nd (DNE.r (dn_lcE rfl sc.nd (own := [("number", 5)]) (die_list (de_call (ok_law_numbers T) (hr.mono (by decide)) T.m_law_numbers T.k_law_numbers T.b_law_numbers (takes_of rfl rfl rfl rfl) (by rfl) (dae_cons (de_call (ok_law_cell T) (hr.mono (by decide)) T.m_law_cell T.k_law_cell T.b_law_cell (takes_of rfl rfl rfl rfl) (by rfl) (dae_cons (de_v 0) (dae_cons (de_int) (dae_nil)))) (dae_cons (de_mod (DE.b (de_ix (db_v 1) (DE.b (de_int)))) (DE.b (de_int))) (dae_cons (de_int) (dae_nil)))))) (blkOk_by (by (show blkC ["script", "draws", "pool", "size", "old", "number", "new", "kept", "table", "best", "more", "j", "i", "full", "paper", "given", "row", "told"] (defScope s_law) _ _ = true); decide +kernel)) (fun _ _ _ _ _ => gx_v 5 sc.nd) (by decide) (fun _ _ _ _ _ => pt_nil) (fun _ _ _ _ _ => de_ix (db_v 2) (DE.b (de_mod (db_v 5) (db_v 3))))))) (dss_cons (ds_if (dt_eq hr.units (DE.b (de_mod (DE.b (de_ix (db_v 1) (DE.b (de_int)))) (DE.b (de_int)))) (DE.b (de_int))) (dss_one (ds_set 6 sc.nd (de_add (DE.b (de_add (DE.b (de_sl (db_v 4) (doe_none) (doe_some (DE.b (de_mod (DE.b (de_ix (db_v 1) (DE.b (de_int)))) (DE.b (de_add (DE.b (de_b1 (ca_len (by rfl)) cs_len (by rfl) T.n_len bt_len (db_v 4))) (DE.b (de_int))))))))) (DE.b (de_sl (db_v 6) (doe_none) (doe_some (DE.b (de_int))))))) (DE.b (de_sl (DE.b (de_sl (db_v 4) (doe_some (DE.b (de_mod (DE.b (de_ix (db_v 1) (DE.b (de_int)))) (DE.b (de_add (DE.b (de_b1 (ca_len (by rfl)) cs_len (by rfl) T.n_len bt_len (db_v 4))) (DE.b (de_int))))))) (doe_none))) (doe_none) (doe_some (DE.b (de_int)))))))) (dss_nil)) (dss_cons (ds_set 7 sc.nd (de_tup (dae_cons (DNE.r (dn_t1 (ca_list (by rfl)) cs_list (by rfl) T.n_list bt_list (db_v 4))) (dae_cons (DNE.r (dn_t1 (ca_list (by rfl)) cs_list (by rfl) T.n_list bt_list (db_v 6))) (dae_nil))))) (dss_cons (ds_set 8 sc.nd (de_call (ok_law_table T) (hr.mono (by decide)) T.m_law_table T.k_law_table T.b_law_table (takes_of rfl rfl rfl rfl) (by rfl) (dae_cons (de_v 4) (dae_cons (de_v 6) (dae_nil))))) (dss_cons (ds_set 9 sc.nd (de_tup (dae_cons (de_ix (DE.b (de_ix (db_v 8) (DE.b (de_int)))) (DE.b (de_int))) (dae_cons (de_call (ok_law_from_end T) (hr.mono (by decide)) T.m_law_from_end T.k_law_from_end T.b_law_from_end (takes_of rfl rfl rfl rfl) (by rfl) (dae_cons (de_v 4) (dae_cons (de_v 6) (dae_nil)))) (dae_cons (de_v 8) (dae_nil)))))) (dss_cons (ds_set 10 sc.nd (de_tup (dae_cons (de_ix (db_v 9) (DE.b (de_int))) (dae_cons (de_ix (db_v 9) (DE.b (de_int))) (dae_cons (DNE.r (dn_lcE rfl sc.nd (own := [("i", 12)]) (die_range1 T.n_range (DE.b (de_add (DE.b (de_b1 (ca_len (by rfl)) cs_len (by rfl) T.n_len bt_len (db_v 4))) (DE.b (de_int))))) (blkOk_by (by (show blkC ["script", "draws", "pool", "size", "old", "number", "new", "kept", "table", "best", "more", "j", "i", "full", "paper", "given", "row", "told"] (defScope s_law) _ _ = true); decide +kernel)) (fun _ _ _ _ _ => gx_v 12 sc.nd) (by decide) (fun _ _ _ _ _ => pt_nil) (fun _ _ _ _ _ => DNE.r (dn_lcE rfl sc.nd (own := [("j", 11)]) (die_range1 T.n_range (DE.b (de_add (DE.b (de_b1 (ca_len (by rfl)) cs_len (by rfl) T.n_len bt_len (db_v 6))) (DE.b (de_int))))) (blkOk_by (by (show blkC ["script", "draws", "pool", "size", "old", "number", "new", "kept", "table", "best", "more", "j", "i", "full", "paper", "given", "row", "told"] (relS _ (defScope s_law)) _ _ = true); decide +kernel)) (fun _ _ _ _ _ => gx_v 11 sc.nd) (by decide) (fun _ _ _ _ _ => pt_nil) (fun _ _ _ _ _ => de_add (DE.b (de_ix (DE.b (de_ix (db_v 8) (db_v 12))) (db_v 11))) (DE.b (de_t1 ca_int cs_int (by rfl) T.n_int bt_int (DE.b (de_and (de_gt (DE.b (de_add (db_v 12) (db_v 11))) (DE.b (de_int))) (de_one (de_lt (DE.b (de_ix (DE.b (de_ix (db_v 8) (db_v 12))) (db_v 11))) (DE.b (de_ix (DE.b (de_ix (db_v 8) (DE.b (de_int)))) (DE.b (de_int))))))))))))))) (dae_nil)))))) (dss_cons (ds_set 13 sc.nd (de_tup (dae_cons (de_ix (db_v 9) (DE.b (de_int))) (dae_cons (de_ix (db_v 9) (DE.b (de_int))) (dae_cons (DNE.r (dn_lcE rfl sc.nd (own := [("i", 12)]) (die_range1 T.n_range (DE.b (de_add (DE.b (de_b1 (ca_len (by rfl)) cs_len (by rfl) T.n_len bt_len (db_v 4))) (DE.b (de_int))))) (blkOk_by (by (show blkC ["script", "draws", "pool", "size", "old", "number", "new", "kept", "table", "best", "more", "j", "i", "full", "paper", "given", "row", "told"] (defScope s_law) _ _ = true); decide +kernel)) (fun _ _ _ _ _ => gx_v 12 sc.nd) (by decide) (fun _ _ _ _ _ => pt_nil) (fun _ _ _ _ _ => DNE.r (dn_lcE rfl sc.nd (own := [("j", 11)]) (die_range1 T.n_range (DE.b (de_add (DE.b (de_b1 (ca_len (by rfl)) cs_len (by rfl) T.n_len bt_len (db_v 6))) (DE.b (de_int))))) (blkOk_by (by (show blkC ["script", "draws", "pool", "size", "old", "number", "new", "kept", "table", "best", "more", "j", "i", "full", "paper", "given", "row", "told"] (relS _ (defScope s_law)) _ _ = true); decide +kernel)) (fun _ _ _ _ _ => gx_v 11 sc.nd) (by decide) (fun _ _ _ _ _ => pt_nil) (fun _ _ _ _ _ => de_b2 (ca_min2 (by rfl)) cs_min2 (by rfl) T.n_min bt_min (DE.b (de_ix (DE.b (de_ix (db_v 8) (DE.b (de_int)))) (DE.b (de_int)))) (DE.b (de_b2 (ca_min2 (by rfl)) cs_min2 (by rfl) T.n_min bt_min (DE.b (de_sub (DE.b (de_b1 (ca_len (by rfl)) cs_len (by rfl) T.n_len bt_len (db_v 4))) (db_v 12))) (DE.b (de_sub (DE.b (de_b1 (ca_len (by rfl)) cs_len (by rfl) T.n_len bt_len (db_v 6))) (db_v 11)))))))))) (dae_nil)))))) (dss_cons (ds_if (dt_not (dt_truE (DE.b (de_call (ok_law_good T) (hr.mono (by decide)) T.m_law_good T.k_law_good T.b_law_good (takes_of rfl rfl rfl rfl) (by rfl) (dae_cons (de_v 4) (dae_cons (de_v 6) (dae_cons (de_v 9) (dae_nil)))))))) (dss_one (ds_ret (de_bl))) (dss_nil)) (dss_cons (ds_for (passes_of rfl) rfl (die_list (DNE.r (dn_cat (DE.b (DNE.r (dn_cat (DE.b (de_call (ok_law_spoilt T) (hr.mono (by decide)) T.m_law_spoilt T.k_law_spoilt T.b_law_spoilt (takes_of rfl rfl rfl rfl) (by rfl) (dae_cons (de_v 4) (dae_cons (de_v 6) (dae_cons (de_v 9) (dae_cons (de_v 1) (dae_nil))))))) (DE.b (DNE.r (dn_lstE (dae_cons (de_v 10) (dae_cons (de_v 13) (dae_nil))))))))) (DE.b (de_call (ok_law_spoilt T) (hr.mono (by decide)) T.m_law_spoilt T.k_law_spoilt T.b_law_spoilt (takes_of rfl rfl rfl rfl) (by rfl) (dae_cons (de_v 4) (dae_cons (de_v 6) (dae_cons (de_v 13) (dae_cons (de_v 1) (dae_nil)))))))))) (g_v 14 sc.nd) (dss_cons (ds_set 15 sc.nd (de_tup (dae_cons (de_ix (db_v 14) (DE.b (de_int))) (dae_cons (DNE.r (dn_t1 (ca_list (by rfl)) cs_list (by rfl) T.n_list bt_list (DE.b (de_ix (db_v 14) (DE.b (de_int)))))) (dae_cons (DNE.r (dn_lcE rfl sc.nd (own := [("row", 16)]) (die_list (de_ix (db_v 14) (DE.b (de_int)))) (blkOk_by (by (show blkC ["script", "draws", "pool", "size", "old", "number", "new", "kept", "table", "best", "more", "j", "i", "full", "paper", "given", "row", "told"] (defScope s_law) _ _ = true); decide +kernel)) (fun _ _ _ _ _ => gx_v 16 sc.nd) (by decide) (fun _ _ _ _ _ => pt_nil) (fun _ _ _ _ _ => DNE.r (dn_t1 (ca_list (by rfl)) cs_list (by rfl) T.n_list bt_list (db_v 16))))) (dae_nil)))))) (dss_cons (ds_set 17 sc.nd (de_call (ok_judge_common T) (hr.mono (by decide)) T.m_judge_common T.k_judge_common T.b_judge_common (takes_of rfl rfl rfl rfl) (by rfl) (dae_cons (de_v 4) (dae_cons (de_v 6) (dae_cons (de_v 15) (dae_nil)))))) (dss_one (ds_if (dt_w (dw_or (dt_not (dt_truE (DE.b (de_isi "bool" (by decide) (by rfl) T.n_isinstance bt_isi (by rfl) T.n_bool bt_bool (db_v 17))))) (dw_or (dt_ne hr.units (db_v 17) (DE.b (de_call (ok_law_good T) (hr.mono (by decide)) T.m_law_good T.k_law_good T.b_law_good (takes_of rfl rfl rfl rfl) (by rfl) (dae_cons (de_v 4) (dae_cons (de_v 6) (dae_cons (de_v 14) (dae_nil))))))) (dw_or (dt_ne hr.units (db_v 15) (db_v 14)) (dw_or1 (dt_ne hr.units (DE.b (de_tup (dae_cons (de_v 4) (dae_cons (de_v 6) (dae_nil))))) (db_v 7))))))) (dss_one (ds_ret (de_bl))) (dss_nil)))))) (dss_one (ds_ret (de_bl)))))))))))))))⟩
end
theorem all_mk {l : PySem.W.OpenLaw} {w : World} {K : PySem.W.Frag} {h : Heap} {mg : Str → Option Value} {fa : Addr} (X : K.In h) (G : h.Ns mainGlobals mg) (hfa : mg "law" = some (.ref fa))
    {f1 f2 f3 f4 f5 f6 f7 f8 f9 f10 : Addr} {od1 an1 od2 an2 od3 an3 od4 an4 od5 an5 od6 an6 od7 an7 od8 an8 od9 an9 od10 an10 : Option Addr} {sl1 sl2 sl3 sl4 sl5 sl6 sl7 sl8 sl9 sl10 : Array (Option Value)} {oc1 kV1 dc1 pm1 cd1 ct1 oc2 kV2 dc2 pm2 cd2 ct2 oc3 kV3 dc3 pm3 cd3 ct3 oc4 kV4 dc4 pm4 cd4 ct4 oc5 kV5 dc5 pm5 cd5 ct5 oc6 kV6 dc6 pm6 cd6 ct6 oc7 kV7 dc7 pm7 cd7 ct7 oc8 kV8 dc8 pm8 cd8 ct8 oc9 kV9 dc9 pm9 cd9 ct9 oc10 kV10 dc10 pm10 cd10 ct10 : Value}
    (a1 : PySem.W.nsIn K mainGlobals "is_common_row" = some (some (.ref f1))) (l1 : K.lookup f1 = some ⟨oc1, od1, .func (PySem.W.fnOf "is_common_row" "is_common_row" (defArgs s_is_common_row) (defBody s_is_common_row) (defScope s_is_common_row) .none kV1 dc1 pm1 an1 cd1 ct1), sl1⟩) (c1 : PySem.W.codeIn K cd1 "is_common_row" = true) (k1 : PySem.W.keepIn K (.ref f1) = true)
    (a2 : PySem.W.nsIn K mainGlobals "is_label" = some (some (.ref f2))) (l2 : K.lookup f2 = some ⟨oc2, od2, .func (PySem.W.fnOf "is_label" "is_label" (defArgs s_is_label) (defBody s_is_label) (defScope s_is_label) .none kV2 dc2 pm2 an2 cd2 ct2), sl2⟩) (c2 : PySem.W.codeIn K cd2 "is_label" = true) (k2 : PySem.W.keepIn K (.ref f2) = true)
    (a3 : PySem.W.nsIn K mainGlobals "judge_common" = some (some (.ref f3))) (l3 : K.lookup f3 = some ⟨oc3, od3, .func (PySem.W.fnOf "judge_common" "judge_common" (defArgs s_judge_common) (defBody s_judge_common) (defScope s_judge_common) .none kV3 dc3 pm3 an3 cd3 ct3), sl3⟩) (c3 : PySem.W.codeIn K cd3 "judge_common" = true) (k3 : PySem.W.keepIn K (.ref f3) = true)
    (a4 : PySem.W.nsIn K mainGlobals "_law_cell" = some (some (.ref f4))) (l4 : K.lookup f4 = some ⟨oc4, od4, .func (PySem.W.fnOf "_law_cell" "_law_cell" (defArgs s_law_cell) (defBody s_law_cell) (defScope s_law_cell) .none kV4 dc4 pm4 an4 cd4 ct4), sl4⟩) (c4 : PySem.W.codeIn K cd4 "_law_cell" = true) (k4 : PySem.W.keepIn K (.ref f4) = true)
    (a5 : PySem.W.nsIn K mainGlobals "_law_numbers" = some (some (.ref f5))) (l5 : K.lookup f5 = some ⟨oc5, od5, .func (PySem.W.fnOf "_law_numbers" "_law_numbers" (defArgs s_law_numbers) (defBody s_law_numbers) (defScope s_law_numbers) .none kV5 dc5 pm5 an5 cd5 ct5), sl5⟩) (c5 : PySem.W.codeIn K cd5 "_law_numbers" = true) (k5 : PySem.W.keepIn K (.ref f5) = true)
    (a6 : PySem.W.nsIn K mainGlobals "_law_table" = some (some (.ref f6))) (l6 : K.lookup f6 = some ⟨oc6, od6, .func (PySem.W.fnOf "_law_table" "_law_table" (defArgs s_law_table) (defBody s_law_table) (defScope s_law_table) .none kV6 dc6 pm6 an6 cd6 ct6), sl6⟩) (c6 : PySem.W.codeIn K cd6 "_law_table" = true) (k6 : PySem.W.keepIn K (.ref f6) = true)
    (a7 : PySem.W.nsIn K mainGlobals "_law_from_end" = some (some (.ref f7))) (l7 : K.lookup f7 = some ⟨oc7, od7, .func (PySem.W.fnOf "_law_from_end" "_law_from_end" (defArgs s_law_from_end) (defBody s_law_from_end) (defScope s_law_from_end) .none kV7 dc7 pm7 an7 cd7 ct7), sl7⟩) (c7 : PySem.W.codeIn K cd7 "_law_from_end" = true) (k7 : PySem.W.keepIn K (.ref f7) = true)
    (a8 : PySem.W.nsIn K mainGlobals "_law_good" = some (some (.ref f8))) (l8 : K.lookup f8 = some ⟨oc8, od8, .func (PySem.W.fnOf "_law_good" "_law_good" (defArgs s_law_good) (defBody s_law_good) (defScope s_law_good) .none kV8 dc8 pm8 an8 cd8 ct8), sl8⟩) (c8 : PySem.W.codeIn K cd8 "_law_good" = true) (k8 : PySem.W.keepIn K (.ref f8) = true)
    (a9 : PySem.W.nsIn K mainGlobals "_law_spoilt" = some (some (.ref f9))) (l9 : K.lookup f9 = some ⟨oc9, od9, .func (PySem.W.fnOf "_law_spoilt" "_law_spoilt" (defArgs s_law_spoilt) (defBody s_law_spoilt) (defScope s_law_spoilt) .none kV9 dc9 pm9 an9 cd9 ct9), sl9⟩) (c9 : PySem.W.codeIn K cd9 "_law_spoilt" = true) (k9 : PySem.W.keepIn K (.ref f9) = true)
    (a10 : PySem.W.nsIn K mainGlobals "law" = some (some (.ref f10))) (l10 : K.lookup f10 = some ⟨oc10, od10, .func (PySem.W.fnOf "law" "law" (defArgs s_law) (defBody s_law) (defScope s_law) .none kV10 dc10 pm10 an10 cd10 ct10), sl10⟩) (c10 : PySem.W.codeIn K cd10 "law" = true) (k10 : PySem.W.keepIn K (.ref f10) = true)
    (z_all : PySem.W.nsIn K mainGlobals "all" = some none)
    (z_bool : PySem.W.nsIn K mainGlobals "bool" = some none)
    (z_int : PySem.W.nsIn K mainGlobals "int" = some none)
    (z_isinstance : PySem.W.nsIn K mainGlobals "isinstance" = some none)
    (z_len : PySem.W.nsIn K mainGlobals "len" = some none)
    (z_list : PySem.W.nsIn K mainGlobals "list" = some none)
    (z_max : PySem.W.nsIn K mainGlobals "max" = some none)
    (z_min : PySem.W.nsIn K mainGlobals "min" = some none)
    (z_range : PySem.W.nsIn K mainGlobals "range" = some none)
    : ∃ (T : Txt K mg), T.a_law = fa ∧ ∀ (s : Shared) (v : Value), BindsTo s T.d_law ⟨[v], []⟩ [("script", v)] := by
  have e := hfa.symm.trans (PySem.W.mg_of X G a10)
  cases e
  have F1 := fun_mk (st := s_is_common_row) l1 c1 k1
  have b1 := F1.binds (ps := ["old", "new", "pairs"]) fun _ _ _ _ _ _ us hl => match us, hl with | [_, _, _], _ => rfl
  have F2 := fun_mk (st := s_is_label) l2 c2 k2
  have b2 := F2.binds (ps := ["old", "new", "labels", "i", "j"]) fun _ _ _ _ _ _ us hl => match us, hl with | [_, _, _, _, _], _ => rfl
  have F3 := fun_mk (st := s_judge_common) l3 c3 k3
  have b3 := F3.binds (ps := ["old", "new", "paper"]) fun _ _ _ _ _ _ us hl => match us, hl with | [_, _, _], _ => rfl
  have F4 := fun_mk (st := s_law_cell) l4 c4 k4
  have b4 := F4.binds (ps := ["script", "k"]) fun _ _ _ _ _ _ us hl => match us, hl with | [_, _], _ => rfl
  have F5 := fun_mk (st := s_law_numbers) l5 c5 k5
  have b5 := F5.binds (ps := ["cell", "count", "limit"]) fun _ _ _ _ _ _ us hl => match us, hl with | [_, _, _], _ => rfl
  have F6 := fun_mk (st := s_law_table) l6 c6 k6
  have b6 := F6.binds (ps := ["old", "new"]) fun _ _ _ _ _ _ us hl => match us, hl with | [_, _], _ => rfl
  have F7 := fun_mk (st := s_law_from_end) l7 c7 k7
  have b7 := F7.binds (ps := ["old", "new"]) fun _ _ _ _ _ _ us hl => match us, hl with | [_, _], _ => rfl
  have F8 := fun_mk (st := s_law_good) l8 c8 k8
  have b8 := F8.binds (ps := ["old", "new", "paper"]) fun _ _ _ _ _ _ us hl => match us, hl with | [_, _, _], _ => rfl
  have F9 := fun_mk (st := s_law_spoilt) l9 c9 k9
  have b9 := F9.binds (ps := ["old", "new", "paper", "draws"]) fun _ _ _ _ _ _ us hl => match us, hl with | [_, _, _, _], _ => rfl
  have F10 := fun_mk (st := s_law) l10 c10 k10
  have b10 := F10.binds (ps := ["script"]) fun _ _ _ _ _ _ us hl => match us, hl with | [_], _ => rfl
  exact ⟨⟨f1, _, F1, b1, PySem.W.mg_of X G a1, k1, f2, _, F2, b2, PySem.W.mg_of X G a2, k2, f3, _, F3, b3, PySem.W.mg_of X G a3, k3, f4, _, F4, b4, PySem.W.mg_of X G a4, k4, f5, _, F5, b5, PySem.W.mg_of X G a5, k5, f6, _, F6, b6, PySem.W.mg_of X G a6, k6, f7, _, F7, b7, PySem.W.mg_of X G a7, k7, f8, _, F8, b8, PySem.W.mg_of X G a8, k8, f9, _, F9, b9, PySem.W.mg_of X G a9, k9, fa, _, F10, b10, PySem.W.mg_of X G a10, k10, PySem.W.mg_none_of X G z_all, PySem.W.mg_none_of X G z_bool, PySem.W.mg_none_of X G z_int, PySem.W.mg_none_of X G z_isinstance, PySem.W.mg_none_of X G z_len, PySem.W.mg_none_of X G z_list, PySem.W.mg_none_of X G z_max, PySem.W.mg_none_of X G z_min, PySem.W.mg_none_of X G z_range⟩, rfl, fun s v => .of_eq rfl⟩
theorem walk {l : PySem.W.OpenLaw} {q : Program} {loose : List Str} {XP : (Str → Option Value) → Heap → Prop} {YP : World → Heap → Prop} {d : DefRec} {K : Params → PySem.W.Frag} (hn : l.most = some 63) (hdf : d.params.defaults = [])
    (hY : ∀ (w : World) (h : Heap), YP w h → (K w.params).In h)
    (F : ∀ (w : World) (mg : Str → Option Value) (fa : Addr) (h : Heap), (K w.params).In h → h.Ns mainGlobals mg → mg d.name = some (.ref fa) →
      ∃ (T : Txt (K w.params) mg), T.a_law = fa ∧ ∀ (s : Shared) (u : Value), BindsTo s T.d_law ⟨[u], []⟩ [("script", u)])
    (law : ∀ ns : List Int, ns.length ≤ 63 → ∃ b, g_law [roD (ns.map PyData.int)] = .ok (b, .bool true)) :
    PySem.W.WalkO q loose XP YP l.row.toRowW d [] (fun f vs => PySem.call f vs) :=
  L2.walk_of (n := 63) (k := 3) (x := "script") (CX := fun w => L2.CX l.prog w) (sp := fun w vs H Q E => ∃ a ns, vs = [.ref a] ∧ ns.length ≤ 63 ∧ Only H ∧ SqL (K w.params) H a (ns.map V.int) ∧ Q = (fun v _ => v = .bl true) ∧ E = (fun _ _ _ => False)) hn (by decide) hdf ⟨rfl, by decide, by decide⟩ hY
    (fun w mg fa h KX G hm => by
      obtain ⟨T, e, hb⟩ := F w mg fa h KX G hm
      subst e
      refine ⟨T.d_law, hb, fun base _ _ => (ok_law T).imp fun vs H Q E q => ?_⟩
      obtain ⟨a, ns, rfl, hl, ho, hs, rfl, rfl⟩ := q
      obtain ⟨b, hb⟩ := law ns hl
      exact law_sp hb ho hs)
    (fun w H a ns hl ho hS => ⟨a, ns, rfl, hl, ho, hS, rfl, rfl⟩) fun w H s e s' h => by
      obtain ⟨_, _, _, _, _, _, _, _, _, _, _, _, z⟩ := h
      exact z
end K81

open PySem PySem.W PyProof.Rows in
set_option maxRecDepth 100000 in
set_option maxHeartbeats 0 in
theorem PySem.Challenge.cw_screenspoken_k81_judge_of_common_rows_holds : PySem.Challenge.rw_screenspoken_k81_judge_of_common_rows.Holds := by
  w_on; o_law; k_head; (case hw => w_witness2)
  k_fill
  refine K81.walk (l := PySem.Challenge.rw_screenspoken_k81_judge_of_common_rows) rfl rfl (fun w h Y => PySem.W.kIn_of Y) ?F K81.law_true
  case F =>
    intro w mg fa h KX G hmg
    refine' K81.all_mk (l := PySem.Challenge.rw_screenspoken_k81_judge_of_common_rows) (w := w) KX G hmg ?a1 ?l1 ?c1 ?k1 ?a2 ?l2 ?c2 ?k2 ?a3 ?l3 ?c3 ?k3 ?a4 ?l4 ?c4 ?k4 ?a5 ?l5 ?c5 ?k5 ?a6 ?l6 ?c6 ?k6 ?a7 ?l7 ?c7 ?k7 ?a8 ?l8 ?c8 ?k8 ?a9 ?l9 ?c9 ?k9 ?a10 ?l10 ?c10 ?k10 ?z_all ?z_bool ?z_int ?z_isinstance ?z_len ?z_list ?z_max ?z_min ?z_range
    (case a1 => k_is)
    (case l1 => k_is)
    (case c1 => k_is)
    (case k1 => k_is)
    (case a2 => k_is)
    (case l2 => k_is)
    (case c2 => k_is)
    (case k2 => k_is)
    (case a3 => k_is)
    (case l3 => k_is)
    (case c3 => k_is)
    (case k3 => k_is)
    (case a4 => k_is)
    (case l4 => k_is)
    (case c4 => k_is)
    (case k4 => k_is)
    (case a5 => k_is)
    (case l5 => k_is)
    (case c5 => k_is)
    (case k5 => k_is)
    (case a6 => k_is)
    (case l6 => k_is)
    (case c6 => k_is)
    (case k6 => k_is)
    (case a7 => k_is)
    (case l7 => k_is)
    (case c7 => k_is)
    (case k7 => k_is)
    (case a8 => k_is)
    (case l8 => k_is)
    (case c8 => k_is)
    (case k8 => k_is)
    (case a9 => k_is)
    (case l9 => k_is)
    (case c9 => k_is)
    (case k9 => k_is)
    (case a10 => k_is)
    (case l10 => k_is)
    (case c10 => k_is)
    (case k10 => k_is)
    (case z_all => k_is)
    (case z_bool => k_is)
    (case z_int => k_is)
    (case z_isinstance => k_is)
    (case z_len => k_is)
    (case z_list => k_is)
    (case z_max => k_is)
    (case z_min => k_is)
    (case z_range => k_is)

