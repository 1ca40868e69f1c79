import PyProof.Rows.All
import Wide.All
import OpenK.AllK
import Wide.FinOn
import KE.KItem
import PySem.Challenge.RW_sx_vpivot_7
set_option Elab.async false
set_option genSizeOf false
set_option genSizeOfSpec false
section
set_option genSizeOf false
set_option genSizeOfSpec false
set_option genInjectivity false
namespace Mine
open PySem

/-! the pure interpreter: syntax -/
inductive BOp where | add | sub | mul | fdiv | mod
inductive COp where | eq | ne | lt | gt | le | ge | isin | notin
inductive Blt where | len | abs | str | int | max | sortedSet
inductive Mth where | index | count | split

mutual
inductive PE where
  | lit (d : PyData)
  | var (i : Nat)
  | glo (x : Str) (d : PyData)
  | bin (o : BOp) (a b : PE)
  | neg (a : PE)
  | tst (t : PT)
  | ite (t : PT) (a b : PE)
  | call (f : Nat) (as : PEs)
  | blt (f : Blt) (a : PE)
  | lrange (i : PI)
  | tup (es : PEs)
  | lst (es : PEs)
  | idx (a i : PE)
  | sl (a lo hi : PE)
  | comp (elt : PE) (k : Nat) (it : PI) (c : PT)
  | mth (f : Mth) (a b : PE)
inductive PEs where
  | nil
  | cons (e : PE) (r : PEs)
inductive PT where
  | tt
  | ff
  | cmp (o : COp) (a b : PE)
  | isNone (a : PE)
  | isNotNone (a : PE)
  | isInt (a : PE)
  | not (t : PT)
  | and (a b : PT)
  | or (a b : PT)
  | val (a : PE)
inductive PI where
  | r1 (b : PE)
  | r2 (a b : PE)
  | r3 (a b c : PE)
  | of (a : PE)
  | zip (a b : PE)
  | enum (a : PE)
end

mutual
inductive PS where
  | frz (is : List Nat)
  | asg (i : Nat) (e : PE)
  | bnew (i : Nat) (e : PE)
  | asgN (is : List Nat) (e : PE)
  | app (i : Nat) (e : PE)
  | ins (i : Nat) (p e : PE)
  | put (i : Nat) (p e : PE)
  | put2 (i : Nat) (p q e : PE)
  | swap (i : Nat) (p q p' q' : PE)
  | ite (t : PT) (a b : PSs)
  | for_ (is : List Nat) (it : PI) (body : PSs)
  | while_ (t : PT) (body : PSs)
  | ret (e : PE)
  | retv (i : Nat)
  | raise (c : Nat) (msg : Str)
  | tryC (i f : Nat) (as : PEs) (c y : Nat) (d : PyData)
  | brk
  | cont
inductive PSs where
  | nil
  | cons (s : PS) (r : PSs)
end

set_option genInjectivity true
/-! slots, outcomes -/
inductive Slot where
  | un
  | pl (d : PyData)
  | b1 (ds : List PyData)
  | b2 (dss : List (List PyData))
inductive Out where
  | ret (d : PyData) (l : Nat)
  | exc (c : Nat)
inductive Flw where
  | next
  | brk
  | cont
  | ret (d : PyData) (l : Nat)
  | exc (c : Nat)

abbrev Env' := List Slot
abbrev Funs := Nat → List PyData → Option Out

noncomputable def lim : Nat := 2 ^ 8000
noncomputable def sm (i : Int) : Bool := decide (i.natAbs < lim)
noncomputable def lenLim : Nat := 2 ^ 20

noncomputable def repL (xs : List PyData) : Nat → List PyData
  | 0 => []
  | n + 1 => xs ++ repL xs n
noncomputable def binD : BOp → PyData → PyData → Option (PyData × Nat)
  | .add, .int a, .int b => some (.int (a + b), 0)
  | .add, .list a, .list b => if a.length + b.length ≤ lenLim then some (.list (a ++ b), 1) else none
  | .add, .str a, .str b => if a.length + b.length ≤ lenLim then some (.str (a ++ b), 0) else none
  | .sub, .int a, .int b => some (.int (a - b), 0)
  | .mul, .int a, .int b => if sm a && sm b then some (.int (a * b), 0) else none
  | .mul, .list xs, .int n => if 0 ≤ n && xs.length * n.toNat ≤ lenLim && n ≤ lenLim then some (.list (repL xs n.toNat), 1) else none
  | .fdiv, .int a, .int b => if b ≠ 0 && sm b then some (.int (a.fdiv b), 0) else none
  | .mod, .int a, .int b => if b ≠ 0 && sm b then some (.int (a.fmod b), 0) else none
  | _, _, _ => none

noncomputable def cmpD : COp → PyData → PyData → Option Bool
  | .eq, a, b => if SeqAt.shaped a && SeqAt.shaped b then some (PyData.eqv a b) else none
  | .ne, a, b => if SeqAt.shaped a && SeqAt.shaped b then some (!PyData.eqv a b) else none
  | .lt, .int a, .int b => some (decide (a < b))
  | .gt, .int a, .int b => some (decide (b < a))
  | _, _, _ => none

noncomputable def boolD : PyData → Option Bool
  | .bool b => some b
  | _ => none
noncomputable def intD : PyData → Option Int
  | .int i => some i
  | _ => none
noncomputable def itemsD : PyData → Option (List PyData)
  | .list xs => some xs
  | .tuple xs => some xs
  | _ => none

/-- the decimal text of an int -/
noncomputable def strI (i : Int) : Str := Str.ofString (toString i)

noncomputable def bltD : Blt → PyData → Option (PyData × Nat)
  | .len, .list xs => if xs.length ≤ lenLim then some (.int xs.length, 0) else none
  | .len, .str x => if x.length ≤ lenLim then some (.int x.length, 0) else none
  | .abs, .int i => some (.int i.natAbs, 0)
  | .str, .int i => if sm i then some (.str (strI i), 0) else none
  | _, _ => none

noncomputable def idxD : PyData → PyData → Option (PyData × Nat)
  | .list xs, .int k => if 0 ≤ k && k < lenLim then xs[k.toNat]?.map (·, 0) else none
  | .tuple xs, .int k => if 0 ≤ k && k < lenLim then xs[k.toNat]?.map (·, 0) else none
  | _, _ => none

noncomputable def slBound : PyData → Option (Option Nat)
  | .none => some none
  | .int k => if 0 ≤ k && k < lenLim then some (some k.toNat) else none
  | _ => none
noncomputable def slD : PyData → PyData → PyData → Option (PyData × Nat)
  | .list xs, lo, hi => (slBound lo).bind fun l => (slBound hi).bind fun h =>
    if xs.length ≤ lenLim then (match l, h with
      | none, none => some (.list xs, 1)
      | some a, none => some (.list (xs.drop a), 1)
      | none, some b => some (.list (xs.take b), 1)
      | _, _ => none) else none
  | _, _, _ => none
noncomputable def intsD : List PyData → Option (List Int)
  | [] => some []
  | .int i :: r => (intsD r).bind fun is => some (i :: is)
  | _ => none

noncomputable def mthD : Mth → PyData → PyData → Option (PyData × Nat)
  | .index, .list xs, .int r => (intsD xs).bind fun ns => if PyData.layable0 (.list (ns.map .int)) && ns.contains r then some (.int (ns.idxOf r : Nat), 0) else none
  | _, _, _ => none

noncomputable def rangeL (a b : Int) : List PyData := (List.range (b - a).toNat).map fun (k : Nat) => .int (a + k)
noncomputable def rangeD (a b : Int) : List PyData := (List.range (a - b).toNat).map fun (k : Nat) => .int (a - k)
noncomputable def okR (a b : Int) : Bool := decide (a.natAbs ≤ lenLim) && decide (b.natAbs ≤ lenLim)

noncomputable def lvl2 (r : PyData × Nat) : Bool := match r with | (.list _, 1) => true | _ => false

/-! evaluators -/
mutual
noncomputable def evE (Φ : Funs) (γ : Env') : PE → Option (PyData × Nat)
  | .lit d => some (d, 0)
  | .var i => match γ[i]? with | some (.pl d) => some (d, 0) | _ => none
  | .glo _ d => some (d, 0)
  | .bin o a b => (evE Φ γ a).bind fun x => (evE Φ γ b).bind fun y => binD o x.1 y.1
  | .neg a => (evE Φ γ a).bind fun x => (intD x.1).bind fun i => some (.int (-i), 0)
  | .tst t => (evT Φ γ t).bind fun b => some (.bool b, 0)
  | .ite t a b => (evT Φ γ t).bind fun c => if c then evE Φ γ a else evE Φ γ b
  | .call f as => (evEs Φ γ as).bind fun xs => (Φ f xs).bind fun o => match o with | .ret d l => some (d, l) | .exc _ => none
  | .blt f a => (evE Φ γ a).bind fun x => bltD f x.1
  | .lrange i => (evI Φ γ i).bind fun xs => some (.list xs, 1)
  | .tup es => (evEs Φ γ es).bind fun xs => some (.tuple xs, 0)
  | .lst es => (evEs Φ γ es).bind fun xs => some (.list xs, 1)
  | .idx a i => (evE Φ γ a).bind fun x => (evE Φ γ i).bind fun y => idxD x.1 y.1
  | .sl a lo hi => (evE Φ γ a).bind fun x => (evE Φ γ lo).bind fun l => (evE Φ γ hi).bind fun h => slD x.1 l.1 h.1
  | .comp elt _ it _ => (evI Φ γ it).bind fun xs => (xs.mapM fun d => evE Φ (.pl d :: γ) elt).bind fun rs =>
      some (.list (rs.map (·.1)), if !rs.isEmpty && rs.all lvl2 then 2 else 1)
  | .mth f a b => (evE Φ γ a).bind fun x => (evE Φ γ b).bind fun y => mthD f x.1 y.1
noncomputable def evEs (Φ : Funs) (γ : Env') : PEs → Option (List PyData)
  | .nil => some []
  | .cons e r => (evE Φ γ e).bind fun x => (evEs Φ γ r).bind fun xs => some (x.1 :: xs)
noncomputable def evT (Φ : Funs) (γ : Env') : PT → Option Bool
  | .tt => some true
  | .ff => some false
  | .cmp o a b => (evE Φ γ a).bind fun x => (evE Φ γ b).bind fun y => cmpD o x.1 y.1
  | .isNone a => (evE Φ γ a).bind fun x => some (match x.1 with | .none => true | _ => false)
  | .isNotNone a => (evE Φ γ a).bind fun x => some (match x.1 with | .none => false | _ => true)
  | .isInt a => (evE Φ γ a).bind fun x => match x.1 with | .int _ => some true | _ => none
  | .not t => (evT Φ γ t).bind fun b => some (!b)
  | .and a b => (evT Φ γ a).bind fun x => if x then evT Φ γ b else some false
  | .or a b => (evT Φ γ a).bind fun x => if x then some true else evT Φ γ b
  | .val a => (evE Φ γ a).bind fun x => boolD x.1
noncomputable def evI (Φ : Funs) (γ : Env') : PI → Option (List PyData)
  | .r1 b => (evE Φ γ b).bind fun y => (intD y.1).bind fun j => if okR 0 j then some (rangeL 0 j) else none
  | .r2 a b => (evE Φ γ a).bind fun x => (intD x.1).bind fun i => (evE Φ γ b).bind fun y => (intD y.1).bind fun j => if okR i j && decide ((j - i).toNat ≤ lenLim) then some (rangeL i j) else none
  | .r3 a b c => (evE Φ γ a).bind fun x => (intD x.1).bind fun i => (evE Φ γ b).bind fun y => (intD y.1).bind fun j => (evE Φ γ c).bind fun z => (intD z.1).bind fun k =>
      if okR i j && decide ((i - j).toNat ≤ lenLim) && k == -1 then some (rangeD i j) else none
  | .of a => (evE Φ γ a).bind fun x => (itemsD x.1).bind fun xs => if xs.length ≤ lenLim then some xs else none
  | .zip _ _ => none
  | .enum _ => none
end

noncomputable def frzS : Slot → Slot
  | .un => .un
  | .pl d => .pl d
  | .b1 ds => .pl (.list ds)
  | .b2 dss => .pl (.list (dss.map .list))
noncomputable def frz (γ : Env') (is : List Nat) : Env' := is.foldl (fun g i => g.modify i frzS) γ
noncomputable def rowsD : List PyData → Option (List (List PyData))
  | [] => some []
  | .list r :: rest => (rowsD rest).bind fun rs => some (r :: rs)
  | _ => none
noncomputable def mkSlot (r : PyData × Nat) : Slot :=
  match r.1, r.2 with
  | .list ds, 1 => .b1 ds
  | .list ds, 2 => match rowsD ds with | some rs => .b2 rs | none => .pl (.list ds)
  | d, _ => .pl d
noncomputable def setN (γ : Env') : List Nat → List PyData → Option Env'
  | [], [] => some γ
  | i :: is, d :: ds => setN (γ.set i (.pl d)) is ds
  | _, _ => none
/-- bind a loop's target -/
noncomputable def bindT (γ : Env') (is : List Nat) (d : PyData) : Option Env' :=
  match is with
  | [i] => some (γ.set i (.pl d))
  | _ => match d with
    | .tuple ds => setN γ is ds
    | _ => none

noncomputable def forL (body : Env' → Option (Flw × Env')) (is : List Nat) : List PyData → Env' → Option (Flw × Env')
  | [], γ => some (.next, γ)
  | d :: ds, γ => (bindT γ is d).bind fun γ₁ => (body γ₁).bind fun r => match r.1 with
    | .next => forL body is ds r.2
    | .cont => forL body is ds r.2
    | .brk => some (.next, r.2)
    | .ret v l => some (.ret v l, r.2)
    | .exc _ => none
noncomputable def whileL (test : Env' → Option Bool) (body : Env' → Option (Flw × Env')) : Nat → Env' → Option (Flw × Env')
  | 0, _ => none
  | n + 1, γ => (test γ).bind fun c => if c then (body γ).bind fun r => match r.1 with
      | .next => whileL test body n r.2
      | .cont => whileL test body n r.2
      | .brk => some (.next, r.2)
      | .ret v l => some (.ret v l, r.2)
      | .exc _ => none
    else some (.next, γ)
noncomputable def posD (p : PyData) (n : Nat) : Option Nat :=
  match p with
  | .int k => if 0 ≤ k && k < lenLim && k.toNat < n then some k.toNat else none
  | _ => none

noncomputable def appS (γ : Env') (i : Nat) (r : PyData × Nat) : Option Env' :=
  match γ[i]? with
  | some (.b1 ds) => if ds.length ≤ lenLim then some (γ.set i (.b1 (ds ++ [r.1]))) else none
  | _ => none
noncomputable def insS (γ : Env') (i : Nat) (p : PyData) (r : PyData × Nat) : Option Env' :=
  match γ[i]?, p with
  | some (.b1 ds), .int k => if 0 ≤ k && k < lenLim && ds.length ≤ lenLim then some (γ.set i (.b1 (ds.take k.toNat ++ r.1 :: ds.drop k.toNat))) else none
  | _, _ => none
noncomputable def putS (γ : Env') (i : Nat) (p : PyData) (r : PyData × Nat) : Option Env' :=
  match γ[i]? with
  | some (.b1 ds) => (posD p ds.length).bind fun k => some (γ.set i (.b1 (ds.set k r.1)))
  | some (.b2 dss) => (posD p dss.length).bind fun k => match r.1, r.2 with
    | .list xs, 1 => some (γ.set i (.b2 (dss.set k xs)))
    | _, _ => none
  | _ => none
noncomputable def put2S (γ : Env') (i : Nat) (p q : PyData) (r : PyData × Nat) : Option Env' :=
  match γ[i]? with
  | some (.b2 dss) => (posD p dss.length).bind fun k => match dss[k]? with
    | some row => (posD q row.length).bind fun j => some (γ.set i (.b2 (dss.set k (row.set j r.1))))
    | none => none
  | _ => none
noncomputable def atomD : PyData → Bool
  | .int _ => true
  | _ => false
noncomputable def getS (γ : Env') (i : Nat) (p : PyData) : Option PyData :=
  match γ[i]? with
  | some (.b1 ds) => (posD p ds.length).bind fun k => match ds[k]? with
    | some x => if atomD x then some x else none
    | none => none
  | _ => none
noncomputable def put1S (γ : Env') (i : Nat) (p : PyData) (x : PyData) : Option Env' :=
  match γ[i]? with
  | some (.b1 ds) => (posD p ds.length).bind fun k => some (γ.set i (.b1 (ds.set k x)))
  | _ => none

mutual
noncomputable def evS (Φ : Funs) (fu : Nat) (tp : Bool) (γ : Env') : PS → Option (Flw × Env')
  | .frz is => some (.next, frz γ is)
  | .asg i e => (evE Φ γ e).bind fun r => some (.next, γ.set i (.pl r.1))
  | .bnew i e => (evE Φ γ e).bind fun r => some (.next, γ.set i (mkSlot r))
  | .asgN is e => (evE Φ γ e).bind fun r => match r.1 with
    | .tuple ds => (setN γ is ds).bind fun γ' => some (.next, γ')
    | _ => none
  | .tryC i f as c y d => (evEs Φ γ as).bind fun xs => (Φ f xs).bind fun o => match o with
    | .ret v _ => some (.next, γ.set i (.pl v))
    | .exc c' => if tp && c' == c then some (.next, γ.set y (.pl d)) else none
  | .app i e => (evE Φ γ e).bind fun r => (appS γ i r).bind fun γ' => some (.next, γ')
  | .ins i p e => (evE Φ γ p).bind fun k => (evE Φ γ e).bind fun r => (insS γ i k.1 r).bind fun γ' => some (.next, γ')
  | .put i p e => (evE Φ γ e).bind fun r => (evE Φ γ p).bind fun k => (putS γ i k.1 r).bind fun γ' => some (.next, γ')
  | .put2 i p q e => (evE Φ γ e).bind fun r => (evE Φ γ p).bind fun k => (evE Φ γ q).bind fun j => (put2S γ i k.1 j.1 r).bind fun γ' => some (.next, γ')
  | .swap i p q p' q' => (evE Φ γ p').bind fun k' => (getS γ i k'.1).bind fun x => (evE Φ γ q').bind fun j' => (getS γ i j'.1).bind fun y => (evE Φ γ p).bind fun k => (put1S γ i k.1 x).bind fun γ₁ =>
      (evE Φ γ₁ q).bind fun j => (put1S γ₁ i j.1 y).bind fun γ₂ => some (.next, γ₂)
  | .ite t a b => (evT Φ γ t).bind fun c => if c then evSs Φ fu tp γ a else evSs Φ fu tp γ b
  | .for_ is it body => (evI Φ γ it).bind fun xs => forL (fun g => evSs Φ fu tp g body) is xs γ
  | .while_ t body => whileL (fun g => evT Φ g t) (fun g => evSs Φ fu tp g body) fu γ
  | .ret e => (evE Φ γ e).bind fun r => some (.ret r.1 r.2, γ)
  | .retv i => match γ[i]? with
    | some (.pl d) => some (.ret d 0, γ)
    | some (.b1 ds) => some (.ret (.list ds) 1, γ)
    | some (.b2 dss) => some (.ret (.list (dss.map .list)) 2, γ)
    | _ => none
  | .raise c _ => some (.exc c, γ)
  | .brk => some (.brk, γ)
  | .cont => some (.cont, γ)
noncomputable def evSs (Φ : Funs) (fu : Nat) (tp : Bool) (γ : Env') : PSs → Option (Flw × Env')
  | .nil => some (.next, γ)
  | .cons s r => (evS Φ fu tp γ s).bind fun x => match x.1 with
    | .next => evSs Φ fu tp x.2 r
    | f => some (f, x.2)
end

/-- a compiled def: its slots' names, how many of them are parameters, its body -/
structure PFun where
  name : Str
  params : Nat
  ns : List Str
  body : PSs

noncomputable def evF (Φ : Funs) (fu : Nat) (tp : Bool) (f : PFun) (args : List PyData) : Option Out :=
  if args.length = f.params then
    (evSs Φ fu tp (args.map Slot.pl ++ List.replicate (f.ns.length - f.params) Slot.un) f.body).bind fun r => match r.1 with
      | .ret d l => some (.ret d l)
      | .exc c => some (.exc c)
      | .next => some (.ret .none 0)
      | _ => none
  else none

end Mine
namespace Mine
open PySem
/-- the defs of a text, each by those before it -/
noncomputable def tower (fs : List PFun) (fu : Nat) : Nat → Funs
  | 0 => fun _ _ => none
  | k + 1 => fun j args => if j = k then (match fs[k]? with | some f => evF (tower fs fu k) fu false f args | none => none) else tower fs fu k j args
end Mine
end
section
namespace Mine
open PySem

structure Ctx where
  ns : List (Option Str)
  kinds : List (Str × NameKind)
  cn : List Str
  fns : List Str
  cons : List (Str × PyData)
  excs : List Str
  bs : List Nat

noncomputable def Ctx.glob (C : Ctx) (x : Str) : Bool := C.kinds.lookup x == some .globalImplicit
noncomputable def Ctx.slot (C : Ctx) (x : Str) : Option Nat := C.ns.findIdx? (· == some x)
noncomputable def Ctx.fn (C : Ctx) (x : Str) : Option Nat := if C.glob x && x != ("__debug__" : Str) then C.fns.findIdx? (· == x) else none

noncomputable def cConst : Const → Option PyData
  | .none => some .none
  | .bool b => some (.bool b)
  | .int i => some (.int i)
  | .str x => if x.length ≤ lenLim then some (.str x) else none
  | _ => none

noncomputable def cName (C : Ctx) (x : Str) : Option PE :=
  if x == ("__debug__" : Str) then none else
  match C.slot x with
  | some i => some (.var i)
  | none => if C.glob x then (C.cons.lookup x).map (PE.glo x) else none

noncomputable def cOp : Operator → Option BOp
  | .Add => some .add
  | .Sub => some .sub
  | .Mult => some .mul
  | .FloorDiv => some .fdiv
  | .Mod => some .mod
  | _ => none
noncomputable def cCmp : CmpOp → Option COp
  | .Eq => some .eq
  | .NotEq => some .ne
  | .Lt => some .lt
  | .Gt => some .gt
  | _ => none

/-! looks at one node of the text -/
noncomputable def nm : PySem.Expr → Option (Str × Pos)
  | .Name x p => some (x, p)
  | _ => none
theorem nm_of {e : PySem.Expr} {x : Str × Pos} (h : nm e = some x) : e = .Name x.1 x.2 := by
  cases e with
  | Name y p => cases h; rfl
  | _ => cases h
noncomputable def oneE {α : Type} : List α → Option α
  | [a] => some a
  | _ => none
theorem oneE_of {α : Type} {l : List α} {a : α} (h : oneE l = some a) : l = [a] := by
  cases l with
  | nil => cases h
  | cons x r => cases r with
    | nil => cases h; rfl
    | cons => cases h
noncomputable def two {α : Type} : List α → Option (α × α)
  | [a, b] => some (a, b)
  | _ => none
theorem two_of {α : Type} {l : List α} {a : α × α} (h : two l = some a) : l = [a.1, a.2] := by
  cases l with
  | nil => cases h
  | cons x r => cases r with
    | nil => cases h
    | cons y r => cases r with
      | nil => cases h; rfl
      | cons => cases h
structure CallP where
  f : PySem.Expr
  as : List PySem.Expr
  ks : List Keyword
  pos : Pos
noncomputable def callOf : PySem.Expr → Option CallP
  | .Call f as ks p => some ⟨f, as, ks, p⟩
  | _ => none
theorem callOf_of {e : PySem.Expr} {c : CallP} (h : callOf e = some c) : e = .Call c.f c.as c.ks c.pos := by
  cases e with
  | Call f as ks p => cases h; rfl
  | _ => cases h
structure SubP where
  o : PySem.Expr
  i : PySem.Expr
  pos : Pos
noncomputable def subOf : PySem.Expr → Option SubP
  | .Subscript o i p => some ⟨o, i, p⟩
  | _ => none
theorem subOf_of {e : PySem.Expr} {c : SubP} (h : subOf e = some c) : e = .Subscript c.o c.i c.pos := by
  cases e with
  | Subscript o i p => cases h; rfl
  | _ => cases h
noncomputable def tupOf : PySem.Expr → Option (List PySem.Expr × Nat × Pos)
  | .Tuple es k p => some (es, k, p)
  | _ => none
theorem tupOf_of {e : PySem.Expr} {c : List PySem.Expr × Nat × Pos} (h : tupOf e = some c) : e = .Tuple c.1 c.2.1 c.2.2 := by
  cases e with
  | Tuple o i p => cases h; rfl
  | _ => cases h
noncomputable def attOf : PySem.Expr → Option (PySem.Expr × Str × Pos)
  | .Attribute o m p => some (o, m, p)
  | _ => none
theorem attOf_of {e : PySem.Expr} {c : PySem.Expr × Str × Pos} (h : attOf e = some c) : e = .Attribute c.1 c.2.1 c.2.2 := by
  cases e with
  | Attribute o i p => cases h; rfl
  | _ => cases h
noncomputable def conOf : PySem.Expr → Option (Const × Nat × Pos)
  | .Constant c k p => some (c, k, p)
  | _ => none
theorem conOf_of {e : PySem.Expr} {c : Const × Nat × Pos} (h : conOf e = some c) : e = .Constant c.1 c.2.1 c.2.2 := by
  cases e with
  | Constant o i p => cases h; rfl
  | _ => cases h
noncomputable def strOf : Const → Option Str
  | .str x => some x
  | _ => none
theorem strOf_of {c : Const} {x : Str} (h : strOf c = some x) : c = .str x := by
  cases c with
  | str y => cases h; rfl
  | _ => cases h
noncomputable def asgOf : Stmt → Option (List PySem.Expr × PySem.Expr × Pos)
  | .Assign ts v p => some (ts, v, p)
  | _ => none
theorem asgOf_of {s : Stmt} {c : List PySem.Expr × PySem.Expr × Pos} (h : asgOf s = some c) : s = .Assign c.1 c.2.1 c.2.2 := by
  cases s with
  | Assign ts v p => cases h; rfl
  | _ => cases h

noncomputable def freeNames (sc : Scope) : List Str := (sc.names.filter fun x => x.2 == .free).map (·.1)
/-- a comprehension's scope that we follow -/
noncomputable def compOk (C : Ctx) (x : Str) (sc : Scope) : Bool :=
  sc.kind == .function && sc.names.all (fun y => y.2 != .cell) && sc.names.all (fun y => y.2 != .local || sc.names.lookup y.1 == some .local)
    && sc.names.lookup x == some .local && (freeNames sc).all (fun y => C.cn.contains y && y != ("__classdict__" : Str) && sc.names.lookup y == some .free) && !(freeNames sc).contains x
noncomputable def compCtx (C : Ctx) (x : Str) (sc : Scope) : Ctx :=
  { C with ns := some x :: C.ns.map (fun n => n.filter fun y => (freeNames sc).contains y && y != x), kinds := sc.names, cn := freeNames sc }

noncomputable def isRange (C : Ctx) (f : PySem.Expr) (ks : List Keyword) : Bool := ks.isEmpty && (match nm f with
  | some x => x.1 == ("range" : Str) && C.glob x.1 && (C.fn x.1).isNone
  | none => false)

inductive Callee where
  | fn (j : Nat)
  | blt (b : Blt)
  | lst
  | idx (x : PE)
noncomputable def callee1 (C : Ctx) (f : Str) : Option Callee := match C.fn f with
    | some j => some (.fn j)
    | none =>
      if C.glob f then
        if f == ("len" : Str) then some (.blt .len)
        else if f == ("abs" : Str) then some (.blt .abs)
        else if f == ("str" : Str) then some (.blt .str)
        else if f == ("list" : Str) then some .lst
        else none
      else none
noncomputable def callee (C : Ctx) (pos : Pos) (f : PySem.Expr) (ks : List Keyword) : Option Callee := if ks.isEmpty then
    (match nm f with
    | some x => callee1 C x.1
    | none => (attOf f).bind fun a => (nm a.1).bind fun o => if a.2.1 == ("index" : Str) && a.2.2.endLine == pos.line then (cName C o.1).map Callee.idx else none) else none
noncomputable def one : PEs → Option PE
  | .cons x .nil => some x
  | _ => none
noncomputable def gen1 (gens : List Comprehension) : Option Str := (oneE gens).bind fun g => if g.ifs.isEmpty && g.is_async == 0 then (nm g.target).map (·.1) else none
noncomputable def rOf : PEs → Option PI
  | .cons x .nil => some (.r1 x)
  | .cons x (.cons y .nil) => some (.r2 x y)
  | .cons x (.cons y (.cons z .nil)) => some (.r3 x y z)
  | _ => none
noncomputable def onlyR1 : PI → Option PI
  | .r1 x => some (.r1 x)
  | _ => none

mutual
noncomputable def cE (C : Ctx) : PySem.Expr → Option PE
  | .Constant c _ _ => (cConst c).map PE.lit
  | .Name x _ => cName C x
  | .BinOp l op r _ => (cOp op).bind fun o => (cE C l).bind fun a => (cE C r).bind fun b => some (.bin o a b)
  | .UnaryOp op x _ => if op == .USub then (cE C x).bind fun a => some (.neg a) else none
  | .Tuple es _ _ => if es.length ≤ lenLim then (cEs C es).bind fun a => some (.tup a) else none
  | .List es _ => if es.length ≤ lenLim then (cEs C es).bind fun a => some (.lst a) else none
  | .Subscript v i _ => (cE C v).bind fun a => cIx C a i
  | .ListComp elt gens sc _ => (gen1 gens).bind fun x => if compOk C x sc then (cGs C gens).bind fun it => (cE (compCtx C x sc) elt).bind fun a => some (.comp a 1 it .tt) else none
  | .Call f as ks pos => (callee C pos f ks).bind fun c => match c with
    | .fn j => if as.isEmpty then none else (cEs C as).bind fun es => some (.call j es)
    | .blt b => (cEs C as).bind fun es => (one es).bind fun x => some (.blt b x)
    | .lst => (cRs C as).bind fun i => (onlyR1 i).bind fun i => some (.lrange i)
    | .idx o => (cEs C as).bind fun es => (one es).bind fun x => some (.mth .index o x)
  | _ => none
termination_by structural x => x
noncomputable def cIx (C : Ctx) (a : PE) : PySem.Expr → Option PE
  | .Slice lo hi st _ => if st.isNone then (cEo C lo).bind fun b => (cEo C hi).bind fun c => some (.sl a b c) else none
  | .Constant c _ _ => (cConst c).map fun d => .idx a (.lit d)
  | .Name x _ => (cName C x).map fun b => .idx a b
  | .BinOp l op r _ => (cOp op).bind fun o => (cE C l).bind fun b => (cE C r).bind fun c => some (.idx a (.bin o b c))
  | _ => none
termination_by structural x => x
noncomputable def cGs (C : Ctx) : List Comprehension → Option PI
  | g :: _ => cG C g
  | [] => none
termination_by structural x => x
noncomputable def cG (C : Ctx) : Comprehension → Option PI
  | ⟨_, iter, _, _⟩ => (cR C iter).or ((cE C iter).map PI.of)
termination_by structural x => x
noncomputable def cEs (C : Ctx) : List PySem.Expr → Option PEs
  | [] => some .nil
  | e :: r => (cE C e).bind fun a => (cEs C r).bind fun b => some (.cons a b)
termination_by structural x => x
noncomputable def cRs (C : Ctx) : List PySem.Expr → Option PI
  | e :: r => if r.isEmpty then cR C e else none
  | [] => none
termination_by structural x => x
noncomputable def cEo (C : Ctx) : Option PySem.Expr → Option PE
  | none => some (.lit .none)
  | some e => cE C e
termination_by structural x => x
noncomputable def cR (C : Ctx) : PySem.Expr → Option PI
  | .Call f as ks _ => if isRange C f ks then (cEs C as).bind fun es => rOf es else none
  | _ => none
termination_by structural x => x
end

/-! which of the frame's slots a compiled expression reads (under k names of comprehensions) -/
mutual
noncomputable def rdE (k : Nat) : PE → List Nat
  | .lit _ => []
  | .var i => if k ≤ i then [i - k] else []
  | .glo _ _ => []
  | .bin _ a b => rdE k a ++ rdE k b
  | .neg a => rdE k a
  | .tst t => rdT k t
  | .ite t a b => rdT k t ++ (rdE k a ++ rdE k b)
  | .call _ as => rdEs k as
  | .blt _ a => rdE k a
  | .lrange i => rdI k i
  | .tup es => rdEs k es
  | .lst es => rdEs k es
  | .idx a i => rdE k a ++ rdE k i
  | .sl a lo hi => rdE k a ++ (rdE k lo ++ rdE k hi)
  | .comp elt n it c => rdI k it ++ (rdE (k + n) elt ++ rdT (k + n) c)
  | .mth _ a b => rdE k a ++ rdE k b
noncomputable def rdEs (k : Nat) : PEs → List Nat
  | .nil => []
  | .cons e r => rdE k e ++ rdEs k r
noncomputable def rdT (k : Nat) : PT → List Nat
  | .tt => []
  | .ff => []
  | .cmp _ a b => rdE k a ++ rdE k b
  | .isNone a => rdE k a
  | .isNotNone a => rdE k a
  | .isInt a => rdE k a
  | .not t => rdT k t
  | .and a b => rdT k a ++ rdT k b
  | .or a b => rdT k a ++ rdT k b
  | .val a => rdE k a
noncomputable def rdI (k : Nat) : PI → List Nat
  | .r1 b => rdE k b
  | .r2 a b => rdE k a ++ rdE k b
  | .r3 a b c => rdE k a ++ (rdE k b ++ rdE k c)
  | .of a => rdE k a
  | .zip a b => rdE k a ++ rdE k b
  | .enum a => rdE k a
end

noncomputable def fz (C : Ctx) (is : List Nat) (s : PS) (r : PSs) : PSs :=
  let js := C.bs.filter fun j => is.contains j
  if js.isEmpty then .cons s r else .cons (.frz js) (.cons s r)

/-- type(x) is int: x -/
noncomputable def typeArg (C : Ctx) (ops : List CmpOp) (rs : List PySem.Expr) (l : PySem.Expr) : Option PySem.Expr :=
  (callOf l).bind fun c => (nm c.f).bind fun f => (oneE rs).bind fun r => (nm r).bind fun g =>
    if ops == [.Is] && c.ks.isEmpty && f.1 == ("type" : Str) && g.1 == ("int" : Str) && C.glob f.1 && C.glob g.1 && (C.fn f.1).isNone then oneE c.as else none
noncomputable def op1 : List CmpOp → Option COp
  | [op] => cCmp op
  | _ => none
mutual
noncomputable def cT (C : Ctx) : PySem.Expr → Option PT
  | .Compare l ops rs _ => match typeArg C ops rs l with
    | some x => (cE C x).bind fun a => some (.isInt a)
    | none => (op1 ops).bind fun o => (cE C l).bind fun a => (cEs C rs).bind fun b => (one b).bind fun b => some (.cmp o a b)
  | .UnaryOp op x _ => if op == .Not then (cT C x).bind fun a => some (.not a) else none
  | .BoolOp op xs _ => match op with
    | .And => cAnd C xs
    | .Or => cOr C xs
  | .Call f as ks p => (cE C (.Call f as ks p)).bind fun a => some (.val a)
  | .Name x _ => (cName C x).bind fun a => some (.val a)
  | _ => none
termination_by structural x => x
noncomputable def cAnd (C : Ctx) : List PySem.Expr → Option PT
  | [] => some .tt
  | x :: r => (cT C x).bind fun a => (cAnd C r).bind fun b => some (.and a b)
termination_by structural x => x
noncomputable def cOr (C : Ctx) : List PySem.Expr → Option PT
  | [] => some .ff
  | x :: r => (cT C x).bind fun a => (cOr C r).bind fun b => some (.or a b)
termination_by structural x => x
end

noncomputable def cI (C : Ctx) (e : PySem.Expr) : Option PI := (cR C e).or ((cE C e).map PI.of)
noncomputable def cNames (C : Ctx) : List Expr → Option (List Nat)
  | [] => some []
  | .Name x _ :: r => (C.slot x).bind fun i => (cNames C r).bind fun is => if is.contains i then none else some (i :: is)
  | _ => none
noncomputable def bld (C : Ctx) (x : Str) : Option Nat := (C.slot x).bind fun i => if C.bs.contains i && x != ("__debug__" : Str) then some i else none
noncomputable def exIdx (C : Ctx) (x : Str) : Option Nat := if C.glob x && (C.slot x).isNone && (C.fn x).isNone then C.excs.findIdx? (· == x) else none

structure Swp where
  x : Str
  i : PySem.Expr
  j : PySem.Expr
  k : PySem.Expr
  l : PySem.Expr
noncomputable def swpOf (ts : List PySem.Expr) (v : PySem.Expr) : Option Swp :=
  (two ts).bind fun t => (subOf t.1).bind fun a => (subOf t.2).bind fun b => (tupOf v).bind fun es => (two es.1).bind fun u => (subOf u.1).bind fun c => (subOf u.2).bind fun d =>
    (nm a.o).bind fun x => (nm b.o).bind fun y => (nm c.o).bind fun z => (nm d.o).bind fun w => if x.1 == y.1 && y.1 == z.1 && z.1 == w.1 then some ⟨x.1, a.i, b.i, c.i, d.i⟩ else none
/-- an index that is a name or an int or a sum -/
noncomputable def isIx : PySem.Expr → Bool
  | .Name _ _ => true
  | .Constant _ _ _ => true
  | .BinOp _ _ _ _ => true
  | .Subscript _ _ _ => true
  | _ => false
noncomputable def isTup : PySem.Expr → Bool
  | .Tuple .. => true
  | _ => false
/-- a pair of names, to which a tuple's display is stored -/
noncomputable def swapChk (C : Ctx) (ts : List PySem.Expr) (v : PySem.Expr) : Bool := match tupOf v with
  | none => true
  | some vs => ((two ts).bind fun ab => (nm ab.1).bind fun a => (nm ab.2).bind fun b =>
      if vs.1.length == 2 && C.kinds.lookup a.1 == some .local && C.kinds.lookup b.1 == some .local && a.2.line == b.2.line && a.1 != b.1 && !(vs.1.all (foldedForSure 8)) && !(vs.1.all (constantsAlone 8)) then some () else none).isSome
noncomputable def cSub (C : Ctx) (v i : PySem.Expr) : PySem.Expr → Option (List Nat × PS)
  | .Name x _ => (bld C x).bind fun b => (cE C i).bind fun p => (cE C v).bind fun e => some (rdE 0 p ++ rdE 0 e, .put b p e)
  | .Subscript o j _ => if isIx j then (nm o).bind fun x => (bld C x.1).bind fun b => (cE C j).bind fun p => (cE C i).bind fun q => (cE C v).bind fun e => some (rdE 0 p ++ (rdE 0 q ++ rdE 0 e), .put2 b p q e) else none
  | _ => none
noncomputable def cAsg1 (C : Ctx) (v : PySem.Expr) : PySem.Expr → Option (List Nat × PS)
  | .Name x _ => (C.slot x).bind fun i => (cE C v).bind fun e => some (rdE 0 e, if C.bs.contains i then .bnew i e else .asg i e)
  | .Tuple ts _ _ => match swpOf ts v with
    | some w => (bld C w.x).bind fun b => (cE C w.i).bind fun p => (cE C w.j).bind fun q => (cE C w.k).bind fun p' => (cE C w.l).bind fun q' =>
      if isIx w.i && isIx w.j && isIx w.k && isIx w.l then some (rdE 0 p ++ (rdE 0 q ++ (rdE 0 p' ++ rdE 0 q')), .swap b p q p' q') else none
    | none => if swapChk C ts v then (cNames C ts).bind fun is => (cE C v).bind fun e => some (rdE 0 e, .asgN is e) else none
  | .Subscript o i _ => cSub C v i o
  | _ => none
noncomputable def cAsg (C : Ctx) (ts : List PySem.Expr) (v : PySem.Expr) : Option (List Nat × PS) := (oneE ts).bind fun t => cAsg1 C v t
noncomputable def cExpr (C : Ctx) (e : PySem.Expr) : Option (List Nat × PS) := (callOf e).bind fun c => if c.ks.isEmpty then (attOf c.f).bind fun a => (nm a.1).bind fun x =>
  if a.2.2.endLine == c.pos.line then
    (if a.2.1 == ("append" : Str) then (oneE c.as).bind fun y => (bld C x.1).bind fun b => (cE C y).bind fun e => some (rdE 0 e, .app b e)
    else if a.2.1 == ("insert" : Str) then (two c.as).bind fun ky => (bld C x.1).bind fun b => (cE C ky.1).bind fun p => (cE C ky.2).bind fun e => some (rdE 0 p ++ rdE 0 e, .ins b p e) else none) else none else none
noncomputable def isBld (C : Ctx) (e : PySem.Expr) : Option Nat := (nm e).bind fun x => bld C x.1
noncomputable def cRet (C : Ctx) : Option PySem.Expr → Option (List Nat × PS)
  | some v => match isBld C v with
    | some i => some ([], .retv i)
    | none => (cE C v).bind fun e => some (rdE 0 e, .ret e)
  | none => none
noncomputable def cRaise (C : Ctx) : Option PySem.Expr → Option PySem.Expr → Option (List Nat × PS)
  | some e, none => (callOf e).bind fun c => if c.ks.isEmpty then (nm c.f).bind fun x => (oneE c.as).bind fun a => (conOf a).bind fun k => (strOf k.1).bind fun m => (exIdx C x.1).bind fun ci => if m.length ≤ lenLim then some ([], .raise ci m) else none else none
  | _, _ => none
noncomputable def cTgt (C : Ctx) : PySem.Expr → Option (List Nat)
  | .Name x _ => (C.slot x).bind fun i => some [i]
  | _ => none
noncomputable def hndOf : ExceptHandler → Option (PySem.Expr × Stmt × Pos)
  | .ExceptHandler (some ex) none [st] p => some (ex, st, p)
  | _ => none
noncomputable def cTry (C : Ctx) (body : List Stmt) (hs : List ExceptHandler) : Option (List Nat × PS) :=
  (oneE body).bind fun st => (asgOf st).bind fun a => (oneE a.1).bind fun t => (nm t).bind fun x => (callOf a.2.1).bind fun c => (nm c.f).bind fun f => (oneE hs).bind fun h => (hndOf h).bind fun h => (nm h.1).bind fun ex =>
  (asgOf h.2.1).bind fun a' => (oneE a'.1).bind fun t' => (nm t').bind fun y => (conOf a'.2.1).bind fun k =>
    (C.slot x.1).bind fun i => (C.fn f.1).bind fun j => (cEs C c.as).bind fun es => (exIdx C ex.1).bind fun ci => (C.slot y.1).bind fun yi => (cConst k.1).bind fun d =>
      if c.as.isEmpty || !c.ks.isEmpty then none else some (rdEs 0 es, .tryC i j es ci yi d)

mutual
noncomputable def cS (C : Ctx) (r : PSs) : Stmt → Option PSs
  | .Assign ts v _ => (cAsg C ts v).bind fun p => some (fz C p.1 p.2 r)
  | .Expr e _ => (cExpr C e).bind fun p => some (fz C p.1 p.2 r)
  | .If t a b _ => (cT C t).bind fun c => (cSs C a).bind fun x => (cSs C b).bind fun y => some (fz C (rdT 0 c) (.ite c x y) r)
  | .For tg it body oe _ => if oe.isEmpty then (cTgt C tg).bind fun is => (cI C it).bind fun p => (cSs C body).bind fun b => some (fz C (rdI 0 p) (.for_ is p b) r) else none
  | .Return v _ => (cRet C v).bind fun p => some (fz C p.1 p.2 r)
  | .Raise ex ca _ => (cRaise C ex ca).bind fun p => some (fz C p.1 p.2 r)
  | .Try body hs oe fb _ => if oe.isEmpty && fb.isEmpty then (cTry C body hs).bind fun p => some (fz C p.1 p.2 r) else none
  | .Continue _ => some (.cons .cont r)
  | .Break _ => some (.cons .brk r)
  | _ => none
termination_by structural x => x
noncomputable def cSs (C : Ctx) : List Stmt → Option PSs
  | [] => some .nil
  | s :: r => (cSs C r).bind fun b => cS C b s
termination_by structural x => x
end

/-- the names of a def's slots; its builders by name -/
noncomputable def mkCtx (fns : List Str) (cons : List (Str × PyData)) (excs : List Str) (ns bn : List Str) (sc : Scope) : Ctx :=
  { ns := ns.map some, kinds := sc.names, cn := (sc.names.filter fun x => x.2 == .cell).map (·.1), fns, cons, excs, bs := bn.filterMap fun x => ns.findIdx? (· == x) }
end Mine
end
section
namespace Mine
open PySem PyProof.Rows

mutual
/-- v is laid in h as the datum d; none of its lists' addresses is in F -/
inductive RD (h : Heap) (F : Addr → Prop) : Value → PyData → Prop
  | none : RD h F .none .none
  | bool (b : Bool) : RD h F (.bool b) (.bool b)
  | int (i : Int) (t : Tok) : RD h F (.int i t) (.int i)
  | str (x : Str) (t : Tok) : RD h F (.str x t) (.str x)
  | list {a : Addr} {vs : Array Value} {xs : List PyData} : h.PlainList a vs → ¬ F a → RDs h F vs.toList xs → RD h F (.ref a) (.list xs)
  | tuple {a : Addr} {vs : Array Value} {xs : List PyData} : IsTup h a vs → RDs h F vs.toList xs → RD h F (.ref a) (.tuple xs)
inductive RDs (h : Heap) (F : Addr → Prop) : List Value → List PyData → Prop
  | nil : RDs h F [] []
  | cons {v : Value} {vs : List Value} {d : PyData} {ds : List PyData} : RD h F v d → RDs h F vs ds → RDs h F (v :: vs) (d :: ds)
end

section
variable {h h' : Heap} {F F' : Addr → Prop}
mutual
theorem RD.move (hF : ∀ a, F' a → F a ∨ h.get? a = none) (hk : ∀ b o vs n, h.get? b = some o → o.data = .seq vs n → (o.cls = .type "tuple" ∨ (o.cls = .type "list" ∧ ¬ F b)) → h'.get? b = some o) : ∀ {v : Value} {d : PyData}, RD h F v d → RD h' F' v d
  | _, _, .none => .none
  | _, _, .bool b => .bool b
  | _, _, .int i t => .int i t
  | _, _, .str x t => .str x t
  | _, _, .list ⟨n, ho⟩ hf r => .list ⟨n, hk _ _ _ _ ho rfl (.inr ⟨rfl, hf⟩)⟩ (fun q => (hF _ q).elim hf fun e => by rw [ho] at e; cases e) (RDs.move hF hk r)
  | _, _, .tuple ⟨o, ho, hc, n, hd⟩ r => .tuple ⟨o, hk _ _ _ _ ho hd (.inl hc), hc, n, hd⟩ (RDs.move hF hk r)
theorem RDs.move (hF : ∀ a, F' a → F a ∨ h.get? a = none) (hk : ∀ b o vs n, h.get? b = some o → o.data = .seq vs n → (o.cls = .type "tuple" ∨ (o.cls = .type "list" ∧ ¬ F b)) → h'.get? b = some o) : ∀ {vs : List Value} {ds : List PyData}, RDs h F vs ds → RDs h' F' vs ds
  | _, _, .nil => .nil
  | _, _, .cons a r => .cons (RD.move hF hk a) (RDs.move hF hk r)
end
theorem RD.frame (hk : ∀ b o vs n, h.get? b = some o → o.data = .seq vs n → (o.cls = .type "tuple" ∨ (o.cls = .type "list" ∧ ¬ F b)) → h'.get? b = some o) {v : Value} {d : PyData} (x : RD h F v d) : RD h' F v d := x.move (fun _ q => .inl q) hk
theorem RDs.frame (hk : ∀ b o vs n, h.get? b = some o → o.data = .seq vs n → (o.cls = .type "tuple" ∨ (o.cls = .type "list" ∧ ¬ F b)) → h'.get? b = some o) {v : List Value} {d : List PyData} (x : RDs h F v d) : RDs h' F v d := x.move (fun _ q => .inl q) hk
theorem RD.weak (hF : ∀ a, F' a → F a ∨ h.get? a = Option.none) {v : Value} {d : PyData} (x : RD h F v d) : RD h F' v d := x.move hF fun _ _ _ _ e _ _ => e
theorem RDs.weak (hF : ∀ a, F' a → F a ∨ h.get? a = Option.none) {v : List Value} {d : List PyData} (x : RDs h F v d) : RDs h F' v d := x.move hF fun _ _ _ _ e _ _ => e
mutual
theorem RD.reads : ∀ {v : Value} {d : PyData}, RD h F v d → ∃ as, Reads h v d as
  | _, _, .none => ⟨_, .none⟩
  | _, _, .bool b => ⟨_, .bool b⟩
  | _, _, .int i t => ⟨_, .int i t⟩
  | _, _, .str x t => ⟨_, .str x t⟩
  | _, _, .list ⟨_, ho⟩ _ r => let ⟨_, q⟩ := RDs.reads r; ⟨_, .list ho rfl rfl q⟩
  | _, _, .tuple ⟨_, ho, hc, _, hd⟩ r => let ⟨_, q⟩ := RDs.reads r; ⟨_, .tuple ho hc hd q⟩
theorem RDs.reads : ∀ {vs : List Value} {ds : List PyData}, RDs h F vs ds → ∃ as, ReadsAll h vs ds as
  | _, _, .nil => ⟨_, .nil⟩
  | _, _, .cons a r => let ⟨_, p⟩ := RD.reads a; let ⟨_, q⟩ := RDs.reads r; ⟨_, .cons p q⟩
end
theorem RD.keeps {v : Value} {d : PyData} (x : RD h F v d) (hk : ∀ b o, h.get? b = some o → h'.get? b = some o) : RD h' F v d := x.frame fun b o _ _ e _ _ => hk b o e
theorem RDs.keeps {v : List Value} {d : List PyData} (x : RDs h F v d) (hk : ∀ b o, h.get? b = some o → h'.get? b = some o) : RDs h' F v d := x.frame fun b o _ _ e _ _ => hk b o e
theorem RDs.length : ∀ {vs : List Value} {ds : List PyData}, RDs h F vs ds → vs.length = ds.length
  | _, _, .nil => rfl
  | _, _, .cons _ r => by simp [RDs.length r]
theorem RDs.get : ∀ {vs : List Value} {ds : List PyData}, RDs h F vs ds → ∀ {i : Nat} {d : PyData}, ds[i]? = some d → ∃ v, vs[i]? = some v ∧ RD h F v d
  | _, _, .nil, i, d, e => by simp at e
  | _, _, .cons a r, 0, d, e => by simp at e; subst e; exact ⟨_, rfl, a⟩
  | _, _, .cons a r, i + 1, d, e => by simpa using RDs.get r (by simpa using e)
theorem RDs.get' : ∀ {vs : List Value} {ds : List PyData}, RDs h F vs ds → ∀ {i : Nat} {v : Value}, vs[i]? = some v → ∃ d, ds[i]? = some d ∧ RD h F v d
  | _, _, .nil, i, d, e => by simp at e
  | _, _, .cons a r, 0, d, e => by simp at e; subst e; exact ⟨_, rfl, a⟩
  | _, _, .cons a r, i + 1, d, e => by simpa using RDs.get' r (by simpa using e)
theorem RDs.append : ∀ {vs ws : List Value} {ds es : List PyData}, RDs h F vs ds → RDs h F ws es → RDs h F (vs ++ ws) (ds ++ es)
  | _, _, _, _, .nil, q => q
  | _, _, _, _, .cons a r, q => .cons a (RDs.append r q)
theorem RDs.drop : ∀ (n : Nat) {vs : List Value} {ds : List PyData}, RDs h F vs ds → RDs h F (vs.drop n) (ds.drop n)
  | 0, _, _, q => q
  | _ + 1, _, _, .nil => .nil
  | n + 1, _, _, .cons _ r => RDs.drop n r
theorem RDs.take : ∀ (n : Nat) {vs : List Value} {ds : List PyData}, RDs h F vs ds → RDs h F (vs.take n) (ds.take n)
  | 0, _, _, _ => .nil
  | _ + 1, _, _, .nil => .nil
  | n + 1, _, _, .cons a r => .cons a (RDs.take n r)
theorem RDs.set : ∀ {vs : List Value} {ds : List PyData}, RDs h F vs ds → ∀ (i : Nat) {v : Value} {d : PyData}, RD h F v d → RDs h F (vs.set i v) (ds.set i d)
  | _, _, .nil, _, _, _, _ => by simpa using RDs.nil
  | _, _, .cons _ r, 0, _, _, a => .cons a r
  | _, _, .cons b r, i + 1, _, _, a => .cons b (RDs.set r i a)
theorem RDs.of_get : ∀ {vs : List Value} {ds : List PyData}, vs.length = ds.length → (∀ (i : Nat) (v : Value) (d : PyData), vs[i]? = some v → ds[i]? = some d → RD h F v d) → RDs h F vs ds
  | [], [], _, _ => .nil
  | [], _ :: _, e, _ => by simp at e
  | _ :: _, [], e, _ => by simp at e
  | v :: vs, d :: ds, e, q => .cons (q 0 v d rfl rfl) (RDs.of_get (by simpa using e) fun i v d a b => q (i + 1) v d (by simpa using a) (by simpa using b))
theorem RD.int_inv {v : Value} {i : Int} (x : RD h F v (.int i)) : ∃ t, v = .int i t := by cases x; exact ⟨_, rfl⟩
theorem RD.str_inv {v : Value} {i : Str} (x : RD h F v (.str i)) : ∃ t, v = .str i t := by cases x; exact ⟨_, rfl⟩
theorem RD.bool_inv {v : Value} {i : Bool} (x : RD h F v (.bool i)) : v = .bool i := by cases x; rfl
theorem RD.none_inv {v : Value} (x : RD h F v .none) : v = .none := by cases x; rfl
theorem RD.list_inv {v : Value} {xs : List PyData} (x : RD h F v (.list xs)) : ∃ a vs, v = .ref a ∧ h.PlainList a vs ∧ ¬ F a ∧ RDs h F vs.toList xs := by cases x with | list i f r => exact ⟨_, _, rfl, i, f, r⟩
theorem RD.tuple_inv {v : Value} {xs : List PyData} (x : RD h F v (.tuple xs)) : ∃ a vs, v = .ref a ∧ IsTup h a vs ∧ RDs h F vs.toList xs := by cases x with | tuple i r => exact ⟨_, _, rfl, i, r⟩
end

/-- a made list's address: new since h₀ -/
noncomputable def Val (F : Addr → Prop) (h₀ h : Heap) (v : Value) (r : PyData × Nat) : Prop :=
  RD h F v r.1 ∧
  (r.2 = 1 → ∃ a vs ds, v = .ref a ∧ r.1 = .list ds ∧ h₀.get? a = none ∧ h.PlainList a vs ∧ RDs h (fun b => F b ∨ b = a) vs.toList ds) ∧
  (r.2 = 2 → ∃ a rs ds, v = .ref a ∧ r.1 = .list ds ∧ h₀.get? a = none ∧ h.PlainList a (rs.map Value.ref).toArray ∧ (a :: rs).Nodup ∧ rs.length = ds.length ∧
    ∀ (i : Nat) (r : Addr) (d : PyData), rs[i]? = some r → ds[i]? = some d → ∃ vs xs, d = .list xs ∧ h₀.get? r = none ∧ h.PlainList r vs ∧ RDs h (fun b => F b ∨ b = a ∨ b ∈ rs) vs.toList xs)

theorem Val.rd {F h₀ h v r} (x : Val F h₀ h v r) : RD h F v r.1 := x.1
theorem Val.of {F h₀ h v d} (x : RD h F v d) : Val F h₀ h v (d, 0) := ⟨x, (fun e => nomatch e), fun e => nomatch e⟩

end Mine
end
section
set_option maxRecDepth 100000
namespace Mine
open PySem PyProof.Rows

/-- what a proof knows of the text's top -/
structure GCtx where
  prog : Program
  w : World
  hB : Heap
  mg : Str → Option Value
  mb : Str → Option Value
  fs : List PFun
  cons : List (Str × PyData)
  excs : List Str

noncomputable def bltin : List (Str × Value) := [("len", .builtin "len"), ("abs", .builtin "abs"), ("str", .type "str"), ("list", .type "list"), ("range", .type "range"), ("type", .type "type"), ("int", .type "int"),
  ("ZeroDivisionError", .type "ZeroDivisionError")]

structure GOk (G : GCtx) : Prop where
  g : G.hB.Ns mainGlobals G.mg
  b : G.hB.Ns builtinsNs G.mb
  nolimit : G.hB.NoLimit
  nodigits : G.hB.NoDigits
  blt : ∀ x v, bltin.lookup x = some v → G.mg x = none ∧ G.mb x = some v
  con : ∀ x d, G.cons.lookup x = some d → ∃ v, G.mg x = some v ∧ ∀ F, RD G.hB F v d
  exc : ∀ x ∈ G.excs, x = ("ZeroDivisionError" : Str)
  fn : ∀ (j : Nat) (f : PFun), G.fs[j]? = some f → ∃ a o fd, G.mg f.name = some (.ref a) ∧ G.hB.get? a = some o ∧ o.data = .func fd

abbrev KeepsH (h h' : Heap) : Prop := ∀ b o, h.get? b = some o → h'.get? b = some o
theorem KeepsH.trans {a b c : Heap} (x : KeepsH a b) (y : KeepsH b c) : KeepsH a c := fun p o e => y p o (x p o e)
theorem KeepsH.none {h h' : Heap} (x : KeepsH h h') {a : Addr} (e : h'.get? a = none) : h.get? a = none := by
  cases q : h.get? a with
  | none => rfl
  | some o => have := x a o q; rw [e] at this; cases this

structure Ok (G : GCtx) (k : Nat) (A : Around) (s : Shared) : Prop where
  hh : A.handled = none
  dp : A.depth + k < recursionLimit
  un : A.units + 8 * k + 200 < cLine
  kb : KeepsH G.hB s.heap
  fr : ∃ outer, A.frames = some outer ∧ s.heap.FunFrames G.hB outer

theorem Ok.keeps {G : GCtx} {k : Nat} {A : Around} {s s' : Shared} (x : Ok G k A s) (hk : KeepsH s.heap s'.heap) : Ok G k A s' :=
  ⟨x.hh, x.dp, x.un, x.kb.trans hk, let ⟨o, a, b⟩ := x.fr; ⟨o, a, b.of_keeps fun b o e _ => ⟨o, hk b o e, rfl⟩⟩⟩

/-- the name x holds v -/
noncomputable def Has (env : Env) (h : Heap) (x : Str) (v : Value) : Prop :=
  (env.kindOf x = some .local ∧ env.cells.lookup x = none ∧ ∃ m, h.Ns env.locals m ∧ m x = some v) ∨
  ((env.kindOf x = some .cell ∨ (env.kindOf x = some .free ∧ (x == ("__classdict__" : Str)) = false)) ∧ ∃ c, env.cells.lookup x = some c ∧ h.IsCell c (some v))
theorem Has.keeps {env : Env} {h h' : Heap} {x : Str} {v : Value} (y : Has env h x v) (hk : KeepsH h h') : Has env h' x v := by
  rcases y with ⟨a, b, m, c, d⟩ | ⟨a, c, b, d⟩
  · exact .inl ⟨a, b, m, c.keeps hk, d⟩
  · exact .inr ⟨a, c, b, d.keeps hk⟩

structure EnvOK (C : Ctx) (env : Env) (γ : Env') (F : Addr → Prop) (h : Heap) : Prop where
  kind : env.scope.kind = .function
  glob : ∀ x, C.glob x = true → env.kindOf x = some .globalImplicit
  gl : env.globals = mainGlobals
  bl : env.builtins = builtinsNs
  cells : ∀ x ∈ C.cn, ∃ c, env.cells.lookup x = some c
  slots : ∀ (i : Nat) (x : Str) (d : PyData), C.ns[i]? = some (some x) → γ[i]? = some (.pl d) → ∃ v, Has env h x v ∧ RD h F v d
theorem EnvOK.keeps {C : Ctx} {env : Env} {γ : Env'} {F : Addr → Prop} {h h' : Heap} (x : EnvOK C env γ F h) (hk : KeepsH h h') : EnvOK C env γ F h' :=
  ⟨x.kind, x.glob, x.gl, x.bl, x.cells, fun i y d a b => let ⟨v, p, q⟩ := x.slots i y d a b; ⟨v, p.keeps hk, q.keeps hk⟩⟩

noncomputable def Alloc (F : Addr → Prop) (h : Heap) : Prop := ∀ a, F a → ∃ o, h.get? a = some o
theorem Alloc.keeps {F : Addr → Prop} {h h' : Heap} (x : Alloc F h) (hk : KeepsH h h') : Alloc F h' := fun a f => let ⟨o, e⟩ := x a f; ⟨o, hk a o e⟩
theorem Alloc.fresh {F : Addr → Prop} {h : Heap} (x : Alloc F h) {a : Addr} (e : h.get? a = none) : ¬ F a := fun f => let ⟨o, q⟩ := x a f; by rw [e] at q; cases q

/-- the class of the c-th exception -/
noncomputable def exv (G : GCtx) (c : Nat) : Value := ((G.excs[c]?).bind fun x => bltin.lookup x).getD .none
/-- an exception of the class c is on its way out of the call -/
noncomputable def ExcPost (G : GCtx) (A : Around) (c : Nat) (e : Value) (s s' : Shared) : Prop :=
  ∃ ea B outer a0, e = .ref ea ∧ A.frames = some outer ∧ Heap.FlyingW B outer ea (exv G c) a0 s'.heap ∧ (∀ b o, s.heap.get? b = some o → b ∉ outer.filterMap (·.frame) → B.get? b = some o) ∧ s.heap.UpToSlots s'.heap ∧
    ∃ h tk, s' = { s with heap := h, toks := tk }

/-- the def j, called on args, does out -/
noncomputable def Realizes (G : GCtx) (j : Nat) (args : List PyData) (out : Out) : Prop :=
  ∀ (f : PFun) (a : Addr), G.fs[j]? = some f → G.mg f.name = some (.ref a) →
  ∀ (A : Around) (s : Shared) (F : Addr → Prop) (vs : List Value) (Q E : Value → Shared → Prop), Ok G (j + 1) A s → Alloc F s.heap → RDs s.heap F vs args →
    (∀ d l, out = .ret d l → ∀ v s', Keeps s s' → Val F s.heap s'.heap v (d, l) → Q v s') →
    (∀ c, out = .exc c → ∀ e s', ExcPost G A c e s s' → E e s') →
    wpAny (model G.prog G.w) A (call (.ref a) vs) Q E s

structure CG (G : GCtx) (C : Ctx) : Prop where
  fns : C.fns = G.fs.map (·.name)
  cons : C.cons = G.cons
  excs : C.excs = G.excs

structure H (G : GCtx) (Φ : Funs) (k : Nat) (C : Ctx) (γ : Env') (A : Around) (env : Env) (F : Addr → Prop) (s : Shared) : Prop where
  g : GOk G
  real : ∀ j args out, Φ j args = some out → j < k ∧ Realizes G j args out
  cg : CG G C
  ok : Ok G k A s
  env : EnvOK C env γ F s.heap
  al : Alloc F s.heap
theorem H.keeps {G Φ k C γ A env F} {s s' : Shared} (x : H G Φ k C γ A env F s) (hk : Keeps s s') : H G Φ k C γ A env F s' := by
  obtain ⟨h', tk, rfl, hk⟩ := hk
  exact ⟨x.g, x.real, x.cg, x.ok.keeps hk, x.env.keeps hk, x.al.keeps hk⟩

theorem Keeps.refl (s : Shared) : Keeps s s := ⟨s.heap, s.toks, rfl, fun _ _ e => e⟩
theorem Keeps.trans {a b c : Shared} (x : Keeps a b) (y : Keeps b c) : Keeps a c := by
  obtain ⟨h', tk, rfl, hk⟩ := x
  obtain ⟨h'', tk', rfl, hk'⟩ := y
  exact ⟨h'', tk', rfl, fun p o e => hk' p o (hk p o e)⟩
theorem Keeps.heap {a b : Shared} (x : Keeps a b) : KeepsH a.heap b.heap := by
  obtain ⟨h', tk, rfl, hk⟩ := x
  exact hk
theorem Keeps.tok (s : Shared) (tk : Nat) : Keeps s { s with toks := tk } := ⟨s.heap, tk, rfl, fun _ _ e => e⟩
theorem Keeps.push (s : Shared) (o : Obj) : Keeps s { s with heap := s.heap.push o } := ⟨_, s.toks, rfl, fun _ _ e => Heap.get?_push_of_some o e⟩
theorem Keeps.pushT (s : Shared) (o : Obj) (tk : Nat) : Keeps s { s with heap := s.heap.push o, toks := tk } := ⟨_, tk, rfl, fun _ _ e => Heap.get?_push_of_some o e⟩

theorem Val.back {F : Addr → Prop} {h₀ h₁ h : Heap} {v : Value} {r : PyData × Nat} (x : Val F h₁ h v r) (hk : KeepsH h₀ h₁) : Val F h₀ h v r := by
  obtain ⟨a, b, c⟩ := x
  refine ⟨a, fun e => ?_, fun e => ?_⟩
  · obtain ⟨p, vs, ds, q1, q2, q3, q4⟩ := b e
    exact ⟨p, vs, ds, q1, q2, hk.none q3, q4⟩
  · obtain ⟨p, rs, ds, q1, q2, q3, q4, q5, q6, q7⟩ := c e
    refine ⟨p, rs, ds, q1, q2, hk.none q3, q4, q5, q6, fun i r d e1 e2 => ?_⟩
    obtain ⟨vs, xs, w1, w2, w3, w4⟩ := q7 i r d e1 e2
    exact ⟨vs, xs, w1, hk.none w2, w3, w4⟩

theorem fresh_size (h : Heap) : h.get? h.objs.size = none := by
  cases e : h.get? h.objs.size with
  | none => rfl
  | some o => exact absurd (Heap.lt_size e) (Nat.lt_irrefl _)

/-- a list just pushed -/
theorem Val.pushList {F : Addr → Prop} {h : Heap} {vs : List Value} {ds : List PyData} (al : Alloc F h) (r : RDs h F vs ds) :
    Val F h (h.push { cls := .type "list", data := .seq vs.toArray }) (.ref h.objs.size) (.list ds, 1) := by
  have hn := fresh_size h
  have hf : ¬ F h.objs.size := al.fresh hn
  have hk : KeepsH h (h.push { cls := .type "list", data := .seq vs.toArray }) := fun _ _ e => Heap.get?_push_of_some _ e
  have hl : (h.push { cls := .type "list", data := .seq vs.toArray }).PlainList h.objs.size vs.toArray := ⟨_, Heap.get?_push_size _ rfl⟩
  refine ⟨.list hl hf (by simpa using r.keeps hk), fun _ => ⟨_, vs.toArray, ds, rfl, rfl, hn, hl, ?_⟩, fun e => by simp at e⟩
  have r' : RDs h (fun b => F b ∨ b = h.objs.size) vs ds := r.weak fun a q => q.imp id fun e => by subst e; exact hn
  simpa using r'.keeps hk
theorem RD.pushTuple {F : Addr → Prop} {h : Heap} {vs : List Value} {ds : List PyData} (r : RDs h F vs ds) :
    RD (h.push { cls := .type "tuple", data := .seq vs.toArray }) F (.ref h.objs.size) (.tuple ds) :=
  .tuple ⟨_, Heap.get?_push_size _ rfl, rfl, _, rfl⟩ (by simpa using r.keeps fun _ _ e => Heap.get?_push_of_some _ e)

section
variable {G : GCtx} {Φ : Funs} {k : Nat} {C : Ctx} {γ : Env'} {A : Around} {env : Env} {F : Addr → Prop} {s : Shared} {E : Value → Shared → Prop}

theorem name_has {x : Str} {pos : Pos} {v : Value} {Q : Value → Shared → Prop} (hk : env.scope.kind = .function) (y : Has env s.heap x v) (h : Q v s) (hd : (x == ("__debug__" : Str)) = false) :
    wpAny (model G.prog G.w) A (eval (.Name x pos) env) Q E s := by
  refine wpAny_Name ?_ hd
  rcases y with ⟨a, _, m, c, d⟩ | ⟨a | ⟨a, a'⟩, c, b, d⟩
  · exact wpAny_loadName_local hk a c d h
  · exact wpAny_loadName_cell hk a b d h
  · exact wpAny_loadName_free hk a b d h a'

theorem name_glob {x : Str} {pos : Pos} {v : Value} {Q : Value → Shared → Prop} (hH : H G Φ k C γ A env F s) (hg : C.glob x = true) (hv : G.mg x = some v) (h : Q v s) (hd : (x == ("__debug__" : Str)) = false) :
    wpAny (model G.prog G.w) A (eval (.Name x pos) env) Q E s :=
  Calls.Name_function_global hH.env.kind (hH.env.glob x hg) (Calls.loadGlobal_global (by rw [hH.env.gl]; exact hH.g.g.keeps hH.ok.kb) hv h) hd

theorem name_blt {x : Str} {pos : Pos} {v : Value} {Q : Value → Shared → Prop} (hH : H G Φ k C γ A env F s) (hg : C.glob x = true) (hv : bltin.lookup x = some v) (h : Q v s) (hd : (x == ("__debug__" : Str)) = false) :
    wpAny (model G.prog G.w) A (eval (.Name x pos) env) Q E s :=
  Calls.Name_function_global hH.env.kind (hH.env.glob x hg) (Calls.loadGlobal_builtin (by rw [hH.env.gl]; exact hH.g.g.keeps hH.ok.kb) (hH.g.blt x v hv).1 (by rw [hH.env.bl]; exact hH.g.b.keeps hH.ok.kb) (hH.g.blt x v hv).2 h) hd
end

end Mine
end
section
set_option maxRecDepth 100000
namespace Mine
open PySem PyProof.Rows

theorem sm_log {i : Int} (h : sm i = true) : i.natAbs.log2 < 8000 := by
  have h' : i.natAbs < 2 ^ 8000 := by have := of_decide_eq_true h; rwa [lim] at this
  by_cases e : i.natAbs = 0
  · rw [e]; decide
  · exact (Nat.log2_lt e).mpr h'
theorem sm_bits {i : Int} (h : sm i = true) : Builtin.Int.intBits i ≤ 8000 := by
  have h' := sm_log h
  unfold Builtin.Int.intBits
  split <;> omega
theorem sm_mul {a b : Int} (ha : sm a = true) (hb : sm b = true) : IntMulOk a b := by
  unfold IntMulOk Builtin.Int.intTooBig bitsLine
  have h1 := sm_bits ha
  have h2 := sm_bits hb
  intro h
  simp only [Bool.and_eq_true, decide_eq_true_eq] at h
  have h3 := h.2
  omega
theorem sm_pylong {a b : Int} (hb : sm b = true) : Builtin.divisionGoesByPylong a b = false := PyProof.noPylong_of_log2 (Nat.lt_trans (sm_log hb) (by decide))
theorem lenLim_size {n : Nat} (h : n ≤ lenLim) : n ≤ sizeLine := Nat.le_trans h (by decide)

theorem foldl_rep {h : Heap} {F : Addr → Prop} {items : Array Value} {xs : List PyData} (r : RDs h F items.toList xs) : ∀ (n : Nat) (acc : Array Value) (ys : List PyData), RDs h F acc.toList ys →
    RDs h F (List.foldl (fun x1 x2 => x1 ++ x2) acc (List.replicate n items)).toList (ys ++ repL xs n)
  | 0, acc, ys, q => by simpa [repL] using q
  | n + 1, acc, ys, q => by
    rw [List.replicate_succ, List.foldl_cons, repL, ← List.append_assoc]
    exact foldl_rep r n _ _ (by simpa using q.append r)

section
variable {prog : Program} {w : World} {A : Around} {F : Addr → Prop} {s : Shared} {Q E : Value → Shared → Prop}

theorem mul_list' {l : Addr} {items : Array Value} {k : Nat} {x : Int} {u : Tok} (hl : s.heap.get? l = some { cls := .type "list", dict := none, data := .seq items k, slots := #[] })
    (hlo : -(2 ^ 63 : Int) ≤ x) (hhi : x < 2 ^ 63) (hsz : items.size * x.toNat ≤ 2 ^ 24)
    (h : Q (.ref s.heap.objs.size) { s with heap := s.heap.push { cls := .type "list", data := .seq (List.foldl (fun x1 x2 => x1 ++ x2) #[] (List.replicate (if items.isEmpty = true then 0 else x.toNat) items)) } }) :
    wpAny (model prog w) A (binaryOp .Mult (.ref l) (.int x u)) Q E s :=
  wpAny_binaryOp_repeat_ref (T := "list") (U := "int") (by decide) ⟨_, hl, rfl⟩ (fun s' => typeIs_int s' x u) noFill_list_mul F.fills_int_mul F.slot_int_rmul repeat_list F.slot_int_index.lookup
    (call_meets F.slot_int_rmul (typeIs_int s x u) F.entry_int_rmul (F.args_int_rmul_2 _ _) (int___rmul___int_list x u l items k)
      ⟨hl, rfl, ⟨_, hl, rfl⟩, call_meets F.slot_list_mul ⟨_, hl, rfl⟩ F.entry_list_mul (F.args_list_mul_2 _ _)
        (AutoListH.list___mul___list_int_3 l items k x u (by simp [Builtin.List.listFitsIndex]; omega) (by omega) (by simp [Builtin.List.listTooLong, sizeLine]; omega))
        ⟨hl, h⟩⟩)

theorem add_lists' {l b : Addr} {vs ws : Array Value} (hl : s.heap.IsList l vs) (hb : s.heap.IsList b ws) (hsz : vs.size + ws.size ≤ sizeLine)
    (h : Q (.ref s.heap.objs.size) { s with heap := s.heap.push { cls := .type "list", data := .seq (vs ++ ws) } }) :
    wpAny (model prog w) A (binaryOp .Add (.ref l) (.ref b)) Q E s := by
  obtain ⟨⟨cls, dd, data, sl⟩, ho, hc, n, hd⟩ := id hl
  obtain ⟨⟨cls2, dd2, data2, sl2⟩, ho2, hc2, n2, hd2⟩ := id hb
  simp only at hc hd hc2 hd2
  subst hc hd hc2 hd2
  exact concat_meets ⟨_, ho, rfl⟩ ⟨_, ho2, rfl⟩ noFill_list_add seq_list_add PySem.F.slot_list_add PySem.F.entry_list_add (PySem.F.args_list_add_2 _ _) (list_addW l b vs ws n n2 dd dd2 sl sl2 hsz) ⟨ho, ho2, h⟩

theorem ifSo {α : Type} {c : Prop} [Decidable c] {x r : α} (h : (if c then some x else none) = some r) : c ∧ some x = some r := by
  split at h
  · exact ⟨by assumption, h⟩
  · cases h
noncomputable def opOf : BOp → Operator
  | .add => .Add
  | .sub => .Sub
  | .mul => .Mult
  | .fdiv => .FloorDiv
  | .mod => .Mod
theorem cOp_of {o : BOp} {op : Operator} (h : cOp op = some o) : op = opOf o := by
  cases op <;> cases h <;> rfl
noncomputable def cmpOf : COp → CmpOp
  | .eq => .Eq
  | .ne => .NotEq
  | .lt => .Lt
  | .gt => .Gt
  | _ => .Is
theorem cCmp_of {o : COp} {op : CmpOp} (h : cCmp op = some o) : op = cmpOf o := by
  cases op <;> cases h <;> rfl
theorem binD_sound {o : BOp} {op : Operator} (ho : cOp op = some o) {x y : PyData} {r : PyData × Nat} (hr : binD o x y = some r) {a b : Value} (ra : RD s.heap F a x) (rb : RD s.heap F b y) (al : Alloc F s.heap)
    (h : ∀ v s', Keeps s s' → Val F s.heap s'.heap v r → Q v s') : wpAny (model prog w) A (binaryOp op a b) Q E s := by
  have hop := cOp_of ho
  subst hop
  clear ho
  cases o with
  | add => cases x with
    | int i => cases y with
      | int j =>
        obtain ⟨t, rfl⟩ := ra.int_inv
        obtain ⟨u, rfl⟩ := rb.int_inv
        cases hr
        exact PyProof.Rows.add_int (h _ _ (Keeps.tok _ _) (.of (.int _ _)))
      | _ => cases hr
    | list xs => cases y with
      | list ys =>
        obtain ⟨hsz, hr⟩ := ifSo hr
        cases hr
        obtain ⟨l, vs, rfl, hl, -, rl⟩ := ra.list_inv
        obtain ⟨m, ws, rfl, hm, -, rm⟩ := rb.list_inv
        have e1 := rl.length
        have e2 := rm.length
        refine add_lists' hl.isList hm.isList (lenLim_size (by simp only [Array.length_toList] at e1 e2; omega)) (h _ _ (Keeps.push _ _) ?_)
        have := Val.pushList al (rl.append rm)
        have e3 : vs ++ ws = (vs.toList ++ ws.toList).toArray := by simp
        rw [e3]
        exact this
      | _ => cases hr
    | str i => cases y with
      | str j =>
        obtain ⟨hsz, hr⟩ := ifSo hr
        cases hr
        obtain ⟨t, rfl⟩ := ra.str_inv
        obtain ⟨u, rfl⟩ := rb.str_inv
        exact PyProof.Rows.add_str (fun t' tk => h _ _ (Keeps.tok _ _) (.of (.str _ _))) (lenLim_size hsz)
      | _ => cases hr
    | _ => cases hr
  | sub => cases x with
    | int i => cases y with
      | int j =>
        obtain ⟨t, rfl⟩ := ra.int_inv
        obtain ⟨u, rfl⟩ := rb.int_inv
        cases hr
        exact PyProof.Rows.sub_int (h _ _ (Keeps.tok _ _) (.of (.int _ _)))
      | _ => cases hr
    | _ => cases hr
  | mul => cases x with
    | int i => cases y with
      | int j =>
        obtain ⟨hs, hr⟩ := ifSo hr
        cases hr
        simp only [Bool.and_eq_true] at hs
        obtain ⟨t, rfl⟩ := ra.int_inv
        obtain ⟨u, rfl⟩ := rb.int_inv
        exact PyProof.Rows.mul_int (h _ _ (Keeps.tok _ _) (.of (.int _ _))) (sm_mul hs.1 hs.2)
      | _ => cases hr
    | list xs => cases y with
      | int n =>
        obtain ⟨hs, hr⟩ := ifSo hr
        cases hr
        simp only [Bool.and_eq_true, decide_eq_true_eq] at hs
        obtain ⟨⟨h0, h1⟩, h2⟩ := hs
        have e20 : (lenLim : Int) = 1048576 := by decide
        have e21 : lenLim = 1048576 := by decide
        obtain ⟨l, vs, rfl, ⟨kk, hl⟩, -, rl⟩ := ra.list_inv
        obtain ⟨t, rfl⟩ := rb.int_inv
        have e1 := rl.length
        simp only [Array.length_toList] at e1
        refine mul_list' hl (by omega) (by omega) (by rw [e1]; omega) (h _ _ (Keeps.push _ _) ?_)
        have r1 : RDs s.heap F (List.foldl (fun x1 x2 => x1 ++ x2) #[] (List.replicate (if vs.isEmpty = true then 0 else n.toNat) vs)).toList (repL xs n.toNat) := by
          split
          · rename_i hv
            have : vs = #[] := by simpa using hv
            subst this
            have : xs = [] := List.length_eq_zero_iff.mp (by simpa using e1.symm)
            subst this
            have : ∀ n, repL [] n = [] := fun n => by induction n with | zero => rfl | succ n ih => simp [repL, ih]
            rw [this]
            simpa using RDs.nil
          · simpa using foldl_rep rl n.toNat #[] [] (by simpa using RDs.nil)
        simpa using Val.pushList al r1
      | _ => cases hr
    | _ => cases hr
  | fdiv => cases x with
    | int i => cases y with
      | int j =>
        obtain ⟨hs, hr⟩ := ifSo hr
        cases hr
        simp only [Bool.and_eq_true, decide_eq_true_eq] at hs
        obtain ⟨t, rfl⟩ := ra.int_inv
        obtain ⟨u, rfl⟩ := rb.int_inv
        exact PyProof.Rows.floordiv_int hs.1 (h _ _ (Keeps.tok _ _) (.of (.int _ _))) (.inl (sm_pylong hs.2))
      | _ => cases hr
    | _ => cases hr
  | mod => cases x with
    | int i => cases y with
      | int j =>
        obtain ⟨hs, hr⟩ := ifSo hr
        cases hr
        simp only [Bool.and_eq_true, decide_eq_true_eq] at hs
        obtain ⟨t, rfl⟩ := ra.int_inv
        obtain ⟨u, rfl⟩ := rb.int_inv
        exact PyProof.Rows.mod_int hs.1 (h _ _ (Keeps.tok _ _) (.of (.int _ _)))
      | _ => cases hr
    | _ => cases hr

theorem cmpD_sound {o : COp} {op : CmpOp} (ho : cCmp op = some o) {x y : PyData} {r : Bool} (hr : cmpD o x y = some r) {a b : Value} (ra : RD s.heap F a x) (rb : RD s.heap F b y) (hu : A.units + 64 < cLine)
    (h : Q (.bool r) s) : wpAny (model prog w) A (compareOp op a b) Q E s := by
  have hop := cCmp_of ho
  subst hop
  clear ho
  cases o with
  | eq =>
    obtain ⟨hs, hr⟩ := ifSo (show (if SeqAt.shaped x && SeqAt.shaped y then some (PyData.eqv x y) else none) = some r from hr)
    cases hr
    obtain ⟨h1, h2⟩ := Bool.and_eq_true_iff.mp hs
    obtain ⟨_, r1⟩ := ra.reads
    obtain ⟨_, r2⟩ := rb.reads
    exact eq_dataH r1 r2 h1 h2 hu h
  | ne =>
    obtain ⟨hs, hr⟩ := ifSo (show (if SeqAt.shaped x && SeqAt.shaped y then some (!PyData.eqv x y) else none) = some r from hr)
    cases hr
    obtain ⟨h1, h2⟩ := Bool.and_eq_true_iff.mp hs
    obtain ⟨_, r1⟩ := ra.reads
    obtain ⟨_, r2⟩ := rb.reads
    exact ne_dataH r1 r2 h1 h2 hu h
  | lt => cases x with
    | int i => cases y with
      | int j =>
        obtain ⟨t, rfl⟩ := ra.int_inv
        obtain ⟨u, rfl⟩ := rb.int_inv
        cases hr
        exact PyProof.Rows.lt_int h
      | _ => cases hr
    | _ => cases hr
  | gt => cases x with
    | int i => cases y with
      | int j =>
        obtain ⟨t, rfl⟩ := ra.int_inv
        obtain ⟨u, rfl⟩ := rb.int_inv
        cases hr
        exact PyProof.Rows.gt_int h
      | _ => cases hr
    | _ => cases hr
  | _ => cases hr
end
end Mine
namespace Mine
open PySem PyProof.Rows
theorem intsD_are {h : Heap} {F : Addr → Prop} : ∀ {vs : List Value} {ds : List PyData} {ns : List Int}, RDs h F vs ds → intsD ds = some ns → IntsAre vs ns
  | _, _, _, .nil, e => by simp [intsD] at e; subst e; exact .nil
  | _, _, ns, .cons (d := d) a r, e => by
    cases d <;> simp only [intsD] at e <;> try cases e
    cases q : intsD _ with
    | none => rw [q] at e; cases e
    | some is =>
      rw [q] at e
      cases e
      obtain ⟨t, rfl⟩ := a.int_inv
      exact .cons _ _ (intsD_are r q)
section
variable {prog : Program} {w : World} {A : Around} {F : Addr → Prop} {s : Shared} {Q E : Value → Shared → Prop}

theorem blt_len_sound {x : PyData} {r : PyData × Nat} (hr : bltD .len x = some r) {a : Value} (ra : RD s.heap F a x)
    (h : ∀ v s', Keeps s s' → Val F s.heap s'.heap v r → Q v s') : wpAny (model prog w) A (call (.builtin "len") [a]) Q E s := by
  cases x with
  | list xs =>
    obtain ⟨hsz, hr⟩ := ifSo hr
    cases hr
    obtain ⟨l, vs, rfl, hl, -, rl⟩ := ra.list_inv
    have e := rl.length
    simp only [Array.length_toList] at e
    refine PyProof.Rows.len_list hl.isList (by rw [e]; unfold lenLim at hsz; omega) (h _ _ (Keeps.tok _ _) (.of ?_))
    rw [e]
    exact .int _ _
  | str x =>
    obtain ⟨hsz, hr⟩ := ifSo hr
    cases hr
    obtain ⟨t, rfl⟩ := ra.str_inv
    exact PyProof.Rows.len_str (by unfold lenLim at hsz; omega) (h _ _ (Keeps.tok _ _) (.of (.int _ _)))
  | _ => cases hr

theorem blt_abs_sound {x : PyData} {r : PyData × Nat} (hr : bltD .abs x = some r) {a : Value} (ra : RD s.heap F a x)
    (h : ∀ v s', Keeps s s' → Val F s.heap s'.heap v r → Q v s') : wpAny (model prog w) A (call (.builtin "abs") [a]) Q E s := by
  cases x with
  | int i =>
    cases hr
    obtain ⟨t, rfl⟩ := ra.int_inv
    refine call_abs_int fun u tk => h _ _ (Keeps.tok _ _) (.of ?_)
    have e : (if i < 0 then -i else i) = (i.natAbs : Int) := by split <;> omega
    rw [e]
    exact .int _ _
  | _ => cases hr

theorem blt_str_sound {x : PyData} {r : PyData × Nat} (hr : bltD .str x = some r) {a : Value} (ra : RD s.heap F a x) (hh : A.handled = none) (hn : s.heap.NoDigits)
    (h : ∀ v s', Keeps s s' → Val F s.heap s'.heap v r → Q v s') : wpAny (model prog w) A (call (.type "str") [a]) Q E s := by
  cases x with
  | int i =>
    obtain ⟨hs, hr⟩ := ifSo hr
    cases hr
    obtain ⟨t, rfl⟩ := ra.int_inv
    refine str_of_int_or hh hn (fun _ => h _ _ (Keeps.tok _ _) (.of (.str _ _))) fun hge => ?_
    have h1 : i.natAbs < 2 ^ 8000 := by have := of_decide_eq_true hs; rwa [lim] at this
    exact absurd h1 (Nat.not_lt.mpr (Nat.le_trans (by decide +kernel) hge))
  | _ => cases hr

theorem mth_index_sound {x y : PyData} {r : PyData × Nat} (hr : mthD .index x y = some r) {a b : Value} (ra : RD s.heap F a x) (rb : RD s.heap F b y)
    (h : ∀ v s', Keeps s s' → Val F s.heap s'.heap v r → Q v s') : wpAny (model prog w) A (call (.builtin "list.index") [a, b]) Q E s := by
  cases x with
  | list xs =>
    cases y with
    | int i =>
      obtain ⟨ns, q, hr⟩ := Option.bind_eq_some_iff.mp hr
      · obtain ⟨hs, hr⟩ := ifSo hr
        cases hr
        simp only [Bool.and_eq_true] at hs
        obtain ⟨l, vs, rfl, hl, -, rl⟩ := ra.list_inv
        obtain ⟨t, rfl⟩ := rb.int_inv
        exact index_list_ints (vs := vs.toList) (by simpa using hl.isList) (intsD_are rl q) hs.1 (by simpa using hs.2) (h _ _ (Keeps.tok _ _) (.of (.int _ _)))
    | _ => cases hr
  | _ => cases hr

theorem idx_sound {x y : PyData} {r : PyData × Nat} (hr : idxD x y = some r) {a b : Value} (ra : RD s.heap F a x) (rb : RD s.heap F b y) {value slice : PySem.Expr}
    (hs : ∀ l i u, subscripted slice false (.ref l) (.int i u) = operate [.ref l, .int i u] (getItem (.ref l) (.int i u)))
    (h : ∀ v, Val F s.heap s.heap v r → Q v s) : wpAny (model prog w) A (subscriptTail value slice a b) Q E s := by
  unfold idxD at hr
  split at hr
  · rename_i xs k
    split at hr
    · rename_i hk
      simp only [Bool.and_eq_true, decide_eq_true_eq] at hk
      obtain ⟨d, hd, rfl⟩ := Option.map_eq_some_iff.mp hr
      obtain ⟨l, vs, rfl, hl, -, rl⟩ := ra.list_inv
      obtain ⟨t, rfl⟩ := rb.int_inv
      obtain ⟨v, hv, rv⟩ := rl.get hd
      exact tail_any hl.isList.typeIs slot_list_getitem.lookup (wpAny_getItem_list hl.isList hk.1 (by have := hk.2; unfold lenLim at this; omega) (by simpa using hv) (h _ (.of rv))) (hs _ _ _)
    · cases hr
  · rename_i xs k
    split at hr
    · rename_i hk
      simp only [Bool.and_eq_true, decide_eq_true_eq] at hk
      obtain ⟨d, hd, rfl⟩ := Option.map_eq_some_iff.mp hr
      obtain ⟨l, vs, rfl, hl, rl⟩ := ra.tuple_inv
      obtain ⟨t, rfl⟩ := rb.int_inv
      obtain ⟨v, hv, rv⟩ := rl.get hd
      have hlt : k.toNat < vs.size := by
        have := (List.getElem?_eq_some_iff.mp hv).1
        simpa using this
      have hk2 := hk.2
      unfold lenLim at hk2
      refine item_tupleT hl (by omega) (by omega) (j := k.toNat) ?_ (by simpa using hv) (h _ (.of rv)) (hs _ _ _)
      unfold seqIndex?
      have e1 : ¬ k < 0 := by omega
      have e2 : k < (vs.toList.length : Int) := by simp only [Array.length_toList]; omega
      simp only [e1, if_false, hk.1, e2, decide_true, Bool.and_self, if_true]
    · cases hr
  · cases hr
end
end Mine
end
section
set_option maxRecDepth 100000
namespace Mine
open PySem PyProof.Rows

theorem Walks.lt {prog : Program} {w : World} {A : Around} {I : Addr} {fp wr : List Addr} {n : Nat} {P : Nat → Value → Prop} {St : Nat → Heap → Prop} (W : Walks prog w A I fp wr n P St) :
    Walks prog w A I fp wr n (fun i v => i < n ∧ P i v) St where
  sub := W.sub
  frame := W.frame
  item := fun i s Q E hi st hQ => W.item i s Q E hi st fun v h' tk p => hQ v h' tk ⟨hi, p⟩
  done := W.done
  self := W.self

theorem cls_ne {a b : String} (h : a ≠ b) : Value.type a ≠ Value.type b := fun e => h (Value.type.inj e)

/-- an iterator over the data xs, just made -/
structure Iter (G : GCtx) (A : Around) (F : Addr → Prop) (xs : List PyData) (s s' : Shared) (I : Addr) (fp wr : List Addr) (P : Nat → Value → Prop) (St : Nat → Heap → Prop) : Prop where
  keeps : Keeps s s'
  walks : Walks G.prog G.w A I fp wr xs.length P St
  start : St 0 s'.heap
  low : ∀ b ∈ fp, b < s'.heap.objs.size
  size : xs.length ≤ lenLim
  new : ∀ b ∈ wr, s.heap.get? b = none
  off : ∀ b ∈ fp, b ∉ wr → ∃ o vs n, s'.heap.get? b = some o ∧ o.data = .seq vs n ∧ (o.cls = .type "tuple" ∨ (o.cls = .type "list" ∧ ¬ F b))
  notL : ∀ b ∈ wr, ∃ o, s'.heap.get? b = some o ∧ o.cls ≠ .type "list" ∧ ∃ vs, o.data = .fields vs
  data : ∀ i v, P i v → ∃ d, xs[i]? = some d ∧ RD s'.heap F v d
  stF : ∀ i h, St i h → ∀ b ∈ wr, ∃ o vs, h.get? b = some o ∧ o.data = .fields vs

theorem rangeSize_up (a b : Int) : Builtin.Range.rangeSize a b 1 = ((b - a).toNat : Int) := by
  unfold Builtin.Range.rangeSize
  rw [if_pos (by decide)]
  split <;> omega
theorem rangeSize_down (a b : Int) : Builtin.Range.rangeSize a b (-1) = ((a - b).toNat : Int) := by
  unfold Builtin.Range.rangeSize
  rw [if_neg (by decide)]
  split <;> simp <;> omega

section
variable {G : GCtx} {A : Around} {F : Addr → Prop} {s : Shared} {Q E : Value → Shared → Prop}

theorem iter_range {a b c : Int} {n : Nat} {xs : List PyData} {t u v : Tok} {tk : Nat} (hh : A.handled = none) (hx : xs = (List.range n).map fun (k : Nat) => PyData.int (a + k * c))
    (hn : Builtin.Range.rangeSize a b c = (n : Int)) (hlen : n ≤ lenLim) (hsmall : Builtin.Range.small a b c = true)
    (h : ∀ I fp wr P St s', Iter G A F xs s s' I fp wr P St → Q (.ref I) s') :
    wpAny (model G.prog G.w) A (pyIter (.ref s.heap.objs.size)) Q E { s with heap := s.heap.push { cls := .type "range", data := .fields #[.int a t, .int b u, .int c v] }, toks := tk } := by
  refine wpAny_pyIter_range (IsRange.new _ a b c t u v) hsmall ?_
  have hl : n = xs.length := by rw [hx]; simp
  have hr : (Heap.push (s.heap.push { cls := .type "range", data := .fields #[.int a t, .int b u, .int c v] }) { cls := .type "range_iterator", data := .fields #[rawInt a, rawInt (Builtin.Range.rangeSize a b c), rawInt c] }).get?
      (s.heap.push { cls := .type "range", data := .fields #[.int a t, .int b u, .int c v] }).objs.size = some { cls := .type "range_iterator", data := .fields #[rawInt a, rawInt (Builtin.Range.rangeSize a b c), rawInt c] } := Heap.get?_push_size _ rfl
  have W := Walks.lt (Walks.range (prog := G.prog) (w := G.w) hh (s.heap.push { cls := .type "range", data := .fields #[.int a t, .int b u, .int c v] }).objs.size a c n)
  rw [hl] at W
  refine h _ _ _ _ _ _ ⟨⟨_, _, rfl, fun _ _ e => Heap.get?_push_of_some _ (Heap.get?_push_of_some _ e)⟩, W, ?_, fun b hb => ?_, by omega, fun b hb => ?_, fun b hb hw => (hw hb).elim, fun b hb => ?_, fun i v hP => ?_, fun i h st b hb => ?_⟩
  · unfold IsRangeIter
    rw [hr, hn]
    simp [hl]
  · simp only [List.mem_singleton] at hb
    subst hb
    exact Heap.lt_size hr
  · simp only [List.mem_singleton] at hb
    subst hb
    cases e : s.heap.get? (s.heap.push { cls := .type "range", data := .fields #[.int a t, .int b u, .int c v] }).objs.size with
    | none => rfl
    | some o => have := Heap.lt_size e; rw [Heap.size_push] at this; exact absurd this (Nat.not_lt.mpr (Nat.le_succ _))
  · simp only [List.mem_singleton] at hb
    subst hb
    exact ⟨_, hr, cls_ne (by decide), _, rfl⟩
  · obtain ⟨hi, t', rfl⟩ := hP
    rw [← hl] at hi
    exact ⟨.int (a + i * c), by rw [hx]; simp [hi], .int _ _⟩
  · simp only [List.mem_singleton] at hb
    subst hb
    exact ⟨_, _, st, rfl⟩

theorem iter_seq {x : PyData} {xs : List PyData} {v : Value} (hh : A.handled = none) (hx : itemsD x = some xs) (hlen : xs.length ≤ lenLim) (rv : RD s.heap F v x)
    (h : ∀ I fp wr P St s', Iter G A F xs s s' I fp wr P St → Q (.ref I) s') :
    wpAny (model G.prog G.w) A (pyIter v) Q E s := by
  cases x with
  | list ys =>
    cases hx
    obtain ⟨l, vs, rfl, hl', hf, rl⟩ := rv.list_inv
    have hl := hl'.isList
    refine wpAny_pyIter_list hl ?_
    have e := rl.length
    simp only [Array.length_toList] at e
    have hr : (s.heap.push { cls := .type "list_iterator", data := .fields #[.ref l, .int 0 0] }).get? s.heap.objs.size = some { cls := .type "list_iterator", data := .fields #[.ref l, .int 0 0] } := Heap.get?_push_size _ rfl
    have hll : l < s.heap.objs.size := let ⟨_, ho, _⟩ := hl; Heap.lt_size ho
    have W := Walks.list (prog := G.prog) (w := G.w) hh s.heap.objs.size l (Nat.ne_of_lt hll) vs
    rw [e] at W
    refine h _ _ _ _ _ _ ⟨Keeps.push _ _, W, ⟨⟨_, hr, rfl, rfl⟩, hl.push _⟩, fun b hb => ?_, hlen, fun b hb => ?_, fun b hb hw => ?_, fun b hb => ?_, fun i v hP => ?_, fun i h st b hb => ?_⟩
    · simp only [List.mem_cons, List.not_mem_nil, or_false] at hb
      rw [Heap.size_push]
      rcases hb with rfl | rfl
      · exact Nat.lt_succ_self _
      · exact Nat.lt_succ_of_lt hll
    · simp only [List.mem_singleton] at hb
      subst hb
      exact fresh_size _
    · simp only [List.mem_cons, List.not_mem_nil, or_false] at hb hw
      rcases hb with rfl | rfl
      · exact (hw rfl).elim
      · obtain ⟨o, ho, hc, n, hd⟩ := hl
        exact ⟨o, _, n, Heap.get?_push_of_some _ ho, hd, .inr ⟨hc, hf⟩⟩
    · simp only [List.mem_singleton] at hb
      subst hb
      exact ⟨_, hr, cls_ne (by decide), _, rfl⟩
    · obtain ⟨d, hd, rd⟩ := (rl.keeps fun _ _ q => Heap.get?_push_of_some { cls := .type "list_iterator", data := .fields #[.ref l, .int 0 0] } q).get' (i := i) (v := v) (by simpa using hP)
      exact ⟨d, hd, rd⟩
    · simp only [List.mem_singleton] at hb
      subst hb
      obtain ⟨⟨o, ho, _, hd⟩, _⟩ := st
      exact ⟨o, _, ho, hd⟩
  | tuple ys =>
    cases hx
    obtain ⟨l, vs, rfl, hl, rl⟩ := rv.tuple_inv
    refine wpAny_pyIter_tuple hl ?_
    have e := rl.length
    simp only [Array.length_toList] at e
    have hr : (s.heap.push { cls := .type "tuple_iterator", data := .fields #[.ref l, .int 0 0] }).get? s.heap.objs.size = some { cls := .type "tuple_iterator", data := .fields #[.ref l, .int 0 0] } := Heap.get?_push_size _ rfl
    have hll : l < s.heap.objs.size := let ⟨_, ho, _⟩ := hl; Heap.lt_size ho
    have W := Walks.tuple (prog := G.prog) (w := G.w) hh s.heap.objs.size l (Nat.ne_of_lt hll) vs
    rw [e] at W
    refine h _ _ _ _ _ _ ⟨Keeps.push _ _, W, ⟨⟨_, hr, rfl, rfl⟩, IsTup.push hl _⟩, fun b hb => ?_, hlen, fun b hb => ?_, fun b hb hw => ?_, fun b hb => ?_, fun i v hP => ?_, fun i h st b hb => ?_⟩
    · simp only [List.mem_cons, List.not_mem_nil, or_false] at hb
      rw [Heap.size_push]
      rcases hb with rfl | rfl
      · exact Nat.lt_succ_self _
      · exact Nat.lt_succ_of_lt hll
    · simp only [List.mem_singleton] at hb
      subst hb
      exact fresh_size _
    · simp only [List.mem_cons, List.not_mem_nil, or_false] at hb hw
      rcases hb with rfl | rfl
      · exact (hw rfl).elim
      · obtain ⟨o, ho, hc, n, hd⟩ := hl
        exact ⟨o, _, n, Heap.get?_push_of_some _ ho, hd, .inl hc⟩
    · simp only [List.mem_singleton] at hb
      subst hb
      exact ⟨_, hr, cls_ne (by decide), _, rfl⟩
    · obtain ⟨d, hd, rd⟩ := (rl.keeps fun _ _ q => Heap.get?_push_of_some { cls := .type "tuple_iterator", data := .fields #[.ref l, .int 0 0] } q).get' (i := i) (v := v) (by simpa using hP)
      exact ⟨d, hd, rd⟩
    · simp only [List.mem_singleton] at hb
      subst hb
      obtain ⟨⟨o, ho, _, hd⟩, _⟩ := st
      exact ⟨o, _, ho, hd⟩
  | _ => cases hx
end
end Mine
end
section
set_option maxRecDepth 100000
namespace Mine
open PySem PyProof.Rows

theorem mapM_some {α β : Type} {f : α → Option β} : ∀ {xs : List α} {rs : List β}, xs.mapM f = some rs → rs.length = xs.length ∧ ∀ (i : Nat) (x : α), xs[i]? = some x → ∃ r, f x = some r ∧ rs[i]? = some r
  | [], rs, h => by simp at h; subst h; simp
  | x :: xs, rs, h => by
    rw [List.mapM_cons] at h
    cases e : f x with
    | none => rw [e] at h; cases h
    | some y =>
      rw [e] at h
      cases e' : xs.mapM f with
      | none => rw [e'] at h; cases h
      | some ys =>
        rw [e'] at h
        cases h
        obtain ⟨h1, h2⟩ := mapM_some e'
        refine ⟨by simp [h1], fun i z hz => ?_⟩
        cases i with
        | zero => simp at hz; subst hz; exact ⟨y, e, rfl⟩
        | succ i => simpa using h2 i z (by simpa using hz)


/-- what a comprehension has made so far -/
structure Made (F : Addr → Prop) (h₂ : Heap) (D : Addr) (h : Heap) (ys : List Value) (rs : List (PyData × Nat)) : Prop where
  len : ys.length = rs.length
  rd : RDs h (fun b => F b ∨ b = D) ys (rs.map (·.1))
  two : rs.all lvl2 = true → ∃ as : List Addr, ys = as.map Value.ref ∧ as.Nodup ∧ (∀ a ∈ as, h₂.get? a = none ∧ a ≠ D) ∧
    ∀ (i : Nat) (a : Addr) (r : PyData × Nat), as[i]? = some a → rs[i]? = some r → ∃ vs xs, r.1 = .list xs ∧ h.PlainList a vs ∧ RDs h (fun b => F b ∨ b = D ∨ b ∈ as) vs.toList xs

theorem Made.nil {F : Addr → Prop} {h₂ h : Heap} {D : Addr} : Made F h₂ D h [] [] := ⟨rfl, .nil, fun _ => ⟨[], rfl, .nil, (fun _ h => nomatch h), fun i a r e => by simp at e⟩⟩

theorem Made.frame {F : Addr → Prop} {h₂ h h' : Heap} {D : Addr} {ys : List Value} {rs : List (PyData × Nat)} (x : Made F h₂ D h ys rs) (hk : ∀ b o vs n, b ≠ D → h.get? b = some o → o.data = .seq vs n → h'.get? b = some o)
    (hD : ∃ vs, h.PlainList D vs) : Made F h₂ D h' ys rs := by
  have nt : ∀ o, h.get? D = some o → o.cls = .type "tuple" → False := fun o e c => by
    obtain ⟨vs, n, e'⟩ := hD
    rw [e] at e'; cases e'
    exact cls_ne (by decide) c
  refine ⟨x.len, x.rd.frame fun b o vs n e d q => hk b o vs n (fun z => ?_) e d, fun h2 => ?_⟩
  · subst z
    rcases q with q | ⟨_, q⟩
    · exact nt _ e q
    · exact q (.inr rfl)
  · obtain ⟨as, e1, e2, e3, e4⟩ := x.two h2
    refine ⟨as, e1, e2, e3, fun i a r q1 q2 => ?_⟩
    obtain ⟨vs, xs, w1, ⟨n, o1⟩, w3⟩ := e4 i a r q1 q2
    refine ⟨vs, xs, w1, ⟨n, hk a _ vs n ((e3 a (List.mem_of_getElem? q1)).2) o1 rfl⟩, w3.frame fun b o vs n e d q => hk b o vs n (fun z => ?_) e d⟩
    subst z
    rcases q with q | ⟨_, q⟩
    · exact nt _ e q
    · exact q (.inr (.inl rfl))

/-- one more element, made at a heap h that keeps h's objects -/
theorem Made.snoc {F : Addr → Prop} {h₂ h h' : Heap} {D : Addr} {ys : List Value} {rs : List (PyData × Nat)} {y : Value} {r : PyData × Nat} (x : Made F h₂ D h ys rs) (hk : KeepsH h h')
    (hD : h₂.get? D = none) (hDh : ∃ o, h.get? D = some o) (v : Val (fun b => F b ∨ (h₂.get? b = none ∧ ∃ o, h.get? b = some o)) h h' y r) (h2k : ∀ b o, h₂.get? b = some o → b = D ∨ ∃ o, h.get? b = some o) : Made F h₂ D h' (ys ++ [y]) (rs ++ [r]) := by
  refine ⟨by simp [x.len], ?_, fun h2 => ?_⟩
  · rw [List.map_append]
    refine (x.rd.keeps hk).append (.cons (v.1.weak fun a q => .inl ?_) .nil)
    rcases q with q | q
    · exact .inl q
    · subst q; exact .inr ⟨hD, hDh⟩
  · rw [List.all_append] at h2
    simp only [Bool.and_eq_true, List.all_cons, List.all_nil, Bool.and_true] at h2
    obtain ⟨as, e1, e2, e3, e4⟩ := x.two h2.1
    have hr : ∃ xs, r = (.list xs, 1) := by
      obtain ⟨d, l⟩ := r
      have := h2.2
      unfold lvl2 at this
      split at this
      · rename_i xs heq; cases heq; exact ⟨_, rfl⟩
      · cases this
    obtain ⟨xs, rfl⟩ := hr
    obtain ⟨a, vs, ds, rfl, q1, q2, q3, q4⟩ := v.2.1 rfl
    cases q1
    have a2 : h₂.get? a = none := by
      cases e : h₂.get? a with
      | none => rfl
      | some o =>
        rcases h2k a o e with z | ⟨o', z⟩
        · rw [z, hD] at e; cases e
        · rw [q2] at z; cases z
    have aD : a ≠ D := fun z => by obtain ⟨o, ho⟩ := hDh; rw [← z, q2] at ho; cases ho
    have aas : ∀ b ∈ as, b ≠ a ∧ ∃ o, h.get? b = some o := fun b hb => by
      obtain ⟨i, hi⟩ := List.getElem?_of_mem hb
      have hlt : i < rs.length := by
        have h1 := (List.getElem?_eq_some_iff.mp hi).1
        have h3 := x.len
        rw [e1, List.length_map] at h3
        omega
      obtain ⟨_, _, _, ⟨n, ho⟩, _⟩ := e4 i b rs[i] hi (List.getElem?_eq_getElem hlt)
      exact ⟨fun z => (by rw [z, q2] at ho; cases ho), _, ho⟩
    refine ⟨as ++ [a], by simp [e1], ?_, fun b hb => ?_, fun i b r w1 w2 => ?_⟩
    · rw [List.nodup_append]
      refine ⟨e2, by simp, fun b hb c hc => ?_⟩
      simp at hc
      subst hc
      exact (aas b hb).1
    · rcases List.mem_append.mp hb with hb | hb
      · exact e3 b hb
      · simp at hb; subst hb; exact ⟨a2, aD⟩
    · have hlen : as.length = rs.length := by have := x.len; rw [e1, List.length_map] at this; exact this
      by_cases hi : i < as.length
      · rw [List.getElem?_append_left hi] at w1
        rw [List.getElem?_append_left (by omega)] at w2
        obtain ⟨vs', xs', u1, u2, u3⟩ := e4 i b r w1 w2
        refine ⟨vs', xs', u1, ?_, RDs.keeps (u3.weak fun c q => ?_) hk⟩
        · obtain ⟨n, ho⟩ := u2
          exact ⟨n, hk _ _ ho⟩
        · rcases q with q | q | q
          · exact .inl (.inl q)
          · exact .inl (.inr (.inl q))
          · rcases List.mem_append.mp q with q | q
            · exact .inl (.inr (.inr q))
            · simp at q; subst q; exact .inr q2
      · have hi' : i = as.length := by
          have := (List.getElem?_eq_some_iff.mp w1).1
          simp at this
          omega
        subst hi'
        rw [List.getElem?_append_right (Nat.le_refl _)] at w1
        rw [hlen, List.getElem?_append_right (Nat.le_refl _)] at w2
        simp at w1 w2
        subst w1 w2
        refine ⟨vs, xs, rfl, q3, q4.weak fun c q => .inl ?_⟩
        rcases q with q | q | q
        · exact .inl (.inl q)
        · subst q; exact .inl (.inr ⟨hD, hDh⟩)
        · rcases List.mem_append.mp q with q | q
          · exact .inl (.inr ⟨(e3 c q).1, (aas c q).2⟩)
          · simp at q; exact .inr q

/-- the whole list -/
theorem Made.val {F : Addr → Prop} {h₀ h₂ h : Heap} {D : Addr} {ys : Array Value} {rs : List (PyData × Nat)} (x : Made F h₂ D h ys.toList rs) (hD : h.PlainList D ys) (hn : h₂.get? D = none) (k : KeepsH h₀ h₂) (al : Alloc F h₂) :
    Val F h₀ h (.ref D) (.list (rs.map (·.1)), if !rs.isEmpty && rs.all lvl2 then 2 else 1) := by
  have hf := al.fresh hn
  refine ⟨.list hD hf (x.rd.weak fun a q => .inl (.inl q)), fun e => ⟨D, ys, _, rfl, rfl, k.none hn, hD, x.rd⟩, fun e => ?_⟩
  simp only at e
  split at e
  · rename_i h2
    simp only [Bool.and_eq_true] at h2
    obtain ⟨as, e1, e2, e3, e4⟩ := x.two h2.2
    refine ⟨D, as, _, rfl, rfl, k.none hn, ?_, ?_, ?_, fun i a d q1 q2 => ?_⟩
    · rw [← e1]; simpa using hD
    · exact List.nodup_cons.mpr ⟨fun z => (e3 D z).2 rfl, e2⟩
    · have := x.len
      rw [e1, List.length_map] at this
      simpa using this
    · rw [List.getElem?_map] at q2
      obtain ⟨r, q3, rfl⟩ := Option.map_eq_some_iff.mp q2
      obtain ⟨vs, xs, u1, u2, u3⟩ := e4 i a r q1 q3
      exact ⟨vs, xs, u1, k.none (e3 a (List.mem_of_getElem? q1)).1, u2, u3⟩
  · cases e
end Mine
end
section
set_option maxRecDepth 100000
namespace Mine
open PySem PyProof.Rows

section
variable {G : GCtx} {A : Around} {F : Addr → Prop} {E : Value → Shared → Prop} {env : Env}

theorem comp_core {elt iter : PySem.Expr} {x : Str} {px : Pos} {scope : Scope} {cl : List (Str × Addr)} {pos : Pos} {s s₂ : Shared} {I : Addr} {fp wr : List Addr} {P : Nat → Value → Prop} {St : Nat → Heap → Prop}
    {xs : List PyData} {rs : List (PyData × Nat)} {RR : Value → Addr → Result → Shared → Prop} (it : Iter G A F xs s s₂ I fp wr P St) (al : Alloc F s.heap)
    (hcell : ∀ y ∈ scope.names, y.2 ≠ .cell) (hkind : scope.kind = .function) (hx : scope.names.lookup x = some .local) (hlen : rs.length = xs.length)
    (hel : ∀ (i : Nat) (d : PyData) (r : PyData × Nat) (Cc : Addr) (v : Value) (s₃ : Shared) (m₃ : Str → Option Value) (F' : Addr → Prop) (Q E' : Value → Shared → Prop), xs[i]? = some d → rs[i]? = some r →
      s₃.heap.Ns Cc m₃ → m₃ x = some v → RD s₃.heap F' v d → KeepsH s.heap s₃.heap → (∀ a, F' a → F a ∨ s.heap.get? a = none) → Alloc F' s₃.heap →
      (∀ y s₄, Keeps s₃ s₄ → Val F' s₃.heap s₄.heap y r → Q y s₄) → wpAny (model G.prog G.w) A (eval elt (compEnvC scope cl Cc env)) Q E' s₃)
    (hRR : ∀ D Cc h' tk m' ys, s₂.heap.get? D = none → s₂.heap.get? Cc = none → D ≠ Cc → h'.Ns Cc m' → h'.PlainList D ys → Made F s₂.heap D h' ys.toList rs → (∀ b o, b ∉ wr → s₂.heap.get? b = some o → h'.get? b = some o) →
      RR (.ref D) Cc (.ok .next) { s₂ with heap := h', toks := tk }) :
    wpAny (model G.prog G.w) A (newList []) (fun acc s₃ => wpAny (model G.prog G.w) A (newFunctionEnv scope env.globals cl [] env.qual none .none (some env)) (fun cenv s₄ =>
      codeAny (model G.prog G.w) A (.compStart (.ListComp elt [⟨.Name x px, iter, [], 0⟩] scope pos) 0 (.ref I) acc { cenv with scope := relabel scope env }) (RR acc cenv.locals) s₄) E s₃) E s₂ := by
  obtain ⟨hks, W, hst, hfp, hsz, hnew, hoff, hnl, hdata, hstF⟩ := it
  have ks2 : KeepsH s.heap s₂.heap := Keeps.heap hks
  clear hks
  refine wpAny_newObj_type (wpAny_newFunctionEnv hcell (by intro y hy; simp at hy) (fun h₁ hns₁ hsb₁ => ?_) hkind)
  dsimp only at hns₁ hsb₁ ⊢
  generalize hH2 : s₂.heap.push { cls := .type "list", dict := none, data := .seq ([] : List Value).toArray } = H2 at hns₁ hsb₁ ⊢
  have hC : H2.objs.size = s₂.heap.objs.size + 1 := by rw [← hH2, Heap.size_push]
  have hDC : s₂.heap.objs.size ≠ H2.objs.size := by rw [hC]; exact Nat.ne_of_lt (Nat.lt_succ_self _)
  have below : ∀ b, b < s₂.heap.objs.size → b ≠ H2.objs.size ∧ b ≠ s₂.heap.objs.size := fun b hb => ⟨by rw [hC]; exact Nat.ne_of_lt (Nat.lt_succ_of_lt hb), Nat.ne_of_lt hb⟩
  have hDf : s₂.heap.objs.size ∉ fp := fun hm => Nat.lt_irrefl _ (hfp _ hm)
  have hCf : H2.objs.size ∉ fp := fun hm => by have := hfp _ hm; rw [hC] at this; exact Nat.lt_irrefl _ (Nat.lt_of_succ_lt this)
  have hDw : s₂.heap.objs.size ∉ wr := fun h => hDf (W.sub _ h)
  have hCw : H2.objs.size ∉ wr := fun h => hCf (W.sub _ h)
  have old : ∀ b o, s₂.heap.get? b = some o → h₁.get? b = some o := fun b o e => hsb₁.extBut b o (below b (Heap.lt_size e)).1 (Heap.get?_push_of_some _ (hH2 ▸ Heap.get?_push_of_some _ e))
  have hacc : h₁.PlainList s₂.heap.objs.size #[] := ⟨_, hsb₁.extBut _ _ hDC (Heap.get?_push_of_some _ (hH2 ▸ Heap.get?_push_size _ rfl))⟩
  have fresh : ∀ a, s₂.heap.objs.size ≤ a → s₂.heap.get? a = none := fun a ha => by
    cases e : s₂.heap.get? a with
    | none => rfl
    | some o' => exact absurd (Heap.lt_size e) (Nat.not_lt.mpr ha)
  have hnD := fresh _ (Nat.le_refl s₂.heap.objs.size)
  have hnC : s₂.heap.get? H2.objs.size = none := fresh _ (by rw [hC]; exact Nat.le_succ _)
  have hst₁ : St 0 h₁ := W.frame _ _ _ hst fun b _ o e => old b o e
  generalize hDe : s₂.heap.objs.size = D at *
  generalize hCe : H2.objs.size = Cc at *
  have loop : ∀ s₃ : Shared, s₃ = { s₂ with heap := h₁, toks := s₂.toks + ([] : List (Str × Value)).length } →
      codeAny (model G.prog G.w) A (.compLoop (.ListComp elt [⟨.Name x px, iter, [], 0⟩] scope pos) 0 (.ref I) (.ref D) (compEnvC scope cl Cc env)) (RR (.ref D) Cc) s₃ := by
    rintro s₃ rfl
    refine codeAny_compLoop_list (fun n s' => ∃ (j : Nat) (h' : Heap) (tk : Nat) (m' : Str → Option Value) (ys : Array Value), s' = { s₂ with heap := h', toks := tk } ∧ n = xs.length + 1 - j ∧ j ≤ xs.length ∧ St j h' ∧ h'.PlainList D ys ∧
      h'.Ns Cc m' ∧ Made F s₂.heap D h' ys.toList (rs.take j) ∧ ∀ b o, b ∉ wr → s₂.heap.get? b = some o → h'.get? b = some o) ?_ (xs.length + 1) ⟨0, h₁, _, _, #[], rfl, by omega, Nat.zero_le _, hst₁, hacc, hns₁, Made.nil, fun b o _ e => old b o e⟩
    rintro n s' ⟨j, h', tk, m', ys, rfl, rfl, hj, hstj, hl, hns, hmade, hkp⟩
    by_cases hlt : j < xs.length
    · refine W.item j _ _ _ hlt hstj fun v h₃ tk₃ hPv hst₃ hk₃ => ?_
      refine wpAny_assign_Name (wpAny_storeName_local (lookup_relabel_local hx) (hns.at' fun o e => hk₃ _ o hCw e) (fun h₄ hns₄ hs₄ => ?_) (by simp [compEnvC, relabel, hkind]))
      have k4 : ∀ b o, b ≠ Cc → b ∉ wr → h'.get? b = some o → h₄.get? b = some o := fun b o e1 e2 e => hs₄.extBut b o e1 (hk₃ b o e2 e)
      have k24 : ∀ b o, b ∉ wr → s₂.heap.get? b = some o → h₄.get? b = some o := fun b o e2 e => k4 b o (fun z => by rw [z, hnC] at e; cases e) e2 (hkp b o e2 e)
      obtain ⟨d, hd, rd⟩ := hdata j v hPv
      have hdl : j < rs.length := by omega
      obtain ⟨r, hr⟩ : ∃ r, rs[j]? = some r := ⟨rs[j], List.getElem?_eq_getElem hdl⟩
      have ks : KeepsH s.heap h₄ := fun b o e => k24 b o (fun hw => by rw [hnew b hw] at e; cases e) (ks2 b o e)
      have hlD4 : h₄.PlainList D ys := by
        obtain ⟨n, ho⟩ := hl
        exact ⟨n, k4 D _ hDC hDw ho⟩
      have rd4 : RD h₄ (fun b => F b ∨ (s₂.heap.get? b = none ∧ ∃ o, h₄.get? b = some o)) v d := by
        have rd' : RD s₂.heap (fun b => F b ∨ (s₂.heap.get? b = none ∧ ∃ o, h₄.get? b = some o)) v d := rd.weak fun a q => q.imp id fun q => q.1
        refine rd'.frame (h' := h₄) fun b o vs n e1 e2 _ => k24 b o (fun hw => ?_) e1
        obtain ⟨o', z1, _, vs', z2⟩ := hnl b hw
        rw [e1] at z1; cases z1; rw [e2] at z2; cases z2
      refine hel j d r Cc v _ _ (fun b => F b ∨ (s₂.heap.get? b = none ∧ ∃ o, h₄.get? b = some o)) _ _ hd hr hns₄ (by simp) rd4 ks (fun a q => q.imp id fun q => KeepsH.none ks2 q.1) (fun a q => ?_) fun y s₅ k5 v5 => ?_
      · rcases q with q | q
        · obtain ⟨o, ho⟩ := al a q
          exact ⟨o, ks a o ho⟩
        · exact q.2
      · obtain ⟨h₅, tk₅, rfl, k5⟩ := k5
        have hl5 : h₅.PlainList D ys := by
          obtain ⟨n, ho⟩ := hlD4
          exact ⟨n, k5 D _ ho⟩
        have hjs : ys.size = j := by
          have := hmade.len
          rw [List.length_take, Nat.min_eq_left (by omega)] at this
          simpa using this
        refine wpAny_list_append_plain hl5 (fun h₆ hl6 hs6 => ?_) (lenLim_size (by omega))
        have ex : rs.take (j + 1) = rs.take j ++ [r] := by rw [List.take_add_one, hr]; rfl
        refine ⟨xs.length + 1 - (j + 1), by omega, j + 1, h₆, tk₅, _, ys.push y, rfl, rfl, hlt, ?_, hl6, (hns₄.keeps k5).sameBut hs6 (Ne.symm hDC), ?_, fun b o e1 e => ?_⟩
        · exact W.frame _ _ _ hst₃ fun b hb o e => hs6.extBut b o (fun z => hDf (z ▸ hb)) (k5 b o (hs₄.extBut b o (fun z => hCf ((show b = Cc from z) ▸ hb)) e))
        · have m4 : Made F s₂.heap D h₄ ys.toList (rs.take j) := hmade.frame (fun b o vs n e1 e e2 => k4 b o (fun z => ?_) (fun hw => ?_) e) ⟨_, hl⟩
          · have m5 := m4.snoc (h' := h₅) (y := y) (r := r) k5 hnD (let ⟨_, ho⟩ := hlD4; ⟨_, ho⟩) v5 fun b o e => ?_
            · rw [ex, Array.toList_push]
              exact m5.frame (fun b o vs n e1 e _ => hs6.extBut b o e1 e) ⟨_, hl5⟩
            · by_cases hw : b ∈ wr
              · obtain ⟨o', vs', z1, _⟩ := hstF _ _ hst₃ b hw
                exact .inr ⟨o', hs₄.extBut b o' (fun z => hCw ((show b = Cc from z) ▸ hw)) z1⟩
              · exact .inr ⟨o, k24 b o hw e⟩
          · subst z
            obtain ⟨o', es, ep, z1, z2, _⟩ := hns
            rw [e] at z1; cases z1; rw [e2] at z2; cases z2
          · obtain ⟨o', vs', z1, z2⟩ := hstF _ _ hstj b hw
            rw [e] at z1; cases z1; rw [e2] at z2; cases z2
        · exact hs6.extBut b o (fun z => by rw [z, hnD] at e; cases e) (k5 b o (k24 b o e1 e))
    · have hin : j = xs.length := by omega
      subst hin
      refine W.done _ _ _ hstj fun h₃ tk₃ hk₃ => ?_
      refine hRR D Cc h₃ tk₃ m' ys hnD hnC hDC (hns.at' fun o e => hk₃ _ o hCw e) ?_ ?_ fun b o e1 e2 => hk₃ b o e1 (hkp b o e1 e2)
      · obtain ⟨n, ho⟩ := hl
        exact ⟨n, hk₃ D _ hDw ho⟩
      · rw [List.take_of_length_le (by omega)] at hmade
        refine hmade.frame (fun b o vs n e1 e e2 => hk₃ b o (fun hw => ?_) e) ⟨_, hl⟩
        obtain ⟨o', vs', z1, z2⟩ := hstF _ _ hstj b hw
        rw [e] at z1; cases z1; rw [e2] at z2; cases z2
  exact codeAny_compStart_list (loop _ rfl) (W.self 0 _ _ _ hst₁ (loop _ rfl))
end
end Mine
end
section
set_option maxRecDepth 100000
namespace Mine
open PySem PyProof.Rows

noncomputable def clL (env : Env) (names : List (Str × NameKind)) (acc : List (Str × Addr)) : List (Str × Addr) :=
  names.foldl (fun acc y => if y.2 == .free then (y.1, (env.cells.lookup y.1).getD 0) :: acc else acc) acc

theorem closure_go {env : Env} : ∀ (names : List (Str × NameKind)) (acc : List (Str × Addr)), (∀ y ∈ names, y.2 = .free → ∃ c, env.cells.lookup y.1 = some c) →
    (forIn names acc fun (x : Str × NameKind) (cs : List (Str × Addr)) => if (x.2 == NameKind.free) = true then (do let a ← cellOf env x.1; pure (ForInStep.yield ((x.1, a) :: cs))) else pure (ForInStep.yield cs) : Sem _) = pure (clL env names acc)
  | [], acc, _ => rfl
  | (n, k) :: r, acc, h => by
    rw [List.forIn_cons]
    have ih := fun acc => closure_go r acc fun y hy => h y (.tail _ hy)
    by_cases hk : (k == NameKind.free) = true
    · obtain ⟨c, hc⟩ := h (n, k) (.head _) (by simpa using hk)
      have e : cellOf env n = pure c := by unfold cellOf; rw [show env.cells.lookup n = some c from hc]
      simp only [hk, if_true, e]
      refine (ih _).trans ?_
      simp only [clL, List.foldl_cons, hk, if_true]
      rw [show env.cells.lookup n = some c from hc]
      rfl
    · simp only [hk]
      refine (ih _).trans ?_
      simp only [clL, List.foldl_cons, hk]
      rfl

theorem closure_ok {env : Env} {scope : Scope} (h : ∀ y ∈ scope.names, y.2 = .free → ∃ c, env.cells.lookup y.1 = some c) : closureFor scope env = pure (clL env scope.names []) := by
  unfold closureFor
  have := closure_go scope.names [] h
  simp only [bind_pure]
  rw [← this]

theorem clL_lookup {env : Env} : ∀ (names : List (Str × NameKind)) (acc : List (Str × Addr)) (y : Str),
    (clL env names acc).lookup y = if names.any (fun z => z.1 == y && z.2 == .free) then some ((env.cells.lookup y).getD 0) else acc.lookup y
  | [], acc, y => by simp [clL]
  | (n, k) :: r, acc, y => by
    have ih := clL_lookup (env := env) r
    simp only [clL, List.foldl_cons] at ih ⊢
    rw [ih]
    simp only [List.any_cons]
    by_cases h1 : (r.any fun z => z.1 == y && z.2 == .free) = true
    · simp [h1]
    · simp only [h1, Bool.or_false, Bool.false_eq_true, if_false]
      by_cases hk : (k == NameKind.free) = true
      · simp only [hk, if_true, Bool.and_true]
        by_cases hn : n = y
        · subst hn; simp [List.lookup_cons]
        · have e1 : (n == y) = false := by simpa using hn
          have e2 : (y == n) = false := by simpa using Ne.symm hn
          simp [List.lookup_cons, e1, e2]
      · simp [hk]

theorem mem_freeNames {sc : Scope} {y : Str} : y ∈ freeNames sc ↔ (y, NameKind.free) ∈ sc.names := by
  unfold freeNames
  constructor
  · intro h
    obtain ⟨⟨n, k⟩, h1, h2⟩ := List.mem_map.mp h
    obtain ⟨h3, h4⟩ := List.mem_filter.mp h1
    simp at h4 h2
    subst h4 h2
    exact h3
  · intro h
    exact List.mem_map.mpr ⟨_, List.mem_filter.mpr ⟨h, by simp⟩, rfl⟩

theorem relabel_kind {env : Env} : ∀ {names : List (Str × NameKind)} {x : Str} {k : NameKind}, names.lookup x = some k →
    (names.map fun (n, k) => if (k == NameKind.free && env.scope.kind == .function && env.kindOf n == some .cell) then (n, NameKind.cell) else (n, k)).lookup x =
      some (if (k == NameKind.free && env.scope.kind == .function && env.kindOf x == some .cell) then NameKind.cell else k)
  | [], _, _, h => by simp at h
  | (n, k) :: r, x, k', h => by
    have ih := @relabel_kind env r x k'
    show List.lookup x ((if (k == NameKind.free && env.scope.kind == .function && env.kindOf n == some .cell) = true then (n, NameKind.cell) else (n, k)) :: _) = _
    cases hx : x == n with
    | true =>
      have hx' := eq_of_beq hx
      subst hx'
      simp only [List.lookup_cons, hx] at h
      cases h
      by_cases hc : (k == NameKind.free && env.scope.kind == .function && env.kindOf x == some .cell) = true
      · rw [if_pos hc, if_pos hc]; simp [List.lookup_cons]
      · rw [if_neg hc, if_neg hc]; simp [List.lookup_cons]
    | false =>
      simp only [List.lookup_cons, hx] at h
      by_cases hc : (k == NameKind.free && env.scope.kind == .function && env.kindOf n == some .cell) = true
      · rw [if_pos hc]; simp only [List.lookup_cons, hx]; exact ih h
      · rw [if_neg hc]; simp only [List.lookup_cons, hx]; exact ih h

structure CompOk (C : Ctx) (x : Str) (sc : Scope) : Prop where
  kind : sc.kind = .function
  cell : ∀ y ∈ sc.names, y.2 ≠ .cell
  names : ∀ y ∈ sc.names, y.2 = .local → sc.names.lookup y.1 = some .local
  loc : sc.names.lookup x = some .local
  free : ∀ y ∈ freeNames sc, y ∈ C.cn ∧ (y == ("__classdict__" : Str)) = false ∧ sc.names.lookup y = some .free
  apart : x ∉ freeNames sc
theorem CompOk.of {C : Ctx} {x : Str} {sc : Scope} (h : compOk C x sc = true) : CompOk C x sc := by
  unfold compOk at h
  simp only [Bool.and_eq_true, List.all_eq_true, Bool.or_eq_true, bne_iff_ne, beq_iff_eq, List.contains_iff_mem, Bool.not_eq_true', ne_eq] at h
  obtain ⟨⟨⟨⟨⟨h1, h2⟩, h3⟩, h4⟩, h5⟩, h6⟩ := h
  refine ⟨h1, h2, fun y hy e => (h3 y hy).resolve_left (fun q => q e), h4, fun y hy => ?_, ?_⟩
  · obtain ⟨⟨a, b⟩, c⟩ := h5 y hy
    exact ⟨a, by simpa using b, c⟩
  · simpa using h6

theorem comp_closure {C : Ctx} {x : Str} {sc : Scope} {env : Env} {γ : Env'} {F : Addr → Prop} {h : Heap} (c : CompOk C x sc) (e : EnvOK C env γ F h) : closureFor sc env = pure (clL env sc.names []) :=
  closure_ok fun y hy hk => e.cells y.1 (c.free y.1 (mem_freeNames.mpr (by obtain ⟨n, k⟩ := y; simp at hk; subst hk; exact hy))).1

theorem cl_free {C : Ctx} {x : Str} {sc : Scope} {env : Env} {γ : Env'} {F : Addr → Prop} {h : Heap} (c : CompOk C x sc) (e : EnvOK C env γ F h) {y : Str} (hy : y ∈ freeNames sc) : (clL env sc.names []).lookup y = env.cells.lookup y := by
  rw [clL_lookup, if_pos]
  · obtain ⟨a, ha⟩ := e.cells y (c.free y hy).1
    rw [ha]; rfl
  · rw [List.any_eq_true]
    exact ⟨_, mem_freeNames.mp hy, by simp⟩
theorem cl_not {sc : Scope} {env : Env} {y : Str} (hy : y ∉ freeNames sc) : (clL env sc.names []).lookup y = none := by
  rw [clL_lookup, if_neg]
  · rfl
  · rw [List.any_eq_true]
    rintro ⟨⟨n, k⟩, h1, h2⟩
    simp at h2
    obtain ⟨rfl, rfl⟩ := h2
    exact hy (mem_freeNames.mpr h1)

theorem comp_env {C : Ctx} {x : Str} {sc : Scope} {env : Env} {γ : Env'} {F F' : Addr → Prop} {h h₃ : Heap} {Cc : Addr} {m₃ : Str → Option Value} {v : Value} {d : PyData} (c : CompOk C x sc) (e : EnvOK C env γ F h)
    (hns : h₃.Ns Cc m₃) (hx : m₃ x = some v) (rd : RD h₃ F' v d) (hk : KeepsH h h₃) (hF : ∀ a, F' a → F a ∨ h.get? a = none) :
    EnvOK (compCtx C x sc) (compEnvC sc (clL env sc.names []) Cc env) (.pl d :: γ) F' h₃ := by
  refine ⟨c.kind, fun y hy => ?_, e.gl, e.bl, fun y hy => ?_, fun i y d' h1 h2 => ?_⟩
  · have hy' : sc.names.lookup y = some .globalImplicit := by simpa [Ctx.glob, compCtx] using hy
    show (relabel sc env).names.lookup y = _
    unfold relabel
    rw [relabel_kind hy']
    rfl
  · have hy' : y ∈ freeNames sc := hy
    obtain ⟨a, ha⟩ := e.cells y (c.free y hy').1
    exact ⟨a, by show (clL env sc.names []).lookup y = _; rw [cl_free c e hy', ha]⟩
  · cases i with
    | zero =>
      simp [compCtx] at h1 h2
      subst h1 h2
      refine ⟨v, .inl ⟨lookup_relabel_local c.loc, cl_not c.apart, m₃, hns, hx⟩, rd⟩
    | succ i =>
      simp only [compCtx, List.getElem?_cons_succ, List.getElem?_map, Option.map_eq_some_iff] at h1 h2
      obtain ⟨n, h3, h4⟩ := h1
      obtain ⟨rfl, h5⟩ := Option.filter_eq_some_iff.mp h4
      simp only [Bool.and_eq_true, List.contains_iff_mem, bne_iff_ne, ne_eq] at h5
      obtain ⟨u, hu, ru⟩ := e.slots i y d' h3 h2
      refine ⟨u, .inr ?_, (ru.weak hF).keeps hk⟩
      have hf := c.free y h5.1
      have hc : ∃ a, env.cells.lookup y = some a ∧ h.IsCell a (some u) := by
        rcases hu with ⟨_, q, _⟩ | ⟨_, a, q1, q2⟩
        · obtain ⟨a, ha⟩ := e.cells y hf.1
          rw [q] at ha; cases ha
        · exact ⟨a, q1, q2⟩
      obtain ⟨a, q1, q2⟩ := hc
      refine ⟨?_, a, by show (clL env sc.names []).lookup y = _; rw [cl_free c e h5.1, q1], q2.keeps hk⟩
      show (relabel sc env).names.lookup y = _ ∨ (relabel sc env).names.lookup y = _ ∧ _
      unfold relabel
      rw [relabel_kind hf.2.2]
      by_cases hq : (NameKind.free == NameKind.free && env.scope.kind == .function && env.kindOf y == some .cell) = true
      · rw [if_pos hq]; exact .inl rfl
      · rw [if_neg hq]; exact .inr ⟨rfl, hf.2.1⟩
end Mine
end
section
set_option maxRecDepth 100000
namespace Mine
open PySem PyProof.Rows

abbrev EPost (F : Addr → Prop) (s : Shared) (r : PyData × Nat) (Q : Value → Shared → Prop) : Prop := ∀ v s', Keeps s s' → Val F s.heap s'.heap v r → Q v s'

theorem star_of {C : Ctx} {e : PySem.Expr} {pe : PE} (h : cE C e = some pe) (r : List PySem.Expr) (env : Env) : starEach (e :: r) env = (false, eval e env) :: starEach r env := by
  cases e <;> first | rfl | cases h

theorem folded_of {C : Ctx} {e : PySem.Expr} {pi : PI} (h : cI C e = some pi) (env : Env) (x : Value) : foldedSetIterable e env x = pure x := by
  cases e <;> first | rfl | cases h

theorem bind_some {α β : Type} {x : Option α} {f : α → Option β} {r : β} (h : x.bind f = some r) : ∃ a, x = some a ∧ f a = some r := Option.bind_eq_some_iff.mp h

section
variable {G : GCtx} {Φ : Funs} {k : Nat}

theorem slot_ns {C : Ctx} {x : Str} {i : Nat} (h : C.slot x = some i) : C.ns[i]? = some (some x) := by
  unfold Ctx.slot at h
  obtain ⟨hlt, hp, -⟩ := List.findIdx?_eq_some_iff_getElem.mp h
  rw [List.getElem?_eq_getElem hlt]
  simp at hp
  rw [hp]

theorem var_of {γ : Env'} {i : Nat} {r : PyData × Nat} (h : evE Φ γ (.var i) = some r) : ∃ d, γ[i]? = some (.pl d) ∧ r = (d, 0) := by
  have h : (match γ[i]? with | some (.pl d) => some (d, 0) | _ => none) = some r := h
  cases q : γ[i]? with
  | none => rw [q] at h; cases h
  | some sl =>
    rw [q] at h
    cases sl with
    | pl d => cases h; exact ⟨d, rfl, rfl⟩
    | _ => cases h
theorem sndName {C : Ctx} {x : Str} {pos : Pos} {pe : PE} (h : cName C x = some pe) {γ : Env'} {A : Around} {env : Env} {F : Addr → Prop} {s : Shared} {r : PyData × Nat} {Q E : Value → Shared → Prop}
    (hH : H G Φ k C γ A env F s) (he : evE Φ γ pe = some r) (hQ : EPost F s r Q) : wpAny (model G.prog G.w) A (eval (.Name x pos) env) Q E s := by
  unfold cName at h
  split at h
  · cases h
  rename_i hd
  have hd : (x == ("__debug__" : Str)) = false := by simpa using hd
  split at h
  · rename_i i hi
    cases h
    obtain ⟨d, hd', rfl⟩ := var_of he
    obtain ⟨v, hv, rv⟩ := hH.env.slots i x d (slot_ns hi) hd'
    exact name_has hH.env.kind hv (hQ _ _ (Keeps.refl s) (.of rv)) hd
  · split at h
    · rename_i hg
      obtain ⟨d, hd', rfl⟩ := Option.map_eq_some_iff.mp h
      cases he
      rw [hH.cg.cons] at hd'
      obtain ⟨v, hv, rv⟩ := hH.g.con x d hd'
      exact name_glob hH hg hv (hQ _ _ (Keeps.refl s) (.of ((rv F).keeps hH.ok.kb))) hd
    · cases h

theorem sndConst {C : Ctx} {c : Const} {kk : Nat} {pos : Pos} {d : PyData} (h : cConst c = some d) {γ : Env'} {A : Around} {env : Env} {F : Addr → Prop} {s : Shared} {Q E : Value → Shared → Prop}
    (_hH : H G Φ k C γ A env F s) (hQ : EPost F s (d, 0) Q) : wpAny (model G.prog G.w) A (eval (.Constant c kk pos) env) Q E s := by
  cases c <;> simp only [cConst] at h <;> try cases h
  · exact wpAny_Constant_none (hQ _ _ (Keeps.refl s) (.of .none))
  · exact wpAny_Constant_bool (hQ _ _ (Keeps.refl s) (.of (.bool _)))
  · exact wpAny_Constant_int (hQ _ _ (Keeps.tok _ _) (.of (.int _ _)))
  · split at h <;> cases h
    exact Calls.Constant_str (hQ _ _ (Keeps.tok _ _) (.of (.str _ _)))
end
end Mine
end
section
set_option maxRecDepth 100000
namespace Mine
open PySem PyProof.Rows

section
variable {prog : Program} {w : World} {A : Around} {F : Addr → Prop} {s : Shared} {Q E : Value → Shared → Prop}
theorem slice_sound {x lo hi : PyData} {r : PyData × Nat} (hr : slD x lo hi = some r) {a vl vu : Value} (ra : RD s.heap F a x) (rl : RD s.heap F vl lo) (rh : RD s.heap F vu hi) (al : Alloc F s.heap)
    (h : ∀ v s', Keeps s s' → Val F s.heap s'.heap v r → Q v s') :
    ∃ l items lo hi, a = .ref l ∧ s.heap.IsList l items ∧ items.size ≤ sizeLine ∧ IsPart vl lo ∧ IsPart vu hi ∧
        Q (.ref (s.heap.objs.size + 1)) { s with heap := (s.heap.push { cls := .type "slice", data := .fields #[vl, vu, .none] }).push { cls := .type "list", data := .seq (slicePick items lo hi none) } } := by
  cases x with
  | list xs =>
    simp only [slD] at hr
    obtain ⟨pl, h1, hr⟩ := bind_some hr
    obtain ⟨ph, h2, hr⟩ := bind_some hr
    split at hr
    · rename_i hsz
      obtain ⟨l, vs, rfl, hl, -, rvs⟩ := ra.list_inv
      have e := rvs.length
      simp only [Array.length_toList] at e
      have part : ∀ {v : Value} {d : PyData} {p : Option Nat}, RD s.heap F v d → slBound d = some p → IsPart v (p.map fun n => (n : Int)) := by
        intro v d p rd hp
        cases d with
        | none => cases hp; rw [rd.none_inv]; exact .none
        | int i =>
          simp only [slBound] at hp
          split at hp <;> cases hp
          rename_i hi
          simp only [Bool.and_eq_true, decide_eq_true_eq] at hi
          obtain ⟨t, rfl⟩ := rd.int_inv
          show IsPart _ (some (i.toNat : Int))
          rw [Int.toNat_of_nonneg hi.1]
          exact .int _ _
        | _ => cases hp
      refine ⟨l, vs, _, _, rfl, hl.isList, lenLim_size (by omega), part rl h1, part rh h2, h _ _ ⟨_, _, rfl, fun _ _ e => Heap.get?_push_of_some _ (Heap.get?_push_of_some _ e)⟩ ?_⟩
      have go : ∀ {ws : List Value} {ys : List PyData}, slicePick vs (pl.map fun n => (n : Int)) (ph.map fun n => (n : Int)) none = ws.toArray → RDs s.heap F ws ys → r = (.list ys, 1) →
          Val F s.heap ((s.heap.push { cls := .type "slice", data := .fields #[vl, vu, .none] }).push { cls := .type "list", data := .seq (slicePick vs (pl.map fun n => (n : Int)) (ph.map fun n => (n : Int)) none) }) (.ref (s.heap.objs.size + 1)) r := by
        intro ws ys e1 e2 e3
        subst e3
        rw [e1]
        have k1 : KeepsH s.heap (s.heap.push { cls := .type "slice", data := .fields #[vl, vu, .none] }) := fun _ _ e => Heap.get?_push_of_some _ e
        have := Val.pushList (al.keeps k1) (e2.keeps k1)
        rw [Heap.size_push] at this
        exact this.back k1
      cases pl with
      | none =>
        cases ph with
        | none => cases hr; exact go (ws := vs.toList) (by show slicePick vs none none none = _; rw [slicePick_all]) rvs rfl
        | some b => cases hr; exact go (ws := vs.toList.take b) (slicePick_upto' vs b) (rvs.take b) rfl
      | some a =>
        cases ph with
        | none => cases hr; exact go (ws := vs.toList.drop a) (slicePick_from' vs a) (rvs.drop a) rfl
        | some b => cases hr
    · cases hr
  | _ => cases hr
end
end Mine
end
section
set_option maxRecDepth 100000
namespace Mine
open PySem PyProof.Rows

section
variable {G : GCtx} {Φ : Funs} {k : Nat}

theorem fn_of {C : Ctx} {f : Str} {j : Nat} (h : C.fn f = some j) : C.glob f = true ∧ (f == ("__debug__" : Str)) = false ∧ C.fns[j]? = some f := by
  unfold Ctx.fn at h
  split at h
  · rename_i hg
    obtain ⟨hlt, hp, -⟩ := List.findIdx?_eq_some_iff_getElem.mp h
    simp only [Bool.and_eq_true] at hg
    refine ⟨hg.1, by simpa using hg.2, ?_⟩
    rw [List.getElem?_eq_getElem hlt]
    simp at hp
    rw [hp]
  · cases h

/-- a call of an own def, its arguments laid -/
theorem call_fn {C : Ctx} {f : Str} {j : Nat} {γ : Env'} {A : Around} {env : Env} {F : Addr → Prop} {s : Shared} (hf : C.fn f = some j) (hH : H G Φ k C γ A env F s) :
    ∃ a o fd, G.mg f = some (.ref a) ∧ G.hB.get? a = some o ∧ o.data = .func fd ∧
      ∀ (s₁ : Shared) (vs : List Value) (xs : List PyData) (out : Out) (Q E : Value → Shared → Prop), Keeps s s₁ → RDs s₁.heap F vs xs → Φ j xs = some out →
        (∀ d l, out = .ret d l → ∀ v s', Keeps s₁ s' → Val F s₁.heap s'.heap v (d, l) → Q v s') → (∀ c, out = .exc c → ∀ e s', ExcPost G A c e s₁ s' → E e s') →
        wpAny (model G.prog G.w) A (call (.ref a) vs) Q E s₁ := by
  obtain ⟨_, _, hj⟩ := fn_of hf
  rw [hH.cg.fns, List.getElem?_map] at hj
  obtain ⟨pf, hpf, hn⟩ := Option.map_eq_some_iff.mp hj
  obtain ⟨a, o, fd, h1, h2, h3⟩ := hH.g.fn j pf hpf
  rw [hn] at h1
  refine ⟨a, o, fd, h1, h2, h3, fun s₁ vs xs out Q E hk hr hΦ hQ hE => ?_⟩
  obtain ⟨hlt, real⟩ := hH.real j xs out hΦ
  have hH' := hH.keeps hk
  have ok : Ok G (j + 1) A s₁ := ⟨hH'.ok.hh, by have := hH'.ok.dp; omega, by have := hH'.ok.un; omega, hH'.ok.kb, hH'.ok.fr⟩
  exact real pf a hpf (hn ▸ h1) A s₁ F vs Q E ok hH'.al hr hQ hE

theorem bltin_debug {x : Str} {v : Value} (h : bltin.lookup x = some v) : (x == ("__debug__" : Str)) = false := by
  cases hx : x == ("__debug__" : Str) with
  | false => rfl
  | true =>
    have := eq_of_beq hx
    subst this
    have e : bltin.lookup ("__debug__" : Str) = none := by decide +kernel
    rw [e] at h; cases h

end
end Mine
end
section
set_option maxRecDepth 100000
namespace Mine
open PySem PyProof.Rows

theorem lenLim_eq : lenLim = 1048576 := by decide
theorem okR_of {a b : Int} (h : okR a b = true) : a.natAbs ≤ 1048576 ∧ b.natAbs ≤ 1048576 := by
  unfold okR at h
  simp only [Bool.and_eq_true, decide_eq_true_eq, lenLim_eq] at h
  exact h
theorem small_down {a b : Int} (ha : a.natAbs ≤ 1048576) (hb : b.natAbs ≤ 1048576) : Builtin.Range.small a b (-1) = true := by
  unfold Builtin.Range.small
  rw [rangeSize_down]
  simp only [Builtin.Range.rangeFitsLong, Bool.and_eq_true, Bool.or_eq_true, decide_eq_true_eq, beq_iff_eq, show ¬ ((-1 : Int) > 0) by decide, if_false]
  omega

section
variable {G : GCtx} {Φ : Funs} {k : Nat} {C : Ctx} {γ : Env'} {A : Around} {env : Env} {F : Addr → Prop} {s : Shared} {Q E : Value → Shared → Prop}

theorem Keeps.of_heap {s s' : Shared} {h' : Heap} {tk : Nat} (x : Keeps s s') (hk : KeepsH s.heap h') : Keeps s { s' with heap := h', toks := tk } := by
  obtain ⟨h₁, t₁, rfl, _⟩ := x
  exact ⟨h', tk, rfl, hk⟩

/-- range(b), its argument reckoned -/
theorem iter_r1 {b : Int} {t : Tok} {s₁ : Shared} (hh : A.handled = none) (ok : okR 0 b = true) (hk : Keeps s s₁)
    (h : ∀ I fp wr P St s', Iter G A F (rangeL 0 b) s s' I fp wr P St → Q (.ref I) s') :
    wpAny (model G.prog G.w) A (call (.type "range") [.int b t]) (fun x s₂ => wpAny (model G.prog G.w) A (pyIter x) Q E s₂) E s₁ := by
  obtain ⟨_, h2⟩ := okR_of ok
  refine call_range_1 (iter_range (F := F) (n := b.toNat) (xs := rangeL 0 b) hh ?_ ?_ ?_ (small_one (by omega) (by omega) (by omega) (by omega)) fun I fp wr P St s' it => h I fp wr P St s' ?_)
  · unfold rangeL; simp
  · rw [rangeSize_up]; simp
  · rw [lenLim_eq]; omega
  · exact { it with keeps := Keeps.trans hk it.keeps, new := fun b hb => KeepsH.none (Keeps.heap hk) (it.new b hb) }
theorem iter_r2 {a b : Int} {t u : Tok} {s₁ : Shared} (hh : A.handled = none) (ok : okR a b = true) (hk : Keeps s s₁) (hl : (b - a).toNat ≤ lenLim)
    (h : ∀ I fp wr P St s', Iter G A F (rangeL a b) s s' I fp wr P St → Q (.ref I) s') :
    wpAny (model G.prog G.w) A (call (.type "range") [.int a t, .int b u]) (fun x s₂ => wpAny (model G.prog G.w) A (pyIter x) Q E s₂) E s₁ := by
  obtain ⟨h1, h2⟩ := okR_of ok
  refine call_range_2 (iter_range (F := F) (n := (b - a).toNat) (xs := rangeL a b) hh ?_ (rangeSize_up a b) hl (small_one (by omega) (by omega) (by omega) (by omega)) fun I fp wr P St s' it => h I fp wr P St s' ?_)
  · unfold rangeL; simp
  · exact { it with keeps := Keeps.trans hk it.keeps, new := fun b hb => KeepsH.none (Keeps.heap hk) (it.new b hb) }
theorem iter_r3 {a b : Int} {t u v : Tok} {s₁ : Shared} (hh : A.handled = none) (ok : okR a b = true) (hk : Keeps s s₁) (hl : (a - b).toNat ≤ lenLim)
    (h : ∀ I fp wr P St s', Iter G A F (rangeD a b) s s' I fp wr P St → Q (.ref I) s') :
    wpAny (model G.prog G.w) A (call (.type "range") [.int a t, .int b u, .int (-1) v]) (fun x s₂ => wpAny (model G.prog G.w) A (pyIter x) Q E s₂) E s₁ := by
  obtain ⟨h1, h2⟩ := okR_of ok
  refine call_range_3 (by decide) (iter_range (F := F) (n := (a - b).toNat) (xs := rangeD a b) hh ?_ (rangeSize_down a b) hl (small_down h1 h2) fun I fp wr P St s' it => h I fp wr P St s' ?_) (.inl (PyProof.noPylong_of_log2 (by decide)))
  · unfold rangeD
    apply List.map_congr_left
    intro k _
    congr 1
    omega
  · exact { it with keeps := Keeps.trans hk it.keeps, new := fun b hb => KeepsH.none (Keeps.heap hk) (it.new b hb) }

/-- list(range(b)) -/
theorem list_r1 {b : Int} {t : Tok} {s₁ : Shared} (hh : A.handled = none) (al : Alloc F s.heap) (ok : okR 0 b = true) (hk : Keeps s s₁) (hQ : ∀ v s', Keeps s s' → Val F s.heap s'.heap v (.list (rangeL 0 b), 1) → Q v s') :
    wpAny (model G.prog G.w) A (call (.type "range") [.int b t]) (fun x s₂ => wpAny (model G.prog G.w) A (call (.type "list") [x]) Q E s₂) E s₁ := by
  obtain ⟨_, h2⟩ := okR_of ok
  refine call_range_1 ?_
  refine call_list_range (n := b.toNat) hh (IsRange.new _ _ _ _ _ _ _) (small_one (by omega) (by omega) (by omega) (by omega)) (by rw [rangeSize_up]; simp) (by omega) fun h' tk acc' c' hkk hD hit => ?_
  have k1 : KeepsH s₁.heap h' := fun b o e => hkk b o (Heap.get?_push_of_some _ e)
  have k2 : KeepsH s.heap h' := KeepsH.trans (Keeps.heap hk) k1
  have hn : s₁.heap.get? (s₁.heap.push { cls := .type "range", data := .fields #[.int 0 s₁.toks, .int b t, .int 1 (s₁.toks + 1)] }).objs.size = none := by
    cases e : s₁.heap.get? (s₁.heap.push { cls := .type "range", data := .fields #[.int 0 s₁.toks, .int b t, .int 1 (s₁.toks + 1)] }).objs.size with
    | none => rfl
    | some o => have := Heap.lt_size e; rw [Heap.size_push] at this; exact absurd this (Nat.not_lt.mpr (Nat.le_succ _))
  have hn' := KeepsH.none (Keeps.heap hk) hn
  have rds : ∀ F' : Addr → Prop, RDs h' F' acc'.toList (rangeL 0 b) := fun F' => by
    refine RDs.of_get ?_ fun i v d h1 h2 => ?_
    · rw [Array.length_toList, hit.1]; simp [rangeL]
    · obtain ⟨t', rfl⟩ := hit.2 i v (by simpa using h1)
      unfold rangeL at h2
      simp only [List.getElem?_map, Option.map_eq_some_iff] at h2
      obtain ⟨j, h3, rfl⟩ := h2
      rw [List.getElem?_range (by have := (List.getElem?_eq_some_iff.mp h3).1; simpa using this)] at h3
      cases h3
      have : (0 : Int) + i * 1 = 0 + i := by omega
      rw [this]
      exact .int _ _
  have kk : Keeps s { s₁ with heap := h', toks := tk } := Keeps.of_heap hk k2
  exact hQ _ _ kk ⟨.list ⟨_, hD⟩ (al.fresh hn') (rds F), fun _ => ⟨_, acc', _, rfl, rfl, hn', ⟨_, hD⟩, rds _⟩, fun e => by simp at e⟩
end
end Mine
end
section
set_option maxRecDepth 100000
namespace Mine
open PySem PyProof.Rows

theorem subN (x : Str) (p : Pos) (l i u) : subscripted (.Name x p) false (.ref l) (.int i u) = operate [.ref l, .int i u] (getItem (.ref l) (.int i u)) := by with_unfolding_all rfl
theorem subC (c : Const) (kk : Nat) (p : Pos) (l i u) : subscripted (.Constant c kk p) false (.ref l) (.int i u) = operate [.ref l, .int i u] (getItem (.ref l) (.int i u)) := by with_unfolding_all rfl
theorem subB (a : PySem.Expr) (o : Operator) (b : PySem.Expr) (p : Pos) (l i u) : subscripted (.BinOp a o b p) false (.ref l) (.int i u) = operate [.ref l, .int i u] (getItem (.ref l) (.int i u)) := by with_unfolding_all rfl

section
variable {G : GCtx} {Φ : Funs} {k : Nat}

theorem comp_fin {F : Addr → Prop} {A : Around} {s s₂ : Shared} {xs : List PyData} {rs : List (PyData × Nat)} {I D Cc : Addr} {fp wr : List Addr} {P : Nat → Value → Prop} {St : Nat → Heap → Prop} {h' h'' : Heap} {m' : Str → Option Value} {ys : Array Value} {tk' : Nat}
    (it : Iter G A F xs s s₂ I fp wr P St) (al : Alloc F s.heap) (hD : s₂.heap.get? D = none) (hC : s₂.heap.get? Cc = none) (hDC : D ≠ Cc) (hns : h'.Ns Cc m') (hl : h'.PlainList D ys) (hm : Made F s₂.heap D h' ys.toList rs)
    (hkp : ∀ b o, b ∉ wr → s₂.heap.get? b = some o → h'.get? b = some o) (hs : Heap.SameBut Cc h' h'') :
    Keeps s { s₂ with heap := h'', toks := tk' } ∧ Val F s.heap h'' (.ref D) (.list (rs.map (·.1)), if !rs.isEmpty && rs.all lvl2 then 2 else 1) := by
  have kk : KeepsH s.heap h'' := fun b o e => by
    have e2 := Keeps.heap it.keeps b o e
    exact hs.extBut b o (fun z => by rw [z, hC] at e2; cases e2) (hkp b o (fun hw => by rw [it.new b hw] at e; cases e) e2)
  refine ⟨Keeps.of_heap it.keeps kk, ?_⟩
  have hm' : Made F s₂.heap D h'' ys.toList rs := hm.frame (fun b o vs n _ e e2 => hs.extBut b o (fun z => by
    subst z
    obtain ⟨o', es, ep, z1, z2, _⟩ := hns
    rw [e] at z1; cases z1; rw [e2] at z2; cases z2) e) ⟨_, hl⟩
  exact hm'.val (let ⟨n, ho⟩ := hl; ⟨n, hs.extBut D _ hDC ho⟩) hD (Keeps.heap it.keeps) (al.keeps (Keeps.heap it.keeps))

theorem ifS {α : Type} {c : Prop} [Decidable c] {a b : α} (h : (if c then some a else none) = some b) : c ∧ a = b := by
  split at h
  · rename_i hc; cases h; exact ⟨hc, rfl⟩
  · cases h
theorem one_of {es : PEs} {x : PE} (h : one es = some x) : es = .cons x .nil := by
  unfold one at h
  split at h <;> cases h
  rfl
theorem cEs_one {C : Ctx} {as : List PySem.Expr} {x : PE} (h : cEs C as = some (.cons x .nil)) : ∃ a, as = [a] ∧ cE C a = some x := by
  cases as with
  | nil => cases h
  | cons a r =>
    obtain ⟨p, h1, h⟩ := bind_some h
    obtain ⟨q, h2, h⟩ := bind_some h
    cases h
    cases r with
    | nil => exact ⟨a, rfl, h1⟩
    | cons b r =>
      obtain ⟨p, h1, h2⟩ := bind_some h2
      obtain ⟨q, h3, h2⟩ := bind_some h2
      cases h2
theorem range_name {C : Ctx} {f : PySem.Expr} {ks : List Keyword} (h : isRange C f ks = true) : ∃ p, f = .Name ("range" : Str) p ∧ ks = [] ∧ C.glob ("range" : Str) = true := by
  obtain ⟨h1, h2⟩ := Bool.and_eq_true_iff.mp h
  cases hx : nm f with
  | none => rw [hx] at h2; cases h2
  | some x =>
    rw [hx] at h2
    obtain ⟨h3, _⟩ := Bool.and_eq_true_iff.mp h2
    obtain ⟨h4, h5⟩ := Bool.and_eq_true_iff.mp h3
    have h6 := eq_of_beq h4
    rw [h6] at h5
    exact ⟨x.2, by rw [nm_of hx, h6], List.isEmpty_iff.mp h1, h5⟩
theorem gen1_of {gens : List Comprehension} {x : Str} (h : gen1 gens = some x) : ∃ p iter, gens = [⟨.Name x p, iter, [], 0⟩] := by
  obtain ⟨g, h1, h⟩ := bind_some h
  have hc : (g.ifs.isEmpty && g.is_async == 0) = true ∧ (nm g.target).map (·.1) = some x := by
    split at h
    · exact ⟨by assumption, h⟩
    · cases h
  obtain ⟨h2, h3⟩ := hc
  obtain ⟨y, h4, rfl⟩ := Option.map_eq_some_iff.mp h3
  obtain ⟨h5, h6⟩ := Bool.and_eq_true_iff.mp h2
  rw [oneE_of h1]
  obtain ⟨tg, it, ifs, as⟩ := g
  have := nm_of h4
  have e1 : ifs = [] := List.isEmpty_iff.mp h5
  have e2 : as = 0 := eq_of_beq h6
  exact ⟨y.2, it, by rw [show tg = _ from this, e1, e2]⟩
theorem cEs_cons {C : Ctx} {as : List PySem.Expr} {x : PE} {r : PEs} (h : cEs C as = some (.cons x r)) : ∃ a bs, as = a :: bs ∧ cE C a = some x ∧ cEs C bs = some r := by
  cases as with
  | nil => cases h
  | cons a bs =>
    obtain ⟨p, h1, h⟩ := bind_some h
    obtain ⟨q, h2, h⟩ := bind_some h
    cases h
    exact ⟨a, bs, rfl, h1, h2⟩
theorem cEs_nil {C : Ctx} {as : List PySem.Expr} (h : cEs C as = some .nil) : as = [] := by
  cases as with
  | nil => rfl
  | cons a bs =>
    obtain ⟨p, h1, h⟩ := bind_some h
    obtain ⟨q, h2, h⟩ := bind_some h
    cases h
theorem backTo_cons (pos : Pos) (x : Sem Value) (r : List (Bool × Sem Value)) : backTo pos ((false, x) :: r) = (false, x) :: backTo pos r := rfl

theorem stars_plain {C : Ctx} {env : Env} {pos : Pos} : ∀ {as : List PySem.Expr} {ps : PEs}, cEs C as = some ps → (backTo pos (starEach as env)).any (·.1) = false
  | [], _, _ => rfl
  | a :: r, ps, h => by
    obtain ⟨p, h1, h⟩ := bind_some h
    obtain ⟨q, h2, h⟩ := bind_some h
    rw [star_of h1, backTo_cons]
    simpa using stars_plain h2
theorem args_of {C : Ctx} {env : Env} {pos : Pos} {f : Value} {as : List PySem.Expr} {ps : PEs} (h : cEs C as = some ps) (hne : as.isEmpty = false) {A : Around} {s : Shared} {Q : Args → Shared → Prop} {E : Value → Shared → Prop}
    (hs : wpAny (model G.prog G.w) A (spliced (backTo pos (starEach as env))) (fun vs s' => Q ⟨vs, []⟩ s') E s) : wpAny (model G.prog G.w) A (evalArgs f true (backTo pos (starEach as env)) []) Q E s := by
  cases as with
  | nil => cases hne
  | cons a r =>
    obtain ⟨p, h1, h⟩ := bind_some h
    rw [star_of h1, backTo_cons] at hs ⊢
    exact Calls.evalArgs_plain hs

theorem slice_any {A : Around} {s : Shared} {Q E : Value → Shared → Prop} {env : Env} {value : PySem.Expr} {lower upper : Option PySem.Expr} {p pos : Pos}
    (h : wpAny (model G.prog G.w) A (eval value env) (fun o s₁ => wpAny (model G.prog G.w) A (evalPart lower env) (fun vl s₂ => wpAny (model G.prog G.w) A (evalPart upper env) (fun vu s₃ =>
      ∃ l items lo hi, o = .ref l ∧ s₃.heap.IsList l items ∧ items.size ≤ sizeLine ∧ IsPart vl lo ∧ IsPart vu hi ∧
        Q (.ref (s₃.heap.objs.size + 1)) { s₃ with heap := (s₃.heap.push { cls := .type "slice", data := .fields #[vl, vu, .none] }).push { cls := .type "list", data := .seq (slicePick items lo hi none) } }) E s₂) E s₁) E s) :
    wpAny (model G.prog G.w) A (eval (.Subscript value (.Slice lower upper none p) pos) env) Q E s := by
  refine Subscript_ (wpAny_mono h (fun o s₁ h₁ => wpAny_Slice (wpAny_mono h₁ (fun vl s₂ h₂ => wpAny_mono h₂ (fun vu s₃ h₃ => ?_) fun _ _ e => e) fun _ _ e => e)) fun _ _ e => e)
  obtain ⟨l, items, lo, hi, rfl, hl, hsz, pl, pu, hQ⟩ := h₃
  rw [evalPart_none]
  refine wpAny_pure (tail_any (ops := [.ref s₃.heap.objs.size, .ref l]) (hl.push _).typeIs slot_list_getitem.lookup (wpAny_getItem_list_slice (hl.push _) (Heap.IsSliceOf.new ..) pl pu .none (by simp) ?_ hsz) (by with_unfolding_all rfl))
  rw [Heap.size_push]
  exact hQ

theorem callee_of {C : Ctx} {pos : Pos} {f : PySem.Expr} {ks : List Keyword} {c : Callee} (h : callee C pos f ks = some c) :
    ks = [] ∧ ((∃ x p j, f = .Name x p ∧ c = .fn j ∧ C.fn x = some j) ∨ (∃ p, f = .Name ("len" : Str) p ∧ c = .blt .len ∧ C.glob ("len" : Str) = true) ∨ (∃ p, f = .Name ("abs" : Str) p ∧ c = .blt .abs ∧ C.glob ("abs" : Str) = true) ∨
      (∃ p, f = .Name ("str" : Str) p ∧ c = .blt .str ∧ C.glob ("str" : Str) = true) ∨ (∃ p, f = .Name ("list" : Str) p ∧ c = .lst ∧ C.glob ("list" : Str) = true) ∨
      (∃ o po ap x, f = .Attribute (.Name o po) ("index" : Str) ap ∧ (ap.endLine == pos.line) = true ∧ c = .idx x ∧ cName C o = some x)) := by
  have h0 : ks.isEmpty = true ∧ (match nm f with
    | some x => callee1 C x.1
    | none => (attOf f).bind fun a => (nm a.1).bind fun o => if a.2.1 == ("index" : Str) && a.2.2.endLine == pos.line then (cName C o.1).map Callee.idx else none) = some c := by
    unfold callee at h
    split at h
    · exact ⟨by assumption, h⟩
    · cases h
  obtain ⟨hk, h⟩ := h0
  refine ⟨List.isEmpty_iff.mp hk, ?_⟩
  cases hx : nm f with
  | some x =>
    rw [hx] at h
    rw [nm_of hx]
    obtain ⟨x, p⟩ := x
    unfold callee1 at h
    cases hj : C.fn x with
    | some j => simp only [hj] at h; cases h; exact .inl ⟨_, _, _, rfl, rfl, hj⟩
    | none =>
      simp only [hj] at h
      have key : C.glob x = true ∧ ((x = ("len" : Str) ∧ c = .blt .len) ∨ (x = ("abs" : Str) ∧ c = .blt .abs) ∨ (x = ("str" : Str) ∧ c = .blt .str) ∨ (x = ("list" : Str) ∧ c = .lst)) := by
        split at h
        case isFalse => cases h
        rename_i hg
        refine ⟨hg, ?_⟩
        split at h
        · rename_i hf; cases h; exact .inl ⟨eq_of_beq hf, rfl⟩
        · split at h
          · rename_i hf; cases h; exact .inr (.inl ⟨eq_of_beq hf, rfl⟩)
          · split at h
            · rename_i hf; cases h; exact .inr (.inr (.inl ⟨eq_of_beq hf, rfl⟩))
            · split at h
              · rename_i hf; cases h; exact .inr (.inr (.inr ⟨eq_of_beq hf, rfl⟩))
              · cases h
      obtain ⟨hg, ⟨rfl, rfl⟩ | ⟨rfl, rfl⟩ | ⟨rfl, rfl⟩ | ⟨rfl, rfl⟩⟩ := key
      · exact .inr (.inl ⟨p, rfl, rfl, hg⟩)
      · exact .inr (.inr (.inl ⟨p, rfl, rfl, hg⟩))
      · exact .inr (.inr (.inr (.inl ⟨p, rfl, rfl, hg⟩)))
      · exact .inr (.inr (.inr (.inr (.inl ⟨p, rfl, rfl, hg⟩))))
  | none =>
    rw [hx] at h
    obtain ⟨a, h1, h⟩ := bind_some h
    obtain ⟨o, h2, h⟩ := bind_some h
    have hc : (a.2.1 == ("index" : Str) && a.2.2.endLine == pos.line) = true ∧ (cName C o.1).map Callee.idx = some c := by
      split at h
      · exact ⟨by assumption, h⟩
      · cases h
    obtain ⟨h3, h⟩ := hc
    obtain ⟨h4, h5⟩ := Bool.and_eq_true_iff.mp h3
    obtain ⟨x, h6, rfl⟩ := Option.map_eq_some_iff.mp h
    refine .inr (.inr (.inr (.inr (.inr ⟨o.1, o.2, a.2.2, x, ?_, h5, rfl, h6⟩))))
    rw [attOf_of h1, nm_of h2, eq_of_beq h4]

theorem cR_star {C : Ctx} {e : PySem.Expr} {pi : PI} (h : cR C e = some pi) {env : Env} : starEach [e] env = [(false, eval e env)] := by
  cases e <;> first | rfl | cases h
theorem cRs_tree {C : Ctx} {as : List PySem.Expr} {pi : PI} (h : cRs C as = some pi) (env : Env) (pos : Pos) : ∃ t, backTo pos (starEach as env) = [(false, t)] := by
  cases as with
  | nil => cases h
  | cons e r =>
    cases r with
    | nil => rw [cR_star (show cR C e = some pi from h)]; exact ⟨_, rfl⟩
    | cons => cases h

/-- the words of a call: what is called, then the call -/
theorem name_call {f : Str} {p pos : Pos} {args : List PySem.Expr} {A : Around} {env : Env} {s : Shared} {Q E : Value → Shared → Prop}
    (h : wpAny (model G.prog G.w) A (eval (.Name f p) env) (fun f s₁ => wpAny (model G.prog G.w) A (callWith pos f [] (backTo pos (starEach args env)) []) Q E s₁) E s) :
    wpAny (model G.prog G.w) A (eval (.Call (.Name f p) args [] pos) env) Q E s := wpAny_Call_NameR h

theorem ifB {α : Type} {c : Prop} [Decidable c] {x : Option α} {r : α} (h : (if c then x else none) = some r) : c ∧ x = some r := by
  split at h
  · exact ⟨by assumption, h⟩
  · cases h
/-- e is followed -/
noncomputable def SndE (G : GCtx) (Φ : Funs) (k : Nat) (e : PySem.Expr) : Prop := ∀ (C : Ctx) (pe : PE), cE C e = some pe → ∀ {γ : Env'} {A : Around} {env : Env} {F : Addr → Prop} {s : Shared} {r : PyData × Nat} {Q E : Value → Shared → Prop},
    H G Φ k C γ A env F s → evE Φ γ pe = some r → EPost F s r Q → wpAny (model G.prog G.w) A (eval e env) Q E s
theorem sE_none {e : PySem.Expr} (h : ∀ C, cE C e = none) : SndE G Φ k e := fun C pe h' => by rw [h C] at h'; cases h'

theorem sndEs (es : List PySem.Expr) (ih : ∀ e ∈ es, SndE G Φ k e) (C : Ctx) (ps : PEs) (h : cEs C es = some ps) (pos : Pos) {γ : Env'} {A : Around} {env : Env} {F : Addr → Prop} {s : Shared} {xs : List PyData} {Q : List Value → Shared → Prop} {E : Value → Shared → Prop}
    (hH : H G Φ k C γ A env F s) (he : evEs Φ γ ps = some xs) (hQ : ∀ vs s', Keeps s s' → vs.length = es.length → RDs s'.heap F vs xs → Q vs s') : wpAny (model G.prog G.w) A (spliced (backTo pos (starEach es env))) Q E s := by
  induction es generalizing ps xs s Q with
  | nil =>
    cases h
    cases he
    exact Calls.spliced_nil (hQ _ _ (Keeps.refl s) rfl .nil)
  | cons e r ihr =>
    obtain ⟨a, h1, h⟩ := bind_some h
    obtain ⟨b, h2, h⟩ := bind_some h
    cases h
    obtain ⟨x, e1, he⟩ := bind_some he
    obtain ⟨ys, e2, he⟩ := bind_some he
    cases he
    rw [star_of h1]
    exact Calls.spliced_cons (ih e (.head _) C a h1 hH e1 fun v s₁ k1 v1 => ihr (fun x hx => ih x (.tail _ hx)) b h2 (hH.keeps k1) e2 fun vs s₂ k2 hl r2 => hQ _ _ (Keeps.trans k1 k2) (by simp [hl]) (.cons (v1.1.keeps (Keeps.heap k2)) r2))
theorem sndEo (e : Option PySem.Expr) (ih : ∀ x, e = some x → SndE G Φ k x) (C : Ctx) (pe : PE) (h : cEo C e = some pe) {γ : Env'} {A : Around} {env : Env} {F : Addr → Prop} {s : Shared} {r : PyData × Nat} {Q E : Value → Shared → Prop}
    (hH : H G Φ k C γ A env F s) (he : evE Φ γ pe = some r) (hQ : EPost F s r Q) : wpAny (model G.prog G.w) A (evalPart e env) Q E s := by
  cases e with
  | none =>
    cases h
    cases he
    exact wpAny_evalPart_none (hQ _ _ (Keeps.refl s) (.of .none))
  | some e => exact wpAny_evalPart_some (ih e rfl C pe h hH he hQ)

theorem bnd' {α β : Type} {x : Option α} {a : α} {g : α → Option β} {b : Option β} (h : x = some a) (hb : g a = b) : x.bind g = b := by rw [h]; exact hb
theorem es2 {γ : Env'} {x y : PE} {a b : PyData × Nat} (h1 : evE Φ γ x = some a) (h2 : evE Φ γ y = some b) : evEs Φ γ (.cons x (.cons y .nil)) = some [a.1, b.1] := bnd' h1 (bnd' (x := (evE Φ γ y).bind _) (bnd' h2 rfl) rfl)
theorem es3 {γ : Env'} {x y z : PE} {a b c : PyData × Nat} (h1 : evE Φ γ x = some a) (h2 : evE Φ γ y = some b) (h3 : evE Φ γ z = some c) : evEs Φ γ (.cons x (.cons y (.cons z .nil))) = some [a.1, b.1, c.1] := bnd' h1 (bnd' (es2 h2 h3) rfl)
theorem intD_of {d : PyData} {i : Int} (h : intD d = some i) : d = .int i := by
  cases d with
  | int j => cases h; rfl
  | _ => cases h
/-- an argument list of one place -/
theorem sndOne {as : List PySem.Expr} (ih : ∀ e ∈ as, SndE G Φ k e) {C : Ctx} {x : PE} (h : cEs C as = some (.cons x .nil)) (pos : Pos) {γ : Env'} {A : Around} {env : Env} {F : Addr → Prop} {s : Shared} {r : PyData × Nat} {Q : List Value → Shared → Prop} {E : Value → Shared → Prop}
    (hH : H G Φ k C γ A env F s) (he : evE Φ γ x = some r) (hQ : ∀ v s', Keeps s s' → RD s'.heap F v r.1 → Q [v] s') : wpAny (model G.prog G.w) A (spliced (backTo pos (starEach as env))) Q E s := by
  refine sndEs as ih C _ h pos hH (xs := [r.1]) ?_ fun vs s₁ k1 _ r1 => ?_
  · show (evE Φ γ x).bind _ = _
    rw [he]; rfl
  · cases r1 with | cons v1 r1 => cases r1; exact hQ _ _ k1 v1
theorem arg_ne {C : Ctx} {as : List PySem.Expr} {x : PE} {r : PEs} (h : cEs C as = some (.cons x r)) : as.isEmpty = false := by
  obtain ⟨a, bs, rfl, _, _⟩ := cEs_cons h
  rfl

theorem cR_of {C : Ctx} {e : PySem.Expr} {pi : PI} (h : cR C e = some pi) : ∃ p as pos es, e = .Call (.Name ("range" : Str) p) as [] pos ∧ C.glob ("range" : Str) = true ∧ cEs C as = some es ∧ rOf es = some pi := by
  cases e with
  | Call f as ks pos =>
    obtain ⟨hr, h3⟩ := ifB (show (if isRange C f ks then (cEs C as).bind fun es => rOf es else none) = some pi from h)
    obtain ⟨es, h1, h4⟩ := bind_some h3
    obtain ⟨p, rfl, rfl, hg⟩ := range_name hr
    exact ⟨p, as, pos, es, rfl, hg, h1, h4⟩
  | _ => cases h
theorem rOf_of {es : PEs} {pi : PI} (h : rOf es = some pi) : (∃ x, es = .cons x .nil ∧ pi = .r1 x) ∨ (∃ x y, es = .cons x (.cons y .nil) ∧ pi = .r2 x y) ∨ ∃ x y z, es = .cons x (.cons y (.cons z .nil)) ∧ pi = .r3 x y z := by
  cases es with
  | nil => cases h
  | cons x es => cases es with
    | nil => cases h; exact .inl ⟨x, rfl, rfl⟩
    | cons y es => cases es with
      | nil => cases h; exact .inr (.inl ⟨x, y, rfl, rfl⟩)
      | cons z es => cases es with
        | nil => cases h; exact .inr (.inr ⟨x, y, z, rfl, rfl⟩)
        | cons => cases h

theorem sndLs (as : List PySem.Expr) (C : Ctx) (x : PE) (h : cRs C as = some (.r1 x)) (ih : ∀ p bs pos, as = [.Call (.Name ("range" : Str) p) bs [] pos] → ∀ b ∈ bs, SndE G Φ k b) (pos : Pos) {γ : Env'} {A : Around} {env : Env} {F : Addr → Prop} {s : Shared} {y : PyData × Nat} {Q : List Value → Shared → Prop} {E : Value → Shared → Prop}
    (hH : H G Φ k C γ A env F s) (he : evE Φ γ x = some y) (hQ : ∀ v s₁, Keeps s s₁ → RD s₁.heap F v y.1 → wpAny (model G.prog G.w) A (call (.type "range") [v]) (fun u s' => Q [u] s') E s₁) :
    wpAny (model G.prog G.w) A (spliced (backTo pos (starEach as env))) Q E s := by
  cases as with
  | nil => cases h
  | cons e r =>
    have h : (if r.isEmpty then cR C e else none) = some (.r1 x) := h
    split at h
    case isFalse => cases h
    rename_i hr
    have hr := List.isEmpty_iff.mp hr
    subst hr
    rw [cR_star h]
    refine Calls.spliced_cons (Q := Q) ?_
    obtain ⟨p, bs, pos', es, rfl, hg, h1, h2⟩ := cR_of h
    rcases rOf_of h2 with ⟨x', rfl, e⟩ | ⟨_, _, rfl, e⟩ | ⟨_, _, _, rfl, e⟩ <;> cases e
    refine name_call (name_blt hH hg (v := .type "range") (by decide +kernel) ?_ (by decide +kernel))
    refine PySem.callWith_type (stars_plain h1) (args_of h1 (arg_ne h1) (sndOne (ih p bs pos' rfl) h1 pos' hH he fun v s₁ k1 v1 => ?_))
    exact wpAny_mono (hQ v s₁ k1 v1) (fun u s' q => Calls.spliced_nil q) fun _ _ q => q

theorem sndR (e : PySem.Expr) (C : Ctx) (pi : PI) (h : cR C e = some pi) (ih : ∀ p bs pos, e = .Call (.Name ("range" : Str) p) bs [] pos → ∀ b ∈ bs, SndE G Φ k b) {γ : Env'} {A : Around} {env : Env} {F : Addr → Prop} {s : Shared} {xs : List PyData} {Q E : Value → Shared → Prop}
    (hH : H G Φ k C γ A env F s) (he : evI Φ γ pi = some xs) (hQ : ∀ I fp wr P St s', Iter G A F xs s s' I fp wr P St → Q (.ref I) s') :
    wpAny (model G.prog G.w) A (eval e env) (fun x s₁ => wpAny (model G.prog G.w) A (pyIter x) Q E s₁) E s := by
  obtain ⟨p, as, pos, es, rfl, hg, h1, h2⟩ := cR_of h
  have ih := ih p as pos rfl
  refine name_call (name_blt hH hg (v := .type "range") (by decide +kernel) ?_ (by decide +kernel))
  rcases rOf_of h2 with ⟨x, rfl, rfl⟩ | ⟨x, y, rfl, rfl⟩ | ⟨x, y, z, rfl, rfl⟩
  · refine PySem.callWith_type (stars_plain h1) (args_of h1 (arg_ne h1) ?_)
    obtain ⟨y, e1, he⟩ := bind_some he
    obtain ⟨j, e2, he⟩ := bind_some he
    obtain ⟨ok, he⟩ := ifS he
    cases he
    refine sndOne ih h1 pos hH e1 fun v s₁ k1 v1 => ?_
    rw [intD_of e2] at v1
    obtain ⟨t, rfl⟩ := v1.int_inv
    exact iter_r1 hH.ok.hh ok k1 hQ
  · refine PySem.callWith_type (stars_plain h1) (args_of h1 (arg_ne h1) ?_)
    obtain ⟨x', e1, he⟩ := bind_some he
    obtain ⟨i, e2, he⟩ := bind_some he
    obtain ⟨y', e3, he⟩ := bind_some he
    obtain ⟨j, e4, he⟩ := bind_some he
    obtain ⟨ok, he⟩ := ifS he
    cases he
    simp only [Bool.and_eq_true, decide_eq_true_eq] at ok
    refine sndEs as ih C _ h1 pos hH (xs := [x'.1, y'.1]) (es2 e1 e3) fun vs s₁ k1 _ r1 => ?_
    rw [intD_of e2, intD_of e4] at r1
    cases r1 with | cons v1 r1 => cases r1 with | cons v2 r1 => cases r1; obtain ⟨t, rfl⟩ := v1.int_inv; obtain ⟨u, rfl⟩ := v2.int_inv; exact iter_r2 hH.ok.hh ok.1 k1 ok.2 hQ
  · refine PySem.callWith_type (stars_plain h1) (args_of h1 (arg_ne h1) ?_)
    obtain ⟨x', e1, he⟩ := bind_some he
    obtain ⟨i, e2, he⟩ := bind_some he
    obtain ⟨y', e3, he⟩ := bind_some he
    obtain ⟨j, e4, he⟩ := bind_some he
    obtain ⟨z', e5, he⟩ := bind_some he
    obtain ⟨l, e6, he⟩ := bind_some he
    obtain ⟨ok, he⟩ := ifS he
    cases he
    simp only [Bool.and_eq_true, decide_eq_true_eq, beq_iff_eq] at ok
    refine sndEs as ih C _ h1 pos hH (xs := [x'.1, y'.1, z'.1]) (es3 e1 e3 e5) fun vs s₁ k1 _ r1 => ?_
    rw [intD_of e2, intD_of e4, intD_of e6] at r1
    obtain ⟨⟨o1, o2⟩, rfl⟩ := ok
    cases r1 with | cons v1 r1 => cases r1 with | cons v2 r1 => cases r1 with | cons v3 r1 => cases r1; obtain ⟨t, rfl⟩ := v1.int_inv; obtain ⟨u, rfl⟩ := v2.int_inv; obtain ⟨w, rfl⟩ := v3.int_inv; exact iter_r3 hH.ok.hh o1 k1 o2 hQ
theorem sndI (e : PySem.Expr) (C : Ctx) (pi : PI) (h : (cR C e).or ((cE C e).map PI.of) = some pi) (ihE : SndE G Φ k e) (ih : ∀ p bs pos, e = .Call (.Name ("range" : Str) p) bs [] pos → ∀ b ∈ bs, SndE G Φ k b) {γ : Env'} {A : Around} {env : Env} {F : Addr → Prop} {s : Shared} {xs : List PyData} {Q E : Value → Shared → Prop}
    (hH : H G Φ k C γ A env F s) (he : evI Φ γ pi = some xs) (hQ : ∀ I fp wr P St s', Iter G A F xs s s' I fp wr P St → Q (.ref I) s') :
    wpAny (model G.prog G.w) A (eval e env) (fun x s₁ => wpAny (model G.prog G.w) A (pyIter x) Q E s₁) E s := by
  rcases Option.or_eq_some_iff.mp h with h | ⟨_, h⟩
  · exact sndR e C pi h ih hH he hQ
  · obtain ⟨a, h1, rfl⟩ := Option.map_eq_some_iff.mp h
    obtain ⟨x, e1, he⟩ := bind_some he
    obtain ⟨ys, e2, he⟩ := bind_some he
    obtain ⟨hl, he⟩ := ifS he
    cases he
    refine ihE C a h1 hH e1 fun v s₁ k1 v1 => iter_seq (F := F) hH.ok.hh e2 hl v1.1 fun I fp wr P St s' it => hQ I fp wr P St s' ?_
    exact { it with keeps := Keeps.trans k1 it.keeps, new := fun b hb => KeepsH.none (Keeps.heap k1) (it.new b hb) }

theorem sE_Constant (c : Const) (kk : Nat) (pos : Pos) : SndE G Φ k (.Constant c kk pos) := fun C pe h {γ A env F s r Q E} hH he hQ => by
  obtain ⟨d, hd, rfl⟩ := Option.map_eq_some_iff.mp (show (cConst c).map PE.lit = some pe from h)
  cases he
  exact sndConst hd hH hQ
theorem sE_BinOp {l r : PySem.Expr} (op : Operator) (pos : Pos) (ihl : SndE G Φ k l) (ihr : SndE G Φ k r) : SndE G Φ k (.BinOp l op r pos) := fun C pe h {γ A env F s r' Q E} hH he hQ => by
  obtain ⟨o, h0, h⟩ := bind_some h
  obtain ⟨a, h1, h⟩ := bind_some h
  obtain ⟨b, h2, h⟩ := bind_some h
  cases h
  obtain ⟨x, e1, he⟩ := bind_some he
  obtain ⟨y, e2, he⟩ := bind_some he
  refine wpAny_BinOp (ihl C a h1 hH e1 fun v s₁ k1 v1 => ihr C b h2 (hH.keeps k1) e2 fun w s₂ k2 v2 => ?_)
  have k12 := Keeps.trans k1 k2
  exact binD_sound (F := F) h0 he (v1.1.keeps (Keeps.heap k2)) v2.1 (hH.keeps k12).al fun u s₃ k3 v3 => hQ _ _ (Keeps.trans k12 k3) (v3.back (Keeps.heap k12))
theorem sE_UnaryOp {x : PySem.Expr} (op : UnaryOp) (pos : Pos) (ih : SndE G Φ k x) : SndE G Φ k (.UnaryOp op x pos) := fun C pe h {γ A env F s r Q E} hH he hQ => by
  obtain ⟨ho, h⟩ := ifB (show (if op == .USub then (cE C x).bind fun a => some (.neg a) else none) = some pe from h)
  have ho : op = .USub := by simpa using ho
  subst ho
  obtain ⟨a, h1, h⟩ := bind_some h
  cases h
  obtain ⟨y, e1, he⟩ := bind_some he
  obtain ⟨i, e2, he⟩ := bind_some he
  cases he
  refine wpAny_UnaryOp (ih C a h1 hH e1 fun v s₁ k1 v1 => ?_)
  obtain ⟨d, l⟩ := y
  cases d <;> cases e2
  obtain ⟨t, rfl⟩ := v1.1.int_inv
  exact PyProof.Rows.neg_int (hQ _ _ (Keeps.trans k1 (Keeps.tok _ _)) (.of (.int _ _)))
theorem sE_Tuple {es : List PySem.Expr} (kk : Nat) (pos : Pos) (ih : ∀ e ∈ es, SndE G Φ k e) : SndE G Φ k (.Tuple es kk pos) := fun C pe h {γ A env F s r Q E} hH he hQ => by
  obtain ⟨hlen, h⟩ := ifB (show (if es.length ≤ lenLim then (cEs C es).bind fun a => some (.tup a) else none) = some pe from h)
  obtain ⟨a, h1, h⟩ := bind_some h
  cases h
  obtain ⟨xs, e1, he⟩ := bind_some he
  cases he
  refine wpAny_Tuple (sndEs es ih C a h1 pos hH e1 fun vs s₁ k1 hl r1 => ⟨lenLim_size (hl ▸ hlen), hQ _ _ (Keeps.trans k1 (Keeps.push _ _)) (.of ?_)⟩)
  exact RD.pushTuple r1
theorem sE_List {es : List PySem.Expr} (pos : Pos) (ih : ∀ e ∈ es, SndE G Φ k e) : SndE G Φ k (.List es pos) := fun C pe h {γ A env F s r Q E} hH he hQ => by
  obtain ⟨hlen, h⟩ := ifB (show (if es.length ≤ lenLim then (cEs C es).bind fun a => some (.lst a) else none) = some pe from h)
  obtain ⟨a, h1, h⟩ := bind_some h
  cases h
  obtain ⟨xs, e1, he⟩ := bind_some he
  cases he
  refine wpAny_List (sndEs es ih C a h1 pos hH e1 fun vs s₁ k1 hl r1 => ⟨lenLim_size (hl ▸ hlen), hQ _ _ (Keeps.trans k1 (Keeps.push _ _)) ?_⟩)
  exact (Val.pushList (hH.keeps k1).al r1).back (Keeps.heap k1)

/-- an index that is no slice -/
theorem sE_Idx {v i : PySem.Expr} {pos : Pos} (hs : ∀ l n u, subscripted i false (.ref l) (.int n u) = operate [.ref l, .int n u] (getItem (.ref l) (.int n u)))
    (hc : ∀ C a pe, cIx C a i = some pe → ∃ b, cE C i = some b ∧ pe = .idx a b)
    (hsub : ∀ {A : Around} {env : Env} {s : Shared} {Q E : Value → Shared → Prop}, wpAny (model G.prog G.w) A (eval v env) (fun a s₁ => wpAny (model G.prog G.w) A (eval i env) (fun b s₂ => wpAny (model G.prog G.w) A (subscriptTail v i a b) Q E s₂) E s₁) E s → wpAny (model G.prog G.w) A (eval (.Subscript v i pos) env) Q E s)
    (ihv : SndE G Φ k v) (ihi : SndE G Φ k i) : SndE G Φ k (.Subscript v i pos) := fun C pe h {γ A env F s r Q E} hH he hQ => by
  obtain ⟨a, h1, h⟩ := bind_some (show (cE C v).bind (fun a => cIx C a i) = some pe from h)
  obtain ⟨b, h2, rfl⟩ := hc C a pe h
  obtain ⟨x', e1, he⟩ := bind_some he
  obtain ⟨y, e2, he⟩ := bind_some he
  refine hsub (ihv C a h1 hH e1 fun u s₁ k1 v1 => ihi C b h2 (hH.keeps k1) e2 fun w s₂ k2 v2 => ?_)
  exact idx_sound (F := F) he (v1.1.keeps (Keeps.heap k2)) v2.1 hs fun u v3 => hQ _ _ (Keeps.trans k1 k2) (v3.back (Keeps.heap (Keeps.trans k1 k2)))
theorem sE_Slice {v : PySem.Expr} {lo hi : Option PySem.Expr} (sp pos : Pos) (ihv : SndE G Φ k v) (il : ∀ x, lo = some x → SndE G Φ k x) (ih : ∀ x, hi = some x → SndE G Φ k x) : SndE G Φ k (.Subscript v (.Slice lo hi none sp) pos) := fun C pe h {γ A env F s r Q E} hH he hQ => by
  obtain ⟨a, h1, h⟩ := bind_some (show (cE C v).bind (fun a => (cEo C lo).bind fun b => (cEo C hi).bind fun c => some (.sl a b c)) = some pe from h)
  obtain ⟨b, h2, h⟩ := bind_some h
  obtain ⟨c, h3, h⟩ := bind_some h
  cases h
  obtain ⟨x, e1, he⟩ := bind_some he
  obtain ⟨y, e2, he⟩ := bind_some he
  obtain ⟨z, e3, he⟩ := bind_some he
  refine slice_any (ihv C a h1 hH e1 fun u s₁ k1 v1 => sndEo lo il C b h2 (hH.keeps k1) e2 fun u2 s₂ k2 v2 => sndEo hi ih C c h3 (hH.keeps (Keeps.trans k1 k2)) e3 fun u3 s₃ k3 v3 => ?_)
  have k13 := Keeps.trans k1 (Keeps.trans k2 k3)
  exact slice_sound (F := F) he (v1.1.keeps (Keeps.heap (Keeps.trans k2 k3))) (v2.1.keeps (Keeps.heap k3)) v3.1 (hH.keeps k13).al fun u s₄ k4 v4 => hQ _ _ (Keeps.trans k13 k4) (v4.back (Keeps.heap k13))
theorem sE_ListComp {elt : PySem.Expr} {gens : List Comprehension} (sc : Scope) (pos : Pos) (ihe : SndE G Φ k elt) (ihi : ∀ x p iter, gens = [⟨.Name x p, iter, [], 0⟩] → SndE G Φ k iter ∧ ∀ p bs pos, iter = .Call (.Name ("range" : Str) p) bs [] pos → ∀ b ∈ bs, SndE G Φ k b) :
    SndE G Φ k (.ListComp elt gens sc pos) := fun C pe h {γ A env F s r Q E} hH he hQ => by
  obtain ⟨x, h1, h⟩ := bind_some h
  obtain ⟨hc, h⟩ := ifB h
  have hc := CompOk.of hc
  obtain ⟨it, h2, h⟩ := bind_some h
  obtain ⟨a, h3, h⟩ := bind_some h
  cases h
  obtain ⟨px, iter, rfl⟩ := gen1_of h1
  obtain ⟨xs, e1, he⟩ := bind_some he
  obtain ⟨rs, e2, he⟩ := bind_some he
  cases he
  obtain ⟨hlen, hall⟩ := mapM_some e2
  have h2 : (cR C iter).or ((cE C iter).map PI.of) = some it := h2
  rw [eval_ListComp]
  refine wpAny_comprehension_free (use := none) rfl (folded_of (C := C) h2 env) (comp_closure hc hH.env) hc.kind hc.names ?_
  refine sndI iter C it h2 (ihi x px iter rfl).1 (ihi x px iter rfl).2 hH e1 fun I fp wr P St s₂ iti => ?_
  refine comp_core (rs := rs) (RR := fun acc Cc => compPost (model G.prog G.w) A E none Q acc Cc) iti hH.al hc.cell hc.kind hc.loc hlen ?_ ?_
  · intro i d r Cc v s₃ m₃ F' Q' E' hd hr hns hm rd ks hF' al' hQ'
    obtain ⟨r', q1, q2⟩ := hall i d hd
    rw [hr] at q2
    cases q2
    exact ihe (compCtx C x sc) a h3 ⟨hH.g, hH.real, ⟨hH.cg.fns, hH.cg.cons, hH.cg.excs⟩, hH.ok.keeps ks, comp_env hc hH.env hns hm rd ks hF', al'⟩ q1 hQ'
  · intro D Cc h' tk m' ys hD hC hDC hns hl hm hkp
    refine ⟨m', hns, fun h'' hs => ?_⟩
    obtain ⟨q1, q2⟩ := comp_fin iti hH.al hD hC hDC hns hl hm hkp hs
    exact hQ _ _ q1 q2

theorem sE_Call {as : List PySem.Expr} (f : PySem.Expr) (ks : List Keyword) (pos : Pos) (ih : ∀ e ∈ as, SndE G Φ k e) (ihr : ∀ p bs pos, as = [.Call (.Name ("range" : Str) p) bs [] pos] → ∀ b ∈ bs, SndE G Φ k b) : SndE G Φ k (.Call f as ks pos) := fun C pe h {γ A env F s r Q E} hH he hQ => by
  obtain ⟨c, h1, h⟩ := bind_some h
  rcases callee_of h1 with ⟨rfl, ⟨x, p, j, rfl, rfl, hj⟩ | ⟨p, rfl, rfl, hg⟩ | ⟨p, rfl, rfl, hg⟩ | ⟨p, rfl, rfl, hg⟩ | ⟨p, rfl, rfl, hg⟩ | ⟨o, po, ap, x, rfl, hline, rfl, hx⟩⟩ <;> simp only at h
  · split at h
    · cases h
    rename_i hne
    obtain ⟨es, h2, h⟩ := bind_some h
    cases h
    obtain ⟨xs, e1, he⟩ := bind_some he
    obtain ⟨out, e2, he⟩ := bind_some he
    obtain ⟨hg, hd, -⟩ := fn_of hj
    obtain ⟨ad, o, fd, q1, q2, q3, q4⟩ := call_fn hj hH
    refine name_call (name_glob hH hg q1 ?_ hd)
    refine Calls.callWith_function (o := o) (fd := fd) (args_of h2 (by simpa using hne) (sndEs as ih C es h2 pos hH e1 fun vs s₁ k1 _ r1 => ⟨⟨(hH.keeps k1).ok.kb _ _ q2, q3⟩, ?_⟩))
    refine q4 s₁ vs xs out Q E k1 r1 e2 (fun d l ho v s' k2 v2 => ?_) fun c ho => ?_
    · subst ho
      cases he
      exact hQ _ _ (Keeps.trans k1 k2) (v2.back (Keeps.heap k1))
    · subst ho
      cases he
  · obtain ⟨es, h2, h⟩ := bind_some h
    obtain ⟨x, h3, h⟩ := bind_some h
    cases h
    have h4 := one_of h3
    subst h4
    obtain ⟨z, e1, he⟩ := bind_some he
    refine name_call (name_blt hH hg (v := .builtin "len") (by decide +kernel) ?_ (by decide +kernel))
    refine Calls.callWith_builtin (stars_plain h2) (args_of h2 (arg_ne h2) (sndOne ih h2 pos hH e1 fun v s₁ k1 v1 => ?_))
    exact blt_len_sound he v1 fun u s₂ k2 v2 => hQ _ _ (Keeps.trans k1 k2) (v2.back (Keeps.heap k1))
  · obtain ⟨es, h2, h⟩ := bind_some h
    obtain ⟨x, h3, h⟩ := bind_some h
    cases h
    have h4 := one_of h3
    subst h4
    obtain ⟨z, e1, he⟩ := bind_some he
    refine name_call (name_blt hH hg (v := .builtin "abs") (by decide +kernel) ?_ (by decide +kernel))
    refine Calls.callWith_builtin (stars_plain h2) (args_of h2 (arg_ne h2) (sndOne ih h2 pos hH e1 fun v s₁ k1 v1 => ?_))
    exact blt_abs_sound he v1 fun u s₂ k2 v2 => hQ _ _ (Keeps.trans k1 k2) (v2.back (Keeps.heap k1))
  · obtain ⟨es, h2, h⟩ := bind_some h
    obtain ⟨x, h3, h⟩ := bind_some h
    cases h
    have h4 := one_of h3
    subst h4
    obtain ⟨z, e1, he⟩ := bind_some he
    refine name_call (name_blt hH hg (v := .type "str") (by decide +kernel) ?_ (by decide +kernel))
    refine PySem.callWith_type (stars_plain h2) (args_of h2 (arg_ne h2) (sndOne ih h2 pos hH e1 fun v s₁ k1 v1 => ?_))
    exact blt_str_sound he v1 hH.ok.hh ((hH.g.nodigits.keeps hH.ok.kb).keeps (Keeps.heap k1)) fun u s₂ k2 v2 => hQ _ _ (Keeps.trans k1 k2) (v2.back (Keeps.heap k1))
  · obtain ⟨i, h2, h⟩ := bind_some h
    obtain ⟨i', h3, h⟩ := bind_some h
    cases h
    unfold onlyR1 at h3
    split at h3 <;> cases h3
    obtain ⟨ys, e0, he⟩ := bind_some he
    obtain ⟨y, e1, e0⟩ := bind_some e0
    obtain ⟨j, e3, e0⟩ := bind_some e0
    obtain ⟨ok, e4⟩ := ifS e0
    cases he
    subst e4
    refine name_call (name_blt hH hg (v := .type "list") (by decide +kernel) ?_ (by decide +kernel))
    obtain ⟨tr, htr⟩ := cRs_tree h2 env pos
    refine PySem.callWith_type (by rw [htr]; rfl) ?_
    have := sndLs as C _ h2 ihr pos hH e1 (Q := fun vs s' => wpAny (model G.prog G.w) A (call (.type "list") vs) Q E s') (E := E) fun v s₁ k1 v1 => by
      obtain ⟨d, l⟩ := y
      cases d <;> cases e3
      obtain ⟨t, rfl⟩ := v1.int_inv
      exact list_r1 (F := F) hH.ok.hh hH.al ok k1 hQ
    rw [htr] at this ⊢
    exact Calls.evalArgs_plain this
  · obtain ⟨es, h2, h⟩ := bind_some h
    obtain ⟨y, h3, h⟩ := bind_some h
    cases h
    have h4 := one_of h3
    subst h4
    obtain ⟨z, hz, hz'⟩ := cEs_one h2
    obtain ⟨x', e1, he⟩ := bind_some he
    obtain ⟨y', e2, he⟩ := bind_some he
    refine wpAny_Call_method (T := "list") (id := "list.index") rfl ?_ hline PySem.F.plainAttrs_list PySem.F.slot_list_index PySem.F.type_list_index (sndName hx hH e1 fun v s₁ k1 v1 => ?_)
    · rw [hz, star_of hz']
      rfl
    · obtain ⟨ld, vs, rfl, ⟨nn, hl⟩, -, -⟩ : ∃ a vs, v = .ref a ∧ s₁.heap.PlainList a vs ∧ True ∧ True := by
        obtain ⟨d, l⟩ := x'
        cases d with
        | list xs => obtain ⟨a, vs, e1, e2, -, -⟩ := v1.1.list_inv; exact ⟨a, vs, e1, e2, trivial, trivial⟩
        | _ => cases y'.1 <;> cases he
      refine ⟨⟨_, hl, rfl⟩, fun a ha => by cases ha; exact ⟨_, hl, rfl⟩, ?_⟩
      refine Calls.callWith_builtin (stars_plain h2) (args_of h2 (arg_ne h2) (sndOne ih h2 pos (hH.keeps k1) e2 fun u2 s₂ k2 v2 => ?_))
      exact mth_index_sound he (v1.1.keeps (Keeps.heap k2)) v2 fun u s₃ k3 v3 => hQ _ _ (Keeps.trans k1 (Keeps.trans k2 k3)) (v3.back (Keeps.heap (Keeps.trans k1 k2)))


theorem sz2 {a b n : Nat} (h : 1 + a + b < n + 1) : a < n ∧ b < n := by omega
theorem sz3 {a b c n : Nat} (h : 1 + a + b + c < n + 1) : a < n ∧ b < n ∧ c < n := by omega
theorem sz4 {a b c d n : Nat} (h : 1 + a + b + c + d < n + 1) : a < n ∧ b < n ∧ c < n ∧ d < n := by omega
theorem lt_mem {es : List PySem.Expr} {n : Nat} (h : sizeOf es < n) : ∀ e ∈ es, sizeOf e < n := fun e he => Nat.lt_trans (List.sizeOf_lt_of_mem he) h
theorem sndE_all : ∀ (n : Nat) (e : PySem.Expr), sizeOf e < n → SndE G Φ k e
  | 0, _, h => absurd h (Nat.not_lt_zero _)
  | n + 1, e, hn => by
    have ih := fun e h => sndE_all n e h
    cases e with
    | Constant c kk pos => exact sE_Constant c kk pos
    | Name x pos => exact fun C pe h {γ A env F s r Q E} hH he hQ => sndName h hH he hQ
    | BinOp l op r pos =>
      simp only [PySem.Expr.BinOp.sizeOf_spec] at hn
      exact sE_BinOp op pos (ih l (sz4 hn).1) (ih r (sz4 hn).2.2.1)
    | UnaryOp op x pos =>
      simp only [PySem.Expr.UnaryOp.sizeOf_spec] at hn
      exact sE_UnaryOp op pos (ih x (sz3 hn).2.1)
    | Tuple es kk pos =>
      simp only [PySem.Expr.Tuple.sizeOf_spec] at hn
      exact sE_Tuple kk pos fun e he => ih e (lt_mem (sz3 hn).1 e he)
    | List es pos =>
      simp only [PySem.Expr.List.sizeOf_spec] at hn
      exact sE_List pos fun e he => ih e (lt_mem (sz2 hn).1 e he)
    | Subscript v i pos =>
      simp only [PySem.Expr.Subscript.sizeOf_spec] at hn
      have iv := ih v (sz3 hn).1
      have ii := ih i (sz3 hn).2.1
      have none' : (∀ C a, cIx C a i = none) → SndE G Φ k (.Subscript v i pos) := fun q => sE_none fun C => by
        show (cE C v).bind (fun a => cIx C a i) = none
        cases cE C v with
        | none => rfl
        | some a => exact q C a
      cases i with
      | Slice lo hi st sp =>
        cases st with
        | some st => exact none' fun _ _ => rfl
        | none =>
          simp only [PySem.Expr.Slice.sizeOf_spec] at hn
          exact sE_Slice sp pos iv (fun x e => ih x (by subst e; simp only [Option.some.sizeOf_spec] at hn; omega)) (fun x e => ih x (by subst e; simp only [Option.some.sizeOf_spec] at hn; omega))
      | Constant c kk p => exact sE_Idx (subC c kk p) (fun C a pe h => by obtain ⟨d, h2, rfl⟩ := Option.map_eq_some_iff.mp (show (cConst c).map (fun d => PE.idx a (.lit d)) = some pe from h); exact ⟨_, show (cConst c).map PE.lit = _ by rw [h2]; rfl, rfl⟩) Subscript_ iv ii
      | Name x p => exact sE_Idx (subN x p) (fun C a pe h => by obtain ⟨b, h2, rfl⟩ := Option.map_eq_some_iff.mp (show (cName C x).map (fun b => PE.idx a b) = some pe from h); exact ⟨b, h2, rfl⟩) Subscript_ iv ii
      | BinOp l op r p => exact sE_Idx (subB l op r p) (fun C a pe h => by
          obtain ⟨o, h2, h⟩ := bind_some h
          obtain ⟨b, h3, h⟩ := bind_some h
          obtain ⟨c, h4, h⟩ := bind_some h
          cases h
          exact ⟨.bin o b c, show (cOp op).bind (fun o => (cE C l).bind fun a => (cE C r).bind fun b => some (PE.bin o a b)) = _ by rw [h2, Option.bind_some, h3, Option.bind_some, h4]; rfl, rfl⟩) Subscript_ iv ii
      | _ => exact none' fun _ _ => rfl
    | ListComp elt gens sc pos =>
      simp only [PySem.Expr.ListComp.sizeOf_spec] at hn
      refine sE_ListComp sc pos (ih elt (sz4 hn).1) fun x p iter e => ?_
      subst e
      simp only [List.cons.sizeOf_spec, List.nil.sizeOf_spec, PySem.Comprehension.mk.sizeOf_spec] at hn
      refine ⟨ih iter (by omega), fun p bs pos e b hb => ih b ?_⟩
      subst e
      simp only [PySem.Expr.Call.sizeOf_spec] at hn
      exact lt_mem (by omega) b hb
    | Call f as ks pos =>
      simp only [PySem.Expr.Call.sizeOf_spec] at hn
      refine sE_Call f ks pos (fun e he => ih e (lt_mem (sz4 hn).2.1 e he)) fun p bs pos e b hb => ih b ?_
      subst e
      simp only [List.cons.sizeOf_spec, List.nil.sizeOf_spec, PySem.Expr.Call.sizeOf_spec] at hn
      exact lt_mem (by omega) b hb
    | _ => exact sE_none fun _ => rfl
theorem sndE (e : PySem.Expr) : SndE G Φ k e := sndE_all _ e (Nat.lt_succ_self _)
theorem sndEsA (es : List PySem.Expr) (C : Ctx) (ps : PEs) (h : cEs C es = some ps) (pos : Pos) {γ : Env'} {A : Around} {env : Env} {F : Addr → Prop} {s : Shared} {xs : List PyData} {Q : List Value → Shared → Prop} {E : Value → Shared → Prop}
    (hH : H G Φ k C γ A env F s) (he : evEs Φ γ ps = some xs) (hQ : ∀ vs s', Keeps s s' → vs.length = es.length → RDs s'.heap F vs xs → Q vs s') : wpAny (model G.prog G.w) A (spliced (backTo pos (starEach es env))) Q E s := sndEs es (fun e _ => sndE e) C ps h pos hH he hQ
theorem sndIA (e : PySem.Expr) (C : Ctx) (pi : PI) (h : (cR C e).or ((cE C e).map PI.of) = some pi) {γ : Env'} {A : Around} {env : Env} {F : Addr → Prop} {s : Shared} {xs : List PyData} {Q E : Value → Shared → Prop}
    (hH : H G Φ k C γ A env F s) (he : evI Φ γ pi = some xs) (hQ : ∀ I fp wr P St s', Iter G A F xs s s' I fp wr P St → Q (.ref I) s') :
    wpAny (model G.prog G.w) A (eval e env) (fun x s₁ => wpAny (model G.prog G.w) A (pyIter x) Q E s₁) E s := sndI e C pi h (sndE e) (fun _ _ _ _ b _ => sndE b) hH he hQ
end
end Mine
end
section
set_option maxRecDepth 100000
namespace Mine
open PySem PyProof.Rows

section
variable {G : GCtx} {Φ : Funs} {k : Nat}

theorem typeArg_of {C : Ctx} {ops : List CmpOp} {rs : List PySem.Expr} {l x : PySem.Expr} (h : typeArg C ops rs l = some x) :
    ∃ p q g, l = .Call (.Name ("type" : Str) p) [x] [] q ∧ ops = [.Is] ∧ rs = [.Name ("int" : Str) g] ∧ C.glob ("type" : Str) = true ∧ C.glob ("int" : Str) = true := by
  obtain ⟨c, h1, h⟩ := bind_some h
  obtain ⟨f, h2, h⟩ := bind_some h
  obtain ⟨r, h3, h⟩ := bind_some h
  obtain ⟨g, h4, h⟩ := bind_some h
  obtain ⟨hc, h⟩ := ifB h
  simp only [Bool.and_eq_true, beq_iff_eq] at hc
  obtain ⟨⟨⟨⟨⟨⟨a1, a2⟩, a3⟩, a4⟩, a5⟩, a6⟩, a7⟩ := hc
  rw [a3] at a5
  rw [a4] at a6
  exact ⟨f.2, c.pos, g.2, by rw [callOf_of h1, nm_of h2, a3, oneE_of h, List.isEmpty_iff.mp a2], a1, by rw [oneE_of h3, nm_of h4, a4], a5, a6⟩
theorem op1_of {ops : List CmpOp} {o : COp} (h : op1 ops = some o) : ∃ op, ops = [op] ∧ cCmp op = some o := by
  cases ops with
  | nil => cases h
  | cons op r => cases r with
    | nil => exact ⟨op, rfl, h⟩
    | cons => cases h
theorem marks_of {op : CmpOp} {o : COp} (h : cCmp op = some o) (r : PySem.Expr) : behindInMarks op r = false := by
  cases op <;> cases h <;> cases r <;> simp [behindInMarks]

noncomputable def SndT (G : GCtx) (Φ : Funs) (k : Nat) (e : PySem.Expr) : Prop := ∀ (C : Ctx) (pt : PT), cT C e = some pt → ∀ {γ : Env'} {A : Around} {env : Env} {F : Addr → Prop} {s : Shared} {b : Bool} {Q : Bool → Shared → Prop} {E : Value → Shared → Prop},
    H G Φ k C γ A env F s → evT Φ γ pt = some b → (∀ s', Keeps s s' → Q b s') → wpAny (model G.prog G.w) A (isTrue e env (eval e env)) Q E s
theorem sndAnd (xs : List PySem.Expr) (ih : ∀ e ∈ xs, SndT G Φ k e) (C : Ctx) (pt : PT) (h : cAnd C xs = some pt) {γ : Env'} {A : Around} {env : Env} {F : Addr → Prop} {s : Shared} {b : Bool} {Q : Bool → Shared → Prop} {E : Value → Shared → Prop}
    (hH : H G Φ k C γ A env F s) (he : evT Φ γ pt = some b) (hQ : ∀ s', Keeps s s' → Q b s') : wpAny (model G.prog G.w) A (allTrue .And xs env) Q E s := by
  induction xs generalizing pt s Q with
  | nil => cases h; cases he; exact wpAny_allTrue_And_nil (hQ _ (Keeps.refl s))
  | cons x r ihr =>
    obtain ⟨a, h1, h⟩ := bind_some h
    obtain ⟨b', h2, h⟩ := bind_some h
    cases h
    obtain ⟨c, e1, he⟩ := bind_some he
    refine wpAny_allTrue_And_cons (ih x (.head _) C a h1 hH e1 fun s₁ k1 => ?_)
    cases c with
    | true => exact ihr (fun y hy => ih y (.tail _ hy)) b' h2 (hH.keeps k1) he fun s₂ k2 => hQ _ (Keeps.trans k1 k2)
    | false => cases he; exact hQ _ k1
theorem sndOr (xs : List PySem.Expr) (ih : ∀ e ∈ xs, SndT G Φ k e) (C : Ctx) (pt : PT) (h : cOr C xs = some pt) {γ : Env'} {A : Around} {env : Env} {F : Addr → Prop} {s : Shared} {b : Bool} {Q : Bool → Shared → Prop} {E : Value → Shared → Prop}
    (hH : H G Φ k C γ A env F s) (he : evT Φ γ pt = some b) (hQ : ∀ s', Keeps s s' → Q b s') : wpAny (model G.prog G.w) A (allTrue .Or xs env) Q E s := by
  induction xs generalizing pt s Q with
  | nil => cases h; cases he; exact wpAny_allTrue_Or_nil (hQ _ (Keeps.refl s))
  | cons x r ihr =>
    obtain ⟨a, h1, h⟩ := bind_some h
    obtain ⟨b', h2, h⟩ := bind_some h
    cases h
    obtain ⟨c, e1, he⟩ := bind_some he
    refine wpAny_allTrue_Or_cons (ih x (.head _) C a h1 hH e1 fun s₁ k1 => ?_)
    cases c with
    | false => exact ihr (fun y hy => ih y (.tail _ hy)) b' h2 (hH.keeps k1) he fun s₂ k2 => hQ _ (Keeps.trans k1 k2)
    | true => cases he; exact hQ _ k1
theorem val_of {x : Option PE} {pt : PT} (h : (x.bind fun a => some (PT.val a)) = some pt) : ∃ a, x = some a ∧ pt = .val a := by
  obtain ⟨a, h1, h⟩ := bind_some h
  cases h
  exact ⟨a, h1, rfl⟩
theorem sT_val {e : PySem.Expr} (hv : ∀ {A : Around} {env : Env} {s : Shared} {Q : Bool → Shared → Prop} {E : Value → Shared → Prop}, wpAny (model G.prog G.w) A (eval e env) (fun v s₁ => wpAny (model G.prog G.w) A (truthy v) Q E s₁) E s → wpAny (model G.prog G.w) A (isTrue e env (eval e env)) Q E s)
    (hc : ∀ C pt, cT C e = some pt → ∃ a, cE C e = some a ∧ pt = .val a) : SndT G Φ k e := fun C pt h {γ A env F s b Q E} hH he hQ => by
  obtain ⟨a, h1, rfl⟩ := hc C pt h
  obtain ⟨x, e1, he⟩ := bind_some he
  refine hv (sndE _ C a h1 hH e1 fun v s₁ k1 v1 => ?_)
  obtain ⟨d, l⟩ := x
  cases d <;> cases he
  have := v1.1.bool_inv
  subst this
  exact wpAny_truthy_bool (hQ _ k1)
theorem sT_Compare (l : PySem.Expr) (ops : List CmpOp) (rs : List PySem.Expr) (pos : Pos) : SndT G Φ k (.Compare l ops rs pos) := fun C pt h {γ A env F s b Q E} hH he hQ => by
  have hu : A.units + 64 < cLine := by have := hH.ok.un; omega
  have h : (match typeArg C ops rs l with
    | some x => (cE C x).bind fun a => some (.isInt a)
    | none => (op1 ops).bind fun o => (cE C l).bind fun a => (cEs C rs).bind fun b => (one b).bind fun b => some (.cmp o a b)) = some pt := h
  cases hx : typeArg C ops rs l with
  | some x =>
    rw [hx] at h
    obtain ⟨p, q, g, rfl, rfl, rfl, hg1, hg2⟩ := typeArg_of hx
    obtain ⟨a, h1, h⟩ := bind_some h
    cases h
    obtain ⟨y, e1, he⟩ := bind_some he
    refine wpAny_isTrue_Compare1 (name_call (name_blt hH hg1 (v := .type "type") (by decide +kernel) ?_ (by decide +kernel)))
    have hp : cEs C [x] = some (.cons a .nil) := by show (cE C x).bind _ = _; rw [h1]; rfl
    refine PySem.callWith_type (stars_plain hp) (args_of hp rfl (sndOne (fun e _ => sndE e) hp q hH e1 fun v s₁ k1 v1 => ?_))
    obtain ⟨d, l⟩ := y
    cases d <;> cases he
    obtain ⟨t, rfl⟩ := v1.int_inv
    refine call_type_of (Tx := "int") rfl (by decide +kernel) ?_
    refine name_blt (hH.keeps k1) hg2 (v := .type "int") (by decide +kernel) ?_ (by decide +kernel)
    exact wpAny_is_self (by rfl) (wpAny_truthy_bool (hQ _ k1))
  | none =>
    rw [hx] at h
    obtain ⟨o, h0, h⟩ := bind_some h
    obtain ⟨a, h1, h⟩ := bind_some h
    obtain ⟨bs, h2, h⟩ := bind_some h
    obtain ⟨b', h3, h⟩ := bind_some h
    cases h
    obtain ⟨op, rfl, hop⟩ := op1_of h0
    have h4 := one_of h3
    subst h4
    obtain ⟨r, rfl, hr⟩ := cEs_one h2
    obtain ⟨x, e1, he⟩ := bind_some he
    obtain ⟨y, e2, he⟩ := bind_some he
    refine wpAny_isTrue_Compare1 (sndE l C a h1 hH e1 fun v s₁ k1 v1 => sndE r C b' hr (hH.keeps k1) e2 fun w s₂ k2 v2 => ?_) (marks_of hop r)
    exact cmpD_sound (F := F) hop he (v1.1.keeps (Keeps.heap k2)) v2.1 hu (wpAny_truthy_bool (hQ _ (Keeps.trans k1 k2)))
theorem sndT_all : ∀ (n : Nat) (e : PySem.Expr), sizeOf e < n → SndT G Φ k e
  | 0, _, h => absurd h (Nat.not_lt_zero _)
  | n + 1, e, hn => by
    have ih := fun e h => sndT_all n e h
    cases e with
    | Compare l ops rs pos => exact sT_Compare l ops rs pos
    | UnaryOp op x pos =>
      simp only [PySem.Expr.UnaryOp.sizeOf_spec] at hn
      intro C pt h γ A env F s b Q E hH he hQ
      obtain ⟨ho, h⟩ := ifB (show (if op == .Not then (cT C x).bind fun a => some (.not a) else none) = some pt from h)
      have ho : op = .Not := by simpa using ho
      obtain ⟨a, h1, h⟩ := bind_some h
      cases h
      obtain ⟨c, e1, he⟩ := bind_some he
      cases he
      have := ih x (by omega) C a h1 hH e1 (Q := fun b s' => Q (!b) s') (E := E) fun s' k1 => hQ s' k1
      rw [ho]
      exact wpAny_isTrue_Not this
    | BoolOp op xs pos =>
      simp only [PySem.Expr.BoolOp.sizeOf_spec] at hn
      intro C pt h γ A env F s b Q E hH he hQ
      refine wpAny_isTrue_BoolOp ?_
      cases op with
      | And => exact sndAnd xs (fun e he => ih e (lt_mem (by omega) e he)) C pt h hH he hQ
      | Or => exact sndOr xs (fun e he => ih e (lt_mem (by omega) e he)) C pt h hH he hQ
    | Call f as ks p => exact sT_val (fun h => wpAny_isTrue_value h rfl) fun C pt h => val_of h
    | Name x p => exact sT_val (fun h => wpAny_isTrue_value h rfl) fun C pt h => val_of h
    | _ => exact fun C pt h => by cases h
theorem sndT (e : PySem.Expr) : SndT G Φ k e := sndT_all _ e (Nat.lt_succ_self _)
end
end Mine
end
section
set_option maxRecDepth 100000
namespace Mine
open PySem PyProof.Rows

structure Fm where
  name : Str
  sc : Scope
  L : Addr
  a : Addr
  cd : Value
noncomputable def Fm.env (f : Fm) : Env := envOfC f.name f.sc f.L f.a f.cd
noncomputable def Fm.cells (f : Fm) : List (Str × Addr) := cellsFrom (f.L + 1) f.sc.names []
/-- the frame's own objects: its locals, its cells -/
noncomputable def Fm.Fx (f : Fm) (b : Addr) : Prop := b = f.L ∨ ∃ n, f.cells.lookup n = some b

structure FnOk (C : Ctx) (sc : Scope) (ns : List Str) : Prop where
  nsEq : C.ns = ns.map some
  nodup : ns.Nodup
  kind : sc.kind = .function
  kinds : C.kinds = sc.names
  cells : ∀ n x, x ∈ C.cn → ∃ c, (cellsFrom n sc.names []).lookup x = some c
  var : ∀ x ∈ ns, (sc.names.lookup x = some .local ∧ ∀ n, (cellsFrom n sc.names []).lookup x = none) ∨ (sc.names.lookup x = some .cell ∧ ∀ n, ∃ c, (cellsFrom n sc.names []).lookup x = some c)

noncomputable def vof (sc : Scope) (m cm : Str → Option Value) (x : Str) : Option Value := if sc.names.lookup x = some .local then m x else cm x

abbrev FO (F : Addr → Prop) (own : Addr → Option Nat) : Addr → Prop := fun b => F b ∨ own b ≠ none

noncomputable def SlotOK (h : Heap) (F : Addr → Prop) (own : Addr → Option Nat) (i : Nat) : Slot → Option Value → Prop
  | .un, _ => True
  | .pl d, some v => RD h (FO F own) v d
  | .b1 ds, some v => ∃ a vs, v = .ref a ∧ own a = some i ∧ h.PlainList a vs ∧ RDs h (FO F own) vs.toList ds
  | .b2 dss, some v => ∃ a rs, v = .ref a ∧ own a = some i ∧ h.PlainList a (rs.map Value.ref).toArray ∧ (a :: rs).Nodup ∧ rs.length = dss.length ∧
      ∀ (j : Nat) (r : Addr) (ds : List PyData), rs[j]? = some r → dss[j]? = some ds → ∃ vs, own r = some i ∧ h.PlainList r vs ∧ RDs h (FO F own) vs.toList ds
  | _, none => False

structure SI (C : Ctx) (ns : List Str) (f : Fm) (h₀ : Heap) (F : Addr → Prop) (own : Addr → Option Nat) (γ : Env') (h : Heap) : Prop where
  fr : ∃ m cm, Fr h₀ f.L h m ∧ Cl f.L f.cells h cm ∧ ∀ (i : Nat) (x : Str) (sl : Slot), ns[i]? = some x → γ[i]? = some sl → SlotOK h F own i sl (vof f.sc m cm x)
  own : ∀ b i, own b = some i → h₀.get? b = none ∧ ∃ vs, h.PlainList b vs

/-- one heap to the next: all but the frame's own objects and the lists it owns stands -/
structure Tr (f : Fm) (own : Addr → Option Nat) (h : Heap) (own' : Addr → Option Nat) (h' : Heap) : Prop where
  keep : ∀ b o, h.get? b = some o → own b = none → ¬ f.Fx b → h'.get? b = some o
  there : ∀ b o, h.get? b = some o → ∃ o', h'.get? b = some o'
  own : ∀ b, own' b ≠ none → own b ≠ none ∨ h.get? b = none
theorem Tr.of_keeps {f : Fm} {own : Addr → Option Nat} {h h' : Heap} (k : KeepsH h h') : Tr f own h own h' := ⟨fun b o e _ _ => k b o e, fun b o e => ⟨o, k b o e⟩, fun _ q => .inl q⟩
theorem Tr.trans {f : Fm} {o₁ o₂ o₃ : Addr → Option Nat} {h₁ h₂ h₃ : Heap} (x : Tr f o₁ h₁ o₂ h₂) (y : Tr f o₂ h₂ o₃ h₃) : Tr f o₁ h₁ o₃ h₃ where
  keep := fun b o e e1 e2 => y.keep b o (x.keep b o e e1 e2) (by
    cases q : o₂ b with
    | none => rfl
    | some j => exact ((x.own b (by rw [q]; exact fun z => by cases z)).elim (fun z => z e1) fun z => by rw [e] at z; cases z).elim) e2
  there := fun b o e => let ⟨o', e'⟩ := x.there b o e; y.there b o' e'
  own := fun b q => (y.own b q).elim (fun z => x.own b z) fun z => .inr (by
    cases e : h₁.get? b with
    | none => rfl
    | some o => obtain ⟨o', e'⟩ := x.there b o e; rw [z] at e'; cases e')

theorem SlotOK.frame {h h' : Heap} {F : Addr → Prop} {own own' : Addr → Option Nat} {i : Nat} {sl : Slot} {v : Option Value} (x : SlotOK h F own i sl v) (hi : ∀ b, own b = some i → own' b = some i)
    (hF : ∀ b, FO F own' b → FO F own b ∨ h.get? b = none) (hk : ∀ b o vs n, h.get? b = some o → o.data = .seq vs n → (own b = some i ∨ o.cls = .type "tuple" ∨ (o.cls = .type "list" ∧ ¬ FO F own b)) → h'.get? b = some o) : SlotOK h' F own' i sl v := by
  have hk' : ∀ b o vs n, h.get? b = some o → o.data = .seq vs n → (o.cls = .type "tuple" ∨ (o.cls = .type "list" ∧ ¬ FO F own b)) → h'.get? b = some o := fun b o vs n e1 e2 q => hk b o vs n e1 e2 (.inr q)
  cases sl with
  | un => trivial
  | pl d => cases v with
    | none => exact x
    | some v => exact RD.move hF hk' x
  | b1 ds => cases v with
    | none => exact x
    | some v =>
      obtain ⟨a, vs, q1, q2, ⟨n, q3⟩, q4⟩ := x
      exact ⟨a, vs, q1, hi _ q2, ⟨n, hk a _ vs n q3 rfl (.inl q2)⟩, RDs.move hF hk' q4⟩
  | b2 dss => cases v with
    | none => exact x
    | some v =>
      obtain ⟨a, rs, q1, q2, ⟨n, q3⟩, q4, q5, q6⟩ := x
      refine ⟨a, rs, q1, hi _ q2, ⟨n, hk a _ _ n q3 rfl (.inl q2)⟩, q4, q5, fun j r ds e1 e2 => ?_⟩
      obtain ⟨vs, w1, ⟨m, w2⟩, w3⟩ := q6 j r ds e1 e2
      exact ⟨vs, hi _ w1, ⟨m, hk r _ vs m w2 rfl (.inl w1)⟩, RDs.move hF hk' w3⟩

section
variable {C : Ctx} {ns : List Str} {f : Fm} {h₀ : Heap} {F : Addr → Prop} {own : Addr → Option Nat} {γ : Env'}

theorem SI.keeps {h h' : Heap} (S : SI C ns f h₀ F own γ h) (hk : KeepsH h h') : SI C ns f h₀ F own γ h' := by
  obtain ⟨⟨m, cm, F1, X, sl⟩, ow⟩ := S
  exact ⟨⟨m, cm, F1.after hk, X.keeps hk, fun i x s e1 e2 => (sl i x s e1 e2).frame (fun _ q => q) (fun _ q => .inl q) fun b o _ _ e _ _ => hk b o e⟩, fun b i q => ⟨(ow b i q).1, let ⟨vs, n, e⟩ := (ow b i q).2; ⟨vs, n, hk _ _ e⟩⟩⟩

/-- no list is one of the frame's own objects -/
theorem SI.notFx {h : Heap} (S : SI C ns f h₀ F own γ h) {b : Addr} {o : Obj} {vs : Array Value} {n : Nat} (e : h.get? b = some o) (d : o.data = .seq vs n) : ¬ f.Fx b := by
  obtain ⟨⟨m, cm, F1, X, _⟩, _⟩ := S
  rintro (rfl | ⟨x, hx⟩)
  · obtain ⟨o', es, ep, z1, z2, _⟩ := F1.ns
    rw [e] at z1; cases z1; rw [d] at z2; cases z2
  · obtain ⟨o', z1, z2⟩ := X.cell x b hx
    rw [e] at z1; cases z1; rw [d] at z2; cases z2

theorem SI.envOK {h : Heap} (S : SI C ns f h₀ F own γ h) (K : FnOk C f.sc ns) : EnvOK C f.env γ (FO F own) h := by
  obtain ⟨⟨m, cm, F1, X, sl⟩, ow⟩ := S
  refine ⟨K.kind, fun x hx => ?_, rfl, rfl, fun x hx => K.cells _ x hx, fun i x d e1 e2 => ?_⟩
  · have : C.kinds.lookup x = some .globalImplicit := by simpa [Ctx.glob] using hx
    rw [K.kinds] at this
    exact this
  · rw [K.nsEq, List.getElem?_map] at e1
    obtain ⟨y, hy, hyx⟩ := Option.map_eq_some_iff.mp e1
    cases hyx
    have h1 := sl i x _ hy e2
    cases hv : vof f.sc m cm x with
    | none => rw [hv] at h1; exact h1.elim
    | some v =>
      rw [hv] at h1
      refine ⟨v, ?_, h1⟩
      rcases K.var x (List.mem_of_getElem? hy) with ⟨k1, k2⟩ | ⟨k1, k2⟩
      · refine .inl ⟨k1, k2 _, m, F1.ns, ?_⟩
        unfold vof at hv
        rw [if_pos k1] at hv
        exact hv
      · obtain ⟨c, hc⟩ := k2 (f.L + 1)
        refine .inr ⟨.inl k1, c, hc, ?_⟩
        unfold vof at hv
        rw [if_neg (by rw [k1]; exact fun z => by cases z)] at hv
        have := X.cell x c hc
        rw [hv] at this
        exact this
end
end Mine
end
section
set_option maxRecDepth 100000
namespace Mine
open PySem PyProof.Rows

section
variable {C : Ctx} {ns : List Str} {f : Fm} {h₀ : Heap} {F : Addr → Prop} {own own' : Addr → Option Nat} {γ : Env'} {M : Model} {A : Around} {E : Value → Shared → Prop} {s : Shared}

theorem Fr.ne {h : Heap} {m : Str → Option Value} (F1 : Fr h₀ f.L h m) {b : Addr} {o : Obj} {vs : Array Value} {n : Nat} (e : h.get? b = some o) (d : o.data = .seq vs n) : b ≠ f.L := by
  rintro rfl
  obtain ⟨o', es, ep, z1, z2, _⟩ := F1.ns
  rw [e] at z1; cases z1; rw [d] at z2; cases z2

theorem SI.store {hs : Heap} {i : Nat} {x : Str} {v : Value} {sl : Slot} {Q : Unit → Shared → Prop} (S : SI C ns f h₀ F own γ hs) (K : FnOk C f.sc ns) (k : KeepsH hs s.heap) (hx : ns[i]? = some x)
    (hj : ∀ b j, j ≠ i → own b = some j → own' b = some j) (hj' : ∀ b j, j ≠ i → own' b = some j → own b = some j) (hF : ∀ b, own' b ≠ none → own b ≠ none ∨ hs.get? b = none)
    (hown : ∀ b, own' b = some i → h₀.get? b = none ∧ ∃ vs, s.heap.PlainList b vs) (hsl : SlotOK s.heap F own' i sl (some v))
    (hQ : ∀ h' tk, SI C ns f h₀ F own' (γ.set i sl) h' → Tr f own hs own' h' → (∀ b o, s.heap.get? b = some o → ¬ f.Fx b → h'.get? b = some o) → Q () { s with heap := h', toks := tk }) :
    wpAny M A (storeName f.env x v) Q E s := by
  obtain ⟨⟨m, cm, F0, X0, sls⟩, ow0⟩ := id S
  have F1 := F0.after k
  have X := X0.keeps k
  have ow := (S.keeps k).own
  -- what stands behind any change of one of the frame's own objects
  have fin : ∀ (h' : Heap) (tk : Nat) (c : Addr) (m' cm' : Str → Option Value), f.Fx c → Heap.SameBut c s.heap h' → Fr h₀ f.L h' m' → Cl f.L f.cells h' cm' → (∀ o vs n, s.heap.get? c = some o → o.data ≠ .seq vs n) → (∃ o, h'.get? c = some o) →
      vof f.sc m' cm' x = some v → (∀ y ∈ ns, y ≠ x → vof f.sc m' cm' y = vof f.sc m cm y) → Q () { s with heap := h', toks := tk } := by
    intro h' tk c m' cm' hc hsb F' X' hcs hth hv hv'
    have hk : ∀ b o vs n, s.heap.get? b = some o → o.data = .seq vs n → h'.get? b = some o := fun b o vs n e d => hsb.extBut b o (fun z => hcs o vs n (z ▸ e) d) e
    refine hQ h' tk ⟨⟨m', cm', F', X', fun j y sl' e1 e2 => ?_⟩, fun b j q => ?_⟩ ⟨fun b o e _ e2 => ?_, fun b o e => ?_, hF⟩ fun b o e nf => hsb.extBut b o (fun z => nf (z ▸ hc)) e
    · by_cases hji : j = i
      · subst hji
        rw [hx] at e1
        cases e1
        have hlt : j < γ.length := by
          have := (List.getElem?_eq_some_iff.mp e2).1
          simpa using this
        rw [List.getElem?_set_self hlt] at e2
        cases e2
        rw [hv]
        exact hsl.frame (fun _ q => q) (fun _ q => .inl q) fun b o vs n e d _ => hk b o vs n e d
      · rw [List.getElem?_set_ne (Ne.symm hji)] at e2
        have hy : y ≠ x := fun z => by
          subst z
          exact hji ((List.getElem?_inj (List.getElem?_eq_some_iff.mp e1).1 K.nodup).mp (e1.trans hx.symm))
        rw [hv' y (List.mem_of_getElem? e1) hy]
        exact (sls j y sl' e1 e2).frame (fun b q => hj b j hji q) (fun b q => by
          rcases q with q | q
          · exact .inl (.inl q)
          · rcases hF b q with q | q
            · exact .inl (.inr q)
            · exact .inr q) fun b o vs n e d _ => hk b o vs n (k b o e) d
    · by_cases hji : j = i
      · subst hji
        obtain ⟨q1, vs, n, q2⟩ := hown b q
        exact ⟨q1, vs, n, hk b _ vs n q2 rfl⟩
      · obtain ⟨q1, vs, n, q2⟩ := ow b j (hj' b j hji q)
        exact ⟨q1, vs, n, hk b _ vs n q2 rfl⟩
    · exact hsb.extBut b o (fun z => e2 (z ▸ hc)) (k b o e)
    · by_cases hbc : b = c
      · rw [hbc]; exact hth
      · exact ⟨o, hsb.extBut b o hbc (k b o e)⟩
  rcases K.var x (List.mem_of_getElem? hx) with ⟨k1, k2⟩ | ⟨k1, k2⟩
  · refine wpAny_storeName_local (m := m) k1 F1.ns (fun h' hn hsb => ?_) (by show (f.sc.kind == .class || (f.sc.kind == .module && f.L != mainGlobals)) = false; rw [K.kind]; rfl)
    refine fin h' _ f.L _ cm (.inl rfl) hsb (F1.set hn hsb) (X.sameBut hsb (Nat.le_refl _)) (fun o vs n e d => Fr.ne F1 e d rfl) (let ⟨o, _, _, e, _⟩ := hn; ⟨o, e⟩) ?_ fun y hy hne => ?_
    · unfold vof; rw [if_pos k1]; simp
    · unfold vof
      split
      · simp [hne]
      · rfl
  · obtain ⟨c, hc⟩ := k2 (f.L + 1)
    have hLc : f.L < c := X.above x c (mem_of_lookup hc)
    refine wpAny_storeName_cell K.kind k1 hc (X.cell x c hc) fun h' hv hsb => ?_
    have hcs : ∀ o vs n, s.heap.get? c = some o → o.data ≠ .seq vs n := fun o vs n e d => by
      obtain ⟨o', z1, z2⟩ := X.cell x c hc
      rw [e] at z1; cases z1; rw [d] at z2; cases z2
    refine fin h' s.toks c m (fun y => if y = x then some v else cm y) (.inr ⟨x, hc⟩) hsb ⟨F1.ns.sameBut hsb (Nat.ne_of_lt hLc), fun b o e => (hsb.2 b (Nat.ne_of_lt (Nat.lt_trans (Nat.lt_of_lt_of_le (Heap.lt_size e) F1.above) hLc))).trans (F1.keep b o e), F1.above⟩
      ⟨fun n c' e => ?_, X.apart, X.above⟩ hcs (let ⟨o, e, _⟩ := hv; ⟨o, e⟩) ?_ fun y hy hne => ?_
    · by_cases hn : n = x
      · subst hn; rw [show f.cells.lookup n = some c from hc] at e; cases e; simpa using hv
      · have hcc : c' ≠ c := fun q => hn (name_of_addr X.apart (mem_of_lookup e) (q ▸ mem_of_lookup hc))
        simpa [hn] using (X.cell n c' e).sameBut hsb hcc
    · unfold vof; rw [if_neg (by rw [k1]; exact fun z => by cases z)]; simp
    · unfold vof
      split
      · rfl
      · simp [hne]
end
end Mine
end
section
set_option maxRecDepth 100000
namespace Mine
open PySem PyProof.Rows

noncomputable def Sm (s s' : Shared) : Prop := ∃ h tk, s' = { s with heap := h, toks := tk }
theorem Sm.refl (s : Shared) : Sm s s := ⟨s.heap, s.toks, rfl⟩
theorem Sm.trans {a b c : Shared} (x : Sm a b) (y : Sm b c) : Sm a c := by
  obtain ⟨h, t, rfl⟩ := x
  obtain ⟨h', t', rfl⟩ := y
  exact ⟨h', t', rfl⟩
theorem Sm.of_keeps {s s' : Shared} (x : Keeps s s') : Sm s s' := by obtain ⟨h, t, rfl, _⟩ := x; exact ⟨h, t, rfl⟩
theorem Sm.put (s : Shared) (h : Heap) (t : Nat) : Sm s { s with heap := h, toks := t } := ⟨h, t, rfl⟩
theorem Sm.puth {s s' : Shared} (x : Sm s s') (h : Heap) : Sm s { s' with heap := h } := by obtain ⟨h', t, rfl⟩ := x; exact ⟨h, t, rfl⟩

structure SX (G : GCtx) (Φ : Funs) (k : Nat) (C : Ctx) (ns : List Str) (f : Fm) (h₀ : Heap) (F : Addr → Prop) (A₀ : Around) : Prop where
  g : GOk G
  real : ∀ j args out, Φ j args = some out → j < k ∧ Realizes G j args out
  cg : CG G C
  K : FnOk C f.sc ns
  ok : ∃ s₀ : Shared, s₀.heap = h₀ ∧ Ok G (k + 1) A₀ s₀
  al : Alloc F h₀

section
variable {G : GCtx} {Φ : Funs} {k : Nat} {C : Ctx} {ns : List Str} {f : Fm} {h₀ : Heap} {F : Addr → Prop} {A₀ : Around} {own : Addr → Option Nat} {γ : Env'}

theorem SX.H (X : SX G Φ k C ns f h₀ F A₀) {s : Shared} (S : SI C ns f h₀ F own γ s.heap) : H G Φ k C γ (A₀.deeper f.env) f.env (FO F own) s := by
  obtain ⟨s₀, e0, ok⟩ := X.ok
  obtain ⟨⟨m, cm, F1, Y, sl⟩, ow⟩ := id S
  refine ⟨X.g, X.real, X.cg, ⟨ok.hh, ?_, ?_, ?_, ?_⟩, S.envOK X.K, fun a q => ?_⟩
  · have := ok.dp
    show A₀.depth + 1 + k < recursionLimit
    omega
  · have := ok.un
    show A₀.units + 3 + 8 * k + 200 < cLine
    omega
  · exact fun b o e => F1.keep b o (e0 ▸ ok.kb b o e)
  · obtain ⟨outer, e1, e2⟩ := ok.fr
    have hn : G.hB.get? f.L = none := by
      cases q : G.hB.get? f.L with
      | none => rfl
      | some o => exact absurd (Nat.lt_of_lt_of_le (Heap.lt_size (e0 ▸ ok.kb f.L o q)) F1.above) (Nat.lt_irrefl _)
    refine ⟨f.env :: outer, Around.frames_deeper e1, ?_, ?_, ?_⟩
    · show f.sc.kind ≠ .module
      rw [X.K.kind]; decide
    · obtain ⟨o, es, ep, z1, z2, _⟩ := F1.ns
      exact ⟨f.L, o, rfl, hn, z1, fun vs q => by rw [z2] at q; cases q⟩
    · exact e2.of_keeps fun b o e _ => ⟨o, F1.keep b o (e0 ▸ e), rfl⟩
  · rcases q with q | q
    · obtain ⟨o, e⟩ := X.al a q
      exact ⟨o, F1.keep a o e⟩
    · cases q' : own a with
      | none => exact absurd q' q
      | some j => obtain ⟨_, vs, n, e⟩ := ow a j q'; exact ⟨_, e⟩

noncomputable def drop (own : Addr → Option Nat) (i : Nat) : Addr → Option Nat := fun b => if own b = some i then none else own b
theorem drop_some {i j : Nat} {b : Addr} : drop own i b = some j ↔ own b = some j ∧ j ≠ i := by
  unfold drop
  split
  · rename_i h
    constructor
    · intro q; cases q
    · rintro ⟨q, hj⟩; rw [h] at q; cases q; exact (hj rfl).elim
  · rename_i h
    constructor
    · intro q; exact ⟨q, fun z => h (z ▸ q)⟩
    · exact fun q => q.1
theorem drop_ne {i : Nat} {b : Addr} (h : drop own i b ≠ none) : own b ≠ none := by
  unfold drop at h
  split at h
  · exact (h rfl).elim
  · exact h

theorem RD.rows {h : Heap} {F' : Addr → Prop} : ∀ {rs : List Addr} {dss : List (List PyData)}, rs.length = dss.length →
    (∀ (j : Nat) (r : Addr) (ds : List PyData), rs[j]? = some r → dss[j]? = some ds → ∃ vs, ¬ F' r ∧ h.PlainList r vs ∧ RDs h F' vs.toList ds) → RDs h F' (rs.map Value.ref) (dss.map PyData.list)
  | [], [], _, _ => .nil
  | [], _ :: _, e, _ => by simp at e
  | _ :: _, [], e, _ => by simp at e
  | r :: rs, ds :: dss, e, q => by
    obtain ⟨vs, h1, h2, h3⟩ := q 0 r ds rfl rfl
    exact .cons (.list h2 h1 h3) (RD.rows (by simpa using e) fun j r ds a b => q (j + 1) r ds (by simpa using a) (by simpa using b))

theorem SlotOK.frz {h : Heap} {i : Nat} {sl : Slot} {v : Option Value} (al : ∀ b, own b = some i → ¬ F b) (x : SlotOK h F own i sl v) : SlotOK h F (drop own i) i (frzS sl) v := by
  have hF : ∀ b, FO F (drop own i) b → FO F own b ∨ h.get? b = none := fun b q => .inl (q.imp id drop_ne)
  have nf : ∀ b, own b = some i → ¬ FO F (drop own i) b := fun b q z => by
    rcases z with z | z
    · exact al b q z
    · unfold drop at z; rw [if_pos q] at z; exact z rfl
  cases sl with
  | un => trivial
  | pl d => cases v with
    | none => exact x
    | some v => exact RD.weak hF x
  | b1 ds => cases v with
    | none => exact x
    | some v =>
      obtain ⟨a, vs, rfl, q2, q3, q4⟩ := x
      exact RD.list q3 (nf a q2) (RDs.weak hF q4)
  | b2 dss => cases v with
    | none => exact x
    | some v =>
      obtain ⟨a, rs, rfl, q2, q3, q4, q5, q6⟩ := x
      refine RD.list q3 (nf a q2) ?_
      have := RD.rows (h := h) (F' := FO F (drop own i)) q5 fun j r ds e1 e2 => by
        obtain ⟨vs, w1, w2, w3⟩ := q6 j r ds e1 e2
        exact ⟨vs, nf r w1, w2, RDs.weak hF w3⟩
      simpa using this

theorem SI.frz1 {h : Heap} (S : SI C ns f h₀ F own γ h) (al : Alloc F h₀) (i : Nat) : SI C ns f h₀ F (drop own i) (γ.modify i frzS) h ∧ Tr f own h (drop own i) h := by
  refine ⟨?_, ⟨fun _ _ e _ _ => e, fun b o e => ⟨o, e⟩, fun b q => .inl (drop_ne q)⟩⟩
  obtain ⟨⟨m, cm, F1, Y, sl⟩, ow⟩ := S
  refine ⟨⟨m, cm, F1, Y, fun j x sl' e1 e2 => ?_⟩, fun b j q => ow b j (drop_some.mp q).1⟩
  by_cases hji : j = i
  · subst hji
    rw [List.getElem?_modify] at e2
    simp only [if_true] at e2
    obtain ⟨s0, e3, rfl⟩ := Option.map_eq_some_iff.mp e2
    exact (sl j x s0 e1 e3).frz fun b q => al.fresh (ow b j q).1
  · rw [List.getElem?_modify] at e2
    simp only [Ne.symm hji, if_false, Option.map_id_fun', id] at e2
    exact (sl j x sl' e1 (by simpa using e2)).frame (fun b q => drop_some.mpr ⟨q, hji⟩) (fun b q => .inl (q.imp id drop_ne)) fun b o _ _ e _ _ => e
theorem SI.frz {h : Heap} (al : Alloc F h₀) : ∀ (is : List Nat) {own : Addr → Option Nat} {γ : Env'}, SI C ns f h₀ F own γ h → ∃ own', SI C ns f h₀ F own' (Mine.frz γ is) h ∧ Tr f own h own' h
  | [], own, _, S => ⟨own, S, Tr.of_keeps fun _ _ e => e⟩
  | i :: is, own, γ, S => by
    obtain ⟨S1, t1⟩ := S.frz1 al i
    obtain ⟨own', S2, t2⟩ := SI.frz al is S1
    exact ⟨own', S2, t1.trans t2⟩

/-- objects that are no part of the frame's state change -/
theorem SI.off {h h' : Heap} {wr : List Addr} (S : SI C ns f h₀ F own γ h) (hk : ∀ b o, b ∉ wr → h.get? b = some o → h'.get? b = some o)
    (hf : ∀ b ∈ wr, ¬ f.Fx b ∧ ∀ o vs n, h.get? b = some o → o.data ≠ .seq vs n) (hn : ∀ b ∈ wr, h₀.get? b = none) : SI C ns f h₀ F own γ h' := by
  obtain ⟨⟨m, cm, F1, Y, sl⟩, ow⟩ := S
  have off : ∀ b o vs n, h.get? b = some o → o.data = .seq vs n → h'.get? b = some o := fun b o vs n e d => hk b o (fun hw => (hf b hw).2 o vs n e d) e
  refine ⟨⟨m, cm, ⟨?_, fun b o e => hk b o (fun hw => by rw [hn b hw] at e; cases e) (F1.keep b o e), F1.above⟩, ⟨fun n c e => ?_, Y.apart, Y.above⟩, fun i x s e1 e2 => ?_⟩, fun b i q => ?_⟩
  · obtain ⟨o, es, ep, z1, r⟩ := F1.ns
    exact ⟨o, es, ep, hk _ o (fun hw => (hf _ hw).1 (.inl rfl)) z1, r⟩
  · obtain ⟨o, z1, z2⟩ := Y.cell n c e
    exact ⟨o, hk _ o (fun hw => (hf _ hw).1 (.inr ⟨n, e⟩)) z1, z2⟩
  · exact (sl i x s e1 e2).frame (fun _ q => q) (fun _ q => .inl q) fun b o vs n e d _ => off b o vs n e d
  · obtain ⟨q1, vs, n, q2⟩ := ow b i q
    exact ⟨q1, vs, n, off b _ _ _ q2 rfl⟩
theorem SI.notFx' {h : Heap} (S : SI C ns f h₀ F own γ h) {b : Addr} {o : Obj} {vs : Array Value} (e : h.get? b = some o) (d : o.data = .fields vs) : ¬ f.Fx b := by
  obtain ⟨⟨m, cm, F1, X, _⟩, _⟩ := S
  rintro (rfl | ⟨x, hx⟩)
  · obtain ⟨o', es, ep, z1, z2, _⟩ := F1.ns
    rw [e] at z1; cases z1; rw [d] at z2; cases z2
  · obtain ⟨o', z1, z2⟩ := X.cell x b hx
    rw [e] at z1; cases z1; rw [d] at z2; cases z2
theorem SI.there {h : Heap} (S : SI C ns f h₀ F own γ h) {b : Addr} (q : f.Fx b) : ∃ o, h.get? b = some o := by
  obtain ⟨⟨m, cm, F1, X, _⟩, _⟩ := S
  rcases q with rfl | ⟨x, hx⟩
  · obtain ⟨o', es, ep, z1, z2, _⟩ := F1.ns
    exact ⟨o', z1⟩
  · obtain ⟨o', z1, z2⟩ := X.cell x b hx
    exact ⟨o', z1⟩
/-- an iterator's own objects change -/
theorem SI.wr {h h' : Heap} {wr : List Addr} (S : SI C ns f h₀ F own γ h) (hk : ∀ b o, b ∉ wr → h.get? b = some o → h'.get? b = some o) (hf : ∀ b ∈ wr, ∃ o vs, h.get? b = some o ∧ o.data = .fields vs) (hn : ∀ b ∈ wr, h₀.get? b = none) :
    SI C ns f h₀ F own γ h' := S.off hk (fun b hb => by
  obtain ⟨o, vs, e, d⟩ := hf b hb
  exact ⟨S.notFx' e d, fun o' vs' n e' d' => by rw [e] at e'; cases e'; rw [d] at d'; cases d'⟩) hn
end
end Mine
end
section
set_option maxRecDepth 100000
namespace Mine
open PySem PyProof.Rows

theorem rowsD_of : ∀ {ds : List PyData} {rs : List (List PyData)}, rowsD ds = some rs → ds = rs.map PyData.list
  | [], rs, h => by simp [rowsD] at h; subst h; rfl
  | d :: ds, rs, h => by
    cases d <;> simp only [rowsD] at h <;> try cases h
    obtain ⟨rs', h1, h2⟩ := bind_some h
    cases h2
    rw [rowsD_of h1]
    rfl

section
variable {C : Ctx} {ns : List Str} {f : Fm} {h₀ : Heap} {F : Addr → Prop} {own : Addr → Option Nat} {γ : Env'} {M : Model} {A : Around} {E : Value → Shared → Prop} {s : Shared}

/-- what a statement leaves -/
abbrev Left (C : Ctx) (ns : List Str) (f : Fm) (h₀ : Heap) (F : Addr → Prop) (own : Addr → Option Nat) (s : Shared) (γ' : Env') (s' : Shared) : Prop :=
  ∃ own', SI C ns f h₀ F own' γ' s'.heap ∧ Tr f own s.heap own' s'.heap ∧ Sm s s'

theorem SI.h0 {h : Heap} (S : SI C ns f h₀ F own γ h) : KeepsH h₀ h := let ⟨⟨_, _, F1, _⟩, _⟩ := S; F1.keep

theorem store_pl {hs : Heap} {i : Nat} {x : Str} {v : Value} {d : PyData} {Q : Unit → Shared → Prop} (S : SI C ns f h₀ F own γ hs) (K : FnOk C f.sc ns) (k : KeepsH hs s.heap) (hx : ns[i]? = some x)
    (rv : RD s.heap (FO F own) v d)
    (hQ : ∀ h' tk, SI C ns f h₀ F (drop own i) (γ.set i (.pl d)) h' → Tr f own hs (drop own i) h' → (∀ b o, s.heap.get? b = some o → ¬ f.Fx b → h'.get? b = some o) → Q () { s with heap := h', toks := tk }) :
    wpAny M A (storeName f.env x v) Q E s :=
  S.store (own' := drop own i) (sl := .pl d) K k hx (fun b j hj q => drop_some.mpr ⟨q, hj⟩) (fun b j _ q => (drop_some.mp q).1) (fun b q => .inl (drop_ne q)) (fun b q => ((drop_some.mp q).2 rfl).elim)
    (show RD s.heap (FO F (drop own i)) v d from RD.weak (fun b (q : FO F (drop own i) b) => .inl (q.imp id drop_ne)) rv) hQ

theorem store_slot {hs : Heap} {i : Nat} {x : Str} {v : Value} {r : PyData × Nat} {Q : Unit → Shared → Prop} (S : SI C ns f h₀ F own γ hs) (K : FnOk C f.sc ns) (k : KeepsH hs s.heap) (hx : ns[i]? = some x)
    (rv : Val (FO F own) hs s.heap v r)
    (hQ : ∀ own' h' tk, SI C ns f h₀ F own' (γ.set i (mkSlot r)) h' → Tr f own hs own' h' → (∀ b o, s.heap.get? b = some o → ¬ f.Fx b → h'.get? b = some o) → Q () { s with heap := h', toks := tk }) :
    wpAny M A (storeName f.env x v) Q E s := by
  have pl : ∀ d, mkSlot r = .pl d → r.1 = d → wpAny M A (storeName f.env x v) Q E s := fun d e1 e2 => store_pl S K k hx (e2 ▸ rv.1) fun h' tk S' t' kb => hQ _ h' tk (e1 ▸ S') t' kb
  obtain ⟨d, l⟩ := r
  by_cases h1 : ∃ ds, d = .list ds ∧ l = 1
  · obtain ⟨ds, rfl, rfl⟩ := h1
    obtain ⟨a, vs, ds', rfl, q1, q2, q3, q4⟩ := rv.2.1 rfl
    cases q1
    have na : own a = none := by
      cases e : own a with
      | none => rfl
      | some j => obtain ⟨_, vs, n, z⟩ := S.own a j e; rw [q2] at z; cases z
    refine S.store (own' := fun b => if b = a then some i else drop own i b) (sl := .b1 ds) K k hx (fun b j hj q => ?_) (fun b j hj q => ?_) (fun b q => ?_) (fun b q => ?_) ⟨a, vs, rfl, by simp, q3, q4.weak fun b q => .inl ?_⟩ fun h' tk S' t' kb => hQ _ h' tk S' t' kb
    · have : b ≠ a := fun z => by rw [z, na] at q; cases q
      simp only [this, if_false]
      exact drop_some.mpr ⟨q, hj⟩
    · by_cases z : b = a
      · simp only [z, if_true] at q; cases q; exact (hj rfl).elim
      · simp only [z, if_false] at q; exact (drop_some.mp q).1
    · by_cases z : b = a
      · rw [z]; exact .inr q2
      · simp only [z, if_false] at q; exact .inl (drop_ne q)
    · by_cases z : b = a
      · rw [z]; exact ⟨S.h0.none q2, vs, q3⟩
      · simp only [z, if_false] at q; exact ((drop_some.mp q).2 rfl).elim
    · rcases q with q | q
      · exact .inl (.inl q)
      · by_cases z : b = a
        · exact .inr z
        · simp only [z, if_false] at q; exact .inl (.inr (drop_ne q))
  · by_cases h2 : ∃ rs, d = .list (rs.map PyData.list) ∧ l = 2 ∧ mkSlot (d, l) = .b2 rs
    · obtain ⟨rows, rfl, rfl, hm⟩ := h2
      rw [hm] at hQ
      obtain ⟨a, rs, ds', rfl, q1, q2, q3, q4, q5, q6⟩ := rv.2.2 rfl
      simp only [PyData.list.injEq] at q1
      subst q1
      rw [List.length_map] at q5
      have na : ∀ b, hs.get? b = none → own b = none := fun b e => by
        cases e' : own b with
        | none => rfl
        | some j => obtain ⟨_, vs, n, z⟩ := S.own b j e'; rw [e] at z; cases z
      have nr : ∀ b ∈ rs, hs.get? b = none ∧ ∃ vs, s.heap.PlainList b vs := fun b hb => by
        obtain ⟨j, hj⟩ := List.getElem?_of_mem hb
        have hlt : j < rows.length := by have := (List.getElem?_eq_some_iff.mp hj).1; omega
        obtain ⟨vs, xs, _, w2, w3, _⟩ := q6 j b (.list rows[j]) hj (by simp [hlt])
        exact ⟨w2, vs, w3⟩
      have nn : ∀ b, b = a ∨ b ∈ rs → hs.get? b = none ∧ ∃ vs, s.heap.PlainList b vs := fun b q => by
        rcases q with rfl | q
        · exact ⟨q2, _, q3⟩
        · exact nr b q
      refine S.store (own' := fun b => if b = a ∨ b ∈ rs then some i else drop own i b) (sl := .b2 rows) K k hx (fun b j hj q => ?_) (fun b j hj q => ?_) (fun b q => ?_) (fun b q => ?_) ⟨a, rs, rfl, by simp, q3, q4, q5, fun j r ds e1 e2 => ?_⟩ fun h' tk S' t' kb => hQ _ h' tk S' t' kb
      · have : ¬ (b = a ∨ b ∈ rs) := fun z => by rw [na b (nn b z).1] at q; cases q
        simp only [this, if_false]
        exact drop_some.mpr ⟨q, hj⟩
      · by_cases z : b = a ∨ b ∈ rs
        · simp only [z, if_true] at q; cases q; exact (hj rfl).elim
        · simp only [z, if_false] at q; exact (drop_some.mp q).1
      · by_cases z : b = a ∨ b ∈ rs
        · exact .inr (nn b z).1
        · simp only [z, if_false] at q; exact .inl (drop_ne q)
      · by_cases z : b = a ∨ b ∈ rs
        · exact ⟨S.h0.none (nn b z).1, (nn b z).2⟩
        · simp only [z, if_false] at q; exact ((drop_some.mp q).2 rfl).elim
      · obtain ⟨vs, xs, w1, w2, w3, w4⟩ := q6 j r (.list ds) e1 (by simp [e2])
        cases w1
        refine ⟨vs, by simp [List.mem_of_getElem? e1], w3, w4.weak fun b q => .inl ?_⟩
        rcases q with q | q
        · exact .inl (.inl q)
        · by_cases z : b = a ∨ b ∈ rs
          · exact .inr z
          · simp only [z, if_false] at q; exact .inl (.inr (drop_ne q))
    · refine pl d ?_ rfl
      unfold mkSlot
      split
      · rename_i ds e1 e2
        exact (h1 ⟨ds, e1, e2⟩).elim
      · rename_i ds e1 e2
        split
        · rename_i rs hr
          have hd := rowsD_of hr
          simp only at e1 e2
          subst e1 e2
          refine (h2 ⟨rs, by rw [hd], rfl, ?_⟩).elim
          unfold mkSlot
          simp only [hr]
        · exact congrArg Slot.pl e1.symm
      · rfl
end
end Mine
end
section
set_option maxRecDepth 100000
namespace Mine
open PySem PyProof.Rows

section
variable {prog : Program} {w : World} {A : Around} {s : Shared}
theorem setItem_plain {E : Value → Shared → Prop} {l : Addr} {items : Array Value} {k : Int} {t : Tok} {v : Value} {Q : Unit → Shared → Prop} (hl : s.heap.PlainList l items) (h0 : 0 ≤ k) (hfit : k < 2 ^ 63) (hn : k < items.size)
    (hQ : ∀ h', h'.PlainList l (items.setIfInBounds k.toNat v) → Heap.SameBut l s.heap h' → Q () { s with heap := h' }) : wpAny (model prog w) A (setItem (.ref l) (.int k t) v) Q E s := by
  obtain ⟨n, ho⟩ := hl
  refine PySem.W.ki_setAt ho h0 hfit hn (hQ _ ⟨n, ?_⟩ (Heap.SameBut.update ..))
  have e : Obj.mapSeq (·.setIfInBounds k.toNat v) { cls := .type "list", data := .seq items n } = { cls := .type "list", data := .seq (items.setIfInBounds k.toNat v) n } := by simp [Obj.mapSeq]
  rw [Heap.get?_update_self _ ho (by rw [e]; rfl), e]
theorem insert_plain {E : Value → Shared → Prop} {l : Addr} {items : Array Value} {k : Int} {t : Tok} {v : Value} {Q : Value → Shared → Prop} (hl : s.heap.PlainList l items) (h0 : 0 ≤ k) (hfit : k < 2 ^ 62) (hsz : items.size ≤ sizeLine)
    (hQ : ∀ h' ys, ys.toList = items.toList.take k.toNat ++ v :: items.toList.drop k.toNat → h'.PlainList l ys → Heap.SameBut l s.heap h' → Q .none { s with heap := h' }) : wpAny (model prog w) A (call (.builtin "list.insert") [.ref l, .int k t, v]) Q E s := by
  obtain ⟨n, ho⟩ := hl
  refine call_meets PySem.F.slot_list_insert ⟨_, ho, rfl⟩ PySem.F.entry_list_insert (PySem.F.args_list_insert_3 _ _ _) (AutoListH.list_insert_list_int_val_1 l items n k t v (by simp [Builtin.List.listFitsIndex]; omega) hsz) ⟨ho, ?_⟩
  have e : ∃ m, Obj.mapSeq (fun xs => have k' := if k < 0 then (k + ((xs.size : Nat) : Int)).toNat else min k.toNat xs.size; (xs.extract 0 k').push v ++ xs.extract k') { cls := .type "list", data := .seq items n } =
      { cls := .type "list", data := .seq ((items.extract 0 (min k.toNat items.size)).push v ++ items.extract (min k.toNat items.size)) m } := by
    unfold Obj.mapSeq
    simp only [show ¬ k < 0 by omega, if_false]
    exact ⟨_, rfl⟩
  obtain ⟨m, e⟩ := e
  refine hQ _ ((items.extract 0 (min k.toNat items.size)).push v ++ items.extract (min k.toNat items.size)) ?_ ⟨m, ?_⟩ (Heap.SameBut.update ..)
  · simp only [Array.toList_append, Array.toList_push, Array.toList_extract, List.append_assoc, List.singleton_append]
    have e1 : items.toList.take (min k.toNat items.size) = items.toList.take k.toNat := by
      rcases Nat.le_total k.toNat items.size with h | h
      · rw [Nat.min_eq_left h]
      · rw [Nat.min_eq_right h, List.take_of_length_le (by simp), List.take_of_length_le (by simpa using h)]
    have e2 : items.toList.drop (min k.toNat items.size) = items.toList.drop k.toNat := by
      rcases Nat.le_total k.toNat items.size with h | h
      · rw [Nat.min_eq_left h]
      · rw [Nat.min_eq_right h, List.drop_of_length_le (by simp), List.drop_of_length_le (by simpa using h)]
    have e3 : List.take (items.size - min k.toNat items.size) (items.toList.drop (min k.toNat items.size)) = items.toList.drop (min k.toNat items.size) := List.take_of_length_le (by simp)
    simp
    rw [e3, e1, e2]
  · rw [Heap.get?_update_self _ ho (by rw [e]; rfl), e]
end

section
variable {C : Ctx} {ns : List Str} {f : Fm} {h₀ : Heap} {F : Addr → Prop} {own : Addr → Option Nat} {γ : Env'}
/-- a list that the frame owns changes -/
theorem SI.mut {h h' : Heap} {m cm : Str → Option Value} {a : Addr} {i : Nat} {x : Str} {sl : Slot} (F1 : Fr h₀ f.L h m) (Y : Cl f.L f.cells h cm)
    (sls : ∀ (i : Nat) (x : Str) (sl : Slot), ns[i]? = some x → γ[i]? = some sl → SlotOK h F own i sl (vof f.sc m cm x)) (ow : ∀ b i, own b = some i → h₀.get? b = none ∧ ∃ vs, h.PlainList b vs)
    (ha : own a = some i) (hs : Heap.SameBut a h h') (hp : ∃ vs, h'.PlainList a vs) (hx : ns[i]? = some x)
    (hsl : SlotOK h' F own i sl (vof f.sc m cm x)) : SI C ns f h₀ F own (γ.set i sl) h' ∧ Tr f own h own h' := by
  obtain ⟨q0, vs0, n0, ho⟩ := ow a i ha
  have hnf : ¬ f.Fx a := SI.notFx (C := C) (ns := ns) (γ := γ) ⟨⟨m, cm, F1, Y, sls⟩, ow⟩ ho rfl
  have ne : ∀ b o, h.get? b = some o → b ≠ a → h'.get? b = some o := fun b o e z => hs.extBut b o z e
  refine ⟨⟨⟨m, cm, ⟨?_, fun b o e => ne b o (F1.keep b o e) (fun z => by rw [z, q0] at e; cases e), F1.above⟩, ⟨fun n c e => ?_, Y.apart, Y.above⟩, fun j y sl' e1 e2 => ?_⟩, fun b j q => ?_⟩, fun b o e q _ => ne b o e (fun z => by rw [z, ha] at q; cases q), fun b o e => ?_, fun b q => .inl q⟩
  · exact F1.ns.sameBut hs (fun z => hnf (.inl z.symm))
  · exact (Y.cell n c e).sameBut hs (fun z => hnf (.inr ⟨n, z ▸ e⟩))
  · by_cases hji : j = i
    · subst hji
      have hlt : j < γ.length := by have := (List.getElem?_eq_some_iff.mp e2).1; simpa using this
      rw [List.getElem?_set_self hlt] at e2
      cases e2
      rw [hx] at e1
      cases e1
      exact hsl
    · rw [List.getElem?_set_ne (Ne.symm hji)] at e2
      refine (sls j y sl' e1 e2).frame (fun _ q => q) (fun _ q => .inl q) fun b o vs n e d q => ne b o e fun z => ?_
      subst z
      rw [ho] at e
      cases e
      rcases q with q | q | ⟨_, q⟩
      · rw [ha] at q; cases q; exact hji rfl
      · exact cls_ne (by decide) q
      · exact q (.inr (by rw [ha]; exact fun z => by cases z))
  · obtain ⟨q1, vs, n, q2⟩ := ow b j q
    by_cases z : b = a
    · subst z; exact ⟨q1, hp⟩
    · exact ⟨q1, vs, n, ne b _ q2 z⟩
  · by_cases z : b = a
    · subst z; obtain ⟨vs, n, e'⟩ := hp; exact ⟨_, e'⟩
    · exact ⟨o, ne b o e z⟩
end
end Mine
end
section
set_option maxRecDepth 100000
namespace Mine
open PySem PyProof.Rows

/-- the slot that a name gets -/
noncomputable def slotFor (b : Bool) (r : PyData × Nat) : Slot := if b then mkSlot r else .pl r.1

section
variable {G : GCtx} {Φ : Funs} {k : Nat} {C : Ctx} {ns : List Str} {f : Fm} {h₀ : Heap} {F : Addr → Prop} {A₀ : Around} {own : Addr → Option Nat} {γ : Env'} {s : Shared} {E : Value → Shared → Prop}

theorem store_for {hs : Heap} {i : Nat} {x : Str} {v : Value} {r : PyData × Nat} {M : Model} {A : Around} {Q : Unit → Shared → Prop} (b : Bool) (S : SI C ns f h₀ F own γ hs) (K : FnOk C f.sc ns) (k : KeepsH hs s.heap) (hx : ns[i]? = some x)
    (rv : Val (FO F own) hs s.heap v r)
    (hQ : ∀ own' h' tk, SI C ns f h₀ F own' (γ.set i (slotFor b r)) h' → Tr f own hs own' h' → (∀ b o, s.heap.get? b = some o → ¬ f.Fx b → h'.get? b = some o) → Q () { s with heap := h', toks := tk }) :
    wpAny M A (storeName f.env x v) Q E s := by
  cases b with
  | true => exact store_slot S K k hx rv hQ
  | false => exact store_pl S K k hx rv.1 fun h' tk S' t' kb => hQ _ h' tk S' t' kb

theorem swaps_name (value : PySem.Expr) (x : Str) (px : Pos) (n : Nat) (env : Env) : swapsWith value (some (.Name x px)) n env = pure false ∨ (∃ elt gens sc p, value = .ListComp elt gens sc p ∧ swapsWith value (some (.Name x px)) n env = pure true) ∨ (∀ C, cE C value = none) := by
  cases value with
  | ListComp elt gens sc p =>
    cases hb : (env.blockKind == .function && env.kindOf x == some .local && px.line == (PySem.Expr.ListComp elt gens sc p).pos.line && !(sc.names.any fun (n, k) => n == x && (k == .local || k == .cell)))
    · left
      show (pure _ : Sem Bool) = _
      rw [hb]
    · right; left
      refine ⟨elt, gens, sc, p, rfl, ?_⟩
      show (pure _ : Sem Bool) = _
      rw [hb]
  | SetComp => right; right; intro C; rfl
  | DictComp => right; right; intro C; rfl
  | _ => left; rfl

theorem SX.comp (X : SX G Φ k C ns f h₀ F A₀) (S : SI C ns f h₀ F own γ s.heap) {elt : PySem.Expr} {gens : List Comprehension} {sc : Scope} {pos spos : Pos} {e : PE} {x : Str} {px : Pos} {i : Nat} {r : PyData × Nat} {Q : Flow → Shared → Prop} (b : Bool)
    (h : cE C (.ListComp elt gens sc pos) = some e) (he : evE Φ γ e = some r) (hx : ns[i]? = some x) (hsw : swapsWith (.ListComp elt gens sc pos) (some (.Name x px)) spos.line f.env = pure true)
    (hQ : ∀ s', Left C ns f h₀ F own s (γ.set i (slotFor b r)) s' → Q .next s') :
    wpAny (model G.prog G.w) (A₀.deeper f.env) (exec (.Assign [.Name x px] (.ListComp elt gens sc pos) spos) f.env) Q E s := by
  have hH := X.H S
  obtain ⟨y, h1, h⟩ := bind_some h
  obtain ⟨hc, h⟩ := ifB h
  have hc := CompOk.of hc
  obtain ⟨it, h2, h⟩ := bind_some h
  obtain ⟨a, h3, h⟩ := bind_some h
  cases h
  obtain ⟨py, iter, rfl⟩ := gen1_of h1
  obtain ⟨xs, e1, he⟩ := bind_some he
  obtain ⟨rs, e2, he⟩ := bind_some he
  obtain ⟨hlen, hall⟩ := mapM_some e2
  have h2 : (cR C iter).or ((cE C iter).map PI.of) = some it := h2
  rw [exec_Assign_Name_used _ _ _ _ hsw]
  refine wpAny_bind (wpAny_standAt (wpAny_bind ?_))
  show wpAny _ _ (do let _ ← comprehension (.ListComp elt [⟨.Name y py, iter, [], 0⟩] sc pos) sc f.env _ (newList []) false (eval iter f.env) (some (assign (.Name x px) f.env))) _ _ s
  refine wpAny_bind (wpAny_mono (wpAny_comprehension_free (use := some (assign (.Name x px) f.env)) (Q := fun _ s' => Q .next s') rfl (folded_of (C := C) h2 f.env) (comp_closure hc hH.env) hc.kind hc.names ?_) (fun _ s' hq => wpAny_pure (wpAny_pure hq)) fun _ _ e => e)
  refine sndIA iter C it h2 hH e1 fun I fp wr P St s₂ iti => ?_
  refine comp_core (rs := rs) (RR := fun acc Cc => compPost (model G.prog G.w) (A₀.deeper f.env) E (some (assign (.Name x px) f.env)) (fun _ s' => Q .next s') acc Cc) iti hH.al hc.cell hc.kind hc.loc hlen ?_ ?_
  · intro i d r Cc v s₃ m₃ F' Q' E' hd hr hns hm rd ks hF' al' hQ'
    obtain ⟨r', q1, q2⟩ := hall i d hd
    rw [hr] at q2
    cases q2
    exact sndE elt (compCtx C y sc) a h3 ⟨hH.g, hH.real, ⟨hH.cg.fns, hH.cg.cons, hH.cg.excs⟩, hH.ok.keeps ks, comp_env hc hH.env hns hm rd ks hF', al'⟩ q1 hQ'
  · intro D Cc h' tk m' ys hD hC hDC hns hl hm hkp
    obtain ⟨q1, q2⟩ := comp_fin (tk' := tk) iti hH.al hD hC hDC hns hl hm hkp (.refl ..)
    have kh : KeepsH s.heap h' := Keeps.heap q1
    have hCf : ¬ f.Fx Cc := fun z => by
      obtain ⟨o, e⟩ := (S.keeps (Keeps.heap iti.keeps)).there z
      rw [hC] at e; cases e
    have hC0 : h₀.get? Cc = none := KeepsH.none S.h0 (KeepsH.none (Keeps.heap iti.keeps) hC)
    have hCs : s.heap.get? Cc = none := KeepsH.none (Keeps.heap iti.keeps) hC
    show wpAny _ _ (assign (.Name x px) f.env (.ref D)) _ _ _
    refine wpAny_assign_Name (store_for (s := { s₂ with heap := h', toks := tk }) b S X.K kh hx ((Option.some.inj he) ▸ q2) fun own' h₂ tk₂ S₂ t₂ kb => ?_)
    have hns₂ : h₂.Ns Cc m' := by
      obtain ⟨o, es, ep, z1, r⟩ := hns
      exact ⟨o, es, ep, kb _ o z1 hCf, r⟩
    refine ⟨m', hns₂, fun h₃ hs₃ => hQ _ ⟨own', ?_, ?_, ?_⟩⟩
    · refine S₂.off (wr := [Cc]) (fun b o hb e => hs₃.extBut b o (fun z => hb (by simp [z])) e) (fun b hb => ?_) (fun b hb => by simp at hb; subst hb; exact hC0)
      simp at hb
      subst hb
      obtain ⟨o, es, ep, z1, z2, _⟩ := hns₂
      exact ⟨hCf, fun o' vs n e d => by rw [z1] at e; cases e; rw [z2] at d; cases d⟩
    · have t₃ : Tr f own' h₂ own' h₃ → Tr f own s.heap own' h₃ := fun t => t₂.trans t
      refine ⟨fun b o e e1 e2 => hs₃.extBut b o (fun z => by rw [z, hCs] at e; cases e) (t₂.keep b o e e1 e2), fun b o e => ?_, t₂.own⟩
      obtain ⟨o', e'⟩ := t₂.there b o e
      exact ⟨o', hs₃.extBut b o' (fun z => by rw [z, hCs] at e; cases e) e'⟩
    · obtain ⟨hh, tt, rfl, _⟩ := iti.keeps
      exact ⟨h₃, tk₂, rfl⟩

/-- x = value -/
theorem SX.asgName (X : SX G Φ k C ns f h₀ F A₀) (S : SI C ns f h₀ F own γ s.heap) {value : PySem.Expr} {spos : Pos} {e : PE} {x : Str} {px : Pos} {i : Nat} {r : PyData × Nat} {Q : Flow → Shared → Prop} (b : Bool)
    (h : cE C value = some e) (he : evE Φ γ e = some r) (hx : ns[i]? = some x)
    (hQ : ∀ s', Left C ns f h₀ F own s (γ.set i (slotFor b r)) s' → Q .next s') :
    wpAny (model G.prog G.w) (A₀.deeper f.env) (exec (.Assign [.Name x px] value spos) f.env) Q E s := by
  rcases swaps_name value x px spos.line f.env with hs | ⟨elt, gens, sc, p, rfl, hs⟩ | hs
  · refine wpAny_Assign_Name (sndE value C e h (X.H S) he fun v s₁ k1 v1 => store_for b S X.K (Keeps.heap k1) hx v1 fun own' h' tk S' t' _ => hQ _ ⟨own', S', t', ?_⟩) hs
    exact (Sm.of_keeps k1).trans (Sm.put _ _ _)
  · exact X.comp S b h he hx hs hQ
  · rw [hs C] at h; cases h
end
end Mine
end
section
set_option maxRecDepth 100000
namespace Mine
open PySem PyProof.Rows

section
variable {G : GCtx} {Φ : Funs} {k : Nat} {C : Ctx} {ns : List Str} {f : Fm} {h₀ : Heap} {F : Addr → Prop} {A₀ : Around} {own : Addr → Option Nat} {γ : Env'} {s : Shared} {E : Value → Shared → Prop}

/-- stores of frozen data, one behind the other -/
theorem storesN {M : Model} {A : Around} (K : FnOk C f.sc ns) : ∀ (L : List ((Value → Sem Unit) × Nat × Str)) (vs : List Value) (ds : List PyData) {hs : Heap} {own : Addr → Option Nat} {γ γ' : Env'} {s : Shared} {Q : Unit → Shared → Prop},
    (∀ p ∈ L, ns[p.2.1]? = some p.2.2 ∧ ∀ v s' Q', wpAny M A (storeName f.env p.2.2 v) Q' E s' → wpAny M A (p.1 v) Q' E s') → SI C ns f h₀ F own γ hs → KeepsH hs s.heap → RDs s.heap (FO F own) vs ds →
    setN γ (L.map (·.2.1)) ds = some γ' →
    (∀ own' h' tk, SI C ns f h₀ F own' γ' h' → Tr f own hs own' h' → Q () { s with heap := h', toks := tk }) → wpAny M A (assignInOrder (L.map (·.1)) vs) Q E s
  | [], vs, ds, hs, own, γ, γ', s, Q, _, S, k, r, e, hQ => by
    cases ds with
    | nil =>
      simp only [List.map_nil, setN] at e
      cases e
      cases r
      exact wpAny_pure (hQ own s.heap s.toks (S.keeps k) (Tr.of_keeps k))
    | cons d ds => simp [setN] at e
  | p :: L, vs, ds, hs, own, γ, γ', s, Q, hL, S, k, r, e, hQ => by
    cases r with
    | nil => simp [setN] at e
    | cons rv r =>
      simp only [List.map_cons, setN] at e
      obtain ⟨hx, hp⟩ := hL p (.head _)
      show wpAny M A (do holding _ (p.1 _); assignInOrder (L.map (·.1)) _) Q E s
      refine wpAny_bind (wpAny_holding (hp _ _ _ (store_pl S K k hx rv fun h' tk S' t' kb => ?_)))
      refine storesN K L _ _ (fun q hq => hL q (.tail _ hq)) S' (fun _ _ e => e) (r.move (fun b q => .inl (q.imp id drop_ne)) fun b o vs n e d _ => kb b o e ((S.keeps k).notFx e d)) e fun own' h'' tk' S'' t'' => ?_
      exact hQ own' h'' tk' S'' (t'.trans t'')

theorem cNames_of : ∀ {ts : List PySem.Expr} {is : List Nat}, FnOk C f.sc ns → cNames C ts = some is →
    ∃ xs : List (Str × Pos), ts = xs.map (fun x => PySem.Expr.Name x.1 x.2) ∧ is.length = xs.length ∧ is.Nodup ∧ ∀ (j : Nat) (i : Nat) (x : Str × Pos), is[j]? = some i → xs[j]? = some x → ns[i]? = some x.1
  | [], is, K, h => by simp [cNames] at h; subst h; exact ⟨[], rfl, rfl, .nil, by simp⟩
  | t :: ts, is, K, h => by
    unfold cNames at h
    split at h
    · rename_i heq; cases heq
    · rename_i x p r heq
      cases heq
      obtain ⟨i, h1, h⟩ := bind_some h
      obtain ⟨js, h2, h⟩ := bind_some h
      split at h
      · cases h
      · rename_i hni
        cases h
        obtain ⟨xs, e1, e2, e3, e4⟩ := cNames_of K h2
        refine ⟨(x, p) :: xs, by simp [e1], by simp [e2], ?_, fun j i' x' q1 q2 => ?_⟩
        · rw [List.nodup_cons]
          exact ⟨by simpa using hni, e3⟩
        · cases j with
          | zero =>
            simp at q1 q2
            subst q1 q2
            have := slot_ns h1
            rw [K.nsEq, List.getElem?_map] at this
            obtain ⟨y, hy, hyx⟩ := Option.map_eq_some_iff.mp this
            cases hyx
            exact hy
          | succ j => exact e4 j i' x' (by simpa using q1) (by simpa using q2)
    · cases h

theorem assignEach_names (env : Env) : ∀ xs : List (Str × Pos), assignEach (xs.map fun x => PySem.Expr.Name x.1 x.2) env = xs.map fun x => (false, assign (.Name x.1 x.2) env)
  | [] => rfl
  | x :: xs => by
    show (false, assign (.Name x.1 x.2) env) :: assignEach (xs.map fun x => PySem.Expr.Name x.1 x.2) env = _
    rw [assignEach_names env xs]; rfl

theorem setN_len : ∀ {is : List Nat} {ds : List PyData} {γ γ' : Env'}, setN γ is ds = some γ' → is.length = ds.length
  | [], [], _, _, _ => rfl
  | [], _ :: _, _, _, h => by simp [setN] at h
  | _ :: _, [], _, _, h => by simp [setN] at h
  | i :: is, d :: ds, γ, γ', h => by
    simp only [setN] at h
    simp [setN_len h]

theorem swaps_tuple {value : PySem.Expr} {pe : PE} (h : cE C value = some pe) (elts : List PySem.Expr) (kk : Nat) (tp : Pos) (n : Nat) (env : Env) : swapsWithSole [.Tuple elts kk tp] value n env = pure false := by
  cases value <;> first | rfl | cases h

theorem noStar : ∀ {vs : List PySem.Expr} {ps : PEs}, cEs C vs = some ps → (vs.any fun | .Starred .. => true | _ => false) = false
  | [], _, _ => rfl
  | v :: vs, ps, h => by
    obtain ⟨p, h1, h⟩ := bind_some h
    obtain ⟨q, h2, h⟩ := bind_some h
    rw [List.any_cons, noStar h2]
    cases v <;> first | rfl | cases h1

theorem swapped_two {vs : List PySem.Expr} {k2 kk : Nat} {p2 tp xpa xpb : Pos} {xa xb : Str} {env : Env} (c1 : vs.length = 2) (hk : env.blockKind = .function) (ka : env.kindOf xa = some .local) (kb : env.kindOf xb = some .local) (c4 : xpa.line = xpb.line) (c5 : ¬ xa = xb)
    (c6 : vs.all (foldedForSure 8) = false) (c7 : vs.all (constantsAlone 8) = false) (hst : (vs.any fun | .Starred .. => true | _ => false) = false) :
    swappedStores [.Tuple [.Name xa xpa, .Name xb xpb] kk tp] (.Tuple vs k2 p2) env = pure (some [xa, xb]) := by
  refine (if_neg ?_).trans ((if_neg ?_).trans ?_)
  · show ¬ ((!(true || false) || vs.length != 2 || env.blockKind != .function) = true)
    rw [c1, hk]; decide
  · exact fun z => Bool.noConfusion (z.symm.trans hst)
  · have e : ([PySem.Expr.Name xa xpa, .Name xb xpb].filterMap fun
        | .Name id pos => if env.kindOf id == some .local && pos.line == xpa.line then some id else none
        | _ => none) = [xa, xb] := by
      rw [List.filterMap_cons_some (b := xa) (by show (if _ then _ else _) = _; rw [ka, beq_self_eq_true, beq_self_eq_true]; rfl), List.filterMap_cons_some (b := xb) (by show (if _ then _ else _) = _; rw [kb, c4, beq_self_eq_true, beq_self_eq_true]; rfl)]
      rfl
    refine Eq.trans (b := (if ([xa, xb].length != 2 || [xa, xb].eraseDups.length != [xa, xb].length) = true then pure none else if vs.all (foldedForSure 8) = true then pure none else if vs.all (constantsAlone 8) = true then (do let _ ← (unsupported "assign.tuple-of-constant-expressions:order-of-the-stores" : Sem PUnit); pure (some [xa, xb])) else pure (some [xa, xb]))) ?_ ?_
    · rw [← e]; rfl
    · rw [if_neg, if_neg, if_neg]
      · rw [c7]; decide
      · rw [c6]; decide
      · have c5' : ¬ xb = xa := fun z => c5 z.symm
        have : [xa, xb].eraseDups = [xa, xb] := by simp [List.eraseDups_cons, c5']
        rw [this]
        exact fun z => Bool.noConfusion (show false = true from z)
/-- x, y = value -/
theorem SX.asgN (X : SX G Φ k C ns f h₀ F A₀) (S : SI C ns f h₀ F own γ s.heap) {value : PySem.Expr} {spos tp : Pos} {kk : Nat} {ts : List PySem.Expr} {is : List Nat} {e : PE} {l : Nat} {ds : List PyData} {γ' : Env'} {Q : Flow → Shared → Prop}
    (hc : swapChk C ts value = true) (hn : cNames C ts = some is) (h : cE C value = some e) (he : evE Φ γ e = some (.tuple ds, l)) (hs : setN γ is ds = some γ')
    (hQ : ∀ s', Left C ns f h₀ F own s γ' s' → Q .next s') :
    wpAny (model G.prog G.w) (A₀.deeper f.env) (exec (.Assign [.Tuple ts kk tp] value spos) f.env) Q E s := by
  have hH := X.H S
  obtain ⟨xs, rfl, hlen, hnd, hix⟩ := cNames_of X.K hn
  have hl := setN_len hs
  by_cases hv : isTup value = true
  · cases value with
    | Tuple vs k2 p2 =>
      obtain ⟨_, hc⟩ := Option.isSome_iff_exists.mp (show ((two (xs.map fun x => PySem.Expr.Name x.1 x.2)).bind fun ab => (nm ab.1).bind fun a => (nm ab.2).bind fun b =>
        if vs.length == 2 && C.kinds.lookup a.1 == some .local && C.kinds.lookup b.1 == some .local && a.2.line == b.2.line && a.1 != b.1 && !(vs.all (foldedForSure 8)) && !(vs.all (constantsAlone 8)) then some () else none).isSome = true from hc)
      obtain ⟨ab, z1, hc⟩ := bind_some hc
      obtain ⟨⟨a, pa⟩, z2, hc⟩ := bind_some hc
      obtain ⟨⟨b, pb⟩, z3, hc⟩ := bind_some hc
      obtain ⟨hc, _⟩ := ifB hc
      have hts := two_of z1
      rw [nm_of z2, nm_of z3] at hts
      simp only [Bool.and_eq_true, beq_iff_eq, bne_iff_ne, Bool.not_eq_true', ne_eq] at hc
      obtain ⟨⟨⟨⟨⟨⟨c1, c2⟩, c3⟩, c4⟩, c5⟩, c6⟩, c7⟩ := hc
      obtain ⟨x1, xs, rfl⟩ : ∃ x xs', xs = x :: xs' := by cases xs with | nil => simp at hts | cons x r => exact ⟨_, _, rfl⟩
      obtain ⟨x2, xs, rfl⟩ : ∃ x xs', xs = x :: xs' := by cases xs with | nil => simp at hts | cons x r => exact ⟨_, _, rfl⟩
      obtain ⟨xa, xpa⟩ := x1
      obtain ⟨xb, xpb⟩ := x2
      simp only [List.map_cons, List.cons.injEq, PySem.Expr.Name.injEq, List.map_eq_nil_iff] at hts
      obtain ⟨⟨rfl, rfl⟩, ⟨rfl, rfl⟩, rfl⟩ := hts
      obtain ⟨i, is, rfl⟩ : ∃ x xs', is = x :: xs' := by cases is with | nil => simp at hlen | cons x r => exact ⟨_, _, rfl⟩
      obtain ⟨j, is, rfl⟩ : ∃ x xs', is = x :: xs' := by cases is with | nil => simp at hlen | cons x r => exact ⟨_, _, rfl⟩
      have : is = [] := by simpa using hlen
      subst this
      obtain ⟨d1, ds, rfl⟩ : ∃ x xs', ds = x :: xs' := by cases ds with | nil => simp at hl | cons x r => exact ⟨_, _, rfl⟩
      obtain ⟨d2, ds, rfl⟩ : ∃ x xs', ds = x :: xs' := by cases ds with | nil => simp at hl | cons x r => exact ⟨_, _, rfl⟩
      have : ds = [] := by simpa using hl.symm
      subst this
      have hij : i ≠ j := by simpa using hnd
      simp only [setN] at hs
      rw [List.set_comm _ _ hij] at hs
      have hk0 : f.env.scope.kind = .function := X.K.kind
      have hk : f.env.blockKind = .function := by simp [Env.blockKind, hk0]
      have ka : f.env.kindOf xa = some .local := by show f.sc.names.lookup xa = _; rw [← X.K.kinds]; exact c2
      have kb : f.env.kindOf xb = some .local := by show f.sc.names.lookup xb = _; rw [← X.K.kinds]; exact c3
      have hst : (vs.any fun | .Starred .. => true | _ => false) = false := by
        obtain ⟨_, h⟩ := ifB h
        obtain ⟨ps, h1, _⟩ := bind_some h
        exact noStar h1
      have hw : swappedStores [.Tuple [.Name xa xpa, .Name xb xpb] kk tp] (.Tuple vs k2 p2) f.env = pure (some [xa, xb]) := by
        exact swapped_two c1 hk ka kb c4 c5 c6 c7 hst
      refine Assign_Tuple_swapped (names := [xa, xb]) (sndE _ C e h hH he fun v s₁ k1 v1 => ?_) (swaps_tuple h _ _ _ _ _) hw
      obtain ⟨t, items, rfl, ht, r⟩ := v1.1.tuple_inv
      have e1 := r.length
      simp only [Array.length_toList] at e1
      have e2 : ([xa, xb] : List Str).length = items.size := by rw [e1]; rfl
      rw [e2]
      refine unpackItems_tuple hH.ok.hh ht fun h' he' => ?_
      have k2 : KeepsH s₁.heap h' := fun b o e => he' b o (Nat.ne_of_lt (Heap.lt_size e)) e
      obtain ⟨w1, w2, hi⟩ : ∃ w1 w2, items.toList = [w1, w2] := by
        have h3 : items.toList.length = 2 := by rw [Array.length_toList, e1]; rfl
        cases hi : items.toList with
        | nil => rw [hi] at h3; cases h3
        | cons w1 it =>
          cases it with
          | nil => rw [hi] at h3; cases h3
          | cons w2 it =>
            cases it with
            | nil => exact ⟨_, _, rfl⟩
            | cons _ _ => rw [hi] at h3; simp at h3
      rw [hi] at r ⊢
      cases r with
      | cons r1 r =>
          cases r with
          | cons r2 r =>
            cases r
            have := storesN (E := E) (M := model G.prog G.w) (A := A₀.deeper f.env) (F := F) X.K [(bindName f.env xb, j, xb), (bindName f.env xa, i, xa)] [w2, w1] [d2, d1] (hs := s.heap) (own := own) (γ := γ) (γ' := γ')
              (s := { s₁ with heap := h' }) (Q := fun _ s' => Q .next s') (fun p hp => ?_) S ((Keeps.heap k1).trans k2) (.cons (r2.keeps k2) (.cons (r1.keeps k2) .nil)) (by simpa [setN] using hs) fun own' h'' tk S'' t'' => hQ _ ⟨own', S'', t'', ?_⟩
            · simpa using this
            · simp at hp
              rcases hp with rfl | rfl
              · exact ⟨hix 1 j (xb, xpb) rfl rfl, fun v s' Q' hw => wpAny_bindName hw⟩
              · exact ⟨hix 0 i (xa, xpa) rfl rfl, fun v s' Q' hw => wpAny_bindName hw⟩
            · exact (Sm.of_keeps k1).trans ⟨h'', tk, rfl⟩
    | _ => cases hv
  · have hw : swappedStores [.Tuple (xs.map fun x => PySem.Expr.Name x.1 x.2) kk tp] value f.env = pure none := by
      cases value <;> first | rfl | exact absurd rfl hv
    refine Assign_Tuple (sndE value C e h hH he fun v s₁ k1 v1 => ?_) (swaps_tuple h _ _ _ _ _) hw
    obtain ⟨t, items, rfl, ht, r⟩ := v1.1.tuple_inv
    have e1 := r.length
    simp only [Array.length_toList] at e1
    refine wpAny_assign_Tuple hH.ok.hh ht ?_ ?_ fun h' he' => ?_
    · rw [assignEach_names]; simp; omega
    · rw [assignEach_names]; simp
    · rw [assignEach_names]
      have k2 : KeepsH s₁.heap h' := fun b o e => he' b o (Nat.ne_of_lt (Heap.lt_size e)) e
      have := storesN (E := E) (M := model G.prog G.w) (A := A₀.deeper f.env) (F := F) X.K ((is.zip xs).map fun p => (assign (.Name p.2.1 p.2.2) f.env, p.1, p.2.1)) items.toList ds (hs := s.heap) (own := own) (γ := γ) (γ' := γ')
        (s := { s₁ with heap := h' }) (Q := fun _ s' => Q .next s') (fun p hp => ?_) S ((Keeps.heap k1).trans k2) (r.keeps k2) ?_ fun own' h'' tk S'' t'' => hQ _ ⟨own', S'', t'', ?_⟩
      · have e5 : ∀ {β : Type} (g : Str × Pos → β), (is.zip xs).map (fun p => g p.2) = xs.map g := fun g => by
          rw [show (fun p : Nat × Str × Pos => g p.2) = g ∘ Prod.snd from rfl, ← List.map_map, List.map_snd_zip (by omega)]
        have e6 := e5 fun x => assign (.Name x.1 x.2) f.env
        simp only [List.map_map, Function.comp_def] at this ⊢
        rw [e6] at this
        exact this
      · obtain ⟨q, hq, rfl⟩ := List.mem_map.mp hp
        obtain ⟨j, hj⟩ := List.getElem?_of_mem hq
        obtain ⟨h1, h2⟩ := List.getElem?_zip_eq_some.mp hj
        exact ⟨hix j q.1 q.2 h1 h2, fun v s' Q' hw => wpAny_assign_Name hw⟩
      · rw [List.map_map, show ((fun x : (Value → Sem Unit) × Nat × Str => x.2.1) ∘ fun p : Nat × Str × Pos => (assign (.Name p.2.1 p.2.2) f.env, p.1, p.2.1)) = Prod.fst from rfl, List.map_fst_zip (by omega)]
        exact hs
      · exact (Sm.of_keeps k1).trans ⟨h'', tk, rfl⟩
end
end Mine
end
section
set_option maxRecDepth 100000
namespace Mine
open PySem PyProof.Rows

theorem sub_ix {e : PySem.Expr} (h : isIx e = true) (l i u) : subscripted e false (.ref l) (.int i u) = operate [.ref l, .int i u] (getItem (.ref l) (.int i u)) := by
  cases e <;> first | (with_unfolding_all rfl) | cases h

theorem posD_of {p : PyData} {n k : Nat} (h : posD p n = some k) : ∃ i : Int, p = .int i ∧ 0 ≤ i ∧ i < 2 ^ 62 ∧ i.toNat = k ∧ k < n := by
  unfold posD at h
  split at h
  · rename_i i
    split at h <;> cases h
    rename_i hc
    simp only [Bool.and_eq_true, decide_eq_true_eq] at hc
    have : (lenLim : Int) = 1048576 := by decide
    exact ⟨i, rfl, hc.1.1, by omega, rfl, hc.2⟩
  · cases h

section
variable {G : GCtx} {Φ : Funs} {k : Nat} {C : Ctx} {ns : List Str} {f : Fm} {h₀ : Heap} {F : Addr → Prop} {A₀ : Around} {own : Addr → Option Nat} {γ : Env'} {s : Shared} {E : Value → Shared → Prop}

theorem has_of {h : Heap} {m cm : Str → Option Value} {x : Str} {v : Value} (K : FnOk C f.sc ns) (F1 : Fr h₀ f.L h m) (Y : Cl f.L f.cells h cm) (hx : x ∈ ns) (hv : vof f.sc m cm x = some v) : Has f.env h x v := by
  rcases K.var x hx with ⟨k1, k2⟩ | ⟨k1, k2⟩
  · refine .inl ⟨k1, k2 _, m, F1.ns, ?_⟩
    unfold vof at hv
    rw [if_pos k1] at hv
    exact hv
  · obtain ⟨c, hc⟩ := k2 (f.L + 1)
    refine .inr ⟨.inl k1, c, hc, ?_⟩
    unfold vof at hv
    rw [if_neg (by rw [k1]; exact fun z => by cases z)] at hv
    have := Y.cell x c hc
    rw [hv] at this
    exact this

theorem bld_of {x : Str} {i : Nat} (K : FnOk C f.sc ns) (h : bld C x = some i) : ns[i]? = some x ∧ (x == ("__debug__" : Str)) = false := by
  unfold bld at h
  obtain ⟨j, h1, h2⟩ := bind_some h
  obtain ⟨h3, rfl⟩ := ifS h2
  have := slot_ns h1
  rw [K.nsEq, List.getElem?_map] at this
  obtain ⟨y, hy, hyx⟩ := Option.map_eq_some_iff.mp this
  cases hyx
  simp only [Bool.and_eq_true] at h3
  exact ⟨hy, by simpa using h3.2⟩

/-- the one slot at hand, a list of one layer -/
structure B1 (C : Ctx) (ns : List Str) (f : Fm) (h₀ : Heap) (F : Addr → Prop) (own : Addr → Option Nat) (γ : Env') (h : Heap) (i : Nat) (x : Str) (ds : List PyData) (a : Addr) (vs : Array Value) (m cm : Str → Option Value) : Prop where
  F1 : Fr h₀ f.L h m
  Y : Cl f.L f.cells h cm
  sls : ∀ (i : Nat) (x : Str) (sl : Slot), ns[i]? = some x → γ[i]? = some sl → SlotOK h F own i sl (vof f.sc m cm x)
  ow : ∀ b i, own b = some i → h₀.get? b = none ∧ ∃ vs, h.PlainList b vs
  has : Has f.env h x (.ref a)
  v : vof f.sc m cm x = some (.ref a)
  oa : own a = some i
  pl : h.PlainList a vs
  rd : RDs h (FO F own) vs.toList ds
theorem SI.b1 {h : Heap} {i : Nat} {x : Str} {ds : List PyData} (S : SI C ns f h₀ F own γ h) (K : FnOk C f.sc ns) (hx : ns[i]? = some x) (hs : γ[i]? = some (.b1 ds)) : ∃ a vs m cm, B1 C ns f h₀ F own γ h i x ds a vs m cm := by
  obtain ⟨⟨m, cm, F1, Y, sls⟩, ow⟩ := S
  have h1 := sls i x _ hx hs
  cases hv : vof f.sc m cm x with
  | none => rw [hv] at h1; exact h1.elim
  | some v =>
    rw [hv] at h1
    obtain ⟨a, vs, rfl, q1, q2, q3⟩ := h1
    exact ⟨a, vs, m, cm, F1, Y, sls, ow, has_of K F1 Y (List.mem_of_getElem? hx) hv, hv, q1, q2, q3⟩
theorem B1.keeps {h h' : Heap} {i : Nat} {x : Str} {ds : List PyData} {a : Addr} {vs : Array Value} {m cm : Str → Option Value} (B : B1 C ns f h₀ F own γ h i x ds a vs m cm) (hk : KeepsH h h') : B1 C ns f h₀ F own γ h' i x ds a vs m cm :=
  ⟨B.F1.after hk, B.Y.keeps hk, fun i x sl e1 e2 => (B.sls i x sl e1 e2).frame (fun _ q => q) (fun _ q => .inl q) fun b o _ _ e _ _ => hk b o e, fun b i q => ⟨(B.ow b i q).1, let ⟨vs, n, e⟩ := (B.ow b i q).2; ⟨vs, n, hk _ _ e⟩⟩,
    B.has.keeps hk, B.v, B.oa, let ⟨n, e⟩ := B.pl; ⟨n, hk _ _ e⟩, B.rd.keeps hk⟩
/-- its list turned -/
theorem B1.turn {h h' : Heap} {i : Nat} {x : Str} {ds ds' : List PyData} {a : Addr} {vs vs' : Array Value} {m cm : Str → Option Value} (B : B1 C ns f h₀ F own γ h i x ds a vs m cm) (hx : ns[i]? = some x) (hs : Heap.SameBut a h h') (hp : h'.PlainList a vs')
    (hr : RDs h (FO F own) vs'.toList ds') : SI C ns f h₀ F own (γ.set i (.b1 ds')) h' ∧ Tr f own h own h' := by
  refine SI.mut B.F1 B.Y B.sls B.ow B.oa hs ⟨_, hp⟩ hx ?_
  rw [B.v]
  obtain ⟨n0, ho⟩ := B.pl
  refine ⟨a, vs', rfl, B.oa, hp, hr.frame fun b o ws n e d q => hs.extBut b o (fun z => ?_) e⟩
  subst z
  rw [ho] at e
  cases e
  rcases q with q | ⟨_, q⟩
  · exact cls_ne (by decide) q
  · exact q (.inr (by rw [B.oa]; exact fun z => by cases z))

/-- x.append(e) -/
theorem SX.app (X : SX G Φ k C ns f h₀ F A₀) (S : SI C ns f h₀ F own γ s.heap) {x : Str} {px ap cp spos : Pos} {a : PySem.Expr} {i : Nat} {e : PE} {r : PyData × Nat} {γ' : Env'} {Q : Flow → Shared → Prop}
    (hb : bld C x = some i) (hline : (ap.endLine == cp.line) = true) (h : cE C a = some e) (he : evE Φ γ e = some r) (hs : appS γ i r = some γ')
    (hQ : ∀ s', Left C ns f h₀ F own s γ' s' → Q .next s') :
    wpAny (model G.prog G.w) (A₀.deeper f.env) (exec (.Expr (.Call (.Attribute (.Name x px) ("append" : Str) ap) [a] [] cp) spos) f.env) Q E s := by
  have hH := X.H S
  obtain ⟨hx, hd⟩ := bld_of X.K hb
  unfold appS at hs
  split at hs
  · rename_i ds hsl
    obtain ⟨hlen, rfl⟩ := ifS hs
    obtain ⟨ad, vs, m, cm, B⟩ := S.b1 X.K hx hsl
    have hp : cEs C [a] = some (.cons e .nil) := bnd' h rfl
    refine wpAny_Expr ?_ (by show interactive f.env = false; unfold interactive; rw [show f.env.scope.kind = .function from X.K.kind]; rfl)
    refine wpAny_Call_method (T := "list") (id := "list.append") rfl (by rw [star_of h]; rfl) hline PySem.F.plainAttrs_list PySem.F.slot_list_append PySem.F.type_list_append (name_has X.K.kind B.has ⟨B.pl.isList.typeIs, fun b hb => ?_, ?_⟩ hd)
    · cases hb
      obtain ⟨n, e'⟩ := B.pl
      exact ⟨_, e', rfl⟩
    · refine Calls.callWith_builtin (stars_plain hp) (args_of hp rfl (sndEsA [a] C _ hp cp hH (xs := [r.1]) (bnd' he rfl) fun ws s₁ k1 _ r1 => ?_))
      cases r1 with | cons v1 r1 =>
        cases r1
        have B1 := B.keeps (Keeps.heap k1)
        have e1 := B1.rd.length
        simp only [Array.length_toList] at e1
        refine wpAny_list_append_plain B1.pl (fun h' hp' hs' => ?_) (lenLim_size (by omega))
        obtain ⟨S', t'⟩ := B1.turn hx hs' hp' (ds' := ds ++ [r.1]) (by rw [Array.toList_push]; exact B1.rd.append (.cons v1 .nil))
        exact hQ _ ⟨own, S', (Tr.of_keeps (Keeps.heap k1)).trans t', (Sm.of_keeps k1).puth h'⟩
  · cases hs

/-- x.insert(p, e) -/
theorem SX.ins (X : SX G Φ k C ns f h₀ F A₀) (S : SI C ns f h₀ F own γ s.heap) {x : Str} {px ap cp spos : Pos} {b a : PySem.Expr} {i : Nat} {p e : PE} {q r : PyData × Nat} {γ' : Env'} {Q : Flow → Shared → Prop}
    (hb : bld C x = some i) (hline : (ap.endLine == cp.line) = true) (hp : cE C b = some p) (h : cE C a = some e) (hep : evE Φ γ p = some q) (he : evE Φ γ e = some r) (hs : insS γ i q.1 r = some γ')
    (hQ : ∀ s', Left C ns f h₀ F own s γ' s' → Q .next s') :
    wpAny (model G.prog G.w) (A₀.deeper f.env) (exec (.Expr (.Call (.Attribute (.Name x px) ("insert" : Str) ap) [b, a] [] cp) spos) f.env) Q E s := by
  have hH := X.H S
  obtain ⟨hx, hd⟩ := bld_of X.K hb
  unfold insS at hs
  split at hs
  · rename_i ds kk hsl hq
    obtain ⟨hc, rfl⟩ := ifS hs
    simp only [Bool.and_eq_true, decide_eq_true_eq] at hc
    obtain ⟨⟨c1, c2⟩, c3⟩ := hc
    have c4 : (lenLim : Int) = 1048576 := by decide
    obtain ⟨ad, vs, m, cm, B⟩ := S.b1 X.K hx hsl
    have hp2 : cEs C [b, a] = some (.cons p (.cons e .nil)) := bnd' hp (bnd' (x := (cE C a).bind _) (bnd' h rfl) rfl)
    refine wpAny_Expr ?_ (by show interactive f.env = false; unfold interactive; rw [show f.env.scope.kind = .function from X.K.kind]; rfl)
    refine wpAny_Call_method (T := "list") (id := "list.insert") rfl (by rw [star_of hp, star_of h]; rfl) hline PySem.F.plainAttrs_list PySem.F.slot_list_insert PySem.F.type_list_insert (name_has X.K.kind B.has ⟨B.pl.isList.typeIs, fun b hb => ?_, ?_⟩ hd)
    · cases hb
      obtain ⟨n, e'⟩ := B.pl
      exact ⟨_, e', rfl⟩
    · refine Calls.callWith_builtin (stars_plain hp2) (args_of hp2 rfl (sndEsA [b, a] C _ hp2 cp hH (xs := [q.1, r.1]) (es2 hep he) fun ws s₁ k1 _ r1 => ?_))
      cases r1 with | cons v0 r1 => cases r1 with | cons v1 r1 =>
        cases r1
        rw [hq] at v0
        obtain ⟨t, rfl⟩ := v0.int_inv
        have B1 := B.keeps (Keeps.heap k1)
        have e1 := B1.rd.length
        simp only [Array.length_toList] at e1
        refine insert_plain B1.pl c1 (by omega) (lenLim_size (by omega)) fun h' ys hys hp' hs' => ?_
        obtain ⟨S', t'⟩ := B1.turn hx hs' hp' (ds' := ds.take kk.toNat ++ r.1 :: ds.drop kk.toNat) (by rw [hys]; exact (B1.rd.take _).append (.cons v1 (B1.rd.drop _)))
        exact hQ _ ⟨own, S', (Tr.of_keeps (Keeps.heap k1)).trans t', (Sm.of_keeps k1).puth h'⟩
  · cases hs
end
end Mine
end
section
set_option maxRecDepth 100000
namespace Mine
open PySem PyProof.Rows

theorem nodup_set {α : Type} {r : α} : ∀ {rs : List α} (j : Nat), rs.Nodup → r ∉ rs → (rs.set j r).Nodup
  | [], _, h, _ => by simpa using h
  | x :: rs, 0, h, hr => by
    rw [List.set_cons_zero, List.nodup_cons]
    exact ⟨fun z => hr (.tail _ z), (List.nodup_cons.mp h).2⟩
  | x :: rs, j + 1, h, hr => by
    rw [List.set_cons_succ, List.nodup_cons]
    obtain ⟨h1, h2⟩ := List.nodup_cons.mp h
    refine ⟨fun z => ?_, nodup_set j h2 fun z => hr (.tail _ z)⟩
    rcases List.mem_or_eq_of_mem_set z with z | z
    · exact h1 z
    · exact hr (z ▸ .head _)

section
variable {G : GCtx} {Φ : Funs} {k : Nat} {C : Ctx} {ns : List Str} {f : Fm} {h₀ : Heap} {F : Addr → Prop} {A₀ : Around} {own : Addr → Option Nat} {γ : Env'} {s : Shared} {E : Value → Shared → Prop}

theorem swaps_sub (value o i : PySem.Expr) (p : Pos) (n : Nat) (env : Env) : swapsWith value (some (.Subscript o i p)) n env = pure false := by
  cases value <;> rfl

theorem toList_set (vs : Array Value) (k : Nat) (v : Value) : (vs.setIfInBounds k v).toList = vs.toList.set k v := by simp

/-- the slot at hand, a list of two layers -/
structure B2 (C : Ctx) (ns : List Str) (f : Fm) (h₀ : Heap) (F : Addr → Prop) (own : Addr → Option Nat) (γ : Env') (h : Heap) (i : Nat) (x : Str) (dss : List (List PyData)) (a : Addr) (rs : List Addr) (m cm : Str → Option Value) : Prop where
  F1 : Fr h₀ f.L h m
  Y : Cl f.L f.cells h cm
  sls : ∀ (i : Nat) (x : Str) (sl : Slot), ns[i]? = some x → γ[i]? = some sl → SlotOK h F own i sl (vof f.sc m cm x)
  ow : ∀ b i, own b = some i → h₀.get? b = none ∧ ∃ vs, h.PlainList b vs
  has : Has f.env h x (.ref a)
  v : vof f.sc m cm x = some (.ref a)
  oa : own a = some i
  pl : h.PlainList a (rs.map Value.ref).toArray
  nd : (a :: rs).Nodup
  len : rs.length = dss.length
  rows : ∀ (j : Nat) (r : Addr) (ds : List PyData), rs[j]? = some r → dss[j]? = some ds → ∃ vs, own r = some i ∧ h.PlainList r vs ∧ RDs h (FO F own) vs.toList ds
theorem SI.b2 {h : Heap} {i : Nat} {x : Str} {dss : List (List PyData)} (S : SI C ns f h₀ F own γ h) (K : FnOk C f.sc ns) (hx : ns[i]? = some x) (hs : γ[i]? = some (.b2 dss)) : ∃ a rs m cm, B2 C ns f h₀ F own γ h i x dss a rs m cm := by
  obtain ⟨⟨m, cm, F1, Y, sls⟩, ow⟩ := S
  have h1 := sls i x _ hx hs
  cases hv : vof f.sc m cm x with
  | none => rw [hv] at h1; exact h1.elim
  | some v =>
    rw [hv] at h1
    obtain ⟨a, rs, rfl, q1, q2, q3, q4, q5⟩ := h1
    exact ⟨a, rs, m, cm, F1, Y, sls, ow, has_of K F1 Y (List.mem_of_getElem? hx) hv, hv, q1, q2, q3, q4, q5⟩
theorem B2.keeps {h h' : Heap} {i : Nat} {x : Str} {dss : List (List PyData)} {a : Addr} {rs : List Addr} {m cm : Str → Option Value} (B : B2 C ns f h₀ F own γ h i x dss a rs m cm) (hk : KeepsH h h') : B2 C ns f h₀ F own γ h' i x dss a rs m cm :=
  ⟨B.F1.after hk, B.Y.keeps hk, fun i x sl e1 e2 => (B.sls i x sl e1 e2).frame (fun _ q => q) (fun _ q => .inl q) fun b o _ _ e _ _ => hk b o e, fun b i q => ⟨(B.ow b i q).1, let ⟨vs, n, e⟩ := (B.ow b i q).2; ⟨vs, n, hk _ _ e⟩⟩,
    B.has.keeps hk, B.v, B.oa, (let ⟨n, e⟩ := B.pl; ⟨n, hk _ _ e⟩), B.nd, B.len, fun j r ds e1 e2 => let ⟨vs, w1, ⟨n, w2⟩, w3⟩ := B.rows j r ds e1 e2; ⟨vs, w1, ⟨n, hk _ _ w2⟩, w3.keeps hk⟩⟩

/-- one of its rows turned -/
theorem B2.turn {h h' : Heap} {i j : Nat} {x : Str} {dss : List (List PyData)} {ds ds' : List PyData} {a r : Addr} {rs : List Addr} {vs' : Array Value} {m cm : Str → Option Value} (B : B2 C ns f h₀ F own γ h i x dss a rs m cm) (hx : ns[i]? = some x)
    (hr : rs[j]? = some r) (hd : dss[j]? = some ds) (hs : Heap.SameBut r h h') (hp : h'.PlainList r vs') (hrd : RDs h (FO F own) vs'.toList ds') : SI C ns f h₀ F own (γ.set i (.b2 (dss.set j ds'))) h' ∧ Tr f own h own h' := by
  obtain ⟨vs, w1, ⟨n0, ho⟩, _⟩ := B.rows j r ds hr hd
  have ne : ∀ b o ws n, h.get? b = some o → o.data = .seq ws n → (o.cls = .type "tuple" ∨ (o.cls = .type "list" ∧ ¬ FO F own b)) → h'.get? b = some o := fun b o ws n e d q => hs.extBut b o (fun z => by
    subst z
    rw [ho] at e
    cases e
    rcases q with q | ⟨_, q⟩
    · exact cls_ne (by decide) q
    · exact q (.inr (by rw [w1]; exact fun z => by cases z))) e
  have hra : a ≠ r := fun z => by
    have := B.nd
    rw [List.nodup_cons] at this
    exact this.1 (z ▸ List.mem_of_getElem? hr)
  refine SI.mut B.F1 B.Y B.sls B.ow w1 hs ⟨_, hp⟩ hx ?_
  rw [B.v]
  obtain ⟨n1, ha⟩ := B.pl
  refine ⟨a, rs, rfl, B.oa, ⟨n1, hs.extBut a _ hra ha⟩, B.nd, by rw [List.length_set]; exact B.len, fun j' r' ds₂ e1 e2 => ?_⟩
  by_cases hj : j' = j
  · subst hj
    rw [hr] at e1
    cases e1
    rw [List.getElem?_set_self (List.getElem?_eq_some_iff.mp hd).1] at e2
    cases e2
    exact ⟨vs', w1, hp, hrd.frame ne⟩
  · rw [List.getElem?_set_ne (Ne.symm hj)] at e2
    obtain ⟨vs2, u1, ⟨n2, u2⟩, u3⟩ := B.rows j' r' ds₂ e1 e2
    have hrr : r' ≠ r := fun z => by
      subst z
      have := (List.nodup_cons.mp B.nd).2
      exact hj ((List.getElem?_inj (List.getElem?_eq_some_iff.mp e1).1 this).mp (e1.trans hr.symm))
    exact ⟨vs2, u1, ⟨n2, hs.extBut r' _ hrr u2⟩, u3.frame ne⟩

/-- a new row in an old one's place; hs: the heap at the statement's start -/
theorem B2.put {hs h h' : Heap} {i j : Nat} {x : Str} {dss : List (List PyData)} {ds : List PyData} {a r : Addr} {rs : List Addr} {vs : Array Value} {m cm : Str → Option Value} (B : B2 C ns f h₀ F own γ hs i x dss a rs m cm) (hx : ns[i]? = some x)
    (hk : KeepsH hs h) (hj : j < dss.length) (hn : hs.get? r = none) (hp : h.PlainList r vs) (hrd : RDs h (fun b => FO F own b ∨ b = r) vs.toList ds) (hsb : Heap.SameBut a h h') (hpa : h'.PlainList a ((rs.set j r).map Value.ref).toArray) :
    ∃ own', SI C ns f h₀ F own' (γ.set i (.b2 (dss.set j ds))) h' ∧ Tr f own hs own' h' := by
  have nr : own r = none := by
    cases e : own r with
    | none => rfl
    | some j => obtain ⟨_, ws, n, z⟩ := B.ow r j e; rw [hn] at z; cases z
  obtain ⟨n1, ha⟩ := B.pl
  have har : a ≠ r := fun z => by rw [z, hn] at ha; cases ha
  have hanf : ¬ f.Fx a := SI.notFx (C := C) (ns := ns) (γ := γ) ⟨⟨m, cm, B.F1, B.Y, B.sls⟩, B.ow⟩ ha rfl
  have ha0 := (B.ow a i B.oa).1
  have hF : ∀ b, FO F (fun b => if b = r then some i else own b) b → FO F own b ∨ hs.get? b = none := fun b q => by
    rcases q with q | q
    · exact .inl (.inl q)
    · by_cases z : b = r
      · rw [z]; exact .inr hn
      · simp only [z, if_false] at q; exact .inl (.inr q)
  have kk : ∀ b o ws n, hs.get? b = some o → o.data = .seq ws n → (o.cls = .type "tuple" ∨ (o.cls = .type "list" ∧ ¬ FO F own b)) → h'.get? b = some o := fun b o ws n e d q => hsb.extBut b o (fun z => by
    subst z
    rw [ha] at e
    cases e
    rcases q with q | ⟨_, q⟩
    · exact cls_ne (by decide) q
    · exact q (.inr (by rw [B.oa]; exact fun z => by cases z))) (hk b o e)
  refine ⟨fun b => if b = r then some i else own b, ⟨⟨m, cm, ⟨?_, fun b o e => hsb.extBut b o (fun z => by rw [z, ha0] at e; cases e) (hk b o (B.F1.keep b o e)), B.F1.above⟩, ⟨fun n c e => ?_, B.Y.apart, B.Y.above⟩, fun l y sl' e1 e2 => ?_⟩, fun b l q => ?_⟩, fun b o e q _ => hsb.extBut b o (fun z => by rw [z, B.oa] at q; cases q) (hk b o e), fun b o e => ?_, fun b q => ?_⟩
  · obtain ⟨o, es, ep, z1, rst⟩ := B.F1.ns
    exact ⟨o, es, ep, hsb.extBut _ o (fun z => hanf (.inl z.symm)) (hk _ o z1), rst⟩
  · obtain ⟨o, z1, z2⟩ := B.Y.cell n c e
    exact ⟨o, hsb.extBut _ o (fun z => hanf (.inr ⟨n, z ▸ e⟩)) (hk _ o z1), z2⟩
  · by_cases hl : l = i
    · subst hl
      have hlt : l < γ.length := by have := (List.getElem?_eq_some_iff.mp e2).1; simpa using this
      rw [List.getElem?_set_self hlt] at e2
      cases e2
      rw [hx] at e1
      cases e1
      rw [B.v]
      have hjr : j < rs.length := by rw [B.len]; exact hj
      refine ⟨a, rs.set j r, rfl, by simp [har, B.oa], hpa, ?_, by simp [B.len], fun j' r' ds₂ e1 e2 => ?_⟩
      · obtain ⟨h1, h2⟩ := List.nodup_cons.mp B.nd
        refine List.nodup_cons.mpr ⟨fun z => ?_, nodup_set j h2 fun z => ?_⟩
        · rcases List.mem_or_eq_of_mem_set z with z | z
          · exact h1 z
          · exact har z
        · obtain ⟨l', hl'⟩ := List.getElem?_of_mem z
          have hlt' : l' < dss.length := by have := (List.getElem?_eq_some_iff.mp hl').1; rw [B.len] at this; exact this
          obtain ⟨_, _, ⟨n, z2⟩, _⟩ := B.rows l' r dss[l'] hl' (List.getElem?_eq_getElem hlt')
          rw [hn] at z2; cases z2
      · by_cases hjj : j' = j
        · subst hjj
          rw [List.getElem?_set_self hjr] at e1
          cases e1
          rw [List.getElem?_set_self hj] at e2
          cases e2
          obtain ⟨n, hp⟩ := hp
          refine ⟨vs, by simp, ⟨n, hsb.extBut r _ (Ne.symm har) hp⟩, RDs.move (fun b q => .inl ?_) (fun b o ws n e d q => hsb.extBut b o (fun z => ?_) e) hrd⟩
          · rcases q with q | q
            · exact .inl (.inl q)
            · by_cases z : b = r
              · exact .inr z
              · simp only [z, if_false] at q; exact .inl (.inr q)
          · subst z
            rw [hk _ _ ha] at e
            cases e
            rcases q with q | ⟨_, q⟩
            · exact cls_ne (by decide) q
            · exact q (.inl (.inr (by rw [B.oa]; exact fun z => by cases z)))
        · rw [List.getElem?_set_ne (Ne.symm hjj)] at e1 e2
          obtain ⟨vs2, u1, ⟨n2, u2⟩, u3⟩ := B.rows j' r' ds₂ e1 e2
          have hr'a : r' ≠ a := fun z => (List.nodup_cons.mp B.nd).1 (z ▸ List.mem_of_getElem? e1)
          have hr'r : r' ≠ r := fun z => by rw [z, hn] at u2; cases u2
          exact ⟨vs2, by simp [hr'r, u1], ⟨n2, hsb.extBut r' _ hr'a (hk _ _ u2)⟩, u3.move hF kk⟩
    · rw [List.getElem?_set_ne (Ne.symm hl)] at e2
      refine (B.sls l y sl' e1 e2).frame (fun b q => ?_) hF fun b o ws n e d q => ?_
      · have : b ≠ r := fun z => by rw [z, nr] at q; cases q
        simp [this, q]
      · rcases q with q | q
        · refine hsb.extBut b o (fun z => ?_) (hk b o e)
          subst z
          rw [B.oa] at q; cases q; exact hl rfl
        · exact kk b o ws n e d q
  · by_cases z : b = r
    · subst z
      obtain ⟨n, hp⟩ := hp
      exact ⟨KeepsH.none B.F1.keep hn, vs, n, hsb.extBut b _ (Ne.symm har) hp⟩
    · simp only [z, if_false] at q
      obtain ⟨q1, ws, n, q2⟩ := B.ow b l q
      by_cases z' : b = a
      · subst z'; exact ⟨q1, _, hpa⟩
      · exact ⟨q1, ws, n, hsb.extBut b _ z' (hk _ _ q2)⟩
  · by_cases z : b = a
    · subst z; obtain ⟨n, e'⟩ := hpa; exact ⟨_, e'⟩
    · exact ⟨o, hsb.extBut b o z (hk b o e)⟩
  · by_cases z : b = r
    · rw [z]; exact .inr hn
    · simp only [z, if_false] at q; exact .inl q

/-- x[p] = e -/
theorem SX.put (X : SX G Φ k C ns f h₀ F A₀) (S : SI C ns f h₀ F own γ s.heap) {x : Str} {px sp spos : Pos} {ix value : PySem.Expr} {i : Nat} {p e : PE} {q r : PyData × Nat} {γ' : Env'} {Q : Flow → Shared → Prop}
    (hb : bld C x = some i) (hp : cE C ix = some p) (h : cE C value = some e) (hep : evE Φ γ p = some q) (he : evE Φ γ e = some r) (hs : putS γ i q.1 r = some γ')
    (hQ : ∀ s', Left C ns f h₀ F own s γ' s' → Q .next s') :
    wpAny (model G.prog G.w) (A₀.deeper f.env) (exec (.Assign [.Subscript (.Name x px) ix sp] value spos) f.env) Q E s := by
  have hH := X.H S
  obtain ⟨hx, hd⟩ := bld_of X.K hb
  refine wpAny_Assign_Subscript (sndE value C e h hH he fun v s₁ k1 v1 => ?_) (swaps_sub ..)
  unfold putS at hs
  split at hs
  · rename_i ds hsl
    obtain ⟨kk, hk, hs⟩ := bind_some hs
    cases hs
    obtain ⟨ii, hi, i0, i62, itn, ilt⟩ := posD_of hk
    obtain ⟨a, vs, m, cm, B⟩ := S.b1 X.K hx hsl
    refine name_has X.K.kind (B.keeps (Keeps.heap k1)).has ?_ hd
    refine sndE ix C p hp (hH.keeps k1) hep fun w s₂ k2 v2 => ?_
    have k12 := Keeps.trans k1 k2
    have B2 := B.keeps (Keeps.heap k12)
    have v2' := v2.1
    rw [hi] at v2'
    obtain ⟨t, rfl⟩ := v2'.int_inv
    have e1 := B2.rd.length
    simp only [Array.length_toList] at e1
    refine setItem_plain B2.pl i0 (by omega) (by omega) fun h' hp' hs' => ?_
    obtain ⟨S', t'⟩ := B2.turn hx hs' hp' (ds' := ds.set kk r.1) (by rw [toList_set, itn]; exact B2.rd.set kk (v1.1.keeps (Keeps.heap k2)))
    exact hQ _ ⟨own, S', (Tr.of_keeps (Keeps.heap k12)).trans t', (Sm.of_keeps k12).puth h'⟩
  · rename_i dss hsl
    obtain ⟨kk, hk, hs⟩ := bind_some hs
    obtain ⟨ii, hi, i0, i62, itn, ilt⟩ := posD_of hk
    split at hs
    · rename_i xs hr1 hr2
      cases hs
      obtain ⟨a, rs, m, cm, B⟩ := S.b2 X.K hx hsl
      obtain ⟨b, ws, ds', rfl, q1, q2, q3, q4⟩ := v1.2.1 hr2
      rw [hr1] at q1
      cases q1
      refine name_has X.K.kind (B.keeps (Keeps.heap k1)).has ?_ hd
      refine sndE ix C p hp (hH.keeps k1) hep fun w s₂ k2 v2 => ?_
      have k12 := Keeps.trans k1 k2
      have B2 := B.keeps (Keeps.heap k12)
      have v2' := v2.1
      rw [hi] at v2'
      obtain ⟨t, rfl⟩ := v2'.int_inv
      refine setItem_plain B2.pl i0 (by omega) (by simp [B.len]; omega) fun h' hp' hs' => ?_
      have ep : ((rs.set kk b).map Value.ref).toArray = (rs.map Value.ref).toArray.setIfInBounds ii.toNat (.ref b) := by
        rw [itn]; apply Array.ext'; simp [List.map_set]
      obtain ⟨n, q3⟩ := q3
      obtain ⟨own', S', t'⟩ := B.put hx (Keeps.heap k12) ilt q2 ⟨n, Keeps.heap k2 _ _ q3⟩ (q4.keeps (Keeps.heap k2)) hs' (ep ▸ hp')
      exact hQ _ ⟨own', S', t', (Sm.of_keeps k12).puth h'⟩
    · cases hs
  · cases hs

/-- x[p][q] = e -/
theorem SX.put2 (X : SX G Φ k C ns f h₀ F A₀) (S : SI C ns f h₀ F own γ s.heap) {x : Str} {px sp sp' spos : Pos} {ix jx value : PySem.Expr} {i : Nat} {p q e : PE} {u w r : PyData × Nat} {γ' : Env'} {Q : Flow → Shared → Prop}
    (hb : bld C x = some i) (hix : isIx ix = true) (hp : cE C ix = some p) (hq : cE C jx = some q) (h : cE C value = some e) (hep : evE Φ γ p = some u) (heq : evE Φ γ q = some w) (he : evE Φ γ e = some r)
    (hs : put2S γ i u.1 w.1 r = some γ') (hQ : ∀ s', Left C ns f h₀ F own s γ' s' → Q .next s') :
    wpAny (model G.prog G.w) (A₀.deeper f.env) (exec (.Assign [.Subscript (.Subscript (.Name x px) ix sp) jx sp'] value spos) f.env) Q E s := by
  have hH := X.H S
  obtain ⟨hx, hd⟩ := bld_of X.K hb
  refine wpAny_Assign_Subscript (sndE value C e h hH he fun v s₁ k1 v1 => ?_) (swaps_sub ..)
  unfold put2S at hs
  split at hs
  · rename_i dss hsl
    obtain ⟨kk, hk, hs⟩ := bind_some hs
    obtain ⟨ii, hi, i0, i62, itn, ilt⟩ := posD_of hk
    split at hs
    · rename_i row hrow
      obtain ⟨jj, hj, hs⟩ := bind_some hs
      cases hs
      obtain ⟨ij, hij, j0, j62, jtn, jlt⟩ := posD_of hj
      obtain ⟨a, rs, m, cm, B⟩ := S.b2 X.K hx hsl
      have hkr : kk < rs.length := by rw [B.len]; exact ilt
      refine Subscript_ (name_has X.K.kind (B.keeps (Keeps.heap k1)).has ?_ hd)
      refine sndE ix C p hp (hH.keeps k1) hep fun w1 s₂ k2 v2 => ?_
      have k12 := Keeps.trans k1 k2
      have B2 := B.keeps (Keeps.heap k12)
      have v2' := v2.1
      rw [hi] at v2'
      obtain ⟨t, rfl⟩ := v2'.int_inv
      refine tail_any B2.pl.isList.typeIs slot_list_getitem.lookup (wpAny_getItem_list (x := .ref rs[kk]) B2.pl.isList i0 (by omega) (by simp [itn, hkr]) ?_) (sub_ix hix _ _ _)
      refine sndE jx C q hq (hH.keeps k12) heq fun w2 s₃ k3 v3 => ?_
      have k13 := Keeps.trans k12 k3
      have B3 := B.keeps (Keeps.heap k13)
      have v3' := v3.1
      rw [hij] at v3'
      obtain ⟨t', rfl⟩ := v3'.int_inv
      have hr : rs[kk]? = some rs[kk] := List.getElem?_eq_getElem hkr
      obtain ⟨vs, w1, w2, w3⟩ := B3.rows kk rs[kk] row hr hrow
      have e1 := w3.length
      simp only [Array.length_toList] at e1
      refine setItem_plain w2 j0 (by omega) (by omega) fun h' hp' hs' => ?_
      obtain ⟨S', t'⟩ := B3.turn hx hr hrow hs' hp' (ds' := row.set jj r.1) (by rw [toList_set, jtn]; exact w3.set jj (v1.1.keeps (Keeps.heap (Keeps.trans k2 k3))))
      exact hQ _ ⟨own, S', (Tr.of_keeps (Keeps.heap k13)).trans t', (Sm.of_keeps k13).puth h'⟩
    · cases hs
  · cases hs
end
end Mine
end
section
set_option maxRecDepth 100000
namespace Mine
open PySem PyProof.Rows

section
variable {G : GCtx} {Φ : Funs} {k : Nat} {C : Ctx} {ns : List Str} {f : Fm} {h₀ : Heap} {F : Addr → Prop} {A₀ : Around} {own : Addr → Option Nat} {γ : Env'} {s : Shared} {E : Value → Shared → Prop}

/-- an int of the frame's own list -/
theorem SX.getSub (X : SX G Φ k C ns f h₀ F A₀) (S : SI C ns f h₀ F own γ s.heap) {x : Str} {px sp : Pos} {ix : PySem.Expr} {i : Nat} {p : PE} {q : PyData × Nat} {d : PyData} {Q : Value → Shared → Prop}
    (hb : bld C x = some i) (hix : isIx ix = true) (hp : cE C ix = some p) (hep : evE Φ γ p = some q) (hs : getS γ i q.1 = some d)
    (hQ : ∀ v s', Keeps s s' → (∃ j t, d = .int j ∧ v = .int j t) → Q v s') :
    wpAny (model G.prog G.w) (A₀.deeper f.env) (eval (.Subscript (.Name x px) ix sp) f.env) Q E s := by
  have hH := X.H S
  obtain ⟨hx, hd⟩ := bld_of X.K hb
  unfold getS at hs
  split at hs
  · rename_i ds hsl
    obtain ⟨kk, hk, hs⟩ := bind_some hs
    obtain ⟨ii, hi, i0, i62, itn, ilt⟩ := posD_of hk
    split at hs
    · rename_i y hy
      obtain ⟨ha, rfl⟩ := ifS hs
      obtain ⟨a, vs, m, cm, B⟩ := S.b1 X.K hx hsl
      refine Subscript_ (name_has X.K.kind B.has ?_ hd)
      refine sndE ix C p hp hH hep fun w s₂ k2 v2 => ?_
      have B2 := B.keeps (Keeps.heap k2)
      have v2' := v2.1
      rw [hi] at v2'
      obtain ⟨t, rfl⟩ := v2'.int_inv
      obtain ⟨v, hv, rv⟩ := B2.rd.get hy
      refine tail_any B2.pl.isList.typeIs slot_list_getitem.lookup (wpAny_getItem_list (x := v) B2.pl.isList i0 (by omega) (by rw [itn]; simpa using hv) (hQ _ _ k2 ?_)) (sub_ix hix _ _ _)
      cases y <;> simp [atomD] at ha
      obtain ⟨t, rfl⟩ := rv.int_inv
      exact ⟨_, _, rfl, rfl⟩
    · cases hs
  · cases hs

/-- an int stored into the frame's own list -/
theorem SX.setSub (X : SX G Φ k C ns f h₀ F A₀) (S : SI C ns f h₀ F own γ s.heap) {x : Str} {px sp : Pos} {ix : PySem.Expr} {i : Nat} {p : PE} {q : PyData × Nat} {j : Int} {t : Tok} {γ' : Env'} {Q : Unit → Shared → Prop}
    (hb : bld C x = some i) (hp : cE C ix = some p) (hep : evE Φ γ p = some q) (hs : put1S γ i q.1 (.int j) = some γ')
    (hQ : ∀ s', Left C ns f h₀ F own s γ' s' → Q () s') :
    wpAny (model G.prog G.w) (A₀.deeper f.env) (assign (.Subscript (.Name x px) ix sp) f.env (.int j t)) Q E s := by
  have hH := X.H S
  obtain ⟨hx, hd⟩ := bld_of X.K hb
  unfold put1S at hs
  split at hs
  · rename_i ds hsl
    obtain ⟨kk, hk, hs⟩ := bind_some hs
    cases hs
    obtain ⟨ii, hi, i0, i62, itn, ilt⟩ := posD_of hk
    obtain ⟨a, vs, m, cm, B⟩ := S.b1 X.K hx hsl
    rw [assign_Subscript]
    refine wpAny_bind (wpAny_holding (name_has X.K.kind B.has ?_ hd))
    refine wpAny_bind (wpAny_holding (sndE ix C p hp hH hep fun w s₂ k2 v2 => ?_))
    have B2 := B.keeps (Keeps.heap k2)
    have v2' := v2.1
    rw [hi] at v2'
    obtain ⟨t', rfl⟩ := v2'.int_inv
    have e1 := B2.rd.length
    simp only [Array.length_toList] at e1
    refine wpAny_bind (wpAny_standAt (wpAny_bind (wpAny_holding (setItem_plain B2.pl i0 (by omega) (by omega) fun h' hp' hs' => wpAny_release ?_))))
    obtain ⟨S', t'⟩ := B2.turn hx hs' hp' (ds' := ds.set kk (.int j)) (by rw [toList_set, itn]; exact B2.rd.set kk (.int _ _))
    exact hQ _ ⟨own, S', (Tr.of_keeps (Keeps.heap k2)).trans t', (Sm.of_keeps k2).puth h'⟩
  · cases hs

theorem SX.swap (X : SX G Φ k C ns f h₀ F A₀) (S : SI C ns f h₀ F own γ s.heap) {x : Str} {p1 p2 p3 p4 q1 q2 q3 q4 tp vp spos : Pos} {k1 k2 : Nat} {ix jx kx lx : PySem.Expr} {i : Nat} {p q p' q' : PE} {uk uj uk' uj' : PyData × Nat} {dx dy : PyData} {γ₁ γ' : Env'} {Q : Flow → Shared → Prop}
    (hb : bld C x = some i) (hik : isIx kx = true) (hil : isIx lx = true) (hp : cE C ix = some p) (hq : cE C jx = some q) (hp' : cE C kx = some p') (hq' : cE C lx = some q')
    (e1 : evE Φ γ p' = some uk') (e2 : getS γ i uk'.1 = some dx) (e3 : evE Φ γ q' = some uj') (e4 : getS γ i uj'.1 = some dy) (e5 : evE Φ γ p = some uk) (e6 : put1S γ i uk.1 dx = some γ₁) (e7 : evE Φ γ₁ q = some uj) (e8 : put1S γ₁ i uj.1 dy = some γ')
    (hQ : ∀ s', Left C ns f h₀ F own s γ' s' → Q .next s') :
    wpAny (model G.prog G.w) (A₀.deeper f.env) (exec (.Assign [.Tuple [.Subscript (.Name x p1) ix q1, .Subscript (.Name x p2) jx q2] k1 tp] (.Tuple [.Subscript (.Name x p3) kx q3, .Subscript (.Name x p4) lx q4] k2 vp) spos) f.env) Q E s := by
  have hw : swappedStores [.Tuple [.Subscript (.Name x p1) ix q1, .Subscript (.Name x p2) jx q2] k1 tp] (.Tuple [.Subscript (.Name x p3) kx q3, .Subscript (.Name x p4) lx q4] k2 vp) f.env = pure none := by
    refine (if_neg ?_).trans ((if_neg ?_).trans (if_pos ?_)) <;> first | exact fun z => Bool.noConfusion (show false = true from z) | rfl | (show (!(true || false) || false || f.env.blockKind != .function) ≠ true; rw [show f.env.blockKind = .function from (by simp [Env.blockKind, show f.env.scope.kind = .function from X.K.kind])]; decide)
  refine Assign_Tuple (wpAny_Tuple ?_) rfl hw
  refine Calls.spliced_cons (X.getSub S hb hik hp' e1 e2 fun v1 s₁ k1 hv1 => Calls.spliced_cons (X.getSub (S.keeps (Keeps.heap k1)) hb hil hq' e3 e4 fun v2 s₂ k2 hv2 => Calls.spliced_nil ⟨by simp; decide, ?_⟩))
  obtain ⟨j1, t1, rfl, rfl⟩ := hv1
  obtain ⟨j2, t2, rfl, rfl⟩ := hv2
  have k12 := Keeps.trans k1 k2
  have S2 := S.keeps (Keeps.heap k12)
  refine wpAny_assign_Tuple (items := [Value.int j1 t1, .int j2 t2].toArray) (X.H S2).ok.hh ⟨_, Heap.get?_push_size _ rfl, rfl, _, rfl⟩ rfl rfl fun h' he' => ?_
  have k3 : KeepsH s₂.heap h' := fun b o e => he' b o (Nat.ne_of_lt (Heap.lt_size (Heap.get?_push_of_some _ e))) (Heap.get?_push_of_some _ e)
  have S3 : SI C ns f h₀ F own γ ({ s₂ with heap := h' } : Shared).heap := S2.keeps k3
  refine wpAny_bind (wpAny_holding (X.setSub S3 hb hp e5 e6 fun s₄ hl => ?_))
  obtain ⟨own₄, S4, t4, m4⟩ := hl
  refine wpAny_bind (wpAny_holding (X.setSub S4 hb hq e7 e8 fun s₅ hl => wpAny_pure ?_))
  obtain ⟨own₅, S5, t5, m5⟩ := hl
  refine hQ _ ⟨own₅, S5, (Tr.of_keeps ((Keeps.heap k12).trans k3)).trans (t4.trans t5), ?_⟩
  exact ((Sm.of_keeps k12).puth h').trans (m4.trans m5)
end
end Mine
end
section
set_option maxRecDepth 100000
namespace Mine
open PySem PyProof.Rows

noncomputable def FPost (C : Ctx) (ns : List Str) (f : Fm) (h₀ : Heap) (F : Addr → Prop) (own : Addr → Option Nat) (s : Shared) (fl : Flw) (γ' : Env') (fw : Flow) (s' : Shared) : Prop :=
  match fl, fw with
  | .next, .next => Left C ns f h₀ F own s γ' s'
  | .brk, .brk => Left C ns f h₀ F own s γ' s'
  | .cont, .cont => Left C ns f h₀ F own s γ' s'
  | .ret d l, .ret v => Val F h₀ s'.heap v (d, l) ∧ KeepsH h₀ s'.heap ∧ Sm s s'
  | _, _ => False
noncomputable def RPost (G : GCtx) (C : Ctx) (ns : List Str) (f : Fm) (h₀ : Heap) (F : Addr → Prop) (s : Shared) (c : Nat) (e : Value) (s' : Shared) : Prop :=
  ∃ ea own₁ γ₁ h₁ args, e = .ref ea ∧ SI C ns f h₀ F own₁ γ₁ h₁ ∧ Heap.MadeExcOf h₁ s'.heap ea (exv G c) args ∧ Sm s s'

section
variable {G : GCtx} {Φ : Funs} {k fu : Nat} {tp : Bool} {C : Ctx} {ns : List Str} {f : Fm} {h₀ : Heap} {F : Addr → Prop} {A₀ : Around} {own : Addr → Option Nat} {γ : Env'} {s : Shared} {E : Value → Shared → Prop}

theorem Left.trans {own₁ : Addr → Option Nat} {s₁ s' : Shared} {γ' : Env'} (t : Tr f own s.heap own₁ s₁.heap) (m : Sm s s₁) (x : Left C ns f h₀ F own₁ s₁ γ' s') : Left C ns f h₀ F own s γ' s' :=
  let ⟨o, a, b, c⟩ := x; ⟨o, a, t.trans b, m.trans c⟩
theorem FPost.trans {own₁ : Addr → Option Nat} {s₁ s' : Shared} {fl : Flw} {γ' : Env'} {fw : Flow} (t : Tr f own s.heap own₁ s₁.heap) (m : Sm s s₁) (x : FPost C ns f h₀ F own₁ s₁ fl γ' fw s') : FPost C ns f h₀ F own s fl γ' fw s' := by
  cases fl <;> cases fw <;> first
    | exact Left.trans t m x
    | exact ⟨x.1, x.2.1, m.trans x.2.2⟩
    | exact x
theorem RPost.trans {s₁ s' : Shared} {c : Nat} {e : Value} (m : Sm s s₁) (x : RPost G C ns f h₀ F s₁ c e s') : RPost G C ns f h₀ F s c e s' :=
  let ⟨a, b, d, h1, g, i, j, l, n⟩ := x; ⟨a, b, d, h1, g, i, j, l, m.trans n⟩

/-- frozen data stands -/
structure TrS (F : Addr → Prop) (own : Addr → Option Nat) (h : Heap) (own' : Addr → Option Nat) (h' : Heap) : Prop where
  fk : ∀ b o vs n, h.get? b = some o → o.data = .seq vs n → (o.cls = .type "tuple" ∨ (o.cls = .type "list" ∧ ¬ FO F own b)) → h'.get? b = some o
  own : ∀ b, own' b ≠ none → own b ≠ none ∨ h.get? b = none
  there : ∀ b o, h.get? b = some o → ∃ o', h'.get? b = some o'
theorem TrS.refl (own : Addr → Option Nat) (h : Heap) : TrS F own h own h := ⟨fun _ _ _ _ e _ _ => e, fun _ q => .inl q, fun b o e => ⟨o, e⟩⟩
theorem TrS.trans {o₁ o₂ o₃ : Addr → Option Nat} {h₁ h₂ h₃ : Heap} (x : TrS F o₁ h₁ o₂ h₂) (y : TrS F o₂ h₂ o₃ h₃) : TrS F o₁ h₁ o₃ h₃ where
  fk := fun b o vs n e d q => y.fk b o vs n (x.fk b o vs n e d q) d (q.imp id fun ⟨q1, q2⟩ => ⟨q1, fun z => by
    rcases z with z | z
    · exact q2 (.inl z)
    · rcases x.own b z with z | z
      · exact q2 (.inr z)
      · rw [e] at z; cases z⟩)
  own := fun b q => (y.own b q).elim (fun z => x.own b z) fun z => .inr (by
    cases e : h₁.get? b with
    | none => rfl
    | some o => obtain ⟨o', e'⟩ := x.there b o e; rw [z] at e'; cases e')
  there := fun b o e => let ⟨o', e'⟩ := x.there b o e; y.there b o' e'
theorem Tr.frozen {own' : Addr → Option Nat} {h h' : Heap} (t : Tr f own h own' h') (S : SI C ns f h₀ F own γ h) : TrS F own h own' h' where
  fk := fun b o vs n e d q => t.keep b o e (by
    cases z : own b with
    | none => rfl
    | some j =>
      rcases q with q | ⟨_, q⟩
      · obtain ⟨_, ws, m, z'⟩ := S.own b j z
        rw [e] at z'; cases z'
        exact (cls_ne (by decide) q).elim
      · exact (q (.inr (by rw [z]; exact fun w => by cases w))).elim) (S.notFx e d)
  own := t.own
  there := t.there

/-- the heart of a for -/
theorem SX.for_ (X : SX G Φ k C ns f h₀ F A₀) (S : SI C ns f h₀ F own γ s.heap) {x : Str} {px spos : Pos} {iter : PySem.Expr} {body : List Stmt} {i : Nat} {pi : PI} {pb : Env' → Option (Flw × Env')} {xs : List PyData} {fl : Flw} {γ' : Env'} {Q : Flow → Shared → Prop}
    (hx : ns[i]? = some x) (hi : cI C iter = some pi) (hei : evI Φ γ pi = some xs) (hfor : forL pb [i] xs γ = some (fl, γ'))
    (hbody : ∀ (own₁ : Addr → Option Nat) (γ₁ γ₂ : Env') (s₁ : Shared) (fl₁ : Flw) (Q₁ : Flow → Shared → Prop) (E₁ : Value → Shared → Prop), pb γ₁ = some (fl₁, γ₂) → (∀ c, fl₁ ≠ .exc c) → SI C ns f h₀ F own₁ γ₁ s₁.heap →
      (∀ fw s', FPost C ns f h₀ F own₁ s₁ fl₁ γ₂ fw s' → Q₁ fw s') → wpAny (model G.prog G.w) (A₀.deeper f.env) (execs body f.env) Q₁ E₁ s₁)
    (hQ : ∀ fw s', FPost C ns f h₀ F own s fl γ' fw s' → Q fw s') :
    wpAny (model G.prog G.w) (A₀.deeper f.env) (exec (.For (.Name x px) iter body [] spos) f.env) Q E s := by
  have hH := X.H S
  refine wpAny_For (sndIA iter C pi hi hH hei fun I fp wr P St s₂ it => ?_) (folded_of hi f.env)
  have S2 := S.keeps (Keeps.heap it.keeps)
  have wr0 : ∀ b ∈ wr, h₀.get? b = none := fun b hb => KeepsH.none S.h0 (it.new b hb)
  refine codeAny_forLoop (fun n s' => ∃ (j : Nat) (ownj : Addr → Option Nat) (γj : Env'), n = xs.length + 1 - j ∧ j ≤ xs.length ∧ St j s'.heap ∧ SI C ns f h₀ F ownj γj s'.heap ∧ TrS F own s₂.heap ownj s'.heap ∧ Tr f own s.heap ownj s'.heap ∧ Sm s s' ∧
    forL pb [i] (xs.drop j) γj = some (fl, γ')) ?_ (xs.length + 1) ⟨0, own, γ, by omega, Nat.zero_le _, it.start, S2, TrS.refl _ _, Tr.of_keeps (Keeps.heap it.keeps), Sm.of_keeps it.keeps, by simpa using hfor⟩
  rintro n s' ⟨j, ownj, γj, rfl, hj, hst, Sj, tS, tj, mj, hf⟩
  by_cases hlt : j < xs.length
  · refine it.walks.item j s' _ _ hlt hst fun v h₁ tk₁ hP hst₁ hk₁ => ?_
    obtain ⟨d, hd, rd⟩ := it.data j v hP
    have hwF := it.stF j s'.heap hst
    have S₁ : SI C ns f h₀ F ownj γj h₁ := Sj.wr hk₁ hwF wr0
    have hdrop : xs.drop j = d :: xs.drop (j + 1) := by
      rw [List.drop_eq_getElem_cons hlt]
      have := List.getElem?_eq_getElem hlt
      rw [hd] at this
      cases this
      rfl
    rw [hdrop, forL] at hf
    simp only [bindT, Option.bind_some] at hf
    obtain ⟨⟨fl₁, γ₂⟩, hb, hf⟩ := bind_some hf
    have seqk : ∀ b o vs n, s'.heap.get? b = some o → o.data = .seq vs n → h₁.get? b = some o := fun b o vs n e dd => hk₁ b o (fun hw => by
      obtain ⟨o', vs', z1, z2⟩ := hwF b hw
      rw [e] at z1; cases z1; rw [dd] at z2; cases z2) e
    have rv : RD h₁ (FO F ownj) v d := rd.move (fun b q => by
      rcases q with q | q
      · exact .inl (.inl q)
      · exact (tS.own b q).imp (fun z => .inr z) id) fun b o vs n e dd q => seqk b o vs n (tS.fk b o vs n e dd q) dd
    refine wpAny_assign_Name (store_pl (s := { s' with heap := h₁, toks := tk₁ }) S₁ X.K (fun _ _ e => e) hx rv fun h₂ tk₂ S₂ t₂ kb => ?_)
    have hne : ∀ c, fl₁ ≠ .exc c := fun c z => by subst z; simp at hf
    -- from the turn's start to behind the store
    have tS2 : TrS F own s₂.heap (drop ownj i) h₂ := by
      refine tS.trans ⟨fun b o vs n e dd q => kb b o (seqk b o vs n e dd) (S₁.notFx (seqk b o vs n e dd) dd), fun b q => .inl (drop_ne q), fun b o e => ?_⟩
      by_cases hw : b ∈ wr
      · obtain ⟨o', vs', z1, z2⟩ := it.stF (j + 1) h₁ hst₁ b hw
        exact t₂.there b o' z1
      · exact t₂.there b o (hk₁ b o hw e)
    have tj2 : Tr f own s.heap (drop ownj i) h₂ := by
      refine ⟨fun b o e e1 e2 => kb b o (hk₁ b o (fun hw => by rw [it.new b hw] at e; cases e) (tj.keep b o e e1 e2)) e2, fun b o e => ?_, fun b q => tj.own b (drop_ne q)⟩
      obtain ⟨o', e'⟩ := tj.there b o e
      exact t₂.there b o' (hk₁ b o' (fun hw => by rw [it.new b hw] at e; cases e) e')
    have st2 : St (j + 1) h₂ := it.walks.frame _ _ _ hst₁ fun b hb o e => kb b o e ?_
    · refine hbody (drop ownj i) _ γ₂ { s' with heap := h₂, toks := tk₂ } fl₁ _ _ hb hne S₂ fun fw s₃ hp => ?_
      have mj2 : Sm s { s' with heap := h₂, toks := tk₂ } := mj.trans (Sm.put s' h₂ tk₂)
      have go : forL pb [i] (xs.drop (j + 1)) γ₂ = some (fl, γ') → Left C ns f h₀ F (drop ownj i) { s' with heap := h₂, toks := tk₂ } γ₂ s₃ → ∃ m, m < xs.length + 1 - j ∧ ∃ (j : Nat) (ownj : Addr → Option Nat) (γj : Env'), m = xs.length + 1 - j ∧ j ≤ xs.length ∧ St j s₃.heap ∧ SI C ns f h₀ F ownj γj s₃.heap ∧ TrS F own s₂.heap ownj s₃.heap ∧ Tr f own s.heap ownj s₃.heap ∧ Sm s s₃ ∧
          forL pb [i] (xs.drop j) γj = some (fl, γ') := by
        rintro hr ⟨own₃, S₃, t₃, m₃⟩
        refine ⟨xs.length + 1 - (j + 1), by omega, j + 1, own₃, γ₂, rfl, hlt, it.walks.frame _ _ _ st2 fun b hb o e => ?_, S₃, tS2.trans (t₃.frozen S₂), tj2.trans t₃, mj2.trans m₃, hr⟩
        have e2 : h₂.get? b = some o := e
        by_cases hw : b ∈ wr
        · obtain ⟨o', vs', z1, z2⟩ := it.stF (j + 1) h₂ st2 b hw
          rw [e2] at z1; cases z1
          refine t₃.keep b o e2 ?_ (S₂.notFx' e2 z2)
          cases z : drop ownj i b with
          | none => rfl
          | some j' => obtain ⟨_, ws, m, z'⟩ := S₂.own b j' z; rw [e2] at z'; cases z'; cases z2
        · obtain ⟨o', vs', n', z1, z2, z3⟩ := it.off b hb hw
          have z4 := tS2.fk b o' vs' n' z1 z2 z3
          rw [e2] at z4; cases z4
          exact (t₃.frozen S₂).fk b o vs' n' e2 z2 (z3.imp id fun ⟨q1, q2⟩ => ⟨q1, fun z => by
            rcases z with z | z
            · exact q2 (.inl z)
            · rcases tS2.own b z with z | z
              · exact q2 (.inr z)
              · rw [z1] at z; cases z⟩)
      cases fl₁ with
      | next => cases fw with
        | next => exact go hf hp
        | _ => exact hp.elim
      | cont => cases fw with
        | cont => exact go hf hp
        | _ => exact hp.elim
      | brk => cases fw with
        | brk => cases hf; exact hQ .next _ (FPost.trans (fl := .next) (fw := .next) tj2 mj2 hp)
        | _ => exact hp.elim
      | ret d' l' => cases fw with
        | ret v' => cases hf; exact hQ (.ret v') _ (FPost.trans (fl := .ret d' l') tj2 mj2 hp)
        | _ => exact hp.elim
      | exc c => exact (hne c rfl).elim
    · by_cases hw : b ∈ wr
      · obtain ⟨o', vs', z1, z2⟩ := it.stF (j + 1) h₁ hst₁ b hw
        exact S₁.notFx' z1 z2
      · obtain ⟨o', vs', n', z1, z2, z3⟩ := it.off b hb hw
        exact S₁.notFx (seqk b o' vs' n' (tS.fk b o' vs' n' z1 z2 z3) z2) z2
  · have hin : j = xs.length := by omega
    subst hin
    refine it.walks.done s' _ _ hst fun h₁ tk₁ hk₁ => ?_
    have S₁ : SI C ns f h₀ F ownj γj h₁ := Sj.wr hk₁ (it.stF _ _ hst) wr0
    simp only [List.drop_length, forL] at hf
    cases hf
    refine wpAny_execs_nil (hQ .next _ ⟨ownj, S₁, ?_, mj.trans ⟨h₁, tk₁, rfl⟩⟩)
    refine ⟨fun b o e e1 e2 => hk₁ b o (fun hw => by rw [it.new b hw] at e; cases e) (tj.keep b o e e1 e2), fun b o e => ?_, tj.own⟩
    obtain ⟨o', e'⟩ := tj.there b o e
    exact ⟨o', hk₁ b o' (fun hw => by rw [it.new b hw] at e; cases e) e'⟩
end
end Mine
end
section
set_option maxRecDepth 100000
namespace Mine
open PySem PyProof.Rows

theorem Val.less {F F' : Addr → Prop} {h₀ h : Heap} {v : Value} {r : PyData × Nat} (x : Val F h₀ h v r) (hF : ∀ b, F' b → F b) : Val F' h₀ h v r := by
  obtain ⟨a, b, c⟩ := x
  refine ⟨a.weak fun b q => .inl (hF b q), fun e => ?_, fun e => ?_⟩
  · obtain ⟨p, vs, ds, q1, q2, q3, q4, q5⟩ := b e
    exact ⟨p, vs, ds, q1, q2, q3, q4, q5.weak fun b q => .inl (q.imp (hF b) id)⟩
  · obtain ⟨p, rs, ds, q1, q2, q3, q4, q5, q6, q7⟩ := c e
    refine ⟨p, rs, ds, q1, q2, q3, q4, q5, q6, fun i r d e1 e2 => ?_⟩
    obtain ⟨vs, xs, w1, w2, w3, w4⟩ := q7 i r d e1 e2
    exact ⟨vs, xs, w1, w2, w3, w4.weak fun b q => .inl (q.imp (hF b) id)⟩

section
variable {G : GCtx} {Φ : Funs} {k fu : Nat} {tp : Bool} {C : Ctx} {ns : List Str} {f : Fm} {h₀ : Heap} {F : Addr → Prop} {A₀ : Around} {own : Addr → Option Nat} {γ : Env'} {s : Shared} {E : Value → Shared → Prop}

theorem slotNs (K : FnOk C f.sc ns) {x : Str} {i : Nat} (h : C.slot x = some i) : ns[i]? = some x := by
  have := slot_ns h
  rw [K.nsEq, List.getElem?_map] at this
  obtain ⟨y, hy, hyx⟩ := Option.map_eq_some_iff.mp this
  cases hyx
  exact hy

theorem SX.ret (X : SX G Φ k C ns f h₀ F A₀) (S : SI C ns f h₀ F own γ s.heap) {v : PySem.Expr} {spos : Pos} {e : PE} {r : PyData × Nat} {Q : Flow → Shared → Prop}
    (h : cE C v = some e) (he : evE Φ γ e = some r)
    (hQ : ∀ v s', Val F h₀ s'.heap v (r.1, r.2) → KeepsH h₀ s'.heap → Sm s s' → Q (.ret v) s') :
    wpAny (model G.prog G.w) (A₀.deeper f.env) (exec (.Return (some v) spos) f.env) Q E s := by
  refine wpAny_Return_some (sndE v C e h (X.H S) he fun v s₁ k1 v1 => hQ v s₁ ?_ (S.h0.trans (Keeps.heap k1)) (Sm.of_keeps k1))
  exact (Val.back v1 S.h0).less fun b q => .inl q

theorem SX.retv (X : SX G Φ k C ns f h₀ F A₀) (S : SI C ns f h₀ F own γ s.heap) {x : Str} {px spos : Pos} {i : Nat} {fl : Flw} {γ' : Env'} {Q : Flow → Shared → Prop}
    (hb : bld C x = some i) (he : evS Φ fu tp γ (.retv i) = some (fl, γ'))
    (hQ : ∀ fw s', FPost C ns f h₀ F own s fl γ' fw s' → Q fw s') :
    wpAny (model G.prog G.w) (A₀.deeper f.env) (exec (.Return (some (.Name x px)) spos) f.env) Q E s := by
  obtain ⟨hx, hd⟩ := bld_of X.K hb
  obtain ⟨⟨m, cm, F1, Y, sls⟩, ow⟩ := id S
  have nF : ∀ b j, own b = some j → ¬ F b := fun b j q => X.al.fresh (ow b j q).1
  have key : ∀ sl d l, γ[i]? = some sl → (∀ v, SlotOK s.heap F own i sl (some v) → Val F h₀ s.heap v (d, l)) → sl ≠ .un → (fl, γ') = (.ret d l, γ) → wpAny (model G.prog G.w) (A₀.deeper f.env) (exec (.Return (some (.Name x px)) spos) f.env) Q E s := by
    intro sl d l e1 hv hn e2
    cases e2
    have h1 := sls i x _ hx e1
    cases hv' : vof f.sc m cm x with
    | none => rw [hv'] at h1; cases sl <;> first | exact (hn rfl).elim | exact h1.elim
    | some v =>
      rw [hv'] at h1
      exact wpAny_Return_some (name_has X.K.kind (has_of X.K F1 Y (List.mem_of_getElem? hx) hv') (hQ (.ret v) s ⟨hv v h1, S.h0, Sm.refl s⟩) hd)
  have he : (match γ[i]? with
    | some (.pl d) => some (Flw.ret d 0, γ)
    | some (.b1 ds) => some (.ret (.list ds) 1, γ)
    | some (.b2 dss) => some (.ret (.list (dss.map .list)) 2, γ)
    | _ => none) = some (fl, γ') := he
  split at he
  · rename_i d e1
    cases he
    exact key _ d 0 e1 (fun v q => Val.of (RD.weak (fun b z => .inl (.inl z)) q)) (fun z => by cases z) rfl
  · rename_i ds e1
    cases he
    refine key _ _ 1 e1 (fun v q => ?_) (fun z => by cases z) rfl
    obtain ⟨a, vs, rfl, q2, q3, q4⟩ := q
    refine ⟨.list q3 (nF a i q2) (q4.weak fun b z => .inl (.inl z)), fun _ => ⟨a, vs, ds, rfl, rfl, (ow a i q2).1, q3, q4.weak fun b z => .inl (z.imp id fun z => ?_)⟩, fun z => by simp at z⟩
    rw [z, q2]; exact fun z => by cases z
  · rename_i dss e1
    cases he
    refine key _ _ 2 e1 (fun v q => ?_) (fun z => by cases z) rfl
    obtain ⟨a, rs, rfl, q2, q3, q4, q5, q6⟩ := q
    have hrow : ∀ b ∈ rs, own b = some i := fun b hb => by
      obtain ⟨j, hj⟩ := List.getElem?_of_mem hb
      have hlt : j < dss.length := by have := (List.getElem?_eq_some_iff.mp hj).1; omega
      obtain ⟨vs, w1, _⟩ := q6 j b dss[j] hj (by simp [hlt])
      exact w1
    refine ⟨.list q3 (nF a i q2) ?_, fun z => by simp at z, fun _ => ⟨a, rs, _, rfl, rfl, (ow a i q2).1, q3, q4, by simpa using q5, fun j r d e1 e2 => ?_⟩⟩
    · have := RD.rows (h := s.heap) (F' := F) q5 fun j r ds e1 e2 => by
        obtain ⟨vs, w1, w2, w3⟩ := q6 j r ds e1 e2
        exact ⟨vs, nF r i w1, w2, RDs.weak (fun b z => .inl (.inl z)) w3⟩
      simpa using this
    · rw [List.getElem?_map] at e2
      obtain ⟨ds, e3, rfl⟩ := Option.map_eq_some_iff.mp e2
      obtain ⟨vs, w1, w2, w3⟩ := q6 j r ds e1 e3
      refine ⟨vs, ds, rfl, (ow r i w1).1, w2, w3.weak fun b z => .inl (z.imp id fun z => ?_)⟩
      rcases z with rfl | z
      · rw [q2]; exact fun z => by cases z
      · rw [hrow b z]; exact fun z => by cases z
  · cases he

theorem exIdx_of (g : GOk G) (cg : CG G C) {x : Str} {c : Nat} (h : exIdx C x = some c) : x = ("ZeroDivisionError" : Str) ∧ C.glob x = true ∧ exv G c = .type "ZeroDivisionError" := by
  unfold exIdx at h
  split at h
  · rename_i hc
    rw [cg.excs] at h
    have h1 := List.findIdx?_eq_some_iff_getElem.mp h
    obtain ⟨h2, h3, _⟩ := h1
    have h4 : G.excs[c] = x := by simpa using h3
    have hx := g.exc x (h4 ▸ List.getElem_mem h2)
    simp only [Bool.and_eq_true] at hc
    refine ⟨hx, hc.1.1, ?_⟩
    unfold exv
    rw [List.getElem?_eq_getElem h2, h4, hx]
    rfl
  · cases h

theorem SX.raise (X : SX G Φ k C ns f h₀ F A₀) (S : SI C ns f h₀ F own γ s.heap) {x m : Str} {px cp pp spos : Pos} {kk : Nat} {c : Nat} {Q : Flow → Shared → Prop}
    (hx : exIdx C x = some c) (hm : m.length ≤ lenLim)
    (hE : ∀ e s', RPost G C ns f h₀ F s c e s' → E e s') :
    wpAny (model G.prog G.w) (A₀.deeper f.env) (exec (.Raise (some (.Call (.Name x px) [.Constant (.str m) kk pp] [] cp)) none spos) f.env) Q E s := by
  obtain ⟨rfl, hg, hv⟩ := exIdx_of X.g X.cg hx
  have hH := X.H S
  have hc : cEs C [.Constant (.str m) kk pp] = some (.cons (.lit (.str m)) .nil) := by
    exact bnd' (x := (cConst (.str m)).map PE.lit) (a := .lit (.str m)) (by rw [show cConst (.str m) = some (.str m) from if_pos hm]; rfl) rfl
  refine Raise_madeB PySem.F.excCall_ZeroDivisionError PySem.F.excRaise_ZeroDivisionError hH.ok.hh (name_blt hH hg (v := .type "ZeroDivisionError") rfl ⟨rfl, ?_⟩ (by decide)) rfl rfl
  refine sndEsA [.Constant (.str m) kk pp] C _ hc cp hH (xs := [.str m]) rfl fun vs s₁ k1 hl rd => ⟨by rw [hl]; exact (by decide : 1 ≤ sizeLine), fun h' e he => ?_⟩
  refine hE _ _ ⟨e, own, γ, s₁.heap, vs, rfl, S.keeps (Keeps.heap k1), ?_, (Sm.of_keeps k1).puth h'⟩
  rw [hv]
  exact he.of
end
end Mine
end
section
set_option maxRecDepth 100000
namespace Mine
open PySem PyProof.Rows

section
variable {G : GCtx} {Φ : Funs} {k fu : Nat} {tp : Bool} {C : Ctx} {ns : List Str} {f : Fm} {h₀ : Heap} {F : Addr → Prop} {A₀ : Around} {own : Addr → Option Nat} {γ : Env'} {s : Shared} {E : Value → Shared → Prop}

theorem SI.caught {h h' : Heap} (S : SI C ns f h₀ F own γ h) (hk : ∀ b o, h.get? b = some o → b ≠ f.L → h'.get? b = some o) (hu : h.UpToSlots h') : SI C ns f h₀ F own γ h' ∧ Tr f own h own h' := by
  obtain ⟨⟨m, cm, F1, Y, sl⟩, ow⟩ := S
  have off : ∀ b o vs n, h.get? b = some o → o.data = .seq vs n → h'.get? b = some o := fun b o vs n e d => hk b o e (Fr.ne F1 e d)
  refine ⟨⟨⟨m, cm, ⟨hu.ns F1.ns, fun b o e => hk b o (F1.keep b o e) (fun z => ?_), F1.above⟩, ⟨fun n c e => ?_, Y.apart, Y.above⟩, fun i x s e1 e2 => ?_⟩, fun b i q => ?_⟩, fun b o e _ e2 => hk b o e fun z => e2 (.inl z), fun b o e => ?_, fun b q => .inl q⟩
  · subst z
    exact absurd (Nat.lt_of_lt_of_le (Heap.lt_size e) F1.above) (Nat.lt_irrefl _)
  · obtain ⟨o, z1, z2⟩ := Y.cell n c e
    exact ⟨o, hk _ o z1 (fun z => absurd (Y.above n c (mem_of_lookup e)) (by rw [z]; exact Nat.lt_irrefl _)), z2⟩
  · exact (sl i x s e1 e2).frame (fun _ q => q) (fun _ q => .inl q) fun b o vs n e d _ => off b o vs n e d
  · obtain ⟨q1, vs, n, q2⟩ := ow b i q
    exact ⟨q1, vs, n, off b _ _ _ q2 rfl⟩
  · by_cases z : b = f.L
    · subst z
      obtain ⟨o', es, ep, z1, z2, _⟩ := F1.ns
      obtain ⟨sl, hs⟩ := hu _ _ z1 fun vs q => by rw [z2] at q; cases q
      exact ⟨_, hs⟩
    · exact ⟨o, hk b o e z⟩

theorem zde_exc : isSubtype (.type "ZeroDivisionError") (.type "BaseException") = pure true := PySem.F.excRaise_ZeroDivisionError.isExc
theorem zde_nt : isSubtype (.type ((Manifest.find? "ZeroDivisionError").elim "type" fun y => y.metatype)) (.type "tuple") = pure false := by rw [isSubtype_type]; kernel_rfl
theorem zde_sub : isSubtype (.type "ZeroDivisionError") (.type "ZeroDivisionError") = pure true := PySem.F.excCall_ZeroDivisionError.sub

theorem SX.tryC (X : SX G Φ k C ns f h₀ F A₀) (S : SI C ns f h₀ F own γ s.heap) (htp : tp = true → A₀.frames = some []) {x fn ex y : Str} {px pf cp sp ep py kp ap hp pos : Pos} {kk : Nat} {as : List PySem.Expr} {kc : Const} {i j c yi : Nat} {es : PEs} {d : PyData} {fl : Flw} {γ' : Env'} {Q : Flow → Shared → Prop}
    (hx : C.slot x = some i) (hj : C.fn fn = some j) (hes : cEs C as = some es) (hex : exIdx C ex = some c) (hy : C.slot y = some yi) (hd : cConst kc = some d) (hne : as.isEmpty = false)
    (he : evS Φ fu tp γ (.tryC i j es c yi d) = some (fl, γ'))
    (hQ : ∀ fw s', FPost C ns f h₀ F own s fl γ' fw s' → Q fw s') :
    wpAny (model G.prog G.w) (A₀.deeper f.env) (exec (.Try [.Assign [.Name x px] (.Call (.Name fn pf) as [] cp) sp] [.ExceptHandler (some (.Name ex ep)) none [.Assign [.Name y py] (.Constant kc kk kp) ap] hp] [] [] pos) f.env) Q E s := by
  have hH := X.H S
  obtain ⟨xs, e1, he⟩ := bind_some he
  obtain ⟨out, e2, he⟩ := bind_some he
  obtain ⟨hg, hdb, -⟩ := fn_of hj
  obtain ⟨ad, o, fd, q1, q2, q3, q4⟩ := call_fn hj hH
  have hxn := slotNs X.K hx
  have hyn := slotNs X.K hy
  refine wpAny_Try_except (wpAny_execs_cons (wpAny_Assign_Name ?_))
  refine name_call (name_glob hH hg q1 ?_ hdb)
  refine Calls.callWith_function (o := o) (fd := fd) (args_of hes hne (sndEsA as C es hes cp hH e1 fun vs s₁ k1 _ r1 => ⟨⟨(hH.keeps k1).ok.kb _ _ q2, q3⟩, ?_⟩))
  refine q4 s₁ vs xs out _ _ k1 r1 e2 (fun d' l ho v s' k2 v2 => ?_) fun c' ho e s' hex' => ?_
  · subst ho
    cases he
    refine store_pl S X.K (Keeps.heap (Keeps.trans k1 k2)) hxn v2.1 fun h' tk S' t' _ => ?_
    exact wpAny_execs_nil (wpAny_execs_nil (hQ .next _ ⟨_, S', t', (Sm.of_keeps (Keeps.trans k1 k2)).trans (Sm.put _ _ _)⟩))
  · subst ho
    simp only at he
    split at he
    case isFalse => cases he
    rename_i hcc
    cases he
    simp only [Bool.and_eq_true, beq_iff_eq] at hcc
    obtain ⟨htp', rfl⟩ := hcc
    have hfr := htp htp'
    obtain ⟨rfl, hgx, hv⟩ := exIdx_of X.g X.cg hex
    obtain ⟨ea, B, outer, a0, rfl, hout, hfl, hB, hus, hm, tk0, rfl⟩ := hex'
    rw [Around.frames_deeper hfr] at hout
    cases hout
    rw [hv] at hfl
    have S1 := S.keeps (Keeps.heap k1)
    have hB' : ∀ b o, s₁.heap.get? b = some o → b ≠ f.L → B.get? b = some o := fun b o e hn => hB b o e (by simpa [Fm.env, envOfC] using hn)
    refine wpAny_looks_onW (L := f.L) (Around.frames_deeper hfr) rfl hfl fun h₄ hheld₄ hsm₄ => ?_
    refine wpAny_landsW hheld₄ fun h₅ hheld hsm₅ => ?_
    obtain ⟨ob, hob, hobc⟩ := hheld.there
    have u5 := (hus.trans hsm₄).trans hsm₅
    obtain ⟨S5, -⟩ := S1.caught (fun b o e hn => hheld.1 b o (hB' b o e hn)) u5
    have hkb : KeepsH G.hB h₅ := fun b o e => S5.h0 b o (let ⟨s₀, e0, ok⟩ := X.ok; e0 ▸ ok.kb b o e)
    have hH5 : Mine.H G Φ k C γ (A₀.deeper f.env) f.env (FO F own) { s₁ with heap := h₅, toks := tk0 } := X.H (s := { s₁ with heap := h₅, toks := tk0 }) S5
    refine wpAny_handleBy_builtin (X := "ZeroDivisionError") (T := "ZeroDivisionError") (b := true) zde_exc zde_nt zde_sub ?_
    refine Calls.Name_function_global hH.env.kind (hH.env.glob _ hgx) (Calls.loadGlobal_builtin (mg := G.mg) (mb := G.mb) (by rw [hH.env.gl]; exact X.g.g.keeps hkb) (X.g.blt _ (.type "ZeroDivisionError") rfl).1 (by rw [hH.env.bl]; exact X.g.b.keeps hkb) (X.g.blt _ (.type "ZeroDivisionError") rfl).2 ?_) (by decide)
    refine ⟨rfl, ⟨ob, hob, hobc⟩, ?_⟩
    refine lands_againW hheld fun h₆ hfl₆ hsm₆ => ?_
    obtain ⟨S6, t6⟩ := S1.caught (fun b o e hn => hfl₆.1 b o (hB' b o e hn)) (u5.trans hsm₆)
    refine wpAny_execs_cons (wpAny_Assign_Name ?_)
    have fin : ∀ v s₇, Keeps { s₁ with heap := h₆, toks := tk0 } s₇ → RD s₇.heap (FO F own) v d → wpAny (model G.prog G.w) ((A₀.deeper f.env).mark (some (.ref ea))) (storeName f.env y v) (fun _ s₈ => wpAny (model G.prog G.w) ((A₀.deeper f.env).mark (some (.ref ea))) (execs [] f.env) Q (notedBy (model G.prog G.w) ((A₀.deeper f.env).mark (some (.ref ea))) f.env (cameBackBy (model G.prog G.w) (A₀.deeper f.env) f.env E)) s₈)
        (notedBy (model G.prog G.w) ((A₀.deeper f.env).mark (some (.ref ea))) f.env (cameBackBy (model G.prog G.w) (A₀.deeper f.env) f.env E)) s₇ := by
      intro v s₇ k7 rv
      refine store_pl S6 X.K (Keeps.heap k7) hyn rv fun h' tk S' t' _ => wpAny_execs_nil (hQ .next _ ⟨_, S', ?_, ?_⟩)
      · exact (Tr.of_keeps (Keeps.heap k1)).trans (t6.trans t')
      · exact ((Sm.of_keeps k1).trans (Sm.put s₁ h₆ tk0)).trans ((Sm.of_keeps k7).trans (Sm.put _ _ _))
    cases kc <;> simp only [cConst] at hd <;> try cases hd
    · exact wpAny_Constant_none (fin _ _ (Keeps.refl _) .none)
    · exact wpAny_Constant_bool (fin _ _ (Keeps.refl _) (.bool _))
    · exact wpAny_Constant_int (fin _ _ (Keeps.tok _ _) (.int _ _))
    · split at hd <;> cases hd
      exact Calls.Constant_str (fin _ _ (Keeps.tok _ _) (.str _ _))
end
end Mine
end
section
set_option maxRecDepth 100000
namespace Mine
open PySem PyProof.Rows

section
variable {G : GCtx} {Φ : Funs} {k fu : Nat} {tp : Bool} {ns : List Str} {f : Fm} {h₀ : Heap} {F : Addr → Prop} {A₀ : Around}

theorem fz_of {C : Ctx} {is : List Nat} {p : PS} {r : PSs} {γ : Env'} {res : Flw × Env'} (h : evSs Φ fu tp γ (fz C is p r) = some res) : ∃ js, evSs Φ fu tp (frz γ js) (.cons p r) = some res := by
  unfold fz at h
  simp only at h
  split at h
  · exact ⟨[], h⟩
  · exact ⟨_, h⟩

theorem cons_of {p : PS} {r : PSs} {γ : Env'} {res : Flw × Env'} (h : evSs Φ fu tp γ (.cons p r) = some res) :
    ∃ fl₁ γ₁, evS Φ fu tp γ p = some (fl₁, γ₁) ∧ ((fl₁ = .next ∧ evSs Φ fu tp γ₁ r = some res) ∨ (fl₁ ≠ .next ∧ res = (fl₁, γ₁))) := by
  obtain ⟨⟨fl₁, γ₁⟩, h1, h⟩ := bind_some h
  refine ⟨fl₁, γ₁, h1, ?_⟩
  cases fl₁ with
  | next => exact .inl ⟨rfl, h⟩
  | _ => simp only [Option.some.injEq] at h; exact .inr ⟨(fun z => by cases z), h.symm⟩

/-- what lies behind one statement -/
structure Aft (G : GCtx) (Φ : Funs) (fu : Nat) (tp : Bool) (C : Ctx) (ns : List Str) (f : Fm) (h₀ : Heap) (F : Addr → Prop) (own : Addr → Option Nat) (s : Shared) (r : PSs) (res : Flw × Env') (Q : Flow → Shared → Prop) (E : Value → Shared → Prop) : Prop where
  next : ∀ own₁ γ₁ s₁, SI C ns f h₀ F own₁ γ₁ s₁.heap → Tr f own s.heap own₁ s₁.heap → Sm s s₁ → evSs Φ fu tp γ₁ r = some res → Q .next s₁
  out : ∀ fw s', fw ≠ .next → FPost C ns f h₀ F own s res.1 res.2 fw s' → Q fw s'
  exc : ∀ c, res.1 = .exc c → ∀ e s', RPost G C ns f h₀ F s c e s' → E e s'

theorem Aft.go {C : Ctx} {own own' : Addr → Option Nat} {s s' : Shared} {r : PSs} {res : Flw × Env'} {Q : Flow → Shared → Prop} {E : Value → Shared → Prop} (a : Aft G Φ fu tp C ns f h₀ F own s r res Q E) (t : Tr f own s.heap own' s'.heap) (m : Sm s s') : Aft G Φ fu tp C ns f h₀ F own' s' r res Q E :=
  ⟨fun o₁ γ₁ s₁ S t1 m1 h => a.next o₁ γ₁ s₁ S (t.trans t1) (m.trans m1) h, fun fw s₁ hn x => a.out fw s₁ hn (x.trans t m), fun c hc e s₁ x => a.exc c hc e s₁ (x.trans m)⟩

theorem Aft.post {C : Ctx} {own : Addr → Option Nat} {s : Shared} {r : PSs} {res : Flw × Env'} {Q : Flow → Shared → Prop} {E : Value → Shared → Prop} {fl₁ : Flw} {γ₁ : Env'} (a : Aft G Φ fu tp C ns f h₀ F own s r res Q E)
    (h : (fl₁ = .next ∧ evSs Φ fu tp γ₁ r = some res) ∨ (fl₁ ≠ .next ∧ res = (fl₁, γ₁))) : ∀ fw s', FPost C ns f h₀ F own s fl₁ γ₁ fw s' → Q fw s' := by
  intro fw s' x
  rcases h with ⟨rfl, h⟩ | ⟨hn, rfl⟩
  · cases fw with
    | next => obtain ⟨o₁, S, t, m⟩ := x; exact a.next o₁ γ₁ s' S t m h
    | _ => exact x.elim
  · refine a.out fw s' (fun z => ?_) x
    subst z
    cases fl₁ with
    | next => exact hn rfl
    | _ => exact x.elim
theorem Aft.left {C : Ctx} {own : Addr → Option Nat} {s : Shared} {r : PSs} {res : Flw × Env'} {Q : Flow → Shared → Prop} {E : Value → Shared → Prop} {γ₁ : Env'} (a : Aft G Φ fu tp C ns f h₀ F own s r res Q E)
    (h : ((.next : Flw) = .next ∧ evSs Φ fu tp γ₁ r = some res) ∨ ((.next : Flw) ≠ .next ∧ res = (.next, γ₁))) : ∀ s', Left C ns f h₀ F own s γ₁ s' → Q .next s' := fun s' x => a.post h .next s' x

theorem pre {C : Ctx} {is : List Nat} {q : PS} {r : PSs} {γ : Env'} {res : Flw × Env'} {own : Addr → Option Nat} {s : Shared} {Q : Flow → Shared → Prop} {E : Value → Shared → Prop} (al : Alloc F h₀) (S : SI C ns f h₀ F own γ s.heap)
    (he : evSs Φ fu tp γ (fz C is q r) = some res) (a : Aft G Φ fu tp C ns f h₀ F own s r res Q E) :
    ∃ own₁ γ₀ fl₁ γ₁, SI C ns f h₀ F own₁ γ₀ s.heap ∧ evS Φ fu tp γ₀ q = some (fl₁, γ₁) ∧ ((fl₁ = .next ∧ evSs Φ fu tp γ₁ r = some res) ∨ (fl₁ ≠ .next ∧ res = (fl₁, γ₁))) ∧ Aft G Φ fu tp C ns f h₀ F own₁ s r res Q E := by
  obtain ⟨js, he⟩ := fz_of he
  obtain ⟨own₁, S, t⟩ := SI.frz al js S
  obtain ⟨fl₁, γ₁, h2, h3⟩ := cons_of he
  exact ⟨own₁, _, fl₁, γ₁, S, h2, h3, a.go t (Sm.refl s)⟩

/-- st is followed -/
noncomputable def SndS (G : GCtx) (Φ : Funs) (k fu : Nat) (tp : Bool) (ns : List Str) (f : Fm) (h₀ : Heap) (F : Addr → Prop) (A₀ : Around) (st : Stmt) : Prop := ∀ (C : Ctx) (r p : PSs), cS C r st = some p → SX G Φ k C ns f h₀ F A₀ → (tp = true → A₀.frames = some []) →
    ∀ {own : Addr → Option Nat} {γ : Env'} {s : Shared} {res : Flw × Env'} {Q : Flow → Shared → Prop} {E : Value → Shared → Prop}, SI C ns f h₀ F own γ s.heap → evSs Φ fu tp γ p = some res → Aft G Φ fu tp C ns f h₀ F own s r res Q E →
    wpAny (model G.prog G.w) (A₀.deeper f.env) (exec st f.env) Q E s
theorem sS_none {st : Stmt} (h : ∀ C r, cS C r st = none) : SndS G Φ k fu tp ns f h₀ F A₀ st := fun C r p h' => by rw [h C r] at h'; cases h'

theorem sndSs (ss : List Stmt) (ih : ∀ st ∈ ss, SndS G Φ k fu tp ns f h₀ F A₀ st) (C : Ctx) (p : PSs) (h : cSs C ss = some p) (X : SX G Φ k C ns f h₀ F A₀) (htp : tp = true → A₀.frames = some []) {own : Addr → Option Nat} {γ : Env'} {s : Shared} {fl : Flw} {γ' : Env'} {Q : Flow → Shared → Prop} {E : Value → Shared → Prop}
    (S : SI C ns f h₀ F own γ s.heap) (he : evSs Φ fu tp γ p = some (fl, γ')) (hQ : ∀ fw s', FPost C ns f h₀ F own s fl γ' fw s' → Q fw s')
    (hE : ∀ c, fl = .exc c → ∀ e s', RPost G C ns f h₀ F s c e s' → E e s') :
    wpAny (model G.prog G.w) (A₀.deeper f.env) (execs ss f.env) Q E s := by
  induction ss generalizing p own γ s Q E with
  | nil =>
    cases h
    cases he
    exact wpAny_execs_nil (hQ .next s ⟨own, S, Tr.of_keeps fun _ _ e => e, Sm.refl s⟩)
  | cons st r ihr =>
    obtain ⟨b, h1, h⟩ := bind_some h
    refine wpAny_execs_cons (ih st (.head _) C b p h X htp S he ⟨fun o₁ g₁ s₁ S₁ t₁ m₁ e₁ => ?_, fun fw s' hn x => ?_, hE⟩)
    · exact ihr (fun y hy => ih y (.tail _ hy)) b h1 S₁ e₁ (fun fw s' x => hQ fw s' (x.trans t₁ m₁)) fun c hc e s' x => hE c hc e s' (x.trans m₁)
    · cases fw with
      | next => exact (hn rfl).elim
      | _ => exact hQ _ s' x

theorem swpOf_of {ts : List PySem.Expr} {v : PySem.Expr} {w : Swp} (h : swpOf ts v = some w) : ∃ p1 p2 p3 p4 q1 q2 q3 q4 kk pos, ts = [.Subscript (.Name w.x p1) w.i q1, .Subscript (.Name w.x p2) w.j q2] ∧ v = .Tuple [.Subscript (.Name w.x p3) w.k q3, .Subscript (.Name w.x p4) w.l q4] kk pos := by
  obtain ⟨t, h1, h⟩ := bind_some h
  obtain ⟨a, h2, h⟩ := bind_some h
  obtain ⟨b, h3, h⟩ := bind_some h
  obtain ⟨es, h4, h⟩ := bind_some h
  obtain ⟨u, h5, h⟩ := bind_some h
  obtain ⟨c, h6, h⟩ := bind_some h
  obtain ⟨d, h7, h⟩ := bind_some h
  obtain ⟨x, h8, h⟩ := bind_some h
  obtain ⟨y, h9, h⟩ := bind_some h
  obtain ⟨z, ha, h⟩ := bind_some h
  obtain ⟨e, hb, h⟩ := bind_some h
  obtain ⟨hc, h⟩ := ifS h
  subst h
  simp only [Bool.and_eq_true, beq_iff_eq] at hc
  obtain ⟨⟨c1, c2⟩, c3⟩ := hc
  refine ⟨x.2, y.2, z.2, e.2, a.pos, b.pos, c.pos, d.pos, es.2.1, es.2.2, ?_, ?_⟩
  · rw [two_of h1, subOf_of h2, subOf_of h3, nm_of h8, nm_of h9, c1]
  · rw [tupOf_of h4, two_of h5, subOf_of h6, subOf_of h7, nm_of ha, nm_of hb, c1, c2, c3]

theorem sS_Assign (ts : List PySem.Expr) (v : PySem.Expr) (pos : Pos) : SndS G Φ k fu tp ns f h₀ F A₀ (.Assign ts v pos) := fun C r p h X htp {own γ s res Q E} S he a => by
  obtain ⟨⟨is, q⟩, h1, h⟩ := bind_some h
  cases h
  obtain ⟨own₁, γ₀, fl₁, γ₁, S, h2, h3, a⟩ := pre X.al S he a
  obtain ⟨t, ht, h1'⟩ := bind_some h1
  clear h1
  have h1 := h1'
  clear h1'
  have ht' := oneE_of ht
  clear ht
  subst ht'
  cases t with
  | Name x px =>
    obtain ⟨i, w1, h1⟩ := bind_some h1
    obtain ⟨e, w2, h1⟩ := bind_some h1
    cases h1
    cases hb : C.bs.contains i with
    | true =>
      rw [hb] at h2
      obtain ⟨rv, e1, h2⟩ := bind_some h2
      cases h2
      exact X.asgName S true w2 e1 (slotNs X.K w1) (a.left h3)
    | false =>
      rw [hb] at h2
      obtain ⟨rv, e1, h2⟩ := bind_some h2
      cases h2
      exact X.asgName S false w2 e1 (slotNs X.K w1) (a.left h3)
  | Tuple ts kk pp =>
    have h1 : (match swpOf ts v with
      | some w => (bld C w.x).bind fun b => (cE C w.i).bind fun p => (cE C w.j).bind fun q => (cE C w.k).bind fun p' => (cE C w.l).bind fun q' =>
        if isIx w.i && isIx w.j && isIx w.k && isIx w.l then some (rdE 0 p ++ (rdE 0 q ++ (rdE 0 p' ++ rdE 0 q')), .swap b p q p' q') else none
      | none => if swapChk C ts v then (cNames C ts).bind fun is => (cE C v).bind fun e => some (rdE 0 e, .asgN is e) else none) = some (is, q) := h1
    cases hw : swpOf ts v with
    | some w =>
      rw [hw] at h1
      obtain ⟨b, w1, h1⟩ := bind_some h1
      obtain ⟨pp, w2, h1⟩ := bind_some h1
      obtain ⟨qq, w3, h1⟩ := bind_some h1
      obtain ⟨pp', w4, h1⟩ := bind_some h1
      obtain ⟨qq', w5, h1⟩ := bind_some h1
      obtain ⟨w6, h1⟩ := ifS h1
      cases h1
      simp only [Bool.and_eq_true] at w6
      obtain ⟨uk', e1, h2⟩ := bind_some h2
      obtain ⟨dx, e2, h2⟩ := bind_some h2
      obtain ⟨uj', e3, h2⟩ := bind_some h2
      obtain ⟨dy, e4, h2⟩ := bind_some h2
      obtain ⟨uk, e5, h2⟩ := bind_some h2
      obtain ⟨g1, e6, h2⟩ := bind_some h2
      obtain ⟨uj, e7, h2⟩ := bind_some h2
      obtain ⟨g2, e8, h2⟩ := bind_some h2
      cases h2
      obtain ⟨p1, p2, p3, p4, q1, q2, q3, q4, kk', pos', rfl, rfl⟩ := swpOf_of hw
      exact X.swap S w1 w6.1.2 w6.2 w2 w3 w4 w5 e1 e2 e3 e4 e5 e6 e7 e8 (a.left h3)
    | none =>
      rw [hw] at h1
      obtain ⟨w0, h1⟩ := ifB h1
      obtain ⟨is', w1, h1⟩ := bind_some h1
      obtain ⟨e, w2, h1⟩ := bind_some h1
      cases h1
      obtain ⟨⟨rd, rl⟩, e1, h2⟩ := bind_some h2
      cases rd with
      | tuple ds =>
        obtain ⟨g1, e2, h2⟩ := bind_some h2
        cases h2
        exact X.asgN S w0 w1 w2 e1 e2 (a.left h3)
      | _ => cases h2
  | Subscript o i sp =>
    cases o with
    | Name x px =>
      obtain ⟨b, w1, h1⟩ := bind_some h1
      obtain ⟨pp, w2, h1⟩ := bind_some h1
      obtain ⟨e, w3, h1⟩ := bind_some h1
      cases h1
      obtain ⟨rv, e1, h2⟩ := bind_some h2
      obtain ⟨kv, e2, h2⟩ := bind_some h2
      obtain ⟨g1, e3, h2⟩ := bind_some h2
      cases h2
      exact X.put S w1 w2 w3 e2 e1 e3 (a.left h3)
    | Subscript o j sp' =>
      obtain ⟨w0, h4⟩ := ifB h1
      obtain ⟨x, hx, h5⟩ := bind_some h4
      clear h1 h4
      have h1 := h5
      clear h5
      have hx' := nm_of hx
      clear hx
      subst hx'
      obtain ⟨b, w1, h1⟩ := bind_some h1
      obtain ⟨pp, w2, h1⟩ := bind_some h1
      obtain ⟨qq, w3, h1⟩ := bind_some h1
      obtain ⟨e, w4, h1⟩ := bind_some h1
      cases h1
      obtain ⟨rv, e1, h2⟩ := bind_some h2
      obtain ⟨kv, e2, h2⟩ := bind_some h2
      obtain ⟨jv, e3, h2⟩ := bind_some h2
      obtain ⟨g1, e4, h2⟩ := bind_some h2
      cases h2
      exact X.put2 S w1 w0 w2 w3 w4 e2 e3 e1 e4 (a.left h3)
    | _ => cases h1
  | _ => cases h1

theorem sS_Expr (e : PySem.Expr) (pos : Pos) : SndS G Φ k fu tp ns f h₀ F A₀ (.Expr e pos) := fun C r p h X htp {own γ s res Q E} S he a => by
  obtain ⟨⟨is, q⟩, h1, h⟩ := bind_some h
  cases h
  obtain ⟨own₁, γ₀, fl₁, γ₁, S, h2, h3, a⟩ := pre X.al S he a
  obtain ⟨c, hc, h1⟩ := bind_some h1
  obtain ⟨hk, h1⟩ := ifB h1
  obtain ⟨at', ha, h1⟩ := bind_some h1
  obtain ⟨x, hx, h1⟩ := bind_some h1
  obtain ⟨hl, h1⟩ := ifB h1
  rw [callOf_of hc, attOf_of ha, nm_of hx, List.isEmpty_iff.mp hk]
  cases hm : at'.2.1 == ("append" : Str) with
  | true =>
    rw [hm] at h1
    obtain ⟨y, hy, h1⟩ := bind_some h1
    obtain ⟨b, w1, h1⟩ := bind_some h1
    obtain ⟨e, w2, h1⟩ := bind_some h1
    cases h1
    obtain ⟨rv, e1, h2⟩ := bind_some h2
    obtain ⟨g1, e2, h2⟩ := bind_some h2
    cases h2
    rw [oneE_of hy, eq_of_beq hm]
    exact X.app S w1 hl w2 e1 e2 (a.left h3)
  | false =>
    rw [hm] at h1
    obtain ⟨hm2, h1⟩ := ifB (show (if at'.2.1 == ("insert" : Str) then _ else none) = _ from h1)
    obtain ⟨y, hy, h1⟩ := bind_some h1
    obtain ⟨b, w1, h1⟩ := bind_some h1
    obtain ⟨pp, w2, h1⟩ := bind_some h1
    obtain ⟨e, w3, h1⟩ := bind_some h1
    cases h1
    obtain ⟨kv, e1, h2⟩ := bind_some h2
    obtain ⟨rv, e2, h2⟩ := bind_some h2
    obtain ⟨g1, e3, h2⟩ := bind_some h2
    cases h2
    rw [two_of hy, eq_of_beq hm2]
    exact X.ins S w1 hl w2 w3 e1 e2 e3 (a.left h3)

theorem sS_If (t : PySem.Expr) {b c : List Stmt} (pos : Pos) (ihb : ∀ st ∈ b, SndS G Φ k fu tp ns f h₀ F A₀ st) (ihc : ∀ st ∈ c, SndS G Φ k fu tp ns f h₀ F A₀ st) : SndS G Φ k fu tp ns f h₀ F A₀ (.If t b c pos) := fun C r p h X htp {own γ s res Q E} S he a => by
  obtain ⟨pt, h1, h⟩ := bind_some h
  obtain ⟨pb, hb, h⟩ := bind_some h
  obtain ⟨pc, hc, h⟩ := bind_some h
  cases h
  obtain ⟨own₁, γ₀, fl₁, γ₁, S, h2, h3, a⟩ := pre X.al S he a
  obtain ⟨bv, e1, h2⟩ := bind_some h2
  have exc' : ∀ c, fl₁ = .exc c → ∀ e s', RPost G C ns f h₀ F s c e s' → E e s' := fun c hc => a.exc c (by
    rcases h3 with ⟨rfl, _⟩ | ⟨_, rfl⟩
    · cases hc
    · exact hc)
  refine wpAny_If (sndT t C pt h1 (X.H S) e1 fun s₁ k1 => ?_)
  have S1 := S.keeps (Keeps.heap k1)
  have a1 := a.go (Tr.of_keeps (Keeps.heap k1)) (Sm.of_keeps k1)
  cases bv with
  | true => exact sndSs b ihb C pb hb X htp S1 h2 (a1.post h3) fun c hc e s' x => exc' c hc e s' (x.trans (Sm.of_keeps k1))
  | false => exact sndSs c ihc C pc hc X htp S1 h2 (a1.post h3) fun c hc e s' x => exc' c hc e s' (x.trans (Sm.of_keeps k1))

theorem sS_For (tg it : PySem.Expr) {body : List Stmt} (oe : List Stmt) (pos : Pos) (ihb : ∀ st ∈ body, SndS G Φ k fu tp ns f h₀ F A₀ st) : SndS G Φ k fu tp ns f h₀ F A₀ (.For tg it body oe pos) := fun C r p h X htp {own γ s res Q E} S he a => by
  obtain ⟨hoe, h⟩ := ifB h
  obtain ⟨is, h1, h⟩ := bind_some h
  obtain ⟨pi, hi, h⟩ := bind_some h
  obtain ⟨pb, hb, h⟩ := bind_some h
  cases h
  obtain ⟨own₁, γ₀, fl₁, γ₁, S, h2, h3, a⟩ := pre X.al S he a
  obtain ⟨xs, e1, h2⟩ := bind_some h2
  have hoe' := List.isEmpty_iff.mp hoe
  subst hoe'
  cases tg with
  | Name x px =>
    obtain ⟨i, hx, h1⟩ := bind_some h1
    cases h1
    refine X.for_ S (slotNs X.K hx) hi e1 h2 (fun o₁ g₁ g₂ s₁ f₁ Q₁ E₁ ev hne S₁ hQ₁ => ?_) (a.post h3)
    exact sndSs body ihb C pb hb X htp S₁ ev hQ₁ fun c hc => (hne c hc).elim
  | _ => cases h1

theorem sS_Return (v : Option PySem.Expr) (pos : Pos) : SndS G Φ k fu tp ns f h₀ F A₀ (.Return v pos) := fun C r p h X htp {own γ s res Q E} S he a => by
  obtain ⟨⟨is, q⟩, h1, h⟩ := bind_some h
  cases h
  obtain ⟨own₁, γ₀, fl₁, γ₁, S, h2, h3, a⟩ := pre X.al S he a
  cases v with
  | none => cases h1
  | some v =>
    have h1 : (match isBld C v with
      | some i => some ([], .retv i)
      | none => (cE C v).bind fun e => some (rdE 0 e, .ret e)) = some (is, q) := h1
    cases hi : isBld C v with
    | some i =>
      rw [hi] at h1
      cases h1
      obtain ⟨x, hx, hi'⟩ := bind_some hi
      clear hi
      have hx' := nm_of hx
      clear hx
      subst hx'
      exact X.retv S hi' h2 (a.post h3)
    | none =>
      rw [hi] at h1
      obtain ⟨e, h4, h1⟩ := bind_some h1
      cases h1
      obtain ⟨rv, e1, h2⟩ := bind_some h2
      cases h2
      exact X.ret S h4 e1 fun v s' q1 q2 q3 => a.post h3 (.ret v) s' ⟨q1, q2, q3⟩

theorem sS_Raise (ex ca : Option PySem.Expr) (pos : Pos) : SndS G Φ k fu tp ns f h₀ F A₀ (.Raise ex ca pos) := fun C r p h X htp {own γ s res Q E} S he a => by
  obtain ⟨⟨is, q⟩, h1, h⟩ := bind_some h
  cases h
  obtain ⟨own₁, γ₀, fl₁, γ₁, S, h2, h3, a⟩ := pre X.al S he a
  cases ex with
  | none => cases h1
  | some e =>
    cases ca with
    | some _ => cases h1
    | none =>
      obtain ⟨c, hc, h1⟩ := bind_some h1
      obtain ⟨hk, h1⟩ := ifB h1
      obtain ⟨x, hx, h1⟩ := bind_some h1
      obtain ⟨y, hy, h1⟩ := bind_some h1
      obtain ⟨kc, hkc, h1⟩ := bind_some h1
      obtain ⟨m, hm', h1⟩ := bind_some h1
      obtain ⟨ci, h4, h1⟩ := bind_some h1
      obtain ⟨hm, h1⟩ := ifS h1
      cases h1
      cases h2
      rcases h3 with ⟨h3, _⟩ | ⟨_, rfl⟩
      · cases h3
      rw [callOf_of hc, nm_of hx, oneE_of hy, conOf_of hkc, strOf_of hm', List.isEmpty_iff.mp hk]
      exact X.raise S h4 hm fun e s' x => a.exc ci rfl e s' x

theorem hndOf_of {h : ExceptHandler} {x : PySem.Expr × Stmt × Pos} (e : hndOf h = some x) : h = .ExceptHandler (some x.1) none [x.2.1] x.2.2 := by
  obtain ⟨ty, nme, body, pos⟩ := h
  cases ty with
  | none => cases e
  | some ex => cases nme with
    | some _ => cases e
    | none => cases body with
      | nil => cases e
      | cons st r => cases r with
        | nil => cases e; rfl
        | cons => cases e
theorem sS_Try (body : List Stmt) (hs : List ExceptHandler) (oe fb : List Stmt) (pos : Pos) : SndS G Φ k fu tp ns f h₀ F A₀ (.Try body hs oe fb pos) := fun C r p h X htp {own γ s res Q E} S he a => by
  obtain ⟨hoe, h⟩ := ifB h
  obtain ⟨⟨is, q⟩, h1, h⟩ := bind_some h
  cases h
  obtain ⟨own₁, γ₀, fl₁, γ₁, S, h2, h3, a⟩ := pre X.al S he a
  obtain ⟨ho1, ho2⟩ := Bool.and_eq_true_iff.mp hoe
  obtain ⟨st, z1, h1⟩ := bind_some h1
  obtain ⟨as', z2, h1⟩ := bind_some h1
  obtain ⟨t, z3, h1⟩ := bind_some h1
  obtain ⟨x, z4, h1⟩ := bind_some h1
  obtain ⟨c, z5, h1⟩ := bind_some h1
  obtain ⟨fn, z6, h1⟩ := bind_some h1
  obtain ⟨hd, z7, h1⟩ := bind_some h1
  obtain ⟨hd', z8, h1⟩ := bind_some h1
  obtain ⟨ex, z9, h1⟩ := bind_some h1
  obtain ⟨a', y1, h1⟩ := bind_some h1
  obtain ⟨t', y2, h1⟩ := bind_some h1
  obtain ⟨y, y3, h1⟩ := bind_some h1
  obtain ⟨kc, y4, h1⟩ := bind_some h1
  obtain ⟨i, w1, h1⟩ := bind_some h1
  obtain ⟨j, w2, h1⟩ := bind_some h1
  obtain ⟨es, w3, h1⟩ := bind_some h1
  obtain ⟨ci, w4, h1⟩ := bind_some h1
  obtain ⟨yi, w5, h1⟩ := bind_some h1
  obtain ⟨d, w6, h1⟩ := bind_some h1
  have hne : (c.as.isEmpty || !c.ks.isEmpty) = false ∧ some (rdEs 0 es, PS.tryC i j es ci yi d) = some (is, q) := by
    split at h1
    · cases h1
    · exact ⟨Bool.eq_false_iff.mpr (by assumption), h1⟩
  obtain ⟨hne, h1⟩ := hne
  cases h1
  obtain ⟨n1, n2⟩ := Bool.or_eq_false_iff.mp hne
  have n3 : c.ks = [] := List.isEmpty_iff.mp (by simpa using n2)
  rw [oneE_of z1, asgOf_of z2, oneE_of z3, nm_of z4, callOf_of z5, nm_of z6, oneE_of z7, hndOf_of z8, nm_of z9, asgOf_of y1, oneE_of y2, nm_of y3, conOf_of y4, n3, List.isEmpty_iff.mp ho1, List.isEmpty_iff.mp ho2]
  exact X.tryC S htp w1 w2 w3 w4 w5 w6 n1 h2 (a.post h3)

theorem ltS_mem {ss : List Stmt} {n : Nat} (h : sizeOf ss < n) : ∀ e ∈ ss, sizeOf e < n := fun e he => Nat.lt_trans (List.sizeOf_lt_of_mem he) h
theorem sndS_all : ∀ (n : Nat) (st : Stmt), sizeOf st < n → SndS G Φ k fu tp ns f h₀ F A₀ st
  | 0, _, h => absurd h (Nat.not_lt_zero _)
  | n + 1, st, hn => by
    have ih := fun e h => sndS_all n e h
    cases st with
    | Assign ts v pos => exact sS_Assign ts v pos
    | Expr e pos => exact sS_Expr e pos
    | If t b c pos =>
      simp only [PySem.Stmt.If.sizeOf_spec] at hn
      exact sS_If t pos (fun e he => ih e (ltS_mem (by omega) e he)) (fun e he => ih e (ltS_mem (by omega) e he))
    | For tg it body oe pos =>
      simp only [PySem.Stmt.For.sizeOf_spec] at hn
      exact sS_For tg it oe pos (fun e he => ih e (ltS_mem (by omega) e he))
    | Return v pos => exact sS_Return v pos
    | Raise ex ca pos => exact sS_Raise ex ca pos
    | Try body hs oe fb pos => exact sS_Try body hs oe fb pos
    | Continue pos =>
      intro C r p h X htp own γ s res Q E S he a
      cases h
      obtain ⟨fl₁, γ₁, h2, h3⟩ := cons_of he
      cases h2
      exact wpAny_Continue (a.post h3 .cont s ⟨own, S, Tr.of_keeps fun _ _ e => e, Sm.refl s⟩)
    | Break pos =>
      intro C r p h X htp own γ s res Q E S he a
      cases h
      obtain ⟨fl₁, γ₁, h2, h3⟩ := cons_of he
      cases h2
      exact wpAny_Break (a.post h3 .brk s ⟨own, S, Tr.of_keeps fun _ _ e => e, Sm.refl s⟩)
    | _ => exact sS_none fun _ _ => rfl
theorem sndSsA (ss : List Stmt) (C : Ctx) (p : PSs) (h : cSs C ss = some p) (X : SX G Φ k C ns f h₀ F A₀) (htp : tp = true → A₀.frames = some []) {own : Addr → Option Nat} {γ : Env'} {s : Shared} {fl : Flw} {γ' : Env'} {Q : Flow → Shared → Prop} {E : Value → Shared → Prop}
    (S : SI C ns f h₀ F own γ s.heap) (he : evSs Φ fu tp γ p = some (fl, γ')) (hQ : ∀ fw s', FPost C ns f h₀ F own s fl γ' fw s' → Q fw s')
    (hE : ∀ c, fl = .exc c → ∀ e s', RPost G C ns f h₀ F s c e s' → E e s') :
    wpAny (model G.prog G.w) (A₀.deeper f.env) (execs ss f.env) Q E s := sndSs ss (fun st _ => sndS_all _ st (Nat.lt_succ_self _)) C p h X htp S he hQ hE
end
end Mine
end
section
set_option maxRecDepth 100000
namespace Mine
open PySem PyProof.Rows

theorem zip_lookup : ∀ {xs : List Str} {vs : List Value}, xs.Nodup → xs.length = vs.length → ∀ {i : Nat} {x : Str} {v : Value}, xs[i]? = some x → vs[i]? = some v → (xs.zip vs).lookup x = some v
  | [], _, _, _, i, x, v, h1, _ => by simp at h1
  | y :: ys, [], _, hl, _, _, _, _, _ => by simp at hl
  | y :: ys, w :: ws, hn, hl, 0, x, v, h1, h2 => by
    simp only [List.getElem?_cons_zero, Option.some.injEq] at h1 h2
    subst h1 h2
    simp [List.zip_cons_cons, List.lookup]
  | y :: ys, w :: ws, hn, hl, i + 1, x, v, h1, h2 => by
    simp only [List.getElem?_cons_succ] at h1 h2
    have hne : x ≠ y := fun z => (List.nodup_cons.mp hn).1 (z ▸ List.mem_of_getElem? h1)
    rw [List.zip_cons_cons, List.lookup_cons]
    have : (x == y) = false := by simpa using hne
    rw [this]
    exact zip_lookup (List.nodup_cons.mp hn).2 (by simpa using hl) h1 h2

theorem zip_isSome {xs : List Str} {vs : List Value} (hn : xs.Nodup) (hl : xs.length = vs.length) {x : Str} (hx : x ∈ xs) : ((xs.zip vs).lookup x).isNone = false := by
  obtain ⟨i, hi⟩ := List.getElem?_of_mem hx
  have hlt : i < vs.length := by rw [← hl]; exact (List.getElem?_eq_some_iff.mp hi).1
  rw [zip_lookup hn hl hi (List.getElem?_eq_getElem hlt)]
  rfl

theorem filterMap_zip : ∀ {xs : List Str} {vs : List Value} (l : List (Str × Value)), xs.length = vs.length → (∀ (i : Nat) (x : Str) (v : Value), xs[i]? = some x → vs[i]? = some v → l.lookup x = some v) →
    xs.filterMap (fun n => (l.lookup n).map (n, ·)) = xs.zip vs
  | [], [], _, _, _ => rfl
  | [], _ :: _, _, hl, _ => by simp at hl
  | _ :: _, [], _, hl, _ => by simp at hl
  | y :: ys, w :: ws, l, hl, h => by
    rw [List.filterMap_cons, h 0 y w rfl rfl]
    simp only [Option.map_some, List.zip_cons_cons]
    rw [filterMap_zip l (by simpa using hl) fun i x v h1 h2 => h (i + 1) x v (by simpa using h1) (by simpa using h2)]

theorem bind_plain {name : Str} {as : List Arg} {body : List Stmt} {sc : Scope} {pm cd doc : Value} {vs : List Value} (hn : (as.map (·.arg)).Nodup) (hl : (as.map (·.arg)).length = vs.length) :
    bindArgs (Calls.docDef name ⟨[], as, none, [], [], none, []⟩ body sc pm cd doc) ⟨vs, []⟩ = pure ((as.map (·.arg)).zip vs) := by
  have h1 : ((as.map (·.arg)).filter fun n => (((as.map (·.arg)).zip vs).lookup n).isNone) = [] := by
    rw [List.filter_eq_nil_iff]
    intro x hx
    rw [zip_isSome hn hl hx]
    simp
  have h2 := filterMap_zip ((as.map (·.arg)).zip vs) hl fun i x v e1 e2 => zip_lookup hn hl e1 e2
  unfold bindArgs
  simp only [Calls.docDef, List.map_nil, List.nil_append, List.forIn_nil, List.append_nil]
  have h3 : seqItems? Value.none = pure none := rfl
  simp only [h3, pure_bind, Option.getD_none, List.length_nil, Nat.sub_zero, List.drop_nil, List.zip_nil_right, List.forIn_nil, h2, List.isEmpty_nil]
  have h4 : ¬ (vs.length > (as.map (·.arg)).length) := by omega
  have h5 : (decide (vs.length > (as.map (·.arg)).length) && (none : Option Arg).isNone) = false := by rw [decide_eq_false h4]; rfl
  have h6 : (as.map (·.arg)).take (as.map (·.arg)).length = as.map (·.arg) := List.take_length
  simp only [List.toList_toArray, List.length_nil, Nat.zero_sub, List.drop_nil, Nat.sub_zero, h6, h1]
  rw [if_neg (by rw [h5]; decide)]
  rfl
end Mine
end
section
set_option maxRecDepth 100000
namespace Mine
open PySem PyProof.Rows

noncomputable def cellNs (sc : Scope) : List Str := (cellsFrom 0 sc.names []).map (·.1)
noncomputable def fnChk (C : Ctx) (sc : Scope) (ns : List Str) : Bool :=
  decide (C.ns = ns.map some) && decide ns.Nodup && sc.kind == .function && C.cn.all (fun x => (cellNs sc).contains x) &&
    ns.all (fun x => (sc.names.lookup x == some .local && !(cellNs sc).contains x) || (sc.names.lookup x == some .cell && (cellNs sc).contains x))

theorem lookup_mem {l : List (Str × Addr)} {x : Str} (h : x ∈ l.map (·.1)) : ∃ c, l.lookup x = some c := by
  induction l with
  | nil => simp at h
  | cons p r ih =>
    obtain ⟨y, c⟩ := p
    rw [List.lookup_cons]
    cases e : x == y with
    | true => exact ⟨c, rfl⟩
    | false =>
      simp only [List.map_cons, List.mem_cons] at h
      rcases h with h | h
      · rw [h] at e; simp at e
      · exact ih h
theorem lookup_not {l : List (Str × Addr)} {x : Str} (h : x ∉ l.map (·.1)) : l.lookup x = none := by
  induction l with
  | nil => rfl
  | cons p r ih =>
    obtain ⟨y, c⟩ := p
    simp only [List.map_cons, List.mem_cons, not_or] at h
    rw [List.lookup_cons, show (x == y) = false by simpa using h.1]
    exact ih h.2

theorem FnOk.of {C : Ctx} {sc : Scope} {ns : List Str} (h : fnChk C sc ns = true) (hk : C.kinds = sc.names) : FnOk C sc ns := by
  unfold fnChk at h
  simp only [Bool.and_eq_true, decide_eq_true_eq, List.all_eq_true, Bool.or_eq_true, beq_iff_eq, List.contains_iff_mem, Bool.not_eq_true', List.contains_eq_mem, decide_eq_false_iff_not] at h
  obtain ⟨⟨⟨⟨h1, h2⟩, h3⟩, h4⟩, h5⟩ := h
  have hc : ∀ n, (cellsFrom n sc.names []).map (·.1) = cellNs sc := fun n => cellsFrom_names sc.names n 0 [] [] rfl
  refine ⟨h1, h2, h3, hk, fun n x hx => lookup_mem (by rw [hc n]; exact h4 x hx), fun x hx => ?_⟩
  rcases h5 x hx with ⟨q1, q2⟩ | ⟨q1, q2⟩
  · exact .inl ⟨q1, fun n => lookup_not (by rw [hc n]; exact q2)⟩
  · exact .inr ⟨q1, fun n => lookup_mem (by rw [hc n]; exact q2)⟩

theorem bindL_other (ko : Str → Option NameKind) {x : Str} : ∀ (l : List (Str × Value)) (m : Str → Option Value), x ∉ l.map (·.1) → bindL ko l m x = m x
  | [], _, _ => rfl
  | (n, v) :: r, m, h => by
    simp only [List.map_cons, List.mem_cons, not_or] at h
    rw [bindL, bindL_other ko r _ h.2]
    split <;> simp [h.1]
theorem bindC_other (ko : Str → Option NameKind) {x : Str} : ∀ (l : List (Str × Value)) (m : Str → Option Value), x ∉ l.map (·.1) → bindC ko l m x = m x
  | [], _, _ => rfl
  | (n, v) :: r, m, h => by
    simp only [List.map_cons, List.mem_cons, not_or] at h
    rw [bindC, bindC_other ko r _ h.2]
    split <;> simp [h.1]
theorem bindL_at (ko : Str → Option NameKind) {x : Str} (hk : ko x = some .local) : ∀ (xs : List Str) (vs : List Value) (m : Str → Option Value), xs.Nodup → ∀ (i : Nat) (v : Value), xs[i]? = some x → vs[i]? = some v → bindL ko (xs.zip vs) m x = some v
  | [], _, _, _, i, v, h, _ => by simp at h
  | _ :: _, [], _, _, i, v, _, h => by simp at h
  | y :: ys, w :: ws, m, hn, 0, v, h1, h2 => by
    simp only [List.getElem?_cons_zero, Option.some.injEq] at h1 h2
    subst h1 h2
    rw [List.zip_cons_cons, bindL, bindL_other]
    · simp [hk]
    · intro z
      exact (List.nodup_cons.mp hn).1 (by
        obtain ⟨p, hp, rfl⟩ := List.mem_map.mp z
        exact (List.of_mem_zip hp).1)
  | y :: ys, w :: ws, m, hn, i + 1, v, h1, h2 => by
    rw [List.zip_cons_cons, bindL]
    exact bindL_at ko hk ys ws _ (List.nodup_cons.mp hn).2 i v (by simpa using h1) (by simpa using h2)
theorem bindC_at (ko : Str → Option NameKind) {x : Str} (hk : ko x ≠ some .local) : ∀ (xs : List Str) (vs : List Value) (m : Str → Option Value), xs.Nodup → ∀ (i : Nat) (v : Value), xs[i]? = some x → vs[i]? = some v → bindC ko (xs.zip vs) m x = some v
  | [], _, _, _, i, v, h, _ => by simp at h
  | _ :: _, [], _, _, i, v, _, h => by simp at h
  | y :: ys, w :: ws, m, hn, 0, v, h1, h2 => by
    simp only [List.getElem?_cons_zero, Option.some.injEq] at h1 h2
    subst h1 h2
    rw [List.zip_cons_cons, bindC, bindC_other]
    · simp [hk]
    · intro z
      exact (List.nodup_cons.mp hn).1 (by
        obtain ⟨p, hp, rfl⟩ := List.mem_map.mp z
        exact (List.of_mem_zip hp).1)
  | y :: ys, w :: ws, m, hn, i + 1, v, h1, h2 => by
    rw [List.zip_cons_cons, bindC]
    exact bindC_at ko hk ys ws _ (List.nodup_cons.mp hn).2 i v (by simpa using h1) (by simpa using h2)

/-- a def of the text and its compiled form -/
structure DefOk (G : GCtx) (name : Str) (params : Arguments) (body : List Stmt) (sc : Scope) (f : PFun) : Prop where
  ex : ∃ (C : Ctx) (as : List Arg), CG G C ∧ cSs C body = some f.body ∧ FnOk C sc f.ns ∧ params = ⟨[], as, none, [], [], none, []⟩ ∧ as.map (·.arg) = f.ns.take f.params ∧ f.params ≤ f.ns.length
  co : sc.isCoroutine = false
  gen : sc.isGenerator = false

theorem runs {G : GCtx} {Φ : Funs} {fu j : Nat} {tp : Bool} {f : PFun} {name : Str} {params : Arguments} {body : List Stmt} {sc : Scope} {pm code doc : Value} {a : Addr} {o : Obj} {args : List PyData} {out : Out} (g : GOk G) (D : DefOk G name params body sc f)
    (ho : G.hB.get? a = some o) (hd : o.data = .func (Calls.docDef name params body sc pm code doc)) (hcd : G.hB.CodeRec code name)
    (real : ∀ i as out, Φ i as = some out → i < j ∧ Realizes G i as out) (he : evF Φ fu tp f args = some out)
    {A : Around} {s : Shared} {F : Addr → Prop} {vs : List Value} {Q E : Value → Shared → Prop} (ok : Ok G (j + 1) A s) (htp : tp = true → A.frames = some []) (al : Alloc F s.heap) (rv : RDs s.heap F vs args)
    (hQ : ∀ d l, out = .ret d l → ∀ v s', Keeps s s' → Val F s.heap s'.heap v (d, l) → Q v s') (hE : ∀ c, out = .exc c → ∀ e s', ExcPost G A c e s s' → E e s') :
    wpAny (model G.prog G.w) A (call (.ref a) vs) Q E s := by
  obtain ⟨⟨C, as, cg, hc, K, rfl, hna, hle⟩, hco, hgen⟩ := D
  unfold evF at he
  split at he
  case isFalse => cases he
  rename_i hlen
  obtain ⟨⟨fl, γ'⟩, ev, he⟩ := bind_some he
  have hnd : (as.map (·.arg)).Nodup := by rw [hna]; exact K.nodup.sublist (List.take_sublist _ _)
  have hl : (as.map (·.arg)).length = vs.length := by
    rw [hna, List.length_take, rv.length, hlen]; omega
  refine wpAny_call (call_cells (by have := ok.dp; omega) (ok.kb _ _ ho) hd (g.nolimit.keeps ok.kb) (hcd.keeps ok.kb) (bind_plain hnd hl) (fun x hx => ?_) (fun h₁ tk F1 Y => ?_) hco hgen K.kind)
  · have hx1 : x.1 ∈ f.ns := by
      have := (List.of_mem_zip (show (x.1, x.2) ∈ _ from hx)).1
      rw [hna] at this
      exact List.mem_of_mem_take this
    rcases K.var x.1 hx1 with ⟨q1, _⟩ | ⟨q1, q2⟩
    · exact .inl q1
    · obtain ⟨c, hc⟩ := q2 (s.heap.objs.size + 1)
      exact .inr ⟨q1, by rw [hc]; rfl⟩
  · let fm : Fm := ⟨name, sc, s.heap.objs.size, a, code⟩
    have X : SX G Φ j C f.ns fm s.heap F A := ⟨g, real, cg, K, ⟨s, rfl, ok⟩, al⟩
    have S : SI C f.ns fm s.heap F (fun _ => none) (args.map Slot.pl ++ List.replicate (f.ns.length - f.params) Slot.un) h₁ := by
      refine ⟨⟨_, _, F1, Y, fun i x sl e1 e2 => ?_⟩, fun b i q => by cases q⟩
      by_cases hi : i < args.length
      · rw [List.getElem?_append_left (by simpa using hi), List.getElem?_map] at e2
        obtain ⟨d, e3, rfl⟩ := Option.map_eq_some_iff.mp e2
        obtain ⟨v, e4, r⟩ := rv.get e3
        have e5 : (as.map (·.arg))[i]? = some x := by rw [hna, List.getElem?_take_of_lt (by omega)]; exact e1
        have hv : vof sc (bindL (envOfC name sc s.heap.objs.size a code).kindOf ((as.map (·.arg)).zip vs) fun _ => none) (bindC (envOfC name sc s.heap.objs.size a code).kindOf ((as.map (·.arg)).zip vs) fun _ => none) x = some v := by
          unfold vof
          split
          · rename_i hk
            exact bindL_at _ hk _ _ _ hnd i v e5 e4
          · rename_i hk
            exact bindC_at _ hk _ _ _ hnd i v e5 e4
        show SlotOK h₁ F (fun _ => none) i (.pl d) (vof sc _ _ x)
        rw [hv]
        exact (r.keeps F1.keep).weak fun b q => .inl (q.elim id fun z => (z rfl).elim)
      · rw [List.getElem?_append_right (by simpa using hi)] at e2
        have := List.mem_of_getElem? e2
        rw [List.mem_replicate] at this
        rw [this.2]
        trivial
    have fin : ∀ {s' : Shared}, KeepsH s.heap s'.heap → Sm { s with heap := h₁, toks := tk } s' → Keeps s s' := by
      rintro s' hk ⟨h', tk', rfl⟩
      exact ⟨h', tk', rfl, hk⟩
    refine sndSsA body C f.body hc X htp (s := { s with heap := h₁, toks := tk }) S ev (fun fw s' x => ?_) fun c hc e s' x => ?_
    · cases fl with
      | next => cases fw with
        | next =>
          obtain ⟨own', S', _, m'⟩ := x
          cases he
          exact hQ _ _ rfl _ _ (fin S'.h0 m') (.of .none)
        | _ => exact x.elim
      | ret d l => cases fw with
        | ret v =>
          obtain ⟨x1, x2, x3⟩ := x
          cases he
          exact hQ _ _ rfl _ _ (fin x2 x3) x1
        | _ => exact x.elim
      | brk => cases he
      | cont => cases he
      | exc c => cases fw <;> exact x.elim
    · subst hc
      cases he
      obtain ⟨ea, own₁, γ₁, h₂, as', rfl, S₂, hx, m₂⟩ := x
      obtain ⟨outer, hfr, hff⟩ := ok.fr
      obtain ⟨⟨m, cm, F2, Y2, _⟩, _⟩ := id S₂
      have hfr' : (A.deeper fm.env).frames = some (fm.env :: outer) := Around.frames_deeper hfr
      obtain ⟨oL, es, ep, hL, hLd, _⟩ := F2.ns
      have hL0 : G.hB.get? fm.L = none := by
        cases q : G.hB.get? fm.L with
        | none => rfl
        | some o => exact absurd (Heap.lt_size (ok.kb fm.L o q)) (Nat.lt_irrefl _)
      have hff2 : h₂.FunFrames G.hB (fm.env :: outer) := ⟨by show sc.kind ≠ .module; rw [K.kind]; decide, ⟨fm.L, oL, rfl, hL0, hL, fun vs q => by rw [hLd] at q; cases q⟩, hff.of_keeps fun b o e _ => ⟨o, F2.keep b o e, rfl⟩⟩
      have hin : ∀ env ∈ (fm.env :: outer), ∀ b, env.frame = some b → b ∈ (fm.env :: outer).filterMap (·.frame) := fun env he b hb => List.mem_filterMap.mpr ⟨env, he, hb⟩
      refine wpAny_leaves_madeW (base := PySem.W.hideAll h₂ ((fm.env :: outer).filterMap fun (e : Env) => e.frame)) hfr' rfl (fun b o q => PySem.W.of_hideAll _ q) (PySem.W.funFrames_hide hff2 hin) hx fun h' t x1 x2 x3 x4 => ?_
      refine hE c rfl _ _ ⟨ea, _, outer, _, rfl, hfr, x1, fun b o e hn => PySem.W.hideAll_get _ (F2.keep b o e) ?_, ?_, ?_⟩
      · rw [List.filterMap_cons]
        show b ∉ fm.L :: outer.filterMap (·.frame)
        rw [List.mem_cons, not_or]
        exact ⟨Nat.ne_of_lt (Heap.lt_size e), hn⟩
      · exact ((Heap.UpToSlots.of_keeps F2.keep).trans (Heap.UpToSlots.of_keeps hx.keeps)).trans x4
      · obtain ⟨h3, tk3, rfl⟩ := m₂
        exact ⟨h', tk3, rfl⟩
end Mine
end
section
set_option maxRecDepth 100000
namespace Mine
open PySem PyProof.Rows

noncomputable def DefAt (G : GCtx) (f : PFun) : Prop :=
  ∃ name params body sc pm code doc a o, G.mg f.name = some (.ref a) ∧ G.hB.get? a = some o ∧ o.data = .func (Calls.docDef name params body sc pm code doc) ∧ G.hB.CodeRec code name ∧ DefOk G name params body sc f

theorem towerReal {G : GCtx} (g : GOk G) (hd : ∀ (j : Nat) (f : PFun), G.fs[j]? = some f → DefAt G f) (fu : Nat) : ∀ (k j : Nat) (args : List PyData) (out : Out), tower G.fs fu k j args = some out → j < k ∧ Realizes G j args out
  | 0, _, _, _, h => by cases h
  | k + 1, j, args, out, h => by
    unfold tower at h
    split at h
    · rename_i hj
      subst hj
      refine ⟨Nat.lt_succ_self _, ?_⟩
      intro f a hf hm A s F vs Q E ok al rv hQ hE
      rw [hf] at h
      simp only at h
      obtain ⟨name, params, body, sc, pm, code, doc, a', o, w1, w2, w3, w4, w5⟩ := hd _ f hf
      rw [hm] at w1
      cases w1
      exact runs g w5 w2 w3 w4 (towerReal g hd fu j) h ok (fun z => by cases z) al rv hQ hE
    · obtain ⟨q1, q2⟩ := towerReal g hd fu k j args out h
      exact ⟨Nat.lt_succ_of_lt q1, q2⟩
end Mine
end
section
set_option maxRecDepth 100000
namespace Mine
open PySem
noncomputable def dSizes : PyData := .tuple ([3,0,2,3,1,3,2,3].map (PyData.int ·))
noncomputable def dPivots : PyData := .tuple ([1,0,-2,3,5,-6,0,-1,6,2,-5,4].map (PyData.int ·))
noncomputable def dCounts : PyData := .tuple ([1,1,2,6,24].map (PyData.int ·))
noncomputable def cons7 : List (Str × PyData) := [(("_law_sizes" : Str), dSizes), (("_law_pivots" : Str), dPivots), (("_law_counts" : Str), dCounts)]
noncomputable def excs7 : List Str := [("ZeroDivisionError" : Str)]

noncomputable def b7_0 : PSs := (.cons (.ret (.comp (.sl (.var 0) (.lit .none) (.lit .none)) 1 (.of (.var 0)) .tt))
  .nil)
noncomputable def f7_0 : PFun := ⟨("copy_rows" : Str), 1, [("m" : Str)], b7_0⟩
noncomputable def n7_0 : List Str := []

noncomputable def b7_1 : PSs := (.cons (.for_ [4] (.r2 (.var 2) (.blt .len (.var 0))) (.cons (.ite (.cmp .ne (.idx (.idx (.var 0) (.var 4)) (.var 1)) (.var 3)) (.cons (.ret (.var 4))
  .nil) .nil)
  .nil))
  (.cons (.ret (.neg (.lit (.int 1))))
  .nil))
noncomputable def f7_1 : PFun := ⟨("pivot_row" : Str), 4, [("m" : Str), ("c" : Str), ("start" : Str), ("zero" : Str), ("i" : Str)], b7_1⟩
noncomputable def n7_1 : List Str := []

noncomputable def b7_2 : PSs := (.cons (.asg 0 (.blt .abs (.var 0)))
  (.cons (.asg 1 (.blt .abs (.var 1)))
  (.cons (.for_ [2] (.r1 (.bin .add (.bin .mul (.lit (.int 5)) (.blt .len (.blt .str (.bin .add (.var 0) (.var 1))))) (.lit (.int 2)))) (.cons (.ite (.cmp .eq (.var 1) (.lit (.int 0))) (.cons (.ret (.var 0))
  .nil) .nil)
  (.cons (.asgN [0, 1] (.tup (.cons (.var 1) (.cons (.bin .mod (.var 0) (.var 1)) .nil))))
  .nil)))
  (.cons (.ret (.var 0))
  .nil))))
noncomputable def f7_2 : PFun := ⟨("gcd_of" : Str), 2, [("a" : Str), ("b" : Str), ("_" : Str)], b7_2⟩
noncomputable def n7_2 : List Str := []

noncomputable def b7_3 : PSs := (.cons (.ite (.cmp .eq (.var 1) (.lit (.int 0))) (.cons (.raise 0 ("fraction with denominator 0" : Str))
  .nil) .nil)
  (.cons (.ite (.cmp .lt (.var 1) (.lit (.int 0))) (.cons (.asg 0 (.neg (.var 0)))
  (.cons (.asg 1 (.neg (.var 1)))
  .nil)) .nil)
  (.cons (.asg 2 (.call 2 (.cons (.var 0) (.cons (.var 1) .nil))))
  (.cons (.ret (.tup (.cons (.bin .fdiv (.var 0) (.var 2)) (.cons (.bin .fdiv (.var 1) (.var 2)) .nil))))
  .nil))))
noncomputable def f7_3 : PFun := ⟨("frac" : Str), 2, [("n" : Str), ("d" : Str), ("g" : Str)], b7_3⟩
noncomputable def n7_3 : List Str := []

noncomputable def b7_4 : PSs := (.cons (.ret (.call 3 (.cons (.bin .add (.bin .mul (.idx (.var 0) (.lit (.int 0))) (.idx (.var 1) (.lit (.int 1)))) (.bin .mul (.idx (.var 1) (.lit (.int 0))) (.idx (.var 0) (.lit (.int 1))))) (.cons (.bin .mul (.idx (.var 0) (.lit (.int 1))) (.idx (.var 1) (.lit (.int 1)))) .nil))))
  .nil)
noncomputable def f7_4 : PFun := ⟨("f_add" : Str), 2, [("x" : Str), ("y" : Str)], b7_4⟩
noncomputable def n7_4 : List Str := []

noncomputable def b7_5 : PSs := (.cons (.ret (.tup (.cons (.neg (.idx (.var 0) (.lit (.int 0)))) (.cons (.idx (.var 0) (.lit (.int 1))) .nil))))
  .nil)
noncomputable def f7_5 : PFun := ⟨("f_neg" : Str), 1, [("x" : Str)], b7_5⟩
noncomputable def n7_5 : List Str := []

noncomputable def b7_6 : PSs := (.cons (.ret (.call 3 (.cons (.bin .mul (.idx (.var 0) (.lit (.int 0))) (.idx (.var 1) (.lit (.int 0)))) (.cons (.bin .mul (.idx (.var 0) (.lit (.int 1))) (.idx (.var 1) (.lit (.int 1)))) .nil))))
  .nil)
noncomputable def f7_6 : PFun := ⟨("f_mul" : Str), 2, [("x" : Str), ("y" : Str)], b7_6⟩
noncomputable def n7_6 : List Str := []

noncomputable def b7_7 : PSs := (.cons (.ite (.cmp .eq (.idx (.var 1) (.lit (.int 0))) (.lit (.int 0))) (.cons (.raise 0 ("division by the fraction 0" : Str))
  .nil) .nil)
  (.cons (.ret (.call 3 (.cons (.bin .mul (.idx (.var 0) (.lit (.int 0))) (.idx (.var 1) (.lit (.int 1)))) (.cons (.bin .mul (.idx (.var 0) (.lit (.int 1))) (.idx (.var 1) (.lit (.int 0)))) .nil))))
  .nil))
noncomputable def f7_7 : PFun := ⟨("f_div" : Str), 2, [("x" : Str), ("y" : Str)], b7_7⟩
noncomputable def n7_7 : List Str := []

noncomputable def b7_8 : PSs := (.cons (.ite (.cmp .eq (.idx (.var 0) (.lit (.int 1))) (.lit (.int 1))) (.cons (.ret (.blt .str (.idx (.var 0) (.lit (.int 0)))))
  .nil) .nil)
  (.cons (.ret (.bin .add (.bin .add (.blt .str (.idx (.var 0) (.lit (.int 0)))) (.lit (.str ("/" : Str)))) (.blt .str (.idx (.var 0) (.lit (.int 1))))))
  .nil))
noncomputable def f7_8 : PFun := ⟨("f_text" : Str), 1, [("x" : Str)], b7_8⟩
noncomputable def n7_8 : List Str := []

noncomputable def b7_9 : PSs := (.cons (.bnew 3 (.call 0 (.cons (.var 0) .nil)))
  (.cons (.put 3 (.var 1) (.sl (.idx (.var 0) (.var 2)) (.lit .none) (.lit .none)))
  (.cons (.put 3 (.var 2) (.sl (.idx (.var 0) (.var 1)) (.lit .none) (.lit .none)))
  (.cons (.retv 3)
  .nil))))
noncomputable def f7_9 : PFun := ⟨("rows_swapped" : Str), 3, [("m" : Str), ("i" : Str), ("j" : Str), ("out" : Str)], b7_9⟩
noncomputable def n7_9 : List Str := [("out" : Str)]

noncomputable def b7_10 : PSs := (.cons (.bnew 4 (.call 0 (.cons (.var 0) .nil)))
  (.cons (.put 4 (.var 1) (.comp (.call 4 (.cons (.idx (.idx (.var 1) (.var 2)) (.var 0)) (.cons (.call 6 (.cons (.var 4) (.cons (.idx (.idx (.var 1) (.var 3)) (.var 0)) .nil))) .nil))) 1 (.r1 (.blt .len (.idx (.var 0) (.var 1)))) .tt))
  (.cons (.retv 4)
  .nil)))
noncomputable def f7_10 : PFun := ⟨("row_added" : Str), 4, [("m" : Str), ("i" : Str), ("j" : Str), ("k" : Str), ("out" : Str)], b7_10⟩
noncomputable def n7_10 : List Str := [("out" : Str)]

noncomputable def b7_11 : PSs := (.cons (.asg 1 (.lst (.cons (.lst .nil) .nil)))
  (.cons (.for_ [2] (.r1 (.var 0)) (.cons (.bnew 3 (.lst .nil))
  (.cons (.for_ [4] (.of (.var 1)) (.cons (.for_ [5] (.r1 (.bin .add (.blt .len (.var 4)) (.lit (.int 1)))) (.cons (.app 3 (.bin .add (.bin .add (.sl (.var 4) (.lit .none) (.var 5)) (.lst (.cons (.var 2) .nil))) (.sl (.var 4) (.var 5) (.lit .none))))
  .nil))
  .nil))
  (.cons (.frz [3])
  (.cons (.asg 1 (.var 3))
  .nil)))))
  (.cons (.ret (.var 1))
  .nil)))
noncomputable def f7_11 : PFun := ⟨("permutations_of" : Str), 1, [("n" : Str), ("perms" : Str), ("k" : Str), ("grown" : Str), ("p" : Str), ("g" : Str)], b7_11⟩
noncomputable def n7_11 : List Str := [("grown" : Str)]

noncomputable def b7_12 : PSs := (.cons (.asg 1 (.lit (.int 0)))
  (.cons (.for_ [2] (.r1 (.blt .len (.var 0))) (.cons (.for_ [3] (.r2 (.bin .add (.var 2) (.lit (.int 1))) (.blt .len (.var 0))) (.cons (.ite (.cmp .gt (.idx (.var 0) (.var 2)) (.idx (.var 0) (.var 3))) (.cons (.asg 1 (.bin .add (.var 1) (.lit (.int 1))))
  .nil) .nil)
  .nil))
  .nil))
  (.cons (.ite (.cmp .eq (.bin .mod (.var 1) (.lit (.int 2))) (.lit (.int 0))) (.cons (.ret (.lit (.int 1)))
  .nil) .nil)
  (.cons (.ret (.neg (.lit (.int 1))))
  .nil))))
noncomputable def f7_12 : PFun := ⟨("sign_of" : Str), 1, [("p" : Str), ("count" : Str), ("i" : Str), ("j" : Str)], b7_12⟩
noncomputable def n7_12 : List Str := []

noncomputable def b7_13 : PSs := (.cons (.asg 1 (.blt .len (.var 0)))
  (.cons (.asg 2 (.call 0 (.cons (.var 0) .nil)))
  (.cons (.bnew 3 (.comp (.bin .mul (.lst (.cons (.tup (.cons (.lit (.int 0)) (.cons (.lit (.int 1)) .nil))) .nil)) (.var 2)) 1 (.r1 (.var 1)) .tt))
  (.cons (.bnew 4 (.lrange (.r1 (.var 1))))
  (.cons (.for_ [5] (.r1 (.var 1)) (.cons (.asg 6 (.call 1 (.cons (.var 2) (.cons (.var 5) (.cons (.var 5) (.cons (.tup (.cons (.lit (.int 0)) (.cons (.lit (.int 1)) .nil))) .nil))))))
  (.cons (.ite (.cmp .eq (.var 6) (.neg (.lit (.int 1)))) (.cons .cont
  .nil) .nil)
  (.cons (.ite (.cmp .ne (.var 6) (.var 5)) (.cons (.asg 2 (.call 9 (.cons (.var 2) (.cons (.var 5) (.cons (.var 6) .nil)))))
  (.cons (.frz [3])
  (.cons (.bnew 3 (.call 9 (.cons (.var 3) (.cons (.var 5) (.cons (.var 6) .nil)))))
  (.cons (.swap 4 (.var 5) (.var 6) (.var 6) (.var 5))
  .nil)))) .nil)
  (.cons (.for_ [7] (.r2 (.bin .add (.var 5) (.lit (.int 1))) (.var 1)) (.cons (.asg 8 (.call 7 (.cons (.idx (.idx (.var 2) (.var 7)) (.var 5)) (.cons (.idx (.idx (.var 2) (.var 5)) (.var 5)) .nil))))
  (.cons (.put2 3 (.var 7) (.var 5) (.var 8))
  (.cons (.asg 2 (.call 10 (.cons (.var 2) (.cons (.var 7) (.cons (.var 5) (.cons (.call 5 (.cons (.var 8) .nil)) .nil))))))
  .nil))))
  .nil)))))
  (.cons (.for_ [7] (.r1 (.var 1)) (.cons (.put2 3 (.var 7) (.var 7) (.tup (.cons (.lit (.int 1)) (.cons (.lit (.int 1)) .nil))))
  .nil))
  (.cons (.frz [3, 4])
  (.cons (.ret (.tup (.cons (.var 4) (.cons (.var 3) (.cons (.var 2) .nil)))))
  .nil))))))))
noncomputable def f7_13 : PFun := ⟨("lu_of" : Str), 1, [("m" : Str), ("n" : Str), ("up" : Str), ("low" : Str), ("perm" : Str), ("c" : Str), ("found" : Str), ("i" : Str), ("k" : Str)], b7_13⟩
noncomputable def n7_13 : List Str := [("low" : Str), ("perm" : Str)]

noncomputable def b7_14 : PSs := (.cons (.ite (.cmp .eq (.var 1) (.lit (.int 0))) (.cons (.ret (.blt .abs (.var 0)))
  .nil) .nil)
  (.cons (.asg 2 (.lit (.int 1)))
  (.cons (.for_ [3] (.of (.tup (.cons (.lit (.int 2)) (.cons (.lit (.int 3)) (.cons (.lit (.int 4)) (.cons (.lit (.int 5)) (.cons (.lit (.int 6)) (.cons (.lit (.int 12)) .nil)))))))) (.cons (.ite (.and (.cmp .eq (.bin .mod (.var 0) (.var 3)) (.lit (.int 0))) (.and (.cmp .eq (.bin .mod (.var 1) (.var 3)) (.lit (.int 0))) .tt)) (.cons (.asg 2 (.var 3))
  .nil) .nil)
  .nil))
  (.cons (.ret (.var 2))
  .nil))))
noncomputable def f7_14 : PFun := ⟨("_law_divisor" : Str), 2, [("n" : Str), ("d" : Str), ("best" : Str), ("g" : Str)], b7_14⟩
noncomputable def n7_14 : List Str := []

noncomputable def b7_15 : PSs := (.cons (.asg 2 (.call 14 (.cons (.var 0) (.cons (.var 1) .nil))))
  (.cons (.ite (.cmp .lt (.var 1) (.lit (.int 0))) (.cons (.asg 2 (.neg (.var 2)))
  .nil) .nil)
  (.cons (.ret (.tup (.cons (.bin .fdiv (.var 0) (.var 2)) (.cons (.bin .fdiv (.var 1) (.var 2)) .nil))))
  .nil)))
noncomputable def f7_15 : PFun := ⟨("_law_low" : Str), 2, [("n" : Str), ("d" : Str), ("g" : Str)], b7_15⟩
noncomputable def n7_15 : List Str := []

noncomputable def b7_16 : PSs := (.cons (.bnew 2 (.lst .nil))
  (.cons (.bnew 3 (.lst .nil))
  (.cons (.for_ [4] (.of (.var 0)) (.cons (.bnew 5 (.lst .nil))
  (.cons (.bnew 6 (.lst .nil))
  (.cons (.for_ [7] (.of (.var 4)) (.cons (.asg 8 (.call 15 (.cons (.var 7) (.cons (.var 1) .nil))))
  (.cons (.app 5 (.var 8))
  (.cons (.ite (.cmp .eq (.bin .mod (.var 7) (.var 1)) (.lit (.int 0))) (.cons (.app 6 (.blt .str (.bin .fdiv (.var 7) (.var 1))))
  .nil) (.cons (.app 6 (.bin .add (.bin .add (.blt .str (.idx (.var 8) (.lit (.int 0)))) (.lit (.str ("/" : Str)))) (.blt .str (.idx (.var 8) (.lit (.int 1))))))
  .nil))
  .nil))))
  (.cons (.frz [5])
  (.cons (.app 2 (.var 5))
  (.cons (.frz [6])
  (.cons (.app 3 (.var 6))
  .nil))))))))
  (.cons (.frz [2, 3])
  (.cons (.ret (.tup (.cons (.var 2) (.cons (.var 3) .nil))))
  .nil)))))
noncomputable def f7_16 : PFun := ⟨("_law_written" : Str), 2, [("nums" : Str), ("d" : Str), ("pairs" : Str), ("texts" : Str), ("row" : Str), ("line" : Str), ("words" : Str), ("v" : Str), ("p" : Str)], b7_16⟩
noncomputable def n7_16 : List Str := [("pairs" : Str), ("texts" : Str), ("line" : Str), ("words" : Str)]

noncomputable def b7_17 : PSs := (.cons (.asg 3 (.lst (.cons (.lst (.cons (.idx (.var 1) (.lit (.int 0))) (.cons (.idx (.var 2) (.lit (.int 0))) (.cons (.idx (.var 2) (.lit (.int 1))) .nil)))) (.cons (.lst (.cons (.lit (.int 0)) (.cons (.idx (.var 1) (.lit (.int 1))) (.cons (.idx (.var 2) (.lit (.int 2))) .nil)))) (.cons (.lst (.cons (.lit (.int 0)) (.cons (.lit (.int 0)) (.cons (.idx (.var 1) (.lit (.int 2))) .nil)))) .nil)))))
  (.cons (.ret (.comp (.sl (.var 0) (.lit .none) (.var 1)) 1 (.of (.sl (.var 3) (.lit .none) (.var 0))) .tt))
  .nil))
noncomputable def f7_17 : PFun := ⟨("_law_upper" : Str), 3, [("n" : Str), ("diag" : Str), ("side" : Str), ("full" : Str)], b7_17⟩
noncomputable def n7_17 : List Str := []

noncomputable def b7_18 : PSs := (.cons (.bnew 3 (.lst .nil))
  (.cons (.for_ [4] (.r1 (.blt .len (.var 0))) (.cons (.ite (.cmp .eq (.var 4) (.var 1)) (.cons (.app 3 (.idx (.var 0) (.var 2)))
  .nil) (.cons (.ite (.cmp .eq (.var 4) (.var 2)) (.cons (.app 3 (.idx (.var 0) (.var 1)))
  .nil) (.cons (.app 3 (.idx (.var 0) (.var 4)))
  .nil))
  .nil))
  .nil))
  (.cons (.retv 3)
  .nil)))
noncomputable def f7_18 : PFun := ⟨("_law_exchanged" : Str), 3, [("xs" : Str), ("c" : Str), ("s" : Str), ("out" : Str), ("i" : Str)], b7_18⟩
noncomputable def n7_18 : List Str := [("out" : Str)]

noncomputable def b7_19 : PSs := (.cons (.asg 4 (.lrange (.r1 (.var 0))))
  (.cons (.asg 5 (.comp (.lst .nil) 1 (.r1 (.var 0)) .tt))
  (.cons (.asg 6 (.lit (.int 1)))
  (.cons (.for_ [7] (.r1 (.var 0)) (.cons (.asg 8 (.var 7))
  (.cons (.ite (.cmp .ne (.idx (.idx (.var 1) (.var 7)) (.var 7)) (.lit (.int 0))) (.cons (.asg 8 (.bin .add (.var 7) (.bin .mod (.idx (.var 2) (.var 7)) (.bin .sub (.var 0) (.var 7)))))
  .nil) .nil)
  (.cons (.ite (.cmp .ne (.var 8) (.var 7)) (.cons (.asg 6 (.neg (.var 6)))
  .nil) .nil)
  (.cons (.asg 4 (.call 18 (.cons (.var 4) (.cons (.var 7) (.cons (.var 8) .nil)))))
  (.cons (.asg 5 (.call 18 (.cons (.var 5) (.cons (.var 7) (.cons (.var 8) .nil)))))
  (.cons (.bnew 9 (.lst .nil))
  (.cons (.for_ [10] (.r1 (.var 0)) (.cons (.asg 11 (.lit (.int 0)))
  (.cons (.ite (.cmp .eq (.var 10) (.var 7)) (.cons (.asg 11 (.lit (.int 2)))
  .nil) .nil)
  (.cons (.ite (.and (.cmp .gt (.var 10) (.var 8)) (.and (.cmp .ne (.idx (.idx (.var 1) (.var 7)) (.var 7)) (.lit (.int 0))) .tt)) (.cons (.asg 11 (.bin .sub (.bin .mod (.idx (.var 3) (.bin .sub (.bin .add (.var 7) (.var 10)) (.lit (.int 1)))) (.lit (.int 7))) (.lit (.int 3))))
  .nil) .nil)
  (.cons (.app 9 (.bin .add (.idx (.var 5) (.var 10)) (.lst (.cons (.var 11) .nil))))
  .nil)))))
  (.cons (.frz [9])
  (.cons (.asg 5 (.var 9))
  .nil))))))))))
  (.cons (.ret (.tup (.cons (.var 4) (.cons (.var 5) (.cons (.var 6) .nil)))))
  .nil)))))
noncomputable def f7_19 : PFun := ⟨("_law_plan" : Str), 4, [("n" : Str), ("u" : Str), ("turns" : Str), ("ks" : Str), ("order" : Str), ("halves" : Str), ("sign" : Str), ("c" : Str), ("s" : Str), ("grown" : Str), ("i" : Str), ("k" : Str)], b7_19⟩
noncomputable def n7_19 : List Str := [("grown" : Str)]

noncomputable def b7_20 : PSs := (.cons (.asg 3 (.blt .len (.var 0)))
  (.cons (.bnew 4 (.lst .nil))
  (.cons (.for_ [5] (.r1 (.var 3)) (.cons (.asg 6 (.mth .index (.var 0) (.var 5)))
  (.cons (.bnew 7 (.lst .nil))
  (.cons (.for_ [8] (.r1 (.var 3)) (.cons (.asg 9 (.lit (.int 0)))
  (.cons (.for_ [10] (.r1 (.var 3)) (.cons (.asg 9 (.bin .add (.var 9) (.bin .mul (.idx (.idx (.var 1) (.var 6)) (.var 10)) (.idx (.idx (.var 2) (.var 10)) (.var 8)))))
  .nil))
  (.cons (.app 7 (.var 9))
  .nil))))
  (.cons (.frz [7])
  (.cons (.app 4 (.var 7))
  .nil))))))
  (.cons (.retv 4)
  .nil))))
noncomputable def f7_20 : PFun := ⟨("_law_product" : Str), 3, [("order" : Str), ("halves" : Str), ("u" : Str), ("n" : Str), ("rows" : Str), ("r" : Str), ("i" : Str), ("row" : Str), ("j" : Str), ("total" : Str), ("c" : Str)], b7_20⟩
noncomputable def n7_20 : List Str := [("rows" : Str), ("row" : Str)]

noncomputable def b7_21 : PSs := (.cons (.bnew 2 (.lst .nil))
  (.cons (.for_ [3] (.r3 (.var 1) (.lit (.int 0)) (.neg (.lit (.int 1)))) (.cons (.app 2 (.bin .mod (.var 0) (.var 3)))
  (.cons (.asg 0 (.bin .fdiv (.var 0) (.var 3)))
  .nil)))
  (.cons (.bnew 4 (.lst .nil))
  (.cons (.for_ [3] (.r1 (.var 1)) (.cons (.frz [2])
  (.cons (.ins 4 (.idx (.var 2) (.bin .sub (.bin .sub (.var 1) (.lit (.int 1))) (.var 3))) (.var 3))
  .nil)))
  (.cons (.retv 4)
  .nil)))))
noncomputable def f7_21 : PFun := ⟨("_law_arranged" : Str), 2, [("t" : Str), ("size" : Str), ("gaps" : Str), ("k" : Str), ("p" : Str)], b7_21⟩
noncomputable def n7_21 : List Str := [("gaps" : Str), ("p" : Str)]

noncomputable def b7_22 : PSs := (.cons (.for_ [1] (.of (.var 0)) (.cons (.for_ [2] (.of (.var 1)) (.cons (.for_ [3] (.of (.var 2)) (.cons (.ite (.not (.isInt (.var 3))) (.cons (.ret (.lit (.bool false)))
  .nil) .nil)
  .nil))
  .nil))
  .nil))
  (.cons (.ret (.lit (.bool true)))
  .nil))
noncomputable def f7_22 : PFun := ⟨("_law_ints" : Str), 1, [("rows" : Str), ("row" : Str), ("v" : Str), ("x" : Str)], b7_22⟩
noncomputable def n7_22 : List Str := []

noncomputable def b7_23 : PSs := (.cons (.ite (.cmp .lt (.blt .len (.var 0)) (.lit (.int 14))) (.cons (.ret (.lit (.bool true)))
  .nil) .nil)
  (.cons (.asg 1 (.idx (.glo ("_law_sizes" : Str) dSizes) (.bin .mod (.idx (.var 0) (.lit (.int 0))) (.lit (.int 8)))))
  (.cons (.asg 2 (.lst (.cons (.idx (.glo ("_law_pivots" : Str) dPivots) (.bin .mod (.idx (.var 0) (.lit (.int 6))) (.lit (.int 12)))) (.cons (.idx (.glo ("_law_pivots" : Str) dPivots) (.bin .mod (.idx (.var 0) (.lit (.int 7))) (.lit (.int 12)))) (.cons (.idx (.glo ("_law_pivots" : Str) dPivots) (.bin .mod (.idx (.var 0) (.lit (.int 8))) (.lit (.int 12)))) .nil)))))
  (.cons (.asg 3 (.call 17 (.cons (.var 1) (.cons (.var 2) (.cons (.lst (.cons (.bin .sub (.bin .mod (.idx (.var 0) (.lit (.int 9))) (.lit (.int 9))) (.lit (.int 4))) (.cons (.bin .sub (.bin .mod (.idx (.var 0) (.lit (.int 10))) (.lit (.int 1999))) (.lit (.int 999))) (.cons (.bin .sub (.bin .mod (.idx (.var 0) (.lit (.int 11))) (.lit (.int 9))) (.lit (.int 4))) .nil)))) .nil)))))
  (.cons (.asgN [4, 5, 6] (.call 19 (.cons (.var 1) (.cons (.var 3) (.cons (.lst (.cons (.idx (.var 0) (.lit (.int 1))) (.cons (.idx (.var 0) (.lit (.int 2))) (.cons (.lit (.int 0)) .nil)))) (.cons (.lst (.cons (.idx (.var 0) (.lit (.int 3))) (.cons (.idx (.var 0) (.lit (.int 4))) (.cons (.idx (.var 0) (.lit (.int 5))) .nil)))) .nil))))))
  (.cons (.asg 7 (.call 20 (.cons (.var 4) (.cons (.var 5) (.cons (.var 3) .nil)))))
  (.cons (.asgN [8, 9] (.call 16 (.cons (.var 7) (.cons (.lit (.int 12)) .nil))))
  (.cons (.asgN [10, 11] (.call 16 (.cons (.var 5) (.cons (.lit (.int 2)) .nil))))
  (.cons (.asgN [12, 13] (.call 16 (.cons (.var 3) (.cons (.lit (.int 6)) .nil))))
  (.cons (.asg 14 (.comp (.comp (.call 3 (.cons (.var 0) (.cons (.lit (.int 12)) .nil))) 1 (.of (.var 0)) .tt) 1 (.of (.var 7)) .tt))
  (.cons (.ite (.cmp .ne (.var 14) (.var 8)) (.cons (.ret (.lit (.bool false)))
  .nil) .nil)
  (.cons (.asg 15 (.call 13 (.cons (.var 14) .nil)))
  (.cons (.ite (.cmp .ne (.var 15) (.tup (.cons (.var 4) (.cons (.var 10) (.cons (.var 12) .nil))))) (.cons (.ret (.lit (.bool false)))
  .nil) .nil)
  (.cons (.asgN [16, 17, 18] (.var 15))
  (.cons (.ite (.cmp .ne (.comp (.comp (.call 8 (.cons (.var 0) .nil)) 1 (.of (.var 0)) .tt) 1 (.of (.bin .add (.bin .add (.var 14) (.var 17)) (.var 18))) .tt) (.bin .add (.bin .add (.var 9) (.var 11)) (.var 13))) (.cons (.ret (.lit (.bool false)))
  .nil) .nil)
  (.cons (.asg 19 (.call 12 (.cons (.var 16) .nil)))
  (.cons (.ite (.cmp .ne (.var 19) (.var 6)) (.cons (.ret (.lit (.bool false)))
  .nil) .nil)
  (.cons (.ite (.not (.isInt (.var 19))) (.cons (.ret (.lit (.bool false)))
  .nil) .nil)
  (.cons (.asg 20 (.bin .sub (.bin .mod (.idx (.var 0) (.lit (.int 12))) (.lit (.int 19))) (.lit (.int 9))))
  (.cons (.for_ [21] (.r1 (.var 1)) (.cons (.asg 22 (.idx (.idx (.var 3) (.var 21)) (.var 21)))
  (.cons (.ite (.cmp .ne (.call 2 (.cons (.var 20) (.cons (.var 22) .nil))) (.call 14 (.cons (.var 20) (.cons (.var 22) .nil)))) (.cons (.ret (.lit (.bool false)))
  .nil) .nil)
  (.cons (.asg 23 (.lit (.str ("refused" : Str))))
  (.cons (.asg 24 (.lit (.str ("refused" : Str))))
  (.cons (.ite (.cmp .ne (.var 22) (.lit (.int 0))) (.cons (.asg 23 (.call 15 (.cons (.var 20) (.cons (.var 22) .nil))))
  (.cons (.asg 24 (.call 15 (.cons (.bin .mul (.lit (.int 6)) (.var 20)) (.cons (.var 22) .nil))))
  .nil)) .nil)
  (.cons (.asg 25 (.lit .none))
  (.cons (.tryC 25 3 (.cons (.var 20) (.cons (.var 22) .nil)) 0 25 (.str ("refused" : Str)))
  (.cons (.ite (.cmp .ne (.var 25) (.var 23)) (.cons (.ret (.lit (.bool false)))
  .nil) .nil)
  (.cons (.asg 26 (.lit .none))
  (.cons (.tryC 26 7 (.cons (.tup (.cons (.var 20) (.cons (.lit (.int 1)) .nil))) (.cons (.idx (.idx (.var 18) (.var 21)) (.var 21)) .nil)) 0 26 (.str ("refused" : Str)))
  (.cons (.ite (.cmp .ne (.var 26) (.var 24)) (.cons (.ret (.lit (.bool false)))
  .nil) .nil)
  .nil))))))))))))
  (.cons (.asg 27 (.bin .mod (.idx (.var 0) (.lit (.int 13))) (.lit (.int 5))))
  (.cons (.bnew 28 (.lst .nil))
  (.cons (.for_ [29] (.r1 (.idx (.glo ("_law_counts" : Str) dCounts) (.var 27))) (.cons (.app 28 (.call 21 (.cons (.var 29) (.cons (.var 27) .nil))))
  .nil))
  (.cons (.asg 30 (.call 11 (.cons (.var 27) .nil)))
  (.cons (.frz [28])
  (.cons (.ite (.cmp .ne (.var 30) (.var 28)) (.cons (.ret (.lit (.bool false)))
  .nil) .nil)
  (.cons (.ite (.not (.val (.call 22 (.cons (.bin .add (.bin .add (.bin .add (.lst (.cons (.lst (.cons (.var 16) .nil)) (.cons (.var 30) .nil))) (.var 14)) (.var 17)) (.var 18)) .nil)))) (.cons (.ret (.lit (.bool false)))
  .nil) .nil)
  (.cons (.ite (.cmp .ne (.var 14) (.var 8)) (.cons (.ret (.lit (.bool false)))
  .nil) .nil)
  (.cons (.ite (.cmp .ne (.var 15) (.tup (.cons (.var 4) (.cons (.var 10) (.cons (.var 12) .nil))))) (.cons (.ret (.lit (.bool false)))
  .nil) .nil)
  (.cons (.ret (.lit (.bool true)))
  .nil))))))))))))))))))))))))))))))
noncomputable def f7_23 : PFun := ⟨("law" : Str), 1, [("script" : Str), ("n" : Str), ("diag" : Str), ("u" : Str), ("order" : Str), ("halves" : Str), ("sign" : Str), ("nums" : Str), ("want_m" : Str), ("m_texts" : Str), ("want_low" : Str), ("low_texts" : Str), ("want_up" : Str), ("up_texts" : Str), ("m" : Str), ("got" : Str), ("perm" : Str), ("low" : Str), ("up" : Str), ("turned" : Str), ("a" : Str), ("i" : Str), ("p" : Str), ("due" : Str), ("due_ratio" : Str), ("part" : Str), ("ratio" : Str), ("size" : Str), ("wanted" : Str), ("t" : Str), ("perms" : Str)], b7_23⟩
noncomputable def n7_23 : List Str := [("wanted" : Str)]

noncomputable def fn7 : List Str := [("copy_rows" : Str), ("pivot_row" : Str), ("gcd_of" : Str), ("frac" : Str), ("f_add" : Str), ("f_neg" : Str), ("f_mul" : Str), ("f_div" : Str), ("f_text" : Str), ("rows_swapped" : Str), ("row_added" : Str), ("permutations_of" : Str), ("sign_of" : Str), ("lu_of" : Str), ("_law_divisor" : Str), ("_law_low" : Str), ("_law_written" : Str), ("_law_upper" : Str), ("_law_exchanged" : Str), ("_law_plan" : Str), ("_law_product" : Str), ("_law_arranged" : Str), ("_law_ints" : Str), ("law" : Str)]
noncomputable def fs7 : List PFun := [f7_0, f7_1, f7_2, f7_3, f7_4, f7_5, f7_6, f7_7, f7_8, f7_9, f7_10, f7_11, f7_12, f7_13, f7_14, f7_15, f7_16, f7_17, f7_18, f7_19, f7_20, f7_21, f7_22, f7_23]
noncomputable def bn7 : List (List Str) := [n7_0, n7_1, n7_2, n7_3, n7_4, n7_5, n7_6, n7_7, n7_8, n7_9, n7_10, n7_11, n7_12, n7_13, n7_14, n7_15, n7_16, n7_17, n7_18, n7_19, n7_20, n7_21, n7_22, n7_23]
end Mine
end
section
set_option maxRecDepth 100000
namespace Mine
open PySem PyProof.Rows PySem.W

noncomputable def plainP (p : Arguments) (f : PFun) : Bool :=
  p.posonlyargs.isEmpty && p.vararg.isNone && p.kwonlyargs.isEmpty && p.kw_defaults.isEmpty && p.kwarg.isNone && p.defaults.isEmpty && decide (p.args.map (·.arg) = f.ns.take f.params) && decide (f.params ≤ f.ns.length)
noncomputable def defChk (fns : List Str) (cons : List (Str × PyData)) (excs : List Str) (f : PFun) (bn : List Str) (d : DefRec) : Bool :=
  d.name == f.name && plainP d.params f && fnChk (mkCtx fns cons excs f.ns bn d.scope) d.scope f.ns && !d.scope.isCoroutine && !d.scope.isGenerator
noncomputable def defComp (fns : List Str) (cons : List (Str × PyData)) (excs : List Str) (f : PFun) (bn : List Str) (d : DefRec) : Option PSs := cSs (mkCtx fns cons excs f.ns bn d.scope) d.body

theorem DefOk.of {G : GCtx} {f : PFun} {bn : List Str} {d : DefRec} (h1 : defChk (G.fs.map (·.name)) G.cons G.excs f bn d = true) (h2 : defComp (G.fs.map (·.name)) G.cons G.excs f bn d = some f.body) :
    d.name = f.name ∧ DefOk G d.name d.params d.body d.scope f := by
  unfold defChk plainP at h1
  simp only [Bool.and_eq_true, beq_iff_eq, decide_eq_true_eq, List.isEmpty_iff, Option.isNone_iff_eq_none, Bool.not_eq_true'] at h1
  obtain ⟨⟨⟨⟨w1, ⟨⟨⟨⟨⟨⟨⟨p1, p2⟩, p3⟩, p4⟩, p5⟩, p6⟩, p7⟩, p8⟩⟩, w2⟩, w3⟩, w4⟩ := h1
  refine ⟨w1, ⟨⟨_, d.params.args, ⟨rfl, rfl, rfl⟩, h2, FnOk.of w2 rfl, ?_, p7, p8⟩, w3, w4⟩⟩
  obtain ⟨n, ⟨a1, a2, a3, a4, a5, a6, a7⟩, b, sc, pos⟩ := d
  simp only at p1 p2 p3 p4 p5 p6
  subst p1 p2 p3 p4 p5 p6
  rfl

/-- every def of fs stands among the records -/
noncomputable def DefsIn (fns : List Str) (cons : List (Str × PyData)) (excs : List Str) (recs : List DefRec) : List PFun → List (List Str) → Prop
  | [], _ => True
  | f :: fs, bn :: bns => (∃ d ∈ recs, defChk fns cons excs f bn d = true ∧ defComp fns cons excs f bn d = some f.body) ∧ DefsIn fns cons excs recs fs bns
  | _ :: _, [] => False
theorem DefsIn.get {fns : List Str} {cons : List (Str × PyData)} {excs : List Str} {recs : List DefRec} : ∀ {fs : List PFun} {bns : List (List Str)}, DefsIn fns cons excs recs fs bns → ∀ (j : Nat) (f : PFun), fs[j]? = some f →
    ∃ d ∈ recs, ∃ bn, defChk fns cons excs f bn d = true ∧ defComp fns cons excs f bn d = some f.body
  | [], _, _, _, _, h => by simp at h
  | _ :: _, [], h, _, _, _ => h.elim
  | f :: fs, bn :: bns, ⟨⟨d, m, h1, h2⟩, _⟩, 0, g, h => by
    simp only [List.getElem?_cons_zero, Option.some.injEq] at h
    subst h
    exact ⟨d, m, bn, h1, h2⟩
  | f :: fs, bn :: bns, ⟨_, r⟩, j + 1, g, h => r.get j g (by simpa using h)

noncomputable def intsV : List Value → Option (List PyData)
  | [] => some []
  | .int i _ :: r => (intsV r).map fun l => .int i :: l
  | _ => none
noncomputable def tupH (h : Heap) : Option Value → Option PyData
  | some (.ref a) => match h.get? a with
    | some ⟨.type t, _, .seq vs _, _⟩ => if t == "tuple" then (intsV vs.toList).map PyData.tuple else none
    | _ => none
  | _ => none
theorem intsV_of {h : Heap} {F : Addr → Prop} : ∀ {vs : List Value} {ds : List PyData}, intsV vs = some ds → RDs h F vs ds
  | [], ds, e => by simp [intsV] at e; subst e; exact .nil
  | v :: r, ds, e => by
    cases v <;> simp only [intsV] at e <;> try cases e
    obtain ⟨l, h1, rfl⟩ := Option.map_eq_some_iff.mp e
    exact .cons (.int _ _) (intsV_of h1)
theorem tupH_of {h : Heap} {v : Option Value} {d : PyData} (e : tupH h v = some d) : ∃ u, v = some u ∧ ∀ F, RD h F u d := by
  unfold tupH at e
  split at e
  · rename_i a
    split at e
    · rename_i t dct vs n sl ho
      split at e
      · rename_i ht
        obtain ⟨l, h1, rfl⟩ := Option.map_eq_some_iff.mp e
        have ht' : t = "tuple" := by simpa using ht
        subst ht'
        exact ⟨_, rfl, fun F => .tuple ⟨_, ho, rfl, n, rfl⟩ (intsV_of h1)⟩
      · cases e
    · cases e
  · cases e

/-- what the top leaves in its names -/
noncomputable def SeenTop (cons : List (Str × PyData)) (h : Heap) : Prop :=
  ∃ m, h.Ns mainGlobals m ∧ (∀ x v, bltin.lookup x = some v → m x = none) ∧ ∀ x d, cons.lookup x = some d → ∃ v, m x = some v ∧ ∀ F, RD h F v d
theorem ns_same {h : Heap} {a : Addr} {m m' : Str → Option Value} (x : h.Ns a m) (y : h.Ns a m') : m = m' := by
  obtain ⟨o, es, ep, ho, hd, _, hf⟩ := x
  obtain ⟨o', es', ep', ho', hd', _, hf'⟩ := y
  rw [ho] at ho'; cases ho'
  rw [hd] at hd'; cases hd'
  funext n
  exact (hf n).symm.trans (hf' n)
theorem lk_mem {α : Type} {x : Str} {v : α} : ∀ {l : List (Str × α)}, l.lookup x = some v → (x, v) ∈ l
  | [], e => by simp at e
  | (y, w) :: r, e => by
    rw [List.lookup_cons] at e
    cases q : x == y with
    | true => rw [q] at e; cases e; rw [eq_of_beq q]; exact .head _
    | false => rw [q] at e; exact .tail _ (lk_mem e)
theorem map_at {α β : Type} {f g : α → β} {l : List α} (h : l.map f = l.map g) {x : α} (hx : x ∈ l) : f x = g x := List.map_inj_left.mp h x hx
noncomputable def topHook (cons : List (Str × PyData)) : Hook where
  α := Bool × List Bool × List (Option PyData)
  obs := fun s => (s.heap.isNs mainGlobals, bltin.map (fun x => (s.heap.nsMap mainGlobals x.1).isNone), cons.map fun x => tupH s.heap (s.heap.nsMap mainGlobals x.1))
  val := fun _ => (true, bltin.map (fun _ => true), cons.map fun x => some x.2)
  says := fun _ h => SeenTop cons h
  of := fun w s e => by
    have e1 := congrArg Prod.fst e
    have e2 := congrArg (fun x => x.2.1) e
    have e3 := congrArg (fun x => x.2.2) e
    have e2' : bltin.map (fun x => (s.heap.nsMap mainGlobals x.1).isNone) = bltin.map (fun _ => true) := e2
    have e3' : cons.map (fun x => tupH s.heap (s.heap.nsMap mainGlobals x.1)) = cons.map fun x => some x.2 := e3
    exact ⟨_, .of_isNs e1, fun x v q => Option.isNone_iff_eq_none.mp (map_at e2' (lk_mem q)), fun x d q => tupH_of (map_at e3' (lk_mem q))⟩
  keeps := fun w h h' ⟨m, h1, h2, h3⟩ k => ⟨m, h1.keeps k, h2, fun x d q => let ⟨v, a, b⟩ := h3 x d q; ⟨v, a, fun F => (b F).keeps k⟩⟩

/-- what a check of the text says -/
structure TopChk (p : Program) (fs : List PFun) (bns : List (List Str)) (cons : List (Str × PyData)) (excs : List Str) : Prop where
  defs : DefsIn (fs.map (·.name)) cons excs (recsOf p) fs bns
  exc : ∀ x ∈ excs, x = ("ZeroDivisionError" : Str)

theorem bltin_boot : ∀ x v, bltin.lookup x = some v → x ≠ "__name__" ∧ bootBuiltins x = some v := by
  have h : ∀ p ∈ bltin, p.1 ≠ ("__name__" : Str) ∧ bootBuiltins p.1 = some p.2 := by
    intro p hp
    simp only [bltin, List.mem_cons, List.not_mem_nil, or_false] at hp
    rcases hp with rfl | rfl | rfl | rfl | rfl | rfl | rfl | rfl <;> exact ⟨by decide, by kernel_rfl⟩
  intro x v e
  exact h (x, v) (mem_of_lookupB e)
  where mem_of_lookupB {x : Str} {v : Value} : ∀ {l : List (Str × Value)}, l.lookup x = some v → (x, v) ∈ l
    | [], e => by simp at e
    | (y, w) :: r, e => by
      rw [List.lookup_cons] at e
      cases q : x == y with
      | true => rw [q] at e; cases e; rw [eq_of_beq q]; exact .head _
      | false => rw [q] at e; exact .tail _ (mem_of_lookupB e)

section
variable {prog : Program} {w : World} {s₁ : Shared} {p : Program} {loose : List Str} {mean : ExcName → Option Value} {mg mb : Str → Option Value} {fs : List PFun} {bns : List (List Str)} {cons : List (Str × PyData)} {excs : List Str}

noncomputable def gOf (prog : Program) (w : World) (h : Heap) (mg mb : Str → Option Value) (fs : List PFun) (cons : List (Str × PyData)) (excs : List Str) : GCtx := ⟨prog, w, h, mg, mb, fs, cons, excs⟩

theorem top_defs (T : Top p loose mean mg mb s₁.heap) (c : TopChk p fs bns cons excs) : ∀ (j : Nat) (f : PFun), (gOf prog w s₁.heap mg mb fs cons excs).fs[j]? = some f → DefAt (gOf prog w s₁.heap mg mb fs cons excs) f := by
  intro j f hf
  obtain ⟨d, hd, bn, h1, h2⟩ := c.defs.get j f hf
  obtain ⟨a, o, pm, code, doc, q1, q2, q3, q4⟩ := T.fn d hd
  obtain ⟨e1, e2⟩ := DefOk.of (G := gOf prog w s₁.heap mg mb fs cons excs) h1 h2
  exact ⟨d.name, d.params, d.body, d.scope, pm, code, doc, a, o, e1 ▸ q1, q2, q3, q4, e2⟩

theorem top_ok (T : Top p loose mean mg mb s₁.heap) (X : SeenTop cons s₁.heap) (c : TopChk p fs bns cons excs) : GOk (gOf prog w s₁.heap mg mb fs cons excs) where
  g := T.g
  b := T.b
  nolimit := T.nolimit
  nodigits := T.nodigits
  blt := fun x v e => ⟨by obtain ⟨m, h1, h2, _⟩ := X; rw [ns_same T.g h1]; exact h2 x v e, by
    obtain ⟨e1, e2⟩ := bltin_boot x v e
    rw [← e2]; exact T.builtins x e1⟩
  con := fun x d e => by obtain ⟨m, h1, _, h3⟩ := X; rw [show (gOf prog w s₁.heap mg mb fs cons excs).mg = m from ns_same T.g h1]; exact h3 x d e
  exc := c.exc
  fn := fun j f hf => by
    obtain ⟨_, _, _, _, _, _, _, a, o, q1, q2, q3, _⟩ := top_defs (prog := prog) (w := w) T c j f hf
    exact ⟨a, o, _, q1, q2, q3⟩
end
end Mine
end
section
set_option maxRecDepth 100000
namespace Mine
open PySem PyProof.Rows PySem.W

theorem items_int {R : WRecords} : ∀ {xs : List WData}, WShape.hasItems R xs .int = true → ∃ is : List Int, xs = is.map WData.int
  | [], _ => ⟨[], rfl⟩
  | x :: xs, h => by
    have h' : WShape.has R x .int = true ∧ WShape.hasItems R xs .int = true := by simpa [WShape.hasItems] using h
    obtain ⟨i, rfl⟩ := hasW_int h'.1
    obtain ⟨is, rfl⟩ := items_int h'.2
    exact ⟨i :: is, rfl⟩

theorem well_ints {P : Params} {h : Heap} {F : Addr → Prop} : ∀ {is : List Int} {vs : List Value}, WellAll P h vs (is.map WData.int) → RDs h F vs (is.map PyData.int)
  | [], vs, w => by cases w; exact .nil
  | i :: is, vs, w => by
    cases w with
    | cons a b =>
      cases a
      exact .cons (.int _ _) (well_ints b)

theorem law_args {R : WRecords} {P : Params} {h : Heap} {args : List WData} {vals : List Value} (hsh : WShape.hasAll R args [.list .int] = true) (hwl : WellAll P h vals args) :
    ∃ is : List Int, args = [.list (is.map WData.int)] ∧ RDs h (fun _ => False) vals [.list (is.map PyData.int)] := by
  obtain ⟨d, r, rfl, h1, h2⟩ := hasAllW_cons hsh
  have := hasAllW_nil h2
  subst this
  obtain ⟨xs, rfl, h3⟩ := hasW_list h1
  obtain ⟨is, rfl⟩ := items_int h3
  refine ⟨is, rfl, ?_⟩
  cases hwl with
  | cons a b =>
    cases b
    cases a with
    | list ho hw => exact .cons (.list ⟨_, ho⟩ (fun z => z) (by simpa using well_ints hw)) .nil

theorem law_runs {prog : Program} {w : World} {s₁ : Shared} {p : Program} {loose : List Str} {mean : ExcName → Option Value} {mg mb : Str → Option Value} {fs : List PFun} {bns : List (List Str)} {cons : List (Str × PyData)} {excs : List Str}
    (T : Top p loose mean mg mb s₁.heap) (X : SeenTop cons s₁.heap) (c : TopChk p fs bns cons excs) {fu j : Nat} {f : PFun} {fa : Addr} {vals : List Value} {ds : List PyData} {d : PyData} {l : Nat} {Q E : Value → Shared → Prop}
    (hj : j < 60) (hf : fs[j]? = some f) (hm : mg f.name = some (.ref fa)) (rd : RDs s₁.heap (fun _ => False) vals ds) (he : evF (tower fs fu j) fu true f ds = some (.ret d l))
    (hQ : ∀ v s', Keeps s₁ s' → RD s'.heap (fun _ => False) v d → Q v s') : wpAny (model prog w) callerA (call (.ref fa) vals) Q E s₁ := by
  have g := top_ok (prog := prog) (w := w) T X c
  obtain ⟨name, params, body, sc, pm, code, doc, a', o, w1, w2, w3, w4, w5⟩ := top_defs (prog := prog) (w := w) T c j f hf
  rw [show (gOf prog w s₁.heap mg mb fs cons excs).mg f.name = some (.ref fa) from hm] at w1
  cases w1
  refine runs g w5 w2 w3 w4 (towerReal g (top_defs (prog := prog) (w := w) T c) fu j) he (A := callerA) (F := fun _ => False) ⟨rfl, ?_, ?_, fun _ _ e => e, [], rfl, trivial⟩ (fun _ => rfl) (fun _ z => z.elim) rd (fun d' l' e v s' k v1 => ?_) fun c e => by cases e
  · show 1 + claimMargin + (j + 1) < recursionLimit
    unfold claimMargin recursionLimit; omega
  · show 4 + 8 * (j + 1) + 200 < cLine
    unfold cLine; omega
  · cases e
    exact hQ v s' k v1.1
end Mine
end
section
set_option maxRecDepth 100000
namespace Mine
open PySem PyProof.Rows PySem.W

noncomputable def chkAll (fns : List Str) (cons : List (Str × PyData)) (excs : List Str) : List DefRec → List PFun → List (List Str) → Bool
  | d :: ds, f :: fs, bn :: bns => defChk fns cons excs f bn d && chkAll fns cons excs ds fs bns
  | [], [], [] => true
  | _, _, _ => false
noncomputable def compAll (fns : List Str) (cons : List (Str × PyData)) (excs : List Str) : List DefRec → List PFun → List (List Str) → List (Option PSs)
  | d :: ds, f :: fs, bn :: bns => defComp fns cons excs f bn d :: compAll fns cons excs ds fs bns
  | _, _, _ => []
theorem defsIn_of' {fns : List Str} {cons : List (Str × PyData)} {excs : List Str} {recs : List DefRec} : ∀ {ds : List DefRec} {fs : List PFun} {bns : List (List Str)}, (∀ d ∈ ds, d ∈ recs) →
    chkAll fns cons excs ds fs bns = true → compAll fns cons excs ds fs bns = fs.map (fun f => some f.body) → DefsIn fns cons excs recs fs bns
  | [], [], [], _, _, _ => trivial
  | d :: ds, f :: fs, bn :: bns, hs, h1, h2 => by
    obtain ⟨a1, a2⟩ := Bool.and_eq_true_iff.mp h1
    obtain ⟨b1, b2⟩ := List.cons.inj h2
    exact ⟨⟨d, hs d (.head _), a1, b1⟩, defsIn_of' (fun d' q => hs d' (.tail _ q)) a2 b2⟩
  | [], _ :: _, _, _, h, _ => by cases h
  | [], [], _ :: _, _, h, _ => by cases h
  | _ :: _, [], _, _, h, _ => by cases h
  | _ :: _, _ :: _, [], _, h, _ => by cases h
theorem TopChk.of {p : Program} {fs : List PFun} {bns : List (List Str)} {cons : List (Str × PyData)} {excs : List Str}
    (h1 : chkAll (fs.map (·.name)) cons excs (recsOf p) fs bns = true) (h2 : compAll (fs.map (·.name)) cons excs (recsOf p) fs bns = fs.map (fun f => some f.body))
    (h5 : ∀ x ∈ excs, x = ("ZeroDivisionError" : Str)) : TopChk p fs bns cons excs :=
  ⟨defsIn_of' (fun _ q => q) h1 h2, h5⟩
end Mine
end
section
set_option maxRecDepth 100000
namespace Mine
open PySem PyProof.Rows PySem.W

theorem law_post (l : OpenLaw) (args : List WData) : l.row.toRowW.claim.post args (.bool true) args = true := by
  refine postW_of (r := l.row.toRowW) (X := true) rfl ?_ rfl
  show WTm.value [] (.eq .res (.lit (.bool true))) { args := args, res := some (.bool true), after := args } = some (.bool true)
  simp only [WTm.value]
  exact congrArg (fun b => some (WData.bool b)) (same_self _)

theorem law_len (l : OpenLaw) (hm : l.most = some 63) (hb : l.bound = none) (is : List Int) (h : l.row.toRowW.pre.holds l.row.toRowW.records { args := [.list (is.map WData.int)] } = true) : is.length ≤ 63 := by
  have h0 : l.pre.holds [] { args := [.list (is.map WData.int)] } = true := h
  unfold OpenLaw.pre at h0
  rw [hm, hb] at h0
  have h1 := (holds_andW h0).1
  simp [WTm.holds, WTm.value] at h1
  have e : less? (WData.int 63) (WData.int (is.length : Int)) = some (decide ((63 : Int) < is.length)) := by with_unfolding_all rfl
  rw [e] at h1
  simp only [Option.map_some] at h1
  by_cases hl : (63 : Int) < is.length
  · rw [decide_eq_true hl] at h1; simp at h1
  · omega
end Mine
end
section
set_option maxRecDepth 100000
namespace Mine
open PySem
section
variable {Φ : Funs} {fu : Nat} {tp : Bool} {γ γ' : Env'} {res : Flw × Env'} {rest : PSs}

theorem bnd {α β : Type} {x : Option α} {a : α} {g : α → Option β} {b : Option β} (h : x = some a) (hb : g a = b) : x.bind g = b := by rw [h]; exact hb
theorem ss_next {p : PS} (h : evS Φ fu tp γ p = some (.next, γ')) (hr : evSs Φ fu tp γ' rest = some res) : evSs Φ fu tp γ (.cons p rest) = some res := bnd h hr
theorem ss_stop {p : PS} {fl : Flw} (h : evS Φ fu tp γ p = some (fl, γ')) (hf : fl ≠ .next) : evSs Φ fu tp γ (.cons p rest) = some (fl, γ') := bnd h (by
  cases fl with
  | next => exact (hf rfl).elim
  | _ => rfl)
theorem st_nil : evSs Φ fu tp γ .nil = some (.next, γ) := rfl
theorem st_frz {is : List Nat} (hr : evSs Φ fu tp (frz γ is) rest = some res) : evSs Φ fu tp γ (.cons (.frz is) rest) = some res := ss_next rfl hr
theorem st_asg {i : Nat} {e : PE} {d : PyData} {l : Nat} (h : evE Φ γ e = some (d, l)) (hr : evSs Φ fu tp (γ.set i (.pl d)) rest = some res) : evSs Φ fu tp γ (.cons (.asg i e) rest) = some res := ss_next (bnd h rfl) hr
theorem st_bnew {i : Nat} {e : PE} {r : PyData × Nat} {sl : Slot} (h : evE Φ γ e = some r) (hs : mkSlot r = sl) (hr : evSs Φ fu tp (γ.set i sl) rest = some res) : evSs Φ fu tp γ (.cons (.bnew i e) rest) = some res := ss_next (bnd h (by subst hs; rfl)) hr
theorem st_asgN {is : List Nat} {e : PE} {ds : List PyData} {l : Nat} (h : evE Φ γ e = some (.tuple ds, l)) (hs : setN γ is ds = some γ') (hr : evSs Φ fu tp γ' rest = some res) : evSs Φ fu tp γ (.cons (.asgN is e) rest) = some res := ss_next (bnd h (bnd hs rfl)) hr
theorem st_app {i : Nat} {e : PE} {r : PyData × Nat} (h : evE Φ γ e = some r) (hs : appS γ i r = some γ') (hr : evSs Φ fu tp γ' rest = some res) : evSs Φ fu tp γ (.cons (.app i e) rest) = some res := ss_next (bnd h (bnd hs rfl)) hr
theorem st_ins {i : Nat} {p e : PE} {k r : PyData × Nat} (h1 : evE Φ γ p = some k) (h : evE Φ γ e = some r) (hs : insS γ i k.1 r = some γ') (hr : evSs Φ fu tp γ' rest = some res) : evSs Φ fu tp γ (.cons (.ins i p e) rest) = some res := ss_next (bnd h1 (bnd h (bnd hs rfl))) hr
theorem st_put {i : Nat} {p e : PE} {k r : PyData × Nat} (h : evE Φ γ e = some r) (h1 : evE Φ γ p = some k) (hs : putS γ i k.1 r = some γ') (hr : evSs Φ fu tp γ' rest = some res) : evSs Φ fu tp γ (.cons (.put i p e) rest) = some res := ss_next (bnd h (bnd h1 (bnd hs rfl))) hr
theorem st_put2 {i : Nat} {p q e : PE} {k j r : PyData × Nat} (h : evE Φ γ e = some r) (h1 : evE Φ γ p = some k) (h2 : evE Φ γ q = some j) (hs : put2S γ i k.1 j.1 r = some γ') (hr : evSs Φ fu tp γ' rest = some res) : evSs Φ fu tp γ (.cons (.put2 i p q e) rest) = some res := ss_next (bnd h (bnd h1 (bnd h2 (bnd hs rfl)))) hr
theorem st_swap {i : Nat} {p q p' q' : PE} {k' j' k j : PyData × Nat} {x y : PyData} {γ₁ γ₂ : Env'} (h1 : evE Φ γ p' = some k') (h2 : getS γ i k'.1 = some x) (h3 : evE Φ γ q' = some j') (h4 : getS γ i j'.1 = some y) (h5 : evE Φ γ p = some k) (h6 : put1S γ i k.1 x = some γ₁)
    (h7 : evE Φ γ₁ q = some j) (h8 : put1S γ₁ i j.1 y = some γ₂) (hr : evSs Φ fu tp γ₂ rest = some res) : evSs Φ fu tp γ (.cons (.swap i p q p' q') rest) = some res := ss_next (bnd h1 (bnd h2 (bnd h3 (bnd h4 (bnd h5 (bnd h6 (bnd h7 (bnd h8 rfl)))))))) hr
theorem st_true {t : PT} {a b : PSs} (h : evT Φ γ t = some true) (ha : evSs Φ fu tp γ a = some (.next, γ')) (hr : evSs Φ fu tp γ' rest = some res) : evSs Φ fu tp γ (.cons (.ite t a b) rest) = some res := ss_next (bnd h ha) hr
theorem st_false {t : PT} {a b : PSs} (h : evT Φ γ t = some false) (ha : evSs Φ fu tp γ b = some (.next, γ')) (hr : evSs Φ fu tp γ' rest = some res) : evSs Φ fu tp γ (.cons (.ite t a b) rest) = some res := ss_next (bnd h ha) hr
theorem st_else {t : PT} {a : PSs} (h : evT Φ γ t = some false) (hr : evSs Φ fu tp γ rest = some res) : evSs Φ fu tp γ (.cons (.ite t a .nil) rest) = some res := st_false h st_nil hr
theorem st_trueX {t : PT} {a b : PSs} {fl : Flw} (h : evT Φ γ t = some true) (ha : evSs Φ fu tp γ a = some (fl, γ')) (hf : fl ≠ .next) : evSs Φ fu tp γ (.cons (.ite t a b) rest) = some (fl, γ') := ss_stop (bnd h ha) hf
theorem st_for {is : List Nat} {it : PI} {body : PSs} {xs : List PyData} (h : evI Φ γ it = some xs) (hf : forL (fun g => evSs Φ fu tp g body) is xs γ = some (.next, γ')) (hr : evSs Φ fu tp γ' rest = some res) : evSs Φ fu tp γ (.cons (.for_ is it body) rest) = some res := ss_next (bnd h hf) hr
theorem st_forX {is : List Nat} {it : PI} {body : PSs} {xs : List PyData} {fl : Flw} (h : evI Φ γ it = some xs) (hf : forL (fun g => evSs Φ fu tp g body) is xs γ = some (fl, γ')) (hn : fl ≠ .next) : evSs Φ fu tp γ (.cons (.for_ is it body) rest) = some (fl, γ') := ss_stop (bnd h hf) hn
theorem st_ret {e : PE} {d : PyData} {l : Nat} (h : evE Φ γ e = some (d, l)) : evSs Φ fu tp γ (.cons (.ret e) rest) = some (.ret d l, γ) := ss_stop (bnd h rfl) (fun z => by cases z)
theorem st_retv {i : Nat} {d : PyData} {l : Nat} (h : evS Φ fu tp γ (.retv i) = some (.ret d l, γ)) : evSs Φ fu tp γ (.cons (.retv i) rest) = some (.ret d l, γ) := ss_stop h (fun z => by cases z)
theorem st_cont : evSs Φ fu tp γ (.cons .cont rest) = some (.cont, γ) := rfl
theorem st_raise {c : Nat} {m : Str} : evSs Φ fu tp γ (.cons (.raise c m) rest) = some (.exc c, γ) := rfl
theorem st_try {i f c y : Nat} {as : PEs} {d v : PyData} {l : Nat} {xs : List PyData} (h : evEs Φ γ as = some xs) (h2 : Φ f xs = some (.ret v l)) (hr : evSs Φ fu tp (γ.set i (.pl v)) rest = some res) : evSs Φ fu tp γ (.cons (.tryC i f as c y d) rest) = some res := ss_next (bnd h (bnd h2 rfl)) hr
theorem st_tryX {i f c y : Nat} {as : PEs} {d : PyData} {xs : List PyData} (h : evEs Φ γ as = some xs) (h2 : Φ f xs = some (.exc c)) (htp : tp = true) (hr : evSs Φ fu tp (γ.set y (.pl d)) rest = some res) : evSs Φ fu tp γ (.cons (.tryC i f as c y d) rest) = some res := by
  subst htp
  refine ss_next (bnd h (bnd h2 ?_)) hr
  show (if (true && c == c) then _ else _) = _
  rw [beq_self_eq_true]
  rfl

theorem fl_nil {body : Env' → Option (Flw × Env')} {is : List Nat} : forL body is [] γ = some (.next, γ) := rfl
theorem fl_cons {body : Env' → Option (Flw × Env')} {i : Nat} {d : PyData} {ds : List PyData} {γ₁ : Env'} (h : body (γ.set i (.pl d)) = some (.next, γ₁)) (hr : forL body [i] ds γ₁ = some res) : forL body [i] (d :: ds) γ = some res := bnd rfl (bnd h hr)
theorem fl_cont {body : Env' → Option (Flw × Env')} {i : Nat} {d : PyData} {ds : List PyData} {γ₁ : Env'} (h : body (γ.set i (.pl d)) = some (.cont, γ₁)) (hr : forL body [i] ds γ₁ = some res) : forL body [i] (d :: ds) γ = some res := bnd rfl (bnd h hr)
theorem fl_ret {body : Env' → Option (Flw × Env')} {i : Nat} {d : PyData} {ds : List PyData} {γ₁ : Env'} {v : PyData} {l : Nat} (h : body (γ.set i (.pl d)) = some (.ret v l, γ₁)) : forL body [i] (d :: ds) γ = some (.ret v l, γ₁) := bnd rfl (bnd h rfl)

theorem ev_call {f : Nat} {as : PEs} {xs : List PyData} {d : PyData} {l : Nat} (h : evEs Φ γ as = some xs) (h2 : Φ f xs = some (.ret d l)) : evE Φ γ (.call f as) = some (d, l) := bnd h (bnd h2 rfl)
theorem es_cons {e : PE} {r : PEs} {d : PyData} {l : Nat} {xs : List PyData} (h : evE Φ γ e = some (d, l)) (h2 : evEs Φ γ r = some xs) : evEs Φ γ (.cons e r) = some (d :: xs) := bnd h (bnd h2 rfl)
theorem es_nil : evEs Φ γ .nil = some [] := rfl
theorem ev_bin {o : BOp} {a b : PE} {x y : PyData} {l l' : Nat} {r : PyData × Nat} (h : evE Φ γ a = some (x, l)) (h2 : evE Φ γ b = some (y, l')) (h3 : binD o x y = some r) : evE Φ γ (.bin o a b) = some r := bnd h (bnd h2 h3)
theorem ev_idx {a b : PE} {x y : PyData} {l l' : Nat} {r : PyData × Nat} (h : evE Φ γ a = some (x, l)) (h2 : evE Φ γ b = some (y, l')) (h3 : idxD x y = some r) : evE Φ γ (.idx a b) = some r := bnd h (bnd h2 h3)
theorem ev_var {i : Nat} {d : PyData} (h : γ[i]? = some (.pl d)) : evE Φ γ (.var i) = some (d, 0) := by
  show (match γ[i]? with | some (.pl d) => some (d, 0) | _ => none) = _
  rw [h]
theorem ev_cmp {o : COp} {a b : PE} {x y : PyData} {l l' : Nat} {r : Bool} (h : evE Φ γ a = some (x, l)) (h2 : evE Φ γ b = some (y, l')) (h3 : cmpD o x y = some r) : evT Φ γ (.cmp o a b) = some r := bnd h (bnd h2 h3)
theorem ev_comp {elt : PE} {n : Nat} {it : PI} {c : PT} {xs : List PyData} {rs : List (PyData × Nat)} (h : evI Φ γ it = some xs) (h2 : xs.mapM (fun d => evE Φ (.pl d :: γ) elt) = some rs) :
    evE Φ γ (.comp elt n it c) = some (.list (rs.map (·.1)), if !rs.isEmpty && rs.all lvl2 then 2 else 1) := bnd h (bnd h2 rfl)
theorem ev_r1 {b : PE} {j : Int} {l : Nat} (h : evE Φ γ b = some (.int j, l)) (hj : okR 0 j = true) : evI Φ γ (.r1 b) = some (rangeL 0 j) := bnd h (bnd (x := some j) rfl (if_pos hj))
theorem ev_of {a : PE} {x : PyData} {l : Nat} {xs : List PyData} (h : evE Φ γ a = some (x, l)) (h2 : itemsD x = some xs) (h3 : xs.length ≤ lenLim) : evI Φ γ (.of a) = some xs := bnd h (bnd h2 (if_pos h3))
theorem evF_ret {f : PFun} {args : List PyData} {γ' : Env'} {d : PyData} {l : Nat} (hl : args.length = f.params) (h : evSs Φ fu tp (args.map Slot.pl ++ List.replicate (f.ns.length - f.params) Slot.un) f.body = some (.ret d l, γ')) : evF Φ fu tp f args = some (.ret d l) := (if_pos hl).trans (bnd h rfl)
theorem evF_exc {f : PFun} {args : List PyData} {γ' : Env'} {c : Nat} (hl : args.length = f.params) (h : evSs Φ fu tp (args.map Slot.pl ++ List.replicate (f.ns.length - f.params) Slot.un) f.body = some (.exc c, γ')) : evF Φ fu tp f args = some (.exc c) := (if_pos hl).trans (bnd h rfl)
theorem put_b2 {i k : Nat} {p : PyData} {rows : List (List PyData)} {xs : List PyData} (h : γ[i]? = some (.b2 rows)) (hp : posD p rows.length = some k) : putS γ i p (.list xs, 1) = some (γ.set i (.b2 (rows.set k xs))) := by
  unfold putS; rw [h]; exact bnd hp rfl
theorem put_b1 {i k : Nat} {p : PyData} {ds : List PyData} {r : PyData × Nat} (h : γ[i]? = some (.b1 ds)) (hp : posD p ds.length = some k) : putS γ i p r = some (γ.set i (.b1 (ds.set k r.1))) := by
  unfold putS; rw [h]; exact bnd hp rfl
theorem put2_b2 {i k j : Nat} {p q : PyData} {rows : List (List PyData)} {row : List PyData} {r : PyData × Nat} (h : γ[i]? = some (.b2 rows)) (hp : posD p rows.length = some k) (hrow : rows[k]? = some row) (hq : posD q row.length = some j) :
    put2S γ i p q r = some (γ.set i (.b2 (rows.set k (row.set j r.1)))) := by
  unfold put2S; rw [h]
  refine bnd hp ?_
  rw [hrow]
  exact bnd hq rfl
theorem app_b1 {i : Nat} {ds : List PyData} {r : PyData × Nat} (h : γ[i]? = some (.b1 ds)) (hl : ds.length ≤ lenLim) : appS γ i r = some (γ.set i (.b1 (ds ++ [r.1]))) := by
  unfold appS; rw [h]; exact if_pos hl
theorem get_b1 {i k : Nat} {p : PyData} {ds : List PyData} {x : Int} (h : γ[i]? = some (.b1 ds)) (hp : posD p ds.length = some k) (hx : ds[k]? = some (.int x)) : getS γ i p = some (.int x) := by
  unfold getS; rw [h]
  refine bnd hp ?_
  rw [hx]
  rfl
theorem put1_b1 {i k : Nat} {p x : PyData} {ds : List PyData} (h : γ[i]? = some (.b1 ds)) (hp : posD p ds.length = some k) : put1S γ i p x = some (γ.set i (.b1 (ds.set k x))) := by
  unfold put1S; rw [h]; exact bnd hp rfl
theorem ev_sl {a : PE} {x : PyData} {l : Nat} {r : PyData × Nat} (h : evE Φ γ a = some (x, l)) (h2 : slD x .none .none = some r) : evE Φ γ (.sl a (.lit .none) (.lit .none)) = some r := bnd h (bnd (x := some (PyData.none, 0)) rfl (bnd (x := some (PyData.none, 0)) rfl h2))
theorem ev_lit {d : PyData} : evE Φ γ (.lit d) = some (d, 0) := rfl
theorem ev_tup {es : PEs} {xs : List PyData} (h : evEs Φ γ es = some xs) : evE Φ γ (.tup es) = some (.tuple xs, 0) := bnd h rfl
theorem ev_lst {es : PEs} {xs : List PyData} (h : evEs Φ γ es = some xs) : evE Φ γ (.lst es) = some (.list xs, 1) := bnd h rfl
theorem ev_blt {f : Blt} {a : PE} {x : PyData} {l : Nat} {r : PyData × Nat} (h : evE Φ γ a = some (x, l)) (h2 : bltD f x = some r) : evE Φ γ (.blt f a) = some r := bnd h h2
theorem ev_neg {a : PE} {i : Int} {l : Nat} (h : evE Φ γ a = some (.int i, l)) : evE Φ γ (.neg a) = some (.int (-i), 0) := bnd h rfl
theorem ev_mth {f : Mth} {a b : PE} {x y : PyData} {l l' : Nat} {r : PyData × Nat} (h : evE Φ γ a = some (x, l)) (h2 : evE Φ γ b = some (y, l')) (h3 : mthD f x y = some r) : evE Φ γ (.mth f a b) = some r := bnd h (bnd h2 h3)
theorem ev_lrange {i : PI} {xs : List PyData} (h : evI Φ γ i = some xs) : evE Φ γ (.lrange i) = some (.list xs, 1) := bnd h rfl
theorem ev_r2 {a b : PE} {i j : Int} {l l' : Nat} (h : evE Φ γ a = some (.int i, l)) (h' : evE Φ γ b = some (.int j, l')) (hj : okR i j = true) (hl : (j - i).toNat ≤ lenLim) : evI Φ γ (.r2 a b) = some (rangeL i j) :=
  bnd h (bnd (x := some i) rfl (bnd h' (bnd (x := some j) rfl (if_pos (by rw [hj, decide_eq_true hl]; rfl)))))
theorem okR_small {a b : Int} (ha : a.natAbs ≤ 1048576) (hb : b.natAbs ≤ 1048576) : okR a b = true := by
  unfold okR lenLim
  exact Bool.and_eq_true_iff.mpr ⟨decide_eq_true (by omega), decide_eq_true (by omega)⟩
theorem ev_notval {a : PE} {b : Bool} {l : Nat} (h : evE Φ γ a = some (.bool b, l)) : evT Φ γ (.not (.val a)) = some (!b) := bnd (bnd h rfl) rfl
theorem ev_notint {a : PE} {i : Int} {l : Nat} (h : evE Φ γ a = some (.int i, l)) : evT Φ γ (.not (.isInt a)) = some false := bnd (x := (evE Φ γ a).bind _) (bnd h rfl) rfl
theorem ev_glo {x : Str} {d : PyData} : evE Φ γ (.glo x d) = some (d, 0) := rfl
end
end Mine
end
section
set_option maxRecDepth 100000
namespace Mine
open PySem

theorem tower_at {fs : List PFun} {fu j : Nat} {f : PFun} (hf : fs[j]? = some f) : ∀ {k : Nat}, j < k → ∀ args, tower fs fu k j args = evF (tower fs fu j) fu false f args
  | 0, h, _ => absurd h (Nat.not_lt_zero _)
  | k + 1, h, args => by
    show (if j = k then (match fs[k]? with | some f => evF (tower fs fu k) fu false f args | none => none) else tower fs fu k j args) = _
    by_cases e : j = k
    · subst e
      rw [if_pos rfl, hf]
    · rw [if_neg e]
      exact tower_at hf (by omega) args

/-! Euclid -/
noncomputable def stp (p : Nat × Nat) : Nat × Nat := if p.2 = 0 then p else (p.2, p.1 % p.2)
noncomputable def its : Nat → Nat × Nat → Nat × Nat
  | 0, p => p
  | n + 1, p => its n (stp p)
noncomputable def fib : Nat → Nat
  | 0 => 0
  | 1 => 1
  | n + 2 => fib n + fib (n + 1)
theorem its_zero : ∀ (n a : Nat), its n (a, 0) = (a, 0)
  | 0, _ => rfl
  | n + 1, a => by simp [its, stp, its_zero n a]
theorem lame : ∀ (n a b : Nat), b ≤ a → (its n (a, b)).2 ≠ 0 → fib (n + 1) ≤ b ∧ fib (n + 2) ≤ a
  | 0, a, b, h, hn => by
    simp only [its] at hn
    have : 0 < b := Nat.pos_of_ne_zero hn
    simp [fib]; omega
  | n + 1, a, b, h, hn => by
    by_cases hb : b = 0
    · subst hb; rw [its_zero] at hn; exact (hn rfl).elim
    · have hb' : 0 < b := Nat.pos_of_ne_zero hb
      simp only [its, stp, hb, if_false] at hn
      have hr := Nat.mod_lt a hb'
      obtain ⟨h1, h2⟩ := lame n b (a % b) (Nat.le_of_lt hr) hn
      refine ⟨h2, ?_⟩
      have h3 : b + a % b ≤ a := by
        have := Nat.div_add_mod a b
        have h4 : 1 ≤ a / b := (Nat.one_le_div_iff hb').mpr h
        have h5 : b * 1 ≤ b * (a / b) := Nat.mul_le_mul_left b h4
        omega
      show fib (n + 1) + fib (n + 1 + 1) ≤ a
      have : fib (n + 1 + 1) = fib (n + 2) := rfl
      omega
theorem fib_pos : ∀ n, 1 ≤ fib (n + 1)
  | 0 => Nat.le_refl _
  | n + 1 => by show 1 ≤ fib n + fib (n + 1); have := fib_pos n; omega
theorem fib5 : ∀ k, 2 * 10 ^ k ≤ fib (5 * k + 3) ∧ 10 ^ k ≤ fib (5 * k + 2)
  | 0 => by decide
  | k + 1 => by
    obtain ⟨h1, h2⟩ := fib5 k
    have e : ∀ n, fib (n + 2) = fib n + fib (n + 1) := fun _ => rfl
    have a1 := e (5 * k + 2)
    have a2 := e (5 * k + 3)
    have a3 := e (5 * k + 4)
    have a4 := e (5 * k + 5)
    have a5 := e (5 * k + 6)
    simp only [Nat.add_assoc, Nat.reduceAdd] at a1 a2 a3 a4 a5
    have b1 : 5 * (k + 1) + 3 = 5 * k + 8 := by omega
    have b2 : 5 * (k + 1) + 2 = 5 * k + 7 := by omega
    rw [b1, b2, Nat.pow_succ]
    constructor <;> omega
theorem its_done {a b n : Nat} (h : a + b < 10 ^ n) : (its (5 * n + 2) (a, b)).2 = 0 := by
  apply Classical.byContradiction
  intro hn
  obtain ⟨f1, f2⟩ := fib5 n
  by_cases hab : b ≤ a
  · obtain ⟨_, h2⟩ := lame _ _ _ hab hn
    have e : fib (5 * n + 2 + 2) = fib (5 * n + 2) + fib (5 * n + 3) := rfl
    omega
  · have hb : b ≠ 0 := by omega
    have e : its (5 * n + 2) (a, b) = its (5 * n + 1) (b, a) := by
      show its (5 * n + 1) (stp (a, b)) = _
      simp only [stp, hb, if_false]
      rw [Nat.mod_eq_of_lt (by omega)]
    rw [e] at hn
    obtain ⟨_, h2⟩ := lame _ _ _ (by omega) hn
    have e2 : fib (5 * n + 1 + 2) = fib (5 * n + 3) := rfl
    omega
theorem its_gcd : ∀ (n a b : Nat), (its n (a, b)).2 = 0 → (its n (a, b)).1 = Nat.gcd a b
  | 0, a, b, h => by simp only [its] at h ⊢; subst h; simp
  | n + 1, a, b, h => by
    by_cases hb : b = 0
    · subst hb; rw [its_zero]; simp
    · simp only [its, stp, hb, if_false] at h ⊢
      rw [its_gcd n _ _ h, Nat.gcd_comm b, ← Nat.gcd_rec, Nat.gcd_comm]

theorem strI_len (n : Nat) : (strI (n : Int)).length = (Nat.toDigits 10 n).length := by
  unfold strI
  rw [Str.ofString_eq_toList]
  show ((toString (n : Int)).toList.map Char.toNat).toArray.size = _
  have : toString (n : Int) = n.repr := rfl
  rw [this, Nat.toList_repr]
  simp
theorem lt_len (n : Nat) : n < 10 ^ (strI (n : Int)).length := by
  rw [strI_len]
  exact (Nat.length_toDigits_le_iff (by decide) Nat.length_toDigits_pos).mp (Nat.le_refl _)
theorem len_le {n k : Nat} (hk : 0 < k) (h : n < 10 ^ k) : (strI (n : Int)).length ≤ k := by
  rw [strI_len]
  exact (Nat.length_toDigits_le_iff (by decide) hk).mpr h
end Mine
end
section
set_option maxRecDepth 100000
namespace Mine
open PySem

theorem sh_int (i : Int) : SeqAt.shaped (.int i) = true := rfl
theorem eqv_int (a b : Int) : PyData.eqv (.int a) (.int b) = decide (a = b) := by
  simp only [PyData.eqv]
  exact Bool.eq_iff_iff.mpr (by simp)
theorem cmp_eq_int (a b : Int) : cmpD .eq (.int a) (.int b) = some (decide (a = b)) := congrArg some (eqv_int a b)
theorem cmp_ne_int (a b : Int) : cmpD .ne (.int a) (.int b) = some (!decide (a = b)) := congrArg (fun x => some (!x)) (eqv_int a b)
theorem mul_int {a b : Int} (ha : a.natAbs < lim) (hb : b.natAbs < lim) : binD .mul (.int a) (.int b) = some (.int (a * b), 0) := if_pos (Bool.and_eq_true_iff.mpr ⟨decide_eq_true ha, decide_eq_true hb⟩)
theorem fdiv_int {a b : Int} (h0 : b ≠ 0) (hb : b.natAbs < lim) : binD .fdiv (.int a) (.int b) = some (.int (a.fdiv b), 0) := if_pos (Bool.and_eq_true_iff.mpr ⟨decide_eq_true h0, decide_eq_true hb⟩)
theorem mod_int {a b : Int} (h0 : b ≠ 0) (hb : b.natAbs < lim) : binD .mod (.int a) (.int b) = some (.int (a.fmod b), 0) := if_pos (Bool.and_eq_true_iff.mpr ⟨decide_eq_true h0, decide_eq_true hb⟩)
theorem str_int {a : Int} (ha : a.natAbs < lim) : bltD .str (.int a) = some (.str (strI a), 0) := if_pos (decide_eq_true ha)

noncomputable def gBody : PSs := (.cons (.ite (.cmp .eq (.var 1) (.lit (.int 0))) (.cons (.ret (.var 0))
  .nil) .nil)
  (.cons (.asgN [0, 1] (.tup (.cons (.var 1) (.cons (.bin .mod (.var 0) (.var 1)) .nil))))
  .nil))

theorem gcd_loop (Φ : Funs) (fu : Nat) (tp : Bool) : ∀ (xs : List PyData) (a b : Nat) (sl : Slot), a < lim → b < lim → (its xs.length (a, b)).2 = 0 →
    (∃ γ', forL (fun g => evSs Φ fu tp g gBody) [2] xs [.pl (.int a), .pl (.int b), sl] = some (.ret (.int (Nat.gcd a b : Nat)) 0, γ')) ∨
    (∃ sl', forL (fun g => evSs Φ fu tp g gBody) [2] xs [.pl (.int a), .pl (.int b), sl] = some (.next, [.pl (.int (Nat.gcd a b : Nat)), .pl (.int 0), sl']))
  | [], a, b, sl, ha, hb, h => by
    simp only [List.length_nil, its] at h
    subst h
    exact .inr ⟨sl, by simp [forL]⟩
  | x :: xs, a, b, sl, ha, hb, h => by
    by_cases h0 : b = 0
    · subst h0
      left
      have e : cmpD .eq (.int ((0 : Nat) : Int)) (.int 0) = some true := by rw [cmp_eq_int]; rfl
      rw [Nat.gcd_zero_right]
      exact ⟨_, fl_ret (st_trueX (ev_cmp (ev_var rfl) ev_lit e) (st_ret (ev_var rfl)) (fun z => by cases z))⟩
    · have e : cmpD .eq (.int (b : Int)) (.int 0) = some false := by rw [cmp_eq_int]; exact congrArg some (decide_eq_false (by omega))
      have em : binD .mod (.int (a : Int)) (.int (b : Int)) = some (.int ((a % b : Nat) : Int), 0) := by
        rw [mod_int (by omega) (by simpa using hb)]
        rw [Int.fmod_eq_emod_of_nonneg _ (by omega)]
        rfl
      have hg : Nat.gcd a b = Nat.gcd b (a % b) := by rw [Nat.gcd_comm a b, Nat.gcd_rec b a, Nat.gcd_comm]
      rw [hg]
      have ih := gcd_loop Φ fu tp xs b (a % b) (.pl x) hb (Nat.lt_trans (Nat.mod_lt _ (Nat.pos_of_ne_zero h0)) hb) (by simpa [List.length_cons, its, stp, h0] using h)
      have go : ∀ res, forL (fun g => evSs Φ fu tp g gBody) [2] xs [.pl (.int b), .pl (.int (a % b : Nat)), .pl x] = some res → forL (fun g => evSs Φ fu tp g gBody) [2] (x :: xs) [.pl (.int a), .pl (.int b), sl] = some res := fun res hr =>
        fl_cons (st_else (ev_cmp (ev_var rfl) ev_lit e) (st_asgN (ev_tup (es_cons (ev_var rfl) (es_cons (ev_bin (ev_var rfl) (ev_var rfl) em) es_nil))) rfl st_nil)) hr
      rcases ih with ⟨γ', k⟩ | ⟨sl', k⟩
      · exact .inl ⟨γ', go _ k⟩
      · exact .inr ⟨sl', go _ k⟩

theorem rangeL_len (n : Int) : (rangeL 0 n).length = n.toNat := by simp [rangeL]

theorem gcd_ok {K : Nat} (hK : 2 < K) {a b : Int} (ha : a.natAbs < 2 ^ 7999) (hb : b.natAbs < 2 ^ 7999) : tower fs7 100 K 2 [.int a, .int b] = some (.ret (.int (Int.gcd a b : Nat)) 0) := by
  rw [tower_at (f := f7_2) rfl hK]
  have hlim : (lim : Nat) = 2 ^ 7999 * 2 := by unfold lim; rw [← Nat.pow_succ]
  have ha' : a.natAbs < lim := by omega
  have hb' : b.natAbs < lim := by omega
  have hs : (a.natAbs : Int) + (b.natAbs : Int) = ((a.natAbs + b.natAbs : Nat) : Int) := by omega
  generalize hn : (strI ((a.natAbs + b.natAbs : Nat) : Int)).length = n
  have hlt : a.natAbs + b.natAbs < 10 ^ n := by rw [← hn]; exact lt_len _
  have hle : n ≤ 8000 := by
    rw [← hn]
    refine len_le (by decide) ?_
    have h1 : a.natAbs + b.natAbs < 2 ^ 8000 := by have : (2 : Nat) ^ 8000 = 2 ^ 7999 * 2 := by rw [← Nat.pow_succ]
                                                   omega
    exact Nat.lt_of_lt_of_le h1 (Nat.pow_le_pow_left (by decide) _)
  have e1 : bltD .str (.int ((a.natAbs : Int) + (b.natAbs : Int))) = some (.str (strI ((a.natAbs + b.natAbs : Nat) : Int)), 0) := by
    rw [hs, str_int (by rw [Int.natAbs_natCast]; omega)]
  have e2 : bltD .len (.str (strI ((a.natAbs + b.natAbs : Nat) : Int))) = some (.int (n : Int), 0) := by
    rw [← hn]
    exact if_pos (by unfold lenLim; omega)
  have e3 : binD .mul (.int 5) (.int (n : Int)) = some (.int (5 * n), 0) := mul_int (by unfold lim; exact Nat.lt_of_lt_of_le (by decide) (Nat.pow_le_pow_right (n := 2) (by decide) (show 3 ≤ 8000 by decide))) (by
    rw [Int.natAbs_natCast]; exact Nat.lt_of_le_of_lt hle (by unfold lim; exact Nat.lt_of_lt_of_le (by decide) (Nat.pow_le_pow_right (n := 2) (by decide) (show 13 ≤ 8000 by decide))))
  have e4 : okR 0 (5 * (n : Int) + 2) = true := okR_small (by decide) (by omega)
  have hl : (rangeL 0 (5 * (n : Int) + 2)).length = 5 * n + 2 := by rw [rangeL_len]; omega
  have hd := its_done hlt
  have key := gcd_loop (tower fs7 100 2) 100 false (rangeL 0 (5 * (n : Int) + 2)) a.natAbs b.natAbs .un ha' hb' (by rw [hl]; exact hd)
  have r1 : ∀ γ : Env', γ[0]? = some (.pl (.int (a.natAbs : Int))) → γ[1]? = some (.pl (.int (b.natAbs : Int))) → evI (tower fs7 100 2) γ (.r1 (.bin .add (.bin .mul (.lit (.int 5)) (.blt .len (.blt .str (.bin .add (.var 0) (.var 1))))) (.lit (.int 2)))) = some (rangeL 0 (5 * (n : Int) + 2)) := fun γ g0 g1 =>
    ev_r1 (ev_bin (ev_bin ev_lit (ev_blt (ev_blt (ev_bin (ev_var g0) (ev_var g1) rfl) e1) e2) e3) ev_lit rfl) e4
  rcases key with ⟨γ', k⟩ | ⟨sl', k⟩
  · apply evF_ret rfl
    refine st_asg (ev_blt (ev_var rfl) rfl) ?_
    refine st_asg (ev_blt (ev_var rfl) rfl) ?_
    exact st_forX (r1 _ rfl rfl) k (fun z => by cases z)
  · apply evF_ret rfl
    refine st_asg (ev_blt (ev_var rfl) rfl) ?_
    refine st_asg (ev_blt (ev_var rfl) rfl) ?_
    exact st_for (r1 _ rfl rfl) k (st_ret (ev_var rfl))
end Mine
end
section
set_option maxRecDepth 100000
namespace Mine
open PySem

noncomputable def fq (r : Rat) : PyData := .tuple [.int r.num, .int r.den]
noncomputable def Bd (k : Nat) (r : Rat) : Prop := r.num.natAbs < 2 ^ k ∧ r.den < 2 ^ k

theorem fq_divInt {n d : Int} (hd : d ≠ 0) : fq (Rat.divInt n d) = .tuple [.int ((if d < 0 then -n else n).fdiv (Int.gcd (if d < 0 then -n else n) (if d < 0 then -d else d) : Nat)), .int ((if d < 0 then -d else d).fdiv (Int.gcd (if d < 0 then -n else n) (if d < 0 then -d else d) : Nat))] := by
  unfold fq
  rw [Rat.num_divInt, Rat.den_divInt, if_neg hd]
  have hg : ∀ m : Int, m.fdiv ((Int.gcd n d : Nat) : Int) = m / (Int.gcd n d : Nat) := fun m => Int.fdiv_eq_ediv_of_nonneg _ (Int.natCast_nonneg _)
  by_cases h : d < 0
  · simp only [h, if_true, Int.gcd_neg, Int.neg_gcd, hg]
    rw [Int.gcd_comm d n, Int.sign_eq_neg_one_of_neg h]
    have e : ((d.natAbs / n.gcd d : Nat) : Int) = -d / (n.gcd d : Nat) := by
      rw [Int.natCast_ediv]
      congr 1
      omega
    rw [e]
    simp
  · simp only [h, if_false, hg]
    rw [Int.gcd_comm d n, Int.sign_eq_one_of_pos (by omega)]
    have e : ((d.natAbs / n.gcd d : Nat) : Int) = d / (n.gcd d : Nat) := by
      rw [Int.natCast_ediv]
      congr 1
      omega
    rw [e]
    simp

theorem lim_gt {n : Nat} (h : n < 2 ^ 7999) : n < lim := Nat.lt_of_lt_of_le h (by unfold lim; exact Nat.pow_le_pow_right (by decide) (by decide))

theorem frac_ok {K : Nat} (hK : 3 < K) {n d : Int} (h0 : d ≠ 0) (hn : n.natAbs < 2 ^ 7999) (hd : d.natAbs < 2 ^ 7999) : tower fs7 100 K 3 [.int n, .int d] = some (.ret (fq (Rat.divInt n d)) 0) := by
  rw [tower_at (f := f7_3) rfl hK, fq_divInt h0]
  have e1 : cmpD .eq (.int d) (.int 0) = some false := (cmp_eq_int _ _).trans (congrArg some (decide_eq_false h0))
  have gpos : ∀ a b : Int, b ≠ 0 → b.natAbs < 2 ^ 7999 → ((Int.gcd a b : Nat) : Int) ≠ 0 ∧ ((Int.gcd a b : Nat) : Int).natAbs < lim := fun a b hb hb' => by
    have h1 : 0 < Int.gcd a b := Int.gcd_pos_of_ne_zero_right _ hb
    have h2 : Int.gcd a b ≤ b.natAbs := Int.gcd_le_natAbs_right _ (by omega)
    refine ⟨by omega, ?_⟩
    rw [Int.natAbs_natCast]
    exact lim_gt (Nat.lt_of_le_of_lt h2 hb')
  by_cases h : d < 0
  · have e2 : cmpD .lt (.int d) (.int 0) = some true := congrArg some (decide_eq_true h)
    obtain ⟨g1, g2⟩ := gpos (-n) (-d) (by omega) (by rw [Int.natAbs_neg]; exact hd)
    have e3 := gcd_ok (K := 3) (by decide) (a := -n) (b := -d) (by rw [Int.natAbs_neg]; exact hn) (by rw [Int.natAbs_neg]; exact hd)
    simp only [h, if_true]
    apply evF_ret rfl
    refine st_else (ev_cmp (ev_var rfl) ev_lit e1) ?_
    refine st_true (ev_cmp (ev_var rfl) ev_lit e2) (st_asg (ev_neg (ev_var rfl)) (st_asg (ev_neg (ev_var rfl)) st_nil)) ?_
    refine st_asg (ev_call (es_cons (ev_var rfl) (es_cons (ev_var rfl) es_nil)) e3) ?_
    exact st_ret (ev_tup (es_cons (ev_bin (ev_var rfl) (ev_var rfl) (fdiv_int g1 g2)) (es_cons (ev_bin (ev_var rfl) (ev_var rfl) (fdiv_int g1 g2)) es_nil)))
  · have e2 : cmpD .lt (.int d) (.int 0) = some false := congrArg some (decide_eq_false h)
    obtain ⟨g1, g2⟩ := gpos n d h0 hd
    have e3 := gcd_ok (K := 3) (by decide) (a := n) (b := d) hn hd
    simp only [h, if_false]
    apply evF_ret rfl
    refine st_else (ev_cmp (ev_var rfl) ev_lit e1) ?_
    refine st_else (ev_cmp (ev_var rfl) ev_lit e2) ?_
    refine st_asg (ev_call (es_cons (ev_var rfl) (es_cons (ev_var rfl) es_nil)) e3) ?_
    exact st_ret (ev_tup (es_cons (ev_bin (ev_var rfl) (ev_var rfl) (fdiv_int g1 g2)) (es_cons (ev_bin (ev_var rfl) (ev_var rfl) (fdiv_int g1 g2)) es_nil)))

theorem frac_zero {K : Nat} (hK : 3 < K) (n : Int) : tower fs7 100 K 3 [.int n, .int 0] = some (.exc 0) := by
  rw [tower_at (f := f7_3) rfl hK]
  have e1 : cmpD .eq (.int 0) (.int 0) = some true := by rw [cmp_eq_int]; rfl
  exact evF_exc rfl (st_trueX (ev_cmp (ev_var rfl) ev_lit e1) st_raise (fun z => by cases z))

theorem Bd.divInt {k : Nat} {n d : Int} (hd : d ≠ 0) (h1 : n.natAbs < 2 ^ k) (h2 : d.natAbs < 2 ^ k) : Bd k (Rat.divInt n d) := by
  have hg : 0 < Int.gcd d n := Int.gcd_pos_of_ne_zero_left _ hd
  constructor
  · rw [Rat.num_divInt]
    refine Nat.lt_of_le_of_lt ?_ h1
    rw [Int.natAbs_ediv_of_dvd (Int.dvd_mul_of_dvd_right (Int.gcd_dvd_right d n)), Int.natAbs_mul, Int.natAbs_natCast]
    refine Nat.le_trans (Nat.div_le_self _ _) ?_
    rw [Int.natAbs_sign_of_ne_zero hd, Nat.one_mul]
    exact Nat.le_refl _
  · rw [Rat.den_divInt, if_neg hd]
    exact Nat.lt_of_le_of_lt (Nat.div_le_self _ _) h2
theorem Bd.mono {i j : Nat} (h : i ≤ j) {r : Rat} (x : Bd i r) : Bd j r := ⟨Nat.lt_of_lt_of_le x.1 (Nat.pow_le_pow_right (by decide) h), Nat.lt_of_lt_of_le x.2 (Nat.pow_le_pow_right (by decide) h)⟩
theorem Bd.neg {i : Nat} {r : Rat} (x : Bd i r) : Bd i (-r) := ⟨by rw [Rat.neg_num, Int.natAbs_neg]; exact x.1, by rw [Rat.neg_den]; exact x.2⟩
end Mine
end
section
set_option maxRecDepth 100000
namespace Mine
open PySem

theorem idx0 (r : Rat) : idxD (fq r) (.int 0) = some (.int r.num, 0) := rfl
theorem idx1 (r : Rat) : idxD (fq r) (.int 1) = some (.int r.den, 0) := rfl
theorem p_lim {k n : Nat} (hk : k ≤ 7999) (h : n < 2 ^ k) : n < lim := lim_gt (Nat.lt_of_lt_of_le h (Nat.pow_le_pow_right (by decide) hk))
theorem mul_lt {i j a b : Nat} (ha : a < 2 ^ i) (hb : b < 2 ^ j) : a * b < 2 ^ (i + j) := by
  rw [Nat.pow_add]
  exact Nat.mul_lt_mul'' ha hb
theorem imul_lt {i j : Nat} {a b : Int} (ha : a.natAbs < 2 ^ i) (hb : b.natAbs < 2 ^ j) : (a * b).natAbs < 2 ^ (i + j) := by
  rw [Int.natAbs_mul]; exact mul_lt ha hb
theorem iadd_lt {i : Nat} {a b : Int} (ha : a.natAbs < 2 ^ i) (hb : b.natAbs < 2 ^ i) : (a + b).natAbs < 2 ^ (i + 1) := by
  rw [Nat.pow_succ]
  have := Int.natAbs_add_le a b
  omega
theorem up_lt {i j n : Nat} (h : n < 2 ^ i) (hij : i ≤ j) : n < 2 ^ j := Nat.lt_of_lt_of_le h (Nat.pow_le_pow_right (by decide) hij)
theorem den_ne (r : Rat) : ((r.den : Nat) : Int) ≠ 0 := by have := r.den_nz; omega

theorem add_eq (a b : Rat) : a + b = Rat.divInt (a.num * b.den + b.num * a.den) (a.den * b.den) := by
  conv => lhs; rw [← Rat.num_divInt_den a, ← Rat.num_divInt_den b]
  rw [Rat.divInt_add_divInt _ _ (den_ne a) (den_ne b)]
theorem mul_eq (a b : Rat) : a * b = Rat.divInt (a.num * b.num) (a.den * b.den) := by
  conv => lhs; rw [← Rat.num_divInt_den a, ← Rat.num_divInt_den b]
  rw [Rat.divInt_mul_divInt]
theorem div_eq {a b : Rat} (hb : b ≠ 0) : a / b = Rat.divInt (a.num * b.den) (a.den * b.num) := by
  have hn : b.num ≠ 0 := fun h => hb (Rat.num_eq_zero.mp h)
  have ha : a = (a.num : Rat) / (a.den : Rat) := by
    have := Rat.num_divInt_den a; rw [Rat.divInt_eq_div] at this; exact this.symm
  have hb' : b = (b.num : Rat) / (b.den : Rat) := by
    have := Rat.num_divInt_den b; rw [Rat.divInt_eq_div] at this; exact this.symm
  have h1 : (a.den : Rat) ≠ 0 := by have := a.den_nz; intro z; exact this (by exact_mod_cast z)
  have h2 : (b.den : Rat) ≠ 0 := by have := b.den_nz; intro z; exact this (by exact_mod_cast z)
  have h3 : (b.num : Rat) ≠ 0 := by intro z; exact hn (by exact_mod_cast z)
  rw [Rat.divInt_eq_div]
  conv => lhs; rw [ha, hb']
  push_cast
  grind

theorem fadd_bd {i j : Nat} {a b : Rat} (ha : Bd i a) (hb : Bd j b) : (a.num * b.den + b.num * a.den).natAbs < 2 ^ (i + j + 1) ∧ (((a.den : Int) * b.den).natAbs < 2 ^ (i + j + 1)) := by
  have h1 := imul_lt (a := a.num) (b := (b.den : Int)) ha.1 (by simpa using hb.2)
  have h2 := imul_lt (a := b.num) (b := (a.den : Int)) hb.1 (by simpa using ha.2)
  have h3 := imul_lt (a := (a.den : Int)) (b := (b.den : Int)) (by simpa using ha.2) (by simpa using hb.2)
  rw [Nat.add_comm j i] at h2
  exact ⟨iadd_lt h1 h2, up_lt h3 (by omega)⟩
theorem Bd.add {i j : Nat} {a b : Rat} (ha : Bd i a) (hb : Bd j b) : Bd (i + j + 1) (a + b) := by
  rw [add_eq]
  obtain ⟨h1, h2⟩ := fadd_bd ha hb
  exact Bd.divInt (Int.mul_ne_zero (den_ne a) (den_ne b)) h1 h2
theorem Bd.mul {i j : Nat} {a b : Rat} (ha : Bd i a) (hb : Bd j b) : Bd (i + j) (a * b) := by
  rw [mul_eq]
  exact Bd.divInt (Int.mul_ne_zero (den_ne a) (den_ne b)) (imul_lt ha.1 hb.1) (imul_lt (by simpa using ha.2) (by simpa using hb.2))
theorem Bd.div {i j : Nat} {a b : Rat} (h0 : b ≠ 0) (ha : Bd i a) (hb : Bd j b) : Bd (i + j) (a / b) := by
  rw [div_eq h0]
  have hn : b.num ≠ 0 := fun h => h0 (Rat.num_eq_zero.mp h)
  exact Bd.divInt (Int.mul_ne_zero (den_ne a) hn) (imul_lt ha.1 (by simpa using hb.2)) (imul_lt (by simpa using ha.2) hb.1)

theorem fadd_ok {K : Nat} (hK : 4 < K) {a b : Rat} (ha : Bd 3000 a) (hb : Bd 3000 b) : tower fs7 100 K 4 [fq a, fq b] = some (.ret (fq (a + b)) 0) := by
  rw [tower_at (f := f7_4) rfl hK, add_eq]
  obtain ⟨h1, h2⟩ := fadd_bd ha hb
  have e3 := frac_ok (K := 4) (by decide) (Int.mul_ne_zero (den_ne a) (den_ne b)) (up_lt h1 (by decide)) (up_lt h2 (by decide))
  have m1 := mul_int (a := a.num) (b := (b.den : Int)) (p_lim (by decide) ha.1) (by rw [Int.natAbs_natCast]; exact p_lim (by decide) hb.2)
  have m2 := mul_int (a := b.num) (b := (a.den : Int)) (p_lim (by decide) hb.1) (by rw [Int.natAbs_natCast]; exact p_lim (by decide) ha.2)
  have m3 := mul_int (a := (a.den : Int)) (b := (b.den : Int)) (by rw [Int.natAbs_natCast]; exact p_lim (by decide) ha.2) (by rw [Int.natAbs_natCast]; exact p_lim (by decide) hb.2)
  exact evF_ret rfl (st_ret (ev_call (es_cons (ev_bin (ev_bin (ev_idx (ev_var rfl) ev_lit (idx0 _)) (ev_idx (ev_var rfl) ev_lit (idx1 _)) m1) (ev_bin (ev_idx (ev_var rfl) ev_lit (idx0 _)) (ev_idx (ev_var rfl) ev_lit (idx1 _)) m2) rfl) (es_cons (ev_bin (ev_idx (ev_var rfl) ev_lit (idx1 _)) (ev_idx (ev_var rfl) ev_lit (idx1 _)) m3) es_nil)) e3))
theorem fneg_ok {K : Nat} (hK : 5 < K) (a : Rat) : tower fs7 100 K 5 [fq a] = some (.ret (fq (-a)) 0) := by
  rw [tower_at (f := f7_5) rfl hK]
  refine evF_ret rfl (st_ret (ev_tup (es_cons (ev_neg (ev_idx (ev_var rfl) ev_lit (idx0 _))) (es_cons (ev_idx (ev_var rfl) ev_lit (idx1 _)) es_nil)))) |>.trans ?_
  unfold fq
  rw [Rat.neg_num, Rat.neg_den]
theorem fmul_ok {K : Nat} (hK : 6 < K) {a b : Rat} (ha : Bd 3000 a) (hb : Bd 3000 b) : tower fs7 100 K 6 [fq a, fq b] = some (.ret (fq (a * b)) 0) := by
  rw [tower_at (f := f7_6) rfl hK, mul_eq]
  have h1 := imul_lt (a := a.num) (b := b.num) ha.1 hb.1
  have h3 := imul_lt (a := (a.den : Int)) (b := (b.den : Int)) (by simpa using ha.2) (by simpa using hb.2)
  have e3 := frac_ok (K := 6) (by decide) (Int.mul_ne_zero (den_ne a) (den_ne b)) (up_lt h1 (by decide)) (up_lt h3 (by decide))
  have m1 := mul_int (a := a.num) (b := b.num) (p_lim (by decide) ha.1) (p_lim (by decide) hb.1)
  have m3 := mul_int (a := (a.den : Int)) (b := (b.den : Int)) (by rw [Int.natAbs_natCast]; exact p_lim (by decide) ha.2) (by rw [Int.natAbs_natCast]; exact p_lim (by decide) hb.2)
  exact evF_ret rfl (st_ret (ev_call (es_cons (ev_bin (ev_idx (ev_var rfl) ev_lit (idx0 _)) (ev_idx (ev_var rfl) ev_lit (idx0 _)) m1) (es_cons (ev_bin (ev_idx (ev_var rfl) ev_lit (idx1 _)) (ev_idx (ev_var rfl) ev_lit (idx1 _)) m3) es_nil)) e3))
theorem fdiv_ok {K : Nat} (hK : 7 < K) {a b : Rat} (h0 : b ≠ 0) (ha : Bd 3000 a) (hb : Bd 3000 b) : tower fs7 100 K 7 [fq a, fq b] = some (.ret (fq (a / b)) 0) := by
  rw [tower_at (f := f7_7) rfl hK, div_eq h0]
  have hn : b.num ≠ 0 := fun h => h0 (Rat.num_eq_zero.mp h)
  have h1 := imul_lt (a := a.num) (b := (b.den : Int)) ha.1 (by simpa using hb.2)
  have h3 := imul_lt (a := (a.den : Int)) (b := b.num) (by simpa using ha.2) hb.1
  have e1 : cmpD .eq (.int b.num) (.int 0) = some false := (cmp_eq_int _ _).trans (congrArg some (decide_eq_false hn))
  have e3 := frac_ok (K := 7) (by decide) (Int.mul_ne_zero (den_ne a) hn) (up_lt h1 (by decide)) (up_lt h3 (by decide))
  have m1 := mul_int (a := a.num) (b := (b.den : Int)) (p_lim (by decide) ha.1) (by rw [Int.natAbs_natCast]; exact p_lim (by decide) hb.2)
  have m3 := mul_int (a := (a.den : Int)) (b := b.num) (by rw [Int.natAbs_natCast]; exact p_lim (by decide) ha.2) (p_lim (by decide) hb.1)
  exact evF_ret rfl (st_else (ev_cmp (ev_idx (ev_var rfl) ev_lit (idx0 _)) ev_lit e1) (st_ret (ev_call (es_cons (ev_bin (ev_idx (ev_var rfl) ev_lit (idx0 _)) (ev_idx (ev_var rfl) ev_lit (idx1 _)) m1) (es_cons (ev_bin (ev_idx (ev_var rfl) ev_lit (idx1 _)) (ev_idx (ev_var rfl) ev_lit (idx0 _)) m3) es_nil)) e3)))
theorem fdiv_zero {K : Nat} (hK : 7 < K) (a : Rat) : tower fs7 100 K 7 [fq a, fq 0] = some (.exc 0) := by
  rw [tower_at (f := f7_7) rfl hK]
  have e1 : cmpD .eq (.int (0 : Rat).num) (.int 0) = some true := by rw [cmp_eq_int]; rfl
  exact evF_exc rfl (st_trueX (ev_cmp (ev_idx (ev_var rfl) ev_lit (idx0 _)) ev_lit e1) st_raise (fun z => by cases z))
end Mine
end
section
set_option maxRecDepth 100000
namespace Mine
open PySem

theorem mapM_of {α β : Type} {f : α → Option β} {g : α → β} : ∀ {xs : List α}, (∀ x ∈ xs, f x = some (g x)) → xs.mapM f = some (xs.map g)
  | [], _ => rfl
  | x :: xs, h => by
    rw [List.mapM_cons, h x (.head _)]
    simp only [Option.bind_eq_bind, Option.bind_some]
    rw [mapM_of fun y hy => h y (.tail _ hy)]
    rfl

noncomputable def rowsL (rows : List (List PyData)) : PyData := .list (rows.map .list)
structure Small (rows : List (List PyData)) : Prop where
  len : rows.length ≤ lenLim
  row : ∀ r ∈ rows, r.length ≤ lenLim

theorem itemsD_rows (rows : List (List PyData)) : itemsD (rowsL rows) = some (rows.map PyData.list) := rfl
theorem copy_lvl (rows : List (List PyData)) : (if !((rows.map PyData.list).map fun d => (d, 1)).isEmpty && ((rows.map PyData.list).map fun d => (d, 1)).all lvl2 then 2 else 1) = (if rows.isEmpty then 1 else 2) := by
  cases rows with
  | nil => rfl
  | cons r rs =>
    have : (((r :: rs).map PyData.list).map fun d => (d, 1)).all lvl2 = true := by
      rw [List.all_eq_true]
      intro x hx
      obtain ⟨y, hy, rfl⟩ := List.mem_map.mp hx
      obtain ⟨z, _, rfl⟩ := List.mem_map.mp hy
      rfl
    rw [this]
    rfl
theorem copy_ok {K : Nat} (hK : 0 < K) {rows : List (List PyData)} (h : Small rows) : tower fs7 100 K 0 [rowsL rows] = some (.ret (rowsL rows) (if rows.isEmpty then 1 else 2)) := by
  rw [tower_at (f := f7_0) rfl hK]
  have e := mapM_of (f := fun d => evE (tower fs7 100 0) [.pl d, .pl (rowsL rows)] (.sl (.var 0) (.lit .none) (.lit .none))) (g := fun d => (d, 1)) (xs := rows.map PyData.list) fun d hd => by
    obtain ⟨r, hr, rfl⟩ := List.mem_map.mp hd
    exact ev_sl (ev_var rfl) (if_pos (h.row r hr))
  have e2 := ev_comp (n := 1) (c := .tt) (ev_of (Φ := tower fs7 100 0) (γ := [.pl (rowsL rows)]) (ev_var (i := 0) rfl) (itemsD_rows rows) (by rw [List.length_map]; exact h.len)) e
  rw [List.map_map, copy_lvl, show ((fun x : PyData × Nat => x.fst) ∘ fun d => (d, 1)) = id from rfl, List.map_id] at e2
  exact evF_ret rfl (st_ret e2)

theorem idx_ok {xs : List PyData} {k : Nat} {d : PyData} (hk : k < lenLim) (h : xs[k]? = some d) : idxD (.list xs) (.int (k : Int)) = some (d, 0) := by
  simp only [idxD]
  rw [if_pos (by simp; exact hk)]
  simp [h]
theorem pos_ok {k n : Nat} (hk : k < lenLim) (h : k < n) : posD (.int (k : Int)) n = some k := by
  simp only [posD]
  rw [if_pos (by simp; exact ⟨hk, h⟩)]
  simp
theorem rowsD_map : ∀ rows : List (List PyData), rowsD (rows.map PyData.list) = some rows
  | [] => rfl
  | r :: rs => by simp [rowsD, rowsD_map rs]
theorem mk2 (rows : List (List PyData)) : mkSlot (rowsL rows, 2) = .b2 rows := by
  simp only [mkSlot, rowsL, rowsD_map]
theorem sl_ok {xs : List PyData} (h : xs.length ≤ lenLim) : slD (.list xs) .none .none = some (.list xs, 1) := by
  exact if_pos h

theorem swap_ok {K : Nat} (hK : 9 < K) {rows : List (List PyData)} (h : Small rows) {i j : Nat} {ri rj : List PyData} (hl : rows.length < lenLim) (hi : rows[i]? = some ri) (hj : rows[j]? = some rj) :
    tower fs7 100 K 9 [rowsL rows, .int (i : Int), .int (j : Int)] = some (.ret (rowsL ((rows.set i rj).set j ri)) 2) := by
  rw [tower_at (f := f7_9) rfl hK]
  have li := (List.getElem?_eq_some_iff.mp hi).1
  have lj := (List.getElem?_eq_some_iff.mp hj).1
  have hne : rows.isEmpty = false := by cases rows with | nil => simp at li | cons => rfl
  have c := copy_ok (K := 9) (by decide) h
  rw [hne] at c
  simp only [Bool.false_eq_true, if_false] at c
  have ki : i < lenLim := Nat.lt_trans li hl
  have kj : j < lenLim := Nat.lt_trans lj hl
  have ei : idxD (rowsL rows) (.int (i : Int)) = some (.list ri, 0) := idx_ok ki (by rw [List.getElem?_map, hi]; rfl)
  have ej : idxD (rowsL rows) (.int (j : Int)) = some (.list rj, 0) := idx_ok kj (by rw [List.getElem?_map, hj]; rfl)
  have si := sl_ok (h.row ri (List.mem_of_getElem? hi))
  have sj := sl_ok (h.row rj (List.mem_of_getElem? hj))
  have pi := pos_ok (k := i) (n := rows.length) ki li
  have pj := pos_ok (k := j) (n := (rows.set i rj).length) kj (by rw [List.length_set]; exact lj)
  apply evF_ret rfl
  refine st_bnew (ev_call (es_cons (ev_var rfl) es_nil) c) (mk2 rows) ?_
  refine st_put (ev_sl (ev_idx (ev_var rfl) (ev_var rfl) ej) sj) (ev_var rfl) (put_b2 rfl pi) ?_
  refine st_put (ev_sl (ev_idx (ev_var rfl) (ev_var rfl) ei) si) (ev_var rfl) (put_b2 rfl pj) ?_
  exact st_retv rfl
end Mine
end
section
set_option maxRecDepth 100000
namespace Mine
open PySem

noncomputable def encM (m : List (List Rat)) : PyData := rowsL (m.map (·.map fq))
noncomputable def rowAdd (a b : List Rat) (k : Rat) : List Rat := List.zipWith (fun x y => x + k * y) a b
theorem rowAdd_len (a b : List Rat) (k : Rat) (h : a.length = b.length) : (rowAdd a b k).length = a.length := by simp [rowAdd, h]

theorem len_ok {xs : List PyData} (h : xs.length ≤ lenLim) : bltD .len (.list xs) = some (.int (xs.length : Nat), 0) := by
  exact if_pos h

theorem encM_get {m : List (List Rat)} {i : Nat} {r : List Rat} (h : m[i]? = some r) : (m.map (·.map fq))[i]? = some (r.map fq) := by rw [List.getElem?_map, h]; rfl

theorem small_enc {m : List (List Rat)} (h1 : m.length ≤ lenLim) (h2 : ∀ r ∈ m, r.length ≤ lenLim) : Small (m.map (·.map fq)) := ⟨by simpa using h1, fun r hr => by
  obtain ⟨x, hx, rfl⟩ := List.mem_map.mp hr
  simpa using h2 x hx⟩

theorem range_map (w : Nat) : rangeL 0 (w : Int) = (List.range w).map fun (k : Nat) => PyData.int (k : Int) := by
  simp [rangeL]

theorem rowadd_ok {K : Nat} (hK : 10 < K) {m : List (List Rat)} {i j : Nat} {ri rj : List Rat} {k : Rat} (h1 : m.length < 1000) (h2 : ∀ r ∈ m, r.length < 1000) (hi : m[i]? = some ri) (hj : m[j]? = some rj) (hw : ri.length = rj.length)
    (bi : ∀ x ∈ ri, Bd 900 x) (bj : ∀ x ∈ rj, Bd 900 x) (bk : Bd 1800 k) :
    tower fs7 100 K 10 [encM m, .int (i : Int), .int (j : Int), fq k] = some (.ret (encM (m.set i (rowAdd ri rj k))) 2) := by
  rw [tower_at (f := f7_10) rfl hK]
  have hll : (1000 : Nat) ≤ lenLim := by unfold lenLim; decide
  have li := (List.getElem?_eq_some_iff.mp hi).1
  have lj := (List.getElem?_eq_some_iff.mp hj).1
  have S := small_enc (m := m) (by omega) (fun r hr => by have := h2 r hr; omega)
  have hne : (m.map (·.map fq)).isEmpty = false := by cases m with | nil => simp at li | cons => rfl
  have c := copy_ok (K := 10) (by decide) S
  rw [hne] at c
  simp only [Bool.false_eq_true, if_false] at c
  have ei : idxD (encM m) (.int (i : Int)) = some (.list (ri.map fq), 0) := idx_ok (by omega) (by rw [List.getElem?_map, encM_get hi]; rfl)
  have ej : idxD (encM m) (.int (j : Int)) = some (.list (rj.map fq), 0) := idx_ok (by omega) (by rw [List.getElem?_map, encM_get hj]; rfl)
  have hri := h2 ri (List.mem_of_getElem? hi)
  have le : bltD .len (.list (ri.map fq)) = some (.int (ri.length : Nat), 0) := by
    rw [len_ok (by rw [List.length_map]; omega), List.length_map]
  have pi := pos_ok (k := i) (n := (m.map (·.map fq)).length) (by omega) (by rw [List.length_map]; exact li)
  apply evF_ret rfl
  refine st_bnew (ev_call (es_cons (ev_var rfl) es_nil) c) (mk2 _) ?_
  have cm : evE (tower fs7 100 10) [.pl (encM m), .pl (.int (i : Int)), .pl (.int (j : Int)), .pl (fq k), .b2 (m.map (·.map fq))]
      (.comp (.call 4 (.cons (.idx (.idx (.var 1) (.var 2)) (.var 0)) (.cons (.call 6 (.cons (.var 4) (.cons (.idx (.idx (.var 1) (.var 3)) (.var 0)) .nil))) .nil))) 1 (.r1 (.blt .len (.idx (.var 0) (.var 1)))) .tt) = some (.list ((rowAdd ri rj k).map fq), 1) := by
    have r1 := ev_r1 (Φ := tower fs7 100 10) (γ := [.pl (encM m), .pl (.int (i : Int)), .pl (.int (j : Int)), .pl (fq k), .b2 (m.map (·.map fq))]) (ev_blt (ev_idx (ev_var (i := 0) rfl) (ev_var (i := 1) rfl) ei) le) (okR_small (by decide) (by omega))
    rw [range_map] at r1
    let g : PyData → PyData × Nat := fun d => match d with | .int c => (fq (ri.getD c.toNat 0 + k * rj.getD c.toNat 0), 0) | _ => (.none, 0)
    have mm := mapM_of (f := fun d => evE (tower fs7 100 10) (.pl d :: [.pl (encM m), .pl (.int (i : Int)), .pl (.int (j : Int)), .pl (fq k), .b2 (m.map (·.map fq))]) (.call 4 (.cons (.idx (.idx (.var 1) (.var 2)) (.var 0)) (.cons (.call 6 (.cons (.var 4) (.cons (.idx (.idx (.var 1) (.var 3)) (.var 0)) .nil))) .nil)))) (g := g)
      (xs := (List.range ri.length).map fun (k : Nat) => PyData.int (k : Int)) fun d hd => by
        obtain ⟨q, hq, rfl⟩ := List.mem_map.mp hd
        have hq : q < ri.length := List.mem_range.mp hq
        have hq' : q < rj.length := by omega
        have g1 : ri[q]? = some ri[q] := List.getElem?_eq_getElem hq
        have g2 : rj[q]? = some rj[q] := List.getElem?_eq_getElem hq'
        have x1 : idxD (.list (ri.map fq)) (.int (q : Int)) = some (fq ri[q], 0) := idx_ok (by omega) (by rw [List.getElem?_map, g1]; rfl)
        have x2 : idxD (.list (rj.map fq)) (.int (q : Int)) = some (fq rj[q], 0) := idx_ok (by omega) (by rw [List.getElem?_map, g2]; rfl)
        have b1 := bi _ (List.getElem_mem hq)
        have b2 := bj _ (List.getElem_mem hq')
        have mu := fmul_ok (K := 10) (by decide) (bk.mono (by decide)) (b2.mono (j := 3000) (by decide))
        have ad := fadd_ok (K := 10) (by decide) (b1.mono (j := 3000) (by decide)) ((bk.mul b2).mono (j := 3000) (by decide))
        have e : g (.int (q : Int)) = (fq (ri[q] + k * rj[q]), 0) := by
          show (fq (ri.getD (q : Int).toNat 0 + k * rj.getD (q : Int).toNat 0), 0) = _
          rw [Int.toNat_natCast, List.getD_eq_getElem?_getD, List.getD_eq_getElem?_getD, g1, g2]
          rfl
        rw [e]
        exact ev_call (es_cons (ev_idx (ev_idx (ev_var rfl) (ev_var rfl) ei) (ev_var rfl) x1) (es_cons (ev_call (es_cons (ev_var rfl) (es_cons (ev_idx (ev_idx (ev_var rfl) (ev_var rfl) ej) (ev_var rfl) x2) es_nil)) mu) es_nil)) ad
    rw [ev_comp r1 mm]
    have e1 : (((List.range ri.length).map fun (k : Nat) => PyData.int (k : Int)).map g).map (·.1) = (rowAdd ri rj k).map fq := by
      apply List.ext_getElem
      · simp [rowAdd, hw]
      · intro n a1 a2
        have hn : n < ri.length := by simpa using a1
        simp only [List.getElem_map, List.getElem_range, rowAdd, List.getElem_zipWith]
        show fq (ri.getD (n : Int).toNat 0 + k * rj.getD (n : Int).toNat 0) = _
        rw [Int.toNat_natCast, List.getD_eq_getElem?_getD, List.getD_eq_getElem?_getD, List.getElem?_eq_getElem hn, List.getElem?_eq_getElem (show n < rj.length by omega)]
        rfl
    rw [e1]
    have e2 : (!(((List.range ri.length).map fun (k : Nat) => PyData.int (k : Int)).map g).isEmpty && (((List.range ri.length).map fun (k : Nat) => PyData.int (k : Int)).map g).all lvl2) = false := by
      cases hl : ri.length with
      | zero => rfl
      | succ n =>
        rw [List.range_succ_eq_map]
        simp only [List.map_cons, List.all_cons, Bool.and_eq_false_iff]
        exact .inr (.inl rfl)
    rw [e2]
    rfl
  refine st_put cm (ev_var rfl) (put_b2 rfl pi) ?_
  have e : ((m.map (·.map fq)).set i ((rowAdd ri rj k).map fq)) = (m.set i (rowAdd ri rj k)).map (·.map fq) := by rw [List.map_set]
  rw [show encM (m.set i (rowAdd ri rj k)) = .list (((m.map (·.map fq)).set i ((rowAdd ri rj k).map fq)).map .list) by unfold encM rowsL; rw [e]]
  exact st_retv rfl
end Mine
end
section
set_option maxRecDepth 100000
namespace Mine
open PySem

theorem fq_inj {a b : Rat} (h : fq a = fq b) : a = b := by
  simp only [fq, PyData.tuple.injEq, List.cons.injEq, PyData.int.injEq, and_true] at h
  exact Rat.ext h.1 (by exact_mod_cast h.2)
theorem eqv_fq (a b : Rat) : PyData.eqv (fq a) (fq b) = decide (a = b) := by
  have e : PyData.eqv (fq a) (fq b) = (PyData.eqv (.int a.num) (.int b.num) && (PyData.eqv (.int (a.den : Int)) (.int (b.den : Int)) && true)) := by
    simp only [fq, PyData.eqv, PyData.eqvAll]
  rw [e, eqv_int, eqv_int, Bool.and_true]
  apply Bool.eq_iff_iff.mpr
  simp only [Bool.and_eq_true, decide_eq_true_eq]
  constructor
  · rintro ⟨h1, h2⟩; exact Rat.ext h1 (by exact_mod_cast h2)
  · rintro rfl; exact ⟨rfl, rfl⟩
theorem sh_fq (a : Rat) : SeqAt.shaped (fq a) = true := rfl
theorem cmp_ne_fq (a b : Rat) : cmpD .ne (fq a) (fq b) = some (!decide (a = b)) := congrArg (fun x => some (!x)) (eqv_fq a b)

noncomputable def at2 (m : List (List Rat)) (i j : Nat) : Rat := (m.getD i []).getD j 0
noncomputable def first (m : List (List Rat)) (c : Nat) : Nat → Nat → Option Nat
  | _, 0 => none
  | s, d + 1 => if at2 m s c = 0 then first m c (s + 1) d else some s
noncomputable def fint : Option Nat → Int
  | some f => f
  | none => -1

structure Sq (n : Nat) (m : List (List Rat)) : Prop where
  len : m.length = n
  row : ∀ r ∈ m, r.length = n
theorem Sq.get {n : Nat} {m : List (List Rat)} (h : Sq n m) {i : Nat} (hi : i < n) : ∃ r, m[i]? = some r ∧ r.length = n := by
  have hl : i < m.length := by rw [h.len]; exact hi
  exact ⟨m[i], List.getElem?_eq_getElem hl, h.row _ (List.getElem_mem hl)⟩
theorem Sq.at {n : Nat} {m : List (List Rat)} (h : Sq n m) (hn : n < 1000) {i j : Nat} (hi : i < n) (hj : j < n) : ∃ r, idxD (encM m) (.int (i : Int)) = some (r, 0) ∧ idxD r (.int (j : Int)) = some (fq (at2 m i j), 0) := by
  obtain ⟨r, hr, hl⟩ := h.get hi
  have hll : (1000 : Nat) ≤ lenLim := by unfold lenLim; decide
  refine ⟨.list (r.map fq), idx_ok (by omega) (by rw [List.getElem?_map, encM_get hr]; rfl), ?_⟩
  have hj' : j < r.length := by omega
  have : at2 m i j = r[j] := by
    unfold at2
    have e : m.getD i [] = r := by rw [List.getD_eq_getElem?_getD, hr]; rfl
    rw [e, List.getD_eq_getElem?_getD, List.getElem?_eq_getElem hj']
    rfl
  rw [this]
  exact idx_ok (by omega) (by rw [List.getElem?_map, List.getElem?_eq_getElem hj']; rfl)

theorem range_two (s n : Nat) : rangeL (s : Int) (n : Int) = (List.range' s (n - s)).map fun (k : Nat) => PyData.int (k : Int) := by
  unfold rangeL
  rw [List.range'_eq_map_range, List.map_map]
  have : ((n : Int) - (s : Int)).toNat = n - s := by omega
  rw [this]
  apply List.map_congr_left
  intro k _
  simp

noncomputable def pvBody : PSs := (.cons (.ite (.cmp .ne (.idx (.idx (.var 0) (.var 4)) (.var 1)) (.var 3)) (.cons (.ret (.var 4)) .nil) .nil) .nil)

theorem pivot_loop {Φ : Funs} {fu : Nat} {tp : Bool} {n : Nat} {m : List (List Rat)} (h : Sq n m) (hn : n < 1000) {c : Nat} (hc : c < n) (st : PyData) : ∀ (d s : Nat) (sl : Slot), s + d ≤ n →
    ∃ sl', forL (fun g => evSs Φ fu tp g pvBody) [4] ((List.range' s d).map fun (k : Nat) => PyData.int (k : Int)) [.pl (encM m), .pl (.int (c : Int)), .pl st, .pl (fq 0), sl] =
      some (match first m c s d with | some f => (.ret (.int (f : Int)) 0) | none => .next, [.pl (encM m), .pl (.int (c : Int)), .pl st, .pl (fq 0), sl'])
  | 0, s, sl, _ => ⟨sl, rfl⟩
  | d + 1, s, sl, hs => by
    obtain ⟨r, x1, x2⟩ := h.at hn (show s < n by omega) hc
    have t : evT Φ [.pl (encM m), .pl (.int (c : Int)), .pl st, .pl (fq 0), .pl (.int (s : Int))] (.cmp .ne (.idx (.idx (.var 0) (.var 4)) (.var 1)) (.var 3)) = some (!decide (at2 m s c = 0)) :=
      ev_cmp (ev_idx (ev_idx (ev_var rfl) (ev_var rfl) x1) (ev_var rfl) x2) (ev_var rfl) (cmp_ne_fq _ _)
    rw [List.range'_succ, List.map_cons]
    by_cases h0 : at2 m s c = 0
    · simp only [first, h0, if_true]
      simp only [h0, decide_true, Bool.not_true] at t
      obtain ⟨sl', e⟩ := pivot_loop h hn hc st d (s + 1) (.pl (.int (s : Int))) (by omega)
      exact ⟨sl', fl_cons (st_else t st_nil) e⟩
    · simp only [first, h0, if_false]
      simp only [h0, decide_false, Bool.not_false] at t
      exact ⟨_, fl_ret (st_trueX t (st_ret (ev_var rfl)) (fun z => by cases z))⟩

theorem pivot_ok {K : Nat} (hK : 1 < K) {n : Nat} {m : List (List Rat)} (h : Sq n m) (hn : n < 1000) {c s : Nat} (hc : c < n) (hs : s ≤ n) :
    tower fs7 100 K 1 [encM m, .int (c : Int), .int (s : Int), fq 0] = some (.ret (.int (fint (first m c s (n - s)))) 0) := by
  rw [tower_at (f := f7_1) rfl hK]
  have hll : (1000 : Nat) ≤ lenLim := by unfold lenLim; decide
  have le : bltD .len (encM m) = some (.int (n : Int), 0) := by
    show bltD .len (.list _) = _
    rw [len_ok (by simp [h.len]; omega)]
    simp [h.len]
  have r2 := ev_r2 (Φ := tower fs7 100 1) (γ := [.pl (encM m), .pl (.int (c : Int)), .pl (.int (s : Int)), .pl (fq 0), .un]) (ev_var (i := 2) rfl) (ev_blt (ev_var (i := 0) rfl) le) (okR_small (by omega) (by omega)) (by omega)
  rw [range_two] at r2
  obtain ⟨sl', e⟩ := pivot_loop (Φ := tower fs7 100 1) (fu := 100) (tp := false) h hn hc (.int (s : Int)) (n - s) s .un (by omega)
  apply evF_ret rfl
  cases hf : first m c s (n - s) with
  | some f =>
    rw [hf] at e
    exact st_forX r2 e (fun z => by cases z)
  | none =>
    rw [hf] at e
    exact st_for r2 e (st_ret (ev_neg ev_lit))
end Mine
end
section
set_option maxRecDepth 100000
namespace Mine
open PySem

noncomputable def elimL (c : Nat) : List Nat → List (List Rat) → List (List Rat) → List (List Rat) × List (List Rat)
  | [], up, low => (up, low)
  | i :: is, up, low => elimL c is (up.set i (rowAdd (up.getD i []) (up.getD c []) (-(at2 up i c / at2 up c c)))) (low.set i ((low.getD i []).set c (at2 up i c / at2 up c c)))

noncomputable def elBody : PSs := (.cons (.asg 8 (.call 7 (.cons (.idx (.idx (.var 2) (.var 7)) (.var 5)) (.cons (.idx (.idx (.var 2) (.var 5)) (.var 5)) .nil))))
  (.cons (.put2 3 (.var 7) (.var 5) (.var 8))
  (.cons (.asg 2 (.call 10 (.cons (.var 2) (.cons (.var 7) (.cons (.var 5) (.cons (.call 5 (.cons (.var 8) .nil)) .nil))))))
  .nil)))

theorem Sq.set {n : Nat} {m : List (List Rat)} (h : Sq n m) {i : Nat} {r : List Rat} (hr : r.length = n) : Sq n (m.set i r) :=
  ⟨by rw [List.length_set]; exact h.len, fun x hx => by
    rcases List.mem_or_eq_of_mem_set hx with q | q
    · exact h.row x q
    · rw [q]; exact hr⟩
theorem getD_of {α : Type} {l : List α} {i : Nat} {x d : α} (h : l[i]? = some x) : l.getD i d = x := by rw [List.getD_eq_getElem?_getD, h]; rfl
theorem Sq.rowD {n : Nat} {m : List (List Rat)} (h : Sq n m) {i : Nat} (hi : i < n) : m[i]? = some (m.getD i []) ∧ (m.getD i []).length = n := by
  obtain ⟨r, hr, hl⟩ := h.get hi
  rw [getD_of hr]
  exact ⟨hr, hl⟩
theorem getD_set_ne {α : Type} {l : List α} {i j : Nat} {x d : α} (h : i ≠ j) : (l.set i x).getD j d = l.getD j d := by
  rw [List.getD_eq_getElem?_getD, List.getElem?_set_ne h, List.getD_eq_getElem?_getD]
theorem at2_mem {n : Nat} {m : List (List Rat)} (h : Sq n m) {i j : Nat} (hi : i < n) (hj : j < n) : at2 m i j ∈ m.getD i [] := by
  obtain ⟨h1, h2⟩ := h.rowD hi
  unfold at2
  generalize m.getD i [] = r at h2 ⊢
  rw [List.getD_eq_getElem?_getD, List.getElem?_eq_getElem (show j < r.length by omega)]
  exact List.getElem_mem _

theorem elim_loop {n : Nat} (hn : n < 1000) {c : Nat} (hc : c < n) (m perm found : Slot) : ∀ (is : List Nat) (up low : List (List Rat)) (s7 s8 : Slot), Sq n up → Sq n low → at2 up c c ≠ 0 → (∀ i ∈ is, i < n ∧ i ≠ c) → is.Nodup →
    (∀ j, j = c ∨ j ∈ is → ∀ x ∈ up.getD j [], Bd 900 x) →
    ∃ s7' s8', forL (fun g => evSs (tower fs7 100 13) 100 false g elBody) [7] (is.map fun (k : Nat) => PyData.int (k : Int)) [m, .pl (.int (n : Int)), .pl (encM up), .b2 (low.map (·.map fq)), perm, .pl (.int (c : Int)), found, s7, s8] =
      some (.next, [m, .pl (.int (n : Int)), .pl (encM (elimL c is up low).1), .b2 ((elimL c is up low).2.map (·.map fq)), perm, .pl (.int (c : Int)), found, s7', s8'])
  | [], up, low, s7, s8, _, _, _, _, _, _ => ⟨s7, s8, rfl⟩
  | i :: is, up, low, s7, s8, hu, hl, hp, hi, hnd, hB => by
    have hll : (1000 : Nat) ≤ lenLim := by unfold lenLim; decide
    obtain ⟨hin, hic⟩ := hi i (.head _)
    obtain ⟨r1, x1, x2⟩ := hu.at hn hin hc
    obtain ⟨r2, y1, y2⟩ := hu.at hn hc hc
    have bi := hB i (.inr (.head _))
    have bc := hB c (.inl rfl)
    have b1 := bi _ (at2_mem hu hin hc)
    have b2 := bc _ (at2_mem hu hc hc)
    have dv := fdiv_ok (K := 13) (by decide) hp (b1.mono (j := 3000) (by decide)) (b2.mono (j := 3000) (by decide))
    have bk : Bd 1800 (at2 up i c / at2 up c c) := Bd.div hp b1 b2
    obtain ⟨g1, l1⟩ := hu.rowD hin
    obtain ⟨g2, l2⟩ := hu.rowD hc
    obtain ⟨g3, l3⟩ := hl.rowD hin
    have ng := fneg_ok (K := 13) (by decide) (at2 up i c / at2 up c c)
    have ra := rowadd_ok (K := 13) (by decide) (by rw [hu.len]; exact hn) (fun r hr => by rw [hu.row r hr]; exact hn) g1 g2 (by rw [l1, l2]) bi bc bk.neg
    have pi := pos_ok (k := i) (n := (low.map (·.map fq)).length) (by omega) (by rw [List.length_map, hl.len]; exact hin)
    have pc := pos_ok (k := c) (n := ((low.getD i []).map fq).length) (by omega) (by rw [List.length_map, l3]; exact hc)
    have e1 : (low.map (·.map fq)).set i (((low.getD i []).map fq).set c (fq (at2 up i c / at2 up c c))) = (low.set i ((low.getD i []).set c (at2 up i c / at2 up c c))).map (·.map fq) := by
      rw [List.map_set, List.map_set]
    have p2 := put2_b2 (γ := [m, .pl (.int (n : Int)), .pl (encM up), .b2 (low.map (·.map fq)), perm, .pl (.int (c : Int)), found, .pl (.int (i : Int)), .pl (fq (at2 up i c / at2 up c c))]) (i := 3) (r := (fq (at2 up i c / at2 up c c), 0)) rfl pi (encM_get g3) pc
    rw [e1] at p2
    have rl : (rowAdd (up.getD i []) (up.getD c []) (-(at2 up i c / at2 up c c))).length = n := by rw [rowAdd_len _ _ _ (by rw [l1, l2]), l1]
    have hu' : Sq n (up.set i (rowAdd (up.getD i []) (up.getD c []) (-(at2 up i c / at2 up c c)))) := hu.set rl
    have hl' : Sq n (low.set i ((low.getD i []).set c (at2 up i c / at2 up c c))) := hl.set (by rw [List.length_set]; exact l3)
    have hnd' := List.nodup_cons.mp hnd
    obtain ⟨s7', s8', e⟩ := elim_loop hn hc m perm found is _ _ (.pl (.int (i : Int))) (.pl (fq (at2 up i c / at2 up c c))) hu' hl' (by unfold at2; rw [getD_set_ne hic]; exact hp) (fun j hj => hi j (.tail _ hj)) hnd'.2 (fun j hj => by
      have hji : i ≠ j := by
        rcases hj with rfl | hj
        · exact hic
        · rintro rfl; exact hnd'.1 hj
      rw [getD_set_ne hji]
      exact hB j (hj.imp id fun q => .tail _ q))
    refine ⟨s7', s8', fl_cons ?_ e⟩
    refine st_asg (ev_call (es_cons (ev_idx (ev_idx (ev_var rfl) (ev_var rfl) x1) (ev_var rfl) x2) (es_cons (ev_idx (ev_idx (ev_var rfl) (ev_var rfl) y1) (ev_var rfl) y2) es_nil)) dv) ?_
    refine st_put2 (ev_var rfl) (ev_var rfl) (ev_var rfl) p2 ?_
    exact st_asg (ev_call (es_cons (ev_var rfl) (es_cons (ev_var rfl) (es_cons (ev_var rfl) (es_cons (ev_call (es_cons (ev_var rfl) es_nil) ng) es_nil)))) ra) st_nil
end Mine
end
section
set_option maxRecDepth 100000
namespace Mine
open PySem

noncomputable def swp {α : Type} (l : List α) (i j : Nat) (d : α) : List α := (l.set i (l.getD j d)).set j (l.getD i d)
structure LS where
  up : List (List Rat)
  low : List (List Rat)
  perm : List Nat
noncomputable def swS (c f : Nat) (s : LS) : LS := if f = c then s else ⟨swp s.up c f [], swp s.low c f [], swp s.perm c f 0⟩
noncomputable def elS (n c : Nat) (s : LS) : LS := ⟨(elimL c (List.range' (c + 1) (n - (c + 1))) s.up s.low).1, (elimL c (List.range' (c + 1) (n - (c + 1))) s.up s.low).2, s.perm⟩
noncomputable def luStep (n c : Nat) (s : LS) : LS := match first s.up c c (n - c) with
  | none => s
  | some f => elS n c (swS c f s)

theorem first_some {m : List (List Rat)} {c : Nat} : ∀ {d s f : Nat}, first m c s d = some f → s ≤ f ∧ f < s + d ∧ at2 m f c ≠ 0
  | 0, _, _, h => by simp [first] at h
  | d + 1, s, f, h => by
    unfold first at h
    split at h
    · obtain ⟨h1, h2, h3⟩ := first_some h
      exact ⟨by omega, by omega, h3⟩
    · rename_i h0
      cases h
      exact ⟨Nat.le_refl _, by omega, h0⟩

noncomputable def BdM (B : Nat) (m : List (List Rat)) : Prop := ∀ r ∈ m, ∀ x ∈ r, Bd B x
theorem BdM.mono {i j : Nat} (h : i ≤ j) {m : List (List Rat)} (x : BdM i m) : BdM j m := fun r hr y hy => (x r hr y hy).mono h
theorem BdM.getD {B : Nat} {m : List (List Rat)} (h : BdM B m) (i : Nat) : ∀ x ∈ m.getD i [], Bd B x := by
  cases e : m[i]? with
  | none => rw [List.getD_eq_getElem?_getD, e]; intro x hx; simp at hx
  | some r => rw [getD_of e]; exact h r (List.mem_of_getElem? e)
theorem BdM.set {B : Nat} {m : List (List Rat)} (h : BdM B m) {i : Nat} {r : List Rat} (hr : ∀ x ∈ r, Bd B x) : BdM B (m.set i r) := fun x hx => by
  rcases List.mem_or_eq_of_mem_set hx with q | q
  · exact h x q
  · rw [q]; exact hr
theorem BdM.swp {B : Nat} {m : List (List Rat)} (h : BdM B m) (i j : Nat) : BdM B (swp m i j []) := (h.set (h.getD j)).set (h.getD i)
theorem Sq.swp {n : Nat} {m : List (List Rat)} (h : Sq n m) {i j : Nat} (hi : i < n) (hj : j < n) : Sq n (swp m i j []) := (h.set (h.rowD hj).2).set (h.rowD hi).2

theorem rowAdd_bd {B : Nat} {a b : List Rat} {k : Rat} (hB : 1 ≤ B) (ha : ∀ x ∈ a, Bd B x) (hb : ∀ x ∈ b, Bd B x) (hk : Bd (B + B) k) : ∀ x ∈ rowAdd a b k, Bd (5 * B) x := by
  intro x hx
  unfold rowAdd at hx
  obtain ⟨i, hi⟩ := List.getElem?_of_mem hx
  rw [List.getElem?_zipWith] at hi
  split at hi
  · rename_i u v hu hv
    cases hi
    exact ((ha _ (List.mem_of_getElem? hu)).add (hk.mul (hb _ (List.mem_of_getElem? hv)))).mono (by omega)
  · cases hi
theorem elim_facts {n B : Nat} (hB : 1 ≤ B) {c : Nat} (hc : c < n) : ∀ (is : List Nat) (up low : List (List Rat)), Sq n up → Sq n low → at2 up c c ≠ 0 → (∀ i ∈ is, i < n ∧ i ≠ c) → is.Nodup → (∀ j, j = c ∨ j ∈ is → ∀ x ∈ up.getD j [], Bd B x) → BdM (5 * B) up →
    Sq n (elimL c is up low).1 ∧ Sq n (elimL c is up low).2 ∧ BdM (5 * B) (elimL c is up low).1
  | [], up, low, hu, hl, _, _, _, _, hm => ⟨hu, hl, hm⟩
  | i :: is, up, low, hu, hl, hp, hi, hnd, hb, hm => by
    obtain ⟨hin, hic⟩ := hi i (.head _)
    obtain ⟨g1, l1⟩ := hu.rowD hin
    obtain ⟨g2, l2⟩ := hu.rowD hc
    obtain ⟨g3, l3⟩ := hl.rowD hin
    have bi := hb i (.inr (.head _))
    have bc := hb c (.inl rfl)
    have bk : Bd (B + B) (at2 up i c / at2 up c c) := Bd.div hp (bi _ (at2_mem hu hin hc)) (bc _ (at2_mem hu hc hc))
    have rl : (rowAdd (up.getD i []) (up.getD c []) (-(at2 up i c / at2 up c c))).length = n := by rw [rowAdd_len _ _ _ (by rw [l1, l2]), l1]
    have hnd' := List.nodup_cons.mp hnd
    refine elim_facts hB hc is _ _ (hu.set rl) (hl.set (by rw [List.length_set]; exact l3)) (by unfold at2; rw [getD_set_ne hic]; exact hp) (fun j hj => hi j (.tail _ hj)) hnd'.2 (fun j hj => ?_) (hm.set (rowAdd_bd hB bi bc bk.neg))
    have hji : i ≠ j := by
      rcases hj with rfl | hj
      · exact hic
      · rintro rfl; exact hnd'.1 hj
    rw [getD_set_ne hji]
    exact hb j (hj.imp id fun q => .tail _ q)

structure LOk (n B : Nat) (s : LS) : Prop where
  up : Sq n s.up
  low : Sq n s.low
  perm : s.perm.length = n
  bd : BdM B s.up

theorem swS_ok {n B c f : Nat} {s : LS} (h : LOk n B s) (hc : c < n) (hf : f < n) : LOk n B (swS c f s) := by
  unfold swS
  split
  · exact h
  · exact ⟨h.up.swp hc hf, h.low.swp hc hf, by simp [swp, h.perm], h.bd.swp _ _⟩
theorem swS_at {n B c f : Nat} {s : LS} (h : LOk n B s) (hc : c < n) (hf : f < n) : at2 (swS c f s).up c c = at2 s.up f c := by
  unfold swS
  split
  · rename_i e; subst e; rfl
  · rename_i e
    show (((s.up.set c (s.up.getD f [])).set f (s.up.getD c [])).getD c []).getD c 0 = _
    rw [getD_set_ne e, getD_of (List.getElem?_set_self (by rw [h.up.len]; exact hc))]
    rfl
theorem range'_facts (c n : Nat) : (∀ i ∈ List.range' (c + 1) (n - (c + 1)), i < n ∧ i ≠ c) ∧ (List.range' (c + 1) (n - (c + 1))).Nodup :=
  ⟨fun i hi => by rw [List.mem_range'_1] at hi; omega, List.nodup_range'⟩
theorem luStep_ok {n B c : Nat} (hB : 1 ≤ B) {s : LS} (h : LOk n B s) (hc : c < n) : LOk n (5 * B) (luStep n c s) := by
  unfold luStep
  cases hf : first s.up c c (n - c) with
  | none => exact ⟨h.up, h.low, h.perm, h.bd.mono (by omega)⟩
  | some f =>
    obtain ⟨f1, f2, f3⟩ := first_some hf
    have h1 := swS_ok h hc (show f < n by omega)
    have h2 := swS_at h hc (show f < n by omega)
    obtain ⟨r1, r2⟩ := range'_facts c n
    obtain ⟨e1, e2, e3⟩ := elim_facts hB hc _ _ _ h1.up h1.low (by rw [h2]; exact f3) r1 r2 (fun j _ => h1.bd.getD j) (h1.bd.mono (by omega))
    exact ⟨e1, e2, h1.perm, e3⟩
end Mine
end
section
set_option maxRecDepth 100000
namespace Mine
open PySem

noncomputable def permD (p : List Nat) : List PyData := p.map fun (k : Nat) => PyData.int (k : Int)
noncomputable def lsl (M : PyData) (n : Nat) (s : LS) (s5 s6 s7 s8 : Slot) : Env' := [.pl M, .pl (.int (n : Int)), .pl (encM s.up), .b2 (s.low.map (·.map fq)), .b1 (permD s.perm), s5, s6, s7, s8]

noncomputable def swBody : PSs := (.cons (.asg 2 (.call 9 (.cons (.var 2) (.cons (.var 5) (.cons (.var 6) .nil)))))
  (.cons (.frz [3])
  (.cons (.bnew 3 (.call 9 (.cons (.var 3) (.cons (.var 5) (.cons (.var 6) .nil)))))
  (.cons (.swap 4 (.var 5) (.var 6) (.var 6) (.var 5))
  .nil))))
noncomputable def luBody : PSs := (.cons (.asg 6 (.call 1 (.cons (.var 2) (.cons (.var 5) (.cons (.var 5) (.cons (.tup (.cons (.lit (.int 0)) (.cons (.lit (.int 1)) .nil))) .nil))))))
  (.cons (.ite (.cmp .eq (.var 6) (.neg (.lit (.int 1)))) (.cons .cont
  .nil) .nil)
  (.cons (.ite (.cmp .ne (.var 6) (.var 5)) swBody .nil)
  (.cons (.for_ [7] (.r2 (.bin .add (.var 5) (.lit (.int 1))) (.var 1)) elBody)
  .nil))))

theorem enc_swp {m : List (List Rat)} {i j : Nat} {ri rj : List Rat} (hi : m[i]? = some ri) (hj : m[j]? = some rj) : rowsL (((m.map (·.map fq)).set i (rj.map fq)).set j (ri.map fq)) = encM (swp m i j []) := by
  unfold encM swp
  rw [getD_of hi, getD_of hj, List.map_set, List.map_set]
theorem enc_swp' {m : List (List Rat)} {i j : Nat} {ri rj : List Rat} (hi : m[i]? = some ri) (hj : m[j]? = some rj) : (((m.map (·.map fq)).set i (rj.map fq)).set j (ri.map fq)) = (swp m i j []).map (·.map fq) := by
  unfold swp
  rw [getD_of hi, getD_of hj, List.map_set, List.map_set]

theorem sw_eval {n B c f : Nat} (hn : n < 1000) {M : PyData} {s : LS} (h : LOk n B s) (hc : c < n) (hf : f < n) (hne : f ≠ c) (s7 s8 : Slot) :
    evSs (tower fs7 100 13) 100 false (lsl M n s (.pl (.int (c : Int))) (.pl (.int (f : Int))) s7 s8) swBody = some (.next, lsl M n (swS c f s) (.pl (.int (c : Int))) (.pl (.int (f : Int))) s7 s8) := by
  have hll : (1000 : Nat) ≤ lenLim := by unfold lenLim; decide
  obtain ⟨u1, lu1⟩ := h.up.rowD hc
  obtain ⟨u2, lu2⟩ := h.up.rowD hf
  obtain ⟨w1, lw1⟩ := h.low.rowD hc
  obtain ⟨w2, lw2⟩ := h.low.rowD hf
  have Su := small_enc (m := s.up) (by rw [h.up.len]; omega) (fun r hr => by rw [h.up.row r hr]; omega)
  have Sl := small_enc (m := s.low) (by rw [h.low.len]; omega) (fun r hr => by rw [h.low.row r hr]; omega)
  have a1 := swap_ok (K := 13) (by decide) Su (by rw [List.length_map, h.up.len]; omega) (encM_get u1) (encM_get u2)
  have a2 := swap_ok (K := 13) (by decide) Sl (by rw [List.length_map, h.low.len]; omega) (encM_get w1) (encM_get w2)
  rw [enc_swp u1 u2] at a1
  have pl : (permD s.perm).length = n := by simp [permD, h.perm]
  have p1 : (permD s.perm)[c]? = some (.int ((s.perm.getD c 0 : Nat) : Int)) := by
    unfold permD
    rw [List.getElem?_map, List.getElem?_eq_getElem (show c < s.perm.length by rw [h.perm]; exact hc), getD_of (List.getElem?_eq_getElem (show c < s.perm.length by rw [h.perm]; exact hc))]
    rfl
  have p2 : (permD s.perm)[f]? = some (.int ((s.perm.getD f 0 : Nat) : Int)) := by
    unfold permD
    rw [List.getElem?_map, List.getElem?_eq_getElem (show f < s.perm.length by rw [h.perm]; exact hf), getD_of (List.getElem?_eq_getElem (show f < s.perm.length by rw [h.perm]; exact hf))]
    rfl
  have q1 := pos_ok (k := c) (n := (permD s.perm).length) (by omega) (by rw [pl]; exact hc)
  have q2 := pos_ok (k := f) (n := (permD s.perm).length) (by omega) (by rw [pl]; exact hf)
  have q3 := pos_ok (k := f) (n := ((permD s.perm).set c (.int ((s.perm.getD f 0 : Nat) : Int))).length) (by omega) (by rw [List.length_set, pl]; exact hf)
  have fin : lsl M n (swS c f s) (.pl (.int (c : Int))) (.pl (.int (f : Int))) s7 s8 = [.pl M, .pl (.int (n : Int)), .pl (encM (swp s.up c f [])), .b2 (((s.low.map (·.map fq)).set c ((s.low.getD f []).map fq)).set f ((s.low.getD c []).map fq)),
      .b1 (((permD s.perm).set c (.int ((s.perm.getD f 0 : Nat) : Int))).set f (.int ((s.perm.getD c 0 : Nat) : Int))), .pl (.int (c : Int)), .pl (.int (f : Int)), s7, s8] := by
    unfold swS
    rw [if_neg hne, enc_swp' w1 w2]
    simp only [lsl, permD, swp, List.map_set]
  rw [fin]
  refine st_asg (ev_call (es_cons (ev_var rfl) (es_cons (ev_var rfl) (es_cons (ev_var rfl) es_nil))) a1) ?_
  refine st_frz ?_
  refine st_bnew (ev_call (es_cons (ev_var rfl) (es_cons (ev_var rfl) (es_cons (ev_var rfl) es_nil))) a2) (mk2 _) ?_
  exact st_swap (ev_var rfl) (get_b1 rfl q2 p2) (ev_var rfl) (get_b1 rfl q1 p1) (ev_var rfl) (put1_b1 rfl q1) (ev_var rfl) (put1_b1 rfl q3) st_nil

theorem lu_eval {n B c : Nat} (hn : n < 1000) (hB : B ≤ 900) {M : PyData} {s : LS} (h : LOk n B s) (hc : c < n) (s6 s7 s8 : Slot) :
    ∃ fl s6' s7' s8', (fl = .next ∨ fl = .cont) ∧ evSs (tower fs7 100 13) 100 false (lsl M n s (.pl (.int (c : Int))) s6 s7 s8) luBody = some (fl, lsl M n (luStep n c s) (.pl (.int (c : Int))) s6' s7' s8') := by
  have hll : (1000 : Nat) ≤ lenLim := by unfold lenLim; decide
  have pv := pivot_ok (K := 13) (by decide) h.up hn hc (Nat.le_of_lt hc)
  have a0 : evE (tower fs7 100 13) (lsl M n s (.pl (.int (c : Int))) s6 s7 s8) (.call 1 (.cons (.var 2) (.cons (.var 5) (.cons (.var 5) (.cons (.tup (.cons (.lit (.int 0)) (.cons (.lit (.int 1)) .nil))) .nil))))) = some (.int (fint (first s.up c c (n - c))), 0) :=
    ev_call (es_cons (ev_var rfl) (es_cons (ev_var rfl) (es_cons (ev_var rfl) (es_cons (ev_tup (es_cons ev_lit (es_cons ev_lit es_nil))) es_nil)))) pv
  unfold luStep
  cases hf : first s.up c c (n - c) with
  | none =>
    rw [hf] at a0
    refine ⟨.cont, .pl (.int (-1)), s7, s8, .inr rfl, st_asg a0 ?_⟩
    exact st_trueX (ev_cmp (ev_var rfl) (ev_neg ev_lit) (cmp_eq_int _ _)) st_cont (fun z => by cases z)
  | some f =>
    rw [hf] at a0
    obtain ⟨f1, f2, f3⟩ := first_some hf
    have hfn : f < n := by omega
    have h1 := swS_ok h hc hfn
    have h2 := swS_at h hc hfn
    obtain ⟨r1, r2⟩ := range'_facts c n
    obtain ⟨s7', s8', e⟩ := elim_loop hn hc (.pl M) (.b1 (permD (swS c f s).perm)) (.pl (.int (f : Int))) (List.range' (c + 1) (n - (c + 1))) (swS c f s).up (swS c f s).low s7 s8 h1.up h1.low (by rw [h2]; exact f3) r1 r2 (fun j _ x hx => (h1.bd.getD j x hx).mono hB)
    have r := ev_r2 (Φ := tower fs7 100 13) (γ := lsl M n (swS c f s) (.pl (.int (c : Int))) (.pl (.int (f : Int))) s7 s8) (a := .bin .add (.var 5) (.lit (.int 1))) (b := .var 1) (i := ((c + 1 : Nat) : Int)) (j := (n : Int)) (l := 0) (l' := 0) (ev_bin (ev_var rfl) ev_lit rfl) (ev_var rfl) (okR_small (by omega) (by omega)) (by omega)
    rw [range_two] at r
    refine ⟨.next, .pl (.int (f : Int)), s7', s8', .inl rfl, st_asg a0 ?_⟩
    refine st_else (ev_cmp (ev_var rfl) (ev_neg ev_lit) ((cmp_eq_int _ _).trans (congrArg some (decide_eq_false (show ¬ ((f : Int) = -1) by omega))))) ?_
    by_cases hfc : f = c
    · subst hfc
      have es : swS f f s = s := by unfold swS; rw [if_pos rfl]
      simp only [es] at e r ⊢
      refine st_else (ev_cmp (ev_var rfl) (ev_var rfl) ((cmp_ne_int _ _).trans (by simp [fint]))) ?_
      exact st_for r e st_nil
    · refine st_true (ev_cmp (ev_var rfl) (ev_var rfl) ((cmp_ne_int _ _).trans (congrArg (fun b => some (!b)) (decide_eq_false (show ¬ ((f : Int) = (c : Int)) by omega))))) (sw_eval hn h hc hfn hfc s7 s8) ?_
      exact st_for r e st_nil
end Mine
end
section
set_option maxRecDepth 100000
namespace Mine
open PySem

noncomputable def luRun (n : Nat) : List Nat → LS → LS
  | [], s => s
  | c :: cs, s => luRun n cs (luStep n c s)

theorem lu_loop {n : Nat} (hn : n < 1000) {M : PyData} : ∀ (cs : List Nat) (t : Nat) (s : LS) (s5 s6 s7 s8 : Slot), (∀ c ∈ cs, c < n) → cs.length + t ≤ 3 → LOk n (20 * 5 ^ t) s →
    (∃ s5' s6' s7' s8', forL (fun g => evSs (tower fs7 100 13) 100 false g luBody) [5] (cs.map fun (k : Nat) => PyData.int (k : Int)) (lsl M n s s5 s6 s7 s8) = some (.next, lsl M n (luRun n cs s) s5' s6' s7' s8')) ∧ Sq n (luRun n cs s).low
  | [], t, s, s5, s6, s7, s8, _, _, h => ⟨⟨s5, s6, s7, s8, rfl⟩, h.low⟩
  | c :: cs, t, s, s5, s6, s7, s8, hc, ht, h => by
    have hcn := hc c (.head _)
    have hp : 20 * 5 ^ t ≤ 900 ∧ 1 ≤ 20 * 5 ^ t := by
      have : t = 0 ∨ t = 1 ∨ t = 2 := by simp only [List.length_cons] at ht; omega
      rcases this with rfl | rfl | rfl <;> decide
    obtain ⟨fl, s6', s7', s8', hfl, e⟩ := lu_eval hn hp.1 (M := M) h hcn s6 s7 s8
    have h' := luStep_ok hp.2 h hcn
    have e5 : 5 * (20 * 5 ^ t) = 20 * 5 ^ (t + 1) := by rw [Nat.pow_succ]; omega
    rw [e5] at h'
    obtain ⟨⟨a5, a6, a7, a8, er⟩, hl⟩ := lu_loop hn (M := M) cs (t + 1) (luStep n c s) (.pl (.int (c : Int))) s6' s7' s8' (fun x hx => hc x (.tail _ hx)) (by simp only [List.length_cons] at ht; omega) h'
    refine ⟨⟨a5, a6, a7, a8, ?_⟩, hl⟩
    rcases hfl with rfl | rfl
    · exact fl_cons e er
    · exact fl_cont e er

noncomputable def diagL : List Nat → List (List Rat) → List (List Rat)
  | [], low => low
  | i :: is, low => diagL is (low.set i ((low.getD i []).set i 1))
noncomputable def dgBody : PSs := (.cons (.put2 3 (.var 7) (.var 7) (.tup (.cons (.lit (.int 1)) (.cons (.lit (.int 1)) .nil)))) .nil)
theorem diag_loop {n : Nat} (hn : n < 1000) {M : PyData} {up : List (List Rat)} {perm : List Nat} : ∀ (is : List Nat) (low : List (List Rat)) (s5 s6 s7 s8 : Slot), (∀ i ∈ is, i < n) → Sq n low →
    ∃ s7', forL (fun g => evSs (tower fs7 100 13) 100 false g dgBody) [7] (is.map fun (k : Nat) => PyData.int (k : Int)) (lsl M n ⟨up, low, perm⟩ s5 s6 s7 s8) = some (.next, lsl M n ⟨up, diagL is low, perm⟩ s5 s6 s7' s8)
  | [], low, s5, s6, s7, s8, _, _ => ⟨s7, rfl⟩
  | i :: is, low, s5, s6, s7, s8, hi, hl => by
    have hll : (1000 : Nat) ≤ lenLim := by unfold lenLim; decide
    have hin := hi i (.head _)
    obtain ⟨g3, l3⟩ := hl.rowD hin
    have pi := pos_ok (k := i) (n := (low.map (·.map fq)).length) (by omega) (by rw [List.length_map, hl.len]; exact hin)
    have pc := pos_ok (k := i) (n := ((low.getD i []).map fq).length) (by omega) (by rw [List.length_map, l3]; exact hin)
    have p2 := put2_b2 (γ := lsl M n ⟨up, low, perm⟩ s5 s6 (.pl (.int (i : Int))) s8) (i := 3) (r := (fq 1, 0)) rfl pi (encM_get g3) pc
    have e1 : (low.map (·.map fq)).set i (((low.getD i []).map fq).set i (fq 1)) = (low.set i ((low.getD i []).set i 1)).map (·.map fq) := by
      rw [List.map_set, List.map_set]
    rw [e1] at p2
    obtain ⟨s7', e⟩ := diag_loop hn (M := M) (up := up) (perm := perm) is (low.set i ((low.getD i []).set i 1)) s5 s6 (.pl (.int (i : Int))) s8 (fun j hj => hi j (.tail _ hj)) (hl.set (by rw [List.length_set]; exact l3))
    exact ⟨s7', fl_cons (st_put2 (ev_tup (es_cons ev_lit (es_cons ev_lit es_nil))) (ev_var rfl) (ev_var rfl) p2 st_nil) e⟩

noncomputable def zeros (n : Nat) : List (List Rat) := List.replicate n (List.replicate n 0)
noncomputable def luOut (n : Nat) (m : List (List Rat)) : LS := luRun n (List.range n) ⟨m, zeros n, List.range n⟩

theorem lu_ok {K : Nat} (hK : 13 < K) {n : Nat} {m : List (List Rat)} (h1 : 1 ≤ n) (h3 : n ≤ 3) (h : Sq n m) (hb : BdM 20 m) :
    tower fs7 100 K 13 [encM m] = some (.ret (.tuple [.list (permD (luOut n m).perm), encM (diagL (List.range n) (luOut n m).low), encM (luOut n m).up]) 0) := by
  rw [tower_at (f := f7_13) rfl hK]
  have hll : (1000 : Nat) ≤ lenLim := by unfold lenLim; decide
  have le : bltD .len (encM m) = some (.int (n : Int), 0) := by
    show bltD .len (.list _) = _
    rw [len_ok (by simp [h.len]; omega)]
    simp [h.len]
  have S := small_enc (m := m) (by rw [h.len]; omega) (fun r hr => by rw [h.row r hr]; omega)
  have hne : (m.map (·.map fq)).isEmpty = false := by
    cases m with
    | nil => have := h.len; simp at this; omega
    | cons => rfl
  have c := copy_ok (K := 13) (by decide) S
  rw [hne] at c
  simp only [Bool.false_eq_true, if_false] at c
  have z : evE (tower fs7 100 13) [.pl (encM m), .pl (.int (n : Int)), .pl (encM m), .un, .un, .un, .un, .un, .un] (.comp (.bin .mul (.lst (.cons (.tup (.cons (.lit (.int 0)) (.cons (.lit (.int 1)) .nil))) .nil)) (.var 2)) 1 (.r1 (.var 1)) .tt) = some (rowsL ((zeros n).map (·.map fq)), 2) := by
    have : n = 1 ∨ n = 2 ∨ n = 3 := by omega
    rcases this with rfl | rfl | rfl <;> rfl
  have r1 : ∀ (γ : Env'), γ[1]? = some (.pl (.int (n : Int))) → evI (tower fs7 100 13) γ (.r1 (.var 1)) = some ((List.range n).map fun (k : Nat) => PyData.int (k : Int)) := fun γ hγ => by
    rw [ev_r1 (ev_var hγ) (okR_small (by decide) (by omega)), range_map]
  have L0 : LOk n (20 * 5 ^ 0) ⟨m, zeros n, List.range n⟩ := ⟨h, ⟨by simp [zeros], fun r hr => by rw [List.eq_of_mem_replicate hr]; simp⟩, by simp, hb⟩
  obtain ⟨⟨a5, a6, a7, a8, er⟩, hl⟩ := lu_loop (n := n) (by omega) (M := encM m) (List.range n) 0 ⟨m, zeros n, List.range n⟩ .un .un .un .un (fun c hc => List.mem_range.mp hc) (by simp; omega) L0
  obtain ⟨b7, ed⟩ := diag_loop (n := n) (by omega) (M := encM m) (up := (luOut n m).up) (perm := (luOut n m).perm) (List.range n) (luOut n m).low a5 a6 a7 a8 (fun c hc => List.mem_range.mp hc) hl
  apply evF_ret rfl
  refine st_asg (ev_blt (ev_var rfl) le) ?_
  refine st_asg (ev_call (es_cons (ev_var rfl) es_nil) c) ?_
  refine st_bnew z (mk2 _) ?_
  refine st_bnew (ev_lrange (r1 _ rfl)) (sl := .b1 (permD (List.range n))) rfl ?_
  refine st_for (r1 _ rfl) er ?_
  refine st_for (r1 _ rfl) ed ?_
  refine st_frz ?_
  exact st_ret (ev_tup (es_cons (ev_var rfl) (es_cons (ev_var rfl) (es_cons (ev_var rfl) es_nil))))
end Mine
end
section
set_option maxRecDepth 100000
namespace Mine
open PySem

theorem strI_len_le (i : Int) : (strI i).length ≤ (strI (i.natAbs : Int)).length + 1 := by
  cases i with
  | ofNat n => exact Nat.le_succ _
  | negSucc n =>
    have e : (strI (Int.negSucc n)).length = (Nat.toDigits 10 (n + 1)).length + 1 := by
      unfold strI
      rw [Str.ofString_eq_toList]
      show ((toString (Int.negSucc n)).toList.map Char.toNat).toArray.size = _
      have : toString (Int.negSucc n) = "-" ++ (n + 1).repr := rfl
      rw [this, String.toList_append, Nat.toList_repr]
      simp
    rw [e, show (Int.negSucc n).natAbs = n + 1 from rfl, strI_len]
    exact Nat.le_refl _
theorem strI_small {i : Int} {k : Nat} (hk : 0 < k) (h : i.natAbs < 2 ^ k) : (strI i).length ≤ k + 1 := by
  have h1 := strI_len_le i
  have h2 := len_le (n := i.natAbs) hk (Nat.lt_of_lt_of_le h (Nat.pow_le_pow_left (by decide) _))
  omega

noncomputable def txt (a : Rat) : Str := if a.den = 1 then strI a.num else strI a.num ++ ("/" : Str) ++ strI (a.den : Int)
theorem app_len (a b : Str) : (a ++ b).length = a.length + b.length := by
  show (a.cps ++ b.cps).size = _
  rw [Array.size_append]; rfl
theorem cat_ok {a b : Str} (h : a.length + b.length ≤ 1000) : binD .add (.str a) (.str b) = some (.str (a ++ b), 0) := by
  exact if_pos (Nat.le_trans h (by unfold lenLim; decide))

theorem ftext_ok {K : Nat} (hK : 8 < K) {a : Rat} (ha : Bd 100 a) : tower fs7 100 K 8 [fq a] = some (.ret (.str (txt a)) 0) := by
  rw [tower_at (f := f7_8) rfl hK]
  have s1 := str_int (a := a.num) (p_lim (by decide) ha.1)
  have s2 := str_int (a := (a.den : Int)) (by rw [Int.natAbs_natCast]; exact p_lim (by decide) ha.2)
  have l1 := strI_small (i := a.num) (k := 100) (by decide) ha.1
  have l2 := strI_small (i := (a.den : Int)) (k := 100) (by decide) (by rw [Int.natAbs_natCast]; exact ha.2)
  have ls : (("/" : Str)).length = 1 := by decide
  apply evF_ret rfl
  by_cases h : a.den = 1
  · rw [txt, if_pos h]
    exact st_trueX (ev_cmp (ev_idx (ev_var rfl) ev_lit (idx1 a)) ev_lit ((cmp_eq_int _ _).trans (congrArg some (decide_eq_true (by omega))))) (st_ret (ev_blt (ev_idx (ev_var rfl) ev_lit (idx0 a)) s1)) (fun z => by cases z)
  · rw [txt, if_neg h]
    refine st_else (ev_cmp (ev_idx (ev_var rfl) ev_lit (idx1 a)) ev_lit ((cmp_eq_int _ _).trans (congrArg some (decide_eq_false (by omega))))) ?_
    exact st_ret (ev_bin (ev_bin (ev_blt (ev_idx (ev_var rfl) ev_lit (idx0 a)) s1) ev_lit (cat_ok (by omega))) (ev_blt (ev_idx (ev_var rfl) ev_lit (idx1 a)) s2) (cat_ok (by rw [app_len]; omega)))

/-! the law's own divisor -/
noncomputable def divF (n d : Int) : Int → List Int → Int
  | best, [] => best
  | best, g :: gs => divF n d (if n.fmod g = 0 ∧ d.fmod g = 0 then g else best) gs
noncomputable def dvBody : PSs := (.cons (.ite (.and (.cmp .eq (.bin .mod (.var 0) (.var 3)) (.lit (.int 0))) (.and (.cmp .eq (.bin .mod (.var 1) (.var 3)) (.lit (.int 0))) .tt)) (.cons (.asg 2 (.var 3)) .nil) .nil) .nil)
theorem and_ok {Φ : Funs} {γ : Env'} {a b : PT} {x y : Bool} (h : evT Φ γ a = some x) (h2 : x = true → evT Φ γ b = some y) (h3 : x = false → y = false) : evT Φ γ (.and a b) = some y := by
  refine bnd h ?_
  cases x with
  | true => exact h2 rfl
  | false => rw [h3 rfl]; rfl
theorem ev_tt {Φ : Funs} {γ : Env'} : evT Φ γ .tt = some true := rfl
theorem div_loop {Φ : Funs} {fu : Nat} {tp : Bool} {n d : Int} : ∀ (gs : List Int) (best : Int) (sl : Slot), (∀ g ∈ gs, g ≠ 0 ∧ g.natAbs < 100) →
    ∃ sl', forL (fun g => evSs Φ fu tp g dvBody) [3] (gs.map PyData.int) [.pl (.int n), .pl (.int d), .pl (.int best), sl] = some (.next, [.pl (.int n), .pl (.int d), .pl (.int (divF n d best gs)), sl'])
  | [], best, sl, _ => ⟨sl, rfl⟩
  | g :: gs, best, sl, hg => by
    obtain ⟨g0, gb⟩ := hg g (.head _)
    have gl : g.natAbs < lim := lim_gt (Nat.lt_trans gb (by decide))
    have m1 := mod_int (a := n) g0 gl
    have m2 := mod_int (a := d) g0 gl
    have t : evT Φ [.pl (.int n), .pl (.int d), .pl (.int best), .pl (.int g)] (.and (.cmp .eq (.bin .mod (.var 0) (.var 3)) (.lit (.int 0))) (.and (.cmp .eq (.bin .mod (.var 1) (.var 3)) (.lit (.int 0))) .tt)) = some (decide (n.fmod g = 0 ∧ d.fmod g = 0)) := by
      refine and_ok (ev_cmp (ev_bin (ev_var rfl) (ev_var rfl) m1) ev_lit (cmp_eq_int _ _)) (fun hx => ?_) (fun hx => ?_)
      · refine and_ok (ev_cmp (ev_bin (ev_var rfl) (ev_var rfl) m2) ev_lit (cmp_eq_int _ _)) (fun hy => ?_) (fun hy => ?_)
        · rw [ev_tt, decide_eq_true ⟨of_decide_eq_true hx, of_decide_eq_true hy⟩]
        · exact decide_eq_false fun z => of_decide_eq_false hy z.2
      · exact decide_eq_false fun z => of_decide_eq_false hx z.1
    obtain ⟨sl', e⟩ := div_loop (Φ := Φ) (fu := fu) (tp := tp) (n := n) (d := d) gs (if n.fmod g = 0 ∧ d.fmod g = 0 then g else best) (.pl (.int g)) (fun x hx => hg x (.tail _ hx))
    refine ⟨sl', ?_⟩
    rw [List.map_cons, divF]
    by_cases hh : n.fmod g = 0 ∧ d.fmod g = 0
    · rw [if_pos hh] at e ⊢
      rw [decide_eq_true hh] at t
      exact fl_cons (st_true t (st_asg (ev_var rfl) st_nil) st_nil) e
    · rw [if_neg hh] at e ⊢
      rw [decide_eq_false hh] at t
      exact fl_cons (st_else t st_nil) e

noncomputable def GD (d : Int) : Prop := d = 1 ∨ d = 2 ∨ d = 3 ∨ d = 4 ∨ d = 5 ∨ d = 6 ∨ d = 12 ∨ d = -1 ∨ d = -2 ∨ d = -5 ∨ d = -6
theorem divF_gcd {n d : Int} (h : GD d) : divF n d 1 [2, 3, 4, 5, 6, 12] = (Int.gcd n d : Nat) := by
  have key : ∀ (b : Nat), 0 < b → (d.natAbs = b) → (∀ r : Nat, r < b → ∀ x : Int, x = r → divF x d 1 [2, 3, 4, 5, 6, 12] = (Int.gcd x d : Nat)) → (∀ g ∈ [(2 : Int), 3, 4, 5, 6, 12], d.fmod g = 0 → (b : Int) % g = 0) → divF n d 1 [2, 3, 4, 5, 6, 12] = (Int.gcd n d : Nat) := by
    intro b hb hd hr hg
    have e1 : Int.gcd n d = Int.gcd (n % b) d := by
      have : (d : Int) = b ∨ d = -(b : Int) := by omega
      have q : Int.gcd n b = Int.gcd (n % b) b := by
        have := Int.gcd_add_mul_left_left (b : Int) (n % b) (n / b)
        rw [Int.emod_add_mul_ediv] at this
        exact this
      rcases this with e | e
      · rw [e]; exact q
      · rw [e, Int.gcd_neg, Int.gcd_neg]; exact q
    have e2 : ∀ (gs : List Int) (best : Int), (∀ g ∈ gs, 0 < g ∧ (d.fmod g = 0 → (b : Int) % g = 0)) → divF n d best gs = divF (n % b) d best gs := by
      intro gs
      induction gs with
      | nil => intro best _; rfl
      | cons g gs ih =>
        intro best hgs
        obtain ⟨g0, g1⟩ := hgs g (.head _)
        rw [divF, divF]
        have : (n.fmod g = 0 ∧ d.fmod g = 0) ↔ ((n % b).fmod g = 0 ∧ d.fmod g = 0) := by
          refine and_congr_left fun hh => ?_
          have hdv : g ∣ (b : Int) := Int.dvd_of_emod_eq_zero (g1 hh)
          rw [Int.fmod_eq_emod_of_nonneg _ (Int.le_of_lt g0), Int.fmod_eq_emod_of_nonneg _ (Int.le_of_lt g0), Int.emod_emod_of_dvd _ hdv]
        simp only [this]
        exact ih _ fun x hx => hgs x (.tail _ hx)
    rw [e1, e2 _ _ fun g hg' => ⟨by simp at hg'; omega, hg g hg'⟩]
    have hlt := Int.emod_lt_of_pos n (show (0 : Int) < b by omega)
    have hge := Int.emod_nonneg n (show (b : Int) ≠ 0 by omega)
    exact hr (n % b).toNat (by omega) (n % b) (by omega)
  rcases h with rfl | rfl | rfl | rfl | rfl | rfl | rfl | rfl | rfl | rfl | rfl
  · exact key 1 (by decide) rfl (fun r hr x hx => by subst hx; revert r; decide) (by decide)
  · exact key 2 (by decide) rfl (fun r hr x hx => by subst hx; revert r; decide) (by decide)
  · exact key 3 (by decide) rfl (fun r hr x hx => by subst hx; revert r; decide) (by decide)
  · exact key 4 (by decide) rfl (fun r hr x hx => by subst hx; revert r; decide) (by decide)
  · exact key 5 (by decide) rfl (fun r hr x hx => by subst hx; revert r; decide) (by decide)
  · exact key 6 (by decide) rfl (fun r hr x hx => by subst hx; revert r; decide) (by decide)
  · exact key 12 (by decide) rfl (fun r hr x hx => by subst hx; revert r; decide) (by decide)
  · exact key 1 (by decide) rfl (fun r hr x hx => by subst hx; revert r; decide) (by decide)
  · exact key 2 (by decide) rfl (fun r hr x hx => by subst hx; revert r; decide) (by decide)
  · exact key 5 (by decide) rfl (fun r hr x hx => by subst hx; revert r; decide) (by decide)
  · exact key 6 (by decide) rfl (fun r hr x hx => by subst hx; revert r; decide) (by decide)
end Mine
end
section
set_option maxRecDepth 100000
namespace Mine
open PySem

theorem divisor_ok {K : Nat} (hK : 14 < K) {n d : Int} (h : GD d ∨ d = 0) : tower fs7 100 K 14 [.int n, .int d] = some (.ret (.int (Int.gcd n d : Nat)) 0) := by
  rw [tower_at (f := f7_14) rfl hK]
  rcases h with h | rfl
  · have h0 : d ≠ 0 := by unfold GD at h; omega
    obtain ⟨sl', e⟩ := div_loop (Φ := tower fs7 100 14) (fu := 100) (tp := false) (n := n) (d := d) [2, 3, 4, 5, 6, 12] 1 .un (by decide)
    rw [divF_gcd h] at e
    apply evF_ret rfl
    refine st_else (ev_cmp (ev_var rfl) ev_lit ((cmp_eq_int _ _).trans (congrArg some (decide_eq_false h0)))) ?_
    refine st_asg ev_lit ?_
    refine st_for (ev_of (ev_tup (es_cons ev_lit (es_cons ev_lit (es_cons ev_lit (es_cons ev_lit (es_cons ev_lit (es_cons ev_lit es_nil))))))) rfl (by unfold lenLim; decide)) e ?_
    exact st_ret (ev_var rfl)
  · rw [Int.gcd_zero]
    apply evF_ret rfl
    have t : evT (tower fs7 100 14) [.pl (.int n), .pl (.int 0), .un, .un] (.cmp .eq (.var 1) (.lit (.int 0))) = some true := ev_cmp (ev_var rfl) ev_lit rfl
    exact st_trueX t (st_ret (ev_blt (ev_var rfl) rfl)) (fun z => by cases z)

theorem low_ok {K : Nat} (hK : 15 < K) {n d : Int} (h : GD d) : tower fs7 100 K 15 [.int n, .int d] = some (.ret (fq (Rat.divInt n d)) 0) := by
  rw [tower_at (f := f7_15) rfl hK]
  have h0 : d ≠ 0 := by unfold GD at h; omega
  have hd : d.natAbs < 100 := by unfold GD at h; omega
  rw [fq_divInt h0]
  have h1 : 0 < Int.gcd n d := Int.gcd_pos_of_ne_zero_right _ h0
  have h2 : Int.gcd n d ≤ d.natAbs := Int.gcd_le_natAbs_right _ h0
  have gl : ((Int.gcd n d : Nat) : Int).natAbs < lim := by rw [Int.natAbs_natCast]; exact lim_gt (Nat.lt_of_le_of_lt h2 (Nat.lt_trans hd (by decide)))
  have dv := divisor_ok (K := 15) (by decide) (n := n) (.inl h)
  by_cases hn : d < 0
  · simp only [hn, if_true, Int.gcd_neg, Int.neg_gcd]
    apply evF_ret rfl
    refine st_asg (ev_call (es_cons (ev_var rfl) (es_cons (ev_var rfl) es_nil)) dv) ?_
    refine st_true (ev_cmp (ev_var rfl) ev_lit (r := true) (congrArg some (decide_eq_true hn))) (st_asg (ev_neg (ev_var rfl)) st_nil) ?_
    have e1 : ∀ a : Int, (-a).fdiv ((Int.gcd n d : Nat) : Int) = a.fdiv (-((Int.gcd n d : Nat) : Int)) := fun a => by rw [← Int.neg_fdiv_neg, Int.neg_neg]
    rw [e1, e1]
    have gl' : (-((Int.gcd n d : Nat) : Int)).natAbs < lim := by rw [Int.natAbs_neg]; exact gl
    exact st_ret (ev_tup (es_cons (ev_bin (ev_var rfl) (ev_var rfl) (fdiv_int (by omega) gl')) (es_cons (ev_bin (ev_var rfl) (ev_var rfl) (fdiv_int (by omega) gl')) es_nil)))
  · simp only [hn, if_false]
    apply evF_ret rfl
    refine st_asg (ev_call (es_cons (ev_var rfl) (es_cons (ev_var rfl) es_nil)) dv) ?_
    refine st_else (ev_cmp (ev_var rfl) ev_lit (r := false) (congrArg some (decide_eq_false hn))) ?_
    have g0 : ((Int.gcd n d : Nat) : Int) ≠ 0 := by omega
    refine st_ret (ev_tup (es_cons (ev_bin (ev_var rfl) (ev_var rfl) (fdiv_int g0 gl)) (es_cons (ev_bin (ev_var rfl) (ev_var rfl) (fdiv_int g0 gl)) es_nil)))

theorem den_one {v d : Int} (hd : 0 < d) : (v.fmod d = 0 → (Rat.divInt v d).den = 1 ∧ (Rat.divInt v d).num = v.fdiv d) ∧ (v.fmod d ≠ 0 → (Rat.divInt v d).den ≠ 1) := by
  have hg := Int.gcd_pos_of_ne_zero_left v (show d ≠ 0 by omega)
  rw [Int.fmod_eq_emod_of_nonneg _ (by omega), Int.fdiv_eq_ediv_of_nonneg _ (by omega), Rat.den_divInt, if_neg (by omega), Rat.num_divInt, Int.sign_eq_one_of_pos hd, Int.one_mul]
  constructor
  · intro h
    have hdv : d ∣ v := Int.dvd_of_emod_eq_zero h
    have e : Int.gcd d v = d.natAbs := Int.gcd_eq_natAbs_left hdv
    rw [e]
    exact ⟨Nat.div_self (by omega), by rw [Int.natAbs_of_nonneg (by omega)]⟩
  · intro h hq
    apply h
    have e : d.natAbs = Int.gcd d v := by
      have h1 := Nat.div_mul_cancel (Int.gcd_dvd_natAbs_left d v)
      rw [hq, Nat.one_mul] at h1
      exact h1.symm
    have : d ∣ v := Int.gcd_eq_natAbs_left_iff_dvd.mp e.symm
    exact Int.emod_eq_zero_of_dvd this

noncomputable def qv (d v : Int) : Rat := Rat.divInt v d
noncomputable def wrow (d : Int) (r : List Int) : List Rat := r.map (qv d)
noncomputable def trow (d : Int) (r : List Int) : List PyData := r.map fun v => .str (txt (qv d v))
noncomputable def vBody : PSs := (.cons (.asg 8 (.call 15 (.cons (.var 7) (.cons (.var 1) .nil))))
  (.cons (.app 5 (.var 8))
  (.cons (.ite (.cmp .eq (.bin .mod (.var 7) (.var 1)) (.lit (.int 0))) (.cons (.app 6 (.blt .str (.bin .fdiv (.var 7) (.var 1))))
  .nil) (.cons (.app 6 (.bin .add (.bin .add (.blt .str (.idx (.var 8) (.lit (.int 0)))) (.lit (.str ("/" : Str)))) (.blt .str (.idx (.var 8) (.lit (.int 1))))))
  .nil))
  .nil)))

theorem v_loop {d : Int} (hd : GD d) (hp : 0 < d) {N P T R : Slot} : ∀ (vs : List Int) (ln ws : List PyData) (s7 s8 : Slot), (∀ v ∈ vs, v.natAbs < 2 ^ 90) → ln.length + vs.length ≤ 1000 → ws.length + vs.length ≤ 1000 →
    ∃ s7' s8', forL (fun g => evSs (tower fs7 100 16) 100 false g vBody) [7] (vs.map PyData.int) [N, .pl (.int d), P, T, R, .b1 ln, .b1 ws, s7, s8] =
      some (.next, [N, .pl (.int d), P, T, R, .b1 (ln ++ (wrow d vs).map fq), .b1 (ws ++ trow d vs), s7', s8'])
  | [], ln, ws, s7, s8, _, _, _ => ⟨s7, s8, by simp [wrow, trow, forL]⟩
  | v :: vs, ln, ws, s7, s8, hv, h1, h2 => by
    have hll : (1000 : Nat) ≤ lenLim := by unfold lenLim; decide
    have hdb : d.natAbs < 100 := by unfold GD at hd; omega
    have d0 : d ≠ 0 := by omega
    have dl : d.natAbs < lim := lim_gt (Nat.lt_trans hdb (by decide))
    have hvb := hv v (.head _)
    have lo := low_ok (K := 16) (by decide) (n := v) hd
    have bq : Bd 90 (qv d v) := Bd.divInt d0 hvb (Nat.lt_trans hdb (by decide))
    simp only [List.length_cons] at h1 h2
    obtain ⟨s7', s8', e⟩ := v_loop hd hp (N := N) (P := P) (T := T) (R := R) vs (ln ++ [fq (qv d v)]) (ws ++ [.str (txt (qv d v))]) (.pl (.int v)) (.pl (fq (qv d v))) (fun x hx => hv x (.tail _ hx)) (by simp; omega) (by simp; omega)
    rw [List.append_assoc, List.append_assoc] at e
    refine ⟨s7', s8', ?_⟩
    rw [List.map_cons]
    refine fl_cons ?_ e
    refine st_asg (ev_call (es_cons (ev_var rfl) (es_cons (ev_var rfl) es_nil)) lo) ?_
    refine st_app (ev_var rfl) (app_b1 rfl (by omega)) ?_
    have s1 := str_int (a := (qv d v).num) (p_lim (by decide) bq.1)
    have s2 := str_int (a := ((qv d v).den : Int)) (by rw [Int.natAbs_natCast]; exact p_lim (by decide) bq.2)
    have l1 := strI_small (i := (qv d v).num) (k := 90) (by decide) bq.1
    have l2 := strI_small (i := ((qv d v).den : Int)) (k := 90) (by decide) (by rw [Int.natAbs_natCast]; exact bq.2)
    have ls : (("/" : Str)).length = 1 := by decide
    by_cases hm : v.fmod d = 0
    · obtain ⟨q1, q2⟩ := (den_one (v := v) hp).1 hm
      have et : txt (qv d v) = strI (v.fdiv d) := by unfold txt; rw [if_pos (show (qv d v).den = 1 from q1)]; exact congrArg strI q2
      rw [et]
      refine st_true (ev_cmp (ev_bin (ev_var rfl) (ev_var rfl) (mod_int d0 dl)) ev_lit ((cmp_eq_int _ _).trans (congrArg some (decide_eq_true hm)))) ?_ st_nil
      refine st_app (ev_blt (ev_bin (ev_var rfl) (ev_var rfl) (fdiv_int d0 dl)) (str_int ?_)) (app_b1 rfl (by omega)) st_nil
      rw [← q2]; exact p_lim (by decide) bq.1
    · have q1 := (den_one (v := v) hp).2 hm
      have et : txt (qv d v) = strI (qv d v).num ++ ("/" : Str) ++ strI ((qv d v).den : Int) := by unfold txt; rw [if_neg (show ¬ (qv d v).den = 1 from q1)]
      rw [et]
      refine st_false (ev_cmp (ev_bin (ev_var rfl) (ev_var rfl) (mod_int d0 dl)) ev_lit ((cmp_eq_int _ _).trans (congrArg some (decide_eq_false hm)))) ?_ st_nil
      exact st_app (ev_bin (ev_bin (ev_blt (ev_idx (ev_var rfl) ev_lit (idx0 _)) s1) ev_lit (cat_ok (by omega))) (ev_blt (ev_idx (ev_var rfl) ev_lit (idx1 _)) s2) (cat_ok (by rw [app_len]; omega))) (app_b1 rfl (by omega)) st_nil
end Mine
end
section
set_option maxRecDepth 100000
namespace Mine
open PySem

noncomputable def intM (m : List (List Int)) : PyData := rowsL (m.map (·.map PyData.int))
noncomputable def wBody : PSs := (.cons (.bnew 5 (.lst .nil))
  (.cons (.bnew 6 (.lst .nil))
  (.cons (.for_ [7] (.of (.var 4)) vBody)
  (.cons (.frz [5])
  (.cons (.app 2 (.var 5))
  (.cons (.frz [6])
  (.cons (.app 3 (.var 6))
  .nil)))))))
theorem w_loop {d : Int} (hd : GD d) (hp : 0 < d) {N : Slot} : ∀ (rows : List (List Int)) (ps ts : List PyData) (s4 s5 s6 s7 s8 : Slot), (∀ r ∈ rows, r.length ≤ 900 ∧ ∀ v ∈ r, v.natAbs < 2 ^ 90) → ps.length + rows.length ≤ 1000 → ts.length + rows.length ≤ 1000 →
    ∃ s4' s5' s6' s7' s8', forL (fun g => evSs (tower fs7 100 16) 100 false g wBody) [4] (rows.map fun r => .list (r.map PyData.int)) [N, .pl (.int d), .b1 ps, .b1 ts, s4, s5, s6, s7, s8] =
      some (.next, [N, .pl (.int d), .b1 (ps ++ rows.map fun r => .list ((wrow d r).map fq)), .b1 (ts ++ rows.map fun r => .list (trow d r)), s4', s5', s6', s7', s8'])
  | [], ps, ts, s4, s5, s6, s7, s8, _, _, _ => ⟨s4, s5, s6, s7, s8, by simp [forL]⟩
  | r :: rows, ps, ts, s4, s5, s6, s7, s8, hr, h1, h2 => by
    have hll : (1000 : Nat) ≤ lenLim := by unfold lenLim; decide
    obtain ⟨r1, r2⟩ := hr r (.head _)
    simp only [List.length_cons] at h1 h2
    obtain ⟨a7, a8, e⟩ := v_loop hd hp (N := N) (P := .b1 ps) (T := .b1 ts) (R := .pl (.list (r.map PyData.int))) r [] [] s7 s8 r2 (by simp; omega) (by simp; omega)
    obtain ⟨b4, b5, b6, b7, b8, er⟩ := w_loop hd hp (N := N) rows (ps ++ [.list ((wrow d r).map fq)]) (ts ++ [.list (trow d r)]) (.pl (.list (r.map PyData.int))) (.pl (.list ((wrow d r).map fq))) (.pl (.list (trow d r))) a7 a8 (fun x hx => hr x (.tail _ hx)) (by simp; omega) (by simp; omega)
    rw [List.append_assoc, List.append_assoc] at er
    refine ⟨b4, b5, b6, b7, b8, ?_⟩
    rw [List.map_cons]
    refine fl_cons ?_ er
    refine st_bnew (ev_lst es_nil) rfl ?_
    refine st_bnew (ev_lst es_nil) rfl ?_
    refine st_for (ev_of (ev_var rfl) rfl (by simp; omega)) e ?_
    refine st_frz ?_
    refine st_app (ev_var rfl) (app_b1 rfl (by omega)) ?_
    refine st_frz ?_
    exact st_app (ev_var rfl) (app_b1 rfl (by omega)) st_nil

noncomputable def wrM (d : Int) (m : List (List Int)) : List (List Rat) := m.map (wrow d)
noncomputable def txM (d : Int) (m : List (List Int)) : PyData := rowsL (m.map (trow d))
theorem written_ok {K : Nat} (hK : 16 < K) {d : Int} (hd : GD d) (hp : 0 < d) {m : List (List Int)} (hl : m.length ≤ 900) (hr : ∀ r ∈ m, r.length ≤ 900 ∧ ∀ v ∈ r, v.natAbs < 2 ^ 90) :
    tower fs7 100 K 16 [intM m, .int d] = some (.ret (.tuple [encM (wrM d m), txM d m]) 0) := by
  rw [tower_at (f := f7_16) rfl hK]
  have hll : (1000 : Nat) ≤ lenLim := by unfold lenLim; decide
  obtain ⟨b4, b5, b6, b7, b8, er⟩ := w_loop hd hp (N := .pl (intM m)) m [] [] .un .un .un .un .un hr (by simp; omega) (by simp; omega)
  have e1 : intM m = .list (m.map fun r => .list (r.map PyData.int)) := by unfold intM rowsL; rw [List.map_map]; rfl
  have e2 : encM (wrM d m) = .list (m.map fun r => .list ((wrow d r).map fq)) := by unfold encM rowsL wrM; rw [List.map_map, List.map_map]; rfl
  have e3 : txM d m = .list (m.map fun r => .list (trow d r)) := by unfold txM rowsL; rw [List.map_map]; rfl
  rw [e2, e3]
  apply evF_ret rfl
  refine st_bnew (ev_lst es_nil) rfl ?_
  refine st_bnew (ev_lst es_nil) rfl ?_
  refine st_for (ev_of (ev_var rfl) (by rw [e1]; rfl) (by simp; omega)) er ?_
  refine st_frz ?_
  exact st_ret (ev_tup (es_cons (ev_var rfl) (es_cons (ev_var rfl) es_nil)))

/-! exchange -/
noncomputable def exch {α : Type} (xs : List α) (c s : Nat) (d : α) : List α := (List.range xs.length).map fun i => xs.getD (if i = c then s else if i = s then c else i) d
noncomputable def xBody : PSs := (.cons (.ite (.cmp .eq (.var 4) (.var 1)) (.cons (.app 3 (.idx (.var 0) (.var 2)))
  .nil) (.cons (.ite (.cmp .eq (.var 4) (.var 2)) (.cons (.app 3 (.idx (.var 0) (.var 1)))
  .nil) (.cons (.app 3 (.idx (.var 0) (.var 4)))
  .nil))
  .nil))
  .nil)
theorem x_loop {xs : List PyData} {c s : Nat} (hl : xs.length < 900) (hc : c < xs.length) (hs : s < xs.length) : ∀ (is : List Nat) (out : List PyData) (sl : Slot), (∀ i ∈ is, i < xs.length) → out.length + is.length ≤ 1000 →
    ∃ sl', forL (fun g => evSs (tower fs7 100 18) 100 false g xBody) [4] (is.map fun (k : Nat) => PyData.int (k : Int)) [.pl (.list xs), .pl (.int (c : Int)), .pl (.int (s : Int)), .b1 out, sl] =
      some (.next, [.pl (.list xs), .pl (.int (c : Int)), .pl (.int (s : Int)), .b1 (out ++ is.map fun i => xs.getD (if i = c then s else if i = s then c else i) .none), sl'])
  | [], out, sl, _, _ => ⟨sl, by simp [forL]⟩
  | i :: is, out, sl, hi, ho => by
    have hll : (1000 : Nat) ≤ lenLim := by unfold lenLim; decide
    have hin := hi i (.head _)
    have ix : ∀ k : Nat, k < xs.length → idxD (.list xs) (.int (k : Int)) = some (xs.getD k .none, 0) := fun k hk => by
      rw [getD_of (List.getElem?_eq_getElem hk)]; exact idx_ok (by omega) (List.getElem?_eq_getElem hk)
    simp only [List.length_cons] at ho
    obtain ⟨sl', e⟩ := x_loop hl hc hs is (out ++ [xs.getD (if i = c then s else if i = s then c else i) .none]) (.pl (.int (i : Int))) (fun x hx => hi x (.tail _ hx)) (by simp; omega)
    rw [List.append_assoc] at e
    refine ⟨sl', ?_⟩
    rw [List.map_cons]
    refine fl_cons ?_ e
    by_cases h1 : i = c
    · rw [if_pos h1]
      refine st_true (ev_cmp (ev_var rfl) (ev_var rfl) ((cmp_eq_int _ _).trans (congrArg some (decide_eq_true (show (i : Int) = c by omega))))) ?_ st_nil
      exact st_app (ev_idx (ev_var rfl) (ev_var rfl) (ix s hs)) (app_b1 rfl (by omega)) st_nil
    · rw [if_neg h1]
      refine st_false (ev_cmp (ev_var rfl) (ev_var rfl) ((cmp_eq_int _ _).trans (congrArg some (decide_eq_false (show ¬ (i : Int) = c by omega))))) ?_ st_nil
      by_cases h2 : i = s
      · rw [if_pos h2]
        refine st_true (ev_cmp (ev_var rfl) (ev_var rfl) ((cmp_eq_int _ _).trans (congrArg some (decide_eq_true (show (i : Int) = s by omega))))) ?_ st_nil
        exact st_app (ev_idx (ev_var rfl) (ev_var rfl) (ix c hc)) (app_b1 rfl (by omega)) st_nil
      · rw [if_neg h2]
        refine st_false (ev_cmp (ev_var rfl) (ev_var rfl) ((cmp_eq_int _ _).trans (congrArg some (decide_eq_false (show ¬ (i : Int) = s by omega))))) ?_ st_nil
        exact st_app (ev_idx (ev_var rfl) (ev_var rfl) (ix i hin)) (app_b1 rfl (by omega)) st_nil
theorem exch_ok {K : Nat} (hK : 18 < K) {xs : List PyData} {c s : Nat} (hl : xs.length < 900) (hc : c < xs.length) (hs : s < xs.length) :
    tower fs7 100 K 18 [.list xs, .int (c : Int), .int (s : Int)] = some (.ret (.list (exch xs c s .none)) 1) := by
  rw [tower_at (f := f7_18) rfl hK]
  have hll : (1000 : Nat) ≤ lenLim := by unfold lenLim; decide
  obtain ⟨sl', e⟩ := x_loop hl hc hs (List.range xs.length) [] .un (fun i hi => List.mem_range.mp hi) (by simp; omega)
  have r1 := ev_r1 (Φ := tower fs7 100 18) (γ := [.pl (.list xs), .pl (.int (c : Int)), .pl (.int (s : Int)), .b1 [], .un]) (ev_blt (ev_var (i := 0) rfl) (len_ok (by omega))) (okR_small (by decide) (by omega))
  rw [range_map] at r1
  apply evF_ret rfl
  refine st_bnew (ev_lst es_nil) rfl ?_
  refine st_for r1 e ?_
  exact st_retv rfl
end Mine
end
section
set_option maxRecDepth 100000
namespace Mine
open PySem

noncomputable def iat (u : List (List Int)) (i j : Nat) : Int := (u.getD i []).getD j 0
structure SqI (n : Nat) (m : List (List Int)) : Prop where
  len : m.length = n
  row : ∀ r ∈ m, r.length = n
theorem SqI.at {n : Nat} {m : List (List Int)} (h : SqI n m) (hn : n < 900) {i j : Nat} (hi : i < n) (hj : j < n) : ∃ r, idxD (intM m) (.int (i : Int)) = some (r, 0) ∧ idxD r (.int (j : Int)) = some (.int (iat m i j), 0) := by
  have hl : i < m.length := by rw [h.len]; exact hi
  have hll : (1000 : Nat) ≤ lenLim := by unfold lenLim; decide
  have hr := h.row _ (List.getElem_mem hl)
  refine ⟨.list (m[i].map PyData.int), idx_ok (by omega) (by rw [List.getElem?_map, List.getElem?_map, List.getElem?_eq_getElem hl]; rfl), ?_⟩
  have : iat m i j = m[i][j] := by
    unfold iat
    rw [getD_of (List.getElem?_eq_getElem hl), getD_of (List.getElem?_eq_getElem (show j < m[i].length by omega))]
  rw [this]
  exact idx_ok (by omega) (by rw [List.getElem?_map, List.getElem?_eq_getElem (show j < m[i].length by omega)]; rfl)
theorem idx_int {xs : List Int} {k : Nat} (hk : k < xs.length) (hl : xs.length < 900) : idxD (.list (xs.map PyData.int)) (.int (k : Int)) = some (.int (xs.getD k 0), 0) := by
  have hll : (1000 : Nat) ≤ lenLim := by unfold lenLim; decide
  rw [getD_of (List.getElem?_eq_getElem hk)]
  exact idx_ok (by omega) (by rw [List.getElem?_map, List.getElem?_eq_getElem hk]; rfl)

theorem exch_map {α β : Type} (f : α → β) {xs : List α} {c s : Nat} (d : α) (d' : β) (hc : c < xs.length) (hs : s < xs.length) : exch (xs.map f) c s d' = (exch xs c s d).map f := by
  unfold exch
  rw [List.length_map, List.map_map]
  apply List.map_congr_left
  intro i hi
  have hi := List.mem_range.mp hi
  have key : ∀ k, k < xs.length → (xs.map f).getD k d' = f (xs.getD k d) := fun k hk => by
    rw [getD_of (List.getElem?_eq_getElem hk), getD_of (x := f xs[k]) (by rw [List.getElem?_map, List.getElem?_eq_getElem hk]; rfl)]
  simp only [Function.comp]
  apply key
  split
  · exact hs
  · split
    · exact hc
    · exact hi
theorem exch_len {α : Type} (xs : List α) (c s : Nat) (d : α) : (exch xs c s d).length = xs.length := by simp [exch]

noncomputable def kOf (p : Int) (ks : List Int) (c s i : Nat) : Int := if s < i ∧ p ≠ 0 then (ks.getD (c + i - 1) 0).fmod 7 - 3 else if i = c then 2 else 0
noncomputable def gBody2 : PSs := (.cons (.asg 11 (.lit (.int 0)))
  (.cons (.ite (.cmp .eq (.var 10) (.var 7)) (.cons (.asg 11 (.lit (.int 2)))
  .nil) .nil)
  (.cons (.ite (.and (.cmp .gt (.var 10) (.var 8)) (.and (.cmp .ne (.idx (.idx (.var 1) (.var 7)) (.var 7)) (.lit (.int 0))) .tt)) (.cons (.asg 11 (.bin .sub (.bin .mod (.idx (.var 3) (.bin .sub (.bin .add (.var 7) (.var 10)) (.lit (.int 1)))) (.lit (.int 7))) (.lit (.int 3))))
  .nil) .nil)
  (.cons (.app 9 (.bin .add (.idx (.var 5) (.var 10)) (.lst (.cons (.var 11) .nil))))
  .nil))))
theorem rows_idx {m : List (List Int)} {i : Nat} (h : i < m.length) (hl : m.length < 900) : idxD (intM m) (.int (i : Int)) = some (.list ((m.getD i []).map PyData.int), 0) := by
  have hll : (1000 : Nat) ≤ lenLim := by unfold lenLim; decide
  rw [getD_of (List.getElem?_eq_getElem h)]
  exact idx_ok (by omega) (by rw [List.getElem?_map, List.getElem?_map, List.getElem?_eq_getElem h]; rfl)

theorem g_loop {n c s : Nat} (hn : n ≤ 3) (hc : c < n) (hs : c ≤ s) {u halves : List (List Int)} {ks : List Int} (hu : SqI n u) (hk : ks.length = 3) (hh : halves.length = n) (hw : ∀ r ∈ halves, r.length ≤ 800) {T O S : Slot} : ∀ (is : List Nat) (g : List PyData) (s10 s11 : Slot), (∀ i ∈ is, i < n) → g.length + is.length ≤ 1000 →
    ∃ s10' s11', forL (fun g => evSs (tower fs7 100 19) 100 false g gBody2) [10] (is.map fun (k : Nat) => PyData.int (k : Int)) [.pl (.int (n : Int)), .pl (intM u), T, .pl (.list (ks.map PyData.int)), O, .pl (intM halves), S, .pl (.int (c : Int)), .pl (.int (s : Int)), .b1 g, s10, s11] =
      some (.next, [.pl (.int (n : Int)), .pl (intM u), T, .pl (.list (ks.map PyData.int)), O, .pl (intM halves), S, .pl (.int (c : Int)), .pl (.int (s : Int)), .b1 (g ++ is.map fun i => .list ((halves.getD i [] ++ [kOf (iat u c c) ks c s i]).map PyData.int)), s10', s11'])
  | [], g, s10, s11, _, _ => ⟨s10, s11, by simp [forL]⟩
  | i :: is, g, s10, s11, hi, hg => by
    have hll : (1000 : Nat) ≤ lenLim := by unfold lenLim; decide
    have hin := hi i (.head _)
    obtain ⟨r, x1, x2⟩ := hu.at (by omega) hc hc
    have hx := rows_idx (m := halves) (i := i) (by omega) (by omega)
    have hlen : (halves.getD i []).length ≤ 800 := by
      rw [getD_of (List.getElem?_eq_getElem (show i < halves.length by omega))]
      exact hw _ (List.getElem_mem _)
    simp only [List.length_cons] at hg
    have cat : ∀ k : Int, binD .add (.list ((halves.getD i []).map PyData.int)) (.list [.int k]) = some (.list ((halves.getD i [] ++ [k]).map PyData.int), 1) := fun k => by
      refine (if_pos (by simp only [List.length_map, List.length_cons, List.length_nil]; omega)).trans ?_
      rw [List.map_append]; rfl
    obtain ⟨a10, a11, e⟩ := g_loop hn hc hs hu hk hh hw (T := T) (O := O) (S := S) is (g ++ [.list ((halves.getD i [] ++ [kOf (iat u c c) ks c s i]).map PyData.int)]) (.pl (.int (i : Int))) (.pl (.int (kOf (iat u c c) ks c s i))) (fun x hx => hi x (.tail _ hx)) (by simp; omega)
    rw [List.append_assoc] at e
    refine ⟨a10, a11, ?_⟩
    rw [List.map_cons]
    refine fl_cons ?_ e
    have k0 : ∃ k₀ : Int, k₀ = (if i = c then 2 else 0) := ⟨_, rfl⟩
    obtain ⟨k₀, hk0⟩ := k0
    have step2 : ∀ rest res, evSs (tower fs7 100 19) 100 false [.pl (.int (n : Int)), .pl (intM u), T, .pl (.list (ks.map PyData.int)), O, .pl (intM halves), S, .pl (.int (c : Int)), .pl (.int (s : Int)), .b1 g, .pl (.int (i : Int)), .pl (.int k₀)] rest = some res →
        evSs (tower fs7 100 19) 100 false [.pl (.int (n : Int)), .pl (intM u), T, .pl (.list (ks.map PyData.int)), O, .pl (intM halves), S, .pl (.int (c : Int)), .pl (.int (s : Int)), .b1 g, .pl (.int (i : Int)), .pl (.int 0)] (.cons (.ite (.cmp .eq (.var 10) (.var 7)) (.cons (.asg 11 (.lit (.int 2))) .nil) .nil) rest) = some res := by
      intro rest res hr
      by_cases h1 : i = c
      · rw [if_pos h1] at hk0
        subst hk0
        exact st_true (ev_cmp (ev_var rfl) (ev_var rfl) ((cmp_eq_int _ _).trans (congrArg some (decide_eq_true (show (i : Int) = c by omega))))) (st_asg ev_lit st_nil) hr
      · rw [if_neg h1] at hk0
        subst hk0
        exact st_else (ev_cmp (ev_var rfl) (ev_var rfl) ((cmp_eq_int _ _).trans (congrArg some (decide_eq_false (show ¬ (i : Int) = c by omega))))) hr
    refine st_asg ev_lit (step2 _ _ ?_)
    have t : evT (tower fs7 100 19) [.pl (.int (n : Int)), .pl (intM u), T, .pl (.list (ks.map PyData.int)), O, .pl (intM halves), S, .pl (.int (c : Int)), .pl (.int (s : Int)), .b1 g, .pl (.int (i : Int)), .pl (.int k₀)] (.and (.cmp .gt (.var 10) (.var 8)) (.and (.cmp .ne (.idx (.idx (.var 1) (.var 7)) (.var 7)) (.lit (.int 0))) .tt)) = some (decide (s < i ∧ iat u c c ≠ 0)) := by
      refine and_ok (ev_cmp (ev_var rfl) (ev_var rfl) (r := decide ((s : Int) < i)) rfl) (fun hx => ?_) (fun hx => ?_)
      · refine and_ok (ev_cmp (ev_idx (ev_idx (ev_var rfl) (ev_var rfl) x1) (ev_var rfl) x2) ev_lit (cmp_ne_int _ _)) (fun hy => ?_) (fun hy => ?_)
        · have h1 := of_decide_eq_true hx
          have h2 : iat u c c ≠ 0 := by simpa using hy
          rw [ev_tt, decide_eq_true ⟨by omega, h2⟩]
        · have h2 : iat u c c = 0 := by simpa using hy
          exact decide_eq_false fun z => z.2 h2
      · have h1 := of_decide_eq_false hx
        exact decide_eq_false fun z => h1 (by have := z.1; omega)
    by_cases hh2 : s < i ∧ iat u c c ≠ 0
    · rw [decide_eq_true hh2] at t
      have ek : kOf (iat u c c) ks c s i = (ks.getD (c + i - 1) 0).fmod 7 - 3 := by unfold kOf; rw [if_pos hh2]
      rw [ek]
      have ip : (c : Int) + (i : Int) - 1 = ((c + i - 1 : Nat) : Int) := by omega
      have ix := idx_int (xs := ks) (k := c + i - 1) (by omega) (by omega)
      rw [← ip] at ix
      refine st_true t (st_asg (ev_bin (ev_bin (ev_idx (ev_var rfl) (ev_bin (ev_bin (ev_var rfl) (ev_var rfl) rfl) ev_lit rfl) ix) ev_lit (mod_int (by decide) (lim_gt (by decide)))) ev_lit rfl) st_nil) ?_
      exact st_app (ev_bin (ev_idx (ev_var rfl) (ev_var rfl) hx) (ev_lst (es_cons (ev_var rfl) es_nil)) (cat _)) (app_b1 rfl (by omega)) st_nil
    · rw [decide_eq_false hh2] at t
      have ek : kOf (iat u c c) ks c s i = k₀ := by unfold kOf; rw [if_neg hh2, hk0]
      rw [ek]
      refine st_else t ?_
      exact st_app (ev_bin (ev_idx (ev_var rfl) (ev_var rfl) hx) (ev_lst (es_cons (ev_var rfl) es_nil)) (cat _)) (app_b1 rfl (by omega)) st_nil
end Mine
end
section
set_option maxRecDepth 100000
namespace Mine
open PySem

structure PlS where
  order : List Nat
  halves : List (List Int)
  sign : Int
noncomputable def sOf (n c : Nat) (p t : Int) : Nat := if p ≠ 0 then c + (t.fmod ((n : Int) - c)).toNat else c
noncomputable def planStep (n : Nat) (u : List (List Int)) (turns ks : List Int) (c : Nat) (st : PlS) : PlS :=
  ⟨exch st.order c (sOf n c (iat u c c) (turns.getD c 0)) 0,
   (List.range n).map (fun i => (exch st.halves c (sOf n c (iat u c c) (turns.getD c 0)) []).getD i [] ++ [kOf (iat u c c) ks c (sOf n c (iat u c c) (turns.getD c 0)) i]),
   if sOf n c (iat u c c) (turns.getD c 0) = c then st.sign else -st.sign⟩

noncomputable def plBody : PSs := (.cons (.asg 8 (.var 7))
  (.cons (.ite (.cmp .ne (.idx (.idx (.var 1) (.var 7)) (.var 7)) (.lit (.int 0))) (.cons (.asg 8 (.bin .add (.var 7) (.bin .mod (.idx (.var 2) (.var 7)) (.bin .sub (.var 0) (.var 7)))))
  .nil) .nil)
  (.cons (.ite (.cmp .ne (.var 8) (.var 7)) (.cons (.asg 6 (.neg (.var 6)))
  .nil) .nil)
  (.cons (.asg 4 (.call 18 (.cons (.var 4) (.cons (.var 7) (.cons (.var 8) .nil)))))
  (.cons (.asg 5 (.call 18 (.cons (.var 5) (.cons (.var 7) (.cons (.var 8) .nil)))))
  (.cons (.bnew 9 (.lst .nil))
  (.cons (.for_ [10] (.r1 (.var 0)) gBody2)
  (.cons (.frz [9])
  (.cons (.asg 5 (.var 9))
  .nil)))))))))

theorem sOf_lt {n c : Nat} (hc : c < n) (p t : Int) : c ≤ sOf n c p t ∧ sOf n c p t < n := by
  unfold sOf
  split
  · have h1 : 0 ≤ t.fmod ((n : Int) - c) := Int.fmod_nonneg_of_pos _ (by omega)
    have h2 : t.fmod ((n : Int) - c) < (n : Int) - c := Int.fmod_lt_of_pos _ (by omega)
    omega
  · omega

structure POk (n t : Nat) (st : PlS) : Prop where
  order : st.order.length = n
  halves : st.halves.length = n
  row : ∀ r ∈ st.halves, r.length ≤ t

noncomputable def psl (n : Nat) (u : List (List Int)) (turns ks : List Int) (st : PlS) (s7 s8 s9 s10 s11 : Slot) : Env' :=
  [.pl (.int (n : Int)), .pl (intM u), .pl (.list (turns.map PyData.int)), .pl (.list (ks.map PyData.int)), .pl (.list (permD st.order)), .pl (intM st.halves), .pl (.int st.sign), s7, s8, s9, s10, s11]

theorem exch_mem {α : Type} {xs : List α} {c s : Nat} {d x : α} (hc : c < xs.length) (hs : s < xs.length) (h : x ∈ exch xs c s d) : x ∈ xs := by
  unfold exch at h
  obtain ⟨i, hi, rfl⟩ := List.mem_map.mp h
  have hi := List.mem_range.mp hi
  have key : ∀ k, k < xs.length → xs.getD k d ∈ xs := fun k hk => by rw [getD_of (List.getElem?_eq_getElem hk)]; exact List.getElem_mem hk
  apply key
  split
  · exact hs
  · split
    · exact hc
    · exact hi

theorem planStep_ok {n t c : Nat} {u : List (List Int)} {turns ks : List Int} {st : PlS} (h : POk n t st) (hc : c < n) : POk n (t + 1) (planStep n u turns ks c st) := by
  obtain ⟨s1, s2⟩ := sOf_lt hc (iat u c c) (turns.getD c 0)
  refine ⟨by simp [planStep, exch_len, h.order], by simp [planStep], fun r hr => ?_⟩
  simp only [planStep] at hr
  obtain ⟨i, hi, rfl⟩ := List.mem_map.mp hr
  have hi := List.mem_range.mp hi
  rw [List.length_append]
  have hl : (exch st.halves c (sOf n c (iat u c c) (turns.getD c 0)) []).length = n := by rw [exch_len, h.halves]
  rw [getD_of (List.getElem?_eq_getElem (show i < (exch st.halves c (sOf n c (iat u c c) (turns.getD c 0)) []).length by omega))]
  have := h.row _ (exch_mem (by rw [h.halves]; exact hc) (by rw [h.halves]; exact s2) (List.getElem_mem (show i < (exch st.halves c (sOf n c (iat u c c) (turns.getD c 0)) []).length by omega)))
  simp only [List.length_cons, List.length_nil]
  omega

theorem plan_eval {n t c : Nat} (hn : n ≤ 3) (hc : c < n) (ht : t ≤ 10) {u : List (List Int)} {turns ks : List Int} (hu : SqI n u) (hk : ks.length = 3) (htu : turns.length = 3) {st : PlS} (h : POk n t st) (s8 s9 s10 s11 : Slot) :
    ∃ s8' s9' s10' s11', evSs (tower fs7 100 19) 100 false (psl n u turns ks st (.pl (.int (c : Int))) s8 s9 s10 s11) plBody = some (.next, psl n u turns ks (planStep n u turns ks c st) (.pl (.int (c : Int))) s8' s9' s10' s11') := by
  have hll : (1000 : Nat) ≤ lenLim := by unfold lenLim; decide
  obtain ⟨r, x1, x2⟩ := hu.at (by omega) hc hc
  obtain ⟨q1, q2⟩ := sOf_lt hc (iat u c c) (turns.getD c 0)
  unfold planStep
  generalize hs : sOf n c (iat u c c) (turns.getD c 0) = s at q1 q2 ⊢
  have ix := idx_int (xs := turns) (k := c) (by omega) (by omega)
  have b1 : ∀ rest res, evSs (tower fs7 100 19) 100 false (psl n u turns ks st (.pl (.int (c : Int))) (.pl (.int (s : Int))) s9 s10 s11) rest = some res →
      evSs (tower fs7 100 19) 100 false (psl n u turns ks st (.pl (.int (c : Int))) (.pl (.int (c : Int))) s9 s10 s11) (.cons (.ite (.cmp .ne (.idx (.idx (.var 1) (.var 7)) (.var 7)) (.lit (.int 0))) (.cons (.asg 8 (.bin .add (.var 7) (.bin .mod (.idx (.var 2) (.var 7)) (.bin .sub (.var 0) (.var 7)))))
  .nil) .nil) rest) = some res := by
    intro rest res hr
    have cm : evT (tower fs7 100 19) (psl n u turns ks st (.pl (.int (c : Int))) (.pl (.int (c : Int))) s9 s10 s11) (.cmp .ne (.idx (.idx (.var 1) (.var 7)) (.var 7)) (.lit (.int 0))) = some (!decide (iat u c c = 0)) := ev_cmp (ev_idx (ev_idx (ev_var rfl) (ev_var rfl) x1) (ev_var rfl) x2) ev_lit (cmp_ne_int _ _)
    unfold sOf at hs
    by_cases h0 : iat u c c = 0
    · rw [if_neg (by simpa using h0)] at hs
      subst hs
      rw [decide_eq_true h0] at cm
      exact st_else cm hr
    · rw [if_pos h0] at hs
      rw [decide_eq_false h0] at cm
      have m := mod_int (a := turns.getD c 0) (b := (n : Int) - c) (by omega) (lim_gt (Nat.lt_of_le_of_lt (show ((n : Int) - c).natAbs ≤ 100 by omega) (by decide)))
      have hnn : 0 ≤ (turns.getD c 0).fmod ((n : Int) - c) := Int.fmod_nonneg_of_pos _ (by omega)
      have es : (c : Int) + (turns.getD c 0).fmod ((n : Int) - c) = (s : Int) := by omega
      refine st_true cm (st_asg (d := .int (s : Int)) (l := 0) (ev_bin (ev_var rfl) (ev_bin (ev_idx (ev_var rfl) (ev_var rfl) ix) (ev_bin (ev_var rfl) (ev_var rfl) rfl) m) ?_) st_nil) hr
      show some (PyData.int ((c : Int) + (turns.getD c 0).fmod ((n : Int) - c)), 0) = _
      rw [es]
  have b2 : ∀ rest res, evSs (tower fs7 100 19) 100 false (psl n u turns ks ⟨st.order, st.halves, if s = c then st.sign else -st.sign⟩ (.pl (.int (c : Int))) (.pl (.int (s : Int))) s9 s10 s11) rest = some res →
      evSs (tower fs7 100 19) 100 false (psl n u turns ks st (.pl (.int (c : Int))) (.pl (.int (s : Int))) s9 s10 s11) (.cons (.ite (.cmp .ne (.var 8) (.var 7)) (.cons (.asg 6 (.neg (.var 6))) .nil) .nil) rest) = some res := by
    intro rest res hr
    by_cases h0 : s = c
    · rw [if_pos h0] at hr
      exact st_else (ev_cmp (ev_var rfl) (ev_var rfl) ((cmp_ne_int _ _).trans (congrArg (fun b => some (!b)) (decide_eq_true (show (s : Int) = c by omega))))) hr
    · rw [if_neg h0] at hr
      exact st_true (ev_cmp (ev_var rfl) (ev_var rfl) ((cmp_ne_int _ _).trans (congrArg (fun b => some (!b)) (decide_eq_false (show ¬ (s : Int) = c by omega))))) (st_asg (ev_neg (ev_var rfl)) st_nil) hr
  have ol : (permD st.order).length = n := by simp [permD, h.order]
  have e1 := exch_ok (K := 19) (by decide) (xs := permD st.order) (c := c) (s := s) (by omega) (by omega) (by omega)
  rw [show exch (permD st.order) c s .none = permD (exch st.order c s 0) from exch_map _ 0 _ (by rw [h.order]; exact hc) (by rw [h.order]; exact q2)] at e1
  have hl : ((st.halves.map (·.map PyData.int)).map PyData.list).length = n := by simp [h.halves]
  have e2 := exch_ok (K := 19) (by decide) (xs := (st.halves.map (·.map PyData.int)).map PyData.list) (c := c) (s := s) (by omega) (by omega) (by omega)
  have em : exch ((st.halves.map (·.map PyData.int)).map PyData.list) c s .none = ((exch st.halves c s []).map (·.map PyData.int)).map PyData.list := by
    rw [List.map_map, List.map_map]
    exact exch_map _ [] _ (by rw [h.halves]; exact hc) (by rw [h.halves]; exact q2)
  rw [em] at e2
  have hw : ∀ r ∈ exch st.halves c s [], r.length ≤ 800 := fun r hr => by
    have := h.row r (exch_mem (by rw [h.halves]; exact hc) (by rw [h.halves]; exact q2) hr)
    omega
  obtain ⟨a10, a11, eg⟩ := g_loop hn hc q1 hu hk (halves := exch st.halves c s []) (by rw [exch_len, h.halves]) hw (T := .pl (.list (turns.map PyData.int))) (O := .pl (.list (permD (exch st.order c s 0)))) (S := .pl (.int (if s = c then st.sign else -st.sign))) (List.range n) [] s10 s11 (fun i hi => List.mem_range.mp hi) (by simp; omega)
  refine ⟨.pl (.int (s : Int)), .pl (.list ((List.range n).map fun i => .list (((exch st.halves c s []).getD i [] ++ [kOf (iat u c c) ks c s i]).map PyData.int))), a10, a11, ?_⟩
  refine st_asg (ev_var rfl) (b1 _ _ (b2 _ _ ?_))
  refine st_asg (ev_call (es_cons (ev_var rfl) (es_cons (ev_var rfl) (es_cons (ev_var rfl) es_nil))) e1) ?_
  refine st_asg (ev_call (es_cons (ev_var rfl) (es_cons (ev_var rfl) (es_cons (ev_var rfl) es_nil))) e2) ?_
  refine st_bnew (ev_lst es_nil) rfl ?_
  refine st_for (xs := (List.range n).map fun (k : Nat) => PyData.int (k : Int)) ?_ eg ?_
  · rw [ev_r1 (ev_var rfl) (okR_small (by decide) (by omega)), range_map]
  refine st_frz ?_
  have fin : intM ((List.range n).map (fun i => (exch st.halves c s []).getD i [] ++ [kOf (iat u c c) ks c s i])) = .list ((List.range n).map fun i => .list (((exch st.halves c s []).getD i [] ++ [kOf (iat u c c) ks c s i]).map PyData.int)) := by
    unfold intM rowsL; rw [List.map_map, List.map_map]; rfl
  unfold psl
  rw [fin]
  exact st_asg (ev_var rfl) st_nil
end Mine
end
section
set_option maxRecDepth 100000
namespace Mine
open PySem

noncomputable def planRun (n : Nat) (u : List (List Int)) (turns ks : List Int) : List Nat → PlS → PlS
  | [], st => st
  | c :: cs, st => planRun n u turns ks cs (planStep n u turns ks c st)
noncomputable def planOut (n : Nat) (u : List (List Int)) (turns ks : List Int) : PlS := planRun n u turns ks (List.range n) ⟨List.range n, List.replicate n [], 1⟩

theorem plan_loop {n : Nat} (hn : n ≤ 3) {u : List (List Int)} {turns ks : List Int} (hu : SqI n u) (hk : ks.length = 3) (htu : turns.length = 3) : ∀ (cs : List Nat) (t : Nat) (st : PlS) (s7 s8 s9 s10 s11 : Slot), (∀ c ∈ cs, c < n) → t + cs.length ≤ 10 → POk n t st →
    ∃ s7' s8' s9' s10' s11', forL (fun g => evSs (tower fs7 100 19) 100 false g plBody) [7] (cs.map fun (k : Nat) => PyData.int (k : Int)) (psl n u turns ks st s7 s8 s9 s10 s11) = some (.next, psl n u turns ks (planRun n u turns ks cs st) s7' s8' s9' s10' s11')
  | [], t, st, s7, s8, s9, s10, s11, _, _, _ => ⟨s7, s8, s9, s10, s11, rfl⟩
  | c :: cs, t, st, s7, s8, s9, s10, s11, hc, ht, h => by
    simp only [List.length_cons] at ht
    obtain ⟨a8, a9, a10, a11, e⟩ := plan_eval hn (hc c (.head _)) (by omega) hu hk htu h s8 s9 s10 s11
    obtain ⟨b7, b8, b9, b10, b11, er⟩ := plan_loop hn hu hk htu cs (t + 1) _ (.pl (.int (c : Int))) a8 a9 a10 a11 (fun x hx => hc x (.tail _ hx)) (by omega) (planStep_ok h (hc c (.head _)))
    exact ⟨b7, b8, b9, b10, b11, fl_cons e er⟩

theorem plan_ok {K : Nat} (hK : 19 < K) {n : Nat} (hn : n ≤ 3) {u : List (List Int)} {turns ks : List Int} (hu : SqI n u) (hk : ks.length = 3) (htu : turns.length = 3) :
    tower fs7 100 K 19 [.int (n : Int), intM u, .list (turns.map PyData.int), .list (ks.map PyData.int)] = some (.ret (.tuple [.list (permD (planOut n u turns ks).order), intM (planOut n u turns ks).halves, .int (planOut n u turns ks).sign]) 0) := by
  rw [tower_at (f := f7_19) rfl hK]
  obtain ⟨b7, b8, b9, b10, b11, er⟩ := plan_loop hn hu hk htu (List.range n) 0 ⟨List.range n, List.replicate n [], 1⟩ .un .un .un .un .un (fun c hc => List.mem_range.mp hc) (by simp; omega) ⟨by simp, by simp, fun r hr => by rw [List.eq_of_mem_replicate hr]; simp⟩
  have r1 : ∀ (γ : Env'), γ[0]? = some (.pl (.int (n : Int))) → evI (tower fs7 100 19) γ (.r1 (.var 0)) = some ((List.range n).map fun (k : Nat) => PyData.int (k : Int)) := fun γ hγ => by
    rw [ev_r1 (ev_var hγ) (okR_small (by decide) (by omega)), range_map]
  have z : ∃ l, evE (tower fs7 100 19) [.pl (.int (n : Int)), .pl (intM u), .pl (.list (turns.map PyData.int)), .pl (.list (ks.map PyData.int)), .pl (.list (permD (List.range n))), .un, .un, .un, .un, .un, .un, .un] (.comp (.lst .nil) 1 (.r1 (.var 0)) .tt) = some (intM (List.replicate n []), l) := by
    have : n = 0 ∨ n = 1 ∨ n = 2 ∨ n = 3 := by omega
    rcases this with rfl | rfl | rfl | rfl
    · exact ⟨1, rfl⟩
    · exact ⟨2, rfl⟩
    · exact ⟨2, rfl⟩
    · exact ⟨2, rfl⟩
  obtain ⟨l, z⟩ := z
  apply evF_ret rfl
  refine st_asg (ev_lrange (r1 _ rfl)) ?_
  refine st_asg z ?_
  refine st_asg ev_lit ?_
  refine st_for (r1 _ rfl) er ?_
  exact st_ret (ev_tup (es_cons (ev_var rfl) (es_cons (ev_var rfl) (es_cons (ev_var rfl) es_nil))))

/-! the product -/
noncomputable def dotI (h u : List (List Int)) (i j : Nat) (cs : List Nat) (t : Int) : Int := cs.foldl (fun t c => t + iat h i c * iat u c j) t
noncomputable def tBody : PSs := (.cons (.asg 9 (.bin .add (.var 9) (.bin .mul (.idx (.idx (.var 1) (.var 6)) (.var 10)) (.idx (.idx (.var 2) (.var 10)) (.var 8))))) .nil)
noncomputable def jBody : PSs := (.cons (.asg 9 (.lit (.int 0)))
  (.cons (.for_ [10] (.r1 (.var 3)) tBody)
  (.cons (.app 7 (.var 9))
  .nil)))
noncomputable def rBody : PSs := (.cons (.asg 6 (.mth .index (.var 0) (.var 5)))
  (.cons (.bnew 7 (.lst .nil))
  (.cons (.for_ [8] (.r1 (.var 3)) jBody)
  (.cons (.frz [7])
  (.cons (.app 4 (.var 7))
  .nil)))))
structure BdI (m : List (List Int)) : Prop where
  bd : ∀ i j, (iat m i j).natAbs < 2 ^ 40

section
variable {n : Nat} (hn : n ≤ 3) {h u : List (List Int)} (hh : SqI n h) (hu : SqI n u) (bh : BdI h) (bu : BdI u)
include hn hh hu bh bu
theorem t_loop {O s4 s5 s7 : Slot} {i j : Nat} (hi : i < n) (hj : j < n) : ∀ (cs : List Nat) (t : Int) (s10 : Slot), (∀ c ∈ cs, c < n) →
    ∃ s10', forL (fun g => evSs (tower fs7 100 20) 100 false g tBody) [10] (cs.map fun (k : Nat) => PyData.int (k : Int)) [O, .pl (intM h), .pl (intM u), .pl (.int (n : Int)), s4, s5, .pl (.int (i : Int)), s7, .pl (.int (j : Int)), .pl (.int t), s10] =
      some (.next, [O, .pl (intM h), .pl (intM u), .pl (.int (n : Int)), s4, s5, .pl (.int (i : Int)), s7, .pl (.int (j : Int)), .pl (.int (dotI h u i j cs t)), s10'])
  | [], t, s10, _ => ⟨s10, rfl⟩
  | c :: cs, t, s10, hc => by
    have hcn := hc c (.head _)
    obtain ⟨r, x1, x2⟩ := hh.at (by omega) hi hcn
    obtain ⟨r', y1, y2⟩ := hu.at (by omega) hcn hj
    obtain ⟨s10', e⟩ := t_loop hi hj (O := O) (s4 := s4) (s5 := s5) (s7 := s7) cs (t + iat h i c * iat u c j) (.pl (.int (c : Int))) (fun x hx => hc x (.tail _ hx))
    refine ⟨s10', fl_cons ?_ e⟩
    exact st_asg (ev_bin (ev_var rfl) (ev_bin (ev_idx (ev_idx (ev_var rfl) (ev_var rfl) x1) (ev_var rfl) x2) (ev_idx (ev_idx (ev_var rfl) (ev_var rfl) y1) (ev_var rfl) y2) (mul_int (p_lim (by decide) (bh.bd i c)) (p_lim (by decide) (bu.bd c j)))) rfl) st_nil
theorem j_loop {O s4 s5 : Slot} {i : Nat} (hi : i < n) : ∀ (js : List Nat) (row : List PyData) (s8 s9 s10 : Slot), (∀ j ∈ js, j < n) → row.length + js.length ≤ 900 →
    ∃ s8' s9' s10', forL (fun g => evSs (tower fs7 100 20) 100 false g jBody) [8] (js.map fun (k : Nat) => PyData.int (k : Int)) [O, .pl (intM h), .pl (intM u), .pl (.int (n : Int)), s4, s5, .pl (.int (i : Int)), .b1 row, s8, s9, s10] =
      some (.next, [O, .pl (intM h), .pl (intM u), .pl (.int (n : Int)), s4, s5, .pl (.int (i : Int)), .b1 (row ++ js.map fun j => .int (dotI h u i j (List.range n) 0)), s8', s9', s10'])
  | [], row, s8, s9, s10, _, _ => ⟨s8, s9, s10, by simp [forL]⟩
  | j :: js, row, s8, s9, s10, hj, hl => by
    have hll : (1000 : Nat) ≤ lenLim := by unfold lenLim; decide
    simp only [List.length_cons] at hl
    obtain ⟨a10, e⟩ := t_loop hn hh hu bh bu (O := O) (s4 := s4) (s5 := s5) (s7 := .b1 row) hi (hj j (.head _)) (List.range n) 0 s10 (fun c hc => List.mem_range.mp hc)
    obtain ⟨b8, b9, b10, er⟩ := j_loop hi (O := O) (s4 := s4) (s5 := s5) js (row ++ [.int (dotI h u i j (List.range n) 0)]) (.pl (.int (j : Int))) (.pl (.int (dotI h u i j (List.range n) 0))) a10 (fun x hx => hj x (.tail _ hx)) (by simp; omega)
    rw [List.append_assoc] at er
    refine ⟨b8, b9, b10, fl_cons ?_ er⟩
    refine st_asg ev_lit ?_
    refine st_for (xs := (List.range n).map fun (k : Nat) => PyData.int (k : Int)) ?_ e ?_
    · rw [ev_r1 (ev_var rfl) (okR_small (by decide) (by omega)), range_map]
    exact st_app (ev_var rfl) (app_b1 rfl (by omega)) st_nil
theorem r_loop {order : List Nat} (ho : ∀ r, r < n → mthD .index (.list (permD order)) (.int (r : Int)) = some (.int ((order.idxOf r : Nat) : Int), 0) ∧ order.idxOf r < n) : ∀ (rs : List Nat) (rows : List PyData) (s5 s6 s7 s8 s9 s10 : Slot), (∀ r ∈ rs, r < n) → rows.length + rs.length ≤ 900 →
    ∃ s5' s6' s7' s8' s9' s10', forL (fun g => evSs (tower fs7 100 20) 100 false g rBody) [5] (rs.map fun (k : Nat) => PyData.int (k : Int)) [.pl (.list (permD order)), .pl (intM h), .pl (intM u), .pl (.int (n : Int)), .b1 rows, s5, s6, s7, s8, s9, s10] =
      some (.next, [.pl (.list (permD order)), .pl (intM h), .pl (intM u), .pl (.int (n : Int)), .b1 (rows ++ rs.map fun r => .list ((List.range n).map fun j => .int (dotI h u (order.idxOf r) j (List.range n) 0))), s5', s6', s7', s8', s9', s10'])
  | [], rows, s5, s6, s7, s8, s9, s10, _, _ => ⟨s5, s6, s7, s8, s9, s10, by simp [forL]⟩
  | r :: rs, rows, s5, s6, s7, s8, s9, s10, hr, hl => by
    have hll : (1000 : Nat) ≤ lenLim := by unfold lenLim; decide
    simp only [List.length_cons] at hl
    obtain ⟨o1, o2⟩ := ho r (hr r (.head _))
    obtain ⟨a8, a9, a10, e⟩ := j_loop hn hh hu bh bu (O := .pl (.list (permD order))) (s4 := .b1 rows) (s5 := .pl (.int (r : Int))) o2 (List.range n) [] s8 s9 s10 (fun c hc => List.mem_range.mp hc) (by simp; omega)
    obtain ⟨b5, b6, b7, b8, b9, b10, er⟩ := r_loop ho rs (rows ++ [.list ((List.range n).map fun j => .int (dotI h u (order.idxOf r) j (List.range n) 0))]) (.pl (.int (r : Int))) (.pl (.int ((order.idxOf r : Nat) : Int))) (.pl (.list ((List.range n).map fun j => .int (dotI h u (order.idxOf r) j (List.range n) 0)))) a8 a9 a10 (fun x hx => hr x (.tail _ hx)) (by simp; omega)
    rw [List.append_assoc] at er
    refine ⟨b5, b6, b7, b8, b9, b10, fl_cons ?_ er⟩
    refine st_asg (ev_mth (ev_var rfl) (ev_var rfl) o1) ?_
    refine st_bnew (ev_lst es_nil) rfl ?_
    refine st_for (xs := (List.range n).map fun (k : Nat) => PyData.int (k : Int)) ?_ e ?_
    · rw [ev_r1 (ev_var rfl) (okR_small (by decide) (by omega)), range_map]
    refine st_frz ?_
    exact st_app (ev_var rfl) (app_b1 rfl (by omega)) st_nil
end
noncomputable def numsOf (n : Nat) (order : List Nat) (h u : List (List Int)) : List (List Int) := (List.range n).map fun r => (List.range n).map fun j => dotI h u (order.idxOf r) j (List.range n) 0
theorem product_ok {K : Nat} (hK : 20 < K) {n : Nat} (hn : n ≤ 3) {h u : List (List Int)} (hh : SqI n h) (hu : SqI n u) (bh : BdI h) (bu : BdI u) {order : List Nat} (hol : order.length = n)
    (ho : ∀ r, r < n → mthD .index (.list (permD order)) (.int (r : Int)) = some (.int ((order.idxOf r : Nat) : Int), 0) ∧ order.idxOf r < n) :
    tower fs7 100 K 20 [.list (permD order), intM h, intM u] = some (.ret (intM (numsOf n order h u)) 1) := by
  rw [tower_at (f := f7_20) rfl hK]
  have hll : (1000 : Nat) ≤ lenLim := by unfold lenLim; decide
  obtain ⟨b5, b6, b7, b8, b9, b10, er⟩ := r_loop hn hh hu bh bu ho (List.range n) [] .un .un .un .un .un .un (fun c hc => List.mem_range.mp hc) (by simp; omega)
  have e1 : intM (numsOf n order h u) = .list ((List.range n).map fun r => .list ((List.range n).map fun j => .int (dotI h u (order.idxOf r) j (List.range n) 0))) := by
    unfold intM rowsL numsOf
    rw [List.map_map, List.map_map]
    congr 1
    apply List.map_congr_left
    intro r _
    simp [Function.comp]
  have ol : (permD order).length = n := by simp [permD, hol]
  rw [e1]
  apply evF_ret rfl
  refine st_asg (ev_blt (ev_var rfl) (len_ok (by omega))) ?_
  rw [ol]
  refine st_bnew (ev_lst es_nil) rfl ?_
  refine st_for (xs := (List.range n).map fun (k : Nat) => PyData.int (k : Int)) ?_ er ?_
  · rw [ev_r1 (ev_var rfl) (okR_small (by decide) (by omega)), range_map]
  exact st_retv rfl
end Mine
end
section
set_option maxRecDepth 100000
namespace Mine
open PySem

noncomputable def upM (n : Nat) (a b c x y z : Int) : List (List Int) := ([[a, x, y], [0, b, z], [0, 0, c]].take n).map (·.take n)
theorem upper_ok {K : Nat} (hK : 17 < K) {n : Nat} (hn : n ≤ 3) (a b c x y z : Int) : ∃ l, tower fs7 100 K 17 [.int (n : Int), .list [.int a, .int b, .int c], .list [.int x, .int y, .int z]] = some (.ret (intM (upM n a b c x y z)) l) := by
  rw [tower_at (f := f7_17) rfl hK]
  have : n = 0 ∨ n = 1 ∨ n = 2 ∨ n = 3 := by omega
  rcases this with rfl | rfl | rfl | rfl
  · exact ⟨1, rfl⟩
  · exact ⟨2, rfl⟩
  · exact ⟨2, rfl⟩
  · exact ⟨2, rfl⟩
theorem sq_upM {n : Nat} (hn : n ≤ 3) (a b c x y z : Int) : SqI n (upM n a b c x y z) := by
  have : n = 0 ∨ n = 1 ∨ n = 2 ∨ n = 3 := by omega
  rcases this with rfl | rfl | rfl | rfl <;> refine ⟨rfl, fun r hr => ?_⟩ <;> simp [upM] at hr <;> (try rcases hr with rfl | rfl | rfl) <;> (try rcases hr with rfl | rfl) <;> (try subst hr) <;> rfl

/-- permutations and the law's own list of them -/
noncomputable def permsL : Nat → List (List Int)
  | 0 => [[]]
  | k + 1 => (permsL k).flatMap fun p => (List.range (p.length + 1)).map fun g => p.take g ++ [(k : Int)] ++ p.drop g
theorem perms_all : (List.range 5).map (fun (n : Nat) => tower fs7 100 22 11 [.int (n : Int)]) = (List.range 5).map fun n => some (.ret (intM (permsL n)) 0) := by
  kernel_rfl
theorem arr_all : (List.range 5).map (fun (n : Nat) => (List.range (permsL n).length).map fun (t : Nat) => tower fs7 100 22 21 [.int (t : Int), .int (n : Int)]) = (List.range 5).map fun n => (permsL n).map fun p => some (.ret (.list (p.map PyData.int)) 1) := by
  kernel_rfl
theorem perms_ok {K : Nat} (hK : 21 < K) {n : Nat} (hn : n ≤ 4) : tower fs7 100 K 11 [.int (n : Int)] = some (.ret (intM (permsL n)) 0) := by
  have t11 : ∀ args, tower fs7 100 K 11 args = tower fs7 100 22 11 args := fun args => by rw [tower_at (f := f7_11) rfl (show 11 < K by omega), tower_at (f := f7_11) rfl (show 11 < 22 by decide)]
  rw [t11]
  exact List.map_inj_left.mp perms_all n (List.mem_range.mpr (by omega))
theorem arr_ok {K : Nat} (hK : 21 < K) {n t : Nat} (hn : n ≤ 4) {p : List Int} (ht : (permsL n)[t]? = some p) : tower fs7 100 K 21 [.int (t : Int), .int (n : Int)] = some (.ret (.list (p.map PyData.int)) 1) := by
  have t21 : ∀ args, tower fs7 100 K 21 args = tower fs7 100 22 21 args := fun args => by rw [tower_at (f := f7_21) rfl hK, tower_at (f := f7_21) rfl (show 21 < 22 by decide)]
  rw [t21]
  have h := List.map_inj_left.mp arr_all n (List.mem_range.mpr (by omega))
  have hl := (List.getElem?_eq_some_iff.mp ht).1
  have h2 := congrArg (fun l => l[t]?) h
  simp only [List.getElem?_map, List.getElem?_range hl, ht, Option.map_some, Option.some.injEq] at h2
  exact h2
end Mine
end
section
set_option maxRecDepth 100000
namespace Mine
open PySem

section
variable {a x y b z c l1 l2 r β1 γ1 β2 γ2 : Rat} {i j k : Nat}
noncomputable def S1 (a x y β1 γ1 β2 γ2 l1 l2 : Rat) (p : List Nat) : LS := ⟨[[a, x, y], [0, β1, γ1], [0, β2, γ2]], [[0, 0, 0], [l1, 0, 0], [l2, 0, 0]], p⟩

theorem canc (ha : a ≠ 0) : l1 * a / a = l1 := by grind
theorem el0 (ha : a ≠ 0) : l1 * a + -(l1 * a / a) * a = 0 := by grind
theorem el1 (ha : a ≠ 0) : l1 * x + β1 + -(l1 * a / a) * x = β1 := by grind

theorem s0_0 (ha : a ≠ 0) : luStep 3 0 ⟨[[a, x, y], [l1 * a, l1 * x + β1, l1 * y + γ1], [l2 * a, l2 * x + β2, l2 * y + γ2]], zeros 3, [0, 1, 2]⟩ = S1 a x y β1 γ1 β2 γ2 l1 l2 [0, 1, 2] := by
  simp [luStep, first, at2, swS, elS, elimL, rowAdd, List.range', ha, zeros, S1, canc ha]
  grind
theorem s0_1 (ha : a ≠ 0) (hl : l1 = 0) : luStep 3 0 ⟨[[l1 * a, l1 * x + β1, l1 * y + γ1], [a, x, y], [l2 * a, l2 * x + β2, l2 * y + γ2]], zeros 3, [0, 1, 2]⟩ = S1 a x y β1 γ1 β2 γ2 l1 l2 [1, 0, 2] := by
  have h0 : l1 * a = 0 := by grind
  have e : first [[l1 * a, l1 * x + β1, l1 * y + γ1], [a, x, y], [l2 * a, l2 * x + β2, l2 * y + γ2]] 0 0 3 = some 1 := by simp [first, at2, h0, ha]
  unfold luStep
  simp only [Nat.sub_zero, e]
  simp [at2, swS, swp, elS, elimL, rowAdd, List.range', zeros, S1, canc ha]
  grind
theorem s0_2 (ha : a ≠ 0) (hl : l1 = 0) (hl2 : l2 = 0) : luStep 3 0 ⟨[[l2 * a, l2 * x + β2, l2 * y + γ2], [l1 * a, l1 * x + β1, l1 * y + γ1], [a, x, y]], zeros 3, [0, 1, 2]⟩ = S1 a x y β1 γ1 β2 γ2 l1 l2 [2, 1, 0] := by
  have h0 : l1 * a = 0 := by grind
  have h1 : l2 * a = 0 := by grind
  have e : first [[l2 * a, l2 * x + β2, l2 * y + γ2], [l1 * a, l1 * x + β1, l1 * y + γ1], [a, x, y]] 0 0 3 = some 2 := by simp [first, at2, h0, h1, ha]
  unfold luStep
  simp only [Nat.sub_zero, e]
  simp [at2, swS, swp, elS, elimL, rowAdd, List.range', zeros, S1, canc ha]
  grind
theorem s0_n (ha : a = 0) (hl : l1 = 0) (hl2 : l2 = 0) : luStep 3 0 ⟨[[a, x, y], [l1 * a, l1 * x + β1, l1 * y + γ1], [l2 * a, l2 * x + β2, l2 * y + γ2]], zeros 3, [0, 1, 2]⟩ = S1 a x y β1 γ1 β2 γ2 l1 l2 [0, 1, 2] := by
  subst ha hl hl2
  have e1 : ∀ q w : Rat, (0 : Rat) * q + w = w := by intro q w; grind
  simp [luStep, first, at2, zeros, S1, List.replicate]
  grind

noncomputable def S2 (a x y b z c l1 l2 r : Rat) (p : List Nat) : LS := ⟨[[a, x, y], [0, b, z], [0, 0, c]], [[0, 0, 0], [l1, 0, 0], [l2, r, 0]], p⟩
theorem z1 (q w : Rat) : (0 : Rat) + -(q) * 0 = 0 := by grind
theorem s1_1 (hb : b ≠ 0) {p : List Nat} : luStep 3 1 (S1 a x y b z (r * b) (r * z + c) l1 l2 p) = S2 a x y b z c l1 l2 r p := by
  have e0 : (0 : Rat) + -(r * b / b) * 0 = 0 := by grind
  simp [luStep, first, at2, swS, elS, elimL, rowAdd, List.range', hb, S1, S2, canc hb]
  grind
theorem s1_2 (hb : b ≠ 0) (hr : r = 0) : luStep 3 1 (S1 a x y (r * b) (r * z + c) b z l2 l1 [i, k, j]) = S2 a x y b z c l1 l2 r [i, j, k] := by
  have h0 : r * b = 0 := by grind
  have e : first (S1 a x y (r * b) (r * z + c) b z l2 l1 [i, k, j]).up 1 1 2 = some 2 := by simp [first, at2, h0, hb, S1]
  have e0 : (0 : Rat) + -(r * b / b) * 0 = 0 := by grind
  unfold luStep
  simp only [show 3 - 1 = 2 from rfl, e]
  simp [at2, swS, swp, elS, elimL, rowAdd, List.range', S1, S2, canc hb]
  grind
theorem s1_n (hb : b = 0) (hr : r = 0) {p : List Nat} : luStep 3 1 (S1 a x y b z (r * b) (r * z + c) l1 l2 p) = S2 a x y b z c l1 l2 r p := by
  subst hb hr
  have e1 : ∀ q w : Rat, (0 : Rat) * q + w = w := by intro q w; grind
  simp [luStep, first, at2, S1, S2]
  grind
theorem s2 {p : List Nat} : luStep 3 2 (S2 a x y b z c l1 l2 r p) = S2 a x y b z c l1 l2 r p := by
  by_cases hc : c = 0
  · simp [luStep, first, at2, S2, hc]
  · simp [luStep, first, at2, S2, hc, swS, elS, elimL, List.range']
end
end Mine
end
section
set_option maxRecDepth 100000
namespace Mine
open PySem

section
variable {a x b l β : Rat}
noncomputable def T1 (a x b l : Rat) (p : List Nat) : LS := ⟨[[a, x], [0, b]], [[0, 0], [l, 0]], p⟩
theorem t0_0 (ha : a ≠ 0) : luStep 2 0 ⟨[[a, x], [l * a, l * x + b]], zeros 2, [0, 1]⟩ = T1 a x b l [0, 1] := by
  simp [luStep, first, at2, swS, elS, elimL, rowAdd, List.range', ha, zeros, T1, canc ha]
  grind
theorem t0_1 (ha : a ≠ 0) (hl : l = 0) : luStep 2 0 ⟨[[l * a, l * x + b], [a, x]], zeros 2, [0, 1]⟩ = T1 a x b l [1, 0] := by
  have h0 : l * a = 0 := by grind
  have e : first [[l * a, l * x + b], [a, x]] 0 0 2 = some 1 := by simp [first, at2, h0, ha]
  unfold luStep
  simp only [Nat.sub_zero, e]
  simp [at2, swS, swp, elS, elimL, rowAdd, List.range', zeros, T1, canc ha]
  grind
theorem t0_n (ha : a = 0) (hl : l = 0) : luStep 2 0 ⟨[[a, x], [l * a, l * x + b]], zeros 2, [0, 1]⟩ = T1 a x b l [0, 1] := by
  subst ha hl
  simp [luStep, first, at2, zeros, T1, List.replicate]
  grind
theorem t1 {p : List Nat} : luStep 2 1 (T1 a x b l p) = T1 a x b l p := by
  by_cases hc : b = 0
  · simp [luStep, first, at2, T1, hc]
  · simp [luStep, first, at2, T1, hc, swS, elS, elimL, List.range']
theorem u0 {p : List Nat} {low : List (List Rat)} : luStep 1 0 ⟨[[a]], low, p⟩ = ⟨[[a]], low, p⟩ := by
  by_cases hc : a = 0
  · simp [luStep, first, at2, hc]
  · simp [luStep, first, at2, hc, swS, elS, elimL, List.range']
end

theorem qv_eq {d v : Int} : qv d v = (v : Rat) / (d : Rat) := Rat.divInt_eq_div v d
theorem qv_zero {d v : Int} (hd : d ≠ 0) : qv d v = 0 ↔ v = 0 := by
  rw [qv_eq]
  have h : (d : Rat) ≠ 0 := by intro z; exact hd (by exact_mod_cast z)
  constructor
  · intro e
    have : (v : Rat) = 0 := by grind
    exact_mod_cast this
  · rintro rfl
    have : ((0 : Int) : Rat) = 0 := rfl
    grind
theorem r1 : List.range 1 = [0] := rfl
theorem r2 : List.range 2 = [0, 1] := rfl
theorem r3 : List.range 3 = [0, 1, 2] := rfl

/-- what the pure law says of lu_of -/
structure Good (n : Nat) (u : List (List Int)) (turns ks : List Int) : Prop where
  perm : (luOut n (wrM 12 (numsOf n (planOut n u turns ks).order (planOut n u turns ks).halves u))).perm = (planOut n u turns ks).order
  low : diagL (List.range n) (luOut n (wrM 12 (numsOf n (planOut n u turns ks).order (planOut n u turns ks).halves u))).low = wrM 2 (planOut n u turns ks).halves
  up : (luOut n (wrM 12 (numsOf n (planOut n u turns ks).order (planOut n u turns ks).halves u))).up = wrM 6 u

set_option maxHeartbeats 1000000 in
theorem good1 (a b c x y z : Int) (turns ks : List Int) : Good 1 (upM 1 a b c x y z) turns ks ∧ (planOut 1 (upM 1 a b c x y z) turns ks).order = [0] ∧ (planOut 1 (upM 1 a b c x y z) turns ks).sign = 1 := by
  have hs : sOf 1 0 a (turns.getD 0 0) = 0 := by have := sOf_lt (n := 1) (c := 0) (by decide) a (turns.getD 0 0); omega
  have hp : planOut 1 (upM 1 a b c x y z) turns ks = ⟨[0], [[2]], 1⟩ := by
    have e : iat (upM 1 a b c x y z) 0 0 = a := rfl
    simp only [planOut, r1, planRun, planStep, e, hs]
    simp [exch, kOf, r1]
  refine ⟨?_, by rw [hp], by rw [hp]⟩
  have hn : wrM 12 (numsOf 1 [0] [[2]] (upM 1 a b c x y z)) = [[qv 6 a]] := by
    simp [wrM, numsOf, wrow, upM, dotI, iat, List.idxOf, List.findIdx, List.findIdx.go, qv_eq, r1]
    grind
  have hl : luOut 1 [[qv 6 a]] = ⟨[[qv 6 a]], zeros 1, [0]⟩ := by
    unfold luOut
    simp only [r1, luRun, u0]
  constructor <;> rw [hp] <;> simp only <;> rw [hn, hl]
  · simp [diagL, zeros, wrM, wrow, qv_eq, r1]
    grind
  · simp [wrM, wrow, upM]
end Mine
end
section
set_option maxRecDepth 100000
namespace Mine
open PySem

set_option maxHeartbeats 1000000 in
theorem good2 (a b c x y z : Int) (turns ks : List Int) : Good 2 (upM 2 a b c x y z) turns ks ∧
    (((planOut 2 (upM 2 a b c x y z) turns ks).order = [0, 1] ∧ (planOut 2 (upM 2 a b c x y z) turns ks).sign = 1) ∨ ((planOut 2 (upM 2 a b c x y z) turns ks).order = [1, 0] ∧ (planOut 2 (upM 2 a b c x y z) turns ks).sign = -1)) ∧
    ∃ h : Int, (planOut 2 (upM 2 a b c x y z) turns ks).halves = [[2, 0], [h, 2]] ∧ h.natAbs ≤ 3 := by
  have h1 := sOf_lt (n := 2) (c := 0) (by decide) a (turns.getD 0 0)
  have hs1 : sOf 2 1 b (turns.getD 1 0) = 1 := by have := sOf_lt (n := 2) (c := 1) (by decide) b (turns.getD 1 0); omega
  have e0 : iat (upM 2 a b c x y z) 0 0 = a := rfl
  have e1 : iat (upM 2 a b c x y z) 1 1 = b := rfl
  generalize hs : sOf 2 0 a (turns.getD 0 0) = s at h1
  generalize hh : kOf a ks 0 s 1 = h
  have hb3 : h.natAbs ≤ 3 := by
    rw [← hh]; unfold kOf
    split
    · have q1 := Int.fmod_nonneg_of_pos (ks.getD (0 + 1 - 1) 0) (show (0 : Int) < 7 by decide)
      have q2 := Int.fmod_lt_of_pos (ks.getD (0 + 1 - 1) 0) (show (0 : Int) < 7 by decide)
      omega
    · simp
  have hs0 : a = 0 → s = 0 := by intro q; rw [← hs]; unfold sOf; rw [if_neg (by simpa using q)]
  have hh0 : (a = 0 ∨ s = 1) → h = 0 := by
    intro q; rw [← hh]; unfold kOf; rw [if_neg (by rcases q with q | q <;> simp [q])]; rfl
  have k00 : kOf a ks 0 s 0 = 2 := by unfold kOf; simp
  have k10 : kOf b ks 1 1 0 = 0 := by unfold kOf; simp
  have k11 : kOf b ks 1 1 1 = 2 := by unfold kOf; simp
  have hu : upM 2 a b c x y z = [[a, x], [0, b]] := rfl
  have hp : planOut 2 (upM 2 a b c x y z) turns ks = ⟨exch [0, 1] 0 s 0, [[2, 0], [h, 2]], if s = 0 then 1 else -1⟩ := by
    simp only [planOut, r2, planRun, planStep, e0, e1, hs, hs1, List.map_cons, List.map_nil, hh, k00, k10, k11]
    have : s = 0 ∨ s = 1 := by omega
    rcases this with rfl | rfl <;> simp [exch, r2]
  have fin : ∀ p : List Nat, luOut 2 (wrM 12 (numsOf 2 p [[2, 0], [h, 2]] (upM 2 a b c x y z))) = T1 (qv 6 a) (qv 6 x) (qv 6 b) (qv 2 h) p →
      exch [0, 1] 0 s 0 = p → Good 2 (upM 2 a b c x y z) turns ks := by
    intro p e ep
    constructor <;> rw [hp] <;> simp only <;> rw [ep, e]
    · rfl
    · simp [T1, diagL, r2, wrM, wrow]
      simp [qv_eq]
      grind
    · simp [T1, wrM, wrow, hu]
      simp [qv_eq]
      grind
  by_cases hs' : s = 0
  · subst hs'
    refine ⟨fin [0, 1] ?_ rfl, .inl ⟨by rw [hp]; rfl, by rw [hp]; rfl⟩, h, by rw [hp], hb3⟩
    have hm : wrM 12 (numsOf 2 [0, 1] [[2, 0], [h, 2]] (upM 2 a b c x y z)) = [[qv 6 a, qv 6 x], [qv 2 h * qv 6 a, qv 2 h * qv 6 x + qv 6 b]] := by
      simp [wrM, numsOf, wrow, hu, dotI, iat, List.idxOf, List.findIdx, List.findIdx.go, qv_eq, r2]
      grind
    rw [hm]
    unfold luOut
    simp only [r2, luRun]
    by_cases ha : a = 0
    · rw [t0_n ((qv_zero (by decide)).mpr ha) ((qv_zero (by decide)).mpr (hh0 (.inl ha))), t1]
    · rw [t0_0 (fun q => ha ((qv_zero (by decide)).mp q)), t1]
  · have hs1' : s = 1 := by omega
    subst hs1'
    have ha : a ≠ 0 := fun q => hs' (hs0 q)
    refine ⟨fin [1, 0] ?_ rfl, .inr ⟨by rw [hp]; rfl, by rw [hp]; rfl⟩, h, by rw [hp], hb3⟩
    have hm : wrM 12 (numsOf 2 [1, 0] [[2, 0], [h, 2]] (upM 2 a b c x y z)) = [[qv 2 h * qv 6 a, qv 2 h * qv 6 x + qv 6 b], [qv 6 a, qv 6 x]] := by
      simp [wrM, numsOf, wrow, hu, dotI, iat, List.idxOf, List.findIdx, List.findIdx.go, qv_eq, r2]
      grind
    rw [hm]
    unfold luOut
    simp only [r2, luRun]
    rw [t0_1 (fun q => ha ((qv_zero (by decide)).mp q)) ((qv_zero (by decide)).mpr (hh0 (.inr rfl))), t1]
end Mine
end
section
set_option maxRecDepth 100000
namespace Mine
open PySem

theorem kOf_bd (p : Int) (ks : List Int) (c s i : Nat) : (kOf p ks c s i).natAbs ≤ 3 := by
  unfold kOf
  split
  · have q1 := Int.fmod_nonneg_of_pos (ks.getD (c + i - 1) 0) (show (0 : Int) < 7 by decide)
    have q2 := Int.fmod_lt_of_pos (ks.getD (c + i - 1) 0) (show (0 : Int) < 7 by decide)
    omega
  · split <;> simp
theorem kOf_zero {p : Int} {ks : List Int} {c s i : Nat} (h : p = 0 ∨ i ≤ s) (hi : i ≠ c) : kOf p ks c s i = 0 := by
  unfold kOf
  rw [if_neg (by rcases h with h | h <;> simp [h] <;> omega), if_neg hi]

noncomputable def sg3 (s0 s1 : Nat) : Int := (if s0 = 0 then 1 else -1) * (if s1 = 1 then 1 else -1)

set_option maxHeartbeats 4000000 in
theorem good3 (a b c x y z : Int) (turns ks : List Int) : Good 3 (upM 3 a b c x y z) turns ks ∧
    (∃ s0 s1 : Nat, s0 ≤ 2 ∧ 1 ≤ s1 ∧ s1 ≤ 2 ∧ (planOut 3 (upM 3 a b c x y z) turns ks).order = exch (exch [0, 1, 2] 0 s0 0) 1 s1 0 ∧ (planOut 3 (upM 3 a b c x y z) turns ks).sign = sg3 s0 s1) ∧
    ∃ p q r : Int, (planOut 3 (upM 3 a b c x y z) turns ks).halves = [[2, 0, 0], [p, 2, 0], [q, r, 2]] ∧ p.natAbs ≤ 3 ∧ q.natAbs ≤ 3 ∧ r.natAbs ≤ 3 := by
  have h1 := sOf_lt (n := 3) (c := 0) (by decide) a (turns.getD 0 0)
  have h2 := sOf_lt (n := 3) (c := 1) (by decide) b (turns.getD 1 0)
  have hs2 : sOf 3 2 c (turns.getD 2 0) = 2 := by have := sOf_lt (n := 3) (c := 2) (by decide) c (turns.getD 2 0); omega
  have e0 : iat (upM 3 a b c x y z) 0 0 = a := rfl
  have e1 : iat (upM 3 a b c x y z) 1 1 = b := rfl
  have e2 : iat (upM 3 a b c x y z) 2 2 = c := rfl
  have hu : upM 3 a b c x y z = [[a, x, y], [0, b, z], [0, 0, c]] := rfl
  generalize hs0 : sOf 3 0 a (turns.getD 0 0) = s at h1
  generalize hs1 : sOf 3 1 b (turns.getD 1 0) = t at h2
  have za : a = 0 → s = 0 := by intro q; rw [← hs0]; unfold sOf; rw [if_neg (by simpa using q)]
  have zb : b = 0 → t = 1 := by intro q; rw [← hs1]; unfold sOf; rw [if_neg (by simpa using q)]
  have k00 : kOf a ks 0 s 0 = 2 := by unfold kOf; simp
  have k10 : kOf b ks 1 t 0 = 0 := kOf_zero (.inr (by omega)) (by decide)
  have k11 : kOf b ks 1 t 1 = 2 := by unfold kOf; rw [if_neg (by omega), if_pos rfl]
  have k20 : kOf c ks 2 2 0 = 0 := kOf_zero (.inr (by omega)) (by decide)
  have k21 : kOf c ks 2 2 1 = 0 := kOf_zero (.inr (by omega)) (by decide)
  have k22 : kOf c ks 2 2 2 = 2 := by unfold kOf; simp
  have hk1 : (a = 0 ∨ 1 ≤ s) → kOf a ks 0 s 1 = 0 := fun q => kOf_zero (q.imp id id) (by decide)
  have hk2 : (a = 0 ∨ 2 ≤ s) → kOf a ks 0 s 2 = 0 := fun q => kOf_zero (q.imp id id) (by decide)
  have hr0 : (b = 0 ∨ 2 ≤ t) → kOf b ks 1 t 2 = 0 := fun q => kOf_zero (q.imp id id) (by decide)
  have d1 := kOf_bd a ks 0 s 1
  have d2 := kOf_bd a ks 0 s 2
  have d3 := kOf_bd b ks 1 t 2
  generalize hg1 : kOf a ks 0 s 1 = g1 at hk1 d1
  generalize hg2 : kOf a ks 0 s 2 = g2 at hk2 d2
  generalize hr : kOf b ks 1 t 2 = r at hr0 d3
  have hp : planOut 3 (upM 3 a b c x y z) turns ks = ⟨exch (exch [0, 1, 2] 0 s 0) 1 t 0, [[2, 0, 0], [if t = 1 then g1 else g2, 2, 0], [if t = 1 then g2 else g1, r, 2]], sg3 s t⟩ := by
    simp only [planOut, r3, planRun, planStep, e0, e1, e2, hs0, hs1, hs2, List.map_cons, List.map_nil, hg1, hg2, hr, k00, k10, k11, k20, k21, k22]
    have a1 : s = 0 ∨ s = 1 ∨ s = 2 := by omega
    have a2 : t = 1 ∨ t = 2 := by omega
    rcases a1 with rfl | rfl | rfl <;> rcases a2 with rfl | rfl <;> simp [exch, r3, sg3]
  have fin : ∀ (p : List Nat) (l1 l2 : Int), luOut 3 (wrM 12 (numsOf 3 p [[2, 0, 0], [l1, 2, 0], [l2, r, 2]] (upM 3 a b c x y z))) = S2 (qv 6 a) (qv 6 x) (qv 6 y) (qv 6 b) (qv 6 z) (qv 6 c) (qv 2 l1) (qv 2 l2) (qv 2 r) p →
      exch (exch [0, 1, 2] 0 s 0) 1 t 0 = p → (if t = 1 then g1 else g2) = l1 → (if t = 1 then g2 else g1) = l2 → Good 3 (upM 3 a b c x y z) turns ks := by
    intro p l1 l2 e ep el1 el2
    constructor <;> rw [hp] <;> simp only <;> rw [ep, el1, el2, e]
    · rfl
    · simp [S2, diagL, r3, wrM, wrow]
      simp [qv_eq]
      grind
    · simp [S2, wrM, wrow, hu]
      simp [qv_eq]
      grind
  refine ⟨?_, ⟨s, t, by omega, by omega, by omega, by rw [hp], by rw [hp]⟩, _, _, r, by rw [hp], by split <;> assumption, by split <;> assumption, d3⟩
  have nz : ∀ {v : Int}, v ≠ 0 → qv 6 v ≠ 0 := fun h q => h ((qv_zero (by decide)).mp q)
  have zz : ∀ {v : Int}, v = 0 → qv 6 v = 0 := fun h => (qv_zero (by decide)).mpr h
  have z2 : ∀ {v : Int}, v = 0 → qv 2 v = 0 := fun h => (qv_zero (by decide)).mpr h
  -- the rows
  have R : ∀ (p : List Nat) (l1 l2 : Int), wrM 12 (numsOf 3 p [[2, 0, 0], [l1, 2, 0], [l2, r, 2]] (upM 3 a b c x y z)) = [0, 1, 2].map (fun k => [[qv 6 a, qv 6 x, qv 6 y], [qv 2 l1 * qv 6 a, qv 2 l1 * qv 6 x + qv 6 b, qv 2 l1 * qv 6 y + qv 6 z], [qv 2 l2 * qv 6 a, qv 2 l2 * qv 6 x + qv 2 r * qv 6 b, qv 2 l2 * qv 6 y + (qv 2 r * qv 6 z + qv 6 c)]].getD (p.idxOf k) [0, 0, 0]) := by
    intro p l1 l2
    have key : ∀ i : Nat, [0, 1, 2].map (fun j => qv 12 (dotI [[2, 0, 0], [l1, 2, 0], [l2, r, 2]] [[a, x, y], [0, b, z], [0, 0, c]] i j [0, 1, 2] 0)) = [[qv 6 a, qv 6 x, qv 6 y], [qv 2 l1 * qv 6 a, qv 2 l1 * qv 6 x + qv 6 b, qv 2 l1 * qv 6 y + qv 6 z], [qv 2 l2 * qv 6 a, qv 2 l2 * qv 6 x + qv 2 r * qv 6 b, qv 2 l2 * qv 6 y + (qv 2 r * qv 6 z + qv 6 c)]].getD i [0, 0, 0] := by
      intro i
      rcases i with _ | _ | _ | i
      · simp [dotI, iat, qv_eq]; grind
      · simp [dotI, iat, qv_eq]; grind
      · simp [dotI, iat, qv_eq]; grind
      · simp [dotI, iat, qv_eq]; grind
    simp only [wrM, numsOf, wrow, hu, r3, List.map_map]
    apply List.map_congr_left
    intro k _
    exact key (p.idxOf k)
  have L : ∀ m p l1 l2, (luStep 3 2 (luStep 3 1 (luStep 3 0 ⟨m, zeros 3, [0, 1, 2]⟩)) = S2 (qv 6 a) (qv 6 x) (qv 6 y) (qv 6 b) (qv 6 z) (qv 6 c) (qv 2 l1) (qv 2 l2) (qv 2 r) p) → luOut 3 m = S2 (qv 6 a) (qv 6 x) (qv 6 y) (qv 6 b) (qv 6 z) (qv 6 c) (qv 2 l1) (qv 2 l2) (qv 2 r) p := fun m p l1 l2 e => e
  have a1 : s = 0 ∨ s = 1 ∨ s = 2 := by omega
  have a2 : t = 1 ∨ t = 2 := by omega
  rcases a1 with rfl | rfl | rfl <;> rcases a2 with rfl | rfl
  · refine fin [0, 1, 2] g1 g2 ((congrArg (luOut 3) (R [0, 1, 2] g1 g2)).trans (L [[qv 6 a, qv 6 x, qv 6 y], [qv 2 g1 * qv 6 a, qv 2 g1 * qv 6 x + qv 6 b, qv 2 g1 * qv 6 y + qv 6 z], [qv 2 g2 * qv 6 a, qv 2 g2 * qv 6 x + qv 2 r * qv 6 b, qv 2 g2 * qv 6 y + (qv 2 r * qv 6 z + qv 6 c)]] [0, 1, 2] g1 g2 ?_)) rfl rfl rfl
    by_cases ha : a = 0
    · rw [s0_n (zz ha) (z2 (hk1 (.inl ha))) (z2 (hk2 (.inl ha)))]
      by_cases hb : b = 0
      · rw [s1_n (zz hb) (z2 (hr0 (.inl hb))), s2]
      · rw [s1_1 (nz hb), s2]
    · rw [s0_0 (nz ha)]
      by_cases hb : b = 0
      · rw [s1_n (zz hb) (z2 (hr0 (.inl hb))), s2]
      · rw [s1_1 (nz hb), s2]
  · refine fin [0, 2, 1] g2 g1 ((congrArg (luOut 3) (R [0, 2, 1] g2 g1)).trans (L [[qv 6 a, qv 6 x, qv 6 y], [qv 2 g1 * qv 6 a, qv 2 g1 * qv 6 x + qv 2 r * qv 6 b, qv 2 g1 * qv 6 y + (qv 2 r * qv 6 z + qv 6 c)], [qv 2 g2 * qv 6 a, qv 2 g2 * qv 6 x + qv 6 b, qv 2 g2 * qv 6 y + qv 6 z]] [0, 2, 1] g2 g1 ?_)) rfl rfl rfl
    have hb : b ≠ 0 := fun q => absurd (zb q) (by decide)
    by_cases ha : a = 0
    · rw [s0_n (zz ha) (z2 (hk1 (.inl ha))) (z2 (hk2 (.inl ha)))]
      rw [s1_2 (nz hb) (z2 (hr0 (.inr (by decide)))), s2]
    · rw [s0_0 (nz ha)]
      rw [s1_2 (nz hb) (z2 (hr0 (.inr (by decide)))), s2]
  · refine fin [1, 0, 2] g1 g2 ((congrArg (luOut 3) (R [1, 0, 2] g1 g2)).trans (L [[qv 2 g1 * qv 6 a, qv 2 g1 * qv 6 x + qv 6 b, qv 2 g1 * qv 6 y + qv 6 z], [qv 6 a, qv 6 x, qv 6 y], [qv 2 g2 * qv 6 a, qv 2 g2 * qv 6 x + qv 2 r * qv 6 b, qv 2 g2 * qv 6 y + (qv 2 r * qv 6 z + qv 6 c)]] [1, 0, 2] g1 g2 ?_)) rfl rfl rfl
    have ha : a ≠ 0 := fun q => absurd (za q) (by decide)
    · rw [s0_1 (nz ha) (z2 (hk1 (.inr (by decide))))]
      by_cases hb : b = 0
      · rw [s1_n (zz hb) (z2 (hr0 (.inl hb))), s2]
      · rw [s1_1 (nz hb), s2]
  · refine fin [1, 2, 0] g2 g1 ((congrArg (luOut 3) (R [1, 2, 0] g2 g1)).trans (L [[qv 2 g1 * qv 6 a, qv 2 g1 * qv 6 x + qv 2 r * qv 6 b, qv 2 g1 * qv 6 y + (qv 2 r * qv 6 z + qv 6 c)], [qv 6 a, qv 6 x, qv 6 y], [qv 2 g2 * qv 6 a, qv 2 g2 * qv 6 x + qv 6 b, qv 2 g2 * qv 6 y + qv 6 z]] [1, 2, 0] g2 g1 ?_)) rfl rfl rfl
    have hb : b ≠ 0 := fun q => absurd (zb q) (by decide)
    have ha : a ≠ 0 := fun q => absurd (za q) (by decide)
    · rw [s0_1 (nz ha) (z2 (hk1 (.inr (by decide))))]
      rw [s1_2 (nz hb) (z2 (hr0 (.inr (by decide)))), s2]
  · refine fin [2, 1, 0] g1 g2 ((congrArg (luOut 3) (R [2, 1, 0] g1 g2)).trans (L [[qv 2 g2 * qv 6 a, qv 2 g2 * qv 6 x + qv 2 r * qv 6 b, qv 2 g2 * qv 6 y + (qv 2 r * qv 6 z + qv 6 c)], [qv 2 g1 * qv 6 a, qv 2 g1 * qv 6 x + qv 6 b, qv 2 g1 * qv 6 y + qv 6 z], [qv 6 a, qv 6 x, qv 6 y]] [2, 1, 0] g1 g2 ?_)) rfl rfl rfl
    have ha : a ≠ 0 := fun q => absurd (za q) (by decide)
    · rw [s0_2 (nz ha) (z2 (hk1 (.inr (by decide)))) (z2 (hk2 (.inr (by decide))))]
      by_cases hb : b = 0
      · rw [s1_n (zz hb) (z2 (hr0 (.inl hb))), s2]
      · rw [s1_1 (nz hb), s2]
  · refine fin [2, 0, 1] g2 g1 ((congrArg (luOut 3) (R [2, 0, 1] g2 g1)).trans (L [[qv 2 g2 * qv 6 a, qv 2 g2 * qv 6 x + qv 6 b, qv 2 g2 * qv 6 y + qv 6 z], [qv 2 g1 * qv 6 a, qv 2 g1 * qv 6 x + qv 2 r * qv 6 b, qv 2 g1 * qv 6 y + (qv 2 r * qv 6 z + qv 6 c)], [qv 6 a, qv 6 x, qv 6 y]] [2, 0, 1] g2 g1 ?_)) rfl rfl rfl
    have hb : b ≠ 0 := fun q => absurd (zb q) (by decide)
    have ha : a ≠ 0 := fun q => absurd (za q) (by decide)
    · rw [s0_2 (nz ha) (z2 (hk1 (.inr (by decide)))) (z2 (hk2 (.inr (by decide))))]
      rw [s1_2 (nz hb) (z2 (hr0 (.inr (by decide)))), s2]
end Mine
end
section
set_option maxRecDepth 100000
namespace Mine
open PySem

noncomputable def i3 : PSs := (.cons (.ite (.not (.isInt (.var 3))) (.cons (.ret (.lit (.bool false))) .nil) .nil) .nil)
noncomputable def i2 : PSs := (.cons (.for_ [3] (.of (.var 2)) i3) .nil)
noncomputable def i1 : PSs := (.cons (.for_ [2] (.of (.var 1)) i2) .nil)
noncomputable def IntsV (v : PyData) : Prop := ∃ is : List Int, itemsD v = some (is.map PyData.int) ∧ is.length ≤ 900
theorem in3 {s0 s1 s2 : Slot} : ∀ (is : List Int) (s3 : Slot), ∃ s3', forL (fun g => evSs (tower fs7 100 22) 100 false g i3) [3] (is.map PyData.int) [s0, s1, s2, s3] = some (.next, [s0, s1, s2, s3'])
  | [], s3 => ⟨s3, rfl⟩
  | i :: is, s3 => by
    obtain ⟨s3', e⟩ := in3 (s0 := s0) (s1 := s1) (s2 := s2) is (.pl (.int i))
    exact ⟨s3', fl_cons (st_else (ev_notint (i := i) (l := 0) (ev_var rfl)) st_nil) e⟩
theorem in2 {s0 s1 : Slot} : ∀ (vs : List PyData) (s2 s3 : Slot), (∀ v ∈ vs, IntsV v) → ∃ s2' s3', forL (fun g => evSs (tower fs7 100 22) 100 false g i2) [2] vs [s0, s1, s2, s3] = some (.next, [s0, s1, s2', s3'])
  | [], s2, s3, _ => ⟨s2, s3, rfl⟩
  | v :: vs, s2, s3, h => by
    have hll : (1000 : Nat) ≤ lenLim := by unfold lenLim; decide
    obtain ⟨is, h1, h2⟩ := h v (.head _)
    obtain ⟨a3, e⟩ := in3 (s0 := s0) (s1 := s1) (s2 := .pl v) is s3
    obtain ⟨b2, b3, er⟩ := in2 (s0 := s0) (s1 := s1) vs (.pl v) a3 (fun x hx => h x (.tail _ hx))
    exact ⟨b2, b3, fl_cons (st_for (ev_of (ev_var rfl) h1 (by simp; omega)) e st_nil) er⟩
theorem in1 {s0 : Slot} : ∀ (rows : List (List PyData)) (s1 s2 s3 : Slot), (∀ r ∈ rows, r.length ≤ 900 ∧ ∀ v ∈ r, IntsV v) → ∃ s1' s2' s3', forL (fun g => evSs (tower fs7 100 22) 100 false g i1) [1] (rows.map PyData.list) [s0, s1, s2, s3] = some (.next, [s0, s1', s2', s3'])
  | [], s1, s2, s3, _ => ⟨s1, s2, s3, rfl⟩
  | r :: rows, s1, s2, s3, h => by
    have hll : (1000 : Nat) ≤ lenLim := by unfold lenLim; decide
    obtain ⟨h1, h2⟩ := h r (.head _)
    obtain ⟨a2, a3, e⟩ := in2 (s0 := s0) (s1 := .pl (.list r)) r s2 s3 h2
    obtain ⟨b1, b2, b3, er⟩ := in1 (s0 := s0) rows (.pl (.list r)) a2 a3 (fun x hx => h x (.tail _ hx))
    exact ⟨b1, b2, b3, fl_cons (st_for (ev_of (ev_var rfl) rfl (by omega)) e st_nil) er⟩
theorem ints_ok {K : Nat} (hK : 22 < K) {rows : List (List PyData)} (hl : rows.length ≤ 900) (h : ∀ r ∈ rows, r.length ≤ 900 ∧ ∀ v ∈ r, IntsV v) : tower fs7 100 K 22 [rowsL rows] = some (.ret (.bool true) 0) := by
  rw [tower_at (f := f7_22) rfl hK]
  have hll : (1000 : Nat) ≤ lenLim := by unfold lenLim; decide
  obtain ⟨b1, b2, b3, er⟩ := in1 (s0 := .pl (rowsL rows)) rows .un .un .un h
  apply evF_ret rfl
  exact st_for (ev_of (ev_var rfl) rfl (by simp; omega)) er (st_ret ev_lit)
theorem intsV_fq (q : Rat) : IntsV (fq q) := ⟨[q.num, q.den], rfl, by simp⟩
theorem intsV_list {is : List Int} (h : is.length ≤ 900) : IntsV (.list (is.map PyData.int)) := ⟨is, rfl, h⟩

theorem sign_at {K : Nat} (hK : 12 < K) (args : List PyData) : tower fs7 100 K 12 args = tower fs7 100 13 12 args := by
  rw [tower_at (f := f7_12) rfl hK, tower_at (f := f7_12) rfl (show 12 < 13 by decide)]
theorem sign0 : tower fs7 100 13 12 [.list (permD [])] = some (.ret (.int 1) 0) := by kernel_rfl
theorem sign1 : tower fs7 100 13 12 [.list (permD [0])] = some (.ret (.int 1) 0) := by kernel_rfl
theorem sign2 : tower fs7 100 13 12 [.list (permD [0, 1])] = some (.ret (.int 1) 0) ∧ tower fs7 100 13 12 [.list (permD [1, 0])] = some (.ret (.int (-1)) 0) := ⟨by kernel_rfl, by kernel_rfl⟩
theorem sign3 {s t : Nat} (hs : s ≤ 2) (h1 : 1 ≤ t) (ht : t ≤ 2) : tower fs7 100 13 12 [.list (permD (exch (exch [0, 1, 2] 0 s 0) 1 t 0))] = some (.ret (.int (sg3 s t)) 0) := by
  have a1 : s = 0 ∨ s = 1 ∨ s = 2 := by omega
  have a2 : t = 1 ∨ t = 2 := by omega
  rcases a1 with rfl | rfl | rfl <;> rcases a2 with rfl | rfl <;> kernel_rfl
end Mine
end
section
set_option maxRecDepth 100000
namespace Mine
open PySem

/-! data that == meets -/
noncomputable def Sh (k : Nat) (d : PyData) : Prop := d.canLay0 = true ∧ d.depth ≤ k
theorem Sh.shaped {k : Nat} {d : PyData} (h : Sh k d) (hk : k ≤ 64) : SeqAt.shaped d = true := by
  unfold SeqAt.shaped
  rw [h.1, Bool.true_and]
  exact decide_eq_true (Nat.le_trans h.2 hk)
theorem sh_all {k : Nat} : ∀ {xs : List PyData}, (∀ x ∈ xs, Sh k x) → PyData.canLayAll0 xs = true ∧ PyData.depthAll xs ≤ k
  | [], _ => ⟨rfl, Nat.zero_le _⟩
  | x :: xs, h => by
    obtain ⟨h1, h2⟩ := sh_all fun y hy => h y (.tail _ hy)
    obtain ⟨h3, h4⟩ := h x (.head _)
    refine ⟨by simp [PyData.canLayAll0, h1, h3], ?_⟩
    simp only [PyData.depthAll]
    omega
theorem Sh.list {k : Nat} {xs : List PyData} (h : ∀ x ∈ xs, Sh k x) : Sh (k + 1) (.list xs) := by
  obtain ⟨h1, h2⟩ := sh_all h
  exact ⟨by simp [PyData.canLay0, h1], by simp only [PyData.depth]; omega⟩
theorem Sh.tuple {k : Nat} {xs : List PyData} (h : ∀ x ∈ xs, Sh k x) : Sh (k + 1) (.tuple xs) := by
  obtain ⟨h1, h2⟩ := sh_all h
  exact ⟨by simp [PyData.canLay0, h1], by simp only [PyData.depth]; omega⟩
theorem Sh.int (i : Int) : Sh 0 (.int i) := ⟨rfl, Nat.le_refl _⟩
theorem Sh.mono {i j : Nat} (h : i ≤ j) {d : PyData} (x : Sh i d) : Sh j d := ⟨x.1, Nat.le_trans x.2 h⟩
theorem Sh.fq (q : Rat) : Sh 1 (fq q) := Sh.tuple fun x hx => by
  simp only [List.mem_cons, List.not_mem_nil, or_false] at hx
  rcases hx with rfl | rfl <;> exact Sh.int _
theorem Sh.rows {k : Nat} {rows : List (List PyData)} (h : ∀ r ∈ rows, ∀ x ∈ r, Sh k x) : Sh (k + 2) (rowsL rows) := Sh.list fun x hx => by
  obtain ⟨r, hr, rfl⟩ := List.mem_map.mp hx
  exact Sh.list (h r hr)
theorem Sh.encM (m : List (List Rat)) : Sh 3 (encM m) := Sh.rows fun r hr x hx => by
  obtain ⟨r', _, rfl⟩ := List.mem_map.mp hr
  obtain ⟨q, _, rfl⟩ := List.mem_map.mp hx
  exact Sh.fq q
theorem Sh.intM (m : List (List Int)) : Sh 2 (intM m) := Sh.rows fun r hr x hx => by
  obtain ⟨r', _, rfl⟩ := List.mem_map.mp hr
  obtain ⟨q, _, rfl⟩ := List.mem_map.mp hx
  exact Sh.int q
theorem Sh.permD (p : List Nat) : Sh 1 (.list (permD p)) := Sh.list fun x hx => by
  obtain ⟨q, _, rfl⟩ := List.mem_map.mp hx
  exact Sh.int _
theorem strOk_ofString (s : String) : PyData.strOk (Str.ofString s) = true := by
  rw [Str.ofString_eq_toList]
  unfold PyData.strOk
  rw [Array.all_eq_true]
  intro i hi
  simp only [List.size_toArray, List.length_map] at hi
  simp only [List.getElem_toArray, List.getElem_map, decide_eq_true_eq]
  have := (s.toList[i]).valid
  have h2 : (s.toList[i]).toNat < 0x110000 := by
    rcases this with h | h
    · exact Nat.lt_trans h (by decide)
    · exact h.2
  exact h2
theorem strOk_app {a b : Str} (ha : PyData.strOk a = true) (hb : PyData.strOk b = true) : PyData.strOk (a ++ b) = true := by
  show (a.cps ++ b.cps).all _ = true
  rw [Array.all_append]
  unfold PyData.strOk at ha hb
  rw [ha, hb]; rfl
theorem Sh.txt (q : Rat) : Sh 0 (.str (txt q)) := by
  refine ⟨?_, Nat.le_refl _⟩
  show PyData.strOk _ = true
  unfold Mine.txt
  split
  · exact strOk_ofString _
  · exact strOk_app (strOk_app (strOk_ofString _) (strOk_ofString _)) (strOk_ofString _)
theorem Sh.txM (d : Int) (m : List (List Int)) : Sh 2 (txM d m) := Sh.rows fun r hr x hx => by
  obtain ⟨r', _, rfl⟩ := List.mem_map.mp hr
  obtain ⟨q, _, rfl⟩ := List.mem_map.mp hx
  exact Sh.txt _
theorem ne_self {k : Nat} {d : PyData} (h : Sh k d) (hk : k ≤ 64) : cmpD .ne d d = some false := by
  refine (if_pos (by rw [h.shaped hk]; rfl)).trans ?_
  rw [SeqAt.eqv_refl d h.1]; rfl
end Mine
end
section
set_option maxRecDepth 100000
namespace Mine
open PySem

theorem iat_bd {m : List (List Int)} {B : Nat} (h : ∀ r ∈ m, ∀ v ∈ r, v.natAbs ≤ B) (i j : Nat) : (iat m i j).natAbs ≤ B := by
  unfold iat
  cases e : m[i]? with
  | none =>
    have q : m.getD i [] = [] := by rw [List.getD_eq_getElem?_getD, e]; rfl
    rw [q]
    simp
  | some r =>
    rw [getD_of e]
    cases e2 : r[j]? with
    | none => rw [List.getD_eq_getElem?_getD, e2]; simp
    | some v => rw [getD_of e2]; exact h r (List.mem_of_getElem? e) v (List.mem_of_getElem? e2)
theorem dot_bd {h u : List (List Int)} {i j : Nat} (bh : ∀ i c, (iat h i c).natAbs ≤ 3) (bu : ∀ c j, (iat u c j).natAbs ≤ 1000) : ∀ (cs : List Nat) (t : Int), (dotI h u i j cs t).natAbs ≤ t.natAbs + 3000 * cs.length
  | [], t => Nat.le_refl _
  | c :: cs, t => by
    have h1 := dot_bd (i := i) (j := j) bh bu cs (t + iat h i c * iat u c j)
    have h2 : (iat h i c * iat u c j).natAbs ≤ 3 * 1000 := by rw [Int.natAbs_mul]; exact Nat.mul_le_mul (bh i c) (bu c j)
    have h3 := Int.natAbs_add_le t (iat h i c * iat u c j)
    show (dotI h u i j cs (t + iat h i c * iat u c j)).natAbs ≤ _
    simp only [List.length_cons]
    omega
theorem nums_bd {n : Nat} (hn : n ≤ 3) {order : List Nat} {h u : List (List Int)} (bh : ∀ i c, (iat h i c).natAbs ≤ 3) (bu : ∀ c j, (iat u c j).natAbs ≤ 1000) : ∀ r ∈ numsOf n order h u, r.length = n ∧ ∀ v ∈ r, v.natAbs ≤ 9000 := by
  intro r hr
  unfold numsOf at hr
  obtain ⟨k, _, rfl⟩ := List.mem_map.mp hr
  refine ⟨by simp, fun v hv => ?_⟩
  obtain ⟨j, _, rfl⟩ := List.mem_map.mp hv
  have := dot_bd (i := order.idxOf k) (j := j) bh bu (List.range n) 0
  simp only [List.length_range] at this
  simp at this
  omega

/-- what the law's first half comes to -/
structure Fx (n : Nat) (u : List (List Int)) (P : PlS) : Prop where
  uu : SqI n u
  ub : ∀ r ∈ u, ∀ v ∈ r, v.natAbs ≤ 1000
  h : SqI n P.halves
  hb : ∀ r ∈ P.halves, ∀ v ∈ r, v.natAbs ≤ 3
  ol : P.order.length = n
  prod : ∀ K, 20 < K → tower fs7 100 K 20 [.list (permD P.order), intM P.halves, intM u] = some (.ret (intM (numsOf n P.order P.halves u)) 1)
  lu : ∀ K, 13 < K → tower fs7 100 K 13 [encM (wrM 12 (numsOf n P.order P.halves u))] = some (.ret (.tuple [.list (permD P.order), encM (wrM 2 P.halves), encM (wrM 6 u)]) 0)
  sign : ∀ K, 12 < K → tower fs7 100 K 12 [.list (permD P.order)] = some (.ret (.int P.sign) 0)

theorem fx_of {n : Nat} (hn : n ≤ 3) {u : List (List Int)} {P : PlS} (hu : SqI n u) (ub : ∀ r ∈ u, ∀ v ∈ r, v.natAbs ≤ 1000) (hh : SqI n P.halves) (hb : ∀ r ∈ P.halves, ∀ v ∈ r, v.natAbs ≤ 3) (ol : P.order.length = n)
    (ho : ∀ r, r < n → mthD .index (.list (permD P.order)) (.int (r : Int)) = some (.int ((P.order.idxOf r : Nat) : Int), 0) ∧ P.order.idxOf r < n)
    (lu : 1 ≤ n → (luOut n (wrM 12 (numsOf n P.order P.halves u))).perm = P.order ∧ diagL (List.range n) (luOut n (wrM 12 (numsOf n P.order P.halves u))).low = wrM 2 P.halves ∧ (luOut n (wrM 12 (numsOf n P.order P.halves u))).up = wrM 6 u)
    (lu0 : n = 0 → u = [] ∧ P.halves = [] ∧ P.order = [])
    (sg : tower fs7 100 13 12 [.list (permD P.order)] = some (.ret (.int P.sign) 0)) : Fx n u P := by
  have bh : BdI P.halves := ⟨fun i j => Nat.lt_of_le_of_lt (iat_bd hb i j) (by decide)⟩
  have bu : BdI u := ⟨fun i j => Nat.lt_of_le_of_lt (iat_bd ub i j) (by decide)⟩
  refine ⟨hu, ub, hh, hb, ol, fun K hK => product_ok hK hn hh hu bh bu ol ho, fun K hK => ?_, fun K hK => (sign_at hK _).trans sg⟩
  by_cases h1 : 1 ≤ n
  · obtain ⟨q1, q2, q3⟩ := lu h1
    have hnb := nums_bd hn (order := P.order) (iat_bd hb) (iat_bd ub)
    have sq : Sq n (wrM 12 (numsOf n P.order P.halves u)) := ⟨by simp [wrM, numsOf], fun r hr => by
      obtain ⟨r', hr', rfl⟩ := List.mem_map.mp hr
      simp [wrow, (hnb r' hr').1]⟩
    have bd : BdM 20 (wrM 12 (numsOf n P.order P.halves u)) := fun r hr x hx => by
      obtain ⟨r', hr', rfl⟩ := List.mem_map.mp hr
      obtain ⟨v, hv, rfl⟩ := List.mem_map.mp hx
      exact Bd.divInt (by decide) (Nat.lt_of_le_of_lt ((hnb r' hr').2 v hv) (by decide)) (by decide)
    rw [lu_ok hK h1 hn sq bd, q1, q2, q3]
  · have : n = 0 := by omega
    subst this
    obtain ⟨rfl, e2, e3⟩ := lu0 rfl
    rw [e2, e3, tower_at (f := f7_13) rfl hK]
    rfl
end Mine
end
section
set_option maxRecDepth 100000
namespace Mine
open PySem

theorem idx_perm3 {s t : Nat} (hs : s ≤ 2) (h1 : 1 ≤ t) (ht : t ≤ 2) : (exch (exch [0, 1, 2] 0 s 0) 1 t 0).length = 3 ∧ ∀ r : Nat, r < 3 → mthD .index (.list (permD (exch (exch [0, 1, 2] 0 s 0) 1 t 0))) (.int (r : Int)) = some (.int (((exch (exch [0, 1, 2] 0 s 0) 1 t 0).idxOf r : Nat) : Int), 0) ∧ (exch (exch [0, 1, 2] 0 s 0) 1 t 0).idxOf r < 3 := by
  have a1 : s = 0 ∨ s = 1 ∨ s = 2 := by omega
  have a2 : t = 1 ∨ t = 2 := by omega
  rcases a1 with rfl | rfl | rfl <;> rcases a2 with rfl | rfl <;> refine ⟨rfl, fun r hr => ?_⟩ <;> (have a3 : r = 0 ∨ r = 1 ∨ r = 2 := by omega) <;> rcases a3 with rfl | rfl | rfl <;> exact ⟨by kernel_rfl, by decide⟩
theorem upM_bd {n : Nat} {a b c x y z : Int} (ha : a.natAbs ≤ 1000) (hb : b.natAbs ≤ 1000) (hc : c.natAbs ≤ 1000) (hx : x.natAbs ≤ 1000) (hy : y.natAbs ≤ 1000) (hz : z.natAbs ≤ 1000) : ∀ r ∈ upM n a b c x y z, ∀ v ∈ r, v.natAbs ≤ 1000 := by
  intro r hr v hv
  unfold upM at hr
  obtain ⟨r', hr', rfl⟩ := List.mem_map.mp hr
  have hr' := List.mem_of_mem_take hr'
  have hv := List.mem_of_mem_take hv
  simp only [List.mem_cons, List.not_mem_nil, or_false] at hr'
  rcases hr' with rfl | rfl | rfl <;> simp only [List.mem_cons, List.not_mem_nil, or_false] at hv <;> rcases hv with rfl | rfl | rfl <;> first | assumption | exact Nat.zero_le _

theorem fx_all {n : Nat} (hn : n ≤ 3) {a b c x y z : Int} (ha : a.natAbs ≤ 1000) (hb : b.natAbs ≤ 1000) (hc : c.natAbs ≤ 1000) (hx : x.natAbs ≤ 1000) (hy : y.natAbs ≤ 1000) (hz : z.natAbs ≤ 1000) (turns ks : List Int) :
    Fx n (upM n a b c x y z) (planOut n (upM n a b c x y z) turns ks) := by
  have ub := upM_bd (n := n) ha hb hc hx hy hz
  have hu := sq_upM hn a b c x y z
  have h4 : n = 0 ∨ n = 1 ∨ n = 2 ∨ n = 3 := by omega
  rcases h4 with rfl | rfl | rfl | rfl
  · exact fx_of (by decide) hu ub ⟨rfl, fun r hr => by cases hr⟩ (fun r hr => by cases hr) rfl (fun r hr => absurd hr (Nat.not_lt_zero _)) (fun h => absurd h (by decide)) (fun _ => ⟨rfl, rfl, rfl⟩) sign0
  · obtain ⟨⟨g1, g2, g3⟩, ho, hs⟩ := good1 a b c x y z turns ks
    have hh : (planOut 1 (upM 1 a b c x y z) turns ks).halves = [[2]] := by
      have hs : sOf 1 0 a (turns.getD 0 0) = 0 := by have := sOf_lt (n := 1) (c := 0) (by decide) a (turns.getD 0 0); omega
      have e : iat (upM 1 a b c x y z) 0 0 = a := rfl
      simp only [planOut, r1, planRun, planStep, e, hs]
      simp [exch, kOf, r1]
    refine fx_of (by decide) hu ub ?_ ?_ (by rw [ho]; rfl) ?_ (fun _ => ⟨g1, g2, g3⟩) (fun h => absurd h (by decide)) (by rw [ho, hs]; exact sign1)
    · rw [hh]; exact ⟨rfl, fun r hr => by simp at hr; subst hr; rfl⟩
    · rw [hh]; intro r hr v hv; simp at hr; subst hr; simp at hv; subst hv; decide
    · rw [ho]; intro r hr; have : r = 0 := by omega
      subst this; exact ⟨by kernel_rfl, by decide⟩
  · obtain ⟨⟨g1, g2, g3⟩, ho, h, hh, hb3⟩ := good2 a b c x y z turns ks
    refine fx_of (by decide) hu ub ?_ ?_ ?_ ?_ (fun _ => ⟨g1, g2, g3⟩) (fun h => absurd h (by decide)) ?_
    · rw [hh]; exact ⟨rfl, fun r hr => by simp at hr; rcases hr with rfl | rfl <;> rfl⟩
    · rw [hh]; intro r hr v hv; simp at hr; rcases hr with rfl | rfl <;> simp at hv <;> rcases hv with rfl | rfl <;> first | assumption | decide
    · rcases ho with ⟨ho, _⟩ | ⟨ho, _⟩ <;> rw [ho] <;> rfl
    · rcases ho with ⟨ho, _⟩ | ⟨ho, _⟩ <;> rw [ho] <;> intro r hr <;> (have : r = 0 ∨ r = 1 := by omega) <;> rcases this with rfl | rfl <;> exact ⟨by kernel_rfl, by decide⟩
    · rcases ho with ⟨ho, hs⟩ | ⟨ho, hs⟩ <;> rw [ho, hs]
      · exact sign2.1
      · exact sign2.2
  · obtain ⟨⟨g1, g2, g3⟩, ⟨s, t, q1, q2, q3, ho, hs⟩, p, q, r, hh, d1, d2, d3⟩ := good3 a b c x y z turns ks
    obtain ⟨w1, w2⟩ := idx_perm3 q1 q2 q3
    refine fx_of (by decide) hu ub ?_ ?_ (by rw [ho]; exact w1) (by rw [ho]; exact w2) (fun _ => ⟨g1, g2, g3⟩) (fun h => absurd h (by decide)) (by rw [ho, hs]; exact sign3 q1 q2 q3)
    · rw [hh]; exact ⟨rfl, fun r hr => by simp at hr; rcases hr with rfl | rfl | rfl <;> rfl⟩
    · rw [hh]; intro r hr v hv; simp at hr; rcases hr with rfl | rfl | rfl <;> simp at hv <;> (try rcases hv with rfl | rfl | rfl) <;> (try rcases hv with rfl | rfl) <;> first | assumption | decide
end Mine
end
section
set_option maxRecDepth 100000
namespace Mine
open PySem

theorem mapM_map {α β γ : Type} {f : α → β} {F : β → Option γ} {g : α → γ} : ∀ {l : List α}, (∀ x ∈ l, F (f x) = some (g x)) → (l.map f).mapM F = some (l.map g)
  | [], _ => rfl
  | x :: l, h => by
    rw [List.map_cons, List.mapM_cons, h x (.head _)]
    simp only [Option.bind_eq_bind, Option.bind_some]
    rw [mapM_map fun y hy => h y (.tail _ hy)]
    rfl

theorem lvl_one {α : Type} {l : List α} {g : α → PyData} (h : ∀ x ∈ l, lvl2 (g x, 0) = false) : (if !(l.map fun x => (g x, 0)).isEmpty && (l.map fun x => (g x, 0)).all lvl2 then 2 else 1) = 1 := by
  cases l with
  | nil => rfl
  | cons x l =>
    rw [List.map_cons, List.all_cons, h x (.head _)]
    rfl

section
variable {Φ : Funs} {γ : Env'}
/-- a comprehension over the rows of a table, each row by a comprehension -/
theorem comp2 {α : Type} {e : PE} {it : PI} {rows : List (List α)} {f : α → PyData} {g : α → PyData} (hi : evI Φ γ it = some (rows.map fun r => .list (r.map f))) (hl : ∀ r ∈ rows, r.length ≤ 900)
    (he : ∀ r ∈ rows, ∀ x ∈ r, evE Φ (.pl (f x) :: .pl (.list (r.map f)) :: γ) e = some (g x, 0)) (h2 : ∀ r ∈ rows, ∀ x ∈ r, lvl2 (g x, 0) = false) :
    ∃ l, evE Φ γ (.comp (.comp e 1 (.of (.var 0)) .tt) 1 it .tt) = some (rowsL (rows.map (·.map g)), l) := by
  have hll : (1000 : Nat) ≤ lenLim := by unfold lenLim; decide
  have inner : ∀ r ∈ rows, evE Φ (.pl (.list (r.map f)) :: γ) (.comp e 1 (.of (.var 0)) .tt) = some (.list (r.map g), 1) := fun r hr => by
    have m := mapM_map (f := f) (F := fun d => evE Φ (.pl d :: .pl (.list (r.map f)) :: γ) e) (g := fun x => (g x, 0)) (l := r) (he r hr)
    have hlr := hl r hr
    rw [ev_comp (ev_of (ev_var rfl) rfl (by simp; omega)) m, lvl_one (h2 r hr), List.map_map]
    rfl
  have m := mapM_map (f := fun r => PyData.list (r.map f)) (F := fun d => evE Φ (.pl d :: γ) (.comp e 1 (.of (.var 0)) .tt)) (g := fun r => (PyData.list (r.map g), 1)) (l := rows) inner
  have e1 : (rows.map fun r => (PyData.list (r.map g), 1)).map (·.1) = (rows.map (·.map g)).map PyData.list := by
    rw [List.map_map, List.map_map]; rfl
  have e2 := ev_comp (n := 1) (c := .tt) hi m
  rw [e1] at e2
  exact ⟨_, e2⟩
theorem add_rows {a b : List (List PyData)} (h : a.length + b.length ≤ 900) : binD .add (rowsL a) (rowsL b) = some (rowsL (a ++ b), 1) := by
  have hll : (1000 : Nat) ≤ lenLim := by unfold lenLim; decide
  refine (if_pos (by simp only [List.length_map]; omega)).trans ?_
  unfold rowsL
  rw [List.map_append]
end

theorem m_comp {γ : Env'} {nums : List (List Int)} (h7 : γ[7]? = some (.pl (intM nums))) (hl : nums.length ≤ 900) (hr : ∀ r ∈ nums, r.length ≤ 900 ∧ ∀ v ∈ r, v.natAbs ≤ 9000) :
    ∃ l, evE (tower fs7 100 23) γ (.comp (.comp (.call 3 (.cons (.var 0) (.cons (.lit (.int 12)) .nil))) 1 (.of (.var 0)) .tt) 1 (.of (.var 7)) .tt) = some (encM (wrM 12 nums), l) := by
  have hll : (1000 : Nat) ≤ lenLim := by unfold lenLim; decide
  have e1 : intM nums = .list (nums.map fun r => .list (r.map PyData.int)) := by unfold intM rowsL; rw [List.map_map]; rfl
  obtain ⟨l, e⟩ := comp2 (Φ := tower fs7 100 23) (γ := γ) (e := .call 3 (.cons (.var 0) (.cons (.lit (.int 12)) .nil))) (it := .of (.var 7)) (rows := nums) (f := PyData.int) (g := fun v => fq (qv 12 v)) (ev_of (ev_var h7) (by rw [e1]; rfl) (by simp; omega)) (fun r h => (hr r h).1)
    (fun r h v hv => ev_call (es_cons (ev_var rfl) (es_cons ev_lit es_nil)) (frac_ok (K := 23) (by decide) (by decide) (Nat.lt_of_le_of_lt ((hr r h).2 v hv) (Nat.lt_of_lt_of_le (by decide) (Nat.pow_le_pow_right (n := 2) (by decide) (show 14 ≤ 7999 by decide)))) (Nat.lt_of_lt_of_le (by decide) (Nat.pow_le_pow_right (n := 2) (by decide) (show 4 ≤ 7999 by decide))))) (fun _ _ _ _ => rfl)
  refine ⟨l, e.trans ?_⟩
  unfold encM wrM wrow
  rw [List.map_map]
  simp only [Function.comp_def, List.map_map]

theorem t_comp {γ : Env'} {A B C : List (List Rat)} (h14 : γ[14]? = some (.pl (encM A))) (h17 : γ[17]? = some (.pl (encM B))) (h18 : γ[18]? = some (.pl (encM C))) (hl : A.length + B.length + C.length ≤ 900) (hr : ∀ r ∈ A ++ B ++ C, r.length ≤ 900 ∧ ∀ q ∈ r, Bd 100 q) :
    ∃ l, evE (tower fs7 100 23) γ (.comp (.comp (.call 8 (.cons (.var 0) .nil)) 1 (.of (.var 0)) .tt) 1 (.of (.bin .add (.bin .add (.var 14) (.var 17)) (.var 18))) .tt) = some (rowsL ((A ++ B ++ C).map (·.map fun q => .str (txt q))), l) := by
  have hll : (1000 : Nat) ≤ lenLim := by unfold lenLim; decide
  have e1 : evE (tower fs7 100 23) γ (.bin .add (.bin .add (.var 14) (.var 17)) (.var 18)) = some (rowsL ((A.map (·.map fq)) ++ (B.map (·.map fq)) ++ (C.map (·.map fq))), 1) :=
    ev_bin (ev_bin (ev_var h14) (ev_var h17) (add_rows (by simp; omega))) (ev_var h18) (add_rows (by simp; omega))
  refine comp2 (Φ := tower fs7 100 23) (γ := γ) (e := .call 8 (.cons (.var 0) .nil)) (it := .of (.bin .add (.bin .add (.var 14) (.var 17)) (.var 18))) (rows := A ++ B ++ C) (f := fq) (g := fun q => .str (txt q)) (ev_of e1 ?_ (by simp; omega)) (fun r h => (hr r h).1)
    (fun r h q hq => ev_call (es_cons (ev_var rfl) es_nil) (ftext_ok (K := 23) (by decide) ((hr r h).2 q hq))) (fun _ _ _ _ => rfl)
  unfold rowsL
  rw [← List.map_append, ← List.map_append, List.map_map]
  rfl
end Mine
end
section
set_option maxRecDepth 100000
namespace Mine
open PySem

noncomputable def rf : PyData := .str ("refused" : Str)
theorem Sh.rf : Sh 0 rf := ⟨strOk_ofString _, Nat.le_refl _⟩
noncomputable def qBody : PSs := (.cons (.asg 22 (.idx (.idx (.var 3) (.var 21)) (.var 21)))
  (.cons (.ite (.cmp .ne (.call 2 (.cons (.var 20) (.cons (.var 22) .nil))) (.call 14 (.cons (.var 20) (.cons (.var 22) .nil)))) (.cons (.ret (.lit (.bool false)))
  .nil) .nil)
  (.cons (.asg 23 (.lit (.str ("refused" : Str))))
  (.cons (.asg 24 (.lit (.str ("refused" : Str))))
  (.cons (.ite (.cmp .ne (.var 22) (.lit (.int 0))) (.cons (.asg 23 (.call 15 (.cons (.var 20) (.cons (.var 22) .nil))))
  (.cons (.asg 24 (.call 15 (.cons (.bin .mul (.lit (.int 6)) (.var 20)) (.cons (.var 22) .nil))))
  .nil)) .nil)
  (.cons (.asg 25 (.lit .none))
  (.cons (.tryC 25 3 (.cons (.var 20) (.cons (.var 22) .nil)) 0 25 (.str ("refused" : Str)))
  (.cons (.ite (.cmp .ne (.var 25) (.var 23)) (.cons (.ret (.lit (.bool false)))
  .nil) .nil)
  (.cons (.asg 26 (.lit .none))
  (.cons (.tryC 26 7 (.cons (.tup (.cons (.var 20) (.cons (.lit (.int 1)) .nil))) (.cons (.idx (.idx (.var 18) (.var 21)) (.var 21)) .nil)) 0 26 (.str ("refused" : Str)))
  (.cons (.ite (.cmp .ne (.var 26) (.var 24)) (.cons (.ret (.lit (.bool false)))
  .nil) .nil)
  .nil)))))))))))

section
variable {s0 s1 s2 s4 s5 s6 s7 s8 s9 s10 s11 s12 s13 s14 s15 s16 s17 s19 s27 s28 s29 s30 : Slot}
theorem q_loop {n : Nat} (hn : n ≤ 3) {U : List (List Int)} (hU : SqI n U) (hG : ∀ i, i < n → GD (iat U i i) ∨ iat U i i = 0) {a : Int} (ha : a.natAbs ≤ 100) : ∀ (is : List Nat) (s21 s22 s23 s24 s25 s26 : Slot), (∀ i ∈ is, i < n) →
    ∃ t21 t22 t23 t24 t25 t26, forL (fun g => evSs (tower fs7 100 23) 100 true g qBody) [21] (is.map fun (k : Nat) => PyData.int (k : Int)) [s0, s1, s2, .pl (intM U), s4, s5, s6, s7, s8, s9, s10, s11, s12, s13, s14, s15, s16, s17, .pl (encM (wrM 6 U)), s19, .pl (.int a), s21, s22, s23, s24, s25, s26, s27, s28, s29, s30] =
      some (.next, [s0, s1, s2, .pl (intM U), s4, s5, s6, s7, s8, s9, s10, s11, s12, s13, s14, s15, s16, s17, .pl (encM (wrM 6 U)), s19, .pl (.int a), t21, t22, t23, t24, t25, t26, s27, s28, s29, s30])
  | [], s21, s22, s23, s24, s25, s26, _ => ⟨s21, s22, s23, s24, s25, s26, rfl⟩
  | i :: is, s21, s22, s23, s24, s25, s26, hi => by
    have hin := hi i (.head _)
    obtain ⟨r, x1, x2⟩ := hU.at (by omega) hin hin
    have sqW : Sq n (wrM 6 U) := ⟨by simp [wrM, hU.len], fun r hr => by
      obtain ⟨r', hr', rfl⟩ := List.mem_map.mp hr
      simp [wrow, hU.row r' hr']⟩
    obtain ⟨r', y1, y2⟩ := sqW.at (by omega) hin hin
    have eat : at2 (wrM 6 U) i i = qv 6 (iat U i i) := by
      have hl : i < U.length := by rw [hU.len]; exact hin
      have hl2 : i < U[i].length := by rw [hU.row _ (List.getElem_mem hl)]; exact hin
      unfold at2 iat wrM
      rw [getD_of (x := wrow 6 U[i]) (by rw [List.getElem?_map, List.getElem?_eq_getElem hl]; rfl), getD_of (List.getElem?_eq_getElem hl), getD_of (List.getElem?_eq_getElem hl2)]
      unfold wrow
      rw [getD_of (x := qv 6 U[i][i]) (by rw [List.getElem?_map, List.getElem?_eq_getElem hl2]; rfl)]
    rw [eat] at y2
    have hg := hG i hin
    generalize iat U i i = p at x2 y2 hg
    have pb : p.natAbs < 100 := by
      rcases hg with h | h
      · unfold GD at h; omega
      · omega
    have big : ∀ {v : Nat}, v ≤ 1000 → v < 2 ^ 7999 := fun h => Nat.lt_of_le_of_lt h (Nat.lt_of_lt_of_le (by decide) (Nat.pow_le_pow_right (n := 2) (by decide) (show 10 ≤ 7999 by decide)))
    have g1 := gcd_ok (K := 23) (by decide) (a := a) (b := p) (big (by omega)) (big (by omega))
    have g2 := divisor_ok (K := 23) (by decide) (n := a) hg
    have fin : ∀ (t22 t23 t24 t25 t26 : Slot), evSs (tower fs7 100 23) 100 true [s0, s1, s2, .pl (intM U), s4, s5, s6, s7, s8, s9, s10, s11, s12, s13, s14, s15, s16, s17, .pl (encM (wrM 6 U)), s19, .pl (.int a), .pl (.int (i : Int)), s22, s23, s24, s25, s26, s27, s28, s29, s30] qBody =
        some (.next, [s0, s1, s2, .pl (intM U), s4, s5, s6, s7, s8, s9, s10, s11, s12, s13, s14, s15, s16, s17, .pl (encM (wrM 6 U)), s19, .pl (.int a), .pl (.int (i : Int)), t22, t23, t24, t25, t26, s27, s28, s29, s30]) →
        ∃ t21 t22 t23 t24 t25 t26, forL (fun g => evSs (tower fs7 100 23) 100 true g qBody) [21] ((i :: is).map fun (k : Nat) => PyData.int (k : Int)) [s0, s1, s2, .pl (intM U), s4, s5, s6, s7, s8, s9, s10, s11, s12, s13, s14, s15, s16, s17, .pl (encM (wrM 6 U)), s19, .pl (.int a), s21, s22, s23, s24, s25, s26, s27, s28, s29, s30] =
          some (.next, [s0, s1, s2, .pl (intM U), s4, s5, s6, s7, s8, s9, s10, s11, s12, s13, s14, s15, s16, s17, .pl (encM (wrM 6 U)), s19, .pl (.int a), t21, t22, t23, t24, t25, t26, s27, s28, s29, s30]) := by
      intro t22 t23 t24 t25 t26 e
      obtain ⟨b21, b22, b23, b24, b25, b26, er⟩ := q_loop hn hU hG ha is (.pl (.int (i : Int))) t22 t23 t24 t25 t26 (fun x hx => hi x (.tail _ hx))
      exact ⟨b21, b22, b23, b24, b25, b26, fl_cons e er⟩
    by_cases h0 : p = 0
    · have z : qv 6 p = 0 := (qv_zero (by decide)).mpr h0
      rw [z] at y2
      subst h0
      refine fin (.pl (.int 0)) (.pl rf) (.pl rf) (.pl rf) (.pl rf) ?_
      refine st_asg (ev_idx (ev_idx (ev_var rfl) (ev_var rfl) x1) (ev_var rfl) x2) ?_
      refine st_else (ev_cmp (ev_call (es_cons (ev_var rfl) (es_cons (ev_var rfl) es_nil)) g1) (ev_call (es_cons (ev_var rfl) (es_cons (ev_var rfl) es_nil)) g2) (ne_self (Sh.int _) (by decide))) ?_
      refine st_asg ev_lit ?_
      refine st_asg ev_lit ?_
      refine st_else (ev_cmp (ev_var rfl) ev_lit (ne_self (Sh.int 0) (by decide))) ?_
      refine st_asg ev_lit ?_
      refine st_tryX (es_cons (ev_var rfl) (es_cons (ev_var rfl) es_nil)) (frac_zero (K := 23) (by decide) a) rfl ?_
      refine st_else (ev_cmp (ev_var rfl) (ev_var rfl) (ne_self Sh.rf (by decide))) ?_
      refine st_asg ev_lit ?_
      refine st_tryX (es_cons (ev_tup (es_cons (ev_var rfl) (es_cons ev_lit es_nil))) (es_cons (ev_idx (ev_idx (ev_var rfl) (ev_var rfl) y1) (ev_var rfl) y2) es_nil)) (fdiv_zero (K := 23) (by decide) (a : Rat)) rfl ?_
      exact st_else (ev_cmp (ev_var rfl) (ev_var rfl) (ne_self Sh.rf (by decide))) st_nil
    · have hgd : GD p := hg.resolve_right h0
      have lo1 := low_ok (K := 23) (by decide) (n := a) hgd
      have lo2 := low_ok (K := 23) (by decide) (n := 6 * a) hgd
      have fr := frac_ok (K := 23) (by decide) (n := a) h0 (big (by omega)) (big (by omega))
      have z : qv 6 p ≠ 0 := fun q => h0 ((qv_zero (by decide)).mp q)
      have bA : Bd 3000 (a : Rat) := ⟨Nat.lt_of_le_of_lt (show (a : Rat).num.natAbs ≤ 100 from ha) (Nat.lt_of_lt_of_le (by decide) (Nat.pow_le_pow_right (n := 2) (by decide) (show 7 ≤ 3000 by decide))), Nat.lt_of_lt_of_le (show (a : Rat).den < 2 ^ 7 from (by decide : 1 < 2 ^ 7)) (Nat.pow_le_pow_right (n := 2) (by decide) (by decide))⟩
      have bP : Bd 3000 (qv 6 p) := Bd.mono (show 7 ≤ 3000 by decide) (Bd.divInt (by decide) (Nat.lt_trans pb (by decide)) (by decide))
      have dv := fdiv_ok (K := 23) (by decide) z bA bP
      have eq : (a : Rat) / qv 6 p = Rat.divInt (6 * a) p := by
        rw [Rat.divInt_eq_div, qv_eq]
        have h6 : (p : Rat) ≠ 0 := by intro q; exact h0 (by exact_mod_cast q)
        push_cast
        grind
      rw [eq] at dv
      refine fin (.pl (.int p)) (.pl (fq (Rat.divInt a p))) (.pl (fq (Rat.divInt (6 * a) p))) (.pl (fq (Rat.divInt a p))) (.pl (fq (Rat.divInt (6 * a) p))) ?_
      refine st_asg (ev_idx (ev_idx (ev_var rfl) (ev_var rfl) x1) (ev_var rfl) x2) ?_
      refine st_else (ev_cmp (ev_call (es_cons (ev_var rfl) (es_cons (ev_var rfl) es_nil)) g1) (ev_call (es_cons (ev_var rfl) (es_cons (ev_var rfl) es_nil)) g2) (ne_self (Sh.int _) (by decide))) ?_
      refine st_asg ev_lit ?_
      refine st_asg ev_lit ?_
      refine st_true (ev_cmp (ev_var rfl) ev_lit ((cmp_ne_int _ _).trans (congrArg (fun b => some (!b)) (decide_eq_false h0)))) (st_asg (ev_call (es_cons (ev_var rfl) (es_cons (ev_var rfl) es_nil)) lo1) (st_asg (ev_call (es_cons (ev_bin ev_lit (ev_var rfl) (mul_int (lim_gt (big (by decide))) (lim_gt (big (by omega))))) (es_cons (ev_var rfl) es_nil)) lo2) st_nil)) ?_
      refine st_asg ev_lit ?_
      refine st_try (es_cons (ev_var rfl) (es_cons (ev_var rfl) es_nil)) fr ?_
      refine st_else (ev_cmp (ev_var rfl) (ev_var rfl) (ne_self (Sh.fq _) (by decide))) ?_
      refine st_asg ev_lit ?_
      refine st_try (es_cons (ev_tup (es_cons (ev_var rfl) (es_cons ev_lit es_nil))) (es_cons (ev_idx (ev_idx (ev_var rfl) (ev_var rfl) y1) (ev_var rfl) y2) es_nil)) dv ?_
      exact st_else (ev_cmp (ev_var rfl) (ev_var rfl) (ne_self (Sh.fq _) (by decide))) st_nil
end
end Mine
end
section
set_option maxRecDepth 100000
namespace Mine
open PySem

theorem fmod_rng {v k : Int} (hk : 0 < k) : 0 ≤ v.fmod k ∧ v.fmod k < k := ⟨Int.fmod_nonneg_of_pos _ hk, Int.fmod_lt_of_pos _ hk⟩
theorem nat_of {v : Int} (h : 0 ≤ v) {k : Nat} (hk : v < (k : Int)) : ∃ n : Nat, v = (n : Int) ∧ n < k := ⟨v.toNat, (Int.toNat_of_nonneg h).symm, by omega⟩
theorem size_at : ∀ m : Nat, m < 8 → ∃ n : Nat, n ≤ 3 ∧ idxD dSizes (.int (m : Int)) = some (.int (n : Int), 0)
  | 0, _ => ⟨3, by decide, rfl⟩
  | 1, _ => ⟨0, by decide, rfl⟩
  | 2, _ => ⟨2, by decide, rfl⟩
  | 3, _ => ⟨3, by decide, rfl⟩
  | 4, _ => ⟨1, by decide, rfl⟩
  | 5, _ => ⟨3, by decide, rfl⟩
  | 6, _ => ⟨2, by decide, rfl⟩
  | 7, _ => ⟨3, by decide, rfl⟩
  | _ + 8, h => absurd h (Nat.not_lt.mpr (Nat.le_add_left _ _))
theorem sizes_ok (v : Int) : ∃ n : Nat, n ≤ 3 ∧ idxD dSizes (.int (v.fmod 8)) = some (.int (n : Int), 0) := by
  obtain ⟨h1, h2⟩ := fmod_rng (v := v) (k := 8) (by decide)
  obtain ⟨m, e, hm⟩ := nat_of h1 (k := 8) h2
  rw [e]
  exact size_at m hm
theorem piv_at : ∀ m : Nat, m < 12 → ∃ a : Int, (GD a ∨ a = 0) ∧ idxD dPivots (.int (m : Int)) = some (.int a, 0)
  | 0, _ => ⟨1, .inl (.inl rfl), rfl⟩
  | 1, _ => ⟨0, .inr rfl, rfl⟩
  | 2, _ => ⟨-2, .inl (.inr (.inr (.inr (.inr (.inr (.inr (.inr (.inr (.inl rfl))))))))), rfl⟩
  | 3, _ => ⟨3, .inl (.inr (.inr (.inl rfl))), rfl⟩
  | 4, _ => ⟨5, .inl (.inr (.inr (.inr (.inr (.inl rfl))))), rfl⟩
  | 5, _ => ⟨-6, .inl (.inr (.inr (.inr (.inr (.inr (.inr (.inr (.inr (.inr (.inr (rfl))))))))))), rfl⟩
  | 6, _ => ⟨0, .inr rfl, rfl⟩
  | 7, _ => ⟨-1, .inl (.inr (.inr (.inr (.inr (.inr (.inr (.inr (.inl rfl)))))))), rfl⟩
  | 8, _ => ⟨6, .inl (.inr (.inr (.inr (.inr (.inr (.inl rfl)))))), rfl⟩
  | 9, _ => ⟨2, .inl (.inr (.inl rfl)), rfl⟩
  | 10, _ => ⟨-5, .inl (.inr (.inr (.inr (.inr (.inr (.inr (.inr (.inr (.inr (.inl rfl)))))))))), rfl⟩
  | 11, _ => ⟨4, .inl (.inr (.inr (.inr (.inl rfl)))), rfl⟩
  | _ + 12, h => absurd h (Nat.not_lt.mpr (Nat.le_add_left _ _))
theorem pivots_ok (v : Int) : ∃ a : Int, (GD a ∨ a = 0) ∧ idxD dPivots (.int (v.fmod 12)) = some (.int a, 0) := by
  obtain ⟨h1, h2⟩ := fmod_rng (v := v) (k := 12) (by decide)
  obtain ⟨m, e, hm⟩ := nat_of h1 (k := 12) h2
  rw [e]
  exact piv_at m hm
theorem cnt_at : ∀ m : Nat, m < 5 → idxD dCounts (.int (m : Int)) = some (.int (((permsL m).length : Nat) : Int), 0)
  | 0, _ => rfl
  | 1, _ => rfl
  | 2, _ => rfl
  | 3, _ => rfl
  | 4, _ => rfl
  | _ + 5, h => absurd h (Nat.not_lt.mpr (Nat.le_add_left _ _))
theorem counts_ok (v : Int) : ∃ k : Nat, k ≤ 4 ∧ v.fmod 5 = (k : Int) ∧ idxD dCounts (.int (k : Int)) = some (.int (((permsL k).length : Nat) : Int), 0) := by
  obtain ⟨h1, h2⟩ := fmod_rng (v := v) (k := 5) (by decide)
  obtain ⟨m, e, hm⟩ := nat_of h1 (k := 5) h2
  exact ⟨m, Nat.le_of_lt_succ hm, e, cnt_at m hm⟩
theorem gd_bd {a : Int} (h : GD a ∨ a = 0) : a.natAbs ≤ 1000 := by
  rcases h with (rfl | rfl | rfl | rfl | rfl | rfl | rfl | rfl | rfl | rfl | rfl) | rfl <;> decide
theorem diag_gd {n : Nat} (hn : n ≤ 3) {a b c x y z : Int} (ha : GD a ∨ a = 0) (hb : GD b ∨ b = 0) (hc : GD c ∨ c = 0) : ∀ i, i < n → GD (iat (upM n a b c x y z) i i) ∨ iat (upM n a b c x y z) i i = 0 := by
  intro i hi
  have h4 : n = 0 ∨ n = 1 ∨ n = 2 ∨ n = 3 := by omega
  have h3 : i = 0 ∨ i = 1 ∨ i = 2 := by omega
  rcases h4 with rfl | rfl | rfl | rfl <;> rcases h3 with rfl | rfl | rfl <;> first | exact ha | exact hb | exact hc | omega
theorem perms_small {k : Nat} (hk : k ≤ 4) : (permsL k).length ≤ 24 ∧ ∀ p ∈ permsL k, p.length ≤ 4 := by
  have : k = 0 ∨ k = 1 ∨ k = 2 ∨ k = 3 ∨ k = 4 := by omega
  rcases this with rfl | rfl | rfl | rfl | rfl <;> decide +kernel

noncomputable def wdBody : PSs := (.cons (.app 28 (.call 21 (.cons (.var 29) (.cons (.var 27) .nil)))) .nil)
theorem wd_loop {pre : Env'} (hp : pre.length = 27) {k : Nat} (hk : k ≤ 4) {s30 : Slot} : ∀ (m t : Nat) (taken : List PyData) (s29 : Slot), t + m = (permsL k).length → taken.length = t →
    ∃ s29', forL (fun g => evSs (tower fs7 100 23) 100 true g wdBody) [29] ((List.range' t m).map fun (k : Nat) => PyData.int (k : Int)) (pre ++ [.pl (.int (k : Int)), .b1 taken, s29, s30]) =
      some (.next, pre ++ [.pl (.int (k : Int)), .b1 (taken ++ ((permsL k).drop t).map fun p => .list (p.map PyData.int)), s29', s30])
  | 0, t, taken, s29, h, _ => ⟨s29, by
      rw [List.drop_of_length_le (by omega)]
      simp [forL]⟩
  | m + 1, t, taken, s29, h, ht => by
    have hll : (1000 : Nat) ≤ lenLim := by unfold lenLim; decide
    have hlt : t < (permsL k).length := by omega
    have hs := (perms_small hk).1
    have ar := arr_ok (K := 23) (by decide) hk (List.getElem?_eq_getElem hlt)
    obtain ⟨s29', e⟩ := wd_loop hp hk (s30 := s30) m (t + 1) (taken ++ [.list ((permsL k)[t].map PyData.int)]) (.pl (.int (t : Int))) (by omega) (by simp [ht])
    refine ⟨s29', ?_⟩
    rw [List.range'_succ, List.map_cons]
    have d1 : (permsL k).drop t = (permsL k)[t] :: (permsL k).drop (t + 1) := List.drop_eq_getElem_cons hlt
    rw [d1, List.map_cons]
    rw [List.append_assoc] at e
    have s1 : (pre ++ [.pl (.int (k : Int)), .b1 taken, s29, s30]).set 29 (.pl (.int (t : Int))) = pre ++ [.pl (.int (k : Int)), .b1 taken, .pl (.int (t : Int)), s30] := by
      rw [List.set_append_right _ _ (by omega), hp]; rfl
    have g1 : ∀ (s : List Slot) (j : Nat), (pre ++ s)[27 + j]? = s[j]? := fun s j => by
      rw [List.getElem?_append_right (by omega), hp]
      congr 1
      omega
    refine fl_cons ?_ e
    rw [s1]
    refine st_app (ev_call (es_cons (ev_var (g1 _ 2)) (es_cons (ev_var (g1 _ 0)) es_nil)) ar) (app_b1 (g1 _ 1) (by omega)) ?_
    rw [List.set_append_right _ _ (by omega), hp]
    exact st_nil
end Mine
end
section
set_option maxRecDepth 100000
namespace Mine
open PySem

noncomputable def t7G : PSs := (.cons (.ite (.cmp .ne (.var 30) (.var 28)) (.cons (.ret (.lit (.bool false))) .nil) .nil)
  (.cons (.ite (.not (.val (.call 22 (.cons (.bin .add (.bin .add (.bin .add (.lst (.cons (.lst (.cons (.var 16) .nil)) (.cons (.var 30) .nil))) (.var 14)) (.var 17)) (.var 18)) .nil)))) (.cons (.ret (.lit (.bool false))) .nil) .nil)
  (.cons (.ite (.cmp .ne (.var 14) (.var 8)) (.cons (.ret (.lit (.bool false))) .nil) .nil)
  (.cons (.ite (.cmp .ne (.var 15) (.tup (.cons (.var 4) (.cons (.var 10) (.cons (.var 12) .nil))))) (.cons (.ret (.lit (.bool false))) .nil) .nil)
  (.cons (.ret (.lit (.bool true)))
  .nil)))))
noncomputable def t7F : PSs := (.cons (.asg 27 (.bin .mod (.idx (.var 0) (.lit (.int 13))) (.lit (.int 5))))
  (.cons (.bnew 28 (.lst .nil))
  (.cons (.for_ [29] (.r1 (.idx (.glo ("_law_counts" : Str) dCounts) (.var 27))) wdBody)
  (.cons (.asg 30 (.call 11 (.cons (.var 27) .nil)))
  (.cons (.frz [28])
  t7G)))))
noncomputable def t7E : PSs := (.cons (.for_ [21] (.r1 (.var 1)) qBody)
  t7F)
noncomputable def t7D : PSs := (.cons (.asg 19 (.call 12 (.cons (.var 16) .nil)))
  (.cons (.ite (.cmp .ne (.var 19) (.var 6)) (.cons (.ret (.lit (.bool false))) .nil) .nil)
  (.cons (.ite (.not (.isInt (.var 19))) (.cons (.ret (.lit (.bool false))) .nil) .nil)
  (.cons (.asg 20 (.bin .sub (.bin .mod (.idx (.var 0) (.lit (.int 12))) (.lit (.int 19))) (.lit (.int 9))))
  t7E))))
noncomputable def t7C : PSs := (.cons (.ite (.cmp .ne (.var 14) (.var 8)) (.cons (.ret (.lit (.bool false))) .nil) .nil)
  (.cons (.asg 15 (.call 13 (.cons (.var 14) .nil)))
  (.cons (.ite (.cmp .ne (.var 15) (.tup (.cons (.var 4) (.cons (.var 10) (.cons (.var 12) .nil))))) (.cons (.ret (.lit (.bool false))) .nil) .nil)
  (.cons (.asgN [16, 17, 18] (.var 15))
  (.cons (.ite (.cmp .ne (.comp (.comp (.call 8 (.cons (.var 0) .nil)) 1 (.of (.var 0)) .tt) 1 (.of (.bin .add (.bin .add (.var 14) (.var 17)) (.var 18))) .tt) (.bin .add (.bin .add (.var 9) (.var 11)) (.var 13))) (.cons (.ret (.lit (.bool false))) .nil) .nil)
  t7D)))))
noncomputable def t7B : PSs := (.cons (.asg 7 (.call 20 (.cons (.var 4) (.cons (.var 5) (.cons (.var 3) .nil)))))
  (.cons (.asgN [8, 9] (.call 16 (.cons (.var 7) (.cons (.lit (.int 12)) .nil))))
  (.cons (.asgN [10, 11] (.call 16 (.cons (.var 5) (.cons (.lit (.int 2)) .nil))))
  (.cons (.asgN [12, 13] (.call 16 (.cons (.var 3) (.cons (.lit (.int 6)) .nil))))
  (.cons (.asg 14 (.comp (.comp (.call 3 (.cons (.var 0) (.cons (.lit (.int 12)) .nil))) 1 (.of (.var 0)) .tt) 1 (.of (.var 7)) .tt))
  t7C)))))
noncomputable def t7A : PSs := (.cons (.ite (.cmp .lt (.blt .len (.var 0)) (.lit (.int 14))) (.cons (.ret (.lit (.bool true))) .nil) .nil)
  (.cons (.asg 1 (.idx (.glo ("_law_sizes" : Str) dSizes) (.bin .mod (.idx (.var 0) (.lit (.int 0))) (.lit (.int 8)))))
  (.cons (.asg 2 (.lst (.cons (.idx (.glo ("_law_pivots" : Str) dPivots) (.bin .mod (.idx (.var 0) (.lit (.int 6))) (.lit (.int 12)))) (.cons (.idx (.glo ("_law_pivots" : Str) dPivots) (.bin .mod (.idx (.var 0) (.lit (.int 7))) (.lit (.int 12)))) (.cons (.idx (.glo ("_law_pivots" : Str) dPivots) (.bin .mod (.idx (.var 0) (.lit (.int 8))) (.lit (.int 12)))) .nil)))))
  (.cons (.asg 3 (.call 17 (.cons (.var 1) (.cons (.var 2) (.cons (.lst (.cons (.bin .sub (.bin .mod (.idx (.var 0) (.lit (.int 9))) (.lit (.int 9))) (.lit (.int 4))) (.cons (.bin .sub (.bin .mod (.idx (.var 0) (.lit (.int 10))) (.lit (.int 1999))) (.lit (.int 999))) (.cons (.bin .sub (.bin .mod (.idx (.var 0) (.lit (.int 11))) (.lit (.int 9))) (.lit (.int 4))) .nil)))) .nil)))))
  (.cons (.asgN [4, 5, 6] (.call 19 (.cons (.var 1) (.cons (.var 3) (.cons (.lst (.cons (.idx (.var 0) (.lit (.int 1))) (.cons (.idx (.var 0) (.lit (.int 2))) (.cons (.lit (.int 0)) .nil)))) (.cons (.lst (.cons (.idx (.var 0) (.lit (.int 3))) (.cons (.idx (.var 0) (.lit (.int 4))) (.cons (.idx (.var 0) (.lit (.int 5))) .nil)))) .nil))))))
  t7B)))))
theorem t7_eq : b7_23 = t7A := rfl

noncomputable def Done (γ : Env') (b : PSs) : Prop := ∃ γ', evSs (tower fs7 100 23) 100 true γ b = some (.ret (.bool true) 0, γ')
theorem intM_eq (m : List (List Int)) : intM m = .list (m.map fun p => PyData.list (p.map PyData.int)) := by
  unfold intM rowsL; rw [List.map_map]; rfl
theorem tx_eq (d : Int) (m : List (List Int)) : (wrM d m).map (·.map fun q => PyData.str (txt q)) = m.map (trow d) := by
  unfold wrM wrow trow
  rw [List.map_map]
  apply List.map_congr_left
  intro r _
  simp only [Function.comp, List.map_map]
  rfl

/-- the sizes of the tables -/
structure Bx (n : Nat) (U : List (List Int)) (P : PlS) : Prop where
  hn : n ≤ 3
  fx : Fx n U P
  gd : ∀ i, i < n → GD (iat U i i) ∨ iat U i i = 0
theorem Bx.nums {n : Nat} {U : List (List Int)} {P : PlS} (b : Bx n U P) : ∀ r ∈ numsOf n P.order P.halves U, r.length = n ∧ ∀ v ∈ r, v.natAbs ≤ 9000 := nums_bd b.hn (iat_bd b.fx.hb) (iat_bd b.fx.ub)
theorem Bx.nlen {n : Nat} {U : List (List Int)} {P : PlS} : (numsOf n P.order P.halves U).length = n := by simp [numsOf]

section
variable {is : List Int} {n k : Nat} {U : List (List Int)} {P : PlS} {a : Int}
theorem wrM_bd {d : Int} (hd : d ≠ 0) (hdb : d.natAbs < 100) {m : List (List Int)} (h : ∀ r ∈ m, r.length ≤ 3 ∧ ∀ v ∈ r, v.natAbs ≤ 9000) : ∀ r ∈ wrM d m, r.length ≤ 3 ∧ ∀ q ∈ r, Bd 100 q := by
  intro r hr
  obtain ⟨r', hr', rfl⟩ := List.mem_map.mp hr
  obtain ⟨h1, h2⟩ := h r' hr'
  refine ⟨by simpa [wrow] using h1, fun q hq => ?_⟩
  obtain ⟨v, hv, rfl⟩ := List.mem_map.mp hq
  exact Bd.divInt hd (Nat.lt_of_le_of_lt (h2 v hv) (by decide)) (Nat.lt_trans hdb (by decide))
theorem Bx.all (b : Bx n U P) : (∀ r ∈ wrM 12 (numsOf n P.order P.halves U), r.length ≤ 3 ∧ ∀ q ∈ r, Bd 100 q) ∧ (∀ r ∈ wrM 2 P.halves, r.length ≤ 3 ∧ ∀ q ∈ r, Bd 100 q) ∧ (∀ r ∈ wrM 6 U, r.length ≤ 3 ∧ ∀ q ∈ r, Bd 100 q) := by
  have hn := b.hn
  refine ⟨wrM_bd (by decide) (by decide) fun r hr => ⟨by rw [(b.nums r hr).1]; exact hn, (b.nums r hr).2⟩, wrM_bd (by decide) (by decide) fun r hr => ⟨by rw [b.fx.h.row r hr]; exact hn, fun v hv => ?_⟩, wrM_bd (by decide) (by decide) fun r hr => ⟨by rw [b.fx.uu.row r hr]; exact hn, fun v hv => ?_⟩⟩
  · exact Nat.le_trans (b.fx.hb r hr v hv) (by decide)
  · exact Nat.le_trans (b.fx.ub r hr v hv) (by decide)
theorem Bx.lens (b : Bx n U P) : (wrM 12 (numsOf n P.order P.halves U)).length = n ∧ (wrM 2 P.halves).length = n ∧ (wrM 6 U).length = n := by
  refine ⟨by simp [wrM, numsOf], by simp [wrM, b.fx.h.len], by simp [wrM, b.fx.uu.len]⟩
theorem fin_sh : Sh 4 (.tuple [.list (permD P.order), encM (wrM 2 P.halves), encM (wrM 6 U)]) := Sh.tuple fun x hx => by
  simp only [List.mem_cons, List.not_mem_nil, or_false] at hx
  rcases hx with rfl | rfl | rfl
  · exact (Sh.permD _).mono (by decide)
  · exact Sh.encM _
  · exact Sh.encM _

theorem walkG {s2 s21 s22 s23 s24 s25 s26 s29 : Slot} (b : Bx n U P) (hk : k ≤ 4) : Done [.pl (.list (is.map PyData.int)), .pl (.int (n : Int)), s2, .pl (intM U), .pl (.list (permD P.order)), .pl (intM P.halves), .pl (.int P.sign), .pl (intM (numsOf n P.order P.halves U)), .pl (encM (wrM 12 (numsOf n P.order P.halves U))), .pl (txM 12 (numsOf n P.order P.halves U)), .pl (encM (wrM 2 P.halves)), .pl (txM 2 P.halves), .pl (encM (wrM 6 U)), .pl (txM 6 U), .pl (encM (wrM 12 (numsOf n P.order P.halves U))), .pl (.tuple [.list (permD P.order), encM (wrM 2 P.halves), encM (wrM 6 U)]), .pl (.list (permD P.order)), .pl (encM (wrM 2 P.halves)), .pl (encM (wrM 6 U)), .pl (.int P.sign), .pl (.int a), s21, s22, s23, s24, s25, s26, .pl (.int (k : Int)), .pl (.list ((permsL k).map fun p => PyData.list (p.map PyData.int))), s29, .pl (.list ((permsL k).map fun p => PyData.list (p.map PyData.int)))] t7G := by
  have hn := b.hn
  obtain ⟨k1, k2⟩ := perms_small hk
  obtain ⟨q1, q2, q3⟩ := b.all
  obtain ⟨l1, l2, l3⟩ := b.lens
  have ol := b.fx.ol
  have hps : Sh 2 (.list ((permsL k).map fun p => PyData.list (p.map PyData.int))) := by rw [← intM_eq]; exact Sh.intM _
  have enc : ∀ {m : List (List Rat)}, (∀ r ∈ m, r.length ≤ 3 ∧ ∀ q ∈ r, Bd 100 q) → ∀ r ∈ m.map (·.map fq), r.length ≤ 900 ∧ ∀ v ∈ r, IntsV v := fun h r hr => by
    obtain ⟨r', hr', rfl⟩ := List.mem_map.mp hr
    have := (h r' hr').1
    refine ⟨by simp; omega, fun v hv => ?_⟩
    obtain ⟨q, _, rfl⟩ := List.mem_map.mp hv
    exact intsV_fq q
  have e0 : PyData.list [.list [.list (permD P.order)], .list ((permsL k).map fun p => PyData.list (p.map PyData.int))] = rowsL [[.list (permD P.order)], (permsL k).map fun p => PyData.list (p.map PyData.int)] := rfl
  have a1 := add_rows (a := [[.list (permD P.order)], (permsL k).map fun p => PyData.list (p.map PyData.int)]) (b := (wrM 12 (numsOf n P.order P.halves U)).map (·.map fq)) (by simp; omega)
  have a2 := add_rows (a := [[.list (permD P.order)], (permsL k).map fun p => PyData.list (p.map PyData.int)] ++ (wrM 12 (numsOf n P.order P.halves U)).map (·.map fq)) (b := (wrM 2 P.halves).map (·.map fq)) (by simp; omega)
  have a3 := add_rows (a := [[.list (permD P.order)], (permsL k).map fun p => PyData.list (p.map PyData.int)] ++ (wrM 12 (numsOf n P.order P.halves U)).map (·.map fq) ++ (wrM 2 P.halves).map (·.map fq)) (b := (wrM 6 U).map (·.map fq)) (by simp; omega)
  have pi : (permD P.order) = (P.order.map fun (x : Nat) => (x : Int)).map PyData.int := by unfold permD; rw [List.map_map]; rfl
  have iv := ints_ok (K := 23) (by decide) (rows := [[.list (permD P.order)], (permsL k).map fun p => PyData.list (p.map PyData.int)] ++ (wrM 12 (numsOf n P.order P.halves U)).map (·.map fq) ++ (wrM 2 P.halves).map (·.map fq) ++ (wrM 6 U).map (·.map fq)) (by simp; omega) (fun r hr => by
    rcases List.mem_append.mp hr with hr | hr
    · rcases List.mem_append.mp hr with hr | hr
      · rcases List.mem_append.mp hr with hr | hr
        · simp only [List.mem_cons, List.not_mem_nil, or_false] at hr
          rcases hr with rfl | rfl
          · refine ⟨by simp, fun v hv => ?_⟩
            simp only [List.mem_cons, List.not_mem_nil, or_false] at hv
            subst hv
            rw [pi]
            exact intsV_list (by simp; omega)
          · refine ⟨by simp; omega, fun v hv => ?_⟩
            obtain ⟨p, hp, rfl⟩ := List.mem_map.mp hv
            have := k2 p hp
            exact intsV_list (by omega)
        · exact enc q1 r hr
      · exact enc q2 r hr
    · exact enc q3 r hr)
  refine ⟨[.pl (.list (is.map PyData.int)), .pl (.int (n : Int)), s2, .pl (intM U), .pl (.list (permD P.order)), .pl (intM P.halves), .pl (.int P.sign), .pl (intM (numsOf n P.order P.halves U)), .pl (encM (wrM 12 (numsOf n P.order P.halves U))), .pl (txM 12 (numsOf n P.order P.halves U)), .pl (encM (wrM 2 P.halves)), .pl (txM 2 P.halves), .pl (encM (wrM 6 U)), .pl (txM 6 U), .pl (encM (wrM 12 (numsOf n P.order P.halves U))), .pl (.tuple [.list (permD P.order), encM (wrM 2 P.halves), encM (wrM 6 U)]), .pl (.list (permD P.order)), .pl (encM (wrM 2 P.halves)), .pl (encM (wrM 6 U)), .pl (.int P.sign), .pl (.int a), s21, s22, s23, s24, s25, s26, .pl (.int (k : Int)), .pl (.list ((permsL k).map fun p => PyData.list (p.map PyData.int))), s29, .pl (.list ((permsL k).map fun p => PyData.list (p.map PyData.int)))], ?_⟩
  refine st_else (ev_cmp (ev_var rfl) (ev_var rfl) (ne_self hps (by decide))) ?_
  refine st_else (ev_notval (ev_call (es_cons (ev_bin (ev_bin (ev_bin (ev_lst (es_cons (ev_lst (es_cons (ev_var rfl) es_nil)) (es_cons (ev_var rfl) es_nil))) (ev_var rfl) a1) (ev_var rfl) a2) (ev_var rfl) a3) es_nil) iv)) ?_
  refine st_else (ev_cmp (ev_var rfl) (ev_var rfl) (ne_self (Sh.encM _) (by decide))) ?_
  refine st_else (ev_cmp (ev_var rfl) (ev_tup (es_cons (ev_var rfl) (es_cons (ev_var rfl) (es_cons (ev_var rfl) es_nil)))) (ne_self fin_sh (by decide))) ?_
  exact st_ret ev_lit

theorem walkF {s2 s21 s22 s23 s24 s25 s26 s27 s28 s29 s30 : Slot} (b : Bx n U P) (hi : 14 ≤ is.length) (hi2 : is.length ≤ 63) : Done [.pl (.list (is.map PyData.int)), .pl (.int (n : Int)), s2, .pl (intM U), .pl (.list (permD P.order)), .pl (intM P.halves), .pl (.int P.sign), .pl (intM (numsOf n P.order P.halves U)), .pl (encM (wrM 12 (numsOf n P.order P.halves U))), .pl (txM 12 (numsOf n P.order P.halves U)), .pl (encM (wrM 2 P.halves)), .pl (txM 2 P.halves), .pl (encM (wrM 6 U)), .pl (txM 6 U), .pl (encM (wrM 12 (numsOf n P.order P.halves U))), .pl (.tuple [.list (permD P.order), encM (wrM 2 P.halves), encM (wrM 6 U)]), .pl (.list (permD P.order)), .pl (encM (wrM 2 P.halves)), .pl (encM (wrM 6 U)), .pl (.int P.sign), .pl (.int a), s21, s22, s23, s24, s25, s26, s27, s28, s29, s30] t7F := by
  have hll : (1000 : Nat) ≤ lenLim := by unfold lenLim; decide
  obtain ⟨k, hk, e5, hc⟩ := counts_ok (is.getD 13 0)
  have x13 : idxD (.list (is.map PyData.int)) (.int 13) = some (.int (is.getD 13 0), 0) := idx_int (k := 13) (by omega) (by omega)
  have m5 := mod_int (a := is.getD 13 0) (b := 5) (by decide) (lim_gt (by decide))
  rw [e5] at m5
  obtain ⟨k1, k2⟩ := perms_small hk
  obtain ⟨s29', e⟩ := wd_loop (pre := [.pl (.list (is.map PyData.int)), .pl (.int (n : Int)), s2, .pl (intM U), .pl (.list (permD P.order)), .pl (intM P.halves), .pl (.int P.sign), .pl (intM (numsOf n P.order P.halves U)), .pl (encM (wrM 12 (numsOf n P.order P.halves U))), .pl (txM 12 (numsOf n P.order P.halves U)), .pl (encM (wrM 2 P.halves)), .pl (txM 2 P.halves), .pl (encM (wrM 6 U)), .pl (txM 6 U), .pl (encM (wrM 12 (numsOf n P.order P.halves U))), .pl (.tuple [.list (permD P.order), encM (wrM 2 P.halves), encM (wrM 6 U)]), .pl (.list (permD P.order)), .pl (encM (wrM 2 P.halves)), .pl (encM (wrM 6 U)), .pl (.int P.sign), .pl (.int a), s21, s22, s23, s24, s25, s26]) rfl hk (s30 := s30) (permsL k).length 0 [] s29 (by omega) rfl
  have pm := perms_ok (K := 23) (by decide) hk
  rw [intM_eq] at pm
  rw [List.drop_zero, List.nil_append] at e
  obtain ⟨γ', eg⟩ := walkG (is := is) (a := a) (s2 := s2) (s21 := s21) (s22 := s22) (s23 := s23) (s24 := s24) (s25 := s25) (s26 := s26) (s29 := s29') b hk
  refine ⟨γ', ?_⟩
  refine st_asg (ev_bin (ev_idx (ev_var rfl) ev_lit x13) ev_lit m5) ?_
  refine st_bnew (ev_lst es_nil) rfl ?_
  refine st_for (xs := (List.range' 0 (permsL k).length).map fun (k : Nat) => PyData.int (k : Int)) ?_ e ?_
  · rw [ev_r1 (ev_idx ev_glo (ev_var rfl) hc) (okR_small (by decide) (by omega)), range_map, List.range_eq_range']
  refine st_asg (ev_call (es_cons (ev_var rfl) es_nil) pm) ?_
  exact st_frz eg

theorem walkE {s2 s21 s22 s23 s24 s25 s26 s27 s28 s29 s30 : Slot} (b : Bx n U P) (hi : 14 ≤ is.length) (hi2 : is.length ≤ 63) (ha : a.natAbs ≤ 100) : Done [.pl (.list (is.map PyData.int)), .pl (.int (n : Int)), s2, .pl (intM U), .pl (.list (permD P.order)), .pl (intM P.halves), .pl (.int P.sign), .pl (intM (numsOf n P.order P.halves U)), .pl (encM (wrM 12 (numsOf n P.order P.halves U))), .pl (txM 12 (numsOf n P.order P.halves U)), .pl (encM (wrM 2 P.halves)), .pl (txM 2 P.halves), .pl (encM (wrM 6 U)), .pl (txM 6 U), .pl (encM (wrM 12 (numsOf n P.order P.halves U))), .pl (.tuple [.list (permD P.order), encM (wrM 2 P.halves), encM (wrM 6 U)]), .pl (.list (permD P.order)), .pl (encM (wrM 2 P.halves)), .pl (encM (wrM 6 U)), .pl (.int P.sign), .pl (.int a), s21, s22, s23, s24, s25, s26, s27, s28, s29, s30] t7E := by
  have hn := b.hn
  obtain ⟨t21, t22, t23, t24, t25, t26, e⟩ := q_loop b.hn b.fx.uu b.gd ha (List.range n) s21 s22 s23 s24 s25 s26 (fun i hi => List.mem_range.mp hi)
  obtain ⟨γ', eg⟩ := walkF (is := is) (a := a) (s2 := s2) (s21 := t21) (s22 := t22) (s23 := t23) (s24 := t24) (s25 := t25) (s26 := t26) (s27 := s27) (s28 := s28) (s29 := s29) (s30 := s30) b hi hi2
  refine ⟨γ', ?_⟩
  refine st_for (xs := (List.range n).map fun (k : Nat) => PyData.int (k : Int)) ?_ e ?_
  · rw [ev_r1 (ev_var rfl) (okR_small (by decide) (by omega)), range_map]
  exact eg

theorem walkD {s2 s19 s20 s21 s22 s23 s24 s25 s26 s27 s28 s29 s30 : Slot} (b : Bx n U P) (hi : 14 ≤ is.length) (hi2 : is.length ≤ 63) : Done [.pl (.list (is.map PyData.int)), .pl (.int (n : Int)), s2, .pl (intM U), .pl (.list (permD P.order)), .pl (intM P.halves), .pl (.int P.sign), .pl (intM (numsOf n P.order P.halves U)), .pl (encM (wrM 12 (numsOf n P.order P.halves U))), .pl (txM 12 (numsOf n P.order P.halves U)), .pl (encM (wrM 2 P.halves)), .pl (txM 2 P.halves), .pl (encM (wrM 6 U)), .pl (txM 6 U), .pl (encM (wrM 12 (numsOf n P.order P.halves U))), .pl (.tuple [.list (permD P.order), encM (wrM 2 P.halves), encM (wrM 6 U)]), .pl (.list (permD P.order)), .pl (encM (wrM 2 P.halves)), .pl (encM (wrM 6 U)), s19, s20, s21, s22, s23, s24, s25, s26, s27, s28, s29, s30] t7D := by
  have x12 : idxD (.list (is.map PyData.int)) (.int 12) = some (.int (is.getD 12 0), 0) := idx_int (k := 12) (by omega) (by omega)
  have m5 := mod_int (a := is.getD 12 0) (b := 19) (by decide) (lim_gt (by decide))
  obtain ⟨h1, h2⟩ := fmod_rng (v := is.getD 12 0) (k := 19) (by decide)
  obtain ⟨γ', eg⟩ := walkE (is := is) (a := (is.getD 12 0).fmod 19 - 9) (s2 := s2) (s21 := s21) (s22 := s22) (s23 := s23) (s24 := s24) (s25 := s25) (s26 := s26) (s27 := s27) (s28 := s28) (s29 := s29) (s30 := s30) b hi hi2 (by omega)
  refine ⟨γ', ?_⟩
  refine st_asg (ev_call (es_cons (ev_var rfl) es_nil) (b.fx.sign 23 (by decide))) ?_
  refine st_else (ev_cmp (ev_var rfl) (ev_var rfl) (ne_self (Sh.int _) (by decide))) ?_
  refine st_else (ev_notint (i := P.sign) (l := 0) (ev_var rfl)) ?_
  exact st_asg (ev_bin (ev_bin (ev_idx (ev_var rfl) ev_lit x12) ev_lit m5) ev_lit rfl) eg

theorem walkC {s2 s15 s16 s17 s18 s19 s20 s21 s22 s23 s24 s25 s26 s27 s28 s29 s30 : Slot} (b : Bx n U P) (hi : 14 ≤ is.length) (hi2 : is.length ≤ 63) : Done [.pl (.list (is.map PyData.int)), .pl (.int (n : Int)), s2, .pl (intM U), .pl (.list (permD P.order)), .pl (intM P.halves), .pl (.int P.sign), .pl (intM (numsOf n P.order P.halves U)), .pl (encM (wrM 12 (numsOf n P.order P.halves U))), .pl (txM 12 (numsOf n P.order P.halves U)), .pl (encM (wrM 2 P.halves)), .pl (txM 2 P.halves), .pl (encM (wrM 6 U)), .pl (txM 6 U), .pl (encM (wrM 12 (numsOf n P.order P.halves U))), s15, s16, s17, s18, s19, s20, s21, s22, s23, s24, s25, s26, s27, s28, s29, s30] t7C := by
  have hn := b.hn
  obtain ⟨q1, q2, q3⟩ := b.all
  obtain ⟨l1, l2, l3⟩ := b.lens
  obtain ⟨γ', eg⟩ := walkD (is := is) (s2 := s2) (s19 := s19) (s20 := s20) (s21 := s21) (s22 := s22) (s23 := s23) (s24 := s24) (s25 := s25) (s26 := s26) (s27 := s27) (s28 := s28) (s29 := s29) (s30 := s30) b hi hi2
  obtain ⟨l, et⟩ := t_comp (γ := [.pl (.list (is.map PyData.int)), .pl (.int (n : Int)), s2, .pl (intM U), .pl (.list (permD P.order)), .pl (intM P.halves), .pl (.int P.sign), .pl (intM (numsOf n P.order P.halves U)), .pl (encM (wrM 12 (numsOf n P.order P.halves U))), .pl (txM 12 (numsOf n P.order P.halves U)), .pl (encM (wrM 2 P.halves)), .pl (txM 2 P.halves), .pl (encM (wrM 6 U)), .pl (txM 6 U), .pl (encM (wrM 12 (numsOf n P.order P.halves U))), .pl (.tuple [.list (permD P.order), encM (wrM 2 P.halves), encM (wrM 6 U)]), .pl (.list (permD P.order)), .pl (encM (wrM 2 P.halves)), .pl (encM (wrM 6 U)), s19, s20, s21, s22, s23, s24, s25, s26, s27, s28, s29, s30]) (A := wrM 12 (numsOf n P.order P.halves U)) (B := wrM 2 P.halves) (C := wrM 6 U) rfl rfl rfl (by omega) (fun r hr => by
    have : r.length ≤ 3 ∧ ∀ q ∈ r, Bd 100 q := by
      rcases List.mem_append.mp hr with hr | hr
      · rcases List.mem_append.mp hr with hr | hr
        · exact q1 r hr
        · exact q2 r hr
      · exact q3 r hr
    exact ⟨by omega, this.2⟩)
  rw [List.map_append, List.map_append, tx_eq, tx_eq, tx_eq] at et
  have n1 : (numsOf n P.order P.halves U).length = n := Bx.nlen
  have n2 := b.fx.h.len
  have n3 := b.fx.uu.len
  have a1 := add_rows (a := (numsOf n P.order P.halves U).map (trow 12)) (b := P.halves.map (trow 2)) (by simp; omega)
  have a2 := add_rows (a := (numsOf n P.order P.halves U).map (trow 12) ++ P.halves.map (trow 2)) (b := U.map (trow 6)) (by simp; omega)
  have tsh : ∀ (d : Int) (m : List (List Int)), ∀ r ∈ m.map (trow d), ∀ x ∈ r, Sh 0 x := fun d m r hr x hx => by
    obtain ⟨r', _, rfl⟩ := List.mem_map.mp hr
    obtain ⟨v, _, rfl⟩ := List.mem_map.mp hx
    exact Sh.txt _
  have sh : Sh 2 (rowsL ((numsOf n P.order P.halves U).map (trow 12) ++ P.halves.map (trow 2) ++ U.map (trow 6))) := Sh.rows fun r hr => by
    rcases List.mem_append.mp hr with hr | hr
    · rcases List.mem_append.mp hr with hr | hr
      · exact tsh _ _ r hr
      · exact tsh _ _ r hr
    · exact tsh _ _ r hr
  refine ⟨γ', ?_⟩
  refine st_else (ev_cmp (ev_var rfl) (ev_var rfl) (ne_self (Sh.encM _) (by decide))) ?_
  refine st_asg (ev_call (es_cons (ev_var rfl) es_nil) (b.fx.lu 23 (by decide))) ?_
  refine st_else (ev_cmp (ev_var rfl) (ev_tup (es_cons (ev_var rfl) (es_cons (ev_var rfl) (es_cons (ev_var rfl) es_nil)))) (ne_self fin_sh (by decide))) ?_
  refine st_asgN (γ' := [.pl (.list (is.map PyData.int)), .pl (.int (n : Int)), s2, .pl (intM U), .pl (.list (permD P.order)), .pl (intM P.halves), .pl (.int P.sign), .pl (intM (numsOf n P.order P.halves U)), .pl (encM (wrM 12 (numsOf n P.order P.halves U))), .pl (txM 12 (numsOf n P.order P.halves U)), .pl (encM (wrM 2 P.halves)), .pl (txM 2 P.halves), .pl (encM (wrM 6 U)), .pl (txM 6 U), .pl (encM (wrM 12 (numsOf n P.order P.halves U))), .pl (.tuple [.list (permD P.order), encM (wrM 2 P.halves), encM (wrM 6 U)]), .pl (.list (permD P.order)), .pl (encM (wrM 2 P.halves)), .pl (encM (wrM 6 U)), s19, s20, s21, s22, s23, s24, s25, s26, s27, s28, s29, s30]) (ev_var rfl) rfl ?_
  refine st_else (ev_cmp et (ev_bin (ev_bin (ev_var rfl) (ev_var rfl) a1) (ev_var rfl) a2) (ne_self sh (by decide))) ?_
  exact eg

theorem walkB {s2 s7 s8 s9 s10 s11 s12 s13 s14 s15 s16 s17 s18 s19 s20 s21 s22 s23 s24 s25 s26 s27 s28 s29 s30 : Slot} (b : Bx n U P) (hi : 14 ≤ is.length) (hi2 : is.length ≤ 63) : Done [.pl (.list (is.map PyData.int)), .pl (.int (n : Int)), s2, .pl (intM U), .pl (.list (permD P.order)), .pl (intM P.halves), .pl (.int P.sign), s7, s8, s9, s10, s11, s12, s13, s14, s15, s16, s17, s18, s19, s20, s21, s22, s23, s24, s25, s26, s27, s28, s29, s30] t7B := by
  have hn := b.hn
  have n1 : (numsOf n P.order P.halves U).length = n := Bx.nlen
  have n2 := b.fx.h.len
  have n3 := b.fx.uu.len
  obtain ⟨γ', eg⟩ := walkC (is := is) (s2 := s2) (s15 := s15) (s16 := s16) (s17 := s17) (s18 := s18) (s19 := s19) (s20 := s20) (s21 := s21) (s22 := s22) (s23 := s23) (s24 := s24) (s25 := s25) (s26 := s26) (s27 := s27) (s28 := s28) (s29 := s29) (s30 := s30) b hi hi2
  have w1 := written_ok (K := 23) (by decide) (d := 12) (by unfold GD; decide) (by decide) (m := numsOf n P.order P.halves U) (by omega) (fun r hr => ⟨by rw [(b.nums r hr).1]; omega, fun v hv => Nat.lt_of_le_of_lt ((b.nums r hr).2 v hv) (by decide)⟩)
  have w2 := written_ok (K := 23) (by decide) (d := 2) (by unfold GD; decide) (by decide) (m := P.halves) (by omega) (fun r hr => ⟨by rw [b.fx.h.row r hr]; omega, fun v hv => Nat.lt_of_le_of_lt (b.fx.hb r hr v hv) (by decide)⟩)
  have w3 := written_ok (K := 23) (by decide) (d := 6) (by unfold GD; decide) (by decide) (m := U) (by omega) (fun r hr => ⟨by rw [b.fx.uu.row r hr]; omega, fun v hv => Nat.lt_of_le_of_lt (b.fx.ub r hr v hv) (by decide)⟩)
  obtain ⟨l, em⟩ := m_comp (γ := [.pl (.list (is.map PyData.int)), .pl (.int (n : Int)), s2, .pl (intM U), .pl (.list (permD P.order)), .pl (intM P.halves), .pl (.int P.sign), .pl (intM (numsOf n P.order P.halves U)), .pl (encM (wrM 12 (numsOf n P.order P.halves U))), .pl (txM 12 (numsOf n P.order P.halves U)), .pl (encM (wrM 2 P.halves)), .pl (txM 2 P.halves), .pl (encM (wrM 6 U)), .pl (txM 6 U), s14, s15, s16, s17, s18, s19, s20, s21, s22, s23, s24, s25, s26, s27, s28, s29, s30]) (nums := numsOf n P.order P.halves U) rfl (by omega) (fun r hr => ⟨by rw [(b.nums r hr).1]; omega, (b.nums r hr).2⟩)
  refine ⟨γ', ?_⟩
  refine st_asg (ev_call (es_cons (ev_var rfl) (es_cons (ev_var rfl) (es_cons (ev_var rfl) es_nil))) (b.fx.prod 23 (by decide))) ?_
  refine st_asgN (ev_call (es_cons (ev_var rfl) (es_cons ev_lit es_nil)) w1) rfl ?_
  refine st_asgN (ev_call (es_cons (ev_var rfl) (es_cons ev_lit es_nil)) w2) rfl ?_
  refine st_asgN (γ' := [.pl (.list (is.map PyData.int)), .pl (.int (n : Int)), s2, .pl (intM U), .pl (.list (permD P.order)), .pl (intM P.halves), .pl (.int P.sign), .pl (intM (numsOf n P.order P.halves U)), .pl (encM (wrM 12 (numsOf n P.order P.halves U))), .pl (txM 12 (numsOf n P.order P.halves U)), .pl (encM (wrM 2 P.halves)), .pl (txM 2 P.halves), .pl (encM (wrM 6 U)), .pl (txM 6 U), s14, s15, s16, s17, s18, s19, s20, s21, s22, s23, s24, s25, s26, s27, s28, s29, s30]) (ev_call (es_cons (ev_var rfl) (es_cons ev_lit es_nil)) w3) rfl ?_
  exact st_asg em eg
end

theorem pure7 (is : List Int) (h : is.length ≤ 63) : ∃ l, evF (tower fs7 100 23) 100 true f7_23 [.list (is.map .int)] = some (.ret (.bool true) l) := by
  have hll : (1000 : Nat) ≤ lenLim := by unfold lenLim; decide
  have hl := len_ok (xs := is.map PyData.int) (by simp; omega)
  rw [List.length_map] at hl
  refine ⟨0, ?_⟩
  by_cases h14 : is.length < 14
  · apply evF_ret rfl
    exact st_trueX (ev_cmp (ev_blt (ev_var rfl) hl) ev_lit (congrArg some (decide_eq_true (show ((is.length : Nat) : Int) < 14 by omega)))) (st_ret ev_lit) (fun z => by cases z)
  · have x : ∀ k : Nat, k < 14 → idxD (.list (is.map PyData.int)) (.int (k : Int)) = some (.int (is.getD k 0), 0) := fun k hk => idx_int (by omega) (by omega)
    have md : ∀ (v : Int) (k : Int), 0 < k → k < 10000 → binD .mod (.int v) (.int k) = some (.int (v.fmod k), 0) := fun v k h1 h2 => mod_int (by omega) (lim_gt (Nat.lt_of_lt_of_le (show k.natAbs < 2 ^ 14 by omega) (Nat.pow_le_pow_right (by decide) (by decide))))
    obtain ⟨n, hn, en⟩ := sizes_ok (is.getD 0 0)
    obtain ⟨a, ga, ea⟩ := pivots_ok (is.getD 6 0)
    obtain ⟨b, gb, eb⟩ := pivots_ok (is.getD 7 0)
    obtain ⟨c, gc, ec⟩ := pivots_ok (is.getD 8 0)
    obtain ⟨l, eu⟩ := upper_ok (K := 23) (by decide) hn a b c ((is.getD 9 0).fmod 9 - 4) ((is.getD 10 0).fmod 1999 - 999) ((is.getD 11 0).fmod 9 - 4)
    have f9 := fmod_rng (v := is.getD 9 0) (k := 9) (by decide)
    have f10 := fmod_rng (v := is.getD 10 0) (k := 1999) (by decide)
    have f11 := fmod_rng (v := is.getD 11 0) (k := 9) (by decide)
    have hfx := fx_all hn (x := (is.getD 9 0).fmod 9 - 4) (y := (is.getD 10 0).fmod 1999 - 999) (z := (is.getD 11 0).fmod 9 - 4) (gd_bd ga) (gd_bd gb) (gd_bd gc) (by omega) (by omega) (by omega) [is.getD 1 0, is.getD 2 0, 0] [is.getD 3 0, is.getD 4 0, is.getD 5 0]
    have hgd := diag_gd hn (x := (is.getD 9 0).fmod 9 - 4) (y := (is.getD 10 0).fmod 1999 - 999) (z := (is.getD 11 0).fmod 9 - 4) ga gb gc
    have ep := plan_ok (K := 23) (by decide) hn (u := upM n a b c ((is.getD 9 0).fmod 9 - 4) ((is.getD 10 0).fmod 1999 - 999) ((is.getD 11 0).fmod 9 - 4)) (turns := [is.getD 1 0, is.getD 2 0, 0]) (ks := [is.getD 3 0, is.getD 4 0, is.getD 5 0]) hfx.uu rfl rfl
    generalize upM n a b c ((is.getD 9 0).fmod 9 - 4) ((is.getD 10 0).fmod 1999 - 999) ((is.getD 11 0).fmod 9 - 4) = U at *
    generalize planOut n U [is.getD 1 0, is.getD 2 0, 0] [is.getD 3 0, is.getD 4 0, is.getD 5 0] = P at *
    obtain ⟨γ', eg⟩ := walkB (is := is) (s2 := .pl (.list [.int a, .int b, .int c])) (s7 := .un) (s8 := .un) (s9 := .un) (s10 := .un) (s11 := .un) (s12 := .un) (s13 := .un) (s14 := .un) (s15 := .un) (s16 := .un) (s17 := .un) (s18 := .un) (s19 := .un) (s20 := .un) (s21 := .un) (s22 := .un) (s23 := .un) (s24 := .un) (s25 := .un) (s26 := .un) (s27 := .un) (s28 := .un) (s29 := .un) (s30 := .un) (⟨hn, hfx, hgd⟩ : Bx n U P) (by omega) h
    apply evF_ret rfl
    show evSs (tower fs7 100 23) 100 true _ t7A = _
    refine st_else (ev_cmp (ev_blt (ev_var rfl) hl) ev_lit (congrArg some (decide_eq_false (show ¬ ((is.length : Nat) : Int) < 14 by omega)))) ?_
    refine st_asg (ev_idx ev_glo (ev_bin (ev_idx (ev_var rfl) ev_lit (x 0 (by decide))) ev_lit (md _ 8 (by decide) (by decide))) en) ?_
    refine st_asg (ev_lst (es_cons (ev_idx ev_glo (ev_bin (ev_idx (ev_var rfl) ev_lit (x 6 (by decide))) ev_lit (md _ 12 (by decide) (by decide))) ea) (es_cons (ev_idx ev_glo (ev_bin (ev_idx (ev_var rfl) ev_lit (x 7 (by decide))) ev_lit (md _ 12 (by decide) (by decide))) eb) (es_cons (ev_idx ev_glo (ev_bin (ev_idx (ev_var rfl) ev_lit (x 8 (by decide))) ev_lit (md _ 12 (by decide) (by decide))) ec) es_nil)))) ?_
    refine st_asg (ev_call (es_cons (ev_var rfl) (es_cons (ev_var rfl) (es_cons (ev_lst (es_cons (ev_bin (ev_bin (ev_idx (ev_var rfl) ev_lit (x 9 (by decide))) ev_lit (md _ 9 (by decide) (by decide))) ev_lit rfl) (es_cons (ev_bin (ev_bin (ev_idx (ev_var rfl) ev_lit (x 10 (by decide))) ev_lit (md _ 1999 (by decide) (by decide))) ev_lit rfl) (es_cons (ev_bin (ev_bin (ev_idx (ev_var rfl) ev_lit (x 11 (by decide))) ev_lit (md _ 9 (by decide) (by decide))) ev_lit rfl) es_nil)))) es_nil))) eu) ?_
    refine st_asgN (ev_call (es_cons (ev_var rfl) (es_cons (ev_var rfl) (es_cons (ev_lst (es_cons (ev_idx (ev_var rfl) ev_lit (x 1 (by decide))) (es_cons (ev_idx (ev_var rfl) ev_lit (x 2 (by decide))) (es_cons ev_lit es_nil)))) (es_cons (ev_lst (es_cons (ev_idx (ev_var rfl) ev_lit (x 3 (by decide))) (es_cons (ev_idx (ev_var rfl) ev_lit (x 4 (by decide))) (es_cons (ev_idx (ev_var rfl) ev_lit (x 5 (by decide))) es_nil)))) es_nil)))) ep) rfl ?_
    exact eg
end Mine
end
section
open PySem PySem.W PyProof.Rows
set_option Elab.async false
set_option maxRecDepth 100000
set_option maxHeartbeats 8000000
namespace Mine
/-- the text less its two names -/
noncomputable def vw7 : Program := { PySem.Challenge.pw_sx_vpivot_7 with main := { PySem.Challenge.pw_sx_vpivot_7.main with body := (PySem.Challenge.pw_sx_vpivot_7.main.body.eraseIdx 15).eraseIdx 0 } }
theorem left7 : LeftO PySem.Challenge.pw_sx_vpivot_7 vw7 [] (fun s => xlAt vw7 [] s && recOk [] s) (topHook cons7).obs (topHook cons7).val 1780 := fun w => by kernel_rfl
theorem x7 : PySem.Challenge.rw_sx_vpivot_7.Holds := by
  refine holds_law (by kernel_rfl) (fun said => ?_)
  refine PySem.W.holds_open (q := vw7) (loose := []) (Xt := fun s => xlAt vw7 [] s && recOk [] s) (XP := XL vw7 []) (Yf := (topHook cons7).obs) (Ya := (topHook cons7).val) (YP := (topHook cons7).says) (N := 1780) left7 (topHook cons7).of (topHook cons7).keeps
    (fun s e => xl_of s (Bool.and_eq_true_iff.mp e).1) XL.keeps (by rfl) (by rfl) (by rfl) (fun s e => recFacts_of (Bool.and_eq_true_iff.mp e).2) (by rfl) said (by kernel_rfl) ⟨rfl, rfl, rfl, rfl, rfl, by kernel_rfl⟩ ⟨[.list []], by kernel_rfl, by kernel_rfl⟩ ?_
  intro w s₀ s₁ mg mb G Y fa o pm cd doc dV kV ho hd hcd hD hmg hg args vals as hpre hlay hrd hwl hlo
  clear ho hd hcd hD hlay hrd hlo
  refine Ground.open G ?_
  intro T B D TE TW
  clear B D TE TW G
  have hsh := (pre_splitW hpre).1
  have hcond := (pre_splitW hpre).2
  clear hpre
  obtain ⟨is, rfl, rd⟩ := law_args hsh hwl
  obtain ⟨l, he⟩ := pure7 is (law_len PySem.Challenge.rw_sx_vpivot_7 rfl rfl is hcond)
  refine law_runs (fs := fs7) (bns := bn7) (cons := cons7) (excs := excs7) T Y (TopChk.of (by kernel_rfl) (by kernel_rfl) (fun x hx => by simpa [excs7] using hx)) (fu := 100) (j := 23) (f := f7_23) (by decide) rfl hmg rd he fun v s' k r => ?_
  have := r.bool_inv
  subst this
  obtain ⟨h', tk, rfl, hk⟩ := k
  exact ⟨.inl ⟨_, .bool true, [], rfl, fun cls => rfl, .bool true, law_post _ _, fun _ => ⟨.nil, fun a ha => by cases ha⟩⟩, .of_keep hk, rfl, .of_eq hg⟩
end Mine
end
open PySem PySem.W PyProof.Rows
theorem PySem.Challenge.cw_sx_vpivot_7_holds : PySem.Challenge.rw_sx_vpivot_7.Holds :=
  Mine.x7
