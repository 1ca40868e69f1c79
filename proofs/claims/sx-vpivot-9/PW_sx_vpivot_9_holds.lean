import PyProof.Rows.All
import Wide.All
import OpenK.AllK
import Wide.FinOn
import KE.IntTextText
import KE.KIntText
import PyProof.Rows.SetFrom
import PyProof.DictWalks
import PyProof.FactsAll.set_1
import KE.KDictSum
import PyProof.Rows.SortWalk
import KE.KItem
import PyProof.Rows.PlainStore
import PyProof.GenCompD
import PyProof.ConsumeS
import PyProof.Rows.GenRowsT
import OpenK.KRaise
import PyProof.StrLawsChain
import PySem.Challenge.RW_sx_vpivot_9
set_option Elab.async false
set_option linter.all false
set_option genInjectivity false
set_option genSizeOf false
set_option genSizeOfSpec false
set_option genCtorIdx false
set_option bootstrap.genMatcherCode false
section
namespace Mine
open PySem
set_option genCtorIdx true in
inductive BOp where | add | sub | mul | fdiv | mod
set_option genCtorIdx true in
inductive COp where | eq | ne | lt | gt | isin
set_option genCtorIdx true in
inductive Blt where | len | abs | str | int | max | sortedSet
set_option genCtorIdx true in
inductive Mth where | count | split
mutual
inductive PE where
  | lit (d : PyData)
  | var (i : Nat)
  | bin (o : BOp) (a b : PE)
  | neg (a : PE)
  | tst (t : PT)
  | ite (t : PT) (a b : PE)
  | call (f : Nat) (as : PEs)
  | blt (f : Blt) (a : PE)
  | lrange (i : PI)
  | tup (es : PEs)
  | lst (es : PEs)
  | idx (a i : PE)
  | sl (a lo hi : PE)
  | comp (elt : PE) (k : Nat) (it : PI) (c : PT)
  | mth (f : Mth) (a b : PE)
inductive PEs where
  | nil
  | cons (e : PE) (r : PEs)
inductive PT where
  | tt
  | ff
  | cmp (o : COp) (a b : PE)
  | isNone (a : PE)
  | isNotNone (a : PE)
  | not (t : PT)
  | and (a b : PT)
  | or (a b : PT)
  | val (a : PE)
  | anyZ (a b : PE)
  | allInts (a : PE)
inductive PI where
  | r1 (b : PE)
  | r2 (a b : PE)
  | of (a : PE)
  | zip (a b : PE)
  | enum (a : PE)
end
mutual
inductive PS where
  | frz (is : List Nat)
  | asg (i : Nat) (e : PE)
  | bnew (i : Nat) (e : PE)
  | asgN (is : List Nat) (e : PE)
  | app (i : Nat) (e : PE)
  | put (i : Nat) (p e : PE)
  | ite (t : PT) (a b : PSs)
  | for_ (is : List Nat) (it : PI) (body : PSs)
  | while_ (t : PT) (body : PSs)
  | ret (e : PE)
  | retv (i : Nat)
  | raise (c : Nat) (msg : Str)
  | tryC (i f : Nat) (as : PEs) (c y : Nat) (d : PyData)
  | tryM (i f : Nat) (as : PEs) (n : Nat) (it : PI) (c y : Nat) (d : PyData)
  | asgW (i f : Nat) (as : PEs)
  | brk
  | cont
inductive PSs where
  | nil
  | cons (s : PS) (r : PSs)
end
inductive Slot where
  | un
  | pl (d : PyData)
  | b1 (ds : List PyData)
set_option genCtorIdx true in
inductive Out where
  | ret (d : PyData) (l : Nat)
  | exc (c : Nat)
set_option genCtorIdx true in
inductive Flw where
  | next
  | brk
  | cont
  | ret (d : PyData) (l : Nat)
  | exc (c : Nat)
noncomputable abbrev Env' := List Slot
noncomputable abbrev Funs := Nat -> List PyData -> Option Out
noncomputable def lim : Nat := 2 ^ 8000
noncomputable def sm (i : Int) : Bool := decide (i.natAbs < lim)
noncomputable def lenLim : Nat := 2 ^ 20
noncomputable def repL (xs : List PyData) : Nat -> List PyData
  | 0 => []
  | n + 1 => xs ++ repL xs n
noncomputable def binD : BOp -> PyData -> PyData -> Option (PyData × Nat)
  | .add, .int a, .int b => some (.int (a + b), 0)
  | .add, .list a, .list b => if a.length + b.length ≤ lenLim then some (.list (a ++ b), 1) else none
  | .add, .str a, .str b => if a.length + b.length ≤ lenLim then some (.str (a ++ b), 0) else none
  | .sub, .int a, .int b => some (.int (a - b), 0)
  | .mul, .int a, .int b => if sm a && sm b then some (.int (a * b), 0) else none
  | .mul, .list xs, .int n => if 0 ≤ n && xs.length * n.toNat ≤ lenLim && n ≤ lenLim then some (.list (repL xs n.toNat), 1) else none
  | .fdiv, .int a, .int b => if b ≠ 0 && sm b then some (.int (a.fdiv b), 0) else none
  | .mod, .int a, .int b => if b ≠ 0 && sm b then some (.int (a.fmod b), 0) else none
  | _, _, _ => none
noncomputable def intsD : List PyData -> Option (List Int)
  | [] => some []
  | .int i :: r => (intsD r).bind fun is => some (i :: is)
  | _ => none
noncomputable def cmpD : COp -> PyData -> PyData -> Option Bool
  | .eq, a, b => if SeqAt.shaped a && SeqAt.shaped b then some (PyData.eqv a b) else none
  | .ne, a, b => if SeqAt.shaped a && SeqAt.shaped b then some (!PyData.eqv a b) else none
  | .lt, .int a, .int b => some (decide (a < b))
  | .gt, .int a, .int b => some (decide (b < a))
  | .isin, .int a, .list xs => (intsD xs).bind fun ns => if ns.length ≤ lenLim then some (ns.contains a) else none
  | _, _, _ => none
noncomputable def boolD : PyData -> Option Bool
  | .bool b => some b
  | _ => none
noncomputable def intD : PyData -> Option Int
  | .int i => some i
  | _ => none
noncomputable def itemsD : PyData -> Option (List PyData)
  | .list xs => some xs
  | .tuple xs => some xs
  | _ => none
noncomputable def strI (i : Int) : Str := Str.ofString (toString i)
noncomputable def rise3 : List (List Int) := [[], [0], [1], [2], [0, 1], [0, 2], [1, 2], [0, 1, 2]]
noncomputable def bltD : Blt -> PyData -> Option (PyData × Nat)
  | .len, .list xs => if xs.length ≤ lenLim then some (.int xs.length, 0) else none
  | .len, .str x => if x.length ≤ lenLim then some (.int x.length, 0) else none
  | .abs, .int i => some (.int i.natAbs, 0)
  | .str, .int i => if sm i then some (.str (strI i), 0) else none
  | .int, .str x => if x.length ≤ 640 then (intText? x).bind fun i => some (.int i, 0) else none
  | .max, .list xs => (intsD xs).bind fun ns => if ns.length ≤ 60 then (ns.max?).bind fun m => some (.int m, 0) else none
  | .sortedSet, .list xs => (intsD xs).bind fun ns => if rise3.contains ns then some (.list xs, 1) else none
  | _, _ => none
noncomputable def idxD : PyData -> PyData -> Option (PyData × Nat)
  | .list xs, .int k => if 0 ≤ k && k < lenLim then xs[k.toNat]?.map (·, 0) else none
  | .tuple xs, .int k => if 0 ≤ k && k < lenLim then xs[k.toNat]?.map (·, 0) else none
  | _, _ => none
noncomputable def slBound : PyData -> Option (Option Nat)
  | .none => some none
  | .int k => if 0 ≤ k && k < lenLim then some (some k.toNat) else none
  | _ => none
noncomputable def slM (xs : List PyData) : Option Nat -> Option Nat -> Option (PyData × Nat)
  | none, none => some (.list xs, 1)
  | some a, none => some (.list (xs.drop a), 1)
  | none, some b => some (.list (xs.take b), 1)
  | some _, some _ => none
noncomputable def slD (x lo hi : PyData) : Option (PyData × Nat) := match x with
  | .list xs => (slBound lo).bind fun l => (slBound hi).bind fun h => if xs.length ≤ lenLim then slM xs l h else none
  | _ => none
noncomputable def mthD : Mth -> PyData -> PyData -> Option (PyData × Nat)
  | .count, .list xs, .int r => (intsD xs).bind fun ns => if ns.length ≤ lenLim then some (.int (ns.count r : Nat), 0) else none
  | .split, .str x, .str y => if y.length ≠ 0 && x.length ≤ lenLim && (Txt.split x y).length ≤ lenLim then some (.list ((Txt.split x y).map .str), 1) else none
  | _, _, _ => none
noncomputable def rangeL (a b : Int) : List PyData := (List.range (b - a).toNat).map fun (k : Nat) => .int (a + k)
noncomputable def okR (a b : Int) : Bool := decide (a.natAbs ≤ lenLim) && decide (b.natAbs ≤ lenLim)
noncomputable def bindC (n : Nat) (d : PyData) (γ : Env') : Option Env' :=
  if n = 1 then some (.pl d :: γ) else match d with
    | .tuple ds => if ds.length = n then some (ds.map Slot.pl ++ γ) else none
    | _ => none
noncomputable def mkL (rs : List (PyData × Nat)) : PyData × Nat := (.list (rs.map (·.1)), 1)
noncomputable def isI : PyData -> Bool
  | .int _ => true
  | _ => false
noncomputable def allI : PyData -> Bool
  | .tuple xs => xs.all isI
  | _ => false
noncomputable def allI2 : PyData -> Bool
  | .list xs => xs.all allI
  | _ => false
noncomputable def allI3 : PyData -> Bool
  | .list xs => xs.all allI2
  | _ => false
noncomputable def zipD (xs ys : List PyData) : List PyData := List.zipWith (fun x y => .tuple [x, y]) xs ys
noncomputable def enumD (k : Nat) : List PyData -> List PyData
  | [] => []
  | x :: xs => .tuple [.int (k : Int), x] :: enumD (k + 1) xs
noncomputable def listD : PyData -> Option (List PyData)
  | .list xs => some xs
  | _ => none
noncomputable def isNoD : PyData -> Bool
  | .none => true
  | _ => false
noncomputable def firstI : List PyData -> Option (List Int)
  | [] => some []
  | .tuple (.int i :: _) :: r => (firstI r).bind fun is => some (i :: is)
  | _ => none
noncomputable def firsts : PyData -> Option (List Int)
  | .list xs => if xs.length ≤ lenLim then firstI xs else none
  | _ => none
noncomputable def anyP (p : Int × Int) : Bool := p.1 == 0 && p.2 != 0
mutual
noncomputable def evE (Φ : Funs) (γ : Env') : PE -> Option (PyData × Nat)
  | .lit d => some (d, 0)
  | .var i => match γ[i]? with | some (.pl d) => some (d, 0) | _ => none
  | .bin o a b => (evE Φ γ a).bind fun x => (evE Φ γ b).bind fun y => binD o x.1 y.1
  | .neg a => (evE Φ γ a).bind fun x => (intD x.1).bind fun i => some (.int (-i), 0)
  | .tst t => (evT Φ γ t).bind fun b => some (.bool b, 0)
  | .ite t a b => (evT Φ γ t).bind fun c => if c then evE Φ γ a else evE Φ γ b
  | .call f as => (evEs Φ γ as).bind fun xs => (Φ f xs).bind fun o => match o with | .ret d l => some (d, l) | .exc _ => none
  | .blt f a => (evE Φ γ a).bind fun x => bltD f x.1
  | .lrange i => (evI Φ γ i).bind fun xs => some (.list xs, 1)
  | .tup es => (evEs Φ γ es).bind fun xs => some (.tuple xs, 0)
  | .lst es => (evEs Φ γ es).bind fun xs => some (.list xs, 1)
  | .idx a i => (evE Φ γ a).bind fun x => (evE Φ γ i).bind fun y => idxD x.1 y.1
  | .sl a lo hi => (evE Φ γ a).bind fun x => (evE Φ γ lo).bind fun l => (evE Φ γ hi).bind fun h => slD x.1 l.1 h.1
  | .comp elt n it c => (evI Φ γ it).bind fun xs => (xs.mapM fun d => (bindC n d γ).bind fun g => (evT Φ g c).bind fun b => if b then (evE Φ g elt).map some else some none).bind fun rs =>
      some (mkL (rs.filterMap id))
  | .mth f a b => (evE Φ γ a).bind fun x => (evE Φ γ b).bind fun y => mthD f x.1 y.1
noncomputable def evEs (Φ : Funs) (γ : Env') : PEs -> Option (List PyData)
  | .nil => some []
  | .cons e r => (evE Φ γ e).bind fun x => (evEs Φ γ r).bind fun xs => some (x.1 :: xs)
noncomputable def evT (Φ : Funs) (γ : Env') : PT -> Option Bool
  | .tt => some true
  | .ff => some false
  | .cmp o a b => (evE Φ γ a).bind fun x => (evE Φ γ b).bind fun y => cmpD o x.1 y.1
  | .isNone a => (evE Φ γ a).bind fun x => some (isNoD x.1)
  | .isNotNone a => (evE Φ γ a).bind fun x => some (!isNoD x.1)
  | .not t => (evT Φ γ t).bind fun b => some (!b)
  | .and a b => (evT Φ γ a).bind fun x => if x then evT Φ γ b else some false
  | .or a b => (evT Φ γ a).bind fun x => if x then some true else evT Φ γ b
  | .val a => (evE Φ γ a).bind fun x => boolD x.1
  | .anyZ a b => (evE Φ γ a).bind fun x => (evE Φ γ b).bind fun y => (firsts x.1).bind fun is => (firsts y.1).bind fun js => some ((is.zip js).any anyP)
  | .allInts a => (evE Φ γ a).bind fun x => if allI3 x.1 then some true else none
noncomputable def evI (Φ : Funs) (γ : Env') : PI -> Option (List PyData)
  | .r1 b => (evE Φ γ b).bind fun y => (intD y.1).bind fun j => if okR 0 j then some (rangeL 0 j) else none
  | .r2 a b => (evE Φ γ a).bind fun x => (intD x.1).bind fun i => (evE Φ γ b).bind fun y => (intD y.1).bind fun j => if okR i j && decide ((j - i).toNat ≤ lenLim) then some (rangeL i j) else none
  | .of a => (evE Φ γ a).bind fun x => (itemsD x.1).bind fun xs => if xs.length ≤ lenLim then some xs else none
  | .zip a b => (evE Φ γ a).bind fun x => (listD x.1).bind fun xs => (evE Φ γ b).bind fun y => (listD y.1).bind fun ys => if xs.length ≤ lenLim && ys.length ≤ lenLim then some (zipD xs ys) else none
  | .enum a => (evE Φ γ a).bind fun x => (listD x.1).bind fun xs => if xs.length ≤ lenLim then some (enumD 0 xs) else none
end
noncomputable def frzS : Slot -> Slot
  | .un => .un
  | .pl d => .pl d
  | .b1 ds => .pl (.list ds)
noncomputable def frz (γ : Env') (is : List Nat) : Env' := is.foldl (fun g i => g.modify i frzS) γ
noncomputable def mkSlot (r : PyData × Nat) : Slot :=
  match r.1, r.2 with
  | .list ds, 1 => .b1 ds
  | d, _ => .pl d
noncomputable def setN (γ : Env') : List Nat -> List PyData -> Option Env'
  | [], [] => some γ
  | i :: is, d :: ds => setN (γ.set i (.pl d)) is ds
  | _, _ => none
noncomputable def bindT (γ : Env') (is : List Nat) (d : PyData) : Option Env' :=
  match is with
  | [i] => some (γ.set i (.pl d))
  | _ => match d with
    | .tuple ds => setN γ is ds
    | _ => none
noncomputable def forL (body : Env' -> Option (Flw × Env')) (is : List Nat) : List PyData -> Env' -> Option (Flw × Env')
  | [], γ => some (.next, γ)
  | d :: ds, γ => (bindT γ is d).bind fun γ₁ => (body γ₁).bind fun r => match r.1 with
    | .next => forL body is ds r.2
    | .cont => forL body is ds r.2
    | .brk => some (.next, r.2)
    | .ret v l => some (.ret v l, r.2)
    | .exc _ => none
noncomputable def whileL (test : Env' -> Option Bool) (body : Env' -> Option (Flw × Env')) : Nat -> Env' -> Option (Flw × Env')
  | 0, _ => none
  | n + 1, γ => (test γ).bind fun c => if c then (body γ).bind fun r => match r.1 with
      | .next => whileL test body n r.2
      | .cont => whileL test body n r.2
      | .brk => some (.next, r.2)
      | .ret v l => some (.ret v l, r.2)
      | .exc _ => none
    else some (.next, γ)
noncomputable def posD (p : PyData) (n : Nat) : Option Nat :=
  match p with
  | .int k => if 0 ≤ k && k < lenLim && k.toNat < n then some k.toNat else none
  | _ => none
noncomputable def appS (γ : Env') (i : Nat) (r : PyData × Nat) : Option Env' :=
  match γ[i]? with
  | some (.b1 ds) => if ds.length ≤ lenLim then some (γ.set i (.b1 (ds ++ [r.1]))) else none
  | _ => none
noncomputable def putS (γ : Env') (i : Nat) (p : PyData) (r : PyData × Nat) : Option Env' :=
  match γ[i]? with
  | some (.b1 ds) => (posD p ds.length).bind fun k => some (γ.set i (.b1 (ds.set k r.1)))
  | _ => none
noncomputable def tryL (F : PyData -> Option Out) : List PyData -> Option (List PyData ⊕ Nat)
  | [] => some (.inl [])
  | d :: ds => (F d).bind fun o => match o with
    | .ret v _ => (tryL F ds).bind fun r => match r with
      | .inl vs => some (.inl (v :: vs))
      | .inr c => some (.inr c)
    | .exc c => some (.inr c)
mutual
noncomputable def evS (Φ : Funs) (fu : Nat) (tp : Bool) (γ : Env') : PS -> Option (Flw × Env')
  | .frz is => some (.next, frz γ is)
  | .asg i e => (evE Φ γ e).bind fun r => some (.next, γ.set i (.pl r.1))
  | .bnew i e => (evE Φ γ e).bind fun r => some (.next, γ.set i (mkSlot r))
  | .asgN is e => (evE Φ γ e).bind fun r => match r.1 with
    | .tuple ds => (setN γ is ds).bind fun γ' => some (.next, γ')
    | _ => none
  | .tryC i f as c y d => (evEs Φ γ as).bind fun xs => (Φ f xs).bind fun o => match o with
    | .ret v _ => some (.next, γ.set i (.pl v))
    | .exc c' => if tp && c' == c then some (.next, γ.set y (.pl d)) else none
  | .tryM i f as n it c y d => (evI Φ γ it).bind fun xs => (tryL (fun d => (bindC n d γ).bind fun g => (evEs Φ g as).bind fun vs => Φ f vs) xs).bind fun o => match o with
    | .inl ds => some (.next, γ.set i (.pl (.list ds)))
    | .inr c' => if tp && c' == c then some (.next, γ.set y (.pl d)) else none
  | .asgW i f as => (evEs Φ γ as).bind fun xs => (Φ (1000 + f) xs).bind fun o => match o with
    | .ret v _ => if tp then some (.next, γ.set i (.pl v)) else none
    | .exc _ => none
  | .app i e => (evE Φ γ e).bind fun r => (appS γ i r).bind fun γ' => some (.next, γ')
  | .put i p e => (evE Φ γ e).bind fun r => (evE Φ γ p).bind fun k => (putS γ i k.1 r).bind fun γ' => some (.next, γ')
  | .ite t a b => (evT Φ γ t).bind fun c => if c then evSs Φ fu tp γ a else evSs Φ fu tp γ b
  | .for_ is it body => (evI Φ γ it).bind fun xs => forL (fun g => evSs Φ fu tp g body) is xs γ
  | .while_ t body => whileL (fun g => evT Φ g t) (fun g => evSs Φ fu tp g body) fu γ
  | .ret e => (evE Φ γ e).bind fun r => some (.ret r.1 r.2, γ)
  | .retv i => match γ[i]? with
    | some (.pl d) => some (.ret d 0, γ)
    | some (.b1 ds) => some (.ret (.list ds) 1, γ)
    | _ => none
  | .raise c _ => some (.exc c, γ)
  | .brk => some (.brk, γ)
  | .cont => some (.cont, γ)
noncomputable def evSs (Φ : Funs) (fu : Nat) (tp : Bool) (γ : Env') : PSs -> Option (Flw × Env')
  | .nil => some (.next, γ)
  | .cons s r => (evS Φ fu tp γ s).bind fun x => match x.1 with
    | .next => evSs Φ fu tp x.2 r
    | f => some (f, x.2)
end
structure PFun where
  name : Str
  params : Nat
  ns : List Str
  body : PSs
  wk : Bool
  gen : Bool
noncomputable def evF (Φ : Funs) (fu : Nat) (tp : Bool) (f : PFun) (args : List PyData) : Option Out :=
  if args.length = f.params then
    (evSs Φ fu tp (args.map Slot.pl ++ List.replicate (f.ns.length - f.params) Slot.un) f.body).bind fun r => match r.1 with
      | .ret d l => some (.ret d l)
      | .exc c => some (.exc c)
      | .next => some (.ret .none 0)
      | _ => none
  else none
end Mine
namespace Mine
open PySem
noncomputable def tower (fs : List PFun) (fu : Nat) : Nat -> Funs
  | 0 => fun ζ ζ => none
  | k + 1 => fun j args => match fs[k]? with
    | some f => if f.wk then (if j = 1000 + k then evF (tower fs fu k) fu true f args else tower fs fu k j args)
      else if j = k then evF (tower fs fu k) fu false f args else tower fs fu k j args
    | none => tower fs fu k j args
end Mine
end
section
set_option backward.match.sparseCases false
namespace Mine
open PySem
structure Ctx where
  ns : List (Option Str)
  kinds : List (Str × NameKind)
  cn : List Str
  fns : List Str
  excs : List Str
  bs : List Nat
  wk : List Nat
  gen : Bool
noncomputable def Ctx.glob (C : Ctx) (x : Str) : Bool := C.kinds.lookup x == some .globalImplicit
noncomputable def Ctx.slot (C : Ctx) (x : Str) : Option Nat := C.ns.findIdx? (· == some x)
noncomputable def Ctx.fn (C : Ctx) (x : Str) : Option Nat := if C.glob x && x != ("__debug__" : Str) then C.fns.findIdx? (· == x) else none
noncomputable def Ctx.fnS (C : Ctx) (x : Str) : Option Nat := (C.fn x).bind fun j => if C.wk.contains j then none else some j
noncomputable def cConst : Const -> Option PyData
  | .none => some .none
  | .bool b => some (.bool b)
  | .int i => some (.int i)
  | .str x => if x.length ≤ lenLim then some (.str x) else none
  | _ => none
noncomputable def cName (C : Ctx) (x : Str) : Option PE :=
  if x == ("__debug__" : Str) then none else
  (C.slot x).bind fun i => some (.var i)
noncomputable def cOp : Operator -> Option BOp
  | .Add => some .add
  | .Sub => some .sub
  | .Mult => some .mul
  | .FloorDiv => some .fdiv
  | .Mod => some .mod
  | _ => none
noncomputable def cCmp : CmpOp -> Option COp
  | .Eq => some .eq
  | .NotEq => some .ne
  | .Lt => some .lt
  | .Gt => some .gt
  | .In => some .isin
  | _ => none
noncomputable def bsub {α β : Type} {P : α -> Prop} (x : Option { a : α // P a }) (f : α -> Option β) : Option β := x.bind fun a => f a.1
theorem bind_sub {α β : Type} {P : α -> Prop} {x : Option { a : α // P a }} {f : α -> Option β} {r : β} (h : bsub x f = some r) : ∃ a, P a ∧ f a = some r := by
  cases x with
  | none => cases h
  | some a => exact ⟨a.1, a.2, h⟩
theorem bind_lift {β : Type} {P : Prop} {x : Option (PLift P)} {f : PLift P -> Option β} {r : β} (h : x.bind f = some r) : ∃ p : P, f ⟨p⟩ = some r := by
  cases x with
  | none => cases h
  | some a => exact ⟨a.1, h⟩
theorem cps {P : Prop} (h : ∀ G : Prop, (P -> G) -> G) : P := h P id
theorem bind_subE {α β : Type} {P : α -> Prop} {x : Option { a : α // P a }} {f : α -> Option β} {r : β} {R : Prop} (h : bsub x f = some r) (k : ∀ a, P a -> f a = some r -> R) : R := let ⟨a, p, q⟩ := bind_sub h; k a p q
theorem bind_liftE {β : Type} {P : Prop} {x : Option (PLift P)} {f : PLift P -> Option β} {r : β} {R : Prop} (h : x.bind f = some r) (k : ∀ p : P, f ⟨p⟩ = some r -> R) : R := let ⟨p, q⟩ := bind_lift h; k p q
theorem bind_subR {α β : Type} {P : α -> Prop} {x : Option { a : α // P a }} {f : α -> Option β} {r : β} {R : Prop} (k : ∀ a, P a -> f a = some r -> R) (h : bsub x f = some r) : R := bind_subE h k
theorem bind_liftR {β : Type} {P : Prop} {x : Option (PLift P)} {f : PLift P -> Option β} {r : β} {R : Prop} (k : ∀ p : P, f ⟨p⟩ = some r -> R) (h : x.bind f = some r) : R := bind_liftE h k
noncomputable def nm (e : PySem.Expr) : Option { x : Str × Pos // e = .Name x.1 x.2 } := match e with
  | .Name x p => some ⟨(x, p), rfl⟩
  | _ => none
noncomputable def oneE {α : Type} (l : List α) : Option { a : α // l = [a] } := match l with
  | [a] => some ⟨a, rfl⟩
  | _ => none
noncomputable def two {α : Type} (l : List α) : Option { a : α × α // l = [a.1, a.2] } := match l with
  | [a, b] => some ⟨(a, b), rfl⟩
  | _ => none
noncomputable def three {α : Type} (l : List α) : Option { a : α × α × α // l = [a.1, a.2.1, a.2.2] } := match l with
  | [a, b, c] => some ⟨(a, b, c), rfl⟩
  | _ => none
structure CallP where
  f : PySem.Expr
  as : List PySem.Expr
  ks : List Keyword
  pos : Pos
noncomputable def callOf (e : PySem.Expr) : Option { c : CallP // e = .Call c.f c.as c.ks c.pos } := match e with
  | .Call f as ks p => some ⟨⟨f, as, ks, p⟩, rfl⟩
  | _ => none
noncomputable def tupOf (e : PySem.Expr) : Option { c : List PySem.Expr × Nat × Pos // e = .Tuple c.1 c.2.1 c.2.2 } := match e with
  | .Tuple es k p => some ⟨(es, k, p), rfl⟩
  | _ => none
noncomputable def attOf (e : PySem.Expr) : Option { c : PySem.Expr × Str × Pos // e = .Attribute c.1 c.2.1 c.2.2 } := match e with
  | .Attribute o m p => some ⟨(o, m, p), rfl⟩
  | _ => none
noncomputable def conOf (e : PySem.Expr) : Option { c : Const × Nat × Pos // e = .Constant c.1 c.2.1 c.2.2 } := match e with
  | .Constant c k p => some ⟨(c, k, p), rfl⟩
  | _ => none
noncomputable def strOf (c : Const) : Option { x : Str // c = .str x } := match c with
  | .str x => some ⟨x, rfl⟩
  | _ => none
noncomputable def noneOf (c : Const) : Option (PLift (c = .none)) := match c with
  | .none => some ⟨rfl⟩
  | _ => none
noncomputable def asgOf (s : Stmt) : Option { c : List PySem.Expr × PySem.Expr × Pos // s = .Assign c.1 c.2.1 c.2.2 } := match s with
  | .Assign ts v p => some ⟨(ts, v, p), rfl⟩
  | _ => none
noncomputable def hndOf (h : ExceptHandler) : Option { x : PySem.Expr × Stmt × Pos // h = .ExceptHandler (some x.1) none [x.2.1] x.2.2 } := match h with
  | .ExceptHandler (some ex) none [st] p => some ⟨(ex, st, p), rfl⟩
  | _ => none
structure GenP where
  elt : PySem.Expr
  gens : List Comprehension
  sc : Scope
  pos : Pos
noncomputable def genOf (e : PySem.Expr) : Option { c : GenP // e = .GeneratorExp c.elt c.gens c.sc c.pos } := match e with
  | .GeneratorExp e gs sc p => some ⟨⟨e, gs, sc, p⟩, rfl⟩
  | _ => none
noncomputable def lcOf (e : PySem.Expr) : Option { c : GenP // e = .ListComp c.elt c.gens c.sc c.pos } := match e with
  | .ListComp e gs sc p => some ⟨⟨e, gs, sc, p⟩, rfl⟩
  | _ => none
structure CmpP where
  l : PySem.Expr
  ops : List CmpOp
  rs : List PySem.Expr
  pos : Pos
noncomputable def cmpP (e : PySem.Expr) : Option { c : CmpP // e = .Compare c.l c.ops c.rs c.pos } := match e with
  | .Compare l ops rs p => some ⟨⟨l, ops, rs, p⟩, rfl⟩
  | _ => none
set_option backward.match.sparseCases true in
noncomputable def isSt : PySem.Expr -> Bool
  | .Starred .. => true
  | _ => false
noncomputable def plainE (e : PySem.Expr) : Option (PLift (((∀ r env, starEach (e :: r) env = (false, eval e env) :: starEach r env) ∧ isSt e = false) ∧ ∀ env x, foldedSetIterable e env x = pure x)) := match e with
  | .Constant .. => some ⟨⟨fun ζ ζ => rfl, rfl⟩, fun ζ ζ => rfl⟩
  | .Name .. => some ⟨⟨fun ζ ζ => rfl, rfl⟩, fun ζ ζ => rfl⟩
  | .BinOp .. => some ⟨⟨fun ζ ζ => rfl, rfl⟩, fun ζ ζ => rfl⟩
  | .UnaryOp .. => some ⟨⟨fun ζ ζ => rfl, rfl⟩, fun ζ ζ => rfl⟩
  | .Tuple .. => some ⟨⟨fun ζ ζ => rfl, rfl⟩, fun ζ ζ => rfl⟩
  | .List .. => some ⟨⟨fun ζ ζ => rfl, rfl⟩, fun ζ ζ => rfl⟩
  | .Subscript .. => some ⟨⟨fun ζ ζ => rfl, rfl⟩, fun ζ ζ => rfl⟩
  | .IfExp .. => some ⟨⟨fun ζ ζ => rfl, rfl⟩, fun ζ ζ => rfl⟩
  | .Compare .. => some ⟨⟨fun ζ ζ => rfl, rfl⟩, fun ζ ζ => rfl⟩
  | .ListComp .. => some ⟨⟨fun ζ ζ => rfl, rfl⟩, fun ζ ζ => rfl⟩
  | .Call .. => some ⟨⟨fun ζ ζ => rfl, rfl⟩, fun ζ ζ => rfl⟩
  | _ => none
noncomputable def baseOk (e : PySem.Expr) : Option (PLift (∀ name env, attributeBase e name env (eval e env) = eval e env)) := match e with
  | .BinOp .. => some ⟨fun ζ ζ => rfl⟩
  | .ListComp .. => some ⟨fun ζ ζ => rfl⟩
  | _ => none
noncomputable def ixOk (i : PySem.Expr) : Option (PLift (∀ l n u, subscripted i false (.ref l) (.int n u) = operate [.ref l, .int n u] (getItem (.ref l) (.int n u)))) := match i with
  | .Name x p => some ⟨by intros; with_unfolding_all rfl⟩
  | .Constant c kk p => some ⟨by intros; with_unfolding_all rfl⟩
  | .BinOp a o b p => some ⟨by intros; with_unfolding_all rfl⟩
  | .Subscript v i p => some ⟨by intros; with_unfolding_all rfl⟩
  | _ => none
noncomputable def freeNames (sc : Scope) : List Str := (sc.names.filter fun x => x.2 == .free).map (·.1)
noncomputable def compOk (C : Ctx) (xs : List Str) (sc : Scope) : Bool :=
  sc.kind == .function && sc.names.all (fun y => y.2 != .cell || xs.contains y.1) && sc.names.all (fun y => y.2 != .local || sc.names.lookup y.1 == some .local)
    && xs.all (fun x => (sc.names.lookup x == some .local && sc.names.all (fun y => y.2 != .cell || y.1 != x)) || sc.names.lookup x == some .cell)
    && (freeNames sc).all (fun y => C.cn.contains y && y != ("__classdict__" : Str) && sc.names.lookup y == some .free) && xs.all (fun x => !(freeNames sc).contains x) && (match two xs with | some p => p.1.1 != p.1.2 | none => true)
noncomputable def cellNames (sc : Scope) : List Str := (sc.names.filter fun x => x.2 == .cell).map (·.1)
noncomputable def compCtx (C : Ctx) (xs : List Str) (sc : Scope) : Ctx :=
  { C with ns := xs.map some ++ C.ns.map (fun n => n.filter fun y => (freeNames sc).contains y && !xs.contains y), kinds := sc.names, cn := freeNames sc ++ cellNames sc }
noncomputable def isBlt (C : Ctx) (b : Str) (f : PySem.Expr) (ks : List Keyword) : Bool := ks.isEmpty && (match nm f with
  | some x => x.1.1 == b && C.glob x.1.1 && (C.fn x.1.1).isNone
  | none => false)
inductive Callee where
  | fn (j : Nat)
  | blt (b : Blt)
  | lst
  | srt
  | mth (m : Mth)
  | anyC
  | allC
noncomputable def bltC : List (Str × Callee) := [("len", .blt .len), ("abs", .blt .abs), ("str", .blt .str), ("int", .blt .int), ("max", .blt .max), ("list", .lst), ("sorted", .srt), ("any", .anyC), ("all", .allC)]
noncomputable def callee1 (C : Ctx) (f : Str) : Option Callee := match C.fn f with
    | some j => if C.wk.contains j then none else some (.fn j)
    | none => if C.glob f then bltC.lookup f else none
noncomputable def mthC : List (Str × Mth) := [("split", .split), ("count", .count)]
noncomputable def callee (C : Ctx) (pos : Pos) (f : PySem.Expr) (ks : List Keyword) : Option Callee := if ks.isEmpty then
    (match nm f with
    | some x => callee1 C x.1.1
    | none => bsub (attOf f) fun a => if a.2.2.endLine == pos.line then (mthC.lookup a.2.1).map Callee.mth else none) else none
noncomputable def one : PEs -> Option PE
  | .cons x .nil => some x
  | _ => none
noncomputable def tgts (e : PySem.Expr) : Option (List Str) := match nm e with
  | some x => some [x.1.1]
  | none => bsub (tupOf e) fun t => bsub (two t.1) fun ab => bsub (nm ab.1) fun a => bsub (nm ab.2) fun b => some [a.1, b.1]
structure Gen1 where
  xs : List Str
  tests : Bool
noncomputable def gen1 (gens : List Comprehension) : Option Gen1 := bsub (oneE gens) fun g => if g.is_async == 0 then (tgts g.target).bind fun xs => some ⟨xs, !g.ifs.isEmpty⟩ else none
noncomputable def rOf : PEs -> Option PI
  | .cons x .nil => some (.r1 x)
  | .cons x (.cons y .nil) => some (.r2 x y)
  | _ => none
noncomputable def zOf : PEs -> Option PI
  | .cons x (.cons y .nil) => some (.zip x y)
  | _ => none
noncomputable def eOf : PEs -> Option PI
  | .cons x .nil => some (.enum x)
  | _ => none
noncomputable def onlyR1 : PI -> Option PI
  | .r1 x => some (.r1 x)
  | _ => none
theorem clause_eq {c : Comprehension} {a b : Str × Pos} (h1 : c.target = .Name a.1 a.2) (h2 : c.iter = .Name b.1 b.2) (h3 : (c.ifs.isEmpty && c.is_async == 0) = true) : c = ⟨.Name a.1 a.2, .Name b.1 b.2, [], 0⟩ := by
  obtain ⟨t, i, f, s⟩ := c
  rw [Bool.and_eq_true, List.isEmpty_iff, beq_iff_eq] at h3
  exact h1 ▸ h2 ▸ h3.1 ▸ h3.2 ▸ rfl
structure ClP where
  x : Str
  px : Pos
  y : Str
  py : Pos
noncomputable def clauseOf (c : Comprehension) : Option { k : ClP // c = ⟨.Name k.x k.px, .Name k.y k.py, [], 0⟩ } := (nm c.target).bind fun a => (nm c.iter).bind fun b => if h : (c.ifs.isEmpty && c.is_async == 0) = true then some ⟨⟨a.1.1, a.1.2, b.1.1, b.1.2⟩, clause_eq a.2 b.2 h⟩ else none
structure TyP where
  n : Str
  np : Pos
  tp : Pos
  ip : Pos
  cp : Pos
  ep : Pos
noncomputable def TyP.e (k : TyP) : PySem.Expr := .Compare (.Call (.Name ("type" : Str) k.tp) [.Name k.n k.np] [] k.cp) [.Is] [.Name ("int" : Str) k.ip] k.ep
theorem ty_eq {e a r : PySem.Expr} {c : CmpP} {t : CallP} {ty n it : Str × Pos} (q1 : e = .Compare c.l c.ops c.rs c.pos) (q2 : c.l = .Call t.f t.as t.ks t.pos) (q3 : t.f = .Name ty.1 ty.2) (q4 : t.as = [a]) (q5 : a = .Name n.1 n.2) (q6 : c.rs = [r]) (q7 : r = .Name it.1 it.2)
    (h : (((c.ops == [.Is] && t.ks.isEmpty) && ty.1 == ("type" : Str)) && it.1 == ("int" : Str)) = true) : e = TyP.e ⟨n.1, n.2, ty.2, it.2, t.pos, c.pos⟩ := by
  rw [Bool.and_eq_true, Bool.and_eq_true, Bool.and_eq_true, beq_iff_eq, beq_iff_eq, beq_iff_eq, List.isEmpty_iff] at h
  rw [q1, q2, q6, q3, q4, q5, q7, h.1.1.1, h.1.1.2, h.1.2, h.2]
  rfl
noncomputable def typIs (e : PySem.Expr) : Option { k : TyP // e = k.e } := (cmpP e).bind fun c => (callOf c.1.l).bind fun t => (nm t.1.f).bind fun ty => (oneE t.1.as).bind fun a => (nm a.1).bind fun n => (oneE c.1.rs).bind fun r => (nm r.1).bind fun it =>
  if h : (((c.1.ops == [.Is] && t.1.ks.isEmpty) && ty.1.1 == ("type" : Str)) && it.1.1 == ("int" : Str)) = true then some ⟨⟨n.1.1, n.1.2, ty.1.2, it.1.2, t.1.pos, c.1.pos⟩, ty_eq c.2 t.2 ty.2 a.2 n.2 r.2 it.2 h⟩ else none
noncomputable def scOk (sc : Scope) : Bool := sc.kind == .function && sc.names.all (fun y => y.2 != .cell && y.2 != .free) && sc.names.lookup (".0" : Str) == some .local && !sc.isCoroutine
noncomputable def locOk (sc : Scope) (x : Str) : Bool := sc.names.lookup x == some .local && x != ("__debug__" : Str)
noncomputable def allShape (as : List PySem.Expr) : Option Str := bsub (oneE as) fun e => bsub (genOf e) fun g => bsub (three g.gens) fun gs => bsub (clauseOf gs.1) fun k0 => bsub (clauseOf gs.2.1) fun k1 => bsub (clauseOf gs.2.2) fun k2 => bsub (typIs g.elt) fun t =>
  if (k1.y == k0.x && k2.y == k1.x && t.n == k2.x) && (scOk g.sc && (locOk g.sc k0.x && locOk g.sc k1.x && locOk g.sc k2.x) && (g.sc.names.lookup ("type" : Str) == some .globalImplicit && g.sc.names.lookup ("int" : Str) == some .globalImplicit)) then some k0.y else none
noncomputable def boolOf (e : PySem.Expr) : Option { c : List PySem.Expr × Pos // e = .BoolOp .And c.1 c.2 } := match e with
  | .BoolOp .And xs p => some ⟨(xs, p), rfl⟩
  | _ => none
structure SubP where
  o : PySem.Expr
  i : PySem.Expr
  pos : Pos
noncomputable def subOf (e : PySem.Expr) : Option { c : SubP // e = .Subscript c.o c.i c.pos } := match e with
  | .Subscript o i p => some ⟨⟨o, i, p⟩, rfl⟩
  | _ => none
noncomputable def zeroOf (c : Const) : Option (PLift (c = .int 0)) := match c with
  | .int i => if h : i = 0 then some ⟨congrArg Const.int h⟩ else none
  | _ => none
noncomputable def firstOp (op : CmpOp) (e : PySem.Expr) : Option Str := bsub (cmpP e) fun c => bsub (oneE c.rs) fun r => bsub (conOf r) fun k => (zeroOf k.1).bind fun ζ => bsub (subOf c.l) fun u => bsub (nm u.o) fun x => bsub (conOf u.i) fun k2 => (zeroOf k2.1).bind fun ζ => if c.ops == [op] then some x.1 else none
structure ZpP where
  x : Str
  px : Pos
  y : Str
  py : Pos
  kt : Nat
  pt : Pos
  zp : Pos
  a : Str
  ap : Pos
  b : Str
  bp : Pos
  cp : Pos
noncomputable def ZpP.g (k : ZpP) : Comprehension := ⟨.Tuple [.Name k.x k.px, .Name k.y k.py] k.kt k.pt, .Call (.Name ("zip" : Str) k.zp) [.Name k.a k.ap, .Name k.b k.bp] [] k.cp, [], 0⟩
theorem zp_eq {g : Comprehension} {t : List PySem.Expr × Nat × Pos} {xy ab : PySem.Expr × PySem.Expr} {x y z a b : Str × Pos} {c : CallP} (q1 : g.target = .Tuple t.1 t.2.1 t.2.2) (q2 : t.1 = [xy.1, xy.2]) (q3 : xy.1 = .Name x.1 x.2) (q4 : xy.2 = .Name y.1 y.2) (q5 : g.iter = .Call c.f c.as c.ks c.pos) (q6 : c.f = .Name z.1 z.2) (q7 : c.as = [ab.1, ab.2]) (q8 : ab.1 = .Name a.1 a.2) (q9 : ab.2 = .Name b.1 b.2)
    (h : (((g.ifs.isEmpty && g.is_async == 0) && c.ks.isEmpty) && z.1 == ("zip" : Str)) = true) : g = ZpP.g ⟨x.1, x.2, y.1, y.2, t.2.1, t.2.2, z.2, a.1, a.2, b.1, b.2, c.pos⟩ := by
  obtain ⟨tg, it, f, s⟩ := g
  rw [Bool.and_eq_true, Bool.and_eq_true, Bool.and_eq_true, beq_iff_eq, beq_iff_eq, List.isEmpty_iff, List.isEmpty_iff] at h
  have e1 : tg = .Tuple [.Name x.1 x.2, .Name y.1 y.2] t.2.1 t.2.2 := by rw [← q3, ← q4, ← q2]; exact q1
  have e2 : it = .Call (.Name ("zip" : Str) z.2) [.Name a.1 a.2, .Name b.1 b.2] [] c.pos := by rw [← q8, ← q9, ← q7, ← h.2, ← q6, ← h.1.2]; exact q5
  have e3 : f = [] := h.1.1.1
  have e4 : s = 0 := h.1.1.2
  rw [e1, e2, e3, e4]
  rfl
noncomputable def zipOf (g : Comprehension) : Option { k : ZpP // g = k.g } := (tupOf g.target).bind fun t => (two t.1.1).bind fun xy => (nm xy.1.1).bind fun x => (nm xy.1.2).bind fun y => (callOf g.iter).bind fun c => (nm c.1.f).bind fun z => (two c.1.as).bind fun ab => (nm ab.1.1).bind fun a => (nm ab.1.2).bind fun b =>
  if h : (((g.ifs.isEmpty && g.is_async == 0) && c.1.ks.isEmpty) && z.1.1 == ("zip" : Str)) = true then some ⟨⟨x.1.1, x.1.2, y.1.1, y.1.2, t.1.2.1, t.1.2.2, z.1.2, a.1.1, a.1.2, b.1.1, b.1.2, c.1.pos⟩, zp_eq t.2 xy.2 x.2 y.2 c.2 z.2 ab.2 a.2 b.2 h⟩ else none
noncomputable def anyShape (as : List PySem.Expr) : Option (Str × Str) := bsub (oneE as) fun e => bsub (genOf e) fun g => bsub (oneE g.gens) fun gen => bsub (zipOf gen) fun z => bsub (boolOf g.elt) fun bo => bsub (two bo.1) fun ts =>
  if (firstOp .Eq ts.1 == some z.x && firstOp .NotEq ts.2 == some z.y && z.x != z.y) && (scOk g.sc && (locOk g.sc z.x && locOk g.sc z.y)) then some (z.a, z.b) else none
noncomputable def isNoneC (op : CmpOp) (r : PySem.Expr) : Option Bool := bsub (conOf r) fun k => (noneOf k.1).bind fun ζ => if op == .Is then some true else if op == .IsNot then some false else none
noncomputable def tuW : PI -> Bool
  | .zip _ _ => true
  | .enum _ => true
  | _ => false
noncomputable def tgtOk (n : Nat) (i : PI) : Bool := n == 2 || !tuW i
noncomputable def mkNone (b : Bool) (a : PE) : PT := if b then .isNone a else .isNotNone a
noncomputable def cmpX (ops : List CmpOp) (rs : List PySem.Expr) (l : Option PE) (bs : Option PEs) : Option PT := bsub (oneE ops) fun op => bsub (oneE rs) fun r => if behindInMarks op r then none else match isNoneC op r with
  | some b => l.bind fun a => some (mkNone b a)
  | none => (cCmp op).bind fun o => l.bind fun a => bs.bind fun b => (one b).bind fun b => some (.cmp o a b)
mutual
noncomputable def cE (C : Ctx) : PySem.Expr -> Option PE
  | .Constant c _ _ => (cConst c).map PE.lit
  | .Name x _ => cName C x
  | .BinOp l op r _ => (cOp op).bind fun o => (cE C l).bind fun a => (cE C r).bind fun b => some (.bin o a b)
  | .UnaryOp op x _ => if op == .USub then (cE C x).bind fun a => some (.neg a) else none
  | .Tuple es _ _ => if es.length ≤ lenLim then (cEs C es).bind fun a => some (.tup a) else none
  | .List es _ => if es.length ≤ lenLim then (cEs C es).bind fun a => some (.lst a) else none
  | .Subscript v i _ => (cE C v).bind fun a => match ixOk i with
    | some _ => (cE C i).bind fun b => some (.idx a b)
    | none => cSl C a i
  | .IfExp t a b _ => (cT C t).bind fun t => (cE C a).bind fun a => (cE C b).bind fun b => some (.ite t a b)
  | .Compare l ops rs _ => (cmpX ops rs (cE C l) (cEs C rs)).bind fun t => some (.tst t)
  | .ListComp elt gens sc _ => (gen1 gens).bind fun g => if compOk C g.xs sc then (cGs C (compCtx C g.xs sc) gens).bind fun it => (cE (compCtx C g.xs sc) elt).bind fun a => if tgtOk g.xs.length it.1 then some (.comp a g.xs.length it.1 it.2) else none else none
  | .Call f as ks pos => (callee C pos f ks).bind fun c => match c with
    | .fn j => if as.isEmpty then none else (cEs C as).bind fun es => some (.call j es)
    | .blt b => (cEs C as).bind fun es => (one es).bind fun x => some (.blt b x)
    | .lst => (cRs C as).bind fun i => (onlyR1 i).bind fun i => some (.lrange i)
    | .srt => (cSts C as).bind fun x => some (.blt .sortedSet x)
    | .mth m => (cA C f).bind fun o => (cEs C as).bind fun es => (one es).bind fun x => some (.mth m o x)
    | .anyC => none
    | .allC => none
  | _ => none
termination_by structural x => x
noncomputable def cA (C : Ctx) : PySem.Expr -> Option PE
  | .Attribute o _ _ => (baseOk o).bind fun ζ => cE C o
  | _ => none
termination_by structural x => x
noncomputable def cSts (C : Ctx) : List PySem.Expr -> Option PE
  | e :: r => if r.isEmpty then cSt C e else none
  | [] => none
termination_by structural x => x
noncomputable def cSt (C : Ctx) : PySem.Expr -> Option PE
  | .Call f as ks _ => if isBlt C ("set" : Str) f ks then (cEs C as).bind fun es => one es else none
  | _ => none
termination_by structural x => x
noncomputable def cSl (C : Ctx) (a : PE) : PySem.Expr -> Option PE
  | .Slice lo hi st _ => if st.isNone then (cEo C lo).bind fun b => (cEo C hi).bind fun c => some (.sl a b c) else none
  | _ => none
termination_by structural x => x
noncomputable def cGs (C C' : Ctx) : List Comprehension -> Option (PI × PT)
  | g :: _ => cG C C' g
  | [] => none
termination_by structural x => x
noncomputable def cG (C C' : Ctx) : Comprehension -> Option (PI × PT)
  | ⟨_, iter, ifs, _⟩ => (plainE iter).bind fun ζ => ((cR C iter).or ((cE C iter).map PI.of)).bind fun i => (cIf C' ifs).bind fun t => some (i, t)
termination_by structural x => x
noncomputable def cIf (C : Ctx) : List PySem.Expr -> Option PT
  | [] => some .tt
  | e :: r => if r.isEmpty then cT C e else none
termination_by structural x => x
noncomputable def cEs (C : Ctx) : List PySem.Expr -> Option PEs
  | [] => some .nil
  | e :: r => (plainE e).bind fun ζ => (cE C e).bind fun a => (cEs C r).bind fun b => some (.cons a b)
termination_by structural x => x
noncomputable def cRs (C : Ctx) : List PySem.Expr -> Option PI
  | e :: r => if r.isEmpty then cR C e else none
  | [] => none
termination_by structural x => x
noncomputable def cEo (C : Ctx) : Option PySem.Expr -> Option PE
  | none => some (.lit .none)
  | some e => cE C e
termination_by structural x => x
noncomputable def cR (C : Ctx) : PySem.Expr -> Option PI
  | .Call f as ks _ => if isBlt C ("range" : Str) f ks then (cEs C as).bind fun es => rOf es
    else if isBlt C ("zip" : Str) f ks then (cEs C as).bind fun es => zOf es
    else if isBlt C ("enumerate" : Str) f ks then (cEs C as).bind fun es => eOf es else none
  | _ => none
termination_by structural x => x
noncomputable def cT (C : Ctx) : PySem.Expr -> Option PT
  | .Compare l ops rs _ => cmpX ops rs (cE C l) (cEs C rs)
  | .UnaryOp op x _ => if op == .Not then (cT C x).bind fun a => some (.not a) else none
  | .BoolOp op xs _ => match op with
    | .And => cAnd C xs
    | .Or => cOr C xs
  | .Call f as ks p => (callee C p f ks).bind fun c => match c with
    | .fn j => if as.isEmpty then none else (cEs C as).bind fun es => some (.val (.call j es))
    | _ => none
  | _ => none
termination_by structural x => x
noncomputable def cAnd (C : Ctx) : List PySem.Expr -> Option PT
  | [] => some .tt
  | x :: r => (cT C x).bind fun a => (cAnd C r).bind fun b => some (.and a b)
termination_by structural x => x
noncomputable def cOr (C : Ctx) : List PySem.Expr -> Option PT
  | [] => some .ff
  | x :: r => (cT C x).bind fun a => (cOr C r).bind fun b => some (.or a b)
termination_by structural x => x
end
mutual
noncomputable def rdE (k : Nat) : PE -> List Nat
  | .lit _ => []
  | .var i => if k ≤ i then [i - k] else []
  | .bin _ a b => rdE k a ++ rdE k b
  | .neg a => rdE k a
  | .tst t => rdT k t
  | .ite t a b => rdT k t ++ (rdE k a ++ rdE k b)
  | .call _ as => rdEs k as
  | .blt _ a => rdE k a
  | .lrange i => rdI k i
  | .tup es => rdEs k es
  | .lst es => rdEs k es
  | .idx a i => rdE k a ++ rdE k i
  | .sl a lo hi => rdE k a ++ (rdE k lo ++ rdE k hi)
  | .comp elt n it c => rdI k it ++ (rdE (k + n) elt ++ rdT (k + n) c)
  | .mth _ a b => rdE k a ++ rdE k b
noncomputable def rdEs (k : Nat) : PEs -> List Nat
  | .nil => []
  | .cons e r => rdE k e ++ rdEs k r
noncomputable def rdT (k : Nat) : PT -> List Nat
  | .tt => []
  | .ff => []
  | .cmp _ a b => rdE k a ++ rdE k b
  | .isNone a => rdE k a
  | .isNotNone a => rdE k a
  | .not t => rdT k t
  | .and a b => rdT k a ++ rdT k b
  | .or a b => rdT k a ++ rdT k b
  | .val a => rdE k a
  | .anyZ a b => rdE k a ++ rdE k b
  | .allInts a => rdE k a
noncomputable def rdI (k : Nat) : PI -> List Nat
  | .r1 b => rdE k b
  | .r2 a b => rdE k a ++ rdE k b
  | .of a => rdE k a
  | .zip a b => rdE k a ++ rdE k b
  | .enum a => rdE k a
end
noncomputable def fz (C : Ctx) (is : List Nat) (s : PS) (r : PSs) : PSs :=
  let js := C.bs.filter fun j => is.contains j
  if js.isEmpty then .cons s r else .cons (.frz js) (.cons s r)
noncomputable def cI (C : Ctx) (e : PySem.Expr) : Option PI := (plainE e).bind fun ζ => (cR C e).or ((cE C e).map PI.of)
noncomputable def cNames (C : Ctx) : List Expr -> Option (List Nat)
  | [] => some []
  | t :: r => bsub (nm t) fun x => (C.slot x.1).bind fun i => (cNames C r).bind fun is => if is.contains i then none else some (i :: is)
noncomputable def bld (C : Ctx) (x : Str) : Option Nat := (C.slot x).bind fun i => if C.bs.contains i && x != ("__debug__" : Str) then some i else none
noncomputable def exIdx (C : Ctx) (x : Str) : Option Nat := if C.glob x && (C.slot x).isNone && (C.fn x).isNone then C.excs.findIdx? (· == x) else none
noncomputable def swapChk (C : Ctx) (ts : List PySem.Expr) (v : PySem.Expr) : Bool := match tupOf v with
  | none => true
  | some vs => (bsub (two ts) fun ab => bsub (nm ab.1) fun a => bsub (nm ab.2) fun b =>
      if vs.1.1.length == 2 && C.kinds.lookup a.1 == some .local && C.kinds.lookup b.1 == some .local && a.2.line == b.2.line && a.1 != b.1 && !(vs.1.1.all (foldedForSure 8)) && !(vs.1.1.all (constantsAlone 8)) then some () else none).isSome
noncomputable def wkCall (C : Ctx) (e : PySem.Expr) : Option (Nat × List PySem.Expr) := bsub (callOf e) fun c => bsub (nm c.f) fun f => (C.fn f.1).bind fun j => if C.wk.contains j && c.ks.isEmpty then some (j, c.as) else none
noncomputable def cAsg1 (C : Ctx) (v : PySem.Expr) : PySem.Expr -> Option (List Nat × PS)
  | .Name x _ => (C.slot x).bind fun i => match wkCall C v with
    | some w => (cEs C w.2).bind fun es => if C.bs.contains i || w.2.isEmpty then none else some (rdEs 0 es, .asgW i w.1 es)
    | none => (cE C v).bind fun e => some (rdE 0 e, if C.bs.contains i then .bnew i e else .asg i e)
  | .Tuple ts _ _ => if swapChk C ts v then (cNames C ts).bind fun is => (cE C v).bind fun e => some (rdE 0 e, .asgN is e) else none
  | .Subscript o i _ => bsub (nm o) fun x => (bld C x.1).bind fun b => (cE C i).bind fun p => (cE C v).bind fun e => some (rdE 0 p ++ rdE 0 e, .put b p e)
  | _ => none
noncomputable def cAsg (C : Ctx) (ts : List PySem.Expr) (v : PySem.Expr) : Option (List Nat × PS) := bsub (oneE ts) fun t => cAsg1 C v t
noncomputable def cExpr (C : Ctx) (e : PySem.Expr) : Option (List Nat × PS) := bsub (callOf e) fun c => if c.ks.isEmpty then bsub (attOf c.f) fun a => bsub (nm a.1) fun x =>
  if a.2.2.endLine == c.pos.line && a.2.1 == ("append" : Str) then bsub (oneE c.as) fun y => (bld C x.1).bind fun b => (cEs C c.as).bind fun es => (one es).bind fun e => some (rdE 0 e, .app b e) else none else none
noncomputable def isBld (C : Ctx) (e : PySem.Expr) : Option Nat := bsub (nm e) fun x => bld C x.1
noncomputable def cRet (C : Ctx) : Option PySem.Expr -> Option (List Nat × PS)
  | some v => match isBld C v with
    | some i => some ([], .retv i)
    | none => (cE C v).bind fun e => some (rdE 0 e, .ret e)
  | none => none
noncomputable def cRaise (C : Ctx) : Option PySem.Expr -> Option PySem.Expr -> Option (List Nat × PS)
  | some e, none => bsub (callOf e) fun c => if c.ks.isEmpty then bsub (nm c.f) fun x => bsub (oneE c.as) fun a => bsub (conOf a) fun k => bsub (strOf k.1) fun m => (exIdx C x.1).bind fun ci => if m.length ≤ lenLim then some ([], .raise ci m) else none else none
  | _, _ => none
noncomputable def cTgt (C : Ctx) (e : PySem.Expr) : Option (List Nat) := match nm e with
  | some x => (C.slot x.1.1).bind fun i => some [i]
  | none => bsub (tupOf e) fun t => bsub (two t.1) fun ζ => cNames C t.1
structure Hnd where
  c : Nat
  y : Nat
  d : PyData
noncomputable def cHnd (C : Ctx) (hs : List ExceptHandler) : Option Hnd := bsub (oneE hs) fun h => bsub (hndOf h) fun h2 => bsub (nm h2.1) fun ex => bsub (asgOf h2.2.1) fun a' => bsub (oneE a'.1) fun t' => bsub (nm t') fun y => bsub (conOf a'.2.1) fun k =>
  (exIdx C ex.1).bind fun ci => (C.slot y.1).bind fun yi => (cConst k.1).bind fun d => some ⟨ci, yi, d⟩
noncomputable def cTryC (C : Ctx) (i : Nat) (h : Hnd) (c : CallP) : Option (List Nat × PS) := bsub (nm c.f) fun f => (C.fnS f.1).bind fun j => (cEs C c.as).bind fun es => if c.as.isEmpty || !c.ks.isEmpty then none else some (rdEs 0 es, .tryC i j es h.c h.y h.d)
noncomputable def cTryM (C : Ctx) (x : Str) (i : Nat) (h : Hnd) (c : GenP) : Option (List Nat × PS) := (gen1 c.gens).bind fun g => if compOk C g.xs c.sc && !g.tests && !C.bs.contains i && !g.xs.contains x then
  (cGs C (compCtx C g.xs c.sc) c.gens).bind fun it => bsub (callOf c.elt) fun e => bsub (nm e.f) fun f => ((compCtx C g.xs c.sc).fnS f.1).bind fun j => (cEs (compCtx C g.xs c.sc) e.as).bind fun es =>
    if e.as.isEmpty || !e.ks.isEmpty || !tgtOk g.xs.length it.1 then none else some (rdI 0 it.1 ++ rdEs g.xs.length es, .tryM i j es g.xs.length it.1 h.c h.y h.d) else none
noncomputable def cTry (C : Ctx) (body : List Stmt) (hs : List ExceptHandler) : Option (List Nat × PS) :=
  bsub (oneE body) fun st => bsub (asgOf st) fun a => bsub (oneE a.1) fun t => bsub (nm t) fun x => (C.slot x.1).bind fun i => (cHnd C hs).bind fun h => match callOf a.2.1 with
    | some c => cTryC C i h c.1
    | none => bsub (lcOf a.2.1) fun c => cTryM C x.1 i h c
noncomputable def cAny (C : Ctx) (e : PySem.Expr) : Option PT := bsub (callOf e) fun c => if isBlt C ("any" : Str) c.f c.ks && C.glob ("zip" : Str) && (C.fn ("zip" : Str)).isNone then (anyShape c.as).bind fun x => (cName C x.1).bind fun a => (cName C x.2).bind fun b => some (.anyZ a b) else none
noncomputable def cAll (C : Ctx) (e : PySem.Expr) : Option PT := bsub (callOf e) fun c => if isBlt C ("all" : Str) c.f c.ks then (allShape c.as).bind fun x => (cName C x).bind fun a => some (.allInts a) else none
noncomputable def notOf (e : PySem.Expr) : Option { c : PySem.Expr × Pos // e = .UnaryOp .Not c.1 c.2 } := match e with
  | .UnaryOp .Not x p => some ⟨(x, p), rfl⟩
  | _ => none
noncomputable def isTst (a : PE) : Option { t : PT // a = .tst t } := match a with
  | .tst t => some ⟨t, rfl⟩
  | _ => none
noncomputable def cTG (C : Ctx) (e : PySem.Expr) : Option PT := match cmpP e with
  | some c => bsub (oneE c.1.rs) fun r => if c.1.ops == [.NotEq] then (cE C c.1.l).bind fun a => bsub (isTst a) fun ζ => (cAny C r).bind fun t => some (.cmp .ne a (.tst t)) else none
  | none => bsub (notOf e) fun c => (cAll C c.1).bind fun t => some (.not t)
noncomputable def cTs (C : Ctx) (e : PySem.Expr) : Option PT := (cT C e).or (if C.gen then cTG C e else none)
noncomputable def isTrueC : PySem.Expr -> Bool
  | .Constant (.bool true) _ _ => true
  | _ => false
mutual
noncomputable def cS (C : Ctx) (r : PSs) : Stmt -> Option PSs
  | .Assign ts v _ => (cAsg C ts v).bind fun p => some (fz C p.1 p.2 r)
  | .Expr e _ => (cExpr C e).bind fun p => some (fz C p.1 p.2 r)
  | .If t a b _ => (cTs C t).bind fun c => (cSs C a).bind fun x => (cSs C b).bind fun y => some (fz C (rdT 0 c) (.ite c x y) r)
  | .For tg it body oe _ => if oe.isEmpty then (cTgt C tg).bind fun is => (cI C it).bind fun p => (cSs C body).bind fun b => if tgtOk is.length p then some (fz C (rdI 0 p) (.for_ is p b) r) else none else none
  | .Return v _ => (cRet C v).bind fun p => some (fz C p.1 p.2 r)
  | .Raise ex ca _ => (cRaise C ex ca).bind fun p => some (fz C p.1 p.2 r)
  | .Try body hs oe fb _ => if oe.isEmpty && fb.isEmpty then (cTry C body hs).bind fun p => some (fz C p.1 p.2 r) else none
  | .While t body oe _ => if oe.isEmpty && isTrueC t then (cSs C body).bind fun b => some (.cons (.while_ .tt b) r) else none
  | .Continue _ => some (.cons .cont r)
  | .Break _ => some (.cons .brk r)
  | _ => none
termination_by structural x => x
noncomputable def cSs (C : Ctx) : List Stmt -> Option PSs
  | [] => some .nil
  | s :: r => (cSs C r).bind fun b => cS C b s
termination_by structural x => x
end
noncomputable def mkCtx (fns : List Str) (excs : List Str) (wk : List Nat) (gen : Bool) (ns bn : List Str) (sc : Scope) : Ctx :=
  { ns := ns.map some, kinds := sc.names, cn := (sc.names.filter fun x => x.2 == .cell).map (·.1), fns, excs, bs := bn.filterMap fun x => ns.findIdx? (· == x), wk, gen }
end Mine
end
section
namespace Mine
open PySem PyProof.Rows
mutual
noncomputable def RDx (h : Heap) (F : Addr -> Prop) : PyData -> Value -> Prop
  | .none, v => v = .none
  | .bool b, v => v = .bool b
  | .int i, v => ∃ t, v = .int i t
  | .str x, v => ∃ t, v = .str x t
  | .list xs, v => ∃ a vs, v = .ref a ∧ h.PlainList a vs ∧ ¬ F a ∧ RDxs h F xs vs.toList
  | .tuple xs, v => ∃ a vs, v = .ref a ∧ IsTup h a vs ∧ ¬ F a ∧ RDxs h F xs vs.toList
  | _, _ => False
termination_by structural d => d
noncomputable def RDxs (h : Heap) (F : Addr -> Prop) : List PyData -> List Value -> Prop
  | [], vs => vs = []
  | d :: ds, vs => ∃ w ws, vs = w :: ws ∧ RDx h F d w ∧ RDxs h F ds ws
termination_by structural ds => ds
end
noncomputable def RD (h : Heap) (F : Addr -> Prop) (v : Value) (d : PyData) : Prop := RDx h F d v
noncomputable def RDs (h : Heap) (F : Addr -> Prop) (vs : List Value) (ds : List PyData) : Prop := RDxs h F ds vs
section
variable {h h' : Heap} {F F' : Addr -> Prop}
theorem RD.none : RD h F .none .none := rfl
theorem RD.bool (b : Bool) : RD h F (.bool b) (.bool b) := rfl
theorem RD.int (i : Int) (t : Tok) : RD h F (.int i t) (.int i) := ⟨t, rfl⟩
theorem RD.str (x : Str) (t : Tok) : RD h F (.str x t) (.str x) := ⟨t, rfl⟩
theorem RD.list {a : Addr} {vs : Array Value} {xs : List PyData} (p : h.PlainList a vs) (f : ¬ F a) (r : RDs h F vs.toList xs) : RD h F (.ref a) (.list xs) := ⟨a, vs, rfl, p, f, r⟩
theorem RD.tuple {a : Addr} {vs : Array Value} {xs : List PyData} (p : IsTup h a vs) (f : ¬ F a) (r : RDs h F vs.toList xs) : RD h F (.ref a) (.tuple xs) := ⟨a, vs, rfl, p, f, r⟩
theorem RDs.nil : RDs h F [] [] := rfl
theorem RDs.cons {v : Value} {vs : List Value} {d : PyData} {ds : List PyData} (a : RD h F v d) (r : RDs h F vs ds) : RDs h F (v :: vs) (d :: ds) := ⟨v, vs, rfl, a, r⟩
theorem RDs.nil_inv {vs : List Value} (r : RDs h F vs []) : vs = [] := r
theorem RDs.cons_inv {vs : List Value} {d : PyData} {ds : List PyData} (r : RDs h F vs (d :: ds)) : ∃ v ws, vs = v :: ws ∧ RD h F v d ∧ RDs h F ws ds := r
theorem RDs.two_inv {vs : List Value} {d e : PyData} (r : RDs h F vs [d, e]) : ∃ v w, vs = [v, w] ∧ RD h F v d ∧ RD h F w e := by
  obtain ⟨v, ws, rfl, a, r⟩ := r.cons_inv
  obtain ⟨w, us, rfl, b, r⟩ := r.cons_inv
  exact ⟨v, w, by rw [r.nil_inv], a, b⟩
theorem RD.int_inv {v : Value} {i : Int} (x : RD h F v (.int i)) : ∃ t, v = .int i t := x
theorem RD.str_inv {v : Value} {i : Str} (x : RD h F v (.str i)) : ∃ t, v = .str i t := x
theorem RD.bool_inv {v : Value} {i : Bool} (x : RD h F v (.bool i)) : v = .bool i := x
theorem RD.none_inv {v : Value} (x : RD h F v .none) : v = .none := x
theorem RD.list_inv {v : Value} {xs : List PyData} (x : RD h F v (.list xs)) : ∃ a vs, v = .ref a ∧ h.PlainList a vs ∧ ¬ F a ∧ RDs h F vs.toList xs := x
theorem RD.tuple_inv' {v : Value} {xs : List PyData} (x : RD h F v (.tuple xs)) : ∃ a vs, v = .ref a ∧ IsTup h a vs ∧ ¬ F a ∧ RDs h F vs.toList xs := x
theorem RD.tuple_inv {v : Value} {xs : List PyData} (x : RD h F v (.tuple xs)) : ∃ a vs, v = .ref a ∧ IsTup h a vs ∧ RDs h F vs.toList xs := let ⟨a, vs, e, p, _, r⟩ := x; ⟨a, vs, e, p, r⟩
theorem absN {b : Addr} {o : Obj} (ho : h.get? b = some o) (e : h.get? b = Option.none) : False := nomatch ho.symm.trans e
mutual
theorem RDx.moveF (hF : ∀ a, F' a -> F a ∨ h.get? a = none) (hk : ∀ b o vs n, h.get? b = some o -> o.data = .seq vs n -> ¬ F b -> h'.get? b = some o) : ∀ (d : PyData) {v : Value}, RDx h F d v -> RDx h' F' d v
  | .none, _, x => x
  | .bool _, _, x => x
  | .int _, _, x => x
  | .str _, _, x => x
  | .list xs, _, ⟨a, vs, e, ⟨n, ho⟩, hf, r⟩ => ⟨a, vs, e, ⟨n, hk _ _ _ _ ho rfl hf⟩, fun q => (hF _ q).elim hf (absN ho), RDxs.moveF hF hk xs r⟩
  | .tuple xs, _, ⟨a, vs, e, ⟨o, ho, hc, n, hd⟩, hf, r⟩ => ⟨a, vs, e, ⟨o, hk _ _ _ _ ho hd hf, hc, n, hd⟩, fun q => (hF _ q).elim hf (absN ho), RDxs.moveF hF hk xs r⟩
termination_by structural d => d
theorem RDxs.moveF (hF : ∀ a, F' a -> F a ∨ h.get? a = none) (hk : ∀ b o vs n, h.get? b = some o -> o.data = .seq vs n -> ¬ F b -> h'.get? b = some o) : ∀ (ds : List PyData) {vs : List Value}, RDxs h F ds vs -> RDxs h' F' ds vs
  | [], _, x => x
  | d :: ds, _, ⟨w, ws, e, a, r⟩ => ⟨w, ws, e, RDx.moveF hF hk d a, RDxs.moveF hF hk ds r⟩
termination_by structural ds => ds
end
mutual
theorem RDx.reads : ∀ (d : PyData) {v : Value}, RDx h F d v -> ∃ as, Reads h v d as
  | .none, _, rfl => ⟨_, .none⟩
  | .bool b, _, rfl => ⟨_, .bool b⟩
  | .int i, _, ⟨t, rfl⟩ => ⟨_, .int i t⟩
  | .str x, _, ⟨t, rfl⟩ => ⟨_, .str x t⟩
  | .list xs, _, ⟨_, _, rfl, ⟨_, ho⟩, _, r⟩ => let ⟨_, q⟩ := RDxs.reads xs r; ⟨_, .list ho rfl rfl q⟩
  | .tuple xs, _, ⟨_, _, rfl, ⟨_, ho, hc, _, hd⟩, _, r⟩ => let ⟨_, q⟩ := RDxs.reads xs r; ⟨_, .tuple ho hc hd q⟩
termination_by structural d => d
theorem RDxs.reads : ∀ (ds : List PyData) {vs : List Value}, RDxs h F ds vs -> ∃ as, ReadsAll h vs ds as
  | [], _, rfl => ⟨_, .nil⟩
  | d :: ds, _, ⟨_, _, rfl, a, r⟩ => let ⟨_, p⟩ := RDx.reads d a; let ⟨_, q⟩ := RDxs.reads ds r; ⟨_, .cons p q⟩
termination_by structural ds => ds
end
theorem RD.reads {v : Value} {d : PyData} (x : RD h F v d) : ∃ as, Reads h v d as := RDx.reads d x
theorem RD.moveF (hF : ∀ a, F' a -> F a ∨ h.get? a = Option.none) (hk : ∀ b o vs n, h.get? b = some o -> o.data = .seq vs n -> ¬ F b -> h'.get? b = some o) {v : Value} {d : PyData} (x : RD h F v d) : RD h' F' v d := RDx.moveF hF hk d x
theorem RDs.moveF (hF : ∀ a, F' a -> F a ∨ h.get? a = Option.none) (hk : ∀ b o vs n, h.get? b = some o -> o.data = .seq vs n -> ¬ F b -> h'.get? b = some o) {v : List Value} {d : List PyData} (x : RDs h F v d) : RDs h' F' v d := RDxs.moveF hF hk d x
theorem RD.weak (hF : ∀ a, F' a -> F a ∨ h.get? a = Option.none) {v : Value} {d : PyData} (x : RD h F v d) : RD h F' v d := x.moveF hF fun ζ ζ ζ ζ e ζ ζ => e
theorem RDs.weak (hF : ∀ a, F' a -> F a ∨ h.get? a = Option.none) {v : List Value} {d : List PyData} (x : RDs h F v d) : RDs h F' v d := x.moveF hF fun ζ ζ ζ ζ e ζ ζ => e
theorem RD.keeps {v : Value} {d : PyData} (x : RD h F v d) (hk : ∀ b o, h.get? b = some o -> h'.get? b = some o) : RD h' F v d := x.moveF (fun ζ q => .inl q) fun b o ζ ζ e ζ ζ => hk b o e
theorem RDs.keeps {v : List Value} {d : List PyData} (x : RDs h F v d) (hk : ∀ b o, h.get? b = some o -> h'.get? b = some o) : RDs h' F v d := x.moveF (fun ζ q => .inl q) fun b o ζ ζ e ζ ζ => hk b o e
theorem RDs.at : ∀ {ds : List PyData} {vs : List Value}, RDs h F vs ds -> vs.length = ds.length ∧ ∀ (i : Nat) (d : PyData), ds[i]? = some d -> ∃ v, vs[i]? = some v ∧ RD h F v d
  | [], _, rfl => ⟨rfl, fun i d e => nomatch e⟩
  | d :: ds, _, ⟨_, _, rfl, a, r⟩ => ⟨congrArg (· + 1) (RDs.at r).1, fun i => match i with
    | 0 => fun ζ e => ⟨_, rfl, Option.some.inj e ▸ a⟩
    | i + 1 => (RDs.at r).2 i⟩
theorem RDs.length {vs : List Value} {ds : List PyData} (r : RDs h F vs ds) : vs.length = ds.length := r.at.1
theorem RDs.get {vs : List Value} {ds : List PyData} (r : RDs h F vs ds) {i : Nat} {d : PyData} (e : ds[i]? = some d) : ∃ v, vs[i]? = some v ∧ RD h F v d := r.at.2 i d e
theorem RDs.get' {vs : List Value} {ds : List PyData} (r : RDs h F vs ds) {i : Nat} {v : Value} (e : vs[i]? = some v) : ∃ d, ds[i]? = some d ∧ RD h F v d := by
  have hi := (List.getElem?_eq_some_iff.mp e).1
  rw [r.length] at hi
  obtain ⟨w, e', x⟩ := r.get (List.getElem?_eq_getElem hi)
  rw [e] at e'
  replace e' := Option.some.inj e'
  subst e'
  exact ⟨_, List.getElem?_eq_getElem hi, x⟩
theorem RDs.of_get : ∀ {ds : List PyData} {vs : List Value}, vs.length = ds.length -> (∀ (i : Nat) (v : Value) (d : PyData), vs[i]? = some v -> ds[i]? = some d -> RD h F v d) -> RDs h F vs ds
  | [], vs, e, _ => List.eq_nil_of_length_eq_zero e
  | d :: ds, vs, e, q => by
    cases vs with
    | nil => cases e
    | cons v vs => exact ⟨v, vs, rfl, q 0 v d rfl rfl, RDs.of_get (Nat.succ.inj e) fun i => q (i + 1)⟩
theorem RDs.append : ∀ {ds es : List PyData} {vs ws : List Value}, RDs h F vs ds -> RDs h F ws es -> RDs h F (vs ++ ws) (ds ++ es)
  | [], _, _, _, rfl, q => q
  | _ :: _, _, _, _, ⟨_, _, rfl, a, r⟩, q => .cons a (RDs.append r q)
theorem RDs.drop : ∀ (n : Nat) {ds : List PyData} {vs : List Value}, RDs h F vs ds -> RDs h F (vs.drop n) (ds.drop n)
  | 0, _, _, q => q
  | _ + 1, [], _, rfl => rfl
  | n + 1, _ :: _, _, ⟨_, _, rfl, _, r⟩ => RDs.drop n r
theorem RDs.take : ∀ (n : Nat) {ds : List PyData} {vs : List Value}, RDs h F vs ds -> RDs h F (vs.take n) (ds.take n)
  | 0, _, _, _ => rfl
  | _ + 1, [], _, rfl => rfl
  | n + 1, _ :: _, _, ⟨_, _, rfl, a, r⟩ => .cons a (RDs.take n r)
theorem RDs.set : ∀ {ds : List PyData} {vs : List Value}, RDs h F vs ds -> ∀ (i : Nat) {v : Value} {d : PyData}, RD h F v d -> RDs h F (vs.set i v) (ds.set i d)
  | [], _, rfl, _, _, _, _ => rfl
  | _ :: _, _, ⟨_, _, rfl, _, r⟩, 0, _, _, a => .cons a r
  | _ :: _, _, ⟨_, _, rfl, b, r⟩, i + 1, _, _, a => .cons b (RDs.set r i a)
end
noncomputable def Val (F : Addr -> Prop) (h₀ h : Heap) (v : Value) (r : PyData × Nat) : Prop :=
  RD h F v r.1 ∧
  (r.2 = 1 -> ∃ a vs ds, v = .ref a ∧ r.1 = .list ds ∧ h₀.get? a = none ∧ h.PlainList a vs ∧ RDs h (fun b => F b ∨ b = a) vs.toList ds)
theorem Val.rd {F h₀ h v r} (x : Val F h₀ h v r) : RD h F v r.1 := x.1
theorem Val.of {F h₀ h v d} (x : RD h F v d) : Val F h₀ h v (d, 0) := ⟨x, fun e => nomatch e⟩
end Mine
end
section
set_option maxRecDepth 100000
namespace Mine
open PySem PyProof.Rows
structure GCtx where
  prog : Program
  w : World
  hB : Heap
  mg : Str -> Option Value
  mb : Str -> Option Value
  fs : List PFun
  excs : List Str
  xv : Nat -> Option Value
noncomputable def bltin : List (Str × Value) := [("len", .builtin "len"), ("abs", .builtin "abs"), ("str", .type "str"), ("list", .type "list"), ("range", .type "range"), ("type", .type "type"), ("int", .type "int"),
  ("ZeroDivisionError", .type "ZeroDivisionError"), ("zip", .type "zip"), ("enumerate", .type "enumerate"), ("max", .builtin "max"), ("sorted", .builtin "sorted"), ("set", .type "set"), ("any", .builtin "any"), ("all", .builtin "all")]
inductive ExcOk (G : GCtx) : Str -> Value -> Prop
  | zde : ExcOk G ("ZeroDivisionError" : Str) (.type "ZeroDivisionError")
  | own {x : Str} {a : Addr} {bm : List Value} {newId initId : String} : OwnClsQ x a bm newId G.mg G.hB -> ExcBaseFacts "Exception" newId initId bm -> bm.contains (.type "BaseException") = true -> (x == ("__debug__" : Str)) = false -> ExcOk G x (.ref a)
structure GOk (G : GCtx) : Prop where
  g : G.hB.Ns mainGlobals G.mg
  b : G.hB.Ns builtinsNs G.mb
  nolimit : G.hB.NoLimit
  nodigits : G.hB.NoDigits
  blt : ∀ x v, bltin.lookup x = some v -> G.mg x = none ∧ G.mb x = some v
  exc : ∀ (c : Nat) (x : Str), G.excs[c]? = some x -> ∃ v, G.xv c = some v ∧ ExcOk G x v
  len : G.fs.length ≤ 1000
  bm : ∃ bm ob, G.mg "__builtins__" = some (.ref bm) ∧ bm ≠ builtinsNs ∧ G.hB.get? bm = some ob ∧ ob.cls = .type "module" ∧ ob.dict = some builtinsNs ∧ ob.data = .plain
  fn : ∀ (j : Nat) (f : PFun), G.fs[j]? = some f -> ∃ a o fd, G.mg f.name = some (.ref a) ∧ G.hB.get? a = some o ∧ o.data = .func fd
noncomputable abbrev KeepsH (h h' : Heap) : Prop := ∀ b o, h.get? b = some o -> h'.get? b = some o
theorem KeepsH.trans {a b c : Heap} (x : KeepsH a b) (y : KeepsH b c) : KeepsH a c := fun p o e => y p o (x p o e)
theorem KeepsH.none {h h' : Heap} (x : KeepsH h h') {a : Addr} (e : h'.get? a = none) : h.get? a = none := by
  cases q : h.get? a with
  | none => rfl
  | some o => have := x a o q; rw [e] at this; cases this
noncomputable def Sm (s s' : Shared) : Prop := ∃ h tk g, s' = { s with heap := h, toks := tk, gens := g } ∧ (AllBare s.gens -> AllBare g)
theorem Sm.refl (s : Shared) : Sm s s := ⟨s.heap, s.toks, s.gens, rfl, id⟩
theorem Sm.trans {a b c : Shared} (x : Sm a b) (y : Sm b c) : Sm a c := by
  obtain ⟨h, t, g, rfl, q⟩ := x
  obtain ⟨h', t', g', rfl, q'⟩ := y
  exact ⟨h', t', g', rfl, fun z => q' (q z)⟩
theorem Sm.put (s : Shared) (h : Heap) (t : Nat) : Sm s { s with heap := h, toks := t } := ⟨h, t, s.gens, rfl, id⟩
theorem Sm.puts {s s' : Shared} (x : Sm s s') (h : Heap) (t : Nat) : Sm s { s' with heap := h, toks := t } := x.trans (.put s' h t)
noncomputable def Keeps (s s' : Shared) : Prop := Sm s s' ∧ KeepsH s.heap s'.heap
theorem Keeps.sm {s s' : Shared} (x : Keeps s s') : Sm s s' := x.1
theorem Keeps.heap {s s' : Shared} (x : Keeps s s') : KeepsH s.heap s'.heap := x.2
theorem Keeps.refl (s : Shared) : Keeps s s := ⟨.refl s, fun ζ ζ e => e⟩
theorem Keeps.trans {a b c : Shared} (x : Keeps a b) (y : Keeps b c) : Keeps a c := ⟨x.1.trans y.1, x.2.trans y.2⟩
theorem Keeps.put (s : Shared) {h : Heap} (t : Nat) (k : KeepsH s.heap h) : Keeps s { s with heap := h, toks := t } := ⟨.put s h t, k⟩
theorem Keeps.tok (s : Shared) (tk : Nat) : Keeps s { s with toks := tk } := .put s tk fun ζ ζ e => e
theorem Keeps.push (s : Shared) (o : Obj) : Keeps s { s with heap := s.heap.push o } := .put s s.toks fun ζ ζ e => Heap.get?_push_of_some o e
theorem Keeps.pushT (s : Shared) (o : Obj) (tk : Nat) : Keeps s { s with heap := s.heap.push o, toks := tk } := .put s tk fun ζ ζ e => Heap.get?_push_of_some o e
noncomputable def FrsB (base h : Heap) (outer : List Env) : Prop := ∀ env ∈ outer, env.scope.kind ≠ .module ∧ ∃ L m, env.frame = some L ∧ base.get? L = none ∧ h.Ns L m
theorem FrsB.ff {base h : Heap} : ∀ {l : List Env}, FrsB base h l -> h.FunFrames base l
  | [], _ => trivial
  | e :: _, x => let ⟨a, _, _, b, c, d⟩ := x e (.head _); Heap.FunFrames.cons a b d c (FrsB.ff fun e he => x e (.tail _ he))
noncomputable abbrev Frs (G : GCtx) (h : Heap) (outer : List Env) : Prop := FrsB G.hB h outer
theorem Frs.move {G : GCtx} {h h' : Heap} {l : List Env} (x : Frs G h l) (k : ∀ L m, h.Ns L m -> h'.Ns L m) : Frs G h' l := fun e he => let ⟨a, L, m, b, c, d⟩ := x e he; ⟨a, L, m, b, c, k L m d⟩
structure Ok (G : GCtx) (k : Nat) (A : Around) (s : Shared) : Prop where
  hh : A.handled = none
  dp : A.depth + k < recursionLimit
  un : A.units + 8 * k + 200 < cLine
  kb : KeepsH G.hB s.heap
  fr : ∃ outer, A.frames = some outer ∧ Frs G s.heap outer
theorem Ok.keeps {G : GCtx} {k : Nat} {A : Around} {s s' : Shared} (x : Ok G k A s) (hk : KeepsH s.heap s'.heap) : Ok G k A s' :=
  ⟨x.hh, x.dp, x.un, x.kb.trans hk, let ⟨o, a, b⟩ := x.fr; ⟨o, a, Frs.move b fun ζ ζ q => q.keeps hk⟩⟩
noncomputable def Has (env : Env) (h : Heap) (x : Str) (v : Value) : Prop :=
  (env.kindOf x = some .local ∧ env.cells.lookup x = none ∧ ∃ m, h.Ns env.locals m ∧ m x = some v) ∨
  ((env.kindOf x = some .cell ∨ (env.kindOf x = some .free ∧ (x == ("__classdict__" : Str)) = false)) ∧ ∃ c, env.cells.lookup x = some c ∧ h.IsCell c (some v))
theorem Has.keeps {env : Env} {h h' : Heap} {x : Str} {v : Value} (y : Has env h x v) (hk : KeepsH h h') : Has env h' x v := by
  rcases y with ⟨a, b, m, c, d⟩ | ⟨a, c, b, d⟩
  . exact .inl ⟨a, b, m, c.keeps hk, d⟩
  . exact .inr ⟨a, c, b, d.keeps hk⟩
structure EnvOK (C : Ctx) (env : Env) (γ : Env') (F : Addr -> Prop) (h : Heap) : Prop where
  kind : env.scope.kind = .function
  glob : ∀ x, C.glob x = true -> env.kindOf x = some .globalImplicit
  gl : env.globals = mainGlobals
  bl : env.builtins = builtinsNs
  cells : ∀ x ∈ C.cn, ∃ c, env.cells.lookup x = some c
  slots : ∀ (i : Nat) (x : Str) (d : PyData), C.ns[i]? = some (some x) -> γ[i]? = some (.pl d) -> ∃ v, Has env h x v ∧ RD h F v d
theorem EnvOK.keeps {C : Ctx} {env : Env} {γ : Env'} {F : Addr -> Prop} {h h' : Heap} (x : EnvOK C env γ F h) (hk : KeepsH h h') : EnvOK C env γ F h' :=
  ⟨x.kind, x.glob, x.gl, x.bl, x.cells, fun i y d a b => let ⟨v, p, q⟩ := x.slots i y d a b; ⟨v, p.keeps hk, q.keeps hk⟩⟩
noncomputable def Alloc (F : Addr -> Prop) (h : Heap) : Prop := ∀ a, F a -> ∃ o, h.get? a = some o
theorem Alloc.keeps {F : Addr -> Prop} {h h' : Heap} (x : Alloc F h) (hk : KeepsH h h') : Alloc F h' := fun a f => let ⟨o, e⟩ := x a f; ⟨o, hk a o e⟩
theorem Alloc.fresh {F : Addr -> Prop} {h : Heap} (x : Alloc F h) {a : Addr} (e : h.get? a = none) : ¬ F a := fun f => let ⟨o, q⟩ := x a f; by rw [e] at q; cases q
noncomputable def ExcPost (G : GCtx) (A : Around) (c : Nat) (e : Value) (s s' : Shared) : Prop :=
  ∃ ea B outer a0 cv, G.xv c = some cv ∧ e = .ref ea ∧ A.frames = some outer ∧ Heap.FlyingW B outer ea cv a0 s'.heap ∧ (∀ b o, s.heap.get? b = some o -> b ∉ outer.filterMap (·.frame) -> B.get? b = some o) ∧ s.heap.UpToSlots s'.heap ∧ Sm s s'
noncomputable def Realizes (G : GCtx) (j : Nat) (args : List PyData) (out : Out) : Prop :=
  ∀ (f : PFun) (a : Addr), G.fs[j]? = some f -> G.mg f.name = some (.ref a) ->
  ∀ (A : Around) (s : Shared) (F : Addr -> Prop) (vs : List Value) (Q E : Value -> Shared -> Prop), Ok G (j + 1) A s -> Alloc F s.heap -> RDs s.heap F vs args ->
    (∀ d l, out = .ret d l -> ∀ v s', Keeps s s' -> Val F s.heap s'.heap v (d, l) -> Q v s') ->
    (∀ c, out = .exc c -> ∀ e s', ExcPost G A c e s s' -> E e s') ->
    wpAny (model G.prog G.w) A (call (.ref a) vs) Q E s
noncomputable abbrev frs (outer : List Env) : List Addr := outer.filterMap (·.frame)
noncomputable def KeepsW (outer : List Env) (s s' : Shared) : Prop := Sm s s' ∧ (∀ b o, s.heap.get? b = some o -> b ∉ frs outer -> s'.heap.get? b = some o) ∧ s.heap.UpToSlots s'.heap
noncomputable def RealizesW (G : GCtx) (j : Nat) (args : List PyData) (out : Out) : Prop :=
  ∀ (f : PFun) (a : Addr), G.fs[j]? = some f -> G.mg f.name = some (.ref a) ->
  ∀ (A : Around) (s : Shared) (outer : List Env) (F : Addr -> Prop) (vs : List Value) (Q E : Value -> Shared -> Prop), Ok G (j + 1) A s -> A.frames = some outer -> Alloc F s.heap -> RDs s.heap F vs args ->
    (∀ d l, out = .ret d l -> ∀ v s', KeepsW outer s s' -> Val F s.heap s'.heap v (d, l) -> Q v s') -> (∃ d l, out = .ret d l) ->
    wpAny (model G.prog G.w) A (call (.ref a) vs) Q E s
noncomputable def Reals (G : GCtx) (Φ : Funs) (k : Nat) : Prop :=
  (∀ j args out, Φ j args = some out -> j < 1000 -> j < k ∧ Realizes G j args out) ∧ ∀ j args out, Φ (1000 + j) args = some out -> j < k ∧ RealizesW G j args out
structure CG (G : GCtx) (C : Ctx) : Prop where
  fns : C.fns = G.fs.map (·.name)
  excs : C.excs = G.excs
structure H (G : GCtx) (Φ : Funs) (k : Nat) (C : Ctx) (γ : Env') (A : Around) (env : Env) (F : Addr -> Prop) (s : Shared) : Prop where
  g : GOk G
  real : Reals G Φ k
  cg : CG G C
  ok : Ok G k A s
  env : EnvOK C env γ F s.heap
  al : Alloc F s.heap
theorem H.keeps {G Φ k C γ A env F} {s s' : Shared} (x : H G Φ k C γ A env F s) (hk : Keeps s s') : H G Φ k C γ A env F s' := by
  exact ⟨x.g, x.real, x.cg, x.ok.keeps hk.heap, x.env.keeps hk.heap, x.al.keeps hk.heap⟩
theorem Val.back {F : Addr -> Prop} {h₀ h₁ h : Heap} {v : Value} {r : PyData × Nat} (x : Val F h₁ h v r) (hk : KeepsH h₀ h₁) : Val F h₀ h v r := by
  obtain ⟨a, b⟩ := x
  refine ⟨a, fun e => ?_⟩
  refine cps fun Gq goq => ?_
  obtain ⟨p, vs, ds, q1, q2, q3, q4⟩ := b e
  refine goq ?_
  clear goq
  clear Gq
  exact ⟨p, vs, ds, q1, q2, hk.none q3, q4⟩
theorem fresh_size (h : Heap) : h.get? h.objs.size = none := by
  cases e : h.get? h.objs.size with
  | none => rfl
  | some o => exact absurd (Heap.lt_size e) (Nat.lt_irrefl _)
theorem Val.pushList {F : Addr -> Prop} {h : Heap} {vs : List Value} {ds : List PyData} (al : Alloc F h) (r : RDs h F vs ds) :
    Val F h (h.push { cls := .type "list", data := .seq vs.toArray }) (.ref h.objs.size) (.list ds, 1) := by
  have hn := fresh_size h
  have hf : ¬ F h.objs.size := al.fresh hn
  have hk : KeepsH h (h.push { cls := .type "list", data := .seq vs.toArray }) := fun ζ ζ e => Heap.get?_push_of_some _ e
  have hl : (h.push { cls := .type "list", data := .seq vs.toArray }).PlainList h.objs.size vs.toArray := ⟨_, Heap.get?_push_size _ rfl⟩
  refine ⟨.list hl hf (by simpa using r.keeps hk), fun ζ => ⟨_, vs.toArray, ds, rfl, rfl, hn, hl, ?_⟩⟩
  have r' : RDs h (fun b => F b ∨ b = h.objs.size) vs ds := r.weak fun a q => q.imp id fun e => by subst e; exact hn
  simpa using r'.keeps hk
theorem RD.pushTuple {F : Addr -> Prop} {h : Heap} {vs : List Value} {ds : List PyData} (al : Alloc F h) (r : RDs h F vs ds) :
    RD (h.push { cls := .type "tuple", data := .seq vs.toArray }) F (.ref h.objs.size) (.tuple ds) :=
  .tuple ⟨_, Heap.get?_push_size _ rfl, rfl, _, rfl⟩ (al.fresh (fresh_size h)) (by simpa using r.keeps fun ζ ζ e => Heap.get?_push_of_some _ e)
section
variable {G : GCtx} {Φ : Funs} {k : Nat} {C : Ctx} {γ : Env'} {A : Around} {env : Env} {F : Addr -> Prop} {s : Shared} {E : Value -> Shared -> Prop}
theorem name_has {x : Str} {pos : Pos} {v : Value} {Q : Value -> Shared -> Prop} (hk : env.scope.kind = .function) (y : Has env s.heap x v) (h : Q v s) (hd : (x == ("__debug__" : Str)) = false) :
    wpAny (model G.prog G.w) A (eval (.Name x pos) env) Q E s := by
  refine wpAny_Name ?_ hd
  rcases y with ⟨a, _, m, c, d⟩ | ⟨a | ⟨a, a'⟩, c, b, d⟩
  . exact wpAny_loadName_local hk a c d h
  . exact wpAny_loadName_cell hk a b d h
  . exact wpAny_loadName_free hk a b d h a'
theorem name_glob {x : Str} {pos : Pos} {v : Value} {Q : Value -> Shared -> Prop} (hH : H G Φ k C γ A env F s) (hg : C.glob x = true) (hv : G.mg x = some v) (h : Q v s) (hd : (x == ("__debug__" : Str)) = false) :
    wpAny (model G.prog G.w) A (eval (.Name x pos) env) Q E s :=
  Calls.Name_function_global hH.env.kind (hH.env.glob x hg) (Calls.loadGlobal_global (by rw [hH.env.gl]; exact hH.g.g.keeps hH.ok.kb) hv h) hd
theorem name_blt {x : Str} {pos : Pos} {v : Value} {Q : Value -> Shared -> Prop} (hH : H G Φ k C γ A env F s) (hg : C.glob x = true) (hv : bltin.lookup x = some v) (h : Q v s) (hd : (x == ("__debug__" : Str)) = false) :
    wpAny (model G.prog G.w) A (eval (.Name x pos) env) Q E s :=
  Calls.Name_function_global hH.env.kind (hH.env.glob x hg) (Calls.loadGlobal_builtin (by rw [hH.env.gl]; exact hH.g.g.keeps hH.ok.kb) (hH.g.blt x v hv).1 (by rw [hH.env.bl]; exact hH.g.b.keeps hH.ok.kb) (hH.g.blt x v hv).2 h) hd
end
end Mine
end
section
set_option maxRecDepth 100000
namespace Mine
open PySem PyProof.Rows
theorem sm_log {i : Int} (h : sm i = true) : i.natAbs.log2 < 8000 := by
  have h' : i.natAbs < 2 ^ 8000 := by have := of_decide_eq_true h; rwa [lim] at this
  by_cases e : i.natAbs = 0
  . rw [e]; decide
  . exact (Nat.log2_lt e).mpr h'
theorem sm_bits {i : Int} (h : sm i = true) : Builtin.Int.intBits i ≤ 8000 := by
  have h' := sm_log h
  unfold Builtin.Int.intBits
  split <;> omega
theorem sm_mul {a b : Int} (ha : sm a = true) (hb : sm b = true) : IntMulOk a b := by
  unfold IntMulOk Builtin.Int.intTooBig bitsLine
  have h1 := sm_bits ha
  have h2 := sm_bits hb
  intro h
  simp only [Bool.and_eq_true, decide_eq_true_eq] at h
  have h3 := h.2
  omega
theorem sm_pylong {a b : Int} (hb : sm b = true) : Builtin.divisionGoesByPylong a b = false := PyProof.noPylong_of_log2 (Nat.lt_trans (sm_log hb) (by decide))
theorem lenLim_size {n : Nat} (h : n ≤ lenLim) : n ≤ sizeLine := Nat.le_trans h (by decide)
theorem intsD_are {h : Heap} {F : Addr -> Prop} {ds : List PyData} : ∀ {vs : List Value} {ns : List Int}, RDs h F vs ds -> intsD ds = some ns -> IntsAre vs ns := by
  induction ds with
  | nil =>
    intro vs ns r e
    replace e := Option.some.inj e
    subst e
    rw [r.nil_inv]
    exact .nil
  | cons d ds ih =>
    intro vs ns r e
    obtain ⟨v, ws, rfl, a, r'⟩ := r.cons_inv
    cases d with
    | int i =>
      have zq := Option.bind_eq_some_iff.mp e
      clear e
      obtain ⟨is, q, e⟩ := zq
      replace e := Option.some.inj e
      subst e
      obtain ⟨t, rfl⟩ := a.int_inv
      exact .cons _ _ (ih r' q)
    | _ => cases e
theorem foldl_rep {h : Heap} {F : Addr -> Prop} {items : Array Value} {xs : List PyData} (r : RDs h F items.toList xs) : ∀ (n : Nat) (acc : Array Value) (ys : List PyData), RDs h F acc.toList ys ->
    RDs h F (List.foldl (fun x1 x2 => x1 ++ x2) acc (List.replicate n items)).toList (ys ++ repL xs n)
  | 0, acc, ys, q => by simpa [repL] using q
  | n + 1, acc, ys, q => by
    rw [List.replicate_succ, List.foldl_cons, repL, ← List.append_assoc]
    exact foldl_rep r n _ _ (by simpa using q.append r)
section
variable {prog : Program} {w : World} {A : Around} {F : Addr -> Prop} {s : Shared} {Q E : Value -> Shared -> Prop}
theorem mul_list' {l : Addr} {items : Array Value} {k : Nat} {x : Int} {u : Tok} (hl : s.heap.get? l = some { cls := .type "list", dict := none, data := .seq items k, slots := #[] })
    (hlo : -(2 ^ 63 : Int) ≤ x) (hhi : x < 2 ^ 63) (hsz : items.size * x.toNat ≤ 2 ^ 24)
    (h : Q (.ref s.heap.objs.size) { s with heap := s.heap.push { cls := .type "list", data := .seq (List.foldl (fun x1 x2 => x1 ++ x2) #[] (List.replicate (if items.isEmpty = true then 0 else x.toNat) items)) } }) :
    wpAny (model prog w) A (binaryOp .Mult (.ref l) (.int x u)) Q E s :=
  wpAny_binaryOp_repeat_ref (T := "list") (U := "int") (by decide) ⟨_, hl, rfl⟩ (fun s' => typeIs_int s' x u) noFill_list_mul F.fills_int_mul F.slot_int_rmul repeat_list F.slot_int_index.lookup
    (call_meets F.slot_int_rmul (typeIs_int s x u) F.entry_int_rmul (F.args_int_rmul_2 _ _) (int___rmul___int_list x u l items k)
      ⟨hl, rfl, ⟨_, hl, rfl⟩, call_meets F.slot_list_mul ⟨_, hl, rfl⟩ F.entry_list_mul (F.args_list_mul_2 _ _)
        (AutoListH.list___mul___list_int_3 l items k x u (by simp [Builtin.List.listFitsIndex]; omega) (by omega) (by simp [Builtin.List.listTooLong, sizeLine]; omega))
        ⟨hl, h⟩⟩)
theorem add_lists' {l b : Addr} {vs ws : Array Value} (hl : s.heap.IsList l vs) (hb : s.heap.IsList b ws) (hsz : vs.size + ws.size ≤ sizeLine)
    (h : Q (.ref s.heap.objs.size) { s with heap := s.heap.push { cls := .type "list", data := .seq (vs ++ ws) } }) :
    wpAny (model prog w) A (binaryOp .Add (.ref l) (.ref b)) Q E s := by
  refine cps fun Gq goq => ?_
  obtain ⟨⟨cls, dd, data, sl⟩, ho, hc, n, hd⟩ := id hl
  obtain ⟨⟨cls2, dd2, data2, sl2⟩, ho2, hc2, n2, hd2⟩ := id hb
  refine goq ?_
  clear goq
  clear Gq
  simp only at hc hd hc2 hd2
  subst hc hd hc2 hd2
  exact concat_meets ⟨_, ho, rfl⟩ ⟨_, ho2, rfl⟩ noFill_list_add seq_list_add PySem.F.slot_list_add PySem.F.entry_list_add (PySem.F.args_list_add_2 _ _) (list_addW l b vs ws n n2 dd dd2 sl sl2 hsz) ⟨ho, ho2, h⟩
theorem ifB0 {α : Type} {c : Prop} [Decidable c] {x : Option α} {r : α} (h : (if c then x else none) = some r) : c ∧ x = some r := by
  split at h
  . exact ⟨by assumption, h⟩
  . cases h
theorem ifBE {α : Type} {c : Prop} [Decidable c] {x : Option α} {r : α} {R : Prop} (h : (if c then x else none) = some r) (k : c -> x = some r -> R) : R := let ⟨p, q⟩ := ifB0 h; k p q
theorem ifBR {α : Type} {c : Prop} [Decidable c] {x : Option α} {r : α} {R : Prop} (k : c -> x = some r -> R) (h : (if c then x else none) = some r) : R := ifBE h k
theorem ifSo {α : Type} {c : Prop} [Decidable c] {x r : α} (h : (if c then some x else none) = some r) : c ∧ some x = some r := by
  split at h
  . exact ⟨by assumption, h⟩
  . cases h
noncomputable def opOf : BOp -> Operator
  | .add => .Add
  | .sub => .Sub
  | .mul => .Mult
  | .fdiv => .FloorDiv
  | .mod => .Mod
theorem cOp_of {o : BOp} {op : Operator} (h : cOp op = some o) : op = opOf o := by
  cases op <;> cases h <;> rfl
noncomputable def cmpOf : COp -> CmpOp
  | .eq => .Eq
  | .ne => .NotEq
  | .lt => .Lt
  | .gt => .Gt
  | .isin => .In
theorem cCmp_of {o : COp} {op : CmpOp} (h : cCmp op = some o) : op = cmpOf o := by
  cases op <;> cases h <;> rfl
theorem binD_sound {o : BOp} {op : Operator} (ho : cOp op = some o) {x y : PyData} {r : PyData × Nat} (hr : binD o x y = some r) {a b : Value} (ra : RD s.heap F a x) (rb : RD s.heap F b y) (al : Alloc F s.heap)
    (h : ∀ v s', Keeps s s' -> Val F s.heap s'.heap v r -> Q v s') : wpAny (model prog w) A (binaryOp op a b) Q E s := by
  have hop := cOp_of ho
  subst hop
  clear ho
  cases o with
  | add => cases x with
    | int i => cases y with
      | int j =>
        obtain ⟨t, rfl⟩ := ra.int_inv
        obtain ⟨u, rfl⟩ := rb.int_inv
        replace hr := Option.some.inj hr
        subst hr
        exact PyProof.Rows.add_int (h _ _ (Keeps.tok _ _) (.of (.int _ _)))
      | _ => cases hr
    | list xs => cases y with
      | list ys =>
        have zq := ifSo hr
        clear hr
        obtain ⟨hsz, hr⟩ := zq
        replace hr := Option.some.inj hr
        subst hr
        refine cps fun Gq goq => ?_
        obtain ⟨l, vs, rfl, hl, -, rl⟩ := ra.list_inv
        obtain ⟨m, ws, rfl, hm, -, rm⟩ := rb.list_inv
        refine goq ?_
        clear goq
        clear Gq
        have e1 := rl.length
        have e2 := rm.length
        refine add_lists' hl.isList hm.isList (lenLim_size (by simp only [Array.length_toList] at e1 e2; omega)) (h _ _ (Keeps.push _ _) ?_)
        have := Val.pushList al (rl.append rm)
        have e3 : vs ++ ws = (vs.toList ++ ws.toList).toArray := by simp
        rw [e3]
        exact this
      | _ => cases hr
    | str i => cases y with
      | str j =>
        have zq := ifSo hr
        clear hr
        obtain ⟨hsz, hr⟩ := zq
        replace hr := Option.some.inj hr
        subst hr
        obtain ⟨t, rfl⟩ := ra.str_inv
        obtain ⟨u, rfl⟩ := rb.str_inv
        exact PyProof.Rows.add_str (fun t' tk => h _ _ (Keeps.tok _ _) (.of (.str _ _))) (lenLim_size hsz)
      | _ => cases hr
    | _ => cases hr
  | sub => cases x with
    | int i => cases y with
      | int j =>
        obtain ⟨t, rfl⟩ := ra.int_inv
        obtain ⟨u, rfl⟩ := rb.int_inv
        replace hr := Option.some.inj hr
        subst hr
        exact PyProof.Rows.sub_int (h _ _ (Keeps.tok _ _) (.of (.int _ _)))
      | _ => cases hr
    | _ => cases hr
  | mul => cases x with
    | int i => cases y with
      | int j =>
        have zq := ifSo hr
        clear hr
        obtain ⟨hs, hr⟩ := zq
        replace hr := Option.some.inj hr
        subst hr
        simp only [Bool.and_eq_true] at hs
        obtain ⟨t, rfl⟩ := ra.int_inv
        obtain ⟨u, rfl⟩ := rb.int_inv
        exact PyProof.Rows.mul_int (h _ _ (Keeps.tok _ _) (.of (.int _ _))) (sm_mul hs.1 hs.2)
      | _ => cases hr
    | list xs => cases y with
      | int n =>
        have zq := ifSo hr
        clear hr
        obtain ⟨hs, hr⟩ := zq
        replace hr := Option.some.inj hr
        subst hr
        simp only [Bool.and_eq_true, decide_eq_true_eq] at hs
        refine cps fun Gq goq => ?_
        obtain ⟨⟨h0, h1⟩, h2⟩ := hs
        have e20 : (lenLim : Int) = 1048576 := by decide
        have e21 : lenLim = 1048576 := by decide
        obtain ⟨l, vs, rfl, ⟨kk, hl⟩, -, rl⟩ := ra.list_inv
        refine goq ?_
        clear goq
        clear Gq
        obtain ⟨t, rfl⟩ := rb.int_inv
        have e1 := rl.length
        simp only [Array.length_toList] at e1
        refine mul_list' hl (by omega) (by omega) (by rw [e1]; omega) (h _ _ (Keeps.push _ _) ?_)
        have r1 : RDs s.heap F (List.foldl (fun x1 x2 => x1 ++ x2) #[] (List.replicate (if vs.isEmpty = true then 0 else n.toNat) vs)).toList (repL xs n.toNat) := by
          split
          . rename_i hv
            have : vs = #[] := by simpa using hv
            subst this
            have : xs = [] := List.length_eq_zero_iff.mp (by simpa using e1.symm)
            subst this
            have : ∀ n, repL [] n = [] := fun n => by induction n with | zero => rfl | succ n ih => exact ih
            rw [this]
            simpa using RDs.nil
          . simpa using foldl_rep rl n.toNat #[] [] (by simpa using RDs.nil)
        simpa using Val.pushList al r1
      | _ => cases hr
    | _ => cases hr
  | fdiv => cases x with
    | int i => cases y with
      | int j =>
        have zq := ifSo hr
        clear hr
        obtain ⟨hs, hr⟩ := zq
        replace hr := Option.some.inj hr
        subst hr
        simp only [Bool.and_eq_true, decide_eq_true_eq] at hs
        obtain ⟨t, rfl⟩ := ra.int_inv
        obtain ⟨u, rfl⟩ := rb.int_inv
        exact PyProof.Rows.floordiv_int hs.1 (h _ _ (Keeps.tok _ _) (.of (.int _ _))) (.inl (sm_pylong hs.2))
      | _ => cases hr
    | _ => cases hr
  | mod => cases x with
    | int i => cases y with
      | int j =>
        have zq := ifSo hr
        clear hr
        obtain ⟨hs, hr⟩ := zq
        replace hr := Option.some.inj hr
        subst hr
        simp only [Bool.and_eq_true, decide_eq_true_eq] at hs
        obtain ⟨t, rfl⟩ := ra.int_inv
        obtain ⟨u, rfl⟩ := rb.int_inv
        exact PyProof.Rows.mod_int hs.1 (h _ _ (Keeps.tok _ _) (.of (.int _ _)))
      | _ => cases hr
    | _ => cases hr
theorem cmpD_sound {o : COp} {op : CmpOp} (ho : cCmp op = some o) {x y : PyData} {r : Bool} (hr : cmpD o x y = some r) {a b : Value} (ra : RD s.heap F a x) (rb : RD s.heap F b y) (hu : A.units + 64 < cLine)
    (h : Q (.bool r) s) : wpAny (model prog w) A (compareOp op a b) Q E s := by
  have hop := cCmp_of ho
  subst hop
  clear ho
  cases o with
  | eq =>
    have zq := ifSo (show (if SeqAt.shaped x && SeqAt.shaped y then some (PyData.eqv x y) else none) = some r from hr)
    clear hr
    obtain ⟨hs, hr⟩ := zq
    replace hr := Option.some.inj hr
    subst hr
    refine cps fun Gq goq => ?_
    obtain ⟨h1, h2⟩ := Bool.and_eq_true_iff.mp hs
    obtain ⟨_, r1⟩ := ra.reads
    obtain ⟨_, r2⟩ := rb.reads
    refine goq ?_
    clear goq
    clear Gq
    exact eq_dataH r1 r2 h1 h2 hu h
  | ne =>
    have zq := ifSo (show (if SeqAt.shaped x && SeqAt.shaped y then some (!PyData.eqv x y) else none) = some r from hr)
    clear hr
    obtain ⟨hs, hr⟩ := zq
    replace hr := Option.some.inj hr
    subst hr
    refine cps fun Gq goq => ?_
    obtain ⟨h1, h2⟩ := Bool.and_eq_true_iff.mp hs
    obtain ⟨_, r1⟩ := ra.reads
    obtain ⟨_, r2⟩ := rb.reads
    refine goq ?_
    clear goq
    clear Gq
    exact ne_dataH r1 r2 h1 h2 hu h
  | lt => cases x with
    | int i => cases y with
      | int j =>
        obtain ⟨t, rfl⟩ := ra.int_inv
        obtain ⟨u, rfl⟩ := rb.int_inv
        replace hr := Option.some.inj hr
        subst hr
        exact PyProof.Rows.lt_int h
      | _ => cases hr
    | _ => cases hr
  | gt => cases x with
    | int i => cases y with
      | int j =>
        obtain ⟨t, rfl⟩ := ra.int_inv
        obtain ⟨u, rfl⟩ := rb.int_inv
        replace hr := Option.some.inj hr
        subst hr
        exact PyProof.Rows.gt_int h
      | _ => cases hr
    | _ => cases hr
  | isin => cases x with
    | int i => cases y with
      | list xs =>
        obtain ⟨t, rfl⟩ := ra.int_inv
        refine cps fun Gq goq => ?_
        obtain ⟨l, vs, rfl, hl, -, rl⟩ := rb.list_inv
        have zq := Option.bind_eq_some_iff.mp hr
        clear hr
        obtain ⟨ns, q, hr⟩ := zq
        have zq := ifSo hr
        clear hr
        obtain ⟨-, hr⟩ := zq
        refine goq ?_
        clear goq
        clear Gq
        replace hr := Option.some.inj hr
        subst hr
        refine PyProof.Rows.in_list_ints (vs := vs.toList) (by simpa using hl.isList) (intsD_are rl q) ?_
        rw [show (ns.any fun x => x == i) = ns.contains i by rw [List.contains_eq_any_beq]; congr 1; funext x; exact Bool.beq_comm]
        exact h
      | _ => cases hr
    | _ => cases hr
end
end Mine
namespace Mine
open PySem PyProof.Rows
section
variable {prog : Program} {w : World} {A : Around} {F : Addr -> Prop} {s : Shared} {Q E : Value -> Shared -> Prop}
theorem blt_len_sound {x : PyData} {r : PyData × Nat} (hr : bltD .len x = some r) {a : Value} (ra : RD s.heap F a x)
    (h : ∀ v s', Keeps s s' -> Val F s.heap s'.heap v r -> Q v s') : wpAny (model prog w) A (call (.builtin "len") [a]) Q E s := by
  cases x with
  | list xs =>
    have zq := ifSo hr
    clear hr
    obtain ⟨hsz, hr⟩ := zq
    replace hr := Option.some.inj hr
    subst hr
    refine cps fun Gq goq => ?_
    obtain ⟨l, vs, rfl, hl, -, rl⟩ := ra.list_inv
    refine goq ?_
    clear goq
    clear Gq
    have e := rl.length
    simp only [Array.length_toList] at e
    refine PyProof.Rows.len_list hl.isList (by rw [e]; unfold lenLim at hsz; omega) (h _ _ (Keeps.tok _ _) (.of ?_))
    rw [e]
    exact .int _ _
  | str x =>
    have zq := ifSo hr
    clear hr
    obtain ⟨hsz, hr⟩ := zq
    replace hr := Option.some.inj hr
    subst hr
    obtain ⟨t, rfl⟩ := ra.str_inv
    exact PyProof.Rows.len_str (by unfold lenLim at hsz; omega) (h _ _ (Keeps.tok _ _) (.of (.int _ _)))
  | _ => cases hr
theorem blt_abs_sound {x : PyData} {r : PyData × Nat} (hr : bltD .abs x = some r) {a : Value} (ra : RD s.heap F a x)
    (h : ∀ v s', Keeps s s' -> Val F s.heap s'.heap v r -> Q v s') : wpAny (model prog w) A (call (.builtin "abs") [a]) Q E s := by
  cases x with
  | int i =>
    replace hr := Option.some.inj hr
    subst hr
    obtain ⟨t, rfl⟩ := ra.int_inv
    refine call_abs_int fun u tk => h _ _ (Keeps.tok _ _) (.of ?_)
    have e : (if i < 0 then -i else i) = (i.natAbs : Int) := by split <;> omega
    rw [e]
    exact .int _ _
  | _ => cases hr
theorem blt_str_sound {x : PyData} {r : PyData × Nat} (hr : bltD .str x = some r) {a : Value} (ra : RD s.heap F a x) (hh : A.handled = none) (hn : s.heap.NoDigits)
    (h : ∀ v s', Keeps s s' -> Val F s.heap s'.heap v r -> Q v s') : wpAny (model prog w) A (call (.type "str") [a]) Q E s := by
  cases x with
  | int i =>
    have zq := ifSo hr
    clear hr
    obtain ⟨hs, hr⟩ := zq
    replace hr := Option.some.inj hr
    subst hr
    obtain ⟨t, rfl⟩ := ra.int_inv
    refine str_of_int_or hh hn (fun ζ => h _ _ (Keeps.tok _ _) (.of (.str _ _))) fun hge => ?_
    have h1 : i.natAbs < 2 ^ 8000 := by have := of_decide_eq_true hs; rwa [lim] at this
    exact absurd h1 (Nat.not_lt.mpr (Nat.le_trans (by decide +kernel) hge))
  | _ => cases hr
theorem blt_int_sound {x : PyData} {r : PyData × Nat} (hr : bltD .int x = some r) {a : Value} (ra : RD s.heap F a x)
    (h : ∀ v s', Keeps s s' -> Val F s.heap s'.heap v r -> Q v s') : wpAny (model prog w) A (call (.type "int") [a]) Q E s := by
  cases x with
  | str x =>
    refine cps fun Gq goq => ?_
    have zq := ifB0 hr
    clear hr
    obtain ⟨hl, hr⟩ := zq
    have zq := Option.bind_eq_some_iff.mp hr
    clear hr
    obtain ⟨i, hi, hr⟩ := zq
    refine goq ?_
    clear goq
    clear Gq
    replace hr := Option.some.inj hr
    subst hr
    obtain ⟨t, rfl⟩ := ra.str_inv
    exact PySem.W.KIN.call_text hi hl (h _ _ (Keeps.tok _ _) (.of (.int _ _)))
  | _ => cases hr
theorem blt_max_sound {x : PyData} {r : PyData × Nat} (hr : bltD .max x = some r) {a : Value} (ra : RD s.heap F a x) (hh : A.handled = none)
    (h : ∀ v s', Keeps s s' -> Val F s.heap s'.heap v r -> Q v s') : wpAny (model prog w) A (call (.builtin "max") [a]) Q E s := by
  cases x with
  | list xs =>
    refine cps fun Gq goq => ?_
    have zq := Option.bind_eq_some_iff.mp hr
    clear hr
    obtain ⟨ns, q, hr⟩ := zq
    have zq := ifB0 hr
    clear hr
    obtain ⟨-, hr⟩ := zq
    have zq := Option.bind_eq_some_iff.mp hr
    clear hr
    obtain ⟨m, hm, hr⟩ := zq
    refine goq ?_
    clear goq
    clear Gq
    replace hr := Option.some.inj hr
    subst hr
    refine cps fun Gq goq => ?_
    obtain ⟨l, vs, rfl, hl, -, rl⟩ := ra.list_inv
    have hi := intsD_are rl q
    obtain ⟨ys, e⟩ := hi.allInts.items
    refine goq ?_
    clear goq
    clear Gq
    have hns : ns = ys.toList.map (·.1) := by rw [← hi.numsOf, ← nums_intItems, ← e]
    have hne : ns ≠ [] := fun z => by rw [z] at hm; cases hm
    have hsz : 0 < ys.size := by
      have := List.length_pos_iff.mpr hne
      rw [hns, List.length_map, Array.length_toList] at this; exact this
    have hl' := hl.isList
    rw [show vs = vs.toList.toArray by simp, e] at hl'
    refine max_intList hh hl' hsz fun v h' tk hv hk => ?_
    obtain ⟨t, rfl⟩ := intItems_at hv
    obtain ⟨h1, h2⟩ := argBest_gt (numAt ys) (ys.size - 1)
    refine h _ _ (.put _ _ hk) (.of ?_)
    obtain ⟨m1, m2⟩ := List.max?_eq_some_iff.mp hm
    have e1 : numAt ys (argBest (fun i j => decide (numAt ys i > numAt ys j)) (ys.size - 1)) = m := by
      refine Int.le_antisymm (m2 _ ?_) ?_
      . rw [hns, numAt_eq]; exact getD_mem (by rw [List.length_map, Array.length_toList]; omega)
      . rw [hns] at m1
        obtain ⟨j, hj, rfl⟩ := mem_getD m1
        rw [List.length_map, Array.length_toList] at hj
        rw [← numAt_eq]; exact h2 j (by omega)
    rw [e1]
    exact .int _ _
  | _ => cases hr
theorem mth_count_sound {x y : PyData} {r : PyData × Nat} (hr : mthD .count x y = some r) {a b : Value} (ra : RD s.heap F a x) (rb : RD s.heap F b y)
    (h : ∀ v s', Keeps s s' -> Val F s.heap s'.heap v r -> Q v s') : wpAny (model prog w) A (call (.builtin "list.count") [a, b]) Q E s := by
  cases x with
  | list xs =>
    cases y with
    | int i =>
      refine cps fun Gq goq => ?_
      have zq := Option.bind_eq_some_iff.mp hr
      clear hr
      obtain ⟨ns, q, hr⟩ := zq
      have zq := ifSo hr
      clear hr
      obtain ⟨-, hr⟩ := zq
      refine goq ?_
      clear goq
      clear Gq
      replace hr := Option.some.inj hr
      subst hr
      refine cps fun Gq goq => ?_
      obtain ⟨l, vs, rfl, hl, -, rl⟩ := ra.list_inv
      refine goq ?_
      clear goq
      clear Gq
      obtain ⟨t, rfl⟩ := rb.int_inv
      exact count_list_ints (vs := vs.toList) (by simpa using hl.isList) (intsD_are rl q) (h _ _ (Keeps.tok _ _) (.of (.int _ _)))
    | _ => cases hr
  | _ => cases hr
theorem rd_strs {h : Heap} {F : Addr -> Prop} : ∀ (l : List (Str × Tok)), RDs h F (strValues l) (l.map fun p => .str p.1)
  | [] => .nil
  | (x, t) :: r => .cons (.str x t) (rd_strs r)
theorem mth_split_sound {x y : PyData} {r : PyData × Nat} (hr : mthD .split x y = some r) {a b : Value} (ra : RD s.heap F a x) (rb : RD s.heap F b y) (al : Alloc F s.heap)
    (h : ∀ v s', Keeps s s' -> Val F s.heap s'.heap v r -> Q v s') : wpAny (model prog w) A (call (.builtin "str.split") [a, b]) Q E s := by
  cases x with
  | str x =>
    cases y with
    | str y =>
      have zq := ifSo hr
      clear hr
      obtain ⟨hs, hr⟩ := zq
      replace hr := Option.some.inj hr
      subst hr
      simp only [Bool.and_eq_true, decide_eq_true_eq] at hs
      obtain ⟨⟨hy, hx⟩, hl⟩ := hs
      obtain ⟨t, rfl⟩ := ra.str_inv
      obtain ⟨u, rfl⟩ := rb.str_inv
      have hy : (y.length == 0) = false := by simpa using hy
      have fin : ∀ (l : List (Str × Tok)) (tk : Nat), l.map (·.1) = Txt.split x y -> Q (.ref s.heap.objs.size) { s with heap := s.heap.push { cls := .type "list", data := .seq (strValues l).toArray }, toks := tk } := fun l tk e => by
        refine h _ _ (Keeps.pushT _ _ _) ?_
        have := Val.pushList al (rd_strs (h := s.heap) (F := F) l)
        rw [← e, List.map_map]
        exact this
      cases h1 : (decide (x.length < y.length) || decide (Builtin.Str.strKind x < Builtin.Str.strKind y))
      . cases hf : (Builtin.Str.occurrences x y 0 x.length (x.length + 1)).isEmpty
        . have e : Txt.split x y = Builtin.Str.partsBetween x (Builtin.Str.occurrences x y 0 x.length (x.length + 1)) y.length := (if_neg (ne_true_of_eq_false h1)).trans (if_neg (ne_true_of_eq_false hf))
          refine call_meets PySem.F.slot_str_split (typeIs_str _ _ _) PySem.F.entry_str_split (PySem.F.args_str_split_2 _ _) (meets_str_split_sep x y t u h1 hy hf (lenLim_size hx) (lenLim_size (e ▸ hl))) ?_
          show wants Q E _ { s with toks := _, heap := s.heap.push { cls := .type "list", data := .seq (strsFrom s.toks (Builtin.Str.partsBetween x (Builtin.Str.occurrences x y 0 x.length (x.length + 1)) y.length)).toArray } }
          rw [strsFrom_eq]
          exact fin _ _ ((numbered_texts _ _).trans e.symm)
        . exact call_meets PySem.F.slot_str_split (typeIs_str _ _ _) PySem.F.entry_str_split (PySem.F.args_str_split_2 _ _) (meets_str_split_not_found x y t u h1 hy hf)
            (fin [(x, t)] s.toks ((if_neg (ne_true_of_eq_false h1)).trans (if_pos hf)).symm)
      . exact call_meets PySem.F.slot_str_split (typeIs_str _ _ _) PySem.F.entry_str_split (PySem.F.args_str_split_2 _ _) (meets_str_split_cannot_occur x y t u h1)
          (fin [(x, t)] s.toks (if_pos h1).symm)
    | _ => cases hr
  | _ => cases hr
theorem idxD_list (xs : List PyData) (k : Int) : idxD (.list xs) (.int k) = if (0 ≤ k && k < lenLim) = true then xs[k.toNat]?.map (·, 0) else none := rfl
theorem idx_atD {xs : List PyData} {k : Int} {r : PyData × Nat} (h : (if (0 ≤ k && k < lenLim) = true then xs[k.toNat]?.map (·, 0) else none) = some r) : ∃ d, (0 ≤ k ∧ k < lenLim) ∧ xs[k.toNat]? = some d ∧ r = (d, 0) := by
  obtain ⟨hk, h⟩ := ifB0 h
  simp only [Bool.and_eq_true, decide_eq_true_eq] at hk
  obtain ⟨d, hd, e⟩ := Option.map_eq_some_iff.mp h
  exact ⟨d, hk, hd, e.symm⟩
theorem idxD_inv {x y : PyData} {r : PyData × Nat} (h : idxD x y = some r) : ∃ xs k, (x = .list xs ∨ x = .tuple xs) ∧ y = .int k ∧ ∃ d, (0 ≤ k ∧ k < lenLim) ∧ xs[k.toNat]? = some d ∧ r = (d, 0) := by
  cases x with
  | list xs =>
    cases y with
    | int k => exact ⟨xs, k, .inl rfl, rfl, idx_atD h⟩
    | _ => cases h
  | tuple xs =>
    cases y with
    | int k => exact ⟨xs, k, .inr rfl, rfl, idx_atD h⟩
    | _ => cases h
  | _ => cases h
theorem idx_sound {x y : PyData} {r : PyData × Nat} (hr : idxD x y = some r) {a b : Value} (ra : RD s.heap F a x) (rb : RD s.heap F b y) {value slice : PySem.Expr}
    (hs : ∀ l i u, subscripted slice false (.ref l) (.int i u) = operate [.ref l, .int i u] (getItem (.ref l) (.int i u)))
    (h : ∀ v, Val F s.heap s.heap v r -> Q v s) : wpAny (model prog w) A (subscriptTail value slice a b) Q E s := by
  refine cps fun Gq goq => ?_
  obtain ⟨xs, k, hx, rfl, d, hk, hd, rfl⟩ := idxD_inv hr
  refine goq ?_
  clear goq
  clear Gq
  clear hr
  rcases hx with rfl | rfl
  . refine cps fun Gq goq => ?_
    obtain ⟨l, vs, rfl, hl, -, rl⟩ := ra.list_inv
    obtain ⟨t, rfl⟩ := rb.int_inv
    obtain ⟨v, hv, rv⟩ := rl.get hd
    refine goq ?_
    clear goq
    clear Gq
    exact tail_any hl.isList.typeIs slot_list_getitem.lookup (wpAny_getItem_list hl.isList hk.1 (by have := hk.2; unfold lenLim at this; omega) (by simpa using hv) (h _ (.of rv))) (hs _ _ _)
  . refine cps fun Gq goq => ?_
    obtain ⟨l, vs, rfl, hl, rl⟩ := ra.tuple_inv
    obtain ⟨t, rfl⟩ := rb.int_inv
    obtain ⟨v, hv, rv⟩ := rl.get hd
    refine goq ?_
    clear goq
    clear Gq
    have hlt : k.toNat < vs.size := by
      have := (List.getElem?_eq_some_iff.mp hv).1
      simpa using this
    have hk2 := hk.2
    unfold lenLim at hk2
    refine item_tupleT hl (by omega) (by omega) (j := k.toNat) ?_ (by simpa using hv) (h _ (.of rv)) (hs _ _ _)
    unfold seqIndex?
    have e1 : ¬ k < 0 := by omega
    have e2 : k < (vs.toList.length : Int) := by simp only [Array.length_toList]; omega
    simp only [e1, if_false, hk.1, e2, decide_true, Bool.and_self, if_true]
end
end Mine
end
section
set_option maxRecDepth 100000
namespace Mine
open PySem PyProof.Rows
theorem Walks.lt {prog : Program} {w : World} {A : Around} {I : Addr} {fp wr : List Addr} {n : Nat} {P : Nat -> Value -> Prop} {St : Nat -> Heap -> Prop} (W : Walks prog w A I fp wr n P St) :
    Walks prog w A I fp wr n (fun i v => i < n ∧ P i v) St where
  sub := W.sub
  frame := W.frame
  item := fun i s Q E hi st hQ => W.item i s Q E hi st fun v h' tk p => hQ v h' tk ⟨hi, p⟩
  done := W.done
  self := W.self
theorem cls_ne {a b : String} (h : a ≠ b) : Value.type a ≠ Value.type b := fun e => h (Value.type.inj e)
noncomputable def NL (o : Obj) : Prop := (∃ vs, o.data = .fields vs) ∨ (o.cls = .type "tuple" ∧ ∃ vs n, o.data = .seq vs n)
noncomputable def ItemOK (tw : Bool) (hD : Heap) (F : Addr -> Prop) (wr : List Addr) (h : Heap) (v : Value) (d : PyData) : Prop :=
  (tw = false ∧ RD hD F v d) ∨ tw = true ∧ ∃ a vs ds, v = .ref a ∧ d = .tuple ds ∧ IsTup h a vs ∧ a ∉ wr ∧ hD.get? a = none ∧ RDs hD F vs.toList ds
structure Iter (G : GCtx) (A : Around) (F : Addr -> Prop) (tw : Bool) (xs : List PyData) (s s' : Shared) (hD : Heap) (I : Addr) (fp wr : List Addr) (St : Nat -> Heap -> Prop) (Mid : Nat -> Value -> Heap -> Prop) : Prop where
  keeps : Keeps s s'
  kD : KeepsH s.heap hD
  kD' : KeepsH hD s'.heap
  sub : ∀ b ∈ wr, b ∈ fp
  frame : ∀ i h h', St i h -> (∀ b ∈ fp, ∀ o, h.get? b = some o -> h'.get? b = some o) -> St i h'
  item : ∀ (i : Nat) (d : PyData) (s₁ : Shared) (Q : Option Value -> Shared -> Prop) (E : Value -> Shared -> Prop), xs[i]? = some d -> St i s₁.heap -> (∀ b o, hD.get? b = some o -> ∃ o', s₁.heap.get? b = some o') ->
    (∀ v h' tk, ItemOK tw hD F wr h' v d -> Mid i v h' -> (∀ b o, b ∉ wr -> s₁.heap.get? b = some o -> h'.get? b = some o) -> Q (some v) { s₁ with heap := h', toks := tk }) -> wpAny (model G.prog G.w) A (pyNext (.ref I)) Q E s₁
  go : ∀ (tg : PySem.Expr) (_ : (tw = false ∧ ∃ x p, tg = .Name x p) ∨ ∃ es k p, tg = .Tuple es k p) (i : Nat) (v : Value) (s₁ : Shared) (Q : Unit -> Shared -> Prop) (E : Value -> Shared -> Prop), Mid i v s₁.heap ->
    (∀ h', St (i + 1) h' -> (∀ b o, b ∉ wr -> s₁.heap.get? b = some o -> h'.get? b = some o) -> Q () { s₁ with heap := h' }) -> wpAny (model G.prog G.w) A (letOwnedTupleGo tg (.ref I) v) Q E s₁
  done : ∀ (s₁ : Shared) (Q : Option Value -> Shared -> Prop) (E : Value -> Shared -> Prop), St xs.length s₁.heap ->
    (∀ h' tk, (∀ b o, b ∉ wr -> s₁.heap.get? b = some o -> h'.get? b = some o) -> Q none { s₁ with heap := h', toks := tk }) -> wpAny (model G.prog G.w) A (pyNext (.ref I)) Q E s₁
  self : ∀ i (s₁ : Shared) (Q : Value -> Shared -> Prop) (E : Value -> Shared -> Prop), St i s₁.heap -> Q (.ref I) s₁ -> wpAny (model G.prog G.w) A (pyIter (.ref I)) Q E s₁
  start : St 0 s'.heap
  low : ∀ b ∈ fp, b < s'.heap.objs.size
  size : xs.length ≤ lenLim
  new : ∀ b ∈ wr, hD.get? b = none
  off : ∀ b ∈ fp, b ∉ wr -> ∃ o vs n, s'.heap.get? b = some o ∧ o.data = .seq vs n ∧ (o.cls = .type "tuple" ∨ (o.cls = .type "list" ∧ ¬ F b))
  stF : ∀ i h, St i h -> ∀ b ∈ wr, ∃ o, h.get? b = some o ∧ NL o
  midF : ∀ i v h, Mid i v h -> ∀ b ∈ wr, ∃ o, h.get? b = some o ∧ NL o
theorem Iter.back {G A F tw xs s s₁ s' hD I fp wr St Mid} (it : Iter G A F tw xs s₁ s' hD I fp wr St Mid) (k : Keeps s s₁) : Iter G A F tw xs s s' hD I fp wr St Mid :=
  { it with keeps := Keeps.trans k it.keeps, kD := KeepsH.trans (Keeps.heap k) it.kD }
theorem go_plain {M : Model} {A : Around} {E : Value -> Shared -> Prop} {s : Shared} {Q : Unit -> Shared -> Prop} {tg : PySem.Expr} {I : Addr} {v : Value} {o : Obj} {n : String} (ho : s.heap.get? I = some o) (hc : o.cls = .type n)
    (hn : ["enumerate", "zip", "dict_itemiterator", "dict_reverseitemiterator", "odict_iterator", "itertools.zip_longest", "itertools.pairwise"].contains n = false) (h : Q () s) : wpAny M A (letOwnedTupleGo tg (.ref I) v) Q E s := by
  have key : wpAny M A (do
      let (.ref r, .ref a) := ((Value.ref I), v) | return
      let o ← load r
      match o.cls, o.data with
      | .type n, .fields vs =>
        if ["enumerate", "zip", "dict_itemiterator", "dict_reverseitemiterator", "odict_iterator", "itertools.zip_longest", "itertools.pairwise"].contains n && vs[0]? == some (rawInt a) then
          rule "for.unpacks-the-owned-tuple"
          updateField r 0 .none
      | _, _ => pure ()) Q E s := by
    cases v with
    | ref a =>
      refine wpAny_bind (wpAny_load ho ?_)
      rw [hc]
      cases o.data with
      | fields vs =>
        simp only [hn, Bool.false_and, Bool.false_eq_true, if_false]
        exact wpAny_pure h
      | _ => exact wpAny_pure h
    | _ => exact wpAny_pure h
  cases tg <;> first | exact wpAny_pure h | exact key
theorem Iter.ofW {G : GCtx} {A : Around} {F : Addr -> Prop} {xs : List PyData} {s s' : Shared} {hD : Heap} {I : Addr} {fp wr : List Addr} {P : Nat -> Value -> Prop} {St : Nat -> Heap -> Prop} {cl : String}
    (hcl : ["enumerate", "zip", "dict_itemiterator", "dict_reverseitemiterator", "odict_iterator", "itertools.zip_longest", "itertools.pairwise"].contains cl = false)
    (keeps : Keeps s s') (kD : KeepsH s.heap hD) (kD' : KeepsH hD s'.heap) (W : Walks G.prog G.w A I fp wr xs.length P St) (start : St 0 s'.heap) (low : ∀ b ∈ fp, b < s'.heap.objs.size) (size : xs.length ≤ lenLim)
    (new : ∀ b ∈ wr, hD.get? b = none) (off : ∀ b ∈ fp, b ∉ wr -> ∃ o vs n, s'.heap.get? b = some o ∧ o.data = .seq vs n ∧ (o.cls = .type "tuple" ∨ (o.cls = .type "list" ∧ ¬ F b)))
    (data : ∀ i v, P i v -> ∃ d, xs[i]? = some d ∧ RD hD F v d) (stI : ∀ i h, St i h -> ∃ o, h.get? I = some o ∧ o.cls = .type cl) (stF : ∀ i h, St i h -> ∀ b ∈ wr, ∃ o, h.get? b = some o ∧ NL o) :
    Iter G A F false xs s s' hD I fp wr St (fun i ζ h => St (i + 1) h) where
  keeps := keeps
  kD := kD
  kD' := kD'
  sub := W.sub
  frame := W.frame
  item := fun i d s₁ Q E hd hst ζ hQ => W.item i s₁ Q E (List.getElem?_eq_some_iff.mp hd).1 hst fun v h' tk hP hst' hk => by
    obtain ⟨d', h1, h2⟩ := data i v hP
    rw [hd] at h1; cases h1
    exact hQ v h' tk (.inl ⟨rfl, h2⟩) hst' hk
  go := fun tg ζ i v s₁ Q E hm hQ => by
    obtain ⟨o, h1, h2⟩ := stI _ _ hm
    exact go_plain h1 h2 hcl (hQ s₁.heap hm fun ζ ζ ζ e => e)
  done := W.done
  self := W.self
  start := start
  low := low
  size := size
  new := new
  off := off
  stF := stF
  midF := fun i v h hm => stF (i + 1) h hm
theorem rangeSize_up (a b : Int) : Builtin.Range.rangeSize a b 1 = ((b - a).toNat : Int) := by
  unfold Builtin.Range.rangeSize
  rw [if_pos (by decide)]
  split <;> omega
theorem rangeSize_down (a b : Int) : Builtin.Range.rangeSize a b (-1) = ((a - b).toNat : Int) := by
  unfold Builtin.Range.rangeSize
  rw [if_neg (by decide)]
  split <;> simp <;> omega
section
variable {G : GCtx} {A : Around} {F : Addr -> Prop} {s : Shared} {Q E : Value -> Shared -> Prop}
theorem iter_range {a b c : Int} {n : Nat} {xs : List PyData} {t u v : Tok} {tk : Nat} (hh : A.handled = none) (hx : xs = (List.range n).map fun (k : Nat) => PyData.int (a + k * c))
    (hn : Builtin.Range.rangeSize a b c = (n : Int)) (hlen : n ≤ lenLim) (hsmall : Builtin.Range.small a b c = true)
    (h : ∀ hD I fp wr St Mid s', Iter G A F false xs s s' hD I fp wr St Mid -> Q (.ref I) s') :
    wpAny (model G.prog G.w) A (pyIter (.ref s.heap.objs.size)) Q E { s with heap := s.heap.push { cls := .type "range", data := .fields #[.int a t, .int b u, .int c v] }, toks := tk } := by
  refine wpAny_pyIter_range (IsRange.new _ a b c t u v) hsmall ?_
  have hl : n = xs.length := by rw [hx]; simp
  have hr : (Heap.push (s.heap.push { cls := .type "range", data := .fields #[.int a t, .int b u, .int c v] }) { cls := .type "range_iterator", data := .fields #[rawInt a, rawInt (Builtin.Range.rangeSize a b c), rawInt c] }).get?
      (s.heap.push { cls := .type "range", data := .fields #[.int a t, .int b u, .int c v] }).objs.size = some { cls := .type "range_iterator", data := .fields #[rawInt a, rawInt (Builtin.Range.rangeSize a b c), rawInt c] } := Heap.get?_push_size _ rfl
  have W := Walks.lt (Walks.range (prog := G.prog) (w := G.w) hh (s.heap.push { cls := .type "range", data := .fields #[.int a t, .int b u, .int c v] }).objs.size a c n)
  rw [hl] at W
  refine h _ _ _ _ _ _ _ (Iter.ofW (hD := s.heap) (cl := "range_iterator") (by decide) (.put s _ fun ζ ζ e => Heap.get?_push_of_some _ (Heap.get?_push_of_some _ e)) (fun ζ ζ e => e) (fun ζ ζ e => Heap.get?_push_of_some _ (Heap.get?_push_of_some _ e)) W ?_ (fun b hb => ?_) (by omega) (fun b hb => ?_) (fun b hb hw => (hw hb).elim) (fun i v hP => ?_) (fun i h st => ?_) fun i h st b hb => ?_)
  . unfold IsRangeIter
    rw [hr, hn]
    simp [hl]
  . simp only [List.mem_singleton] at hb
    subst hb
    exact Heap.lt_size hr
  . simp only [List.mem_singleton] at hb
    subst hb
    cases e : s.heap.get? (s.heap.push { cls := .type "range", data := .fields #[.int a t, .int b u, .int c v] }).objs.size with
    | none => rfl
    | some o => have := Heap.lt_size e; rw [Heap.size_push] at this; exact absurd this (Nat.not_lt.mpr (Nat.le_succ _))
  . obtain ⟨hi, t', rfl⟩ := hP
    rw [← hl] at hi
    exact ⟨.int (a + i * c), by rw [hx]; simp [hi], .int _ _⟩
  . exact ⟨_, st, rfl⟩
  . simp only [List.mem_singleton] at hb
    subst hb
    exact ⟨_, st, .inl ⟨_, rfl⟩⟩
theorem iter_seq {x : PyData} {xs : List PyData} {v : Value} (hh : A.handled = none) (hx : itemsD x = some xs) (hlen : xs.length ≤ lenLim) (rv : RD s.heap F v x)
    (h : ∀ hD I fp wr St Mid s', Iter G A F false xs s s' hD I fp wr St Mid -> Q (.ref I) s') :
    wpAny (model G.prog G.w) A (pyIter v) Q E s := by
  cases x with
  | list ys =>
    replace hx := Option.some.inj hx
    subst hx
    obtain ⟨l, vs, rfl, hl', hf, rl⟩ := rv.list_inv
    have hl := hl'.isList
    refine wpAny_pyIter_list hl ?_
    have e := rl.length
    simp only [Array.length_toList] at e
    have hr : (s.heap.push { cls := .type "list_iterator", data := .fields #[.ref l, .int 0 0] }).get? s.heap.objs.size = some { cls := .type "list_iterator", data := .fields #[.ref l, .int 0 0] } := Heap.get?_push_size _ rfl
    have hll : l < s.heap.objs.size := let ⟨_, ho, _⟩ := hl; Heap.lt_size ho
    have W := Walks.list (prog := G.prog) (w := G.w) hh s.heap.objs.size l (Nat.ne_of_lt hll) vs
    rw [e] at W
    refine h _ _ _ _ _ _ _ (Iter.ofW (hD := s.heap) (cl := "list_iterator") (by decide) (Keeps.push _ _) (fun ζ ζ e => e) (fun ζ ζ e => Heap.get?_push_of_some _ e) W ⟨⟨_, hr, rfl, rfl⟩, hl.push _⟩ (fun b hb => ?_) hlen (fun b hb => ?_) (fun b hb hw => ?_) (fun i v hP => ?_) (fun i h st => ?_) fun i h st b hb => ?_)
    . simp only [List.mem_cons, List.not_mem_nil, or_false] at hb
      rw [Heap.size_push]
      rcases hb with rfl | rfl
      . exact Nat.lt_succ_self _
      . exact Nat.lt_succ_of_lt hll
    . simp only [List.mem_singleton] at hb
      subst hb
      exact fresh_size _
    . simp only [List.mem_cons, List.not_mem_nil, or_false] at hb hw
      rcases hb with rfl | rfl
      . exact (hw rfl).elim
      . obtain ⟨o, ho, hc, n, hd⟩ := hl
        exact ⟨o, _, n, Heap.get?_push_of_some _ ho, hd, .inr ⟨hc, hf⟩⟩
    . obtain ⟨d, hd, rd⟩ := rl.get' (i := i) (v := v) (by simpa using hP)
      exact ⟨d, hd, rd⟩
    . obtain ⟨⟨o, ho, hc, _⟩, _⟩ := st
      exact ⟨o, ho, hc⟩
    . simp only [List.mem_singleton] at hb
      subst hb
      obtain ⟨⟨o, ho, _, hd⟩, _⟩ := st
      exact ⟨o, ho, .inl ⟨_, hd⟩⟩
  | tuple ys =>
    replace hx := Option.some.inj hx
    subst hx
    obtain ⟨l, vs, rfl, hl, rl⟩ := rv.tuple_inv
    refine wpAny_pyIter_tuple hl ?_
    have e := rl.length
    simp only [Array.length_toList] at e
    have hr : (s.heap.push { cls := .type "tuple_iterator", data := .fields #[.ref l, .int 0 0] }).get? s.heap.objs.size = some { cls := .type "tuple_iterator", data := .fields #[.ref l, .int 0 0] } := Heap.get?_push_size _ rfl
    have hll : l < s.heap.objs.size := let ⟨_, ho, _⟩ := hl; Heap.lt_size ho
    have W := Walks.tuple (prog := G.prog) (w := G.w) hh s.heap.objs.size l (Nat.ne_of_lt hll) vs
    rw [e] at W
    refine h _ _ _ _ _ _ _ (Iter.ofW (hD := s.heap) (cl := "tuple_iterator") (by decide) (Keeps.push _ _) (fun ζ ζ e => e) (fun ζ ζ e => Heap.get?_push_of_some _ e) W ⟨⟨_, hr, rfl, rfl⟩, IsTup.push hl _⟩ (fun b hb => ?_) hlen (fun b hb => ?_) (fun b hb hw => ?_) (fun i v hP => ?_) (fun i h st => ?_) fun i h st b hb => ?_)
    . simp only [List.mem_cons, List.not_mem_nil, or_false] at hb
      rw [Heap.size_push]
      rcases hb with rfl | rfl
      . exact Nat.lt_succ_self _
      . exact Nat.lt_succ_of_lt hll
    . simp only [List.mem_singleton] at hb
      subst hb
      exact fresh_size _
    . simp only [List.mem_cons, List.not_mem_nil, or_false] at hb hw
      rcases hb with rfl | rfl
      . exact (hw rfl).elim
      . obtain ⟨o, ho, hc, n, hd⟩ := hl
        exact ⟨o, _, n, Heap.get?_push_of_some _ ho, hd, .inl hc⟩
    . obtain ⟨d, hd, rd⟩ := rl.get' (i := i) (v := v) (by simpa using hP)
      exact ⟨d, hd, rd⟩
    . obtain ⟨⟨o, ho, hc, _⟩, _⟩ := st
      exact ⟨o, ho, hc⟩
    . simp only [List.mem_singleton] at hb
      subst hb
      obtain ⟨⟨o, ho, _, hd⟩, _⟩ := st
      exact ⟨o, ho, .inl ⟨_, hd⟩⟩
  | _ => cases hx
end
end Mine
end
section
set_option maxRecDepth 100000
namespace Mine
open PySem PyProof.Rows
theorem ne_add (N : Nat) {a b : Nat} (h : a ≠ b) : N + a ≠ N + b := fun z => h (Nat.add_left_cancel z)
theorem lt_ne {l N : Nat} (h : l < N) (a : Nat) : l ≠ N + a := Nat.ne_of_lt (Nat.lt_of_lt_of_le h (Nat.le_add_right N a))
theorem zip_apart {N l1 l2 : Nat} (h1 : l1 < N) (h2 : l2 < N) : ZipApart (N + 4) (N + 2) (N + 3) N (N + 1) l1 l2 :=
  ⟨ne_add N (by decide), ne_add N (by decide), ne_add N (a := 0) (by decide), ne_add N (by decide), ne_add N (by decide), ne_add N (b := 0) (by decide), ne_add N (by decide), ne_add N (b := 0) (by decide), ne_add N (by decide), ne_add N (a := 0) (by decide), lt_ne h1 4, lt_ne h1 3, lt_ne h1 0, lt_ne h1 1, lt_ne h2 4, lt_ne h2 3, lt_ne h2 0, lt_ne h2 1⟩
theorem zlow {N l1 l2 : Nat} (h1 : l1 < N) (h2 : l2 < N) : ∀ c ∈ [N + 4, N + 2, N + 3, N, N + 1, l1, l2], c < N + 5 :=
  have k : ∀ a, a < 5 -> N + a < N + 5 := fun ζ h => Nat.add_lt_add_left h N
  have t : ∀ l, l < N -> l < N + 5 := fun ζ h => Nat.lt_of_lt_of_le h (Nat.le_add_right _ _)
  List.forall_mem_cons.mpr ⟨k 4 (by decide), List.forall_mem_cons.mpr ⟨k 2 (by decide), List.forall_mem_cons.mpr ⟨k 3 (by decide), List.forall_mem_cons.mpr ⟨k 0 (by decide), List.forall_mem_cons.mpr ⟨k 1 (by decide), List.forall_mem_cons.mpr ⟨t l1 h1, List.forall_mem_cons.mpr ⟨t l2 h2, fun ζ z => (List.not_mem_nil z).elim⟩⟩⟩⟩⟩⟩⟩
theorem zne {N l1 l2 P : Nat} (hP : P < N) (n1 : l1 ≠ P) (n2 : l2 ≠ P) : ∀ c ∈ [N + 4, N + 2, N + 3, N, N + 1, l1, l2], c ≠ P :=
  have k : ∀ a, N + a ≠ P := fun a => (lt_ne hP a).symm
  List.forall_mem_cons.mpr ⟨k 4, List.forall_mem_cons.mpr ⟨k 2, List.forall_mem_cons.mpr ⟨k 3, List.forall_mem_cons.mpr ⟨k 0, List.forall_mem_cons.mpr ⟨k 1, List.forall_mem_cons.mpr ⟨n1, List.forall_mem_cons.mpr ⟨n2, fun ζ z => (List.not_mem_nil z).elim⟩⟩⟩⟩⟩⟩⟩
theorem zwr (N : Nat) : ∀ c ∈ [N + 4, N + 3, N, N + 1], N ≤ c :=
  have k : ∀ a, N ≤ N + a := fun a => Nat.le_add_right N a
  List.forall_mem_cons.mpr ⟨k 4, List.forall_mem_cons.mpr ⟨k 3, List.forall_mem_cons.mpr ⟨k 0, List.forall_mem_cons.mpr ⟨k 1, fun ζ z => (List.not_mem_nil z).elim⟩⟩⟩⟩
theorem zipD_get {xs ys : List PyData} {i : Nat} {d : PyData} (h : (zipD xs ys)[i]? = some d) : ∃ x y, xs[i]? = some x ∧ ys[i]? = some y ∧ d = .tuple [x, y] := by
  unfold zipD at h
  obtain ⟨x, y, h1, h2, h3⟩ := List.getElem?_zipWith_eq_some.mp h
  exact ⟨x, y, h1, h2, h3.symm⟩
theorem zipD_len (xs ys : List PyData) : (zipD xs ys).length = min xs.length ys.length := by simp [zipD]
theorem enumD_len : ∀ (k : Nat) (xs : List PyData), (enumD k xs).length = xs.length
  | _, [] => rfl
  | k, x :: xs => by simp [enumD, enumD_len (k + 1) xs]
theorem enumD_get : ∀ {k : Nat} {xs : List PyData} {i : Nat} {d : PyData}, (enumD k xs)[i]? = some d -> ∃ x, xs[i]? = some x ∧ d = .tuple [.int ((k + i : Nat) : Int), x]
  | _, [], i, d, h => by simp [enumD] at h
  | k, x :: xs, 0, d, h => by simp [enumD] at h; subst h; exact ⟨x, rfl, by simp⟩
  | k, x :: xs, i + 1, d, h => by
    simp only [enumD, List.getElem?_cons_succ] at h
    obtain ⟨y, h1, h2⟩ := enumD_get h
    refine ⟨y, by simpa using h1, ?_⟩
    rw [h2, show k + 1 + i = k + (i + 1) by omega]
section
variable {G : GCtx} {A : Around} {F : Addr -> Prop} {s : Shared} {Q E : Value -> Shared -> Prop}
theorem Iter.ofT {xs : List PyData} {s s' : Shared} {hD : Heap} {I : Addr} {fp wr : List Addr} {Pt : Nat -> Array Value -> Prop} {St : Nat -> Heap -> Prop} {Mid : Nat -> Addr -> Heap -> Prop}
    (keeps : Keeps s s') (kD : KeepsH s.heap hD) (kD' : KeepsH hD s'.heap) (W : WalksT G.prog G.w A I fp wr xs.length Pt St Mid) (start : St 0 s'.heap) (low : ∀ b ∈ fp, b < s'.heap.objs.size) (size : xs.length ≤ lenLim)
    (new : ∀ b ∈ wr, hD.get? b = none) (off : ∀ b ∈ fp, b ∉ wr -> ∃ o vs n, s'.heap.get? b = some o ∧ o.data = .seq vs n ∧ (o.cls = .type "tuple" ∨ (o.cls = .type "list" ∧ ¬ F b)))
    (data : ∀ i vals d, Pt i vals -> xs[i]? = some d -> ∃ ds, d = .tuple ds ∧ RDs hD F vals.toList ds)
    (stF : ∀ i h, St i h -> ∀ b ∈ wr, ∃ o, h.get? b = some o ∧ NL o) (midF : ∀ i T h, Mid i T h -> ∀ b ∈ wr, ∃ o, h.get? b = some o ∧ NL o) :
    Iter G A F true xs s s' hD I fp wr St (fun i v h => ∃ T, v = .ref T ∧ Mid i T h) where
  keeps := keeps
  kD := kD
  kD' := kD'
  sub := W.sub
  frame := W.frame
  item := fun i d s₁ Q E hd hst hk hQ => W.item i s₁ Q E (List.getElem?_eq_some_iff.mp hd).1 hst fun T vals h' tk hP hT htup hm hkp => by
    obtain ⟨ds, rfl, r⟩ := data i vals d hP hd
    have hn : hD.get? T = none := by
      cases e : hD.get? T with
      | none => rfl
      | some o => obtain ⟨o', e'⟩ := hk _ _ e; exact absurd (Heap.lt_size e') (Nat.not_lt.mpr hT)
    exact hQ (.ref T) h' tk (.inr ⟨rfl, T, vals, ds, rfl, rfl, htup, W.apart i T h' hm, hn, r⟩) ⟨T, rfl, hm⟩ hkp
  go := fun tg tn i v s₁ Q E hm hQ => by
    obtain ⟨T, rfl, hm⟩ := hm
    rcases tn with ⟨h, _⟩ | ⟨es, k, p, rfl⟩
    . cases h
    . exact W.go es k p i T s₁ Q E hm hQ
  done := W.done
  self := W.self
  start := start
  low := low
  size := size
  new := new
  off := off
  stF := stF
  midF := fun i v h hm => by obtain ⟨T, _, hm⟩ := hm; exact midF i T h hm
theorem iter_zip {xs ys : List PyData} {a b : Value} {s₁ : Shared} (hh : A.handled = none) (ra : RD s₁.heap F a (.list xs)) (rb : RD s₁.heap F b (.list ys)) (hk : Keeps s s₁) (hx : xs.length ≤ lenLim) (hy : ys.length ≤ lenLim)
    (h : ∀ hD I fp wr St Mid s', Iter G A F true (zipD xs ys) s s' hD I fp wr St Mid -> Q (.ref I) s') :
    wpAny (model G.prog G.w) A (call (.type "zip") [a, b]) (fun x s₂ => wpAny (model G.prog G.w) A (pyIter x) Q E s₂) E s₁ := by
  refine cps fun Gq goq => ?_
  obtain ⟨l1, vs, rfl, hl1, hf1, r1⟩ := ra.list_inv
  obtain ⟨l2, ws, rfl, hl2, hf2, r2⟩ := rb.list_inv
  refine goq ?_
  clear goq
  clear Gq
  refine call_zip_2 hl1.isList hl2.isList fun h' hz hTI hTO hi1 hi2 hsz hkp => ?_
  have b1 : l1 < s₁.heap.objs.size := let ⟨_, ho⟩ := hl1; Heap.lt_size ho
  have b2 : l2 < s₁.heap.objs.size := let ⟨_, ho⟩ := hl2; Heap.lt_size ho
  generalize hN : s₁.heap.objs.size = N at *
  have D := zip_apart b1 b2
  have W := WalksT.zip2 (prog := G.prog) (w := G.w) hh (N + 4) (N + 2) (N + 3) N (N + 1) l1 l2 D vs ws
  have e1 := r1.length
  have e2 := r2.length
  simp only [Array.length_toList] at e1 e2
  have en : min vs.size ws.size = (zipD xs ys).length := by rw [zipD_len, e1, e2]
  rw [en] at W
  have fresh : ∀ c, N ≤ c -> s₁.heap.get? c = none := fun c hc => by
    cases e : s₁.heap.get? c with
    | none => rfl
    | some o => have := Heap.lt_size e; rw [hN] at this; exact absurd this (Nat.not_lt.mpr hc)
  refine wpAny_pyIter_zip hz (h _ _ _ _ _ _ _ (Iter.ofT (hD := s₁.heap) (Keeps.trans hk (.put s₁ s₁.toks hkp)) (Keeps.heap hk) hkp W ⟨hz, hTI, ⟨_, _, hTO⟩, hi1, hi2, hl1.isList.at (fun o e => hkp _ o e), hl2.isList.at (fun o e => hkp _ o e)⟩ (fun c hc => ?_) (by rw [zipD_len]; exact Nat.le_trans (Nat.min_le_left _ _) hx) (fun c hc => ?_) (fun c hc hw => ?_) (fun i vals d hP hd => ?_) (fun i hh' st c hc => ?_) (fun i T hh' m c hc => ?_)))
  . show c < h'.objs.size
    rw [hsz]
    exact zlow b1 b2 c hc
  . exact fresh c (zwr N c hc)
  . simp only [List.mem_cons, List.not_mem_nil, or_false] at hc hw
    rcases hc with rfl | rfl | rfl | rfl | rfl | rfl | rfl
    . exact (hw (.inl rfl)).elim
    . exact ⟨_, _, _, hTI, rfl, .inl rfl⟩
    . exact (hw (.inr (.inl rfl))).elim
    . exact (hw (.inr (.inr (.inl rfl)))).elim
    . exact (hw (.inr (.inr (.inr rfl)))).elim
    . obtain ⟨n, ho⟩ := hl1
      exact ⟨_, _, n, hkp _ _ ho, rfl, .inr ⟨rfl, hf1⟩⟩
    . obtain ⟨n, ho⟩ := hl2
      exact ⟨_, _, n, hkp _ _ ho, rfl, .inr ⟨rfl, hf2⟩⟩
  . obtain ⟨x, y, hx', hy', rfl⟩ := zipD_get hd
    refine cps fun Gq goq => ?_
    obtain ⟨v1, v2, q1, q2, rfl⟩ := hP
    obtain ⟨d1, z1, w1⟩ := r1.get' (i := i) (v := v1) (by simpa using q1)
    obtain ⟨d2, z2, w2⟩ := r2.get' (i := i) (v := v2) (by simpa using q2)
    refine goq ?_
    clear goq
    clear Gq
    rw [hx'] at z1; cases z1
    rw [hy'] at z2; cases z2
    exact ⟨_, rfl, .cons w1 (.cons w2 .nil)⟩
  . obtain ⟨q1, q2, ⟨a, b, q3⟩, ⟨o4, q4, _, d4⟩, ⟨o5, q5, _, d5⟩, _⟩ := st
    simp only [List.mem_cons, List.not_mem_nil, or_false] at hc
    rcases hc with rfl | rfl | rfl | rfl
    . exact ⟨_, q1, .inl ⟨_, rfl⟩⟩
    . exact ⟨_, q3, .inr ⟨rfl, _, _, rfl⟩⟩
    . exact ⟨_, q4, .inl ⟨_, d4⟩⟩
    . exact ⟨_, q5, .inl ⟨_, d5⟩⟩
  . obtain ⟨q1, q2, ⟨a, b, q3⟩, ⟨o4, q4, _, d4⟩, ⟨o5, q5, _, d5⟩, _⟩ := m
    simp only [List.mem_cons, List.not_mem_nil, or_false] at hc
    rcases hc with rfl | rfl | rfl | rfl
    . exact ⟨_, q1, .inl ⟨_, rfl⟩⟩
    . exact ⟨_, q3, .inr ⟨rfl, _, _, rfl⟩⟩
    . exact ⟨_, q4, .inl ⟨_, d4⟩⟩
    . exact ⟨_, q5, .inl ⟨_, d5⟩⟩
theorem iter_enum {xs : List PyData} {a : Value} {s₁ : Shared} (hh : A.handled = none) (ra : RD s₁.heap F a (.list xs)) (hk : Keeps s s₁) (hx : xs.length ≤ lenLim)
    (h : ∀ hD I fp wr St Mid s', Iter G A F true (enumD 0 xs) s s' hD I fp wr St Mid -> Q (.ref I) s') :
    wpAny (model G.prog G.w) A (call (.type "enumerate") [a]) (fun x s₂ => wpAny (model G.prog G.w) A (pyIter x) Q E s₂) E s₁ := by
  refine cps fun Gq goq => ?_
  obtain ⟨l1, vs, rfl, hl1, hf1, r1⟩ := ra.list_inv
  refine goq ?_
  clear goq
  clear Gq
  refine call_enumerate_list hl1.isList fun h' he hi1 hsz hkp => ?_
  have b1 : l1 < s₁.heap.objs.size := let ⟨_, ho⟩ := hl1; Heap.lt_size ho
  generalize hN : s₁.heap.objs.size = N at *
  have W := WalksT.enumerate (prog := G.prog) (w := G.w) hh (N + 1) N l1 (by simp only [Addr] at *; omega) (by simp only [Addr] at *; omega) (by simp only [Addr] at *; omega) vs
  have e1 := r1.length
  simp only [Array.length_toList] at e1
  rw [show vs.size = (enumD 0 xs).length by rw [enumD_len, e1]] at W
  have fresh : ∀ c, N ≤ c -> s₁.heap.get? c = none := fun c hc => by
    cases e : s₁.heap.get? c with
    | none => rfl
    | some o => have := Heap.lt_size e; rw [hN] at this; exact absurd this (Nat.not_lt.mpr hc)
  refine wpAny_pyIter_enum he (h _ _ _ _ _ _ _ (Iter.ofT (hD := s₁.heap) (Keeps.trans hk (.put s₁ s₁.toks hkp)) (Keeps.heap hk) hkp W ⟨⟨_, he⟩, hi1, hl1.isList.at (fun o e => hkp _ o e)⟩ (fun c hc => ?_) (by rw [enumD_len]; exact hx) (fun c hc => ?_) (fun c hc hw => ?_) (fun i vals d hP hd => ?_) (fun i hh' st c hc => ?_) (fun i T hh' m c hc => ?_)))
  . simp only [List.mem_cons, List.not_mem_nil, or_false] at hc
    show c < h'.objs.size
    rw [hsz]
    simp only [Addr] at *
    omega
  . simp only [List.mem_cons, List.not_mem_nil, or_false] at hc
    refine fresh c ?_
    simp only [Addr] at *
    omega
  . simp only [List.mem_cons, List.not_mem_nil, or_false] at hc hw
    rcases hc with rfl | rfl | rfl
    . exact (hw (.inl rfl)).elim
    . exact (hw (.inr rfl)).elim
    . obtain ⟨n, ho⟩ := hl1
      exact ⟨_, _, n, hkp _ _ ho, rfl, .inr ⟨rfl, hf1⟩⟩
  . obtain ⟨x, hx', rfl⟩ := enumD_get hd
    refine cps fun Gq goq => ?_
    obtain ⟨t, v1, q1, rfl⟩ := hP
    obtain ⟨d1, z1, w1⟩ := r1.get' (i := i) (v := v1) (by simpa using q1)
    refine goq ?_
    clear goq
    clear Gq
    rw [hx'] at z1; cases z1
    refine ⟨_, rfl, .cons ?_ (.cons w1 .nil)⟩
    rw [Nat.zero_add]
    exact .int _ _
  . obtain ⟨⟨old, q1⟩, ⟨o4, q4, _, d4⟩, _⟩ := st
    simp only [List.mem_cons, List.not_mem_nil, or_false] at hc
    rcases hc with rfl | rfl
    . exact ⟨_, q1, .inl ⟨_, rfl⟩⟩
    . exact ⟨_, q4, .inl ⟨_, d4⟩⟩
  . obtain ⟨⟨old, q1⟩, ⟨o4, q4, _, d4⟩, _⟩ := m
    simp only [List.mem_cons, List.not_mem_nil, or_false] at hc
    rcases hc with rfl | rfl
    . exact ⟨_, q1, .inl ⟨_, rfl⟩⟩
    . exact ⟨_, q4, .inl ⟨_, d4⟩⟩
end
end Mine
end
section
set_option maxRecDepth 100000
namespace Mine
open PySem PyProof.Rows
theorem mapM_some {α β : Type} {f : α -> Option β} : ∀ {xs : List α} {rs : List β}, xs.mapM f = some rs -> rs.length = xs.length ∧ ∀ (i : Nat) (x : α), xs[i]? = some x -> ∃ r, f x = some r ∧ rs[i]? = some r
  | [], rs, h => by simp at h; subst h; simp
  | x :: xs, rs, h => by
    rw [List.mapM_cons] at h
    cases e : f x with
    | none => rw [e] at h; cases h
    | some y =>
      rw [e] at h
      cases e' : xs.mapM f with
      | none => rw [e'] at h; cases h
      | some ys =>
        rw [e'] at h
        obtain rfl := Option.some.inj h
        obtain ⟨h1, h2⟩ := mapM_some e'
        refine ⟨by simp [h1], fun i z hz => ?_⟩
        cases i with
        | zero => simp at hz; subst hz; exact ⟨y, e, rfl⟩
        | succ i => simpa using h2 i z (by simpa using hz)
noncomputable def Made (F : Addr -> Prop) (Z : Addr -> Prop) (h : Heap) (ys : List Value) (rs : List (PyData × Nat)) : Prop := RDs h (fun b => F b ∨ Z b) ys (rs.map (·.1))
theorem Made.frame {F : Addr -> Prop} {h h' : Heap} {Z : Addr -> Prop} {ys : List Value} {rs : List (PyData × Nat)} (x : Made F Z h ys rs) (hk : ∀ b o vs n, ¬ Z b -> h.get? b = some o -> o.data = .seq vs n -> h'.get? b = some o) : Made F Z h' ys rs :=
  RDs.moveF (fun ζ q => .inl q) (fun b o vs n e d q => hk b o vs n (fun z => q (.inr z)) e d) x
theorem Made.snoc {F : Addr -> Prop} {h₂ h h' : Heap} {Z : Addr -> Prop} {ys : List Value} {rs : List (PyData × Nat)} {y : Value} {r : PyData × Nat} (x : Made F Z h ys rs) (hk : KeepsH h h')
    (hZ : ∀ b, Z b -> h₂.get? b = none ∧ ∃ o, h.get? b = some o) (v : RD h' (fun b => F b ∨ (h₂.get? b = none ∧ ∃ o, h.get? b = some o)) y r.1) : Made F Z h' (ys ++ [y]) (rs ++ [r]) := by
  unfold Made
  rw [List.map_append]
  refine (RDs.keeps x hk).append (.cons (v.weak fun a q => .inl ?_) .nil)
  rcases q with q | q
  . exact .inl q
  . exact .inr (hZ a q)
theorem Made.val {F : Addr -> Prop} {h₀ h₂ h : Heap} {D : Addr} {Z : Addr -> Prop} {ys : Array Value} {rs : List (PyData × Nat)} (x : Made F Z h ys.toList rs) (hZ : Z D) (hD : h.PlainList D ys) (hn : h₂.get? D = none) (k : KeepsH h₀ h₂) (al : Alloc F h₂) :
    Val F h₀ h (.ref D) (mkL rs) :=
  ⟨.list hD (al.fresh hn) (RDs.weak (fun a q => .inl (.inl q)) x), fun ζ => ⟨D, ys, _, rfl, rfl, k.none hn, hD, RDs.weak (fun b q => .inl (q.imp id fun q => by rw [q]; exact hZ)) x⟩⟩
end Mine
end
section
set_option maxRecDepth 100000
namespace Mine
open PySem PyProof.Rows
theorem cellsFrom_app : ∀ (names : List (Str × NameKind)) (n : Nat) (acc : List (Str × Addr)), cellsFrom n names acc = cellsFrom n names [] ++ acc
  | [], _, _ => rfl
  | (x, k) :: r, n, acc => by
    unfold cellsFrom
    split
    . rw [cellsFrom_app r (n + 1) ((x, n) :: acc), cellsFrom_app r (n + 1) [(x, n)], List.append_assoc]; rfl
    . exact cellsFrom_app r n acc
structure CV (env : Env) (nc : List (Str × Addr)) (h : Heap) : Prop where
  ns : ∃ m, h.Ns env.locals m
  cl : ∀ x c, (x, c) ∈ nc -> ∃ v, h.IsCell c v
  ap : nc.Pairwise fun x y => x.2 ≠ y.2
  ab : ∀ x c, (x, c) ∈ nc -> c ≠ env.locals
noncomputable def Vol (env : Env) (nc : List (Str × Addr)) (b : Addr) : Prop := b = env.locals ∨ ∃ x, (x, b) ∈ nc
theorem CV.at {env : Env} {nc : List (Str × Addr)} {h h' : Heap} (x : CV env nc h) (hk : ∀ b o, Vol env nc b -> h.get? b = some o -> h'.get? b = some o) : CV env nc h' :=
  ⟨let ⟨m, q⟩ := x.ns; ⟨m, q.at' fun o e => hk _ o (.inl rfl) e⟩, fun y c m => let ⟨v, o, h1, h2⟩ := x.cl y c m; ⟨v, o, hk c o (.inr ⟨y, m⟩) h1, h2⟩, x.ap, x.ab⟩
noncomputable def TG (env : Env) (nc : List (Str × Addr)) (x : Str) : Prop := (env.kindOf x = some .local ∧ env.cells.lookup x = none) ∨ (env.kindOf x = some .cell ∧ ∃ c, env.cells.lookup x = some c ∧ (x, c) ∈ nc)
theorem CV.noseq {env : Env} {nc : List (Str × Addr)} {h : Heap} (x : CV env nc h) {b : Addr} (hb : Vol env nc b) {o : Obj} {vs : Array Value} {n : Nat} (ho : h.get? b = some o) (hd : o.data = .seq vs n) : False := by
  rcases hb with rfl | ⟨y, m⟩
  . obtain ⟨_, o', es, ep, z1, z2, _⟩ := x.ns
    rw [ho] at z1; cases z1; rw [hd] at z2; cases z2
  . obtain ⟨v, o', z1, z2⟩ := x.cl y b m
    rw [ho] at z1; cases z1; rw [hd] at z2; cases z2
section
variable {M : Model} {A : Around} {E : Value -> Shared -> Prop} {env : Env} {nc : List (Str × Addr)} {s : Shared}
theorem cv_store {x : Str} {v : Value} {Q : Unit -> Shared -> Prop} (hk : env.scope.kind = .function) (t : TG env nc x) (V : CV env nc s.heap)
    (h : ∀ h' tk, CV env nc h' -> Has env h' x v -> (∀ b o, ¬ Vol env nc b -> s.heap.get? b = some o -> h'.get? b = some o) -> (∀ y u, y ≠ x -> TG env nc y -> Has env s.heap y u -> Has env h' y u) -> Q () { s with heap := h', toks := tk }) :
    wpAny M A (storeName env x v) Q E s := by
  obtain ⟨m, hm⟩ := V.ns
  rcases t with ⟨hl, hc⟩ | ⟨hl, c, hc, hmem⟩
  . refine wpAny_storeName_local hl hm (fun h' hns hs => h h' _ ⟨⟨_, hns⟩, fun y c q => ?_, V.ap, V.ab⟩ (.inl ⟨hl, hc, _, hns, by simp⟩) (fun b o hv e => hs.extBut b o (fun z => hv (.inl z)) e) fun y u hy ty hu => ?_) (by rw [hk]; rfl)
    . obtain ⟨w, q2⟩ := V.cl y c q
      exact ⟨w, q2.sameBut hs (V.ab y c q)⟩
    . rcases hu with ⟨q1, q2, m', q3, q4⟩ | ⟨q1, c, q2, q3⟩
      . refine .inl ⟨q1, q2, _, hns, ?_⟩
        rw [if_neg hy]
        rw [← q4]
        exact Heap.Ns.agree hm q3 y
      . rcases ty with ⟨_, w⟩ | ⟨_, c', w, w'⟩
        . rw [q2] at w; cases w
        . rw [q2] at w; cases w
          exact .inr ⟨q1, c, q2, q3.sameBut hs (V.ab y c w')⟩
  . obtain ⟨v₀, hv₀⟩ := V.cl x c hmem
    refine wpAny_storeName_cell hk hl hc hv₀ fun h' hcc hs => h h' _ ⟨⟨_, hm.sameBut hs (Ne.symm (V.ab x c hmem))⟩, fun y c' q => ?_, V.ap, V.ab⟩ (.inr ⟨.inl hl, c, hc, hcc⟩) (fun b o hv e => hs.extBut b o (fun z => hv (.inr ⟨x, z ▸ hmem⟩)) e) fun y u hy ty hu => ?_
    . by_cases e : c' = c
      . subst e; exact ⟨_, hcc⟩
      . obtain ⟨w, q2⟩ := V.cl y c' q
        exact ⟨w, q2.sameBut hs e⟩
    . rcases hu with ⟨q1, q2, m', q3, q4⟩ | ⟨q1, c', q2, q3⟩
      . exact .inl ⟨q1, q2, m', q3.sameBut hs (Ne.symm (V.ab x c hmem)), q4⟩
      . rcases ty with ⟨_, w⟩ | ⟨_, c'', w, w'⟩
        . rw [q2] at w; cases w
        . rw [q2] at w; cases w
          exact .inr ⟨q1, c', q2, q3.sameBut hs fun e => hy (name_of_addr V.ap w' (e ▸ hmem))⟩
end
inductive TgtE : PySem.Expr -> List Str -> Prop
  | one (x : Str) (p : Pos) : TgtE (.Name x p) [x]
  | two (x : Str) (p : Pos) (y : Str) (q : Pos) (k : Nat) (pos : Pos) : TgtE (.Tuple [.Name x p, .Name y q] k pos) [x, y]
theorem tgts_of {e : PySem.Expr} {xs : List Str} (h : tgts e = some xs) : TgtE e xs := by
  unfold tgts at h
  cases hx : nm e with
  | some x =>
    rw [hx] at h
    clear hx
    replace h := Option.some.inj h
    subst h
    obtain ⟨⟨x, p⟩, rfl⟩ := x
    exact .one _ _
  | none =>
    rw [hx] at h
    clear hx
    refine cps fun Gq goq => ?_
    revert h
    refine bind_subR fun t h1 h => ?_
    revert h
    refine bind_subR fun ab h2 h => ?_
    revert h
    refine bind_subR fun a h3 h => ?_
    revert h
    refine bind_subR fun b h4 h => ?_
    refine goq ?_
    clear goq
    clear Gq
    replace h := Option.some.inj h
    subst h
    rw [h1, h2, h3, h4]
    exact .two _ _ _ _ _ _
noncomputable def Comps (hD : Heap) (F : Addr -> Prop) (h : Heap) (xs : List Str) (v : Value) (ds : List PyData) : Prop :=
  (∃ d, xs.length = 1 ∧ ds = [d] ∧ RD hD F v d) ∨ (∃ a vs, xs.length = 2 ∧ v = .ref a ∧ IsTup h a vs ∧ ds.length = 2 ∧ RDs hD F vs.toList ds)
section
variable {G : GCtx} {A : Around} {E : Value -> Shared -> Prop} {env : Env} {nc : List (Str × Addr)} {s : Shared}
theorem assign_tg {hD : Heap} {F : Addr -> Prop} {tg : PySem.Expr} {xs : List Str} {v : Value} {ds : List PyData} {Q : Unit -> Shared -> Prop} (hh : A.handled = none) (hk : env.scope.kind = .function) (te : TgtE tg xs) (nd : xs.Nodup)
    (tgs : ∀ x ∈ xs, TG env nc x) (V : CV env nc s.heap) (c : Comps hD F s.heap xs v ds)
    (h : ∀ h' tk vs, CV env nc h' -> RDs hD F vs ds -> (∀ (i : Nat) (x : Str) (v : Value), xs[i]? = some x -> vs[i]? = some v -> Has env h' x v) -> (∀ b o, ¬ Vol env nc b -> s.heap.get? b = some o -> h'.get? b = some o) -> Q () { s with heap := h', toks := tk }) :
    wpAny (model G.prog G.w) A (assign tg env v) Q E s := by
  cases te with
  | one x p =>
    rcases c with ⟨d, _, rfl, rd⟩ | ⟨_, _, e, _⟩
    . refine wpAny_assign_Name (cv_store hk (tgs x (.head _)) V fun h' tk V' hx kp ζ => h h' tk [v] V' (.cons rd .nil) (fun i y u h1 h2 => ?_) kp)
      cases i with
      | zero => cases h1; cases h2; exact hx
      | succ i => cases h1
    . cases e
  | two x p y q k pos =>
    rcases c with ⟨d, e, _⟩ | ⟨a, vs, _, rfl, ht, hl, r⟩
    . cases e
    . have e1 := r.length
      simp only [Array.length_toList] at e1
      obtain ⟨vs⟩ := vs
      match vs, r, e1, ht with
      | [v1, v2], r, e1, ht =>
        refine assign_Tuple_tuple hh ht rfl rfl fun h₁ he => ?_
        have k1 : KeepsH s.heap h₁ := fun b o e => he b o (Nat.ne_of_lt (Heap.lt_size e)) e
        refine wpAny_bind (wpAny_holding (wpAny_assign_Name (cv_store (s := { s with heap := h₁ }) hk (tgs x (.head _)) (V.at fun b o ζ e => k1 b o e) fun h₂ t₂ V₂ hx kp₂ ζ => ?_)))
        refine wpAny_bind (wpAny_holding (wpAny_assign_Name (cv_store (s := { s with heap := h₂, toks := t₂ }) hk (tgs y (.tail _ (.head _))) V₂ fun h₃ t₃ V₃ hy kp₃ ks => ?_)))
        refine wpAny_pure (h h₃ t₃ [v1, v2] V₃ r (fun i z u h1 h2 => ?_) fun b o hv e => kp₃ b o hv (kp₂ b o hv (k1 b o e)))
        match i, h1, h2 with
        | 0, h1, h2 => cases h1; cases h2; exact ks x v1 (fun e => by subst e; simp at nd) (tgs x (.head _)) hx
        | 1, h1, h2 => cases h1; cases h2; exact hy
      | [], r, e1, ht => simp at e1; omega
      | [_], r, e1, ht => simp at e1; omega
      | _ :: _ :: _ :: _, r, e1, ht => simp at e1; omega
end
end Mine
end
section
set_option maxRecDepth 100000
namespace Mine
open PySem PyProof.Rows
section
variable {prog : Program} {w : World} {A : Around} {R : Result -> Shared -> Prop} {s : Shared}
noncomputable abbrev testsOf (ifs : List PySem.Expr) (env : Env) : Sem Bool := forIn ifs true fun c r => if r = true then do let ok ← isTrue c env (eval c env); pure (ForInStep.yield ok) else pure (ForInStep.yield r)
noncomputable abbrev NB (prog : Program) (w : World) (A : Around) (env : Env) (R : Result -> Shared -> Prop) : Value -> Shared -> Prop := notedBy (model prog w) A env fun e s' => R (.error e) s'
theorem compLoop_all {elt target iter : PySem.Expr} {ifs : List PySem.Expr} {scope : Scope} {pos : Pos} {it acc : Value} {env : Env} (I : Nat -> Shared -> Prop)
    (turn : ∀ n s, I n s -> wpAny (model prog w) A (pyNext it) (fun r s₁ => match r with
      | none => R (.ok .next) s₁
      | some v => wpAny (model prog w) A (letOwnedTupleGo target it v) (fun ζ s₂ => wpAny (model prog w) A (assign target env v) (fun ζ s₂ =>
          wpAny (model prog w) A (testsOf ifs env) (fun ok s₃ =>
            if ok = true then wpAny (model prog w) A (eval elt env) (fun x s₄ =>
              wpAny (model prog w) A (call (.builtin "list.append") [acc, x]) (fun ζ s₅ => ∃ m, m < n ∧ I m s₅) (NB prog w A env R) s₄) (NB prog w A env R) s₃
            else ∃ m, m < n ∧ I m s₃) (NB prog w A env R) s₂) (NB prog w A env R) s₂) (NB prog w A env R) s₁) (NB prog w A env R) s)
    (n : Nat) (h : I n s) :
    codeAny (model prog w) A (.compLoop (.ListComp elt [⟨target, iter, ifs, 0⟩] scope pos) 0 it acc env) R s := by
  refine codeAny_loop rfl I (fun n s hI => ?_) n h
  show wpAny _ A ((compTurn (.ListComp elt [⟨target, iter, ifs, 0⟩] scope pos) 0 it acc env).onRaise (fun x => do noteFrame x env; theTreesLotGoes x)) _ _ s
  refine wpAny_noted ?_
  rw [compTurn_list]
  refine wpAny_bind (wpAny_standAt (wpAny_bind (wpAny_mono (turn n s hI) (fun r s₁ h₁ => ?_) fun ζ ζ h' => h')))
  cases r with
  | none => exact wpAny_pure h₁
  | some v =>
    refine wpAny_bind (wpAny_mono h₁ (fun ζ s₂ h₂ => wpAny_bind (wpAny_mono h₂ (fun ζ s₂ h₂ => wpAny_bind (wpAny_mono h₂ (fun ok s₃ h₃ => ?_) fun ζ ζ h' => h')) fun ζ ζ h' => h')) fun ζ ζ h' => h')
    cases ok with
    | false => exact wpAny_pure ⟨rfl, h₃⟩
    | true =>
      exact wpAny_bind (wpAny_bind (wpAny_mono h₃ (fun x s₄ h₄ => wpAny_bind (wpAny_mono h₄ (fun ζ s₅ h₅ => wpAny_pure (wpAny_pure ⟨rfl, h₅⟩)) fun ζ ζ h' => h')) fun ζ ζ h' => h'))
end
theorem comp_frame {M : Model} {A : Around} {E : Value -> Shared -> Prop} {s : Shared} {scope : Scope} {env : Env} {cl : List (Str × Addr)} {Q : Env -> Shared -> Prop}
    (h : ∀ h', (∀ b o, s.heap.get? b = some o -> h'.get? b = some o) -> CV (compEnvC scope (cellsFrom (s.heap.objs.size + 1) scope.names cl) s.heap.objs.size env) (cellsFrom (s.heap.objs.size + 1) scope.names []) h' ->
      (∀ x c, (x, c) ∈ cellsFrom (s.heap.objs.size + 1) scope.names [] -> s.heap.objs.size < c) ->
      Q (newEnv scope s.heap.objs.size env.globals (cellsFrom (s.heap.objs.size + 1) scope.names cl) env.qual none .none (some env) builtinsNs) { s with heap := h' }) :
    wpAny M A (newFunctionEnv scope env.globals cl [] env.qual none .none (some env)) Q E s := by
  simp only [newFunctionEnv, Option.isSome_some, if_true]
  refine wpAny_bind (wpAny_alloc ?_)
  refine wpAny_bind (wpAny_layCells _ (fun name kind cells => by cases hkc : kind == NameKind.cell <;> simp [hkc]) _ _ _ _ ?_)
  have ok := cellsFrom_ok scope.names (s.heap.push { cls := .type "dict", data := .dict #[] }) (s.heap.objs.size + 1) [] ⟨fun ζ ζ hm => (nomatch hm), List.Pairwise.nil⟩ (by rw [Heap.size_push]; exact Nat.le_refl _)
  rw [Heap.size_push] at ok
  rw [show ({ s with heap := s.heap.push { cls := .type "dict", data := .dict #[] } } : Shared).heap.objs.size = s.heap.objs.size + 1 from Heap.size_push ..]
  refine wpAny_bind (wpAny_pure (wpAny_pure (h _ (fun b o e => pushCells_keeps _ _ b o (Heap.get?_push_of_some _ e)) ⟨⟨_, (Heap.Ns.new s.heap (.type "dict")).keeps (pushCells_keeps _ _)⟩, fun x c hm => ⟨_, (ok.empty x c hm).1⟩, ok.apart, fun x c hm => Nat.ne_of_gt (ok.empty x c hm).2⟩ fun x c hm => (ok.empty x c hm).2)))
section
variable {G : GCtx} {A : Around} {F : Addr -> Prop} {E : Value -> Shared -> Prop} {env : Env}
set_option genCtorIdx true in
inductive COut where
  | skip
  | val (r : PyData × Nat)
  | exc (c : Nat)
noncomputable def COut.val? : COut -> Option (PyData × Nat)
  | .val r => some r
  | _ => none
noncomputable def vals (os : List COut) : List (PyData × Nat) := os.filterMap COut.val?
noncomputable abbrev cEnv (scope : Scope) (cl : List (Str × Addr)) (Cc : Addr) (env : Env) : Env := compEnvC scope (cellsFrom (Cc + 1) scope.names cl) Cc env
noncomputable abbrev cNew (scope : Scope) (Cc : Addr) : List (Str × Addr) := cellsFrom (Cc + 1) scope.names []
noncomputable def Holds' (xs : List Str) (env : Env) (F : Addr -> Prop) (h : Heap) (d : PyData) : Prop :=
  ∃ vs ds, RDs h F vs ds ∧ (∀ (i : Nat) (x : Str) (v : Value), xs[i]? = some x -> vs[i]? = some v -> Has env h x v) ∧ ((xs.length = 1 ∧ ds = [d]) ∨ (xs.length = 2 ∧ ds.length = 2 ∧ d = .tuple ds))
noncomputable def NE (os : List COut) (i : Nat) : Prop := ∀ k, k < i -> ∀ c, os[k]? ≠ some (.exc c)
theorem NE.succ {os : List COut} {i : Nat} (h : NE os i) {o : COut} (ho : os[i]? = some o) (hn : ∀ c, o ≠ .exc c) : NE os (i + 1) := fun k hk c e => by
  rcases Nat.lt_succ_iff_lt_or_eq.mp hk with q | q
  . exact h k q c e
  . subst q
    rw [ho] at e
    replace e := Option.some.inj e
    subst e
    exact hn c rfl
structure CoI (F Z : Addr -> Prop) (St : Nat -> Heap -> Prop) (D : Addr) (cE : Env) (cN : List (Str × Addr)) (wr : List Addr) (ds : List PyData) (os : List COut) (s₂ : Shared) (n : Nat) (s' : Shared) : Prop where
  ex : ∃ (j : Nat) (ys : Array Value), NE os j ∧ Sm s₂ s' ∧ n = ds.length + 1 - j ∧ j ≤ ds.length ∧ St j s'.heap ∧ s'.heap.PlainList D ys ∧ ys.size ≤ j ∧ CV cE cN s'.heap ∧ Made F Z s'.heap ys.toList (vals (os.take j)) ∧ ∀ b o, b ∉ wr -> s₂.heap.get? b = some o -> s'.heap.get? b = some o
theorem comp_core {elt iter tg : PySem.Expr} {ifs : List PySem.Expr} {xs : List Str} {scope : Scope} {cl : List (Str × Addr)} {pos : Pos} {s s₂ : Shared} {tw : Bool} {hD : Heap} {I : Addr} {fp wr : List Addr} {St : Nat -> Heap -> Prop} {Mid : Nat -> Value -> Heap -> Prop}
    {ds : List PyData} {os : List COut} {RR : Value -> Addr -> Result -> Shared -> Prop} {XE : Value -> Shared -> Shared -> Prop} (hh : A.handled = none) (it : Iter G A F tw ds s s₂ hD I fp wr St Mid) (al : Alloc F s.heap)
    (te : TgtE tg xs) (nd : xs.Nodup) (htw : tw = true -> xs.length = 2) (hds : xs.length = 2 -> ∀ (i : Nat) (d : PyData), ds[i]? = some d -> NE os i -> ∃ es, d = .tuple es ∧ es.length = 2) (hkind : scope.kind = .function) (htg : ∀ Cc, ∀ x ∈ xs, TG (cEnv scope cl Cc env) (cNew scope Cc) x) (hlen : os.length = ds.length)
    (hel : ∀ (i : Nat) (d : PyData) (o : COut) (Cc : Addr) (s₃ : Shared) (F' : Addr -> Prop) (Qt : Value -> Shared -> Prop) (Qf : Shared -> Prop) (E' : Value -> Shared -> Prop), ds[i]? = some d -> os[i]? = some o -> NE os i ->
      Holds' xs (cEnv scope cl Cc env) F' s₃.heap d -> KeepsH s.heap s₃.heap -> (∀ a, F' a -> F a ∨ s.heap.get? a = none) -> Alloc F' s₃.heap ->
      (∀ s₄, o = .skip -> Keeps s₃ s₄ -> Qf s₄) -> (∀ r y s₄, o = .val r -> Keeps s₃ s₄ -> Val F' s₃.heap s₄.heap y r -> Qt y s₄) -> (∀ c e s₄, o = .exc c -> XE e s₃ s₄ -> E' e s₄) ->
      wpAny (model G.prog G.w) A (testsOf ifs (cEnv scope cl Cc env)) (fun ok s₄ => if ok = true then wpAny (model G.prog G.w) A (eval elt (cEnv scope cl Cc env)) Qt E' s₄ else Qf s₄) E' s₃)
    (hXE : ∀ D Cc s₃ m e s₄, s₂.heap.get? D = none -> s₂.heap.get? Cc = none -> s₃.heap.Ns Cc m -> Sm s₂ s₃ -> (∀ b o, b ∉ wr -> s₂.heap.get? b = some o -> s₃.heap.get? b = some o) -> XE e s₃ s₄ -> NB G.prog G.w A (cEnv scope cl Cc env) (RR (.ref D) Cc) e s₄)
    (hRR : ∀ D Cc s' m' ys, s₂.heap.get? D = none -> s₂.heap.get? Cc = none -> D ≠ Cc -> Sm s₂ s' -> s'.heap.Ns Cc m' -> s'.heap.PlainList D ys -> Made F (fun b => b = D ∨ Vol (cEnv scope cl Cc env) (cNew scope Cc) b ∨ b ∈ wr) s'.heap ys.toList (vals os) -> (∀ b o, b ∉ wr -> s₂.heap.get? b = some o -> s'.heap.get? b = some o) -> NE os os.length ->
      RR (.ref D) Cc (.ok .next) s') :
    wpAny (model G.prog G.w) A (newList []) (fun acc s₃ => wpAny (model G.prog G.w) A (newFunctionEnv scope env.globals cl [] env.qual none .none (some env)) (fun cenv s₄ =>
      codeAny (model G.prog G.w) A (.compStart (.ListComp elt [⟨tg, iter, ifs, 0⟩] scope pos) 0 (.ref I) acc { cenv with scope := relabel scope env }) (RR acc cenv.locals) s₄) E s₃) E s₂ := by
  have kD2 := it.kD'
  refine wpAny_newObj_type (comp_frame fun h₁ hk₁ hcv₁ hab₁ => ?_)
  dsimp only at hk₁ hcv₁ hab₁ ⊢
  have hsz : (s₂.heap.push { cls := .type "list", dict := none, data := .seq ([] : List Value).toArray }).objs.size = s₂.heap.objs.size + 1 := Heap.size_push ..
  have hacc : h₁.PlainList s₂.heap.objs.size #[] := ⟨_, hk₁ _ _ (Heap.get?_push_size _ rfl)⟩
  have old : ∀ b o, s₂.heap.get? b = some o -> h₁.get? b = some o := fun b o e => hk₁ b o (Heap.get?_push_of_some _ e)
  clear hk₁
  have fresh : ∀ a, s₂.heap.objs.size ≤ a -> s₂.heap.get? a = none := fun a ha => by
    cases e : s₂.heap.get? a with
    | none => rfl
    | some o' => exact absurd (Heap.lt_size e) (Nat.not_lt.mpr ha)
  generalize hDe : s₂.heap.objs.size = D at *
  generalize hCe : (s₂.heap.push { cls := .type "list", dict := none, data := .seq ([] : List Value).toArray }).objs.size = Cc at *
  have hDC : D ≠ Cc := by rw [hsz]; exact Nat.ne_of_lt (Nat.lt_succ_self _)
  have hnD := fresh D (Nat.le_refl _)
  have hnC : s₂.heap.get? Cc = none := fresh _ (by rw [hsz]; exact Nat.le_succ _)
  have hVD : ∀ b, Vol (cEnv scope cl Cc env) (cNew scope Cc) b -> D < b ∧ s₂.heap.get? b = none := fun b hb => by
    have : D < b := by
      rcases hb with hb | ⟨x, hb⟩
      . rw [show b = Cc from hb, hsz]; exact Nat.lt_succ_self _
      . refine Nat.lt_trans ?_ (hab₁ x b hb)
        rw [hsz]; exact Nat.lt_succ_self _
    exact ⟨this, fresh b (Nat.le_of_lt this)⟩
  have hfpD : ∀ b ∈ fp, b < D := fun b hb => by have := it.low b hb; rw [hDe] at this; exact this
  have hDf : D ∉ fp := fun hm => Nat.lt_irrefl _ (hfpD _ hm)
  have hVf : ∀ b, Vol (cEnv scope cl Cc env) (cNew scope Cc) b -> b ∉ fp := fun b hb hm => Nat.lt_asymm (hfpD b hm) (hVD b hb).1
  have hDw : D ∉ wr := fun h => hDf (it.sub _ h)
  have hVw : ∀ b, Vol (cEnv scope cl Cc env) (cNew scope Cc) b -> b ∉ wr := fun b hb h => hVf b hb (it.sub _ h)
  have hDV : ¬ Vol (cEnv scope cl Cc env) (cNew scope Cc) D := fun h => Nat.lt_irrefl _ (hVD D h).1
  generalize hZ : (fun b => b = D ∨ Vol (cEnv scope cl Cc env) (cNew scope Cc) b ∨ b ∈ wr) = Z at *
  have zD : Z D := by rw [← hZ]; exact .inl rfl
  have zV : ∀ b, Vol (cEnv scope cl Cc env) (cNew scope Cc) b -> Z b := fun b hb => by rw [← hZ]; exact .inr (.inl hb)
  have zw : ∀ b, b ∈ wr -> Z b := fun b hb => by rw [← hZ]; exact .inr (.inr hb)
  have zn : ∀ b, Z b -> hD.get? b = none := fun b hb => by
    rw [← hZ] at hb
    rcases hb with hb | hb | hb
    . rw [hb]; exact kD2.none hnD
    . exact kD2.none (hVD b hb).2
    . exact it.new b hb
  have hst₁ : St 0 h₁ := it.frame _ _ _ it.start fun b ζ o e => old b o e
  have loop : ∀ s₃ : Shared, s₃ = { s₂ with heap := h₁ } ->
      codeAny (model G.prog G.w) A (.compLoop (.ListComp elt [⟨tg, iter, ifs, 0⟩] scope pos) 0 (.ref I) (.ref D) (cEnv scope cl Cc env)) (RR (.ref D) Cc) s₃ := by
    rintro s₃ rfl
    refine compLoop_all (CoI F Z St D (cEnv scope cl Cc env) (cNew scope Cc) wr ds os s₂) ?_ (ds.length + 1) ⟨⟨0, #[], (fun k hk => absurd hk (Nat.not_lt_zero k)), .put _ _ _, by omega, Nat.zero_le _, hst₁, hacc, Nat.le_refl _, hcv₁, (show RDs _ _ _ _ from .nil), fun b o ζ e => old b o e⟩⟩
    intro n s' hI
    refine cps fun Gq goq => ?_
    obtain ⟨⟨j, ys, hne, sm, hnj, hj, hstj, hl, hys, hcv, hmade, hkp⟩⟩ := hI
    refine goq ?_
    clear goq
    clear Gq
    try clear h₁
    try clear hk₁
    try clear hcv₁
    try clear hab₁
    try clear hsz
    try clear hacc
    try clear old
    try clear fresh
    try clear hfpD
    try clear s₃
    try clear hI
    try clear Gq
    try clear goq
    subst hnj
    by_cases hlt : j < ds.length
    . obtain ⟨d, hd⟩ : ∃ d, ds[j]? = some d := ⟨ds[j], List.getElem?_eq_getElem hlt⟩
      obtain ⟨o, ho⟩ : ∃ o, os[j]? = some o := ⟨os[j]'(by omega), List.getElem?_eq_getElem (by omega)⟩
      have kD' : KeepsH hD s'.heap := fun b o e => hkp b o (fun hw => by rw [it.new b hw] at e; cases e) (kD2 b o e)
      refine it.item j d _ _ _ hd hstj (fun b o e => ⟨o, kD' b o e⟩) fun v h₃ tk₃ hv hmid hk₃ => ?_
      refine it.go tg ?_ j v _ _ _ hmid fun h₄ hst₄ hk₄ => ?_
      . cases te with
        | one x p => exact .inl ⟨Bool.eq_false_iff.mpr (fun e => absurd (htw e) (by simp)), x, p, rfl⟩
        | two x p y q k pos => exact .inr ⟨_, _, _, rfl⟩
      have k34 : ∀ b o, b ∉ wr -> s'.heap.get? b = some o -> h₄.get? b = some o := fun b o hw e => hk₄ b o hw (hk₃ b o hw e)
      have comps : ∃ es, Comps hD F h₄ xs v es ∧ ((xs.length = 1 ∧ es = [d]) ∨ (xs.length = 2 ∧ es.length = 2 ∧ d = .tuple es)) := by
        have hx : xs.length = 1 ∨ xs.length = 2 := by cases te <;> simp
        rcases hv with ⟨rfl, rd⟩ | ⟨rfl, a, vs, es, rfl, rfl, ht, haw, hn, r⟩
        . rcases hx with hx | hx
          . exact ⟨[d], .inl ⟨d, hx, rfl, rd⟩, .inl ⟨hx, rfl⟩⟩
          . obtain ⟨es, rfl, hes⟩ := hds hx j d hd hne
            try clear hnj
            try clear kD
            try clear v
            try clear hv
            try clear hmid
            try clear h₄
            obtain ⟨a, vs, rfl, ⟨o, h1, h2, n, h3⟩, -, r⟩ := rd.tuple_inv'
            exact ⟨es, .inr ⟨a, vs, hx, rfl, ⟨o, k34 a o (fun hw => by rw [it.new a hw] at h1; cases h1) (kD' a o h1), h2, n, h3⟩, hes, r⟩, .inr ⟨hx, hes, rfl⟩⟩
        . have hx := htw rfl
          obtain ⟨es', e, hes⟩ := hds hx j _ hd hne
          try clear es'
          cases e
          obtain ⟨o, h1, h2, n, h3⟩ := ht
          exact ⟨es, .inr ⟨a, vs, hx, rfl, ⟨o, hk₄ a o haw h1, h2, n, h3⟩, hes, r⟩, .inr ⟨hx, hes, rfl⟩⟩
      obtain ⟨es, comps, hes⟩ := comps
      refine assign_tg hh hkind te nd (htg Cc) (hcv.at fun b o hb e => k34 b o (hVw b hb) e) comps fun h₅ tk₅ vs hcv₅ rvs hhas hk₅ => ?_
      have k5 : ∀ b o, ¬ Vol (cEnv scope cl Cc env) (cNew scope Cc) b -> b ∉ wr -> s'.heap.get? b = some o -> h₅.get? b = some o := fun b o e1 e2 e => hk₅ b o e1 (k34 b o e2 e)
      have k25 : ∀ b o, b ∉ wr -> s₂.heap.get? b = some o -> h₅.get? b = some o := fun b o e2 e => k5 b o (fun z => by rw [(hVD b z).2] at e; cases e) e2 (hkp b o e2 e)
      have kD5 : KeepsH hD h₅ := fun b o e => k25 b o (fun hw => by rw [it.new b hw] at e; cases e) (kD2 b o e)
      have ks : KeepsH s.heap h₅ := fun b o e => kD5 b o (it.kD b o e)
      have hst₅ : St (j + 1) h₅ := it.frame _ _ _ hst₄ fun b hb o e => hk₅ b o (fun z => hVf b z hb) e
      have hlD5 : h₅.PlainList D ys := by
        obtain ⟨n, ho⟩ := hl
        exact ⟨n, k5 D _ hDV hDw ho⟩
      have zo : ∀ b, Z b -> ∃ o, h₅.get? b = some o := fun b hb => by
        rw [← hZ] at hb
        rcases hb with hb | hb | hb
        . obtain ⟨n, ho⟩ := hlD5
          exact ⟨_, hb ▸ ho⟩
        . rcases hb with hb | ⟨x, hb⟩
          . obtain ⟨_, o, _, _, h1, _⟩ := hcv₅.ns
            exact ⟨o, hb ▸ h1⟩
          . obtain ⟨_, o, h1, _⟩ := hcv₅.cl x b hb
            exact ⟨o, h1⟩
        . obtain ⟨o, h1, _⟩ := it.stF _ _ hst₅ b hb
          exact ⟨o, h1⟩
      have m5 : Made F Z h₅ ys.toList (vals (os.take j)) := hmade.frame fun b o vs n e1 e e2 => k5 b o (fun z => e1 (zV b z)) (fun z => e1 (zw b z)) e
      have hF' : ∀ a, (F a ∨ (hD.get? a = none ∧ ∃ o, h₅.get? a = some o)) -> F a ∨ s.heap.get? a = none := fun a q => q.imp id fun q => it.kD.none q.1
      have hjn : (∀ c, o ≠ .exc c) -> ∀ (s₆ : Shared) (ys' : Array Value), Sm s₂ s₆ -> (∀ b o, b ≠ D -> h₅.get? b = some o -> s₆.heap.get? b = some o) -> s₆.heap.PlainList D ys' -> ys'.size ≤ j + 1 -> Made F Z s₆.heap ys'.toList (vals (os.take (j + 1))) ->
          ∃ m, m < ds.length + 1 - j ∧ CoI F Z St D (cEnv scope cl Cc env) (cNew scope Cc) wr ds os s₂ m s₆ := fun hno s₆ ys' sm₆ hk₆ hl₆ hs₆ hm₆ =>
        ⟨ds.length + 1 - (j + 1), by omega, ⟨j + 1, ys', hne.succ ho hno, sm₆, rfl, hlt, it.frame _ _ _ hst₅ (fun b hb o e => hk₆ b o (fun z => hDf (z ▸ hb)) e), hl₆, hs₆, hcv₅.at (fun b o hb e => hk₆ b o (fun z => hDV (z ▸ hb)) e), hm₆, fun b o hw e => hk₆ b o (fun z => by rw [z, hnD] at e; cases e) (k25 b o hw e)⟩⟩
      have ex : vals (os.take (j + 1)) = vals (os.take j) ++ o.val?.toList := by
        rw [List.take_add_one, ho]
        unfold vals
        rw [List.filterMap_append]
        cases o <;> rfl
      refine hel j d o Cc _ (fun b => F b ∨ (hD.get? b = none ∧ ∃ o, h₅.get? b = some o)) _ _ _ hd ho hne ⟨vs, es, (rvs.weak fun a q => q.imp id fun q => q.1).keeps kD5, hhas, hes⟩ ks hF' (fun a q => ?_) (fun s₆ hs k6 => ?_) (fun r y s₆ hr k6 v6 => ?_) fun c e s₆ hc x6 => hXE D Cc _ _ e s₆ hnD hnC hcv₅.ns.choose_spec (sm.puts _ _) (fun b o hw e => k25 b o hw e) x6
      . rcases q with q | q
        . obtain ⟨o, ho⟩ := al a q
          exact ⟨o, ks a o ho⟩
        . exact q.2
      . subst hs
        refine hjn nofun _ ys ((sm.puts _ _).trans k6.sm) (fun b o ζ e => k6.heap b o e) (let ⟨n, ho⟩ := hlD5; ⟨n, k6.heap D _ ho⟩) (Nat.le_succ_of_le hys) ?_
        rw [ex, show COut.skip.val?.toList = [] from rfl, List.append_nil]
        exact m5.frame fun b o vs n ζ e ζ => k6.heap b o e
      . subst hr
        have hl6 : s₆.heap.PlainList D ys := let ⟨n, ho⟩ := hlD5; ⟨n, k6.heap D _ ho⟩
        refine wpAny_list_append_plain hl6 (fun h₇ hl7 hs7 => hjn nofun _ (ys.push y) (((sm.puts _ _).trans k6.sm).puts _ _) (fun b o e1 e => hs7.extBut b o e1 (k6.heap b o e)) hl7 (by rw [Array.size_push]; exact Nat.succ_le_succ hys) ?_) (lenLim_size (Nat.le_trans hys (Nat.le_trans hj it.size)))
        have m6 := m5.snoc (h' := s₆.heap) (y := y) (r := r) k6.heap (fun b hb => ⟨zn b hb, zo b hb⟩) v6.1
        rw [ex, Array.toList_push]
        exact m6.frame fun b o vs n e1 e ζ => hs7.extBut b o (fun z => e1 (z ▸ zD)) e
    . have hin : j = ds.length := by omega
      try clear kD2
      try clear hVD
      try clear hDf
      try clear hVf
      try clear hDV
      try clear zD
      try clear zV
      try clear zn
      try clear s'
      try clear j
      try clear hj
      try clear hys
      try clear d
      try clear hd
      try clear ds
      try clear some
      try clear os
      try clear hst₄
      try clear hk₄
      try clear k34
      try clear comps
      try clear es
      try clear hes
      try clear h₅
      try clear tk₅
      try clear hcv₅
      try clear rvs
      try clear hhas
      try clear hk₅
      try clear k5
      try clear k25
      try clear kD5
      try clear ks
      try clear hst₅
      try clear hlD5
      try clear zo
      try clear m5
      try clear hF
      try clear hjn
      try clear ex
      subst hin
      refine it.done _ _ _ hstj fun h₃ tk₃ hk₃ => ?_
      obtain ⟨m', hns⟩ := hcv.ns
      refine hRR D Cc _ m' ys hnD hnC hDC (sm.puts h₃ tk₃) (hns.at' fun o e => hk₃ _ o (hVw _ (.inl rfl)) e) ?_ ?_ (fun b o e1 e2 => hk₃ b o e1 (hkp b o e1 e2)) (hlen ▸ hne)
      . obtain ⟨n, ho⟩ := hl
        exact ⟨n, hk₃ D _ hDw ho⟩
      . rw [List.take_of_length_le (by omega)] at hmade
        rw [hZ]
        exact hmade.frame fun b o vs n e1 e e2 => hk₃ b o (fun hw => e1 (zw b hw)) e
  exact codeAny_compStart_list (loop _ rfl) (it.self 0 _ _ _ hst₁ (loop _ rfl))
end
end Mine
end
section
set_option maxRecDepth 100000
namespace Mine
open PySem PyProof.Rows
noncomputable def clL (env : Env) (names : List (Str × NameKind)) (acc : List (Str × Addr)) : List (Str × Addr) :=
  names.foldl (fun acc y => if y.2 == .free then (y.1, (env.cells.lookup y.1).getD 0) :: acc else acc) acc
theorem closure_go {env : Env} : ∀ (names : List (Str × NameKind)) (acc : List (Str × Addr)), (∀ y ∈ names, y.2 = .free -> ∃ c, env.cells.lookup y.1 = some c) ->
    (forIn names acc fun (x : Str × NameKind) (cs : List (Str × Addr)) => if (x.2 == NameKind.free) = true then (do let a ← cellOf env x.1; pure (ForInStep.yield ((x.1, a) :: cs))) else pure (ForInStep.yield cs) : Sem _) = pure (clL env names acc)
  | [], acc, _ => rfl
  | (n, k) :: r, acc, h => by
    rw [List.forIn_cons]
    have ih := fun acc => closure_go r acc fun y hy => h y (.tail _ hy)
    by_cases hk : (k == NameKind.free) = true
    . obtain ⟨c, hc⟩ := h (n, k) (.head _) (by simpa using hk)
      have e : cellOf env n = pure c := by unfold cellOf; rw [show env.cells.lookup n = some c from hc]
      simp only [hk, if_true, e]
      refine (ih _).trans ?_
      simp only [clL, List.foldl_cons, hk, if_true]
      rw [show env.cells.lookup n = some c from hc]
      rfl
    . simp only [hk]
      refine (ih _).trans ?_
      simp only [clL, List.foldl_cons, hk]
      rfl
theorem closure_ok {env : Env} {scope : Scope} (h : ∀ y ∈ scope.names, y.2 = .free -> ∃ c, env.cells.lookup y.1 = some c) : closureFor scope env = pure (clL env scope.names []) := by
  unfold closureFor
  have := closure_go scope.names [] h
  simp only [bind_pure]
  rw [← this]
theorem clL_lookup {env : Env} : ∀ (names : List (Str × NameKind)) (acc : List (Str × Addr)) (y : Str),
    (clL env names acc).lookup y = if names.any (fun z => z.1 == y && z.2 == .free) then some ((env.cells.lookup y).getD 0) else acc.lookup y
  | [], acc, y => by simp [clL]
  | (n, k) :: r, acc, y => by
    have ih := clL_lookup (env := env) r
    simp only [clL, List.foldl_cons] at ih ⊢
    rw [ih]
    simp only [List.any_cons]
    by_cases h1 : (r.any fun z => z.1 == y && z.2 == .free) = true
    . simp [h1]
    . simp only [h1, Bool.or_false, Bool.false_eq_true, if_false]
      by_cases hk : (k == NameKind.free) = true
      . simp only [hk, if_true, Bool.and_true]
        by_cases hn : n = y
        . subst hn; simp [List.lookup_cons]
        . have e1 : (n == y) = false := by simpa using hn
          have e2 : (y == n) = false := by simpa using Ne.symm hn
          simp [List.lookup_cons, e1, e2]
      . simp [hk]
theorem mem_freeNames {sc : Scope} {y : Str} : y ∈ freeNames sc ↔ (y, NameKind.free) ∈ sc.names := by
  unfold freeNames
  constructor
  . intro h
    refine cps fun Gq goq => ?_
    obtain ⟨⟨n, k⟩, h1, h2⟩ := List.mem_map.mp h
    obtain ⟨h3, h4⟩ := List.mem_filter.mp h1
    refine goq ?_
    clear goq
    clear Gq
    simp at h4 h2
    subst h4 h2
    exact h3
  . intro h
    exact List.mem_map.mpr ⟨_, List.mem_filter.mpr ⟨h, by simp⟩, rfl⟩
theorem relabel_kind {env : Env} : ∀ {names : List (Str × NameKind)} {x : Str} {k : NameKind}, names.lookup x = some k ->
    (names.map fun (n, k) => if (k == NameKind.free && env.scope.kind == .function && env.kindOf n == some .cell) then (n, NameKind.cell) else (n, k)).lookup x =
      some (if (k == NameKind.free && env.scope.kind == .function && env.kindOf x == some .cell) then NameKind.cell else k)
  | [], _, _, h => by simp at h
  | (n, k) :: r, x, k', h => by
    have ih := @relabel_kind env r x k'
    show List.lookup x ((if (k == NameKind.free && env.scope.kind == .function && env.kindOf n == some .cell) = true then (n, NameKind.cell) else (n, k)) :: _) = _
    cases hx : x == n with
    | true =>
      have hx' := eq_of_beq hx
      subst hx'
      simp only [List.lookup_cons, hx] at h
      replace h := Option.some.inj h
      subst h
      by_cases hc : (k == NameKind.free && env.scope.kind == .function && env.kindOf x == some .cell) = true
      . rw [if_pos hc, if_pos hc]; simp [List.lookup_cons]
      . rw [if_neg hc, if_neg hc]; simp [List.lookup_cons]
    | false =>
      simp only [List.lookup_cons, hx] at h
      by_cases hc : (k == NameKind.free && env.scope.kind == .function && env.kindOf n == some .cell) = true
      . rw [if_pos hc]; simp only [List.lookup_cons, hx]; exact ih h
      . rw [if_neg hc]; simp only [List.lookup_cons, hx]; exact ih h
theorem nc_mem : ∀ {names : List (Str × NameKind)} {n : Nat} {x : Str} {c : Addr}, (x, c) ∈ cellsFrom n names [] -> (x, NameKind.cell) ∈ names
  | (y, k) :: r, n, x, c, h => by
    unfold cellsFrom at h
    split at h
    . rename_i hk
      rw [cellsFrom_app] at h
      rcases List.mem_append.mp h with h | h
      . exact .tail _ (nc_mem h)
      . cases h with
        | head => rw [eq_of_beq hk]; exact .head _
        | tail _ h => cases h
    . exact .tail _ (nc_mem h)
theorem nc_has : ∀ {names : List (Str × NameKind)} {n : Nat} {x : Str}, (x, NameKind.cell) ∈ names -> ∃ c, (cellsFrom n names []).lookup x = some c
  | (y, k) :: r, n, x, h => by
    unfold cellsFrom
    cases h with
    | head =>
      rw [if_pos (by rfl), cellsFrom_app, List.lookup_append]
      cases (cellsFrom (n + 1) r []).lookup y with
      | some c => exact ⟨c, rfl⟩
      | none => exact ⟨n, by simp [List.lookup_cons]⟩
    | tail _ h =>
      split
      . rw [cellsFrom_app, List.lookup_append]
        obtain ⟨c, hc⟩ := nc_has (n := n + 1) h
        exact ⟨c, by rw [hc]; rfl⟩
      . exact nc_has h
structure CompOk (C : Ctx) (xs : List Str) (sc : Scope) : Prop where
  kind : sc.kind = .function
  cell : ∀ y ∈ sc.names, y.2 = .cell -> y.1 ∈ xs
  names : ∀ y ∈ sc.names, y.2 = .local -> sc.names.lookup y.1 = some .local
  tg : ∀ x ∈ xs, (sc.names.lookup x = some .local ∧ ∀ y ∈ sc.names, y.2 = .cell -> y.1 ≠ x) ∨ sc.names.lookup x = some .cell
  free : ∀ y ∈ freeNames sc, y ∈ C.cn ∧ (y == ("__classdict__" : Str)) = false ∧ sc.names.lookup y = some .free
  apart : ∀ x ∈ xs, x ∉ freeNames sc
  nd : ∀ p, two xs = some p -> p.1.1 ≠ p.1.2
theorem CompOk.of {C : Ctx} {xs : List Str} {sc : Scope} (h : compOk C xs sc = true) : CompOk C xs sc := by
  unfold compOk at h
  simp only [Bool.and_eq_true, List.all_eq_true, Bool.or_eq_true, bne_iff_ne, beq_iff_eq, List.contains_iff_mem, Bool.not_eq_true', ne_eq] at h
  refine cps fun Gq goq => ?_
  obtain ⟨⟨⟨⟨⟨⟨h1, h2⟩, h3⟩, h4⟩, h5⟩, h6⟩, h7⟩ := h
  refine goq ?_
  clear goq
  clear Gq
  refine ⟨h1, fun y hy e => (h2 y hy).resolve_left (fun q => q e), fun y hy e => (h3 y hy).resolve_left (fun q => q e), fun x hx => (h4 x hx).imp (fun q => ⟨q.1, fun y hy e => (q.2 y hy).resolve_left (fun q => q e)⟩) id, fun y hy => ?_, fun x hx => by simpa using h6 x hx, fun p hp => ?_⟩
  . obtain ⟨⟨a, b⟩, c⟩ := h5 y hy
    exact ⟨a, by simpa using b, c⟩
  . rw [hp] at h7
    simpa using h7
theorem TgtE.nodup {C : Ctx} {tg : PySem.Expr} {xs : List Str} {sc : Scope} (t : TgtE tg xs) (c : CompOk C xs sc) : xs.Nodup := by
  cases t with
  | one => simp
  | two x p y q k pos => simpa using c.nd ⟨(x, y), rfl⟩ rfl
theorem comp_closure {C : Ctx} {xs : List Str} {sc : Scope} {env : Env} {γ : Env'} {F : Addr -> Prop} {h : Heap} (c : CompOk C xs sc) (e : EnvOK C env γ F h) : closureFor sc env = pure (clL env sc.names []) :=
  closure_ok fun y hy hk => e.cells y.1 (c.free y.1 (mem_freeNames.mpr (by obtain ⟨n, k⟩ := y; simp at hk; subst hk; exact hy))).1
theorem cl_free {C : Ctx} {xs : List Str} {sc : Scope} {env : Env} {γ : Env'} {F : Addr -> Prop} {h : Heap} (c : CompOk C xs sc) (e : EnvOK C env γ F h) {y : Str} (hy : y ∈ freeNames sc) : (clL env sc.names []).lookup y = env.cells.lookup y := by
  rw [clL_lookup, if_pos]
  . obtain ⟨a, ha⟩ := e.cells y (c.free y hy).1
    rw [ha]; rfl
  . rw [List.any_eq_true]
    exact ⟨_, mem_freeNames.mp hy, by simp⟩
theorem cl_not {sc : Scope} {env : Env} {y : Str} (hy : y ∉ freeNames sc) : (clL env sc.names []).lookup y = none := by
  rw [clL_lookup, if_neg]
  . rfl
  . rw [List.any_eq_true]
    rintro ⟨⟨n, k⟩, h1, h2⟩
    simp at h2
    obtain ⟨rfl, rfl⟩ := h2
    exact hy (mem_freeNames.mpr h1)
theorem nc_none {names : List (Str × NameKind)} {n : Nat} {x : Str} (h : ∀ y ∈ names, y.2 = .cell -> y.1 ≠ x) : (cellsFrom n names []).lookup x = none := by
  cases e : (cellsFrom n names []).lookup x with
  | none => rfl
  | some c => exact absurd rfl (h _ (nc_mem (mem_of_lookup e)) rfl)
theorem cs_lookup {sc : Scope} {env : Env} {Cc : Addr} (x : Str) : (cellsFrom (Cc + 1) sc.names (clL env sc.names [])).lookup x = ((cNew sc Cc).lookup x).or ((clL env sc.names []).lookup x) := by
  rw [cellsFrom_app, List.lookup_append]
theorem comp_tg {C : Ctx} {xs : List Str} {sc : Scope} {env : Env} (c : CompOk C xs sc) (Cc : Addr) : ∀ x ∈ xs, TG (cEnv sc (clL env sc.names []) Cc env) (cNew sc Cc) x := fun x hx => by
  rcases c.tg x hx with ⟨h1, h2⟩ | h1
  . refine .inl ⟨lookup_relabel_local h1, ?_⟩
    show (cellsFrom (Cc + 1) sc.names (clL env sc.names [])).lookup x = none
    rw [cs_lookup, nc_none h2, cl_not (c.apart x hx)]; rfl
  . obtain ⟨a, ha⟩ := nc_has (n := Cc + 1) (mem_of_lookup h1)
    refine .inr ⟨?_, a, ?_, mem_of_lookup ha⟩
    . show (relabel sc env).names.lookup x = _
      unfold relabel
      rw [relabel_kind h1]
      rfl
    . show (cellsFrom (Cc + 1) sc.names (clL env sc.names [])).lookup x = _
      rw [cs_lookup, ha]; rfl
theorem comp_env {C : Ctx} {xs : List Str} {sc : Scope} {env : Env} {γ g : Env'} {F F' : Addr -> Prop} {h h₃ : Heap} {Cc : Addr} {d : PyData} (c : CompOk C xs sc) (e : EnvOK C env γ F h)
    (hb : bindC xs.length d γ = some g) (hd : Holds' xs (cEnv sc (clL env sc.names []) Cc env) F' h₃ d) (hk : KeepsH h h₃) (hF : ∀ a, F' a -> F a ∨ h.get? a = none) :
    EnvOK (compCtx C xs sc) (cEnv sc (clL env sc.names []) Cc env) g F' h₃ := by
  refine cps fun Gq goq => ?_
  obtain ⟨vs, ds, rd, hh, hds⟩ := hd
  refine goq ?_
  clear goq
  clear Gq
  have hg : g = ds.map Slot.pl ++ γ ∧ ds.length = xs.length := by
    rcases hds with ⟨h1, rfl⟩ | ⟨h1, h2, rfl⟩
    . unfold bindC at hb
      rw [if_pos h1] at hb
      replace hb := Option.some.inj hb
      subst hb
      exact ⟨rfl, h1.symm⟩
    . unfold bindC at hb
      rw [if_neg (by omega)] at hb
      replace hb : (if ds.length = xs.length then some (ds.map Slot.pl ++ γ) else none) = some g := hb
      rw [if_pos (by omega)] at hb
      replace hb := Option.some.inj hb
      subst hb
      exact ⟨rfl, by omega⟩
  obtain ⟨rfl, hl⟩ := hg
  have fr : ∀ y ∈ freeNames sc, (cellsFrom (Cc + 1) sc.names (clL env sc.names [])).lookup y = env.cells.lookup y := fun y hy => by
    rw [cs_lookup, nc_none (fun z hz hc e => c.apart z.1 (c.cell z hz hc) (e ▸ hy)), cl_free c e hy]; rfl
  refine ⟨c.kind, fun y hy => ?_, e.gl, e.bl, fun y hy => ?_, fun i y d' h1 h2 => ?_⟩
  . have hy' : sc.names.lookup y = some .globalImplicit := by simpa [Ctx.glob, compCtx] using hy
    show (relabel sc env).names.lookup y = _
    unfold relabel
    rw [relabel_kind hy']
    rfl
  . show ∃ a, (cellsFrom (Cc + 1) sc.names (clL env sc.names [])).lookup y = some a
    rcases List.mem_append.mp (show y ∈ freeNames sc ++ cellNames sc from hy) with hy | hy
    . obtain ⟨a, ha⟩ := e.cells y (c.free y hy).1
      exact ⟨a, by rw [fr y hy, ha]⟩
    . have : (y, NameKind.cell) ∈ sc.names := by
        refine cps fun Gq goq => ?_
        obtain ⟨⟨n, k⟩, h1, h2⟩ := List.mem_map.mp hy
        obtain ⟨h3, h4⟩ := List.mem_filter.mp h1
        refine goq ?_
        clear goq
        clear Gq
        simp at h4 h2
        subst h4 h2
        exact h3
      obtain ⟨a, ha⟩ := nc_has (n := Cc + 1) this
      exact ⟨a, by rw [cs_lookup, ha]; rfl⟩
  . replace h1 : (xs.map some ++ C.ns.map (fun n => n.filter fun y => (freeNames sc).contains y && !xs.contains y))[i]? = some (some y) := h1
    by_cases hi : i < xs.length
    . rw [List.getElem?_append_left (by simpa using hi), List.getElem?_map] at h1
      rw [List.getElem?_append_left (by simp; omega), List.getElem?_map] at h2
      refine cps fun Gq goq => ?_
      obtain ⟨x, q1, q2⟩ := Option.map_eq_some_iff.mp h1
      cases q2
      obtain ⟨x', q3, q4⟩ := Option.map_eq_some_iff.mp h2
      cases q4
      obtain ⟨v, q5, q6⟩ := rd.get q3
      refine goq ?_
      clear goq
      clear Gq
      exact ⟨v, hh i y v q1 q5, q6⟩
    . rw [List.getElem?_append_right (by simpa using hi), List.getElem?_map] at h1
      rw [List.getElem?_append_right (by simp; omega)] at h2
      simp only [List.length_map, hl] at h1 h2
      refine cps fun Gq goq => ?_
      obtain ⟨n, h3, h4⟩ := Option.map_eq_some_iff.mp h1
      obtain ⟨rfl, h5⟩ := Option.filter_eq_some_iff.mp h4
      simp only [Bool.and_eq_true, List.contains_iff_mem] at h5
      obtain ⟨u, hu, ru⟩ := e.slots _ y d' h3 h2
      refine goq ?_
      clear goq
      clear Gq
      refine ⟨u, .inr ?_, (ru.weak hF).keeps hk⟩
      have hf := c.free y h5.1
      have hc : ∃ a, env.cells.lookup y = some a ∧ h.IsCell a (some u) := by
        rcases hu with ⟨_, q, _⟩ | ⟨_, a, q1, q2⟩
        . obtain ⟨a, ha⟩ := e.cells y hf.1
          rw [q] at ha; cases ha
        . exact ⟨a, q1, q2⟩
      obtain ⟨a, q1, q2⟩ := hc
      refine ⟨?_, a, by show (cellsFrom (Cc + 1) sc.names (clL env sc.names [])).lookup y = _; rw [fr y h5.1, q1], q2.keeps hk⟩
      show (relabel sc env).names.lookup y = _ ∨ (relabel sc env).names.lookup y = _ ∧ _
      unfold relabel
      rw [relabel_kind hf.2.2]
      by_cases hq : (NameKind.free == NameKind.free && env.scope.kind == .function && env.kindOf y == some .cell) = true
      . rw [if_pos hq]; exact .inl rfl
      . rw [if_neg hq]; exact .inr ⟨rfl, hf.2.1⟩
end Mine
end
section
set_option maxRecDepth 100000
namespace Mine
open PySem PyProof.Rows
noncomputable abbrev EPost (F : Addr -> Prop) (s : Shared) (r : PyData × Nat) (Q : Value -> Shared -> Prop) : Prop := ∀ v s', Keeps s s' -> Val F s.heap s'.heap v r -> Q v s'
theorem bind_some {α β : Type} {x : Option α} {f : α -> Option β} {r : β} (h : x.bind f = some r) : ∃ a, x = some a ∧ f a = some r := Option.bind_eq_some_iff.mp h
theorem bind_someE {α β : Type} {x : Option α} {f : α -> Option β} {r : β} {R : Prop} (h : x.bind f = some r) (k : ∀ a, x = some a -> f a = some r -> R) : R := let ⟨a, p, q⟩ := bind_some h; k a p q
theorem bS {α β : Type} {x : Option α} {f : α -> Option β} {r : β} {R : Prop} (k : ∀ a, x = some a -> f a = some r -> R) (h : x.bind f = some r) : R := bind_someE h k
section
variable {G : GCtx} {Φ : Funs} {k : Nat}
theorem slot_ns {C : Ctx} {x : Str} {i : Nat} (h : C.slot x = some i) : C.ns[i]? = some (some x) := by
  unfold Ctx.slot at h
  obtain ⟨hlt, hp, -⟩ := List.findIdx?_eq_some_iff_getElem.mp h
  rw [List.getElem?_eq_getElem hlt]
  simp at hp
  rw [hp]
theorem var_of {γ : Env'} {i : Nat} {r : PyData × Nat} (h : evE Φ γ (.var i) = some r) : ∃ d, γ[i]? = some (.pl d) ∧ r = (d, 0) := by
  replace h : (match γ[i]? with | some (.pl d) => some (d, 0) | _ => none) = some r := h
  cases q : γ[i]? with
  | none => rw [q] at h; cases h
  | some sl =>
    rw [q] at h
    cases sl with
    | pl d => cases h; exact ⟨d, rfl, rfl⟩
    | _ => cases h
theorem sndName {C : Ctx} {x : Str} {pos : Pos} {pe : PE} (h : cName C x = some pe) {γ : Env'} {A : Around} {env : Env} {F : Addr -> Prop} {s : Shared} {r : PyData × Nat} {Q E : Value -> Shared -> Prop}
    (hH : H G Φ k C γ A env F s) (he : evE Φ γ pe = some r) (hQ : EPost F s r Q) : wpAny (model G.prog G.w) A (eval (.Name x pos) env) Q E s := by
  unfold cName at h
  split at h
  . cases h
  rename_i hd
  revert h
  refine bS fun i hi h => ?_
  replace h := Option.some.inj h
  subst h
  obtain ⟨d, hd', rfl⟩ := var_of he
  obtain ⟨v, hv, rv⟩ := hH.env.slots i x d (slot_ns hi) hd'
  exact name_has hH.env.kind hv (hQ _ _ (Keeps.refl s) (.of rv)) (by simpa using hd)
theorem sndConst {c : Const} {kk : Nat} {pos : Pos} {d : PyData} (h : cConst c = some d) {A : Around} {env : Env} {F : Addr -> Prop} {s : Shared} {Q E : Value -> Shared -> Prop}
    (hQ : EPost F s (d, 0) Q) : wpAny (model G.prog G.w) A (eval (.Constant c kk pos) env) Q E s := by
  cases c with
  | none => cases h; exact wpAny_Constant_none (hQ _ _ (Keeps.refl s) (.of .none))
  | bool b => cases h; exact wpAny_Constant_bool (hQ _ _ (Keeps.refl s) (.of (.bool _)))
  | int i => cases h; exact wpAny_Constant_int (hQ _ _ (Keeps.tok _ _) (.of (.int _ _)))
  | str x =>
    obtain ⟨_, h⟩ := ifB0 (show (if x.length ≤ lenLim then some (PyData.str x) else none) = some d from h)
    replace h := Option.some.inj h
    subst h
    exact Calls.Constant_str (hQ _ _ (Keeps.tok _ _) (.of (.str _ _)))
  | _ => cases h
end
section
variable {prog : Program} {w : World} {A : Around} {F : Addr -> Prop} {s : Shared} {Q E : Value -> Shared -> Prop}
theorem slice_sound {x lo hi : PyData} {r : PyData × Nat} (hr : slD x lo hi = some r) {a vl vu : Value} (ra : RD s.heap F a x) (rl : RD s.heap F vl lo) (rh : RD s.heap F vu hi) (al : Alloc F s.heap)
    (h : ∀ v s', Keeps s s' -> Val F s.heap s'.heap v r -> Q v s') :
    ∃ l items lo hi, a = .ref l ∧ s.heap.IsList l items ∧ items.size ≤ sizeLine ∧ IsPart vl lo ∧ IsPart vu hi ∧
        Q (.ref (s.heap.objs.size + 1)) { s with heap := (s.heap.push { cls := .type "slice", data := .fields #[vl, vu, .none] }).push { cls := .type "list", data := .seq (slicePick items lo hi none) } } := by
  cases x with
  | list xs =>
    replace hr : ((slBound lo).bind fun l => (slBound hi).bind fun h => if xs.length ≤ lenLim then slM xs l h else none) = some r := hr
    revert hr
    refine bS fun pl h1 hr => ?_
    revert hr
    refine bS fun ph h2 hr => ?_
    split at hr
    . rename_i hsz
      refine cps fun Gq goq => ?_
      obtain ⟨l, vs, rfl, hl, -, rvs⟩ := ra.list_inv
      refine goq ?_
      clear goq
      clear Gq
      have e := rvs.length
      simp only [Array.length_toList] at e
      have part : ∀ {v : Value} {d : PyData} {p : Option Nat}, RD s.heap F v d -> slBound d = some p -> IsPart v (p.map fun n => (n : Int)) := by
        intro v d p rd hp
        cases d with
        | none => cases hp; rw [rd.none_inv]; exact .none
        | int i =>
          obtain ⟨hi, hp⟩ := ifB0 (show (if (0 ≤ i && i < lenLim) = true then some (some i.toNat) else none) = some p from hp)
          replace hp := Option.some.inj hp
          subst hp
          simp only [Bool.and_eq_true, decide_eq_true_eq] at hi
          obtain ⟨t, rfl⟩ := rd.int_inv
          show IsPart _ (some (i.toNat : Int))
          rw [Int.toNat_of_nonneg hi.1]
          exact .int _ _
        | _ => cases hp
      refine ⟨l, vs, _, _, rfl, hl.isList, lenLim_size (by first | assumption | decide | exact Nat.le_of_lt ‹_› | exact Nat.le_trans ‹_› (by decide) | exact Nat.lt_of_lt_of_le ‹_› (by decide) | omega), part rl h1, part rh h2, h _ _ (.put s _ fun ζ ζ e => Heap.get?_push_of_some _ (Heap.get?_push_of_some _ e)) ?_⟩
      have go : ∀ {ws : List Value} {ys : List PyData}, slicePick vs (pl.map fun n => (n : Int)) (ph.map fun n => (n : Int)) none = ws.toArray -> RDs s.heap F ws ys -> r = (.list ys, 1) ->
          Val F s.heap ((s.heap.push { cls := .type "slice", data := .fields #[vl, vu, .none] }).push { cls := .type "list", data := .seq (slicePick vs (pl.map fun n => (n : Int)) (ph.map fun n => (n : Int)) none) }) (.ref (s.heap.objs.size + 1)) r := by
        intro ws ys e1 e2 e3
        subst e3
        rw [e1]
        have k1 : KeepsH s.heap (s.heap.push { cls := .type "slice", data := .fields #[vl, vu, .none] }) := fun ζ ζ e => Heap.get?_push_of_some _ e
        have := Val.pushList (al.keeps k1) (e2.keeps k1)
        rw [Heap.size_push] at this
        exact this.back k1
      cases pl with
      | none =>
        cases ph with
        | none => cases hr; exact go (ws := vs.toList) (by show slicePick vs none none none = _; rw [slicePick_all]) rvs rfl
        | some b => cases hr; exact go (ws := vs.toList.take b) (slicePick_upto' vs b) (rvs.take b) rfl
      | some a =>
        cases ph with
        | none => cases hr; exact go (ws := vs.toList.drop a) (slicePick_from' vs a) (rvs.drop a) rfl
        | some b => cases hr
    . cases hr
  | _ => cases hr
end
section
variable {G : GCtx} {Φ : Funs} {k : Nat}
theorem fn_of {C : Ctx} {f : Str} {j : Nat} (h : C.fn f = some j) : C.glob f = true ∧ (f == ("__debug__" : Str)) = false ∧ C.fns[j]? = some f := by
  unfold Ctx.fn at h
  split at h
  . rename_i hg
    obtain ⟨hlt, hp, -⟩ := List.findIdx?_eq_some_iff_getElem.mp h
    simp only [Bool.and_eq_true] at hg
    refine ⟨hg.1, by simpa using hg.2, ?_⟩
    rw [List.getElem?_eq_getElem hlt]
    simp at hp
    rw [hp]
  . cases h
theorem call_fn {C : Ctx} {f : Str} {j : Nat} {γ : Env'} {A : Around} {env : Env} {F : Addr -> Prop} {s : Shared} (hf : C.fn f = some j) (hH : H G Φ k C γ A env F s) :
    ∃ a o fd, G.mg f = some (.ref a) ∧ G.hB.get? a = some o ∧ o.data = .func fd ∧
      ∀ (s₁ : Shared) (vs : List Value) (xs : List PyData) (out : Out) (Q E : Value -> Shared -> Prop), Keeps s s₁ -> RDs s₁.heap F vs xs -> Φ j xs = some out -> j < 1000 ->
        (∀ d l, out = .ret d l -> ∀ v s', Keeps s₁ s' -> Val F s₁.heap s'.heap v (d, l) -> Q v s') -> (∀ c, out = .exc c -> ∀ e s', ExcPost G A c e s₁ s' -> E e s') ->
        wpAny (model G.prog G.w) A (call (.ref a) vs) Q E s₁ := by
  refine cps fun Gq goq => ?_
  obtain ⟨_, _, hj⟩ := fn_of hf
  rw [hH.cg.fns, List.getElem?_map] at hj
  obtain ⟨pf, hpf, hn⟩ := Option.map_eq_some_iff.mp hj
  obtain ⟨a, o, fd, h1, h2, h3⟩ := hH.g.fn j pf hpf
  refine goq ?_
  clear goq
  clear Gq
  rw [hn] at h1
  refine ⟨a, o, fd, h1, h2, h3, fun s₁ vs xs out Q E hk hr hΦ hlt hQ hE => ?_⟩
  obtain ⟨hlt, real⟩ := hH.real.1 j xs out hΦ hlt
  have hH' := hH.keeps hk
  have ok : Ok G (j + 1) A s₁ := ⟨hH'.ok.hh, by have := hH'.ok.dp; omega, by have := hH'.ok.un; omega, hH'.ok.kb, hH'.ok.fr⟩
  exact real pf a hpf (hn ▸ h1) A s₁ F vs Q E ok hH'.al hr hQ hE
theorem bltin_debug {x : Str} {v : Value} (h : bltin.lookup x = some v) : (x == ("__debug__" : Str)) = false := by
  cases hx : x == ("__debug__" : Str) with
  | false => rfl
  | true =>
    have := eq_of_beq hx
    subst this
    have e : bltin.lookup ("__debug__" : Str) = none := by decide +kernel
    rw [e] at h; cases h
end
theorem lenLim_eq : lenLim = 1048576 := by decide
theorem okR_of {a b : Int} (h : okR a b = true) : a.natAbs ≤ 1048576 ∧ b.natAbs ≤ 1048576 := by
  unfold okR at h
  simp only [Bool.and_eq_true, decide_eq_true_eq, lenLim_eq] at h
  exact h
section
variable {G : GCtx} {Φ : Funs} {k : Nat} {C : Ctx} {γ : Env'} {A : Around} {env : Env} {F : Addr -> Prop} {s : Shared} {Q E : Value -> Shared -> Prop}
theorem iter_r1 {b : Int} {t : Tok} {s₁ : Shared} (hh : A.handled = none) (ok : okR 0 b = true) (hk : Keeps s s₁)
    (h : ∀ hD I fp wr St Mid s', Iter G A F false (rangeL 0 b) s s' hD I fp wr St Mid -> Q (.ref I) s') :
    wpAny (model G.prog G.w) A (call (.type "range") [.int b t]) (fun x s₂ => wpAny (model G.prog G.w) A (pyIter x) Q E s₂) E s₁ := by
  obtain ⟨_, h2⟩ := okR_of ok
  refine call_range_1 (iter_range (F := F) (n := b.toNat) (xs := rangeL 0 b) hh ?_ ?_ ?_ (small_one (by first | assumption | decide | exact Nat.le_of_lt ‹_› | exact Nat.le_trans ‹_› (by decide) | exact Nat.lt_of_lt_of_le ‹_› (by decide) | omega) (by first | assumption | decide | exact Nat.le_of_lt ‹_› | exact Nat.le_trans ‹_› (by decide) | exact Nat.lt_of_lt_of_le ‹_› (by decide) | omega) (by first | assumption | decide | exact Nat.le_of_lt ‹_› | exact Nat.le_trans ‹_› (by decide) | exact Nat.lt_of_lt_of_le ‹_› (by decide) | omega) (by first | assumption | decide | exact Nat.le_of_lt ‹_› | exact Nat.le_trans ‹_› (by decide) | exact Nat.lt_of_lt_of_le ‹_› (by decide) | omega)) fun hD I fp wr St Mid s' it => h hD I fp wr St Mid s' (it.back hk))
  . unfold rangeL; simp
  . rw [rangeSize_up]; simp
  . rw [lenLim_eq]; omega
theorem iter_r2 {a b : Int} {t u : Tok} {s₁ : Shared} (hh : A.handled = none) (ok : okR a b = true) (hk : Keeps s s₁) (hl : (b - a).toNat ≤ lenLim)
    (h : ∀ hD I fp wr St Mid s', Iter G A F false (rangeL a b) s s' hD I fp wr St Mid -> Q (.ref I) s') :
    wpAny (model G.prog G.w) A (call (.type "range") [.int a t, .int b u]) (fun x s₂ => wpAny (model G.prog G.w) A (pyIter x) Q E s₂) E s₁ := by
  obtain ⟨h1, h2⟩ := okR_of ok
  refine call_range_2 (iter_range (F := F) (n := (b - a).toNat) (xs := rangeL a b) hh ?_ (rangeSize_up a b) hl (small_one (by first | assumption | decide | exact Nat.le_of_lt ‹_› | exact Nat.le_trans ‹_› (by decide) | exact Nat.lt_of_lt_of_le ‹_› (by decide) | omega) (by first | assumption | decide | exact Nat.le_of_lt ‹_› | exact Nat.le_trans ‹_› (by decide) | exact Nat.lt_of_lt_of_le ‹_› (by decide) | omega) (by first | assumption | decide | exact Nat.le_of_lt ‹_› | exact Nat.le_trans ‹_› (by decide) | exact Nat.lt_of_lt_of_le ‹_› (by decide) | omega) (by first | assumption | decide | exact Nat.le_of_lt ‹_› | exact Nat.le_trans ‹_› (by decide) | exact Nat.lt_of_lt_of_le ‹_› (by decide) | omega)) fun hD I fp wr St Mid s' it => h hD I fp wr St Mid s' (it.back hk))
  . unfold rangeL; simp
theorem list_r1 {b : Int} {t : Tok} {s₁ : Shared} (hh : A.handled = none) (al : Alloc F s.heap) (ok : okR 0 b = true) (hk : Keeps s s₁) (hQ : ∀ v s', Keeps s s' -> Val F s.heap s'.heap v (.list (rangeL 0 b), 1) -> Q v s') :
    wpAny (model G.prog G.w) A (call (.type "range") [.int b t]) (fun x s₂ => wpAny (model G.prog G.w) A (call (.type "list") [x]) Q E s₂) E s₁ := by
  obtain ⟨_, h2⟩ := okR_of ok
  refine call_range_1 ?_
  refine call_list_range (n := b.toNat) hh (IsRange.new _ _ _ _ _ _ _) (small_one (by first | assumption | decide | exact Nat.le_of_lt ‹_› | exact Nat.le_trans ‹_› (by decide) | exact Nat.lt_of_lt_of_le ‹_› (by decide) | omega) (by first | assumption | decide | exact Nat.le_of_lt ‹_› | exact Nat.le_trans ‹_› (by decide) | exact Nat.lt_of_lt_of_le ‹_› (by decide) | omega) (by first | assumption | decide | exact Nat.le_of_lt ‹_› | exact Nat.le_trans ‹_› (by decide) | exact Nat.lt_of_lt_of_le ‹_› (by decide) | omega) (by first | assumption | decide | exact Nat.le_of_lt ‹_› | exact Nat.le_trans ‹_› (by decide) | exact Nat.lt_of_lt_of_le ‹_› (by decide) | omega)) (by rw [rangeSize_up]; simp) (by first | assumption | decide | exact Nat.le_of_lt ‹_› | exact Nat.le_trans ‹_› (by decide) | exact Nat.lt_of_lt_of_le ‹_› (by decide) | omega) fun h' tk acc' c' hkk hD hit => ?_
  have k1 : KeepsH s₁.heap h' := fun b o e => hkk b o (Heap.get?_push_of_some _ e)
  have k2 : KeepsH s.heap h' := KeepsH.trans (Keeps.heap hk) k1
  have hn : s₁.heap.get? (s₁.heap.push { cls := .type "range", data := .fields #[.int 0 s₁.toks, .int b t, .int 1 (s₁.toks + 1)] }).objs.size = none := by
    cases e : s₁.heap.get? (s₁.heap.push { cls := .type "range", data := .fields #[.int 0 s₁.toks, .int b t, .int 1 (s₁.toks + 1)] }).objs.size with
    | none => rfl
    | some o => have := Heap.lt_size e; rw [Heap.size_push] at this; exact absurd this (Nat.not_lt.mpr (Nat.le_succ _))
  have hn' := KeepsH.none (Keeps.heap hk) hn
  have rds : ∀ F' : Addr -> Prop, RDs h' F' acc'.toList (rangeL 0 b) := fun F' => by
    refine RDs.of_get ?_ fun i v d h1 h2 => ?_
    . rw [Array.length_toList, hit.1]; simp [rangeL]
    . obtain ⟨t', rfl⟩ := hit.2 i v (by simpa using h1)
      unfold rangeL at h2
      simp only [List.getElem?_map, Option.map_eq_some_iff] at h2
      obtain ⟨j, h3, rfl⟩ := h2
      rw [List.getElem?_range (by have := (List.getElem?_eq_some_iff.mp h3).1; simpa using this)] at h3
      replace h3 := Option.some.inj h3
      subst h3
      have : (0 : Int) + i * 1 = 0 + i := by first | assumption | decide | exact Nat.le_of_lt ‹_› | exact Nat.le_trans ‹_› (by decide) | exact Nat.lt_of_lt_of_le ‹_› (by decide) | omega
      rw [this]
      exact .int _ _
  have kk : Keeps s { s₁ with heap := h', toks := tk } := hk.trans (.put _ _ k1)
  exact hQ _ _ kk ⟨.list ⟨_, hD⟩ (al.fresh hn') (rds F), fun ζ => ⟨_, acc', _, rfl, rfl, hn', ⟨_, hD⟩, rds _⟩⟩
end
end Mine
end
section
set_option maxRecDepth 100000
namespace Mine
open PySem PyProof.Rows PySem.Spec
noncomputable def laid (led : Bool) (l : List (Int × Value)) : Array (Int × Value) × SetTable := l.foldl (fun p e => ((layNew p.2 p.1 e.1 e.2).1, (layNew p.2 p.1 e.1 e.2).2.1)) (#[], .fresh 0 0 led)
theorem laid_snoc (led : Bool) (l : List (Int × Value)) (e : Int × Value) : laid led (l ++ [e]) = ((layNew (laid led l).2 (laid led l).1 e.1 e.2).1, (layNew (laid led l).2 (laid led l).1 e.1 e.2).2.1) := by
  unfold laid
  rw [List.foldl_append]
  rfl
structure LOk (led : Bool) (l : List (Int × Value)) : Prop where
  fits : (laid led l).2.fits (laid led l).1.size = true
  plain : (laid led l).2.plain = true
  isled : (laid led l).2.led = led
  full : (laid led l).2.tooFull = false
  es : (laid led l).1.toList = l
noncomputable def IntV (e : Int × Value) : Prop := hashInt e.1 = e.1 ∧ ∃ t, e.2 = .int e.1 t
noncomputable abbrev setO (es : Array (Int × Value)) (ep : Nat) (t : SetTable) : Obj := { cls := .type "set", dict := none, data := .set es ep t }
section
variable {prog : Program} {w : World} {A : Around} {E : Value -> Shared -> Prop} {s : Shared}
theorem elems_of {l : List (Int × Value)} (h : ∀ e ∈ l, IntV e) : ElemsOf (intKind prog w) l := fun e he => by
  obtain ⟨h1, t, h2⟩ := h e he
  rw [h2]
  exact ⟨⟨e.1, intKind_is _ _ _ _, h1.symm⟩, rfl⟩
theorem absent_of {l : List (Int × Value)} (h : ∀ e ∈ l, IntV e) {n : Int} (hn : ∀ e ∈ l, e.1 ≠ n) : l.findIdx? (fun e => (intKind prog w).is n e.2) = none := List.findIdx?_eq_none_iff.mpr fun e he => by
  obtain ⟨h1, t, h2⟩ := h e he
  rw [h2]
  show Value.isInt n (.int e.1 t) = false
  simp [Value.isInt, hn e he]
theorem add_small {a : Addr} {led : Bool} {l : List (Int × Value)} {ep : Nat} {n : Int} {t : Tok} {Q : Bool -> Shared -> Prop} (ho : s.heap.get? a = some (setO (laid led l).1 ep (laid led l).2)) (k : LOk led l) (k' : LOk led (l ++ [(n, .int n t)])) (hl : l.length ≤ 10) (hi : ∀ e ∈ l, IntV e) (hn : hashInt n = n) (ha : ∀ e ∈ l, e.1 ≠ n)
    (h : ∀ h', Heap.SameBut a s.heap h' -> h'.get? a = some (setO (laid led (l ++ [(n, .int n t)])).1 (ep + 1) (laid led (l ++ [(n, .int n t)])).2) -> Q true { s with heap := h' }) :
    wpAny (model prog w) A (setAddHashed a (.int n t) (hashInt n)) Q E s := by
  have hel : ElemsOf (intKind prog w) (laid led l).1.toList := by rw [k.es]; exact elems_of hi
  have hsz : (laid led l).1.size = l.length := by rw [← Array.length_toList, k.es]
  have hb : (laid led l).1.size < scanBound := by rw [hsz]; unfold scanBound; omega
  have hab : (laid led l).1.toList.findIdx? (fun e => (intKind prog w).is n e.2) = none := by rw [k.es]; exact absent_of hi ha
  have e := laid_snoc led l (n, .int n t)
  have kf := k'.full
  have kp := k'.plain
  have kz : (laid led (l ++ [(n, .int n t)])).1.size = l.length + 1 := by rw [← Array.length_toList, k'.es, List.length_append]; rfl
  rw [e] at kf kp kz h
  clear k' e
  unfold setAddHashed setAddHashedIn
  refine wpAny_holding (wpAny_bind (wpAny_setState_of ho rfl k.fits ?_))
  dsimp only
  rw [byScan_of (knd := intKind prog w) rfl hb hel]
  simp only [↓reduceIte]
  unfold setAddByScan
  refine wpAny_bind ?_
  refine wpAny_bind (wpAny_rule ?_)
  refine wpAny_bind (wpAny_setScan_of (knd := intKind prog w) (intKind_is _ _ _ _) ho rfl k.fits hel ?_)
  rw [hab]
  rw [← hn] at kf kp kz h
  dsimp only at kf kp kz h ⊢
  have hgw : ∀ (b : Bool) {s₁ : Shared} {Q' : Unit -> Shared -> Prop}, Q' () s₁ -> wpAny (model prog w) A (match b with | true => rule "set.scan.the-table-gave-way" | false => pure ()) Q' E s₁ :=
    fun b s₁ Q' hq => by cases b <;> first | exact wpAny_pure hq | exact wpAny_rule hq
  rw [hn] at kf kp kz h ⊢
  generalize layNew (laid led l).2 (laid led l).1 n (.int n t) = L at kf kp kz h ⊢
  obtain ⟨es1, t1, wd, gave⟩ := L
  dsimp only at kf kp kz h ⊢
  refine wpAny_bind (hgw _ ?_)
  rw [kp]
  simp only [↓reduceIte]
  refine wpAny_bind ?_
  rw [hashByValue_scannable 8 (x := .int n t) rfl]
  refine wpAny_pure ?_
  have e2 : plainKind (.int n t) = true := rfl
  rw [e2]
  simp only [↓reduceIte]
  rw [kf, Bool.and_false]
  simp only [Bool.false_eq_true, ↓reduceIte]
  refine wpAny_bind (wpAny_storeSet_of ho rfl ?_ (fits_of_scanBound (by rw [kz]; unfold scanBound; omega)))
  have hg : (s.heap.update a (Obj.putSet es1 t1)).get? a = some (setO es1 (ep + 1) t1) := by
    have := Heap.get?_update_self (Obj.putSet es1 t1) ho (by rw [putSet_of es1 t1 rfl]; rfl)
    rw [putSet_of es1 t1 rfl] at this
    exact this
  exact wpAny_pure (wpAny_pure (h _ (Heap.SameBut.update s.heap a _) hg))
end
end Mine
end
section
set_option maxRecDepth 100000
namespace Mine
open PySem PyProof.Rows PySem.Spec
theorem lok0 (led : Bool) : LOk led [] := ⟨rfl, rfl, rfl, rfl, rfl⟩
theorem lok1 (led : Bool) {n : Int} (hn : n = 0 ∨ n = 1 ∨ n = 2) (v : Value) : LOk led [(n, v)] := by
  rcases hn with rfl | rfl | rfl <;> exact ⟨by kernel_rfl, by kernel_rfl, by kernel_rfl, by kernel_rfl, by kernel_rfl⟩
theorem lok2 (led : Bool) {n m : Int} (h : n = 0 ∧ m = 1 ∨ n = 0 ∧ m = 2 ∨ n = 1 ∧ m = 2) (v u : Value) : LOk led [(n, v), (m, u)] := by
  rcases h with ⟨rfl, rfl⟩ | ⟨rfl, rfl⟩ | ⟨rfl, rfl⟩ <;> exact ⟨by kernel_rfl, by kernel_rfl, by kernel_rfl, by kernel_rfl, by kernel_rfl⟩
theorem lok3 (led : Bool) (v u x : Value) : LOk led [(0, v), (1, u), (2, x)] := ⟨by kernel_rfl, by kernel_rfl, by kernel_rfl, by kernel_rfl, by kernel_rfl⟩
structure LsOk (led : Bool) (l : List (Int × Value)) : Prop where
  ok : ∀ i, i ≤ l.length -> LOk led (l.take i)
  int : ∀ e ∈ l, IntV e
  ne : l.Pairwise fun a b => a.1 ≠ b.1
  len : l.length ≤ 3
noncomputable abbrev SetL (h : Heap) (S : Addr) (led : Bool) (l : List (Int × Value)) : Prop := ∃ ep, h.get? S = some (setO (laid led l).1 ep (laid led l).2)
section
variable {prog : Program} {w : World} {A : Around} {R : Result -> Shared -> Prop} {I : Addr} {fp wr : List Addr} {G : Array GenState -> Array GenState -> Prop} {n : Nat} {P : Nat -> Value -> Prop} {St : Nat -> Shared -> Prop}
theorem set_loop (W : WalksS prog w A.in1 I fp wr G n P St) (S : Addr) (hSf : S ∉ fp) {led : Bool} {l : List (Int × Value)} (K : LsOk led l) (hn : l.length = n) (hP : ∀ i v, P i v -> ∃ e, l[i]? = some e ∧ e.2 = v) :
    ∀ (k i : Nat) (s : Shared), n - i = k -> i ≤ n -> St i s -> SetL s.heap S led (l.take i) ->
      (∀ s', Moved (S :: wr) G s s' -> SetL s'.heap S led l -> R (.ok (.ret .none)) s') ->
      codeAny (model prog w) A (.builtin "set.update.loop" ⟨[.ref S, .ref I], []⟩) R s := by
  have hSw : S ∉ wr := fun h => hSf (W.sub _ h)
  have hsub : ∀ b ∈ wr, b ∈ S :: wr := fun b hb => List.mem_cons_of_mem _ hb
  intro k
  induction k with
  | zero =>
    intro i s hk hi hst hS hR
    have hin : i = n := by omega
    subst hin
    refine codeAny_builtin PyProof.Rows.F.entry_set_update_loop ?_
    rw [Around.under_plainId PyProof.Rows.F.plain_set_update_loop _]
    show wpAny _ A.in1 (pyNext (.ref I) >>= _) _ _ s
    refine wpAny_bind (W.done s _ _ hst fun s' hm => ?_)
    show wpAny _ A.in1 (ret Value.none) _ _ s'
    rw [← hn, List.take_length] at hS
    obtain ⟨ep, ho⟩ := hS
    exact wpAny_pure (hR s' (hm.mono hsub) ⟨ep, hm.heap S _ hSw ho⟩)
  | succ k ih =>
    intro i s hk hi hst hS hR
    have hlt : i < n := by omega
    refine codeAny_builtin PyProof.Rows.F.entry_set_update_loop ?_
    rw [Around.under_plainId PyProof.Rows.F.plain_set_update_loop _]
    show wpAny _ A.in1 (pyNext (.ref I) >>= _) _ _ s
    refine wpAny_bind (W.item i s _ _ hlt hst fun v s' hPv hst' hm => ?_)
    obtain ⟨e, he, rfl⟩ := hP i v hPv
    obtain ⟨hh, t, hv⟩ := K.int e (List.mem_of_getElem? he)
    obtain ⟨m, ev⟩ := e
    dsimp only at hh hv
    subst hv
    obtain ⟨ep, ho⟩ := hS
    have ho' := hm.heap S _ hSw ho
    have htk : l.take (i + 1) = l.take i ++ [(m, .int m t)] := by
      rw [List.take_add_one, he]
      rfl
    have hab : ∀ e ∈ l.take i, e.1 ≠ m := fun e hm' => by
      obtain ⟨j, hj, q⟩ := List.mem_iff_getElem.mp hm'
      rw [List.length_take] at hj
      rw [List.getElem_take] at q
      have hji : j < i := Nat.lt_of_lt_of_le hj (Nat.min_le_left _ _)
      obtain ⟨hil, q2⟩ := List.getElem?_eq_some_iff.mp he
      have := List.pairwise_iff_getElem.mp K.ne j i (Nat.lt_trans hji hil) hil hji
      rw [q, q2] at this
      exact this
    show wpAny _ A.in1 (holding [Value.int m t] (setAdd S (.int m t)) >>= _) _ _ s'
    refine wpAny_bind (wpAny_holding ?_)
    unfold setAdd
    refine wpAny_holding ?_
    refine wpAny_bind ((intKind prog w).pyHash (k := m) (intKind_is _ _ _ _) ?_)
    refine add_small (s := { s' with toks := s'.toks + 1 }) ho' (K.ok i (hn ▸ hi)) (htk ▸ K.ok (i + 1) (hn ▸ hlt)) (by rw [List.length_take]; exact Nat.le_trans (Nat.min_le_right _ _) (Nat.le_trans K.len (by decide))) (fun e hm' => K.int e (List.mem_of_mem_take hm')) hh hab fun h' hsb hS2 => ?_
    rw [← htk] at hS2
    refine wpAny_pure ⟨plainId_quiet PyProof.Rows.F.plain_set_update_loop _, ih (i + 1) _ (by omega) hlt (W.frame _ s' _ _ hst' (Nat.le_succ _) fun b hb o e => ?_) ⟨_, hS2⟩ fun s'' hm'' hS'' => ?_⟩
    . rw [hsb.2 b (fun h : b = S => hSf (by rw [← h]; exact hb))]; exact e
    . refine hR s'' (Moved.trans W.gtrans ((hm.mono hsub).then_heap (Nat.le_succ _) fun b o hb e => ?_) hm'') hS''
      rw [hsb.2 b (fun h : b = S => hb (by rw [h]; exact List.mem_cons_self))]; exact e
end
end Mine
end
section
set_option maxRecDepth 100000
namespace Mine
open PySem PyProof.Rows PySem.Spec
noncomputable def byT (w : World) : Bool := w.params.followText "set-order"
section
variable {prog : Program} {w : World} {A : Around} {E : Value -> Shared -> Prop} {s : Shared}
theorem set_new (a : Value) {Q₁ : Value -> Shared -> Prop} (h : Q₁ (.ref s.heap.objs.size) { s with heap := s.heap.push (setO #[] 0 (.fresh 0 0 (!byT w))) }) :
    codeAny (model prog w) A (.call (.builtin "set.__new__") ⟨[.type "set", a], []⟩) (wants Q₁ E) s := by
  refine codeAny_of_tree ?_
  show wpAny _ A.in1 (do checkBuiltinCall "set.__new__" ⟨[.type "set", a], []⟩; again (.builtin "set.__new__" ⟨[.type "set", a], []⟩)) _ _ s
  refine wpAny_bind (wpAny_of_eq (PySem.F.newCall_set_1 a) (wpAny_pure ⟨plainId_quiet PySem.F.plain_set_new _, codeAny_builtin PySem.F.entry_set_new ?_⟩))
  rw [Around.under_plainId PySem.F.plain_set_new _]
  unfold Builtin.«set.__new__» Builtin.Frozenset.newClass
  have hsub := sub_set_self
  obtain ⟨hp, g, d, tk, os⟩ := s
  dsimp only
  wp_walk
  refine wpAny_askSetting (wpAny_pure ?_)
  dsimp only
  simp only [newObj]
  refine wpAny_bind (wpAny_alloc (wpAny_pure ?_))
  exact wpAny_pure h
set_option maxHeartbeats 3200000 in
theorem call_set_small {l : Addr} {items : Array Value} {es : List (Int × Value)} {Q : Value -> Shared -> Prop} (hh : A.handled = none) (hl : s.heap.PlainList l items) (K : LsOk (!byT w) es) (hi : items.toList = es.map (·.2))
    (h : ∀ (h' : Heap) (tk : Nat), SetL h' s.heap.objs.size (!byT w) es -> (∀ b o, b < s.heap.objs.size -> s.heap.get? b = some o -> h'.get? b = some o) -> Q (.ref s.heap.objs.size) { s with heap := h', toks := tk }) :
    wpAny (model prog w) A (call (.type "set") [.ref l]) Q E s := by
  obtain ⟨c, tl, hmro⟩ := PySem.F.called_set.mro
  have hmade := PySem.F.called_set.made
  have hsub := PySem.F.called_set.sub
  refine wpAny_call (codeAny_of_tree ?_)
  show wpAny _ _ (callAny (.type "set") _) _ _ _
  refine wpAny_pure ⟨Code.quiet_builtin _ (by decide +kernel), codeAny_builtin PySem.F.entry_type_call ?_⟩
  rw [Around.under_plain (weight_type_call_type "set" [.ref l] []) rfl]
  have h1 := PySem.F.called_set.notType
  have h2 := PySem.F.called_set.canCreate
  have hct := PySem.F.typeCall_set_1 (.ref l)
  repeat (any_goals (first | assumption | wp_step))
  refine codeAny_mono (set_new (.ref l) (E := E) (Q₁ := fun obj s₁ => obj = .ref s.heap.objs.size ∧ s₁ = { s with heap := s.heap.push (setO #[] 0 (.fresh 0 0 (!byT w))) }) ⟨rfl, rfl⟩) fun r s₁ hr => ?_
  cases r with
  | error e => exact hr
  | ok fl =>
    cases fl with
    | ret obj =>
      obtain ⟨rfl, rfl⟩ := hr
      have hS : (s.heap.push (setO #[] 0 (.fresh 0 0 (!byT w)))).get? s.heap.objs.size = some (setO #[] 0 (.fresh 0 0 (!byT w))) := Heap.get?_push_size _ rfl
      have hT : Shared.TypeIs { s with heap := s.heap.push (setO #[] 0 (.fresh 0 0 (!byT w))) } (.ref s.heap.objs.size) "set" := ⟨_, hS, rfl⟩
      have hli := PySem.F.called_set.init.lookup
      have hbi := PySem.F.called_set.init.bind (.ref s.heap.objs.size)
      repeat (any_goals (first | assumption | wp_step))
      refine codeAny_mono (codeAny_call_builtin (R := wants (fun r s₂ => r = .none ∧ ∃ h' tk, s₂ = { s with heap := h', toks := tk } ∧ SetL h' s.heap.objs.size (!byT w) es ∧
          (∀ b o, b < s.heap.objs.size -> s.heap.get? b = some o -> h'.get? b = some o)) E) PySem.F.called_set.init.plain PySem.F.entry_set_init (check_set_init_1 hT ?_)) fun r₂ s₂ hr₂ => ?_
      . obtain ⟨nl, hol⟩ := hl
        have hol' : (s.heap.push (setO #[] 0 (.fresh 0 0 (!byT w)))).get? l = some { cls := .type "list", data := .seq items nl } := Heap.get?_push_of_some _ hol
        have hsls := PySem.F.sub_list_set
        have hslf := PySem.F.sub_list_frozenset
        have hne : (Value.type "list" == Value.type "dict") = false := by decide
        have hl1 : (s.heap.push (setO #[] 0 (.fresh 0 0 (!byT w)))).IsList l items := ⟨_, hol', rfl, nl, rfl⟩
        unfold Builtin.«set.__init__» noKeywords Builtin.Frozenset.updateFrom
        generalize hPI : pyIter = PI
        wp_walk
        subst hPI
        refine wpAny_pyIter_list hl1 ?_
        refine wpAny_bind (wpAny_runValue ?_)
        have hlS : l < s.heap.objs.size := Heap.lt_size hol
        have hh3 : A.in1.in1.in1.handled = none := by simp [hh]
        have hneI : l ≠ (s.heap.push (setO #[] 0 (.fresh 0 0 (!byT w)))).objs.size := by
          rw [Heap.size_push]; exact Nat.ne_of_lt (Nat.lt_succ_of_lt hlS)
        have hSf : s.heap.objs.size ∉ [(s.heap.push (setO #[] 0 (.fresh 0 0 (!byT w)))).objs.size, l] := by
          rw [Heap.size_push]; simp only [List.mem_cons, List.mem_singleton, List.not_mem_nil, or_false, not_or]
          exact ⟨Nat.ne_of_lt (Nat.lt_succ_self _), Nat.ne_of_gt hlS⟩
        have hlen : es.length = items.size := by rw [← Array.length_toList, hi, List.length_map]
        refine set_loop ((Walks.list hh3 _ l hneI items).toS) s.heap.objs.size hSf K hlen (fun i v hv => ?_) (items.size - 0) 0 _ (by omega) (Nat.zero_le _)
          ⟨⟨_, Heap.get?_push_size _ rfl, rfl, rfl⟩, (hl1.push _)⟩ ⟨0, Heap.get?_push_of_some _ hS⟩ ?hR
        . have hv' : items.toList[i]? = some v := by rw [Array.getElem?_toList]; exact hv
          rw [hi, List.getElem?_map] at hv'
          obtain ⟨e, q1, q2⟩ := Option.map_eq_some_iff.mp hv'
          exact ⟨e, q1, q2⟩
        case hR =>
          intro s' hm hS'
          rw [Moved.eq_with hm]
          show wpAny _ _ _ _ _ _
          refine wpAny_pure ?_
          show wpAny _ _ (ret Value.none) _ _ _
          refine wpAny_pure ⟨rfl, s'.heap, s'.toks, rfl, hS', fun b o hb e => ?_⟩
          have hb1 : b ≠ s.heap.objs.size := Nat.ne_of_lt hb
          have hb2 : b ≠ (s.heap.push (setO #[] 0 (.fresh 0 0 (!byT w)))).objs.size := by
            rw [Heap.size_push]; exact Nat.ne_of_lt (Nat.lt_succ_of_lt hb)
          exact hm.heap b o (by simp only [List.mem_cons, List.mem_singleton, List.not_mem_nil, or_false, not_or]; exact ⟨hb1, hb2⟩) (Heap.get?_push_of_some _ (Heap.get?_push_of_some _ e))
      . cases r₂ with
        | error e => exact hr₂
        | ok fl₂ =>
          cases fl₂ with
          | ret r =>
            obtain ⟨rfl, h', tk, rfl, hS', hk'⟩ := hr₂
            repeat (any_goals (first | assumption | wp_step))
            exact h _ _ hS' hk'
          | _ => exact hr₂.elim
    | _ => exact hr.elim
end
end Mine
end
section
set_option maxRecDepth 100000
namespace Mine
open PySem PyProof.Rows PySem.Spec
theorem slot_si_next : PySem.Slot "set_iterator" "__next__" "set_iterator.__next__" :=
  .of (owner := "set_iterator") (n := "__next__") (by rw [typeLookup_type, builtinLookup_eq_fast]; kernel_rfl) (by decide +kernel) (by decide +kernel) (by decide +kernel)
    (by first | exact .inl (by decide +kernel) | exact .inr (by decide +kernel)) (by rw [isSubtype_type]; kernel_rfl)
theorem slot_si_iter : PySem.Slot "set_iterator" "__iter__" "set_iterator.__iter__" :=
  .of (owner := "set_iterator") (n := "__iter__") (by rw [typeLookup_type, builtinLookup_eq_fast]; kernel_rfl) (by decide +kernel) (by decide +kernel) (by decide +kernel)
    (by first | exact .inl (by decide +kernel) | exact .inr (by decide +kernel)) (by rw [isSubtype_type]; kernel_rfl)
theorem entry_si_next : entryFor table "set_iterator.__next__" = some Builtin.«set_iterator.__next__» := entryFor_of_tree (by kernel_rfl)
theorem entry_si_iter : entryFor table "set_iterator.__iter__" = some Builtin.«dict_keyiterator.__iter__» := entryFor_alias (id' := "dict_keyiterator.__iter__") (by kernel_rfl) rfl (by decide +kernel) (by kernel_rfl)
theorem entry_s_iter : entryFor table "set.__iter__" = some Builtin.«frozenset.__iter__» := entryFor_alias (id' := "frozenset.__iter__") (by kernel_rfl) rfl (by decide +kernel) (by kernel_rfl)
theorem owner_si : Manifest.owners.lookup (String.ofList ['r', 'o', 't', 'a', 'r', 'e', 't', 'i', '_', 't', 'e', 's'].reverse) = some Manifest.sig_set_iterator := by kernel_rfl
theorem args_si_next (a : Value) : argsOk "set_iterator.__next__" ⟨[a], []⟩ := by
  unfold argsOk; rw [signature?_of (id := "set_iterator.__next__") (n := ['_', '_', 't', 'x', 'e', 'n', '_', '_']) (o := ['r', 'o', 't', 'a', 'r', 'e', 't', 'i', '_', 't', 'e', 's']) (by kernel_rfl) owner_si]; kernel_rfl
theorem args_si_iter (a : Value) : argsOk "set_iterator.__iter__" ⟨[a], []⟩ := by
  unfold argsOk; rw [signature?_of (id := "set_iterator.__iter__") (n := ['_', '_', 'r', 'e', 't', 'i', '_', '_']) (o := ['r', 'o', 't', 'a', 'r', 'e', 't', 'i', '_', 't', 'e', 's']) (by kernel_rfl) owner_si]; kernel_rfl
theorem er_perm {α : Type} : ∀ (l : List α) (i : Nat) (h : i < l.length), (l[i] :: l.eraseIdx i).Perm l
  | a :: l, 0, _ => .refl _
  | a :: l, i + 1, h => (List.Perm.swap a _ _).trans ((er_perm l i (Nat.lt_of_succ_lt_succ h)).cons a)
theorem pick_go {α : Type} (next : Nat -> Nat) : ∀ (fuel k : Nat) (left : List α) (out : Array α), left.length = fuel -> (pickOrder.go next fuel k left out).toList.Perm (out.toList ++ left)
  | 0, k, left, out, h => by
    rw [List.length_eq_zero_iff.mp h, List.append_nil]
    exact .refl _
  | fuel + 1, k, left, out, h => by
    have hlt : next k % left.length < left.length := Nat.mod_lt _ (by omega)
    unfold pickOrder.go
    rw [List.getElem?_eq_getElem hlt]
    refine (pick_go next fuel (k + 1) (left.eraseIdx (next k % left.length)) _ (by rw [List.length_eraseIdx_of_lt hlt]; omega)).trans ?_
    rw [Array.toList_push, List.append_assoc]
    exact List.Perm.append_left _ (er_perm left _ hlt)
theorem pick_perm {α : Type} (next : Nat -> Nat) (xs : Array α) : (pickOrder next xs).toList.Perm xs.toList := by
  have := pick_go next xs.size 0 xs.toList #[] (by simp)
  show (pickOrder.go next xs.size 0 xs.toList #[]).toList.Perm xs.toList
  simpa using this
structure LIt (led : Bool) (l : List (Int × Value)) : Prop where
  b0 : SetTable.below (laid led l).2.place 0 = 0
  st : ∀ i, i < l.length -> ∃ j, (laid led l).2.place[i]? = some j ∧ SetTable.below (laid led l).2.place (j + 1) = i + 1
noncomputable def ordS (w : World) (S : Addr) (ep : Nat) (l : List (Int × Value)) : List (Int × Value) := if byT w then (pickOrder (w.params.setOrder S ep) (laid (!byT w) l).1).toList else l
section
variable {prog : Program} {w : World} {A : Around} {E : Value -> Shared -> Prop} {s : Shared} {I S : Addr} {ep : Nat} {l : List (Int × Value)}
theorem ord_perm (k : LOk (!byT w) l) : (ordS w S ep l).Perm l := by
  unfold ordS
  split
  . have := pick_perm (w.params.setOrder S ep) (laid (!byT w) l).1
    rw [k.es] at this
    exact this
  . exact .refl _
noncomputable abbrev siO (slot i : Nat) (S : Addr) (n ep : Nat) : Obj := { cls := .type "set_iterator", data := .fields #[.int slot 0, .int i 0, .ref S, .int n 0, .int ep 0] }
theorem pyIter_set {Q : Value -> Shared -> Prop} (k : LOk (!byT w) l) (ho : s.heap.get? S = some (setO (laid (!byT w) l).1 ep (laid (!byT w) l).2)) (h : Q (.ref s.heap.objs.size) { s with heap := s.heap.push (siO 0 0 S l.length ep) }) :
    wpAny (model prog w) A (pyIter (.ref S)) Q E s := by
  have hT : s.TypeIs (.ref S) "set" := ⟨_, ho, rfl⟩
  have hsz : (laid (!byT w) l).1.size = l.length := by rw [← Array.length_toList, k.es]
  refine wpAny_pyIter_slot hT PySem.F.slot_set_iter (wpAny_call_entry PySem.F.slot_set_iter hT entry_s_iter ?_ (PySem.F.args_set_iter_1 _))
  unfold Builtin.«frozenset.__iter__»
  refine wpAny_bind (m := Builtin.Frozenset.slot0 _ _) (wpAny_pure ?_)
  unfold Builtin.Frozenset.sizeOf
  refine wpAny_bind (wpAny_bind (wpAny_setEntries_of ho rfl k.fits (wpAny_pure ?_)))
  refine wpAny_bind ?_
  unfold setDrawn setsByText
  refine wpAny_bind (wpAny_setState_of ho rfl k.fits ?_)
  refine wpAny_bind (wpAny_bind (wpAny_askSetting (wpAny_pure ?_)))
  refine wpAny_pure ?_
  show wpAny _ _ (if (!byT w && (!(laid (!byT w) l).2.plain && decide ((laid (!byT w) l).1.size > 1))) = true then _ else _) _ _ _
  rw [k.plain]
  rw [if_neg (by simp)]
  refine wpAny_bind (wpAny_pure ?_)
  refine wpAny_bind (wpAny_setEpoch_of ho rfl k.fits ?_)
  unfold newFields
  refine wpAny_bind (wpAny_newObj_type (wpAny_pure ⟨_, rfl, "set_iterator", _, ⟨_, Heap.get?_push_size _ rfl, rfl⟩, slot_si_next.lookup, ?_⟩))
  rw [hsz]
  exact h
theorem setNext_at {i slot : Nat} {Q : Option (Value × Nat) -> Shared -> Prop} (k : LOk (!byT w) l) (ho : s.heap.get? S = some (setO (laid (!byT w) l).1 ep (laid (!byT w) l).2))
    (h1 : byT w = true -> Q (((ordS w S ep l)[i]?).map fun e => (e.2, slot)) s)
    (h2 : byT w = false -> Q (match l[SetTable.below (laid (!byT w) l).2.place slot]?, (laid (!byT w) l).2.place[SetTable.below (laid (!byT w) l).2.place slot]? with | some (_, x), some j => some (x, j + 1) | _, _ => none) s) :
    wpAny (model prog w) A (setNext S slot i ep) Q E s := by
  unfold setNext setsByText
  refine wpAny_bind (wpAny_setState_of ho rfl k.fits ?_)
  dsimp only
  refine wpAny_bind (wpAny_bind (wpAny_askSetting (wpAny_pure ?_)))
  show wpAny _ _ (if byT w = true then _ else _) _ _ _
  cases hb : byT w with
  | true =>
    rw [if_pos rfl, if_neg (by simp)]
    unfold setWalk setsByText
    refine wpAny_bind ?_
    refine wpAny_bind (wpAny_setState_of ho rfl k.fits ?_)
    dsimp only
    refine wpAny_bind (wpAny_bind (wpAny_askSetting (wpAny_pure ?_)))
    show wpAny _ _ (if byT w = true then _ else _) _ _ _
    rw [hb, if_pos rfl]
    refine wpAny_bind (wpAny_askSetting (wpAny_pure ?_))
    refine wpAny_pure ?_
    have := h1 hb
    unfold ordS at this
    rw [hb, if_pos rfl, Array.getElem?_toList] at this
    exact this
  | false =>
    rw [if_neg (by simp)]
    have := h2 hb
    have hp := k.plain
    have hl := k.isled
    have he := k.es
    rw [hb] at hp hl he this
    show wpAny _ _ (if (!(laid (!false) l).2.plain && decide ((laid (!false) l).1.size > 1)) = true then _ else _) _ _ _
    rw [hp, if_neg (by simp)]
    show wpAny _ _ ((if (!(laid (!false) l).2.led && !(laid (!false) l).1.isEmpty) = true then _ else pure ()) >>= _) _ _ _
    rw [hl, if_neg (by simp)]
    refine wpAny_bind (wpAny_pure (wpAny_pure ?_))
    have e : ∀ j : Nat, (laid (!false) l).1[j]? = l[j]? := fun j => by rw [← Array.getElem?_toList, he]
    rw [e]
    exact this
noncomputable def SIt (w : World) (I S : Addr) (ep : Nat) (l : List (Int × Value)) (i : Nat) (h : Heap) : Prop :=
  h.get? S = some (setO (laid (!byT w) l).1 ep (laid (!byT w) l).2) ∧ ∃ slot : Nat, h.get? I = some (siO slot i S l.length ep) ∧ (byT w = false -> SetTable.below (laid (!byT w) l).2.place slot = i)
theorem next_set {i : Nat} {Q : Option Value -> Shared -> Prop} (k : LOk (!byT w) l) (K : LIt (!byT w) l) (hne : S ≠ I) (st : SIt w I S ep l i s.heap) {e : Int × Value} (he : (ordS w S ep l)[i]? = some e)
    (h : ∀ h', SIt w I S ep l (i + 1) h' -> Heap.ExtBut I s.heap h' -> Q (some e.2) { s with heap := h' }) : wpAny (model prog w) A (pyNext (.ref I)) Q E s := by
  refine cps fun Gq goq => ?_
  obtain ⟨hS, slot, hI, hb⟩ := st
  have hT : s.TypeIs (.ref I) "set_iterator" := ⟨_, hI, rfl⟩
  have hsz : (laid (!byT w) l).1.size = l.length := by rw [← Array.length_toList, k.es]
  have key : ∃ nx : Nat, (byT w = true -> ((ordS w S ep l)[i]?).map (fun e => (e.2, slot)) = some (e.2, nx)) ∧
      (byT w = false -> (match l[SetTable.below (laid (!byT w) l).2.place slot]?, (laid (!byT w) l).2.place[SetTable.below (laid (!byT w) l).2.place slot]? with | some (_, x), some j => some (x, j + 1) | _, _ => none) = some (e.2, nx) ∧ SetTable.below (laid (!byT w) l).2.place nx = i + 1) := by
    cases hw : byT w with
    | true => exact ⟨slot, fun ζ => (by rw [he]; rfl), nofun⟩
    | false =>
      have hb := hb hw
      unfold ordS at he
      rw [hw, if_neg (by simp)] at he
      rw [hw] at hb K
      obtain ⟨j, q1, q2⟩ := K.st i (List.getElem?_eq_some_iff.mp he).1
      refine ⟨j + 1, nofun, fun ζ => ⟨?_, q2⟩⟩
      rw [hb, he, q1]
  obtain ⟨nx, k1, k2⟩ := key
  refine goq ?_
  clear goq
  clear Gq
  unfold pyNext
  refine wpAny_bind (wpAny_attempt (wpAny_callSpecial?_slot (name := Str.ofString "__next__") hT slot_si_next (wpAny_call_entry slot_si_next hT entry_si_next ?_ (args_si_next _))))
  unfold Builtin.«set_iterator.__next__»
  refine wpAny_bind (wpAny_pure ?_)
  refine wpAny_bind (wpAny_fieldsOf hI rfl ?_)
  show wpAny _ _ (setEntries S >>= _) _ _ _
  refine wpAny_bind (wpAny_setEntries_of hS rfl k.fits ?_)
  rw [if_neg (by rw [hsz]; simp)]
  have hn : ∀ (Q' : Option (Value × Nat) -> Shared -> Prop) (E' : Value -> Shared -> Prop), Q' (some (e.2, nx)) s -> wpAny (model prog w) A.in1 (setNext S slot i ep) Q' E' s := fun Q' E' hq => setNext_at k hS (fun z => by rw [k1 z]; exact hq) (fun z => by rw [(k2 z).1]; exact hq)
  show wpAny _ _ (setNext S slot i ep >>= _) _ _ _
  refine wpAny_bind (hn _ _ ?_)
  show wpAny _ _ (setField (.ref I) 0 (rawInt nx) >>= _) _ _ _
  refine wpAny_bind (wpAny_setField_rec hI (by simp) fun h₁ g₁ s₁ => ?_)
  refine wpAny_bind (wpAny_setField_rec (s := { s with heap := h₁ }) g₁ (by simp) fun h₂ g₂ s₂ => ?_)
  refine wpAny_pure ⟨_, rfl, wpAny_pure (h h₂ ⟨?_, nx, ?_, fun z => (k2 z).2⟩ fun b o hb e => ?_)⟩
  . exact s₂.extBut S _ hne (s₁.extBut S _ hne hS)
  . exact g₂
  . exact s₂.extBut b o hb (s₁.extBut b o hb e)
theorem done_set {Q : Option Value -> Shared -> Prop} (hh : A.handled = none) (k : LOk (!byT w) l) (st : SIt w I S ep l l.length s.heap) (h : ∀ h', Heap.ExtBut I s.heap h' -> Q none { s with heap := h' }) : wpAny (model prog w) A (pyNext (.ref I)) Q E s := by
  obtain ⟨hS, slot, hI, hb⟩ := st
  have hT : s.TypeIs (.ref I) "set_iterator" := ⟨_, hI, rfl⟩
  have hsz : (laid (!byT w) l).1.size = l.length := by rw [← Array.length_toList, k.es]
  have hn : ∀ (Q' : Option (Value × Nat) -> Shared -> Prop) (E' : Value -> Shared -> Prop), Q' none s -> wpAny (model prog w) A.in1 (setNext S slot l.length ep) Q' E' s := fun Q' E' hq => setNext_at k hS (fun z => by
      rw [List.getElem?_eq_none (by rw [(ord_perm k).length_eq]; exact Nat.le_refl _)]
      exact hq) (fun z => by
      rw [hb z, List.getElem?_eq_none (Nat.le_refl _)]
      exact hq)
  unfold pyNext
  refine wpAny_bind (wpAny_attempt (wpAny_callSpecial?_slot (name := Str.ofString "__next__") hT slot_si_next (wpAny_call_entry slot_si_next hT entry_si_next ?_ (args_si_next _))))
  unfold Builtin.«set_iterator.__next__»
  refine wpAny_bind (wpAny_pure ?_)
  refine wpAny_bind (wpAny_fieldsOf hI rfl ?_)
  show wpAny _ _ (setEntries S >>= _) _ _ _
  refine wpAny_bind (wpAny_setEntries_of hS rfl k.fits ?_)
  rw [if_neg (by rw [hsz]; simp)]
  show wpAny _ _ (setNext S slot l.length ep >>= _) _ _ _
  refine wpAny_bind (hn _ _ ?_)
  show wpAny _ _ (setField (.ref I) 2 .none >>= _) _ _ _
  refine wpAny_bind (wpAny_setField_rec hI (by simp) fun h₁ g₁ s₁ => ?_)
  show wpAny _ _ (newExc (.type "StopIteration") [] >>= _) _ _ _
  refine wpAny_bind ?_
  simp only [newExc, newTuple]
  refine wpAny_bind (wpAny_newObj_type ?_ (by size_fits))
  refine wpAny_bind (m := firstArgMember _ _) (wpAny_of_eq (a := Value.none) (by first | rfl | (simp only [firstArgMember]; rfl)) ?_)
  refine wpAny_newObj_type ?_ (by size_fits)
  simp only [raiseNew]
  refine wpAny_bind (wpAny_handled ?_)
  rw [show A.in1.handled = none from hh]
  refine wpAny_bind (wpAny_pure (wpAny_throw ?_))
  refine wpAny_bind (wpAny_isInstance (T := "StopIteration") (b := true) ⟨_, Heap.get?_push_size _ rfl, rfl⟩ isSubtype_stop ?_)
  exact wpAny_pure (h _ ((s₁.extBut.push _).push _))
end
end Mine
end
section
set_option maxRecDepth 100000
namespace Mine
open PySem PyProof.Rows PySem.Spec
section
variable {prog : Program} {w : World} {A : Around} {E : Value -> Shared -> Prop} {s : Shared} {I S : Addr} {ep : Nat} {l : List (Int × Value)}
theorem walks_set (hh : A.handled = none) (k : LOk (!byT w) l) (K : LIt (!byT w) l) (I S : Addr) (hne : S ≠ I) (ep : Nat) : Walks prog w A I [I, S] [I] l.length (fun i v => ∃ n, (ordS w S ep l)[i]? = some (n, v)) (SIt w I S ep l) where
  sub := fun b hb => by rw [List.mem_singleton.mp hb]; exact .head _
  frame := fun i h h' st hk => ⟨hk S (.tail _ (.head _)) _ st.1, let ⟨sl, q1, q2⟩ := st.2; ⟨sl, hk I (.head _) _ q1, q2⟩⟩
  item := fun i s Q E hi st hQ => by
    have hlt : i < (ordS w S ep l).length := by rw [(ord_perm k).length_eq]; exact hi
    refine next_set k K hne st (List.getElem?_eq_getElem hlt) fun h' st' hx => ?_
    exact hQ _ h' s.toks ⟨_, List.getElem?_eq_getElem hlt⟩ st' fun b o hb e => hx b o (fun z => hb (by rw [z]; exact .head _)) e
  done := fun s Q E st hQ => done_set hh k st fun h' hx => hQ h' s.toks fun b o hb e => hx b o (fun z => hb (by rw [z]; exact .head _)) e
  self := fun i s Q E st hQ => by
    obtain ⟨_, sl, hI, _⟩ := st
    have hT : s.TypeIs (.ref I) "set_iterator" := ⟨_, hI, rfl⟩
    refine wpAny_pyIter_slot hT slot_si_iter (wpAny_call_entry slot_si_iter hT entry_si_iter ?_ (args_si_iter _))
    show wpAny _ _ (ret (.ref I)) _ _ s
    exact wpAny_pure ⟨_, rfl, "set_iterator", _, hT, slot_si_next.lookup, hQ⟩
theorem len_set : typeLookup (.type "set") "__len__" = pure (some (.builtin "set.__len__")) := by rw [typeLookup_type, builtinLookup_eq_fast]; kernel_rfl
theorem hint_set {r : Addr} {Q : Bool -> Shared -> Prop} (hT : s.TypeIs (.ref r) "set") (h : Q false s) : wpAny (model prog w) A (Builtin.List.listLengthHint (.ref r)) Q E s := by
  unfold Builtin.List.listLengthHint
  refine wpAny_bind (wpAny_specialOf hT len_set ?_)
  generalize hid : ("set.__len__" : String) = id0
  wp_delta
  rw [show splitId id0 = some ("set", "__len__") from by subst hid; decide +kernel]
  subst hid
  refine wpAny_bind (wpAny_isInstance (T := "set") (b := true) hT (by rw [isSubtype_type]; kernel_rfl) ?_)
  refine wpAny_ite_split (fun hab => absurd hab (by decide)) (fun ζ => ?_)
  refine wpAny_ite_split (fun ζ => ?_) (fun hab => absurd (by decide +kernel) hab)
  refine wpAny_bind (wpAny_typeOf hT ?_)
  exact wpAny_pure h
theorem src_set (k : LOk (!byT w) l) (K : LIt (!byT w) l) (S : Addr) (ep : Nat) : PySem.W.KdlSrc prog w "set" S S l.length (fun i v => ∃ n, (ordS w S ep l)[i]? = some (n, v)) (fun h => h.get? S = some (setO (laid (!byT w) l).1 ep (laid (!byT w) l).2)) where
  type := fun s h => ⟨_, h, rfl⟩
  there := fun h q => ⟨Heap.lt_size q, Heap.lt_size q⟩
  keep := fun h h' q e => e S (.inl rfl) _ q
  notList := by decide
  notTuple := by decide
  hint := fun A E s Q q hq => hint_set ⟨_, q, rfl⟩ hq
  iter := fun A s hh q => ⟨siO 0 0 S l.length ep, SIt w s.heap.objs.size S ep l, fun E Q hq => pyIter_set k q hq, walks_set hh k K _ S (Nat.ne_of_lt (Heap.lt_size q)) ep,
    Heap.get?_push_of_some _ q, 0, Heap.get?_push_size _ rfl, fun ζ => K.b0⟩
end
end Mine
end
section
set_option maxRecDepth 100000
namespace Mine
open PySem PyProof.Rows PySem.Spec
theorem lt_1 {p : Nat -> Prop} (h0 : p 0) : ∀ i, i < 1 -> p i := fun i h => Nat.lt_one_iff.mp h ▸ h0
theorem lt_2 {p : Nat -> Prop} (h0 : p 0) (h1 : p 1) : ∀ i, i < 2 -> p i := fun i h => (Nat.lt_succ_iff_lt_or_eq.mp h).elim (lt_1 h0 i) fun e => e ▸ h1
theorem lt_3 {p : Nat -> Prop} (h0 : p 0) (h1 : p 1) (h2 : p 2) : ∀ i, i < 3 -> p i := fun i h => (Nat.lt_succ_iff_lt_or_eq.mp h).elim (lt_2 h0 h1 i) fun e => e ▸ h2
theorem le_1 {p : Nat -> Prop} (h0 : p 0) (h1 : p 1) : ∀ i, i ≤ 1 -> p i := fun i h => lt_2 h0 h1 i (Nat.lt_succ_of_le h)
theorem le_2 {p : Nat -> Prop} (h0 : p 0) (h1 : p 1) (h2 : p 2) : ∀ i, i ≤ 2 -> p i := fun i h => lt_3 h0 h1 h2 i (Nat.lt_succ_of_le h)
theorem le_3 {p : Nat -> Prop} (h0 : p 0) (h1 : p 1) (h2 : p 2) (h3 : p 3) : ∀ i, i ≤ 3 -> p i := fun i h => (Nat.lt_succ_iff_lt_or_eq.mp (Nat.lt_succ_of_le h)).elim (lt_3 h0 h1 h2 i) fun e => e ▸ h3
theorem lit0 (led : Bool) : LIt led [] := ⟨by kernel_rfl, fun i h => (Nat.not_lt_zero i h).elim⟩
theorem lit1 (led : Bool) {n : Int} (hn : n = 0 ∨ n = 1 ∨ n = 2) (v : Value) : LIt led [(n, v)] := by
  rcases hn with rfl | rfl | rfl
  . exact ⟨by kernel_rfl, lt_1 ⟨0, by kernel_rfl, by kernel_rfl⟩⟩
  . exact ⟨by kernel_rfl, lt_1 ⟨1, by kernel_rfl, by kernel_rfl⟩⟩
  . exact ⟨by kernel_rfl, lt_1 ⟨2, by kernel_rfl, by kernel_rfl⟩⟩
theorem lit2 (led : Bool) {n m : Int} (h : n = 0 ∧ m = 1 ∨ n = 0 ∧ m = 2 ∨ n = 1 ∧ m = 2) (v u : Value) : LIt led [(n, v), (m, u)] := by
  rcases h with ⟨rfl, rfl⟩ | ⟨rfl, rfl⟩ | ⟨rfl, rfl⟩
  . exact ⟨by kernel_rfl, lt_2 ⟨0, by kernel_rfl, by kernel_rfl⟩ ⟨1, by kernel_rfl, by kernel_rfl⟩⟩
  . exact ⟨by kernel_rfl, lt_2 ⟨0, by kernel_rfl, by kernel_rfl⟩ ⟨2, by kernel_rfl, by kernel_rfl⟩⟩
  . exact ⟨by kernel_rfl, lt_2 ⟨1, by kernel_rfl, by kernel_rfl⟩ ⟨2, by kernel_rfl, by kernel_rfl⟩⟩
theorem lit3 (led : Bool) (v u x : Value) : LIt led [(0, v), (1, u), (2, x)] := ⟨by kernel_rfl, lt_3 ⟨0, by kernel_rfl, by kernel_rfl⟩ ⟨1, by kernel_rfl, by kernel_rfl⟩ ⟨2, by kernel_rfl, by kernel_rfl⟩⟩
theorem hash3 {n : Int} (h : n = 0 ∨ n = 1 ∨ n = 2) : hashInt n = n := by
  rcases h with rfl | rfl | rfl <;> kernel_rfl
structure Rise (led : Bool) (ns : List Int) (vs : List Value) : Prop where
  ls : LsOk led (ns.zip vs)
  it : LIt led (ns.zip vs)
  v : (ns.zip vs).map (·.2) = vs
  n : (ns.zip vs).map (·.1) = ns
  up : ns.Pairwise (· ≤ ·)
theorem rise1 (led : Bool) {a : Int} (ha : a = 0 ∨ a = 1 ∨ a = 2) (t : Tok) : Rise led [a] [.int a t] :=
  ⟨⟨le_1 (lok0 led) (lok1 led ha _), fun e he => by rw [List.mem_singleton.mp he]; exact ⟨hash3 ha, t, rfl⟩, List.pairwise_singleton _ _, Nat.le_of_ble_eq_true rfl⟩, lit1 led ha _, rfl, rfl, List.pairwise_singleton _ _⟩
theorem rise2 (led : Bool) {a b : Int} (h : a = 0 ∧ b = 1 ∨ a = 0 ∧ b = 2 ∨ a = 1 ∧ b = 2) (t u : Tok) : Rise led [a, b] [.int a t, .int b u] := by
  have ha : a = 0 ∨ a = 1 ∨ a = 2 := h.elim (fun h => .inl h.1) fun h => h.elim (fun h => .inl h.1) fun h => .inr (.inl h.1)
  have hb : b = 0 ∨ b = 1 ∨ b = 2 := h.elim (fun h => .inr (.inl h.2)) fun h => h.elim (fun h => .inr (.inr h.2)) fun h => .inr (.inr h.2)
  have hab : a < b := by rcases h with h | h | h <;> rw [h.1, h.2] <;> decide
  refine ⟨⟨le_2 (lok0 led) (lok1 led ha _) (lok2 led h _ _), fun e he => ?_, List.pairwise_cons.mpr ⟨fun e he => ?_, List.pairwise_singleton _ _⟩, Nat.le_of_ble_eq_true rfl⟩, lit2 led h _ _, rfl, rfl, List.pairwise_cons.mpr ⟨fun e he => ?_, List.pairwise_singleton _ _⟩⟩
  . rcases List.mem_cons.mp he with e | e
    . rw [e]; exact ⟨hash3 ha, t, rfl⟩
    . rw [List.mem_singleton.mp e]; exact ⟨hash3 hb, u, rfl⟩
  . rw [List.mem_singleton.mp he]; exact Int.ne_of_lt hab
  . rw [List.mem_singleton.mp he]; exact Int.le_of_lt hab
theorem rise3' (led : Bool) (t u x : Tok) : Rise led [0, 1, 2] [.int 0 t, .int 1 u, .int 2 x] := by
  refine ⟨⟨le_3 (lok0 led) (lok1 led (.inl rfl) _) (lok2 led (.inl ⟨rfl, rfl⟩) _ _) (lok3 led _ _ _), fun e he => ?_, ?_, Nat.le_of_ble_eq_true rfl⟩, lit3 led _ _ _, rfl, rfl, by decide⟩
  . rcases List.mem_cons.mp he with e | he
    . rw [e]; exact ⟨hash3 (.inl rfl), t, rfl⟩
    . rcases List.mem_cons.mp he with e | e
      . rw [e]; exact ⟨hash3 (.inr (.inl rfl)), u, rfl⟩
      . rw [List.mem_singleton.mp e]; exact ⟨hash3 (.inr (.inr rfl)), x, rfl⟩
  . refine List.pairwise_cons.mpr ⟨fun e he => ?_, List.pairwise_cons.mpr ⟨fun e he => ?_, List.pairwise_singleton _ _⟩⟩
    . rcases List.mem_cons.mp he with e | e
      . rw [e]; exact (by decide : (0 : Int) ≠ 1)
      . rw [List.mem_singleton.mp e]; exact (by decide : (0 : Int) ≠ 2)
    . rw [List.mem_singleton.mp he]; exact (by decide : (1 : Int) ≠ 2)
theorem rise0 (led : Bool) : Rise led [] [] := ⟨⟨fun i hi => Nat.le_zero.mp hi ▸ lok0 led, fun e he => (List.not_mem_nil he).elim, .nil, Nat.zero_le _⟩, lit0 led, rfl, rfl, .nil⟩
theorem ints_0 {vs : List Value} (h : IntsAre vs []) : vs = [] := by cases h; rfl
theorem ints_c {vs : List Value} {n : Int} {ns : List Int} (h : IntsAre vs (n :: ns)) : ∃ t us, vs = .int n t :: us ∧ IntsAre us ns := by
  cases h with
  | cons _ t r => exact ⟨t, _, rfl, r⟩
theorem rise_1 (led : Bool) {a : Int} (ha : a = 0 ∨ a = 1 ∨ a = 2) {vs : List Value} (h : IntsAre vs [a]) : Rise led [a] vs := by
  obtain ⟨t, us, rfl, h1⟩ := ints_c h
  obtain rfl := ints_0 h1
  exact rise1 led ha t
theorem rise_2 (led : Bool) {a b : Int} (hab : a = 0 ∧ b = 1 ∨ a = 0 ∧ b = 2 ∨ a = 1 ∧ b = 2) {vs : List Value} (h : IntsAre vs [a, b]) : Rise led [a, b] vs := by
  obtain ⟨t, us, rfl, h1⟩ := ints_c h
  obtain ⟨u, us, rfl, h2⟩ := ints_c h1
  obtain rfl := ints_0 h2
  exact rise2 led hab t u
theorem rise_3 (led : Bool) {vs : List Value} (h : IntsAre vs [0, 1, 2]) : Rise led [0, 1, 2] vs := by
  obtain ⟨t, us, rfl, h1⟩ := ints_c h
  obtain ⟨u, us, rfl, h2⟩ := ints_c h1
  obtain ⟨x, us, rfl, h3⟩ := ints_c h2
  obtain rfl := ints_0 h3
  exact rise3' led t u x
theorem rise_of (led : Bool) {ns : List Int} {vs : List Value} (h : rise3.contains ns = true) (hi : IntsAre vs ns) : Rise led ns vs := by
  have a : ∀ ns ∈ rise3, ∀ vs, IntsAre vs ns -> Rise led ns vs := by
    unfold rise3
    exact List.forall_mem_cons.mpr ⟨fun vs h => ints_0 h ▸ rise0 led, List.forall_mem_cons.mpr ⟨fun vs => rise_1 led (.inl rfl), List.forall_mem_cons.mpr ⟨fun vs => rise_1 led (.inr (.inl rfl)), List.forall_mem_cons.mpr ⟨fun vs => rise_1 led (.inr (.inr rfl)),
      List.forall_mem_cons.mpr ⟨fun vs => rise_2 led (.inl ⟨rfl, rfl⟩), List.forall_mem_cons.mpr ⟨fun vs => rise_2 led (.inr (.inl ⟨rfl, rfl⟩)), List.forall_mem_cons.mpr ⟨fun vs => rise_2 led (.inr (.inr ⟨rfl, rfl⟩)), List.forall_mem_cons.mpr ⟨fun vs => rise_3 led, fun ζ z => (List.not_mem_nil z).elim⟩⟩⟩⟩⟩⟩⟩⟩
  exact a ns (List.contains_iff_mem.mp h) vs hi
theorem ints_zip : ∀ {l : List (Int × Value)}, (∀ e ∈ l, IntV e) -> IntsAre (l.map (·.2)) (l.map (·.1))
  | [], _ => .nil
  | (n, v) :: l, h => by
    obtain ⟨_, t, e⟩ := h _ (.head _)
    dsimp only at e
    subst e
    exact .cons n t (ints_zip fun e he => h e (.tail _ he))
section
variable {prog : Program} {w : World} {A : Around} {E : Value -> Shared -> Prop} {s : Shared} {S : Addr}
theorem sorted_set {ns : List Int} {vs : List Value} {Q : Value -> Shared -> Prop} (hh : A.handled = none) (R : Rise (!byT w) ns vs) (hS : SetL s.heap S (!byT w) (ns.zip vs))
    (h : ∀ (h' : Heap) (tk D e : Nat) (out : Array Value), (∀ b o, s.heap.get? b = some o -> h'.get? b = some o) -> s.heap.get? D = none -> h'.get? D = some (seqObj "list" out e) -> IntsAre out.toList ns -> Q (.ref D) { s with heap := h', toks := tk }) :
    wpAny (model prog w) A (call (.builtin "sorted") [.ref S]) Q E s := by
  obtain ⟨ep, hS⟩ := hS
  have k : LOk (!byT w) (ns.zip vs) := by
    have := R.ls.ok _ (Nat.le_refl _)
    rw [List.take_length] at this
    exact this
  have hp := ord_perm (S := S) (ep := ep) k
  refine PySem.Calls.call_function_entry kind_sorted plain_sorted entry_sorted (args_sorted1 _) ?_
  unfold Builtin.«sorted»
  refine wpAny_bind (m := checkCount "sorted" 1 1 _) (wpAny_pure ?_)
  refine wpAny_bind (PySem.W.kdu_collect (A := A.in1) (src_set k R.it S ep) hh hS (Nat.le_trans R.ls.len (by decide)) fun h' tk acc hk hacc => ?_)
  have hacl : acc.toList = (ordS w S ep (ns.zip vs)).map (·.2) := by
    refine List.ext_getElem? fun i => ?_
    rw [List.getElem?_map, Array.getElem?_toList]
    cases q : acc[i]? with
    | some v =>
      obtain ⟨n, q2⟩ := hacc.2 i v q
      rw [q2]
      rfl
    | none =>
      have : acc.size ≤ i := Array.getElem?_eq_none_iff.mp q
      rw [List.getElem?_eq_none (by rw [hp.length_eq, ← hacc.1]; exact this)]
      rfl
  have hl : acc.toList.length ≤ 3 := by rw [hacl, List.length_map, hp.length_eq]; exact R.ls.len
  have hI : IntsAre acc.toList ((ordS w S ep (ns.zip vs)).map (·.1)) := by rw [hacl]; exact ints_zip fun e he => R.ls.int e (hp.mem_iff.mp he)
  refine wpAny_bind (wpAny_newList ?_ (Nat.le_trans hl (by decide)))
  have hoL : (h'.push (seqObj "list" acc.toList.toArray 0)).get? h'.objs.size = some (seqObj "list" acc.toList.toArray 0) := Heap.get?_push_size _ rfl
  refine wpAny_bind (wpAny_holding (wpAny_call_entry slot_list_sort ⟨_, hoL, rfl⟩ entry_list_sort (list_sort_tree hoL hI (Nat.lt_of_le_of_lt hl (by decide)) fun out ns' a1 a2 a3 => ⟨_, rfl, ?_⟩) (args_list_sort _)))
  have e : ns' = ns := (a2.trans ((hp.map _).trans (by rw [R.n]))).eq_of_pairwise (fun x y ζ ζ h1 h2 => Int.le_antisymm h1 h2) a3 R.up
  subst e
  obtain ⟨c, hc⟩ := sortedHeap_at (out := out) hoL
  refine wpAny_pure ⟨_, rfl, h _ _ _ c out (fun b o q => ?_) ?_ hc a1⟩
  . have q' := hk b o q
    rw [sortedHeap_old (Nat.ne_of_lt (Heap.lt_size q')) (by rw [size_push']; exact Nat.lt_succ_of_lt (Heap.lt_size q'))]
    exact Heap.get?_push_of_some _ q'
  . cases q : s.heap.get? h'.objs.size with
    | none => rfl
    | some o => exact absurd (Heap.lt_size (hk _ o q)) (Nat.lt_irrefl _)
end
theorem rds_ints {h : Heap} {F : Addr -> Prop} : ∀ {xs : List PyData} {ns : List Int} {vs : List Value}, intsD xs = some ns -> IntsAre vs ns -> RDs h F vs xs
  | [], ns, vs, q, hi => by
    obtain rfl := Option.some.inj q
    cases hi
    exact .nil
  | x :: xs, ns, vs, q, hi => by
    cases x with
    | int i =>
      refine bind_someE (show ((intsD xs).bind fun is => some (i :: is)) = some ns from q) fun ms q1 q2 => ?_
      obtain rfl := Option.some.inj q2
      rcases hi with _ | ⟨_, t, hi⟩
      exact .cons (.int i t) (rds_ints q1 hi)
    | _ => cases q
section
variable {G : GCtx} {A : Around} {F : Addr -> Prop} {s : Shared} {Q E : Value -> Shared -> Prop}
theorem sortedSet_sound {x : PyData} {r : PyData × Nat} {a : Value} (hr : bltD .sortedSet x = some r) (ra : RD s.heap F a x) (al : Alloc F s.heap) (hh : A.handled = none) (h : ∀ v s', Keeps s s' -> Val F s.heap s'.heap v r -> Q v s') :
    wpAny (model G.prog G.w) A (call (.type "set") [a]) (fun u s₁ => wpAny (model G.prog G.w) A (call (.builtin "sorted") [u]) Q E s₁) E s := by
  cases x with
  | list xs =>
    refine bind_someE hr fun ns q hr => ?_
    refine ifBE hr fun hc hr => ?_
    obtain rfl := Option.some.inj hr
    obtain ⟨l, vs, rfl, hl, -, rl⟩ := ra.list_inv
    have R := rise_of (!byT G.w) hc (intsD_are rl q)
    refine call_set_small hh hl R.ls R.v.symm fun h' tk hS hk => ?_
    refine sorted_set (s := { s with heap := h', toks := tk }) hh R hS fun h₂ tk₂ D e out hk₂ hD hO hI => ?_
    have k1 : KeepsH s.heap h' := fun b o q => hk b o (Heap.lt_size q) q
    have hD' : s.heap.get? D = none := KeepsH.none k1 hD
    have kk : Keeps s { s with heap := h₂, toks := tk₂ } := .put s tk₂ fun b o q => hk₂ b o (k1 b o q)
    have rds : ∀ F' : Addr -> Prop, RDs h₂ F' out.toList xs := fun F' => rds_ints q hI
    exact h _ _ kk ⟨.list ⟨_, hO⟩ (al.fresh hD') (rds F), fun ζ => ⟨_, out, _, rfl, rfl, hD', ⟨_, hO⟩, rds _⟩⟩
  | _ => cases hr
end
end Mine
end
section
set_option maxRecDepth 100000
namespace Mine
open PySem PyProof.Rows
section
variable {G : GCtx} {Φ : Funs} {k : Nat}
theorem one_of {es : PEs} {x : PE} (h : one es = some x) : es = .cons x .nil := by
  cases es with
  | nil => cases h
  | cons y r => cases r with
    | nil => cases h; rfl
    | cons => cases h
theorem ifB {α : Type} {c : Prop} [Decidable c] {x : Option α} {r : α} (h : (if c then x else none) = some r) : c ∧ x = some r := ifB0 h
theorem ifN {α : Type} {c : Bool} {x : Option α} {r : α} (h : (if c then none else x) = some r) : c = false ∧ x = some r := by
  cases c with
  | true => cases h
  | false => exact ⟨rfl, h⟩
theorem backTo_cons (pos : Pos) (x : Sem Value) (r : List (Bool × Sem Value)) : backTo pos ((false, x) :: r) = (false, x) :: backTo pos r := rfl
theorem intD_of {d : PyData} {i : Int} (h : intD d = some i) : d = .int i := by
  cases d with
  | int j => cases h; rfl
  | _ => cases h
theorem listD_of {d : PyData} {i : List PyData} (h : listD d = some i) : d = .list i := by
  cases d with
  | list j => cases h; rfl
  | _ => cases h
theorem cEs_inv {C : Ctx} {as : List PySem.Expr} {ps : PEs} (h : cEs C as = some ps) : (as = [] ∧ ps = .nil) ∨ ∃ e r a b, as = e :: r ∧ ps = .cons a b ∧ cE C e = some a ∧ cEs C r = some b ∧ ∀ env, starEach (e :: r) env = (false, eval e env) :: starEach r env := by
  cases as with
  | nil => cases h; exact .inl ⟨rfl, rfl⟩
  | cons e r =>
    refine cps fun Gq goq => ?_
    revert h
    refine bind_liftR fun p h => ?_
    revert h
    refine bS fun a h1 h => ?_
    revert h
    refine bS fun b h2 h => ?_
    refine goq ?_
    clear goq
    clear Gq
    replace h := Option.some.inj h
    subst h
    exact .inr ⟨e, r, a, b, rfl, rfl, h1, h2, p.1.1 r⟩
theorem es_nn {e : PE} {r : PEs} (h : PEs.cons e r = .nil) : False := cast (congrArg (fun x : PEs => @PEs.casesOn (fun ζ => Prop) x False fun ζ ζ => True) h) trivial
theorem cEs_one {C : Ctx} {as : List PySem.Expr} {x : PE} (h : cEs C as = some (.cons x .nil)) : ∃ a, as = [a] ∧ cE C a = some x ∧ ∀ env, starEach [a] env = [(false, eval a env)] := by
  rcases cEs_inv h with ⟨_, e⟩ | ⟨e, r, a, b, rfl, q, h1, h2, h3⟩
  . exact (es_nn e).elim
  . cases q
    rcases cEs_inv h2 with ⟨rfl, _⟩ | ⟨_, _, _, _, _, q, _⟩
    . exact ⟨e, rfl, h1, h3⟩
    . exact (es_nn q.symm).elim
theorem stars_plain {C : Ctx} {env : Env} {pos : Pos} : ∀ {as : List PySem.Expr} {ps : PEs}, cEs C as = some ps -> (backTo pos (starEach as env)).any (·.1) = false := by
  intro as
  induction as with
  | nil => intro ps h; rfl
  | cons e r ih =>
    intro ps h
    rcases cEs_inv h with ⟨q, _⟩ | ⟨e, r, a, b, q, _, h1, h2, h3⟩
    . cases q
    . cases q
      rw [h3, backTo_cons]
      exact ih h2
theorem args_of {C : Ctx} {env : Env} {pos : Pos} {f : Value} {as : List PySem.Expr} {ps : PEs} (h : cEs C as = some ps) (hne : as.isEmpty = false) {A : Around} {s : Shared} {Q : Args -> Shared -> Prop} {E : Value -> Shared -> Prop}
    (hs : wpAny (model G.prog G.w) A (spliced (backTo pos (starEach as env))) (fun vs s' => Q ⟨vs, []⟩ s') E s) : wpAny (model G.prog G.w) A (evalArgs f true (backTo pos (starEach as env)) []) Q E s := by
  rcases cEs_inv h with ⟨rfl, _⟩ | ⟨e, r, a, b, rfl, _, h1, h2, h3⟩
  . cases hne
  . rw [h3, backTo_cons] at hs ⊢
    exact Calls.evalArgs_plain hs
theorem slice_any {A : Around} {s : Shared} {Q E : Value -> Shared -> Prop} {env : Env} {value : PySem.Expr} {lower upper : Option PySem.Expr} {p pos : Pos}
    (h : wpAny (model G.prog G.w) A (eval value env) (fun o s₁ => wpAny (model G.prog G.w) A (evalPart lower env) (fun vl s₂ => wpAny (model G.prog G.w) A (evalPart upper env) (fun vu s₃ =>
      ∃ l items lo hi, o = .ref l ∧ s₃.heap.IsList l items ∧ items.size ≤ sizeLine ∧ IsPart vl lo ∧ IsPart vu hi ∧
        Q (.ref (s₃.heap.objs.size + 1)) { s₃ with heap := (s₃.heap.push { cls := .type "slice", data := .fields #[vl, vu, .none] }).push { cls := .type "list", data := .seq (slicePick items lo hi none) } }) E s₂) E s₁) E s) :
    wpAny (model G.prog G.w) A (eval (.Subscript value (.Slice lower upper none p) pos) env) Q E s := by
  refine Subscript_ (wpAny_mono h (fun o s₁ h₁ => wpAny_Slice (wpAny_mono h₁ (fun vl s₂ h₂ => wpAny_mono h₂ (fun vu s₃ h₃ => ?_) fun ζ ζ e => e) fun ζ ζ e => e)) fun ζ ζ e => e)
  refine cps fun Gq goq => ?_
  obtain ⟨l, items, lo, hi, rfl, hl, hsz, pl, pu, hQ⟩ := h₃
  refine goq ?_
  clear goq
  clear Gq
  rw [evalPart_none]
  refine wpAny_pure (tail_any (ops := [.ref s₃.heap.objs.size, .ref l]) (hl.push _).typeIs slot_list_getitem.lookup (wpAny_getItem_list_slice (hl.push _) (Heap.IsSliceOf.new ..) pl pu .none (by simp) ?_ hsz) (by with_unfolding_all rfl))
  rw [Heap.size_push]
  exact hQ
theorem name_call {f : Str} {p pos : Pos} {args : List PySem.Expr} {A : Around} {env : Env} {s : Shared} {Q E : Value -> Shared -> Prop}
    (h : wpAny (model G.prog G.w) A (eval (.Name f p) env) (fun f s₁ => wpAny (model G.prog G.w) A (callWith pos f [] (backTo pos (starEach args env)) []) Q E s₁) E s) :
    wpAny (model G.prog G.w) A (eval (.Call (.Name f p) args [] pos) env) Q E s := wpAny_Call_NameR h
noncomputable def bltV : Blt -> Value
  | .len => .builtin "len"
  | .abs => .builtin "abs"
  | .str => .type "str"
  | .int => .type "int"
  | .max => .builtin "max"
  | .sortedSet => .none
noncomputable def calV : Callee -> Value
  | .blt b => bltV b
  | .lst => .type "list"
  | .srt => .builtin "sorted"
  | .anyC => .builtin "any"
  | .allC => .builtin "all"
  | _ => .none
theorem bltC_ok : ∀ p ∈ bltC, bltin.lookup p.1 = some (calV p.2) := by
  intro p hp
  simp only [bltC, List.mem_cons, List.not_mem_nil, or_false] at hp
  rcases hp with rfl | rfl | rfl | rfl | rfl | rfl | rfl | rfl | rfl <;> kernel_rfl
theorem callee1_of {C : Ctx} {f : Str} {c : Callee} (h : callee1 C f = some c) : (∃ j, c = .fn j ∧ C.fn f = some j) ∨ (C.glob f = true ∧ bltin.lookup f = some (calV c)) := by
  unfold callee1 at h
  cases hj : C.fn f with
  | some j =>
    rw [hj] at h
    replace h := ifN h
    obtain ⟨_, h⟩ := h
    replace h := Option.some.inj h
    subst h
    exact .inl ⟨j, rfl, rfl⟩
  | none =>
    rw [hj] at h
    revert h
    refine ifBR fun hg h => ?_
    exact .inr ⟨hg, bltC_ok _ (mem_of_lookup h)⟩
theorem callee_of {C : Ctx} {pos : Pos} {f : PySem.Expr} {ks : List Keyword} {c : Callee} (h : callee C pos f ks = some c) :
    ks = [] ∧ ((∃ x p, f = .Name x p ∧ callee1 C x = some c) ∨ ∃ o n ap m, f = .Attribute o n ap ∧ (ap.endLine == pos.line) = true ∧ mthC.lookup n = some m ∧ c = .mth m) := by
  revert h
  refine ifBR fun hk h => ?_
  refine ⟨List.isEmpty_iff.mp hk, ?_⟩
  cases hx : nm f with
  | some x =>
    rw [hx] at h
    exact .inl ⟨x.1.1, x.1.2, x.2, h⟩
  | none =>
    rw [hx] at h
    refine cps fun Gq goq => ?_
    revert h
    refine bind_subR fun a ha h => ?_
    revert h
    refine ifBR fun hl h => ?_
    refine goq ?_
    clear goq
    clear Gq
    obtain ⟨m, hm, rfl⟩ := Option.map_eq_some_iff.mp h
    exact .inr ⟨_, _, _, m, ha, hl, hm, rfl⟩
theorem isBlt_of {C : Ctx} {b : Str} {f : PySem.Expr} {ks : List Keyword} (h : isBlt C b f ks = true) : ∃ p, f = .Name b p ∧ ks = [] ∧ C.glob b = true := by
  obtain ⟨h1, h2⟩ := Bool.and_eq_true_iff.mp h
  cases hx : nm f with
  | none => rw [hx] at h2; cases h2
  | some x =>
    rw [hx] at h2
    refine cps fun Gq goq => ?_
    obtain ⟨h3, _⟩ := Bool.and_eq_true_iff.mp h2
    obtain ⟨h4, h5⟩ := Bool.and_eq_true_iff.mp h3
    refine goq ?_
    clear goq
    clear Gq
    have h6 := eq_of_beq h4
    exact ⟨x.1.2, h6 ▸ x.2, List.isEmpty_iff.mp h1, h6 ▸ h5⟩
noncomputable def SndE (G : GCtx) (Φ : Funs) (k : Nat) (e : PySem.Expr) : Prop := ∀ (C : Ctx) (pe : PE), cE C e = some pe -> ∀ {γ : Env'} {A : Around} {env : Env} {F : Addr -> Prop} {s : Shared} {r : PyData × Nat} {Q E : Value -> Shared -> Prop},
    H G Φ k C γ A env F s -> evE Φ γ pe = some r -> EPost F s r Q -> wpAny (model G.prog G.w) A (eval e env) Q E s
noncomputable def SndT (G : GCtx) (Φ : Funs) (k : Nat) (e : PySem.Expr) : Prop := ∀ (C : Ctx) (pt : PT), cT C e = some pt -> ∀ {γ : Env'} {A : Around} {env : Env} {F : Addr -> Prop} {s : Shared} {b : Bool} {Q : Bool -> Shared -> Prop} {E : Value -> Shared -> Prop},
    H G Φ k C γ A env F s -> evT Φ γ pt = some b -> (∀ s', Keeps s s' -> Q b s') -> wpAny (model G.prog G.w) A (isTrue e env (eval e env)) Q E s
theorem sE_none {e : PySem.Expr} (h : ∀ C, cE C e = none) : SndE G Φ k e := fun C pe h' => by rw [h C] at h'; cases h'
section
variable {C : Ctx} {γ : Env'} {A : Around} {env : Env} {F : Addr -> Prop} {s : Shared} {E : Value -> Shared -> Prop}
theorem sndEs (es : List PySem.Expr) (ih : ∀ e ∈ es, SndE G Φ k e) (ps : PEs) (h : cEs C es = some ps) (pos : Pos) {xs : List PyData} {Q : List Value -> Shared -> Prop}
    (hH : H G Φ k C γ A env F s) (he : evEs Φ γ ps = some xs) (hQ : ∀ vs s', Keeps s s' -> vs.length = es.length -> RDs s'.heap F vs xs -> Q vs s') : wpAny (model G.prog G.w) A (spliced (backTo pos (starEach es env))) Q E s := by
  induction es generalizing ps xs s Q with
  | nil =>
    replace h := Option.some.inj h
    subst h
    replace he := Option.some.inj he
    subst he
    exact Calls.spliced_nil (hQ _ _ (Keeps.refl s) rfl .nil)
  | cons e r ihr =>
    rcases cEs_inv h with ⟨q, _⟩ | ⟨e, r, a, b, q, rfl, h1, h2, h3⟩
    . cases q
    cases q
    refine cps fun Gq goq => ?_
    revert he
    refine bS fun x e1 he => ?_
    revert he
    refine bS fun ys e2 he => ?_
    refine goq ?_
    clear goq
    clear Gq
    replace he := Option.some.inj he
    subst he
    rw [h3]
    exact Calls.spliced_cons (ih e (.head _) C a h1 hH e1 fun v s₁ k1 v1 => ihr (fun x hx => ih x (.tail _ hx)) b h2 (hH.keeps k1) e2 fun vs s₂ k2 hl r2 => hQ _ _ (k1.trans k2) (congrArg (· + 1) hl) (.cons (v1.1.keeps k2.heap) r2))
theorem sndEo (e : Option PySem.Expr) (ih : ∀ x, e = some x -> SndE G Φ k x) (pe : PE) (h : cEo C e = some pe) {r : PyData × Nat} {Q : Value -> Shared -> Prop}
    (hH : H G Φ k C γ A env F s) (he : evE Φ γ pe = some r) (hQ : EPost F s r Q) : wpAny (model G.prog G.w) A (evalPart e env) Q E s := by
  cases e with
  | none =>
    replace h := Option.some.inj h
    subst h
    replace he := Option.some.inj he
    subst he
    exact wpAny_evalPart_none (hQ _ _ (Keeps.refl s) (.of .none))
  | some e => exact wpAny_evalPart_some (ih e rfl C pe h hH he hQ)
theorem bnd' {α β : Type} {x : Option α} {a : α} {g : α -> Option β} {b : Option β} (h : x = some a) (hb : g a = b) : x.bind g = b := by rw [h]; exact hb
theorem es2 {x y : PE} {a b : PyData × Nat} (h1 : evE Φ γ x = some a) (h2 : evE Φ γ y = some b) : evEs Φ γ (.cons x (.cons y .nil)) = some [a.1, b.1] := bnd' h1 (bnd' (x := (evE Φ γ y).bind _) (bnd' h2 rfl) rfl)
theorem sndOne {as : List PySem.Expr} (ih : ∀ e ∈ as, SndE G Φ k e) {x : PE} (h : cEs C as = some (.cons x .nil)) (pos : Pos) {r : PyData × Nat} {Q : List Value -> Shared -> Prop}
    (hH : H G Φ k C γ A env F s) (he : evE Φ γ x = some r) (hQ : ∀ v s', Keeps s s' -> RD s'.heap F v r.1 -> Q [v] s') : wpAny (model G.prog G.w) A (spliced (backTo pos (starEach as env))) Q E s :=
  sndEs as ih _ h pos hH (xs := [r.1]) (bnd' he rfl) fun vs s₁ k1 ζ r1 => by
    refine cps fun Gq goq => ?_
    obtain ⟨v, ws, rfl, v1, r1⟩ := r1.cons_inv
    refine goq ?_
    clear goq
    clear Gq
    rw [r1.nil_inv]
    exact hQ _ _ k1 v1
theorem sndTwo {as : List PySem.Expr} (ih : ∀ e ∈ as, SndE G Φ k e) {x y : PE} (h : cEs C as = some (.cons x (.cons y .nil))) (pos : Pos) {r u : PyData × Nat} {Q : List Value -> Shared -> Prop}
    (hH : H G Φ k C γ A env F s) (he : evE Φ γ x = some r) (hu : evE Φ γ y = some u) (hQ : ∀ v w s', Keeps s s' -> RD s'.heap F v r.1 -> RD s'.heap F w u.1 -> Q [v, w] s') : wpAny (model G.prog G.w) A (spliced (backTo pos (starEach as env))) Q E s :=
  sndEs as ih _ h pos hH (xs := [r.1, u.1]) (es2 he hu) fun vs s₁ k1 ζ r1 => by
    refine cps fun Gq goq => ?_
    obtain ⟨v, w, rfl, v1, v2⟩ := r1.two_inv
    refine goq ?_
    clear goq
    clear Gq
    exact hQ _ _ _ k1 v1 v2
theorem arg_ne {as : List PySem.Expr} {x : PE} {r : PEs} (h : cEs C as = some (.cons x r)) : as.isEmpty = false := by
  rcases cEs_inv h with ⟨_, e⟩ | ⟨e, r, a, b, rfl, _⟩
  . exact (es_nn e).elim
  . rfl
noncomputable def ItC (C : Ctx) (n : Str) (as : List PySem.Expr) (pi : PI) : Prop := C.glob n = true ∧ ∃ es, cEs C as = some es ∧ ((n = ("range" : Str) ∧ rOf es = some pi) ∨ (n = ("zip" : Str) ∧ zOf es = some pi) ∨ (n = ("enumerate" : Str) ∧ eOf es = some pi))
theorem cR_of {e : PySem.Expr} {pi : PI} (h : cR C e = some pi) : ∃ n p as pos, e = .Call (.Name n p) as [] pos ∧ ItC C n as pi := by
  cases e with
  | Call f as ks pos =>
    replace h : (if isBlt C ("range" : Str) f ks then (cEs C as).bind fun es => rOf es else if isBlt C ("zip" : Str) f ks then (cEs C as).bind fun es => zOf es else if isBlt C ("enumerate" : Str) f ks then (cEs C as).bind fun es => eOf es else none) = some pi := h
    split at h
    . rename_i hb
      refine bind_someE h fun es h1 h2 => ?_
      obtain ⟨p, rfl, rfl, hg⟩ := isBlt_of hb
      exact ⟨_, p, as, pos, rfl, hg, es, h1, .inl ⟨rfl, h2⟩⟩
    . split at h
      . rename_i hb
        refine bind_someE h fun es h1 h2 => ?_
        obtain ⟨p, rfl, rfl, hg⟩ := isBlt_of hb
        exact ⟨_, p, as, pos, rfl, hg, es, h1, .inr (.inl ⟨rfl, h2⟩)⟩
      . revert h
        refine ifBR fun hb h => ?_
        refine bind_someE h fun es h1 h2 => ?_
        obtain ⟨p, rfl, rfl, hg⟩ := isBlt_of hb
        exact ⟨_, p, as, pos, rfl, hg, es, h1, .inr (.inr ⟨rfl, h2⟩)⟩
  | _ => cases h
theorem rOf_of {es : PEs} {pi : PI} (h : rOf es = some pi) : (∃ x, es = .cons x .nil ∧ pi = .r1 x) ∨ (∃ x y, es = .cons x (.cons y .nil) ∧ pi = .r2 x y) := by
  cases es with
  | nil => cases h
  | cons x es => cases es with
    | nil => cases h; exact .inl ⟨x, rfl, rfl⟩
    | cons y es => cases es with
      | nil => cases h; exact .inr ⟨x, y, rfl, rfl⟩
      | cons z es => cases h
theorem zOf_of {es : PEs} {pi : PI} (h : zOf es = some pi) : ∃ x y, es = .cons x (.cons y .nil) ∧ pi = .zip x y := by
  cases es with
  | nil => cases h
  | cons x es => cases es with
    | nil => cases h
    | cons y es => cases es with
      | nil => cases h; exact ⟨x, y, rfl, rfl⟩
      | cons z es => cases h
theorem eOf_of {es : PEs} {pi : PI} (h : eOf es = some pi) : ∃ x, es = .cons x .nil ∧ pi = .enum x := by
  cases es with
  | nil => cases h
  | cons x es => cases es with
    | nil => cases h; exact ⟨x, rfl, rfl⟩
    | cons y es => cases h
noncomputable abbrev IPost (G : GCtx) (A : Around) (F : Addr -> Prop) (s : Shared) (pi : PI) (xs : List PyData) (Q : Value -> Shared -> Prop) : Prop := ∀ hD I fp wr St Mid s', Iter G A F (tuW pi) xs s s' hD I fp wr St Mid -> Q (.ref I) s'
theorem sndR (e : PySem.Expr) (pi : PI) (h : cR C e = some pi) (ih : ∀ n p bs pos, e = .Call (.Name n p) bs [] pos -> ∀ b ∈ bs, SndE G Φ k b) {xs : List PyData} {Q : Value -> Shared -> Prop}
    (hH : H G Φ k C γ A env F s) (he : evI Φ γ pi = some xs) (hQ : IPost G A F s pi xs Q) :
    wpAny (model G.prog G.w) A (eval e env) (fun x s₁ => wpAny (model G.prog G.w) A (pyIter x) Q E s₁) E s := by
  refine cps fun Gq goq => ?_
  obtain ⟨n, p, as, pos, rfl, hg, es, h1, hn⟩ := cR_of h
  refine goq ?_
  clear goq
  clear Gq
  have ihb := ih n p as pos rfl
  clear ih h
  have go : ∀ c : String, bltin.lookup n = some (.type c) -> wpAny (model G.prog G.w) A (spliced (backTo pos (starEach as env))) (fun vs s₁ => wpAny (model G.prog G.w) A (call (.type c) vs) (fun x s₁ => wpAny (model G.prog G.w) A (pyIter x) Q E s₁) E s₁) E s -> as.isEmpty = false ->
      wpAny (model G.prog G.w) A (eval (.Call (.Name n p) as [] pos) env) (fun x s₁ => wpAny (model G.prog G.w) A (pyIter x) Q E s₁) E s := fun c hc h hne =>
    name_call (name_blt hH hg hc (PySem.callWith_type (stars_plain h1) (args_of h1 hne h)) (bltin_debug hc))
  rcases hn with ⟨rfl, h2⟩ | ⟨rfl, h2⟩ | ⟨rfl, h2⟩
  . rcases rOf_of h2 with ⟨x, rfl, rfl⟩ | ⟨x, y, rfl, rfl⟩
    . revert he
      refine bS fun y e1 he => ?_
      refine cps fun Gq goq => ?_
      revert he
      refine bS fun j e2 he => ?_
      replace he := ifSo he
      obtain ⟨ok, he⟩ := he
      refine goq ?_
      clear goq
      clear Gq
      replace he := Option.some.inj he
      subst he
      refine go "range" (by kernel_rfl) (sndOne ihb h1 pos hH e1 fun v s₁ k1 v1 => ?_) (arg_ne h1)
      rw [intD_of e2] at v1
      obtain ⟨t, rfl⟩ := v1.int_inv
      exact iter_r1 hH.ok.hh ok k1 hQ
    . revert he
      refine bS fun x' e1 he => ?_
      refine cps fun Gq goq => ?_
      revert he
      refine bS fun i e2 he => ?_
      revert he
      refine bS fun y' e3 he => ?_
      revert he
      refine bS fun j e4 he => ?_
      replace he := ifSo he
      obtain ⟨ok, he⟩ := he
      replace he := Option.some.inj he
      subst he
      obtain ⟨o1, o2⟩ := Bool.and_eq_true_iff.mp ok
      refine goq ?_
      clear goq
      clear Gq
      refine go "range" (by kernel_rfl) (sndTwo ihb h1 pos hH e1 e3 fun v w s₁ k1 v1 v2 => ?_) (arg_ne h1)
      rw [intD_of e2] at v1
      rw [intD_of e4] at v2
      obtain ⟨t, rfl⟩ := v1.int_inv
      obtain ⟨u, rfl⟩ := v2.int_inv
      exact iter_r2 hH.ok.hh o1 k1 (of_decide_eq_true o2) hQ
  . obtain ⟨x, y, rfl, rfl⟩ := zOf_of h2
    refine cps fun Gq goq => ?_
    revert he
    refine bS fun x' e1 he => ?_
    revert he
    refine bS fun xs' e2 he => ?_
    revert he
    refine bS fun y' e3 he => ?_
    revert he
    refine bS fun ys' e4 he => ?_
    replace he := ifSo he
    obtain ⟨ok, he⟩ := he
    replace he := Option.some.inj he
    subst he
    obtain ⟨o1, o2⟩ := Bool.and_eq_true_iff.mp ok
    refine goq ?_
    clear goq
    clear Gq
    refine go "zip" (by kernel_rfl) (sndTwo ihb h1 pos hH e1 e3 fun v w s₁ k1 v1 v2 => ?_) (arg_ne h1)
    rw [listD_of e2] at v1
    rw [listD_of e4] at v2
    exact iter_zip hH.ok.hh v1 v2 k1 (of_decide_eq_true o1) (of_decide_eq_true o2) hQ
  . obtain ⟨x, rfl, rfl⟩ := eOf_of h2
    refine cps fun Gq goq => ?_
    revert he
    refine bS fun x' e1 he => ?_
    revert he
    refine bS fun xs' e2 he => ?_
    replace he := ifSo he
    obtain ⟨ok, he⟩ := he
    refine goq ?_
    clear goq
    clear Gq
    replace he := Option.some.inj he
    subst he
    refine go "enumerate" (by kernel_rfl) (sndOne ihb h1 pos hH e1 fun v s₁ k1 v1 => ?_) (arg_ne h1)
    rw [listD_of e2] at v1
    exact iter_enum hH.ok.hh v1 k1 ok hQ
theorem sndI (e : PySem.Expr) (pi : PI) (h : (cR C e).or ((cE C e).map PI.of) = some pi) (ihE : SndE G Φ k e) (ih : ∀ n p bs pos, e = .Call (.Name n p) bs [] pos -> ∀ b ∈ bs, SndE G Φ k b) {xs : List PyData} {Q : Value -> Shared -> Prop}
    (hH : H G Φ k C γ A env F s) (he : evI Φ γ pi = some xs) (hQ : IPost G A F s pi xs Q) :
    wpAny (model G.prog G.w) A (eval e env) (fun x s₁ => wpAny (model G.prog G.w) A (pyIter x) Q E s₁) E s := by
  rcases Option.or_eq_some_iff.mp h with h | ⟨_, h⟩
  . exact sndR e pi h ih hH he hQ
  . obtain ⟨a, h1, rfl⟩ := Option.map_eq_some_iff.mp h
    refine cps fun Gq goq => ?_
    revert he
    refine bS fun x e1 he => ?_
    revert he
    refine bS fun ys e2 he => ?_
    replace he := ifSo he
    obtain ⟨hl, he⟩ := he
    refine goq ?_
    clear goq
    clear Gq
    replace he := Option.some.inj he
    subst he
    exact ihE C a h1 hH e1 fun v s₁ k1 v1 => iter_seq (F := F) hH.ok.hh e2 hl v1.1 fun hD I fp wr St Mid s' it => hQ hD I fp wr St Mid s' (it.back k1)
end
end
end Mine
end
section
set_option maxRecDepth 100000
namespace Mine
open PySem PyProof.Rows
theorem rd_none {h : Heap} {F : Addr -> Prop} {v : Value} {d : PyData} (x : RD h F v d) : (v == Value.none) = isNoD d := by
  cases d with
  | none => rw [x.none_inv]; rfl
  | bool b => rw [x.bool_inv]; rfl
  | int i => obtain ⟨t, rfl⟩ := x.int_inv; rfl
  | str i => obtain ⟨t, rfl⟩ := x.str_inv; rfl
  | list xs => obtain ⟨a, vs, rfl, _⟩ := x.list_inv; rfl
  | tuple xs => obtain ⟨a, vs, rfl, _⟩ := x.tuple_inv; rfl
  | dict kvs => exact x.elim
section
variable {G : GCtx} {Φ : Funs} {k : Nat}
theorem sE_Constant (c : Const) (kk : Nat) (pos : Pos) : SndE G Φ k (.Constant c kk pos) := fun C pe h {γ A env F s r Q E} hH he hQ => by
  obtain ⟨d, hd, rfl⟩ := Option.map_eq_some_iff.mp (show (cConst c).map PE.lit = some pe from h)
  replace he := Option.some.inj he
  subst he
  exact sndConst hd hQ
theorem sE_BinOp {l r : PySem.Expr} (op : Operator) (pos : Pos) (ihl : SndE G Φ k l) (ihr : SndE G Φ k r) : SndE G Φ k (.BinOp l op r pos) := fun C pe h {γ A env F s r' Q E} hH he hQ => by
  refine cps fun Gq goq => ?_
  revert h
  refine bS fun o h0 h => ?_
  revert h
  refine bS fun a h1 h => ?_
  revert h
  refine bS fun b h2 h => ?_
  replace h := Option.some.inj h
  subst h
  revert he
  refine bS fun x e1 he => ?_
  revert he
  refine bS fun y e2 he => ?_
  refine goq ?_
  clear goq
  clear Gq
  refine wpAny_BinOp (ihl C a h1 hH e1 fun v s₁ k1 v1 => ihr C b h2 (hH.keeps k1) e2 fun w s₂ k2 v2 => ?_)
  have k12 := k1.trans k2
  exact binD_sound (F := F) h0 he (v1.1.keeps k2.heap) v2.1 (hH.keeps k12).al fun u s₃ k3 v3 => hQ _ _ (k12.trans k3) (v3.back k12.heap)
theorem sE_UnaryOp {x : PySem.Expr} (op : UnaryOp) (pos : Pos) (ih : SndE G Φ k x) : SndE G Φ k (.UnaryOp op x pos) := fun C pe h {γ A env F s r Q E} hH he hQ => by
  replace h : (if op == .USub then (cE C x).bind fun a => some (.neg a) else none) = some pe := h
  revert h
  refine ifBR fun ho h => ?_
  replace ho := eq_of_beq ho
  subst ho
  revert h
  refine bS fun a h1 h => ?_
  replace h := Option.some.inj h
  subst h
  revert he
  refine bS fun y e1 he => ?_
  revert he
  refine bS fun i e2 he => ?_
  replace he := Option.some.inj he
  subst he
  refine wpAny_UnaryOp (ih C a h1 hH e1 fun v s₁ k1 v1 => ?_)
  have v1 := v1.1
  rw [intD_of e2] at v1
  obtain ⟨t, rfl⟩ := v1.int_inv
  exact PyProof.Rows.neg_int (hQ _ _ (k1.trans (Keeps.tok _ _)) (.of (.int _ _)))
theorem sE_Tuple {es : List PySem.Expr} (kk : Nat) (pos : Pos) (ih : ∀ e ∈ es, SndE G Φ k e) : SndE G Φ k (.Tuple es kk pos) := fun C pe h {γ A env F s r Q E} hH he hQ => by
  replace h : (if es.length ≤ lenLim then (cEs C es).bind fun a => some (.tup a) else none) = some pe := h
  revert h
  refine ifBR fun hlen h => ?_
  revert h
  refine bS fun a h1 h => ?_
  replace h := Option.some.inj h
  subst h
  revert he
  refine bS fun xs e1 he => ?_
  replace he := Option.some.inj he
  subst he
  exact wpAny_Tuple (sndEs es ih a h1 pos hH e1 fun vs s₁ k1 hl r1 => ⟨lenLim_size (hl ▸ hlen), hQ _ _ (k1.trans (Keeps.push _ _)) (.of (RD.pushTuple (hH.keeps k1).al r1))⟩)
theorem sE_List {es : List PySem.Expr} (pos : Pos) (ih : ∀ e ∈ es, SndE G Φ k e) : SndE G Φ k (.List es pos) := fun C pe h {γ A env F s r Q E} hH he hQ => by
  replace h : (if es.length ≤ lenLim then (cEs C es).bind fun a => some (.lst a) else none) = some pe := h
  revert h
  refine ifBR fun hlen h => ?_
  revert h
  refine bS fun a h1 h => ?_
  replace h := Option.some.inj h
  subst h
  revert he
  refine bS fun xs e1 he => ?_
  replace he := Option.some.inj he
  subst he
  exact wpAny_List (sndEs es ih a h1 pos hH e1 fun vs s₁ k1 hl r1 => ⟨lenLim_size (hl ▸ hlen), hQ _ _ (k1.trans (Keeps.push _ _)) ((Val.pushList (hH.keeps k1).al r1).back k1.heap)⟩)
theorem sE_Subscript {v i : PySem.Expr} (pos : Pos) (ihv : SndE G Φ k v) (ihi : SndE G Φ k i) (ihs : ∀ lo hi st sp, i = .Slice lo hi st sp -> (∀ x, lo = some x -> SndE G Φ k x) ∧ ∀ x, hi = some x -> SndE G Φ k x) : SndE G Φ k (.Subscript v i pos) := fun C pe h {γ A env F s r Q E} hH he hQ => by
  revert h
  refine bS fun a h1 h => ?_
  cases hx : ixOk i with
  | some hs =>
    rw [hx] at h
    revert h
    refine bS fun b h2 h => ?_
    replace h := Option.some.inj h
    subst h
    revert he
    refine bS fun x' e1 he => ?_
    revert he
    refine bS fun y e2 he => ?_
    exact Subscript_ (ihv C a h1 hH e1 fun u s₁ k1 v1 => ihi C b h2 (hH.keeps k1) e2 fun w s₂ k2 v2 => idx_sound (F := F) he (v1.1.keeps k2.heap) v2.1 hs.1 fun u v3 => hQ _ _ (k1.trans k2) (v3.back (k1.trans k2).heap))
  | none =>
    rw [hx] at h
    cases i with
    | Slice lo hi st sp =>
      refine cps fun Gq goq => ?_
      replace h : (if st.isNone then (cEo C lo).bind fun b => (cEo C hi).bind fun c => some (.sl a b c) else none) = some pe := h
      revert h
      refine ifBR fun hst h => ?_
      replace hst := Option.isNone_iff_eq_none.mp hst
      revert h
      refine bS fun b h2 h => ?_
      revert h
      refine bS fun c h3 h => ?_
      replace h := Option.some.inj h
      subst h
      revert he
      refine bS fun x e1 he => ?_
      revert he
      refine bS fun y e2 he => ?_
      revert he
      refine bS fun z e3 he => ?_
      refine goq ?_
      clear goq
      clear Gq
      rw [hst]
      refine slice_any (ihv C a h1 hH e1 fun u s₁ k1 v1 => sndEo lo (ihs lo hi st sp rfl).1 b h2 (hH.keeps k1) e2 fun u2 s₂ k2 v2 => sndEo hi (ihs lo hi st sp rfl).2 c h3 (hH.keeps (k1.trans k2)) e3 fun u3 s₃ k3 v3 => ?_)
      have k13 := k1.trans (k2.trans k3)
      exact slice_sound (F := F) he (v1.1.keeps (k2.trans k3).heap) (v2.1.keeps k3.heap) v3.1 (hH.keeps k13).al fun u s₄ k4 v4 => hQ _ _ (k13.trans k4) (v4.back k13.heap)
    | _ => cases h
theorem sE_IfExp {t a b : PySem.Expr} (pos : Pos) (iht : SndT G Φ k t) (iha : SndE G Φ k a) (ihb : SndE G Φ k b) : SndE G Φ k (.IfExp t a b pos) := fun C pe h {γ A env F s r Q E} hH he hQ => by
  revert h
  refine bS fun t' h1 h => ?_
  revert h
  refine bS fun a' h2 h => ?_
  revert h
  refine bS fun b' h3 h => ?_
  replace h := Option.some.inj h
  subst h
  revert he
  refine bS fun c e1 he => ?_
  refine wpAny_IfExp (iht C t' h1 hH e1 fun s₁ k1 => ?_)
  have hQ' : EPost F s₁ r Q := fun v s' k2 v2 => hQ _ _ (k1.trans k2) (v2.back k1.heap)
  cases c with
  | true => exact iha C a' h2 (hH.keeps k1) he hQ'
  | false => exact ihb C b' h3 (hH.keeps k1) he hQ'
theorem sndCmp {l : PySem.Expr} {ops : List CmpOp} {rs : List PySem.Expr} (ihl : SndE G Φ k l) (ihr : ∀ r ∈ rs, SndE G Φ k r) {C : Ctx} {t : PT} (h : cmpX ops rs (cE C l) (cEs C rs) = some t) {γ : Env'} {A : Around} {env : Env} {F : Addr -> Prop} {s : Shared} {b : Bool} {Q E : Value -> Shared -> Prop}
    (hH : H G Φ k C γ A env F s) (he : evT Φ γ t = some b) (hQ : ∀ s', Keeps s s' -> Q (.bool b) s') :
    ∃ op r, ops = [op] ∧ rs = [r] ∧ behindInMarks op r = false ∧ wpAny (model G.prog G.w) A (eval l env) (fun v s₁ => wpAny (model G.prog G.w) A (eval r env) (fun w s₂ => wpAny (model G.prog G.w) A (compareOp op v w) Q E s₂) E s₁) E s := by
  refine bind_subE h fun op q1 h1 => ?_
  refine bind_subE h1 fun r q2 h2 => ?_
  clear h h1
  subst q1 q2
  obtain ⟨hm, h⟩ := ifN h2
  clear h2
  refine ⟨op, r, rfl, rfl, hm, ?_⟩
  cases hn : isNoneC op r with
  | some nb =>
    rw [hn] at h
    revert h
    refine bS fun a h1 h => ?_
    replace h := Option.some.inj h
    try clear q1
    try clear q2
    try clear hm
    subst h
    refine bind_subE hn fun c q3 hn2 => ?_
    clear hn
    subst q3
    refine bind_liftE hn2 fun hc hn => ?_
    clear hn2
    rw [hc]
    have fin : ∀ {x : PyData × Nat}, evE Φ γ a = some x -> (∀ v s₁, Keeps s s₁ -> RD s₁.heap F v x.1 -> wpAny (model G.prog G.w) A (compareOp op v .none) Q E s₁) -> wpAny (model G.prog G.w) A (eval l env) (fun v s₁ => wpAny (model G.prog G.w) A (eval (.Constant .none c.2.1 c.2.2) env) (fun w s₂ => wpAny (model G.prog G.w) A (compareOp op v w) Q E s₂) E s₁) E s :=
      fun e1 q => ihl C a h1 hH e1 fun v s₁ k1 v1 => wpAny_Constant_none (q v s₁ k1 v1.1)
    split at hn
    . rename_i ho
      replace hn := Option.some.inj hn
      try clear op
      try clear c
      try clear q3
      try clear hn2
      try clear hc
      subst hn
      rw [eq_of_beq ho] at fin ⊢
      revert he
      refine bS fun x e1 he => ?_
      replace he := Option.some.inj he
      subst he
      exact fin e1 fun v s₁ k1 v1 => is_none_gen (rd_none v1 ▸ hQ s₁ k1)
    . revert hn
      refine ifBR fun ho hn => ?_
      replace hn := Option.some.inj hn
      subst hn
      rw [eq_of_beq ho] at fin ⊢
      revert he
      refine bS fun x e1 he => ?_
      replace he := Option.some.inj he
      try clear ho
      subst he
      exact fin e1 fun v s₁ k1 v1 => isnot_none_gen (rd_none v1 ▸ hQ s₁ k1)
  | none =>
    rw [hn] at h
    refine cps fun Gq goq => ?_
    revert h
    refine bS fun o h0 h => ?_
    revert h
    refine bS fun a h1 h => ?_
    revert h
    refine bS fun bs h2 h => ?_
    revert h
    refine bS fun b' h3 h => ?_
    replace h := Option.some.inj h
    try clear hn
    try clear fin
    try clear o
    try clear bs
    subst h
    rw [one_of h3] at h2
    obtain ⟨r', q, hr, _⟩ := cEs_one h2
    try clear h2
    try clear h
    try clear h3
    try clear r'
    cases q
    revert he
    refine bS fun x e1 he => ?_
    revert he
    refine bS fun y e2 he => ?_
    refine goq ?_
    clear goq
    clear Gq
    exact ihl C a h1 hH e1 fun v s₁ k1 v1 => ihr r (.head _) C b' hr (hH.keeps k1) e2 fun w s₂ k2 v2 => cmpD_sound (F := F) h0 he (v1.1.keeps k2.heap) v2.1 (by have := hH.ok.un; omega) (hQ _ (k1.trans k2))
theorem sE_Compare {l : PySem.Expr} {ops : List CmpOp} {rs : List PySem.Expr} (pos : Pos) (ihl : SndE G Φ k l) (ihr : ∀ r ∈ rs, SndE G Φ k r) : SndE G Φ k (.Compare l ops rs pos) := fun C pe h {γ A env F s r Q E} hH he hQ => by
  revert h
  refine bS fun t h1 h => ?_
  replace h := Option.some.inj h
  subst h
  revert he
  refine bS fun b e1 he => ?_
  replace he := Option.some.inj he
  subst he
  obtain ⟨op, r, rfl, rfl, hm, w⟩ := sndCmp (Q := Q) (E := E) ihl ihr h1 hH e1 fun s' k1 => hQ _ _ k1 (.of (.bool b))
  exact wpAny_Compare1 w hm
theorem sT_Compare {l : PySem.Expr} {ops : List CmpOp} {rs : List PySem.Expr} (pos : Pos) (ihl : SndE G Φ k l) (ihr : ∀ r ∈ rs, SndE G Φ k r) : SndT G Φ k (.Compare l ops rs pos) := fun C pt h {γ A env F s b Q E} hH he hQ => by
  obtain ⟨op, r, rfl, rfl, hm, w⟩ := sndCmp (Q := fun c s₃ => wpAny (model G.prog G.w) A (truthy c) Q E s₃) (E := E) ihl ihr h hH he fun s' k1 => wpAny_truthy_bool (hQ s' k1)
  exact wpAny_isTrue_Compare1 w hm
theorem gen1_of {gens : List Comprehension} {g : Gen1} (h : gen1 gens = some g) : ∃ tg iter ifs, gens = [⟨tg, iter, ifs, 0⟩] ∧ TgtE tg g.xs ∧ g.tests = !ifs.isEmpty := by
  refine cps fun Gq goq => ?_
  refine bind_subE h fun c q h2 => ?_
  clear h
  subst q
  refine ifBE h2 fun ha h => ?_
  clear h2
  revert h
  refine bS fun xs h1 h => ?_
  replace h := Option.some.inj h
  try clear q
  try clear h2
  try clear xs
  subst h
  obtain ⟨tg, iter, ifs, a⟩ := c
  refine goq ?_
  clear goq
  clear Gq
  replace ha : a = 0 := eq_of_beq ha
  try clear Gq
  try clear goq
  try clear c
  try clear h
  subst ha
  exact ⟨tg, iter, ifs, rfl, tgts_of h1, rfl⟩
theorem sndIfs {ifs : List PySem.Expr} (ih : ∀ e ∈ ifs, SndT G Φ k e) {C : Ctx} {t : PT} (h : cIf C ifs = some t) {γ : Env'} {A : Around} {env : Env} {F : Addr -> Prop} {s : Shared} {b : Bool} {Q : Bool -> Shared -> Prop} {E : Value -> Shared -> Prop}
    (hH : H G Φ k C γ A env F s) (he : evT Φ γ t = some b) (hQ : ∀ s', Keeps s s' -> Q b s') : wpAny (model G.prog G.w) A (testsOf ifs env) Q E s := by
  cases ifs with
  | nil => cases h; cases he; exact wpAny_tests_nil (hQ _ (Keeps.refl s))
  | cons e r =>
    replace h : (if r.isEmpty then cT C e else none) = some t := h
    revert h
    refine ifBR fun hr h => ?_
    rw [List.isEmpty_iff.mp hr]
    exact wpAny_tests_one (ih e (.head _) C t h hH he hQ)
noncomputable def cOut : Option (PyData × Nat) -> COut
  | some r => .val r
  | none => .skip
theorem vals_cOut (rs : List (Option (PyData × Nat))) : vals (rs.map cOut) = rs.filterMap id := by
  unfold vals
  rw [List.filterMap_map]
  congr 1
  funext o
  cases o <;> rfl
theorem tgt_len {tg : PySem.Expr} {xs : List Str} (t : TgtE tg xs) : xs.length = 1 ∨ xs.length = 2 := by cases t <;> simp
theorem bindC_two {n : Nat} {d : PyData} {γ g : Env'} (h : bindC n d γ = some g) (hn : n = 2) : ∃ es, d = .tuple es ∧ es.length = 2 := by
  subst hn
  cases d with
  | tuple ds => exact ⟨ds, rfl, (ifB (show (if ds.length = 2 then some (ds.map Slot.pl ++ γ) else none) = some g from h)).1⟩
  | _ => cases h
theorem comp_fin {F : Addr -> Prop} {A : Around} {s s₂ s' : Shared} {tw : Bool} {xs : List PyData} {os : List COut} {hD : Heap} {I D Cc : Addr} {fp wr : List Addr} {St : Nat -> Heap -> Prop} {Mid : Nat -> Value -> Heap -> Prop} {h'' : Heap} {m' : Str -> Option Value} {ys : Array Value} {Z : Addr -> Prop}
    (it : Iter G A F tw xs s s₂ hD I fp wr St Mid) (al : Alloc F s.heap) (hDn : s₂.heap.get? D = none) (hC : s₂.heap.get? Cc = none) (hDC : D ≠ Cc) (sm : Sm s₂ s') (hns : s'.heap.Ns Cc m') (hl : s'.heap.PlainList D ys) (zD : Z D) (hm : Made F Z s'.heap ys.toList (vals os))
    (hkp : ∀ b o, b ∉ wr -> s₂.heap.get? b = some o -> s'.heap.get? b = some o) (hs : Heap.SameBut Cc s'.heap h'') :
    Keeps s { s' with heap := h'' } ∧ Val F s.heap h'' (.ref D) (mkL (vals os)) := by
  refine ⟨⟨(it.keeps.sm.trans sm).puts h'' s'.toks, fun b o e => ?_⟩, ?_⟩
  . have e2 := it.keeps.heap b o e
    exact hs.extBut b o (fun z => absN e2 (z ▸ hC)) (hkp b o (fun hw => absN (it.kD b o e) (it.new b hw)) e2)
  . have hm' : Made F Z h'' ys.toList (vals os) := hm.frame fun b o vs n ζ e e2 => hs.extBut b o (fun z => by
      try clear hm
      subst z
      obtain ⟨o', es, ep, z1, z2, _⟩ := hns
      rw [e] at z1; cases z1; rw [e2] at z2; cases z2) e
    exact hm'.val zD (let ⟨n, ho⟩ := hl; ⟨n, hs.extBut D _ hDC ho⟩) hDn it.keeps.heap (al.keeps it.keeps.heap)
theorem cGs_one {C C' : Ctx} {tg iter : PySem.Expr} {ifs : List PySem.Expr} {it : PI × PT} (h : cGs C C' [⟨tg, iter, ifs, 0⟩] = some it) : (∀ env x, foldedSetIterable iter env x = pure x) ∧ (cR C iter).or ((cE C iter).map PI.of) = some it.1 ∧ cIf C' ifs = some it.2 := by
  revert h
  refine bind_liftR fun p h => ?_
  revert h
  refine bS fun i h1 h => ?_
  revert h
  refine bS fun t h2 h => ?_
  replace h := Option.some.inj h
  try clear i
  try clear t
  subst h
  exact ⟨p.2, h1, h2⟩
theorem tgtOk_tw {n : Nat} {i : PI} (h : tgtOk n i = true) : tuW i = true -> n = 2 := fun q => by
  rcases Bool.or_eq_true_iff.mp h with h | h
  . exact eq_of_beq h
  . rw [q] at h; cases h
structure CompI (G : GCtx) (Φ : Funs) (k : Nat) (elt : PySem.Expr) (gens : List Comprehension) : Prop where
  elt : SndE G Φ k elt
  iter : ∀ tg iter ifs, gens = [⟨tg, iter, ifs, 0⟩] -> SndE G Φ k iter ∧ (∀ n p bs pos, iter = .Call (.Name n p) bs [] pos -> ∀ b ∈ bs, SndE G Φ k b) ∧ ∀ e ∈ ifs, SndT G Φ k e
theorem sndComp {elt : PySem.Expr} {gens : List Comprehension} {sc : Scope} {pos : Pos} (I : CompI G Φ k elt gens) {C : Ctx} {pe : PE} (h : cE C (.ListComp elt gens sc pos) = some pe) {γ : Env'} {A : Around} {env : Env} {F : Addr -> Prop} {s : Shared} {r : PyData × Nat} {E : Value -> Shared -> Prop}
    (hH : H G Φ k C γ A env F s) (he : evE Φ γ pe = some r) :
    ∃ tg iter ifs, gens = [⟨tg, iter, ifs, 0⟩] ∧ (∀ x, foldedSetIterable iter env x = pure x) ∧ closureFor sc env = pure (clL env sc.names []) ∧ sc.kind = .function ∧ (∀ x ∈ sc.names, x.2 = .local -> sc.names.lookup x.1 = some .local) ∧
      ∀ RR : Value -> Addr -> Result -> Shared -> Prop, (∀ D Cc s' m' ys, s.heap.get? Cc = none -> s'.heap.Ns Cc m' -> s'.heap.PlainList D ys -> (∀ h'', Heap.SameBut Cc s'.heap h'' -> Keeps s { s' with heap := h'' } ∧ Val F s.heap h'' (.ref D) r) -> RR (.ref D) Cc (.ok .next) s') ->
        wpAny (model G.prog G.w) A (eval iter env) (fun x s₁ => wpAny (model G.prog G.w) A (pyIter x) (fun it s₂ => wpAny (model G.prog G.w) A (newList []) (fun acc s₃ => wpAny (model G.prog G.w) A (newFunctionEnv sc env.globals (clL env sc.names []) [] env.qual none .none (some env)) (fun cenv s₄ =>
          codeAny (model G.prog G.w) A (.compStart (.ListComp elt gens sc pos) 0 it acc { cenv with scope := relabel sc env }) (RR acc cenv.locals) s₄) E s₃) E s₂) E s₁) E s := by
  refine cps fun Gq goq => ?_
  revert h
  refine bS fun g h1 h => ?_
  revert h
  refine ifBR fun hc h => ?_
  replace hc := CompOk.of hc
  revert h
  refine bS fun it h2 h => ?_
  revert h
  refine bS fun a h3 h => ?_
  revert h
  refine ifBR fun ht h => ?_
  replace h := Option.some.inj h
  subst h
  try clear h
  obtain ⟨tg, iter, ifs, rfl, te, _⟩ := gen1_of h1
  obtain ⟨hfold, h4, h5⟩ := cGs_one h2
  obtain ⟨ie, ia, ii⟩ := I.iter tg iter ifs rfl
  revert he
  refine bS fun xs e1 he => ?_
  revert he
  refine bS fun rs e2 he => ?_
  replace he := Option.some.inj he
  try clear h1
  try clear h2
  try clear tg
  try clear ifs
  try clear xs
  subst he
  obtain ⟨hlen, hall⟩ := mapM_some e2
  refine goq ?_
  clear goq
  clear Gq
  refine ⟨_, _, _, rfl, hfold env, comp_closure hc hH.env, hc.kind, hc.names, fun RR hRR => ?_⟩
  refine sndI iter it.1 h4 ie ia hH e1 fun hD I' fp wr St Mid s₂ iti => ?_
  refine comp_core (os := rs.map cOut) (RR := RR) (XE := fun ζ ζ ζ => False) hH.ok.hh iti hH.al te (te.nodup hc) (fun q => tgtOk_tw ht q) (fun hn i d hi ζ => ?_) hc.kind (comp_tg hc) (by rw [List.length_map]; exact hlen) ?_ (fun ζ ζ ζ ζ ζ ζ ζ ζ ζ ζ ζ z => z.elim) ?_
  . obtain ⟨o, q, _⟩ := hall i d hi
    replace q := bind_some q
    obtain ⟨γ', q, _⟩ := q
    exact bindC_two q hn
  . intro i d o Cc s₃ F' Qt Qf E' hd ho _ hold ks hF' al' hf hv _
    refine cps fun Gq goq => ?_
    obtain ⟨o', q, ho'⟩ := hall i d hd
    rw [List.getElem?_map, ho'] at ho
    replace ho := Option.some.inj ho
    try clear it
    try clear ht
    try clear iter
    try clear te
    try clear hfold
    try clear h4
    try clear ie
    try clear ia
    try clear e1
    try clear he
    try clear e2
    try clear hlen
    try clear hall
    try clear hD
    try clear I'
    try clear fp
    try clear wr
    try clear St
    try clear Mid
    try clear s₂
    try clear o
    try clear i
    try clear d
    try clear Qt
    try clear Qf
    try clear E'
    try clear hd
    try clear ho'
    subst ho
    replace q := bind_some q
    obtain ⟨γ', q1, q⟩ := q
    revert q
    refine bS fun b q2 q => ?_
    refine goq ?_
    clear goq
    clear Gq
    have hH3 : H G Φ k (compCtx C g.xs sc) γ' A (cEnv sc (clL env sc.names []) Cc env) F' s₃ := ⟨hH.g, hH.real, ⟨hH.cg.fns, hH.cg.excs⟩, hH.ok.keeps ks, comp_env hc hH.env q1 hold ks hF', al'⟩
    refine sndIfs ii h5 hH3 q2 fun s₄ k4 => ?_
    cases b with
    | false =>
      replace q := Option.some.inj q
      try clear Gq
      try clear goq
      try clear g
      try clear hc
      try clear h5
      try clear ii
      try clear s₃
      try clear F'
      try clear ho
      try clear hold
      try clear ks
      try clear hF'
      try clear al'
      try clear q1
      try clear b
      try clear q2
      subst q
      exact hf s₄ rfl k4
    | true =>
      try clear hf
      try clear s₄
      obtain ⟨r, q3, rfl⟩ := Option.map_eq_some_iff.mp (show (evE Φ γ' a).map some = some o' from q)
      exact I.elt _ a h3 (hH3.keeps k4) q3 fun v s₅ k5 v5 => hv r v s₅ rfl (k4.trans k5) (v5.back k4.heap)
  . intro D Cc s' m' ys hDn hC hDC sm hns hl hm hkp _
    rw [vals_cOut] at hm
    refine hRR D Cc s' m' ys (KeepsH.none iti.keeps.heap hC) hns hl fun h'' hs => ?_
    have := comp_fin (os := rs.map cOut) iti hH.al hDn hC hDC sm hns hl (Or.inl rfl) (by rw [vals_cOut]; exact hm) hkp hs
    rw [vals_cOut] at this
    exact this
theorem sE_ListComp {elt : PySem.Expr} {gens : List Comprehension} (sc : Scope) (pos : Pos) (I : CompI G Φ k elt gens) : SndE G Φ k (.ListComp elt gens sc pos) := fun C pe h {γ A env F s r Q E} hH he hQ => by
  refine cps fun Gq goq => ?_
  obtain ⟨tg, iter, ifs, rfl, hf, hcl, hk, hn, w⟩ := sndComp (E := E) I h hH he
  refine goq ?_
  clear goq
  clear Gq
  rw [eval_ListComp]
  refine wpAny_comprehension_free (use := none) rfl hf hcl hk hn (w _ fun D Cc s' m' ys ζ hns ζ fin => ⟨m', hns, fun h'' hs => ?_⟩)
  obtain ⟨q1, q2⟩ := fin h'' hs
  exact hQ _ _ q1 q2
end
end Mine
end
section
set_option maxRecDepth 100000
namespace Mine
open PySem PyProof.Rows
theorem bltin_none {x : Str} (h : bltin.lookup x = some .none) : False := by
  have := mem_of_lookup h
  simp [bltin] at this
section
variable {G : GCtx} {Φ : Funs} {k : Nat}
structure CallI (G : GCtx) (Φ : Funs) (k : Nat) (f : PySem.Expr) (as : List PySem.Expr) : Prop where
  each : ∀ e ∈ as, SndE G Φ k e
  deep : ∀ n p bs pos, as = [.Call (.Name n p) bs [] pos] -> ∀ b ∈ bs, SndE G Φ k b
  obj : ∀ o n p, f = .Attribute o n p -> SndE G Φ k o
section
variable {C : Ctx} {γ : Env'} {A : Around} {env : Env} {F : Addr -> Prop} {s : Shared} {Q E : Value -> Shared -> Prop} {f : PySem.Expr} {as : List PySem.Expr} {x : Str} {p pos : Pos} {r : PyData × Nat}
theorem s_fn (I : CallI G Φ k f as) {j : Nat} {es : PEs} (hj : C.fn x = some j) (hne : as.isEmpty = false) (h2 : cEs C as = some es) (hH : H G Φ k C γ A env F s) (he : evE Φ γ (.call j es) = some r) (hQ : EPost F s r Q) :
    wpAny (model G.prog G.w) A (eval (.Call (.Name x p) as [] pos) env) Q E s := by
  refine cps fun Gq goq => ?_
  revert he
  refine bS fun xs e1 he => ?_
  revert he
  refine bS fun out e2 he => ?_
  obtain ⟨hg, hd, hjn⟩ := fn_of hj
  obtain ⟨ad, o, fd, q1, q2, q3, q4⟩ := call_fn hj hH
  refine goq ?_
  clear goq
  clear Gq
  have hlt : j < 1000 := by
    rw [hH.cg.fns] at hjn
    have h1 := (List.getElem?_eq_some_iff.mp hjn).1
    rw [List.length_map] at h1
    exact Nat.lt_of_lt_of_le h1 hH.g.len
  refine name_call (name_glob hH hg q1 ?_ hd)
  refine Calls.callWith_function (o := o) (fd := fd) (args_of h2 hne (sndEs as I.each es h2 pos hH e1 fun vs s₁ k1 ζ r1 => ⟨⟨(hH.keeps k1).ok.kb _ _ q2, q3⟩, ?_⟩))
  refine q4 s₁ vs xs out Q E k1 r1 e2 hlt (fun d l ho v s' k2 v2 => ?_) fun c ho => ?_
  . subst ho
    replace he := Option.some.inj he
    try clear Gq
    try clear goq
    try clear xs
    try clear e1
    try clear out
    try clear e2
    try clear hg
    try clear hd
    try clear hjn
    try clear ad
    try clear o
    try clear fd
    try clear q1
    try clear q2
    try clear q3
    try clear q4
    try clear hlt
    try clear h1
    try clear c
    subst he
    exact hQ _ _ (k1.trans k2) (v2.back k1.heap)
  . subst ho
    try clear ho
    cases he
theorem s_blt (I : CallI G Φ k f as) {b : Blt} {y : PE} (hg : C.glob x = true) (hb : bltin.lookup x = some (bltV b)) (h2 : cEs C as = some (.cons y .nil)) (hH : H G Φ k C γ A env F s) (he : evE Φ γ (.blt b y) = some r) (hQ : EPost F s r Q) :
    wpAny (model G.prog G.w) A (eval (.Call (.Name x p) as [] pos) env) Q E s := by
  revert he
  refine bS fun z e1 he => ?_
  refine name_call (name_blt hH hg hb ?_ (bltin_debug hb))
  have hQ' : ∀ {s₁}, Keeps s s₁ -> ∀ v s', Keeps s₁ s' -> Val F s₁.heap s'.heap v r -> Q v s' := fun k1 v s' k2 v2 => hQ _ _ (k1.trans k2) (v2.back k1.heap)
  cases b with
  | len => exact Calls.callWith_builtin (stars_plain h2) (args_of h2 (arg_ne h2) (sndOne I.each h2 pos hH e1 fun v s₁ k1 v1 => blt_len_sound he v1 (hQ' k1)))
  | abs => exact Calls.callWith_builtin (stars_plain h2) (args_of h2 (arg_ne h2) (sndOne I.each h2 pos hH e1 fun v s₁ k1 v1 => blt_abs_sound he v1 (hQ' k1)))
  | max => exact Calls.callWith_builtin (stars_plain h2) (args_of h2 (arg_ne h2) (sndOne I.each h2 pos hH e1 fun v s₁ k1 v1 => blt_max_sound he v1 hH.ok.hh (hQ' k1)))
  | str => exact PySem.callWith_type (stars_plain h2) (args_of h2 (arg_ne h2) (sndOne I.each h2 pos hH e1 fun v s₁ k1 v1 => blt_str_sound he v1 hH.ok.hh ((hH.g.nodigits.keeps hH.ok.kb).keeps k1.heap) (hQ' k1)))
  | int => exact PySem.callWith_type (stars_plain h2) (args_of h2 (arg_ne h2) (sndOne I.each h2 pos hH e1 fun v s₁ k1 v1 => blt_int_sound he v1 (hQ' k1)))
  | sortedSet => exact (bltin_none hb).elim
theorem s_type {n : Str} {c : String} {q pos' : Pos} {bs : List PySem.Expr} {y : PE} {z : PyData × Nat} (hg : C.glob n = true) (hb : bltin.lookup n = some (.type c)) (ib : ∀ b ∈ bs, SndE G Φ k b) (h1 : cEs C bs = some (.cons y .nil)) (hH : H G Φ k C γ A env F s) (e1 : evE Φ γ y = some z)
    (h : ∀ v s₁, Keeps s s₁ -> RD s₁.heap F v z.1 -> wpAny (model G.prog G.w) A (call (.type c) [v]) Q E s₁) : wpAny (model G.prog G.w) A (eval (.Call (.Name n q) bs [] pos') env) Q E s :=
  name_call (name_blt hH hg hb (PySem.callWith_type (stars_plain h1) (args_of h1 (arg_ne h1) (sndOne ib h1 pos' hH e1 h))) (bltin_debug hb))
theorem s_lst (I : CallI G Φ k f as) {i : PI} (hg : C.glob x = true) (hb : bltin.lookup x = some (.type "list")) (h2 : ((cRs C as).bind fun i => onlyR1 i) = some i) (hH : H G Φ k C γ A env F s) (he : evE Φ γ (.lrange i) = some r) (hQ : EPost F s r Q) :
    wpAny (model G.prog G.w) A (eval (.Call (.Name x p) as [] pos) env) Q E s := by
  refine bind_someE h2 fun i' h6 h3 => ?_
  clear h2
  cases i' with
  | r1 y =>
    replace h3 := Option.some.inj h3
    try clear i'
    subst h3
    revert he
    refine bS fun xs e0 he => ?_
    replace he := Option.some.inj he
    try clear xs
    subst he
    refine cps fun Gq goq => ?_
    revert e0
    refine bS fun z e1 e0 => ?_
    revert e0
    refine bS fun j e3 e0 => ?_
    obtain ⟨ok, e4⟩ := ifSo e0
    refine goq ?_
    clear goq
    clear Gq
    replace e4 := Option.some.inj e4
    try clear e0
    try clear he
    try clear z
    try clear j
    subst e4
    cases as with
    | nil => cases h6
    | cons e rest =>
      refine ifBE (show (if rest.isEmpty then cR C e else none) = some (.r1 y) from h6) fun hr h2 => ?_
      clear h6
      have hr' := List.isEmpty_iff.mp hr
      try clear h6
      try clear e4
      try clear hr
      subst hr'
      refine cps fun Gq goq => ?_
      obtain ⟨n, q, bs, pos', qe, hgn, es, h4, hn⟩ := cR_of h2
      refine goq ?_
      clear goq
      clear Gq
      clear h2
      try clear Gq
      try clear goq
      try clear h2
      try clear n
      try clear bs
      try clear pos'
      try clear es
      subst qe
      refine name_call (name_blt hH hg hb (PySem.callWith_type1 ?_) (bltin_debug hb))
      rcases hn with ⟨rfl, h5⟩ | ⟨rfl, h5⟩ | ⟨rfl, h5⟩
      . rcases rOf_of h5 with ⟨y', rfl, q⟩ | ⟨_, _, _, q⟩
        . cases q
          refine s_type (c := "range") hgn (by kernel_rfl) (I.deep _ _ _ _ rfl) h4 hH e1 fun v s₁ k1 v1 => ?_
          rw [intD_of e3] at v1
          try clear e1
          try clear e3
          try clear qe
          try clear hgn
          try clear h4
          try clear hn
          try clear v
          try clear s₁
          obtain ⟨t, rfl⟩ := v1.int_inv
          exact list_r1 (F := F) hH.ok.hh hH.al ok k1 hQ
        . exact (Option.some_ne_none _ (congrArg onlyR1 q)).elim
      . obtain ⟨_, _, _, q⟩ := zOf_of h5
        try clear ok
        exact (Option.some_ne_none _ (congrArg onlyR1 q)).elim
      . obtain ⟨_, _, q⟩ := eOf_of h5
        exact (Option.some_ne_none _ (congrArg onlyR1 q)).elim
  | _ => cases h3
theorem s_srt (I : CallI G Φ k f as) {y : PE} (hg : C.glob x = true) (hb : bltin.lookup x = some (.builtin "sorted")) (h2 : cSts C as = some y) (hH : H G Φ k C γ A env F s) (he : evE Φ γ (.blt .sortedSet y) = some r) (hQ : EPost F s r Q) :
    wpAny (model G.prog G.w) A (eval (.Call (.Name x p) as [] pos) env) Q E s := by
  revert he
  refine bS fun z e1 he => ?_
  cases as with
  | nil => cases h2
  | cons e rest =>
    refine ifBE (show (if rest.isEmpty then cSt C e else none) = some y from h2) fun hr h5 => ?_
    clear h2
    have hr' := List.isEmpty_iff.mp hr
    try clear z
    try clear hr
    subst hr'
    cases e with
    | Call f' bs ks pos' =>
      refine cps fun Gq goq => ?_
      refine ifBE (show (if isBlt C ("set" : Str) f' ks then (cEs C bs).bind fun es => one es else none) = some y from h5) fun hs h6 => ?_
      refine bind_someE h6 fun es h3 h4 => ?_
      rw [one_of h4] at h3
      clear h5 h6
      obtain ⟨q, q1, q2, hgs⟩ := isBlt_of hs
      refine goq ?_
      clear goq
      clear Gq
      try clear Gq
      try clear goq
      try clear hs
      try clear h6
      try clear es
      try clear h4
      try clear q
      subst q1 q2
      refine name_call (name_blt hH hg hb (PySem.callWith_builtin1 ?_) (bltin_debug hb))
      exact s_type (c := "set") hgs (by kernel_rfl) (I.deep _ _ _ _ rfl) h3 hH e1 fun v s₁ k1 v1 => sortedSet_sound (G := G) he v1 (hH.keeps k1).al hH.ok.hh fun u s₂ k2 v2 => hQ _ _ (k1.trans k2) (v2.back k1.heap)
    | _ => cases h5
theorem s_mth (I : CallI G Φ k f as) {o : PySem.Expr} {n : Str} {ap : Pos} {m : Mth} {a y : PE} (hf : f = .Attribute o n ap) (hline : (ap.endLine == pos.line) = true) (hm : mthC.lookup n = some m) (ha : cA C f = some a) (h2 : cEs C as = some (.cons y .nil)) (hH : H G Φ k C γ A env F s)
    (he : evE Φ γ (.mth m a y) = some r) (hQ : EPost F s r Q) : wpAny (model G.prog G.w) A (eval (.Call f as [] pos) env) Q E s := by
  subst hf
  refine cps fun Gq goq => ?_
  refine bind_liftE ha fun hb hae => ?_
  clear ha
  revert he
  refine bS fun x' e1 he => ?_
  revert he
  refine bS fun y' e2 he => ?_
  obtain ⟨z, hz, hz', hst⟩ := cEs_one h2
  refine goq ?_
  clear goq
  clear Gq
  have hfew : ((backTo pos (starEach as env)).all (fun x => !x.1) && (backToKw pos (keywordEach [] env)).all (fun x => x.1.isSome) && decide (as.length + ([] : List Keyword).length + (if ([] : List Keyword).isEmpty then 0 else 1) < 30)) = true := by
    try clear y'
    try clear z
    try clear hz'
    subst hz
    rw [hst]
    rfl
  have hQ' : ∀ {s₁}, Keeps s s₁ -> ∀ v s', Keeps s₁ s' -> Val F s₁.heap s'.heap v r -> Q v s' := fun k1 v s' k2 v2 => hQ _ _ (k1.trans k2) (v2.back k1.heap)
  have hmm : (n = ("split" : Str) ∧ m = .split) ∨ (n = ("count" : Str) ∧ m = .count) := by
    have := mem_of_lookup hm
    simpa [mthC] using this
  rcases hmm with ⟨rfl, rfl⟩ | ⟨rfl, rfl⟩
  . refine wpAny_Call_method (T := "str") (id := "str.split") (hb _ _) hfew hline PySem.F.plainAttrs_str PySem.F.slot_str_split PySem.F.type_str_split (I.obj o _ ap rfl C a hae hH e1 fun v s₁ k1 v1 => ?_)
    obtain ⟨d, l⟩ := x'
    cases d with
    | str u =>
      try clear hz
      try clear hst
      try clear hQ
      try clear hmm
      obtain ⟨t, rfl⟩ := v1.1.str_inv
      refine ⟨typeIs_str _ _ _, (fun a ha => nomatch ha), ?_⟩
      exact Calls.callWith_builtin (stars_plain h2) (args_of h2 (arg_ne h2) (sndOne I.each h2 pos (hH.keeps k1) e2 fun u2 s₂ k2 v2 => mth_split_sound he (v1.1.keeps k2.heap) v2 (hH.keeps (k1.trans k2)).al (hQ' (k1.trans k2))))
    | _ => cases he
  . refine wpAny_Call_method (T := "list") (id := "list.count") (hb _ _) hfew hline PySem.F.plainAttrs_list PySem.F.slot_list_count PySem.F.type_list_count (I.obj o _ ap rfl C a hae hH e1 fun v s₁ k1 v1 => ?_)
    obtain ⟨d, l⟩ := x'
    cases d with
    | list u =>
      refine cps fun Gq goq => ?_
      try clear hb
      try clear hae
      try clear x'
      try clear e1
      try clear hfew
      try clear v
      try clear s₁
      try clear d
      try clear l
      try clear t
      obtain ⟨ad, vs, rfl, ⟨nn, hl⟩, -, -⟩ := v1.1.list_inv
      refine goq ?_
      clear goq
      clear Gq
      refine ⟨⟨_, hl, rfl⟩, (fun a ha => by cases ha; exact ⟨_, hl, rfl⟩), ?_⟩
      exact Calls.callWith_builtin (stars_plain h2) (args_of h2 (arg_ne h2) (sndOne I.each h2 pos (hH.keeps k1) e2 fun u2 s₂ k2 v2 => mth_count_sound he (v1.1.keeps k2.heap) v2 (hQ' (k1.trans k2))))
    | _ => cases he
end
theorem sE_Call {as : List PySem.Expr} (f : PySem.Expr) (ks : List Keyword) (pos : Pos) (I : CallI G Φ k f as) : SndE G Φ k (.Call f as ks pos) := fun C pe h {γ A env F s r Q E} hH he hQ => by
  revert h
  refine bS fun c h1 h => ?_
  obtain ⟨hk, hc⟩ := callee_of h1
  rw [hk]
  rcases hc with ⟨x, p, hf, hc⟩ | ⟨o, n, ap, m, hf, hline, hm, rfl⟩
  . rw [hf]
    rcases callee1_of hc with ⟨j, rfl, hj⟩ | ⟨hg, hb⟩
    . replace h := ifN h
      have zq := h
      clear h
      obtain ⟨hne, h⟩ := zq
      revert h
      refine bS fun es h2 h => ?_
      replace h := Option.some.inj h
      subst h
      exact s_fn I hj hne h2 hH he hQ
    . cases c with
      | fn j => exact (bltin_none hb).elim
      | mth m => exact (bltin_none hb).elim
      | allC => cases h
      | blt b =>
        revert h
        refine bS fun es h2 h => ?_
        revert h
        refine bS fun y h3 h => ?_
        replace h := Option.some.inj h
        subst h
        rw [one_of h3] at h2
        exact s_blt I hg hb h2 hH he hQ
      | lst =>
        revert h
        refine bS fun i h2 h => ?_
        revert h
        refine bS fun i' h3 h => ?_
        replace h := Option.some.inj h
        subst h
        exact s_lst I hg hb (bnd' h2 h3) hH he hQ
      | srt =>
        revert h
        refine bS fun y h2 h => ?_
        replace h := Option.some.inj h
        subst h
        exact s_srt I hg hb h2 hH he hQ
      | anyC => cases h
  . revert h
    refine bS fun a ha h => ?_
    revert h
    refine bS fun es h2 h => ?_
    revert h
    refine bS fun y h3 h => ?_
    replace h := Option.some.inj h
    subst h
    rw [one_of h3] at h2
    exact s_mth I hf hline hm ha h2 hH he hQ
theorem sT_Call {as : List PySem.Expr} (f : PySem.Expr) (ks : List Keyword) (pos : Pos) (ie : SndE G Φ k (.Call f as ks pos)) : SndT G Φ k (.Call f as ks pos) := fun C pt h {γ A env F s b Q E} hH he hQ => by
  revert h
  refine bS fun c h1 h => ?_
  refine wpAny_isTrue_value ?_ rfl
  cases c with
  | fn j =>
    replace h := ifN h
    have zq := h
    clear h
    obtain ⟨hne, h⟩ := zq
    revert h
    refine bS fun es h2 h => ?_
    replace h := Option.some.inj h
    subst h
    have hc : cE C (.Call f as ks pos) = some (.call j es) := bnd' h1 (by show (if as.isEmpty = true then none else (cEs C as).bind fun es => some (PE.call j es)) = _; rw [hne, h2]; rfl)
    revert he
    refine bS fun x e1 he => ?_
    refine ie C _ hc hH e1 fun v s₁ k1 v1 => ?_
    obtain ⟨d, l⟩ := x
    cases d with
    | bool c =>
      replace he := Option.some.inj he
      subst he
      rw [v1.1.bool_inv]
      exact wpAny_truthy_bool (hQ _ k1)
    | _ => cases he
  | _ => cases h
theorem sndAnd (xs : List PySem.Expr) (ih : ∀ e ∈ xs, SndT G Φ k e) (C : Ctx) (pt : PT) (h : cAnd C xs = some pt) {γ : Env'} {A : Around} {env : Env} {F : Addr -> Prop} {s : Shared} {b : Bool} {Q : Bool -> Shared -> Prop} {E : Value -> Shared -> Prop}
    (hH : H G Φ k C γ A env F s) (he : evT Φ γ pt = some b) (hQ : ∀ s', Keeps s s' -> Q b s') : wpAny (model G.prog G.w) A (allTrue .And xs env) Q E s := by
  induction xs generalizing pt s Q with
  | nil => cases h; cases he; exact wpAny_allTrue_And_nil (hQ _ (Keeps.refl s))
  | cons x r ihr =>
    revert h
    refine bS fun a h1 h => ?_
    revert h
    refine bS fun b' h2 h => ?_
    replace h := Option.some.inj h
    subst h
    revert he
    refine bS fun c e1 he => ?_
    refine wpAny_allTrue_And_cons (ih x (.head _) C a h1 hH e1 fun s₁ k1 => ?_)
    cases c with
    | true => exact ihr (fun y hy => ih y (.tail _ hy)) b' h2 (hH.keeps k1) he fun s₂ k2 => hQ _ (k1.trans k2)
    | false => cases he; exact hQ _ k1
theorem sndOr (xs : List PySem.Expr) (ih : ∀ e ∈ xs, SndT G Φ k e) (C : Ctx) (pt : PT) (h : cOr C xs = some pt) {γ : Env'} {A : Around} {env : Env} {F : Addr -> Prop} {s : Shared} {b : Bool} {Q : Bool -> Shared -> Prop} {E : Value -> Shared -> Prop}
    (hH : H G Φ k C γ A env F s) (he : evT Φ γ pt = some b) (hQ : ∀ s', Keeps s s' -> Q b s') : wpAny (model G.prog G.w) A (allTrue .Or xs env) Q E s := by
  induction xs generalizing pt s Q with
  | nil => cases h; cases he; exact wpAny_allTrue_Or_nil (hQ _ (Keeps.refl s))
  | cons x r ihr =>
    revert h
    refine bS fun a h1 h => ?_
    revert h
    refine bS fun b' h2 h => ?_
    replace h := Option.some.inj h
    subst h
    revert he
    refine bS fun c e1 he => ?_
    refine wpAny_allTrue_Or_cons (ih x (.head _) C a h1 hH e1 fun s₁ k1 => ?_)
    cases c with
    | false => exact ihr (fun y hy => ih y (.tail _ hy)) b' h2 (hH.keeps k1) he fun s₂ k2 => hQ _ (k1.trans k2)
    | true => cases he; exact hQ _ k1
theorem sT_Not {x : PySem.Expr} (op : UnaryOp) (pos : Pos) (ih : SndT G Φ k x) : SndT G Φ k (.UnaryOp op x pos) := fun C pt h {γ A env F s b Q E} hH he hQ => by
  replace h : (if op == .Not then (cT C x).bind fun a => some (.not a) else none) = some pt := h
  revert h
  refine ifBR fun ho h => ?_
  revert h
  refine bS fun a h1 h => ?_
  replace h := Option.some.inj h
  subst h
  revert he
  refine bS fun c e1 he => ?_
  replace he := Option.some.inj he
  subst he
  rw [eq_of_beq ho]
  exact wpAny_isTrue_Not (ih C a h1 hH e1 fun s' k1 => hQ s' k1)
theorem lt_mem {es : List PySem.Expr} {n : Nat} (h : sizeOf es < n) : ∀ e ∈ es, sizeOf e < n := fun e he => Nat.lt_trans (List.sizeOf_lt_of_mem he) h
theorem sz2 {a b n : Nat} (h : 1 + a + b < n + 1) : a < n ∧ b < n := by omega
theorem sz3 {a b c n : Nat} (h : 1 + a + b + c < n + 1) : a < n ∧ b < n ∧ c < n := by omega
theorem sz4 {a b c d n : Nat} (h : 1 + a + b + c + d < n + 1) : a < n ∧ b < n ∧ c < n ∧ d < n := by omega
theorem snd_all : ∀ (n : Nat) (e : PySem.Expr), sizeOf e < n -> SndE G Φ k e ∧ SndT G Φ k e
  | 0, _, h => absurd h (Nat.not_lt_zero _)
  | n + 1, e, hn => by
    have ih := fun e h => snd_all n e h
    have iE := fun e h => (ih e h).1
    have iT := fun e h => (ih e h).2
    have nT : (∀ C, cT C e = none) -> SndT G Φ k e := fun h C pt h' => by rw [h C] at h'; cases h'
    cases e with
    | Constant c kk pos => exact ⟨sE_Constant c kk pos, nT fun ζ => rfl⟩
    | Name x pos => exact ⟨fun C pe h {γ A env F s r Q E} hH he hQ => sndName h hH he hQ, nT fun ζ => rfl⟩
    | BinOp l op r pos =>
      simp only [PySem.Expr.BinOp.sizeOf_spec] at hn
      exact ⟨sE_BinOp op pos (iE l (sz4 hn).1) (iE r (sz4 hn).2.2.1), nT fun ζ => rfl⟩
    | UnaryOp op x pos =>
      simp only [PySem.Expr.UnaryOp.sizeOf_spec] at hn
      exact ⟨sE_UnaryOp op pos (iE x (sz3 hn).2.1), sT_Not op pos (iT x (sz3 hn).2.1)⟩
    | Tuple es kk pos =>
      simp only [PySem.Expr.Tuple.sizeOf_spec] at hn
      exact ⟨sE_Tuple kk pos fun e he => iE e (lt_mem (sz3 hn).1 e he), nT fun ζ => rfl⟩
    | List es pos =>
      simp only [PySem.Expr.List.sizeOf_spec] at hn
      exact ⟨sE_List pos fun e he => iE e (lt_mem (sz2 hn).1 e he), nT fun ζ => rfl⟩
    | Subscript v i pos =>
      simp only [PySem.Expr.Subscript.sizeOf_spec] at hn
      refine ⟨sE_Subscript pos (iE v (sz3 hn).1) (iE i (sz3 hn).2.1) fun lo hi st sp q => ?_, nT fun ζ => rfl⟩
      try clear ih
      subst q
      simp only [PySem.Expr.Slice.sizeOf_spec] at hn
      exact ⟨fun x q => iE x (by subst q; simp only [Option.some.sizeOf_spec] at hn; omega), fun x q => iE x (by subst q; simp only [Option.some.sizeOf_spec] at hn; omega)⟩
    | IfExp t a b pos =>
      simp only [PySem.Expr.IfExp.sizeOf_spec] at hn
      exact ⟨sE_IfExp pos (iT t (sz4 hn).1) (iE a (sz4 hn).2.1) (iE b (sz4 hn).2.2.1), nT fun ζ => rfl⟩
    | Compare l ops rs pos =>
      simp only [PySem.Expr.Compare.sizeOf_spec] at hn
      have il := iE l (sz4 hn).1
      have ir := fun r hr => iE r (lt_mem (sz4 hn).2.2.1 r hr)
      exact ⟨sE_Compare pos il ir, sT_Compare pos il ir⟩
    | BoolOp op xs pos =>
      simp only [PySem.Expr.BoolOp.sizeOf_spec] at hn
      refine ⟨sE_none fun ζ => rfl, fun C pt h {γ A env F s b Q E} hH he hQ => wpAny_isTrue_BoolOp ?_⟩
      cases op with
      | And => exact sndAnd xs (fun e he => iT e (lt_mem (sz3 hn).2.1 e he)) C pt h hH he hQ
      | Or => exact sndOr xs (fun e he => iT e (lt_mem (sz3 hn).2.1 e he)) C pt h hH he hQ
    | ListComp elt gens sc pos =>
      simp only [PySem.Expr.ListComp.sizeOf_spec] at hn
      refine ⟨sE_ListComp sc pos ⟨iE elt (sz4 hn).1, fun tg iter ifs q => ?_⟩, nT fun ζ => rfl⟩
      try clear il
      try clear ir
      subst q
      simp only [List.cons.sizeOf_spec, List.nil.sizeOf_spec, PySem.Comprehension.mk.sizeOf_spec] at hn
      refine ⟨iE iter (by omega), fun x p bs pos q => ?_, fun e he => iT e (lt_mem (by omega) e he)⟩
      try clear iT
      subst q
      simp only [PySem.Expr.Call.sizeOf_spec] at hn
      exact fun b hb => iE b (lt_mem (by omega) b hb)
    | Call f as ks pos =>
      simp only [PySem.Expr.Call.sizeOf_spec] at hn
      have ie : SndE G Φ k (.Call f as ks pos) := by
        refine sE_Call f ks pos ⟨fun e he => iE e (lt_mem (sz4 hn).2.1 e he), fun x p bs pos q => ?_, fun o x p q => iE o ?_⟩
        . subst q
          simp only [List.cons.sizeOf_spec, List.nil.sizeOf_spec, PySem.Expr.Call.sizeOf_spec] at hn
          exact fun b hb => iE b (lt_mem (by omega) b hb)
        . subst q
          simp only [PySem.Expr.Attribute.sizeOf_spec] at hn
          omega
      exact ⟨ie, sT_Call f ks pos ie⟩
    | _ => exact ⟨sE_none fun ζ => rfl, nT fun ζ => rfl⟩
theorem sndE (e : PySem.Expr) : SndE G Φ k e := (snd_all _ e (Nat.lt_succ_self _)).1
theorem sndT (e : PySem.Expr) : SndT G Φ k e := (snd_all _ e (Nat.lt_succ_self _)).2
theorem compI (elt : PySem.Expr) (gens : List Comprehension) : CompI G Φ k elt gens := ⟨sndE elt, fun ζ iter ifs ζ => ⟨sndE iter, fun ζ ζ ζ ζ ζ b ζ => sndE b, fun e ζ => sndT e⟩⟩
section
variable {C : Ctx} {γ : Env'} {A : Around} {env : Env} {F : Addr -> Prop} {s : Shared} {E : Value -> Shared -> Prop}
theorem sndEsA (es : List PySem.Expr) (ps : PEs) (h : cEs C es = some ps) (pos : Pos) {xs : List PyData} {Q : List Value -> Shared -> Prop}
    (hH : H G Φ k C γ A env F s) (he : evEs Φ γ ps = some xs) (hQ : ∀ vs s', Keeps s s' -> vs.length = es.length -> RDs s'.heap F vs xs -> Q vs s') : wpAny (model G.prog G.w) A (spliced (backTo pos (starEach es env))) Q E s := sndEs es (fun e ζ => sndE e) ps h pos hH he hQ
theorem sndIA (e : PySem.Expr) (pi : PI) (h : (cR C e).or ((cE C e).map PI.of) = some pi) {xs : List PyData} {Q : Value -> Shared -> Prop}
    (hH : H G Φ k C γ A env F s) (he : evI Φ γ pi = some xs) (hQ : IPost G A F s pi xs Q) :
    wpAny (model G.prog G.w) A (eval e env) (fun x s₁ => wpAny (model G.prog G.w) A (pyIter x) Q E s₁) E s := sndI e pi h (sndE e) (fun ζ ζ ζ ζ ζ b ζ => sndE b) hH he hQ
end
end
end Mine
end
section
set_option maxRecDepth 100000
namespace Mine
open PySem PyProof.Rows
structure FC where
  G : GCtx
  Φ : Funs
  k : Nat
  C : Ctx
  ns : List Str
  name : Str
  sc : Scope
  L : Addr
  a : Addr
  cd : Value
  h₀ : Heap
  A₀ : Around
  outer : List Env
  fu : Nat
  tp : Bool
  gp : Option (Addr × Addr)
noncomputable def FC.env (c : FC) : Env := envOfC c.name c.sc c.L c.a c.cd
noncomputable def FC.nc (c : FC) : List (Str × Addr) := cellsFrom (c.L + 1) c.sc.names []
noncomputable def FC.A (c : FC) : Around := c.A₀.deeper c.env
noncomputable def FC.Fx (c : FC) : Addr -> Prop := Vol c.env c.nc
noncomputable def FC.W (c : FC) (b : Addr) : Prop := c.tp = true ∧ (b ∈ frs c.outer ∨ ∃ cc, c.gp = some (cc, b))
noncomputable abbrev FC.M (c : FC) : Model := model c.G.prog c.G.w
noncomputable abbrev FO (F : Addr -> Prop) (own : Addr -> Option Nat) : Addr -> Prop := fun b => F b ∨ own b ≠ none
structure FnOk (C : Ctx) (sc : Scope) (ns : List Str) : Prop where
  nsEq : C.ns = ns.map some
  nodup : ns.Nodup
  kind : sc.kind = .function
  kinds : C.kinds = sc.names
  cells : ∀ x ∈ C.cn, (x, NameKind.cell) ∈ sc.names
  var : ∀ x ∈ ns, (sc.names.lookup x = some .local ∧ ∀ y ∈ sc.names, y.2 = .cell -> y.1 ≠ x) ∨ sc.names.lookup x = some .cell
structure SX (c : FC) : Prop where
  g : GOk c.G
  real : Reals c.G c.Φ c.k
  cg : CG c.G c.C
  K : FnOk c.C c.sc c.ns
  hh : c.A₀.handled = none
  dp : c.A₀.depth + (c.k + 1) < recursionLimit
  un : c.A₀.units + 8 * (c.k + 1) + 200 < cLine
  kb : KeepsH c.G.hB c.h₀
  fr : c.A₀.frames = some c.outer
  ff : Frs c.G c.h₀ c.outer
  fx : ∀ b, c.Fx b -> c.h₀.get? b = none
  gp : ∀ cc P, c.gp = some (cc, P) -> c.cd = .ref cc ∧ c.G.hB.get? P = none ∧ (∃ o, c.h₀.get? cc = some o) ∧ ∃ o, c.h₀.get? P = some o ∧ ∃ vs, o.data = .fields vs
  gen : c.C.gen = true -> c.tp = true ∧ ∃ cc P, c.gp = some (cc, P)
noncomputable def SlotOK (c : FC) (F : Addr -> Prop) (own : Addr -> Option Nat) (h : Heap) (i : Nat) (x : Str) : Slot -> Prop
  | .un => True
  | .pl d => ∃ v, Has c.env h x v ∧ RD h (FO F own) v d
  | .b1 ds => ∃ a vs, Has c.env h x (.ref a) ∧ own a = some i ∧ h.PlainList a vs ∧ RDs h (FO F own) vs.toList ds
structure SI (c : FC) (F : Addr -> Prop) (own : Addr -> Option Nat) (γ : Env') (h : Heap) : Prop where
  cv : CV c.env c.nc h
  slots : ∀ (i : Nat) (x : Str) (sl : Slot), c.ns[i]? = some x -> γ[i]? = some sl -> SlotOK c F own h i x sl
  keep : ∀ b o, c.h₀.get? b = some o -> ¬ c.W b -> h.get? b = some o
  up : c.h₀.UpToSlots h
  own : ∀ b i, own b = some i -> c.h₀.get? b = none ∧ ¬ F b ∧ ∃ vs, h.PlainList b vs
  al : Alloc F h
  tab : ∀ cc P, c.gp = some (cc, P) -> ∃ ps, h.IsCode cc P ps ∧ h.TableAt cc P ps
structure Tr (c : FC) (own : Addr -> Option Nat) (h : Heap) (own' : Addr -> Option Nat) (h' : Heap) : Prop where
  keep : ∀ b o, h.get? b = some o -> own b = none -> ¬ c.Fx b -> ¬ c.W b -> h'.get? b = some o
  there : ∀ b o, h.get? b = some o -> ∃ o', h'.get? b = some o'
  own : ∀ b, own' b ≠ none -> own b ≠ none ∨ h.get? b = none
theorem Tr.of_keeps {c : FC} {own : Addr -> Option Nat} {h h' : Heap} (k : KeepsH h h') : Tr c own h own h' := ⟨fun b o e ζ ζ ζ => k b o e, fun b o e => ⟨o, k b o e⟩, fun ζ q => .inl q⟩
theorem noneOf' {h h' : Heap} (k : ∀ b o, h.get? b = some o -> ∃ o', h'.get? b = some o') {b : Addr} (z : h'.get? b = none) : h.get? b = none := by
  cases e : h.get? b with
  | none => rfl
  | some o => obtain ⟨o', e'⟩ := k b o e; exact (absN e' z).elim
theorem Tr.trans {c : FC} {o₁ o₂ o₃ : Addr -> Option Nat} {h₁ h₂ h₃ : Heap} (x : Tr c o₁ h₁ o₂ h₂) (y : Tr c o₂ h₂ o₃ h₃) : Tr c o₁ h₁ o₃ h₃ where
  keep := fun b o e e1 e2 e3 => y.keep b o (x.keep b o e e1 e2 e3) (by
    cases q : o₂ b with
    | none => rfl
    | some j => exact ((x.own b (by rw [q]; exact fun z => by cases z)).elim (fun z => z e1) (absN e)).elim) e2 e3
  there := fun b o e => let ⟨o', e'⟩ := x.there b o e; y.there b o' e'
  own := fun b q => (y.own b q).elim (fun z => x.own b z) fun z => .inr (noneOf' x.there z)
noncomputable def Dt (o : Obj) : Prop := (∃ vs n, o.data = .seq vs n) ∨ ∃ vs, o.data = .fields vs
theorem NL.dt {o : Obj} (x : NL o) : Dt o := by
  rcases x with x | ⟨_, x⟩
  . exact .inr x
  . exact .inl x
theorem ns_dt {h : Heap} {b : Addr} {m : Str -> Option Value} {o : Obj} (x : h.Ns b m) (e : h.get? b = some o) (q : Dt o) : False := by
  refine cps fun Gq goq => ?_
  obtain ⟨o', es, ep, z1, z2, _⟩ := x
  refine goq ?_
  clear goq
  clear Gq
  rw [e] at z1; cases z1
  rcases q with ⟨vs, n, q⟩ | ⟨vs, q⟩ <;> (rw [z2] at q; cases q)
theorem CV.dt {env : Env} {nc : List (Str × Addr)} {h : Heap} (V : CV env nc h) {b : Addr} (hb : Vol env nc b) {o : Obj} (e : h.get? b = some o) (q : Dt o) : False := by
  rcases hb with rfl | ⟨y, m⟩
  . obtain ⟨_, hm⟩ := V.ns
    exact ns_dt hm e q
  . obtain ⟨v, o', z1, z2⟩ := V.cl y b m
    rw [e] at z1; cases z1
    rcases q with ⟨vs, n, q⟩ | ⟨vs, q⟩ <;> (rw [z2] at q; cases q)
theorem Has.at {env : Env} {nc : List (Str × Addr)} {h h' : Heap} {x : Str} {v : Value} (t : TG env nc x) (y : Has env h x v) (hk : ∀ b o, Vol env nc b -> h.get? b = some o -> h'.get? b = some o) : Has env h' x v := by
  rcases y with ⟨a, b, m, ⟨o, es, ep, z1, r⟩, d⟩ | ⟨a, k, b, o, z1, z2⟩
  . exact .inl ⟨a, b, m, ⟨o, es, ep, hk _ o (.inl rfl) z1, r⟩, d⟩
  . rcases t with ⟨_, w⟩ | ⟨_, k', w, w'⟩
    . rw [b] at w; cases w
    . rw [b] at w; cases w
      exact .inr ⟨a, k, b, o, hk _ o (.inr ⟨x, w'⟩) z1, z2⟩
theorem tab_at {h h' : Heap} {cc P : Addr} {ps : Array Value} (x : h.IsCode cc P ps ∧ h.TableAt cc P ps) (h1 : ∀ o, h.get? cc = some o -> h'.get? cc = some o) (h2 : ∀ o, h.get? P = some o -> h'.get? P = some o) : h'.IsCode cc P ps ∧ h'.TableAt cc P ps := by
  refine cps fun Gq goq => ?_
  obtain ⟨⟨o, vs, file, tf, flags, tg, inF, text, tt, op, ho, r1, r2, r3, r4, r5, r6, hop, r7, r8, r9⟩, ⟨o', vs', e, r⟩, e'⟩ := x
  refine goq ?_
  clear goq
  clear Gq
  exact ⟨⟨o, vs, file, tf, flags, tg, inF, text, tt, op, h1 o ho, r1, r2, r3, r4, r5, r6, h2 op hop, r7, r8, r9⟩, ⟨o', vs', h1 o' e, r⟩, h2 _ e'⟩
section
variable {c : FC} {F F' : Addr -> Prop} {own own' : Addr -> Option Nat} {γ : Env'} {h h' : Heap}
theorem SI.tab' (S : SI c F own γ h) (X : SX c) (hk : ∀ b o, c.h₀.get? b ≠ none -> Dt o -> h.get? b = some o -> h'.get? b = some o) : ∀ cc P, c.gp = some (cc, P) -> ∃ ps, h'.IsCode cc P ps ∧ h'.TableAt cc P ps := fun cc P e => by
  refine cps fun Gq goq => ?_
  obtain ⟨ps, x⟩ := S.tab cc P e
  obtain ⟨_, _, ⟨o1, e1⟩, o2, e2, _⟩ := X.gp cc P e
  have x1 := x.1
  obtain ⟨o, vs, file, tf, flags, tg, inF, text, tt, op, ho, r1, r2, r3, r4, r5, r6, hop, r7, r8, r9⟩ := x1
  refine goq ?_
  clear goq
  clear Gq
  exact ⟨ps, tab_at x (fun o' e' => hk cc o' (by rw [e1]; exact nofun) (by rw [ho] at e'; cases e'; exact .inr ⟨_, r1⟩) e') fun o' e' => hk P o' (by rw [e2]; exact nofun) (by rw [hop] at e'; cases e'; exact .inr ⟨_, r7⟩) e'⟩
theorem SlotOK.move {i : Nat} {x : Str} {sl : Slot} (y : SlotOK c F own h i x sl) (hH : ∀ v, Has c.env h x v -> Has c.env h' x v) (hi : ∀ b, own b = some i -> own' b = some i)
    (hF : ∀ b, FO F' own' b -> FO F own b ∨ h.get? b = none) (hk : ∀ b o vs n, h.get? b = some o -> o.data = .seq vs n -> (own b = some i ∨ ¬ FO F own b) -> h'.get? b = some o) : SlotOK c F' own' h' i x sl := by
  have hk' : ∀ b o vs n, h.get? b = some o -> o.data = .seq vs n -> ¬ FO F own b -> h'.get? b = some o := fun b o vs n e d q => hk b o vs n e d (.inr q)
  cases sl with
  | un => trivial
  | pl d => obtain ⟨v, a, r⟩ := y; exact ⟨v, hH v a, r.moveF hF hk'⟩
  | b1 ds =>
    refine cps fun Gq goq => ?_
    obtain ⟨a, vs, q1, q2, ⟨n, q3⟩, q4⟩ := y
    refine goq ?_
    clear goq
    clear Gq
    exact ⟨a, vs, hH _ q1, hi _ q2, ⟨n, hk a _ vs n q3 rfl (.inl q2)⟩, q4.moveF hF hk'⟩
theorem SX.tg (X : SX c) {x : Str} {i : Nat} (hx : c.ns[i]? = some x) : TG c.env c.nc x := by
  rcases X.K.var x (List.mem_of_getElem? hx) with ⟨k1, k2⟩ | k1
  . exact .inl ⟨k1, nc_none k2⟩
  . obtain ⟨a, ha⟩ := nc_has (n := c.L + 1) (mem_of_lookup k1)
    exact .inr ⟨k1, a, ha, mem_of_lookup ha⟩
theorem SX.inj (X : SX c) {x : Str} {i j : Nat} (hi : c.ns[i]? = some x) (hj : c.ns[j]? = some x) : i = j := (List.getElem?_inj (List.getElem?_eq_some_iff.mp hi).1 X.K.nodup).mp (hi.trans hj.symm)
theorem slotNs (X : SX c) {x : Str} {i : Nat} (e : c.C.slot x = some i) : c.ns[i]? = some x := by
  have := slot_ns e
  rw [X.K.nsEq, List.getElem?_map] at this
  obtain ⟨y, hy, hyx⟩ := Option.map_eq_some_iff.mp this
  replace hyx := Option.some.inj hyx
  subst hyx
  exact hy
theorem SI.keeps (S : SI c F own γ h) (hk : KeepsH h h') : SI c F own γ h' :=
  ⟨S.cv.at fun b o ζ e => hk b o e, fun i x sl e1 e2 => (S.slots i x sl e1 e2).move (fun v q => q.keeps hk) (fun ζ q => q) (fun ζ q => .inl q) fun b o ζ ζ e ζ ζ => hk b o e, fun b o e w => hk b o (S.keep b o e w), S.up.trans (.of_keeps hk),
    fun b i q => let ⟨a, d, vs, n, e⟩ := S.own b i q; ⟨a, d, vs, n, hk _ _ e⟩, S.al.keeps hk, fun cc P e => let ⟨ps, x⟩ := S.tab cc P e; ⟨ps, tab_at x (hk cc) (hk P)⟩⟩
theorem SI.less (S : SI c F own γ h) (hF : ∀ b, F' b -> F b) : SI c F' own γ h :=
  ⟨S.cv, fun i x sl e1 e2 => (S.slots i x sl e1 e2).move (fun ζ q => q) (fun ζ q => q) (fun b q => .inl (q.imp (hF b) id)) fun ζ ζ ζ ζ e ζ ζ => e, S.keep, S.up, fun b i q => let ⟨a, d, e⟩ := S.own b i q; ⟨a, fun z => d (hF b z), e⟩, fun b q => S.al b (hF b q), S.tab⟩
theorem SI.grow (S : SI c F own γ h) (hk : KeepsH h h') (hF : ∀ b, F' b -> F b ∨ (h.get? b = none ∧ ∃ o, h'.get? b = some o)) : SI c F' own γ h' := by
  have S' := S.keeps hk
  refine ⟨S'.cv, fun i x sl e1 e2 => (S.slots i x sl e1 e2).move (fun ζ q => q.keeps hk) (fun ζ q => q) (fun b q => ?_) fun b o ζ ζ e ζ ζ => hk b o e, S'.keep, S'.up, fun b i q => ?_, fun b q => (hF b q).elim (fun z => S'.al b z) fun z => z.2, S'.tab⟩
  . rcases q with q | q
    . exact (hF b q).imp .inl fun z => z.1
    . exact .inl (.inr q)
  . obtain ⟨a, d, vs, n, e⟩ := S.own b i q
    exact ⟨a, fun z => (hF b z).elim d fun z => absN e z.1, vs, n, hk _ _ e⟩
theorem SI.nFx (S : SI c F own γ h) {b : Addr} {o : Obj} (e : h.get? b = some o) (q : Dt o) : ¬ c.Fx b := fun z => S.cv.dt z e q
theorem SX.wns (X : SX c) (S : SI c F own γ h) {b : Addr} (w : b ∈ frs c.outer) : ∃ m, h.Ns b m := by
  refine cps fun Gq goq => ?_
  obtain ⟨e, he, hb⟩ := List.mem_filterMap.mp w
  obtain ⟨_, L, m, hf, _, hn⟩ := X.ff e he
  refine goq ?_
  clear goq
  clear Gq
  rw [hb] at hf; cases hf
  exact ⟨m, S.up.ns hn⟩
theorem SX.nW (X : SX c) (S : SI c F own γ h) {b : Addr} {o : Obj} {vs : Array Value} {n : Nat} (e : h.get? b = some o) (q : o.data = .seq vs n) : ¬ c.W b := fun ⟨_, w⟩ => by
  rcases w with w | ⟨cc, w⟩
  . obtain ⟨_, hm⟩ := X.wns S w
    exact ns_dt hm e (.inl ⟨vs, n, q⟩)
  . obtain ⟨ps, _, _, e'⟩ := S.tab cc b w
    rw [e] at e'; cases e'; cases q
theorem SX.wex (X : SX c) (S : SI c F own γ h) {b : Addr} (w : c.W b) : ∃ o, h.get? b = some o := by
  rcases w.2 with w | ⟨cc, w⟩
  . obtain ⟨_, o, _, _, e, _⟩ := X.wns S w
    exact ⟨o, e⟩
  . obtain ⟨ps, _, _, e'⟩ := S.tab cc b w
    exact ⟨_, e'⟩
theorem SX.nW0 (X : SX c) {b : Addr} (e : c.h₀.get? b = none) : ¬ c.W b := fun ⟨_, w⟩ => by
  rcases w with w | ⟨cc, w⟩
  . obtain ⟨e', he, hb⟩ := List.mem_filterMap.mp w
    refine cps fun Gq goq => ?_
    obtain ⟨_, L, m, hf, _, o, _, _, z, _⟩ := X.ff e' he
    refine goq ?_
    clear goq
    clear Gq
    rw [hb] at hf; cases hf
    exact absN z e
  . obtain ⟨_, _, _, o, z, _⟩ := X.gp cc b w
    exact absN z e
theorem SI.there (S : SI c F own γ h) {b : Addr} (q : c.Fx b) : ∃ o, h.get? b = some o := by
  rcases q with rfl | ⟨x, hx⟩
  . obtain ⟨_, o, _, _, z, _⟩ := S.cv.ns
    exact ⟨o, z⟩
  . obtain ⟨_, o, z, _⟩ := S.cv.cl x b hx
    exact ⟨o, z⟩
theorem SI.none0 (S : SI c F own γ h) {b : Addr} (X : SX c) (e : h.get? b = none) : c.h₀.get? b = none := by
  cases q : c.h₀.get? b with
  | none => rfl
  | some o =>
    by_cases w : c.W b
    . obtain ⟨o', z⟩ := X.wex S w
      exact (absN z e).elim
    . exact (absN (S.keep b o q w) e).elim
theorem SI.nown (S : SI c F own γ h) {b : Addr} (e : h.get? b = none) : own b = none := by
  cases q : own b with
  | none => rfl
  | some j => obtain ⟨_, _, _, _, z⟩ := S.own b j q; exact (absN z e).elim
theorem SI.kb (X : SX c) (S : SI c F own γ h) : KeepsH c.G.hB h := fun b o e => S.keep b o (X.kb b o e) fun ⟨_, w⟩ => by
  rcases w with w | ⟨cc, w⟩
  . obtain ⟨e', he, hb⟩ := List.mem_filterMap.mp w
    refine cps fun Gq goq => ?_
    obtain ⟨_, L, m, hf, hn, _⟩ := X.ff e' he
    refine goq ?_
    clear goq
    clear Gq
    rw [hb] at hf; cases hf
    exact absN e hn
  . exact absN e (X.gp cc b w).2.1
theorem SX.frs (X : SX c) (S : SI c F own γ h) : Frs c.G h (c.env :: c.outer) := by
  intro e he
  cases he with
  | head =>
    obtain ⟨m, hm⟩ := S.cv.ns
    refine ⟨by show c.sc.kind ≠ .module; rw [X.K.kind]; decide, c.L, m, rfl, X.kb.none (X.fx _ (.inl rfl)), hm⟩
  | tail _ he => exact (Frs.move X.ff fun ζ ζ q => S.up.ns q) e he
theorem SX.H (X : SX c) {s : Shared} (S : SI c F own γ s.heap) : H c.G c.Φ c.k c.C γ c.A c.env (FO F own) s := by
  refine ⟨X.g, X.real, X.cg, ⟨X.hh, ?_, ?_, SI.kb X S, c.env :: c.outer, Around.frames_deeper X.fr, X.frs S⟩, ⟨X.K.kind, fun x hx => ?_, rfl, rfl, fun x hx => nc_has (X.K.cells x hx), fun i x d e1 e2 => ?_⟩, fun a q => ?_⟩
  . have := X.dp
    show c.A₀.depth + 1 + c.k < recursionLimit
    rw [Nat.add_assoc, Nat.add_comm 1]
    exact this
  . have := X.un
    show c.A₀.units + 3 + 8 * c.k + 200 < cLine
    omega
  . have : c.C.kinds.lookup x = some .globalImplicit := by simpa [Ctx.glob] using hx
    rw [X.K.kinds] at this
    exact this
  . rw [X.K.nsEq, List.getElem?_map] at e1
    obtain ⟨y, hy, hyx⟩ := Option.map_eq_some_iff.mp e1
    cases hyx
    exact S.slots i x _ hy e2
  . rcases q with q | q
    . exact S.al a q
    . cases q' : own a with
      | none => exact absurd q' q
      | some j => obtain ⟨_, _, vs, n, e⟩ := S.own a j q'; exact ⟨_, e⟩
end
section
variable {c : FC} {F : Addr -> Prop} {own own' : Addr -> Option Nat} {γ : Env'} {M : Model} {A : Around} {E : Value -> Shared -> Prop} {s : Shared}
theorem SI.store {hs : Heap} {i : Nat} {x : Str} {v : Value} {sl : Slot} {Q : Unit -> Shared -> Prop} (X : SX c) (S : SI c F own γ hs) (k : KeepsH hs s.heap) (hx : c.ns[i]? = some x)
    (hj : ∀ b j, j ≠ i -> own b = some j -> own' b = some j) (hj' : ∀ b j, j ≠ i -> own' b = some j -> own b = some j) (hF : ∀ b, own' b ≠ none -> own b ≠ none ∨ hs.get? b = none)
    (hown : ∀ b, own' b = some i -> c.h₀.get? b = none ∧ ¬ F b ∧ ∃ vs, s.heap.PlainList b vs)
    (hsl : ∀ h', Has c.env h' x v -> (∀ b o vs n, s.heap.get? b = some o -> o.data = .seq vs n -> h'.get? b = some o) -> SlotOK c F own' h' i x sl)
    (hQ : ∀ h' tk, SI c F own' (γ.set i sl) h' -> Tr c own hs own' h' -> (∀ b o, ¬ c.Fx b -> s.heap.get? b = some o -> h'.get? b = some o) -> Q () { s with heap := h', toks := tk }) :
    wpAny M A (storeName c.env x v) Q E s := by
  have Sk := S.keeps k
  refine cv_store X.K.kind (X.tg hx) Sk.cv fun h' tk V' hv kp ks => ?_
  have seqk : ∀ b o vs n, s.heap.get? b = some o -> o.data = .seq vs n -> h'.get? b = some o := fun b o vs n e d => kp b o (Sk.nFx e (.inl ⟨vs, n, d⟩)) e
  have n0 : ∀ b o, c.h₀.get? b = some o -> ¬ Vol c.env c.nc b := fun b o e z => absN e (X.fx b z)
  refine hQ h' tk ⟨V', fun j y sl' e1 e2 => ?_, fun b o e w => kp b o (n0 b o e) (Sk.keep b o e w), fun b o e nf => let ⟨sl', e'⟩ := Sk.up b o e nf; ⟨sl', kp b _ (n0 b o e) e'⟩, fun b j q => ?_, fun b q => ?_, Sk.tab' X fun b o n0' ζ e => kp b o (fun z => n0' (X.fx b z)) e⟩ ⟨fun b o e ζ e2 ζ => kp b o e2 (k b o e), fun b o e => ?_, hF⟩ kp
  . by_cases hji : j = i
    . subst hji
      rw [hx] at e1
      replace e1 := Option.some.inj e1
      subst e1
      rw [List.getElem?_set_self (by have := (List.getElem?_eq_some_iff.mp e2).1; rw [List.length_set] at this; exact this)] at e2
      replace e2 := Option.some.inj e2
      subst e2
      exact hsl h' hv seqk
    . rw [List.getElem?_set_ne (Ne.symm hji)] at e2
      exact (S.slots j y sl' e1 e2).move (fun u hu => ks y u (fun z => by subst z; exact hji (X.inj e1 hx)) (X.tg e1) (hu.keeps k)) (fun b q => hj b j hji q)
        (fun b q => q.elim (fun q => .inl (.inl q)) fun q => (hF b q).imp .inr id) fun b o vs n e d ζ => seqk b o vs n (k b o e) d
  . by_cases hji : j = i
    . subst hji
      refine cps fun Gq goq => ?_
      obtain ⟨q1, q3, vs, n, q2⟩ := hown b q
      refine goq ?_
      clear goq
      clear Gq
      exact ⟨q1, q3, vs, n, seqk b _ vs n q2 rfl⟩
    . obtain ⟨q1, q3, vs, n, q2⟩ := Sk.own b j (hj' b j hji q)
      exact ⟨q1, q3, vs, n, seqk b _ vs n q2 rfl⟩
  . obtain ⟨o, e⟩ := Sk.al b q
    by_cases z : c.Fx b
    . rcases z with z | ⟨y, z⟩
      . obtain ⟨_, o, _, _, e, _⟩ := V'.ns; exact ⟨o, z ▸ e⟩
      . obtain ⟨_, o, e, _⟩ := V'.cl y b z; exact ⟨o, e⟩
    . exact ⟨o, kp b o z e⟩
  . by_cases z : c.Fx b
    . rcases z with z | ⟨y, z⟩
      . obtain ⟨_, o, _, _, e, _⟩ := V'.ns; exact ⟨o, z ▸ e⟩
      . obtain ⟨_, o, e, _⟩ := V'.cl y b z; exact ⟨o, e⟩
    . exact ⟨o, kp b o z (k b o e)⟩
noncomputable def drop (own : Addr -> Option Nat) (i : Nat) : Addr -> Option Nat := fun b => if own b = some i then none else own b
theorem drop_some {i j : Nat} {b : Addr} : drop own i b = some j ↔ own b = some j ∧ j ≠ i := by
  unfold drop
  by_cases h : own b = some i
  . rw [if_pos h, h]
    exact ⟨nofun, fun ⟨q, hj⟩ => (hj (Option.some.inj q).symm).elim⟩
  . rw [if_neg h]
    exact ⟨fun q => ⟨q, fun z => h (z ▸ q)⟩, fun q => q.1⟩
theorem drop_ne {i : Nat} {b : Addr} (h : drop own i b ≠ none) : own b ≠ none := fun z => h (by
  unfold drop
  rw [z]
  exact ite_self _)
theorem drop_self {i : Nat} {b : Addr} (h : own b = some i) : drop own i b = none := if_pos h
theorem SI.frz1 {h : Heap} (S : SI c F own γ h) (i : Nat) : SI c F (drop own i) (γ.modify i frzS) h ∧ Tr c own h (drop own i) h := by
  have hF : ∀ b, FO F (drop own i) b -> FO F own b ∨ h.get? b = none := fun b q => .inl (q.imp id drop_ne)
  refine ⟨⟨S.cv, fun j x sl' e1 e2 => ?_, S.keep, S.up, fun b j q => S.own b j (drop_some.mp q).1, S.al, S.tab⟩, ⟨fun ζ ζ e ζ ζ ζ => e, fun b o e => ⟨o, e⟩, fun b q => .inl (drop_ne q)⟩⟩
  rw [List.getElem?_modify] at e2
  obtain ⟨s0, e3, e4⟩ := Option.map_eq_some_iff.mp e2
  have y := S.slots j x s0 e1 e3
  by_cases hji : j = i
  . subst hji
    rw [if_pos rfl] at e4
    subst e4
    cases s0 with
    | un => trivial
    | pl d => obtain ⟨v, a, r⟩ := y; exact ⟨v, a, r.weak hF⟩
    | b1 ds =>
      refine cps fun Gq goq => ?_
      obtain ⟨a, vs, q1, q2, q3, q4⟩ := y
      refine goq ?_
      clear goq
      clear Gq
      exact ⟨_, q1, .list q3 (fun z => z.elim (S.own a j q2).2.1 fun z => z (drop_self q2)) (q4.weak hF)⟩
  . rw [if_neg (Ne.symm hji)] at e4
    subst e4
    exact y.move (fun ζ q => q) (fun b q => drop_some.mpr ⟨q, hji⟩) hF fun ζ ζ ζ ζ e ζ ζ => e
theorem SI.frz {h : Heap} : ∀ (is : List Nat) {own : Addr -> Option Nat} {γ : Env'}, SI c F own γ h -> ∃ own', SI c F own' (Mine.frz γ is) h ∧ Tr c own h own' h
  | [], own, _, S => ⟨own, S, Tr.of_keeps fun ζ ζ e => e⟩
  | i :: is, own, γ, S => by
    refine cps fun Gq goq => ?_
    obtain ⟨S1, t1⟩ := S.frz1 i
    obtain ⟨own', S2, t2⟩ := SI.frz is S1
    refine goq ?_
    clear goq
    clear Gq
    exact ⟨own', S2, t1.trans t2⟩
theorem store_pl {hs : Heap} {i : Nat} {x : Str} {v : Value} {d : PyData} {Q : Unit -> Shared -> Prop} (X : SX c) (S : SI c F own γ hs) (k : KeepsH hs s.heap) (hx : c.ns[i]? = some x)
    (rv : RD s.heap (FO F own) v d)
    (hQ : ∀ h' tk, SI c F (drop own i) (γ.set i (.pl d)) h' -> Tr c own hs (drop own i) h' -> (∀ b o, ¬ c.Fx b -> s.heap.get? b = some o -> h'.get? b = some o) -> Q () { s with heap := h', toks := tk }) :
    wpAny M A (storeName c.env x v) Q E s :=
  S.store (own' := drop own i) (sl := .pl d) X k hx (fun b j hj q => drop_some.mpr ⟨q, hj⟩) (fun b j ζ q => (drop_some.mp q).1) (fun b q => .inl (drop_ne q)) (fun b q => ((drop_some.mp q).2 rfl).elim)
    (fun h' hv kk => ⟨v, hv, rv.moveF (fun b q => .inl (q.imp id drop_ne)) fun b o vs n e d ζ => kk b o vs n e d⟩) hQ
theorem mkSlot_of (r : PyData × Nat) : (∃ ds, r = (.list ds, 1) ∧ mkSlot r = .b1 ds) ∨ mkSlot r = .pl r.1 := by
  obtain ⟨d, l⟩ := r
  cases d with
  | list ds =>
    match l with
    | 0 => exact .inr rfl
    | 1 => exact .inl ⟨ds, rfl, rfl⟩
    | _ + 2 => exact .inr rfl
  | _ => exact .inr rfl
noncomputable def gain (own : Addr -> Option Nat) (i : Nat) (a : Addr) : Addr -> Option Nat := fun b => if b = a then some i else drop own i b
theorem gain_self {i : Nat} {a : Addr} : gain own i a a = some i := if_pos rfl
theorem gain_ne {i : Nat} {a b : Addr} (h : b ≠ a) : gain own i a b = drop own i b := if_neg h
theorem store_slot {hs : Heap} {i : Nat} {x : Str} {v : Value} {r : PyData × Nat} {Q : Unit -> Shared -> Prop} (X : SX c) (S : SI c F own γ hs) (k : KeepsH hs s.heap) (hx : c.ns[i]? = some x)
    (rv : Val (FO F own) hs s.heap v r)
    (hQ : ∀ own' h' tk, SI c F own' (γ.set i (mkSlot r)) h' -> Tr c own hs own' h' -> (∀ b o, ¬ c.Fx b -> s.heap.get? b = some o -> h'.get? b = some o) -> Q () { s with heap := h', toks := tk }) :
    wpAny M A (storeName c.env x v) Q E s := by
  rcases mkSlot_of r with ⟨ds, rfl, hm⟩ | hm
  . rw [hm] at hQ
    refine cps fun Gq goq => ?_
    obtain ⟨a, vs, ds', rfl, q1, q2, q3, q4⟩ := rv.2 rfl
    refine goq ?_
    clear goq
    clear Gq
    cases q1
    have na := S.nown q2
    have hF : ∀ b, gain own i a b ≠ none -> own b ≠ none ∨ hs.get? b = none := fun b q => by
      by_cases z : b = a
      . rw [z]; exact .inr q2
      . rw [gain_ne z] at q; exact .inl (drop_ne q)
    refine S.store (own' := gain own i a) (sl := .b1 ds) X k hx (fun b j hj q => ?_) (fun b j hj q => ?_) hF (fun b q => ?_) (fun h' hv kk => ⟨a, vs, hv, gain_self, let ⟨n, e⟩ := q3; ⟨n, kk a _ vs n e rfl⟩, q4.moveF (fun b q => .inl ?_) fun b o vs n e d ζ => kk b o vs n e d⟩) fun h' tk S' t' kb => hQ _ h' tk S' t' kb
    . rw [gain_ne fun z => by rw [z, na] at q; cases q]
      exact drop_some.mpr ⟨q, hj⟩
    . by_cases z : b = a
      . rw [z, gain_self] at q; cases q; exact (hj rfl).elim
      . rw [gain_ne z] at q; exact (drop_some.mp q).1
    . by_cases z : b = a
      . rw [z]; exact ⟨S.none0 X q2, S.al.fresh q2, vs, q3⟩
      . rw [gain_ne z] at q; exact ((drop_some.mp q).2 rfl).elim
    . rcases q with q | q
      . exact .inl (.inl q)
      . by_cases z : b = a
        . exact .inr z
        . rw [gain_ne z] at q; exact .inl (.inr (drop_ne q))
  . rw [hm] at hQ
    exact store_pl X S k hx rv.1 fun h' tk S' t' kb => hQ _ h' tk S' t' kb
end
section
variable {c : FC} {F : Addr -> Prop} {own : Addr -> Option Nat} {γ : Env'} {h h' : Heap}
theorem SI.off {F' : Addr -> Prop} {wr : List Addr} (X : SX c) (S : SI c F' own γ h) (hl : ∀ b, F b -> F' b) (hk : ∀ b o, b ∉ wr -> h.get? b = some o -> h'.get? b = some o)
    (hd : ∀ b ∈ wr, ¬ c.Fx b ∧ own b = none ∧ c.h₀.get? b = none ∧ (F b -> ∃ o', h'.get? b = some o')) (hF : ∀ b ∈ wr, F' b ∨ ∀ o vs n, h.get? b = some o -> o.data ≠ .seq vs n) : SI c F own γ h' := by
  have vk : ∀ b o, Vol c.env c.nc b -> h.get? b = some o -> h'.get? b = some o := fun b o v e => hk b o (fun w => (hd b w).1 v) e
  refine ⟨S.cv.at vk, fun i x sl e1 e2 => (S.slots i x sl e1 e2).move (fun v q => q.at (X.tg e1) vk) (fun ζ q => q) (fun b q => .inl (q.imp (hl b) id)) fun b o vs n e d q => hk b o (fun w => ?_) e,
    fun b o e w => hk b o (fun z => absN e (hd b z).2.2.1) (S.keep b o e w), fun b o e nf => let ⟨sl, e'⟩ := S.up b o e nf; ⟨sl, hk b _ (fun z => absN e (hd b z).2.2.1) e'⟩, fun b i q => ?_, fun b q => ?_, S.tab' X fun b o n0 ζ e => hk b o (fun w => n0 (hd b w).2.2.1) e⟩
  . rcases q with q | q
    . rw [(hd b w).2.1] at q; cases q
    . rcases hF b w with z | z
      . exact q (.inl z)
      . exact z o vs n e d
  . obtain ⟨q1, q2, vs, n, q3⟩ := S.own b i q
    exact ⟨q1, fun z => q2 (hl b z), vs, n, hk b _ (fun w => by rw [(hd b w).2.1] at q; cases q) q3⟩
  . by_cases w : b ∈ wr
    . exact (hd b w).2.2.2 q
    . obtain ⟨o, e⟩ := S.al b (hl b q)
      exact ⟨o, hk b o w e⟩
theorem Tr.off {own' : Addr -> Option Nat} {h₁ : Heap} {wr : List Addr} (t : Tr c own h own' h₁) (hk : ∀ b o, b ∉ wr -> h₁.get? b = some o -> h'.get? b = some o) (hn : ∀ b ∈ wr, h.get? b = none) : Tr c own h own' h' :=
  ⟨fun b o e e1 e2 e3 => hk b o (fun w => absN e (hn b w)) (t.keep b o e e1 e2 e3), fun b o e => let ⟨o', e'⟩ := t.there b o e; ⟨o', hk b o' (fun w => absN e (hn b w)) e'⟩, t.own⟩
theorem SI.mut {a : Addr} {i : Nat} {x : Str} {sl : Slot} (X : SX c) (S : SI c F own γ h) (ha : own a = some i) (hs : Heap.SameBut a h h') (hp : ∃ vs, h'.PlainList a vs) (hx : c.ns[i]? = some x)
    (hsl : SlotOK c F own h' i x sl) : SI c F own (γ.set i sl) h' ∧ Tr c own h own h' := by
  refine cps fun Gq goq => ?_
  obtain ⟨q0, qF, vs0, n0, ho⟩ := S.own a i ha
  refine goq ?_
  clear goq
  clear Gq
  have hnf : ¬ c.Fx a := S.nFx ho (.inl ⟨_, _, rfl⟩)
  have ne : ∀ b o, h.get? b = some o -> b ≠ a -> h'.get? b = some o := fun b o e z => hs.extBut b o z e
  have th : ∀ b o, h.get? b = some o -> ∃ o', h'.get? b = some o' := fun b o e => by
    by_cases z : b = a
    . subst z; obtain ⟨vs, n, e'⟩ := hp; exact ⟨_, e'⟩
    . exact ⟨o, ne b o e z⟩
  have vk : ∀ b o, Vol c.env c.nc b -> h.get? b = some o -> h'.get? b = some o := fun b o v e => ne b o e fun z => hnf (z ▸ v)
  refine ⟨⟨S.cv.at vk, fun j y sl' e1 e2 => ?_, fun b o e w => ne b o (S.keep b o e w) (fun z => absN (z ▸ e) q0), fun b o e nf => let ⟨sl, e'⟩ := S.up b o e nf; ⟨sl, ne b _ e' fun z => absN (z ▸ e) q0⟩, fun b j q => ?_, fun b q => let ⟨o, e⟩ := S.al b q; th b o e, S.tab' X fun b o n0' ζ e => ne b o e fun z => n0' (z ▸ q0)⟩,
    fun b o e q ζ ζ => ne b o e (fun z => by rw [z, ha] at q; cases q), th, fun b q => .inl q⟩
  . by_cases hji : j = i
    . subst hji
      rw [List.getElem?_set_self (by have := (List.getElem?_eq_some_iff.mp e2).1; rw [List.length_set] at this; exact this)] at e2
      replace e2 := Option.some.inj e2
      subst e2
      rw [hx] at e1
      replace e1 := Option.some.inj e1
      subst e1
      exact hsl
    . rw [List.getElem?_set_ne (Ne.symm hji)] at e2
      refine (S.slots j y sl' e1 e2).move (fun v q => q.at (X.tg e1) vk) (fun ζ q => q) (fun ζ q => .inl q) fun b o vs n e d q => ne b o e fun z => ?_
      subst z
      rcases q with q | q
      . rw [ha] at q; cases q; exact hji rfl
      . exact q (.inr (by rw [ha]; exact nofun))
  . obtain ⟨q1, q2, vs, n, q3⟩ := S.own b j q
    by_cases z : b = a
    . subst z; exact ⟨q1, q2, hp⟩
    . exact ⟨q1, q2, vs, n, ne b _ q3 z⟩
theorem SI.turn {a : Addr} {i : Nat} {x : Str} {vs : Array Value} {ds : List PyData} (X : SX c) (S : SI c F own γ h) (hx : c.ns[i]? = some x) (hh : Has c.env h x (.ref a)) (oa : own a = some i) (hs : Heap.SameBut a h h') (hp : h'.PlainList a vs) (rd : RDs h (FO F own) vs.toList ds) :
    SI c F own (γ.set i (.b1 ds)) h' ∧ Tr c own h own h' := by
  refine cps fun Gq goq => ?_
  obtain ⟨_, _, _, _, ho⟩ := S.own a i oa
  refine goq ?_
  clear goq
  clear Gq
  exact S.mut X oa hs ⟨_, hp⟩ hx ⟨a, vs, hh.at (X.tg hx) fun b o v e => hs.extBut b o (fun z => S.nFx ho (.inl ⟨_, _, rfl⟩) (z ▸ v)) e, oa, hp, rd.moveF (fun ζ q => .inl q) fun b o ws n e ζ q => hs.extBut b o (fun z => q (.inr (by rw [z, oa]; exact nofun))) e⟩
theorem SI.caught (X : SX c) (S : SI c F own γ h) (htp : c.tp = true) (hk : ∀ b o, h.get? b = some o -> b ∉ frs (c.env :: c.outer) -> h'.get? b = some o) (hu : h.UpToSlots h') : SI c F own γ h' ∧ Tr c own h own h' := by
  have hfr : ∀ b, b ∈ frs (c.env :: c.outer) -> ∃ m, h.Ns b m := fun b hb => by
    obtain ⟨e, he, hb⟩ := List.mem_filterMap.mp hb
    obtain ⟨_, L, m, hf, _, hn⟩ := X.frs S e he
    rw [hb] at hf; cases hf
    exact ⟨m, hn⟩
  have dk : ∀ b o, h.get? b = some o -> Dt o -> h'.get? b = some o := fun b o e d => hk b o e fun z => let ⟨_, hm⟩ := hfr b z; ns_dt hm e d
  have ck : ∀ b v, h.IsCell b v -> h'.IsCell b v := fun b v ⟨o, e, d⟩ => ⟨o, hk b o e (fun z => by
    obtain ⟨_, o', es, ep, z1, z2, _⟩ := hfr b z
    rw [e] at z1; cases z1; rw [d] at z2; cases z2), d⟩
  have th : ∀ b o, h.get? b = some o -> ∃ o', h'.get? b = some o' := fun b o e => by
    by_cases z : b ∈ frs (c.env :: c.outer)
    . obtain ⟨_, hm⟩ := hfr b z
      obtain ⟨o', _, _, e', _⟩ := hu.ns hm
      exact ⟨o', e'⟩
    . exact ⟨o, hk b o e z⟩
  have hL : ∀ b, ¬ c.Fx b -> ¬ c.W b -> b ∉ frs (c.env :: c.outer) := fun b e1 e2 z => by
    have z : b ∈ c.L :: frs c.outer := z
    rcases List.mem_cons.mp z with z | z
    . exact e1 (.inl z)
    . exact e2 ⟨htp, .inl z⟩
  refine ⟨⟨⟨let ⟨m, q⟩ := S.cv.ns; ⟨m, hu.ns q⟩, fun x k q => let ⟨v, q⟩ := S.cv.cl x k q; ⟨v, ck k v q⟩, S.cv.ap, S.cv.ab⟩, fun i x sl e1 e2 => (S.slots i x sl e1 e2).move (fun v q => ?_) (fun ζ q => q) (fun ζ q => .inl q) fun b o vs n e d ζ => dk b o e (.inl ⟨vs, n, d⟩),
    fun b o e w => hk b o (S.keep b o e w) (hL b (fun z => absN e (X.fx b z)) w), S.up.trans hu, fun b i q => let ⟨q1, q2, vs, n, e⟩ := S.own b i q; ⟨q1, q2, vs, n, dk b _ e (.inl ⟨_, _, rfl⟩)⟩, fun b q => let ⟨o, e⟩ := S.al b q; th b o e, S.tab' X fun b o ζ d e => dk b o e d⟩,
    fun b o e ζ e2 e3 => hk b o e (hL b e2 e3), th, fun b q => .inl q⟩
  rcases q with ⟨a, b, m, q, d⟩ | ⟨a, k, b, q⟩
  . exact .inl ⟨a, b, m, hu.ns q, d⟩
  . exact .inr ⟨a, k, b, ck _ _ q⟩
end
end Mine
end
section
set_option maxRecDepth 100000
namespace Mine
open PySem PyProof.Rows
section
variable {prog : Program} {w : World} {A : Around} {s : Shared}
theorem setItem_plain {E : Value -> Shared -> Prop} {l : Addr} {items : Array Value} {k : Int} {t : Tok} {v : Value} {Q : Unit -> Shared -> Prop} (hl : s.heap.PlainList l items) (h0 : 0 ≤ k) (hfit : k < 2 ^ 63) (hn : k < items.size)
    (hQ : ∀ h', h'.PlainList l (items.setIfInBounds k.toNat v) -> Heap.SameBut l s.heap h' -> Q () { s with heap := h' }) : wpAny (model prog w) A (setItem (.ref l) (.int k t) v) Q E s := by
  obtain ⟨n, ho⟩ := hl
  refine PySem.W.ki_setAt ho h0 hfit hn (hQ _ ⟨n, ?_⟩ (Heap.SameBut.update ..))
  have e : Obj.mapSeq (·.setIfInBounds k.toNat v) { cls := .type "list", data := .seq items n } = { cls := .type "list", data := .seq (items.setIfInBounds k.toNat v) n } := by simp [Obj.mapSeq]
  rw [Heap.get?_update_self _ ho (by rw [e]; rfl), e]
end
noncomputable abbrev Left (c : FC) (F : Addr -> Prop) (own : Addr -> Option Nat) (s : Shared) (γ' : Env') (s' : Shared) : Prop := ∃ own', SI c F own' γ' s'.heap ∧ Tr c own s.heap own' s'.heap ∧ Sm s s'
noncomputable def slotFor (b : Bool) (r : PyData × Nat) : Slot := if b then mkSlot r else .pl r.1
theorem swaps_name (value : PySem.Expr) (x : Str) (px : Pos) (n : Nat) (env : Env) : swapsWith value (some (.Name x px)) n env = pure false ∨ (∃ elt gens sc p, value = .ListComp elt gens sc p ∧ swapsWith value (some (.Name x px)) n env = pure true) ∨ (∀ C, cE C value = none) := by
  cases value with
  | ListComp elt gens sc p =>
    cases hb : (env.blockKind == .function && env.kindOf x == some .local && px.line == (PySem.Expr.ListComp elt gens sc p).pos.line && !(sc.names.any fun (n, k) => n == x && (k == .local || k == .cell)))
    . left
      show (pure _ : Sem Bool) = _
      rw [hb]
    . right; left
      refine ⟨elt, gens, sc, p, rfl, ?_⟩
      show (pure _ : Sem Bool) = _
      rw [hb]
  | SetComp => right; right; intro C; rfl
  | DictComp => right; right; intro C; rfl
  | _ => left; rfl
theorem swaps_sub (value o i : PySem.Expr) (p : Pos) (n : Nat) (env : Env) : swapsWith value (some (.Subscript o i p)) n env = pure false := by
  cases value <;> rfl
theorem posD_of {p : PyData} {n k : Nat} (h : posD p n = some k) : ∃ i : Int, p = .int i ∧ 0 ≤ i ∧ i < 2 ^ 63 ∧ i.toNat = k ∧ k < n := by
  cases p with
  | int i =>
    refine ifBE (show (if 0 ≤ i && i < lenLim && i.toNat < n then some i.toNat else none) = some k from h) fun hc h => ?_
    replace h := Option.some.inj h
    subst h
    obtain ⟨hc, h3⟩ := Bool.and_eq_true_iff.mp hc
    obtain ⟨h1, h2⟩ := Bool.and_eq_true_iff.mp hc
    exact ⟨i, rfl, of_decide_eq_true h1, Int.lt_trans (of_decide_eq_true h2) (by decide), rfl, of_decide_eq_true h3⟩
  | _ => cases h
section
variable {c : FC} {F : Addr -> Prop} {own : Addr -> Option Nat} {γ : Env'} {s : Shared} {E : Value -> Shared -> Prop}
theorem bld_of {x : Str} {i : Nat} (X : SX c) (h : bld c.C x = some i) : c.ns[i]? = some x ∧ (x == ("__debug__" : Str)) = false := by
  refine bind_someE h fun j h1 h2 => ?_
  refine ifBE h2 fun h3 h2 => ?_
  replace h2 := Option.some.inj h2
  subst h2
  exact ⟨slotNs X h1, by have := (Bool.and_eq_true_iff.mp h3).2; simpa using this⟩
theorem store_for {hs : Heap} {i : Nat} {x : Str} {v : Value} {r : PyData × Nat} {M : Model} {A : Around} {Q : Unit -> Shared -> Prop} (b : Bool) (X : SX c) (S : SI c F own γ hs) (k : KeepsH hs s.heap) (hx : c.ns[i]? = some x)
    (rv : Val (FO F own) hs s.heap v r)
    (hQ : ∀ own' h' tk, SI c F own' (γ.set i (slotFor b r)) h' -> Tr c own hs own' h' -> (∀ b o, ¬ c.Fx b -> s.heap.get? b = some o -> h'.get? b = some o) -> Q () { s with heap := h', toks := tk }) :
    wpAny M A (storeName c.env x v) Q E s := by
  cases b with
  | true => exact store_slot X S k hx rv hQ
  | false => exact store_pl X S k hx rv.1 fun h' tk S' t' kb => hQ _ h' tk S' t' kb
theorem used_left (X : SX c) (S : SI c F own γ s.heap) {Cc : Addr} {m : Str -> Option Value} {own' : Addr -> Option Nat} {γ' : Env'} {h₂ : Heap} {s₃ : Shared} (hC : s.heap.get? Cc = none) (hns : h₂.Ns Cc m) (S₂ : SI c F own' γ' h₂) (t₂ : Tr c own s.heap own' h₂) (sm : Sm s s₃) (hs : Heap.SameBut Cc h₂ s₃.heap) : Left c F own s γ' s₃ := by
  have hk : ∀ b o, b ∉ [Cc] -> h₂.get? b = some o -> s₃.heap.get? b = some o := fun b o hb e => hs.extBut b o (fun z => hb (by rw [z]; exact .head _)) e
  refine ⟨own', S₂.off (wr := [Cc]) X (fun ζ q => q) hk (fun b hb => ?_) (fun b hb => ?_), t₂.off (wr := [Cc]) hk fun b hb => ?_, sm⟩
  . rw [List.mem_singleton.mp hb]
    refine ⟨fun z => let ⟨o, e⟩ := S.there z; absN e hC, ?_, S.none0 X hC, fun z => (S.al.fresh hC z).elim⟩
    cases q : own' Cc with
    | none => rfl
    | some j => obtain ⟨_, _, _, _, e⟩ := S₂.own Cc j q; exact (ns_dt hns e (.inl ⟨_, _, rfl⟩)).elim
  . rw [List.mem_singleton.mp hb]
    exact .inr fun o vs n e d => ns_dt hns e (.inl ⟨vs, n, d⟩)
  . rw [List.mem_singleton.mp hb]
    exact hC
theorem SX.asgName (X : SX c) (S : SI c F own γ s.heap) {value : PySem.Expr} {spos : Pos} {e : PE} {x : Str} {px : Pos} {i : Nat} {r : PyData × Nat} {Q : Flow -> Shared -> Prop} (b : Bool)
    (h : cE c.C value = some e) (he : evE c.Φ γ e = some r) (hx : c.ns[i]? = some x) (hQ : ∀ s', Left c F own s (γ.set i (slotFor b r)) s' -> Q .next s') :
    wpAny c.M c.A (exec (.Assign [.Name x px] value spos) c.env) Q E s := by
  rcases swaps_name value x px spos.line c.env with hs | ⟨elt, gens, sc, p, rfl, hs⟩ | hs
  . exact wpAny_Assign_Name (sndE value c.C e h (X.H S) he fun v s₁ k1 v1 => store_for b X S k1.heap hx v1 fun own' h' tk S' t' ζ => hQ _ ⟨own', S', t', k1.sm.puts _ _⟩) hs
  . obtain ⟨tg, iter, ifs, rfl, hf, hcl, hk, hn, w⟩ := sndComp (E := E) (compI elt gens) h (X.H S) he
    rw [exec_Assign_Name_used _ _ _ _ hs]
    refine wpAny_bind (wpAny_standAt (wpAny_bind ?_))
    show wpAny _ _ (do let _ ← comprehension (.ListComp elt [⟨tg, iter, ifs, 0⟩] sc p) sc c.env _ (newList []) false (eval iter c.env) (some (assign (.Name x px) c.env))) _ _ s
    refine wpAny_bind (wpAny_mono (wpAny_comprehension_free (use := some (assign (.Name x px) c.env)) (Q := fun ζ s' => Q .next s') rfl hf hcl hk hn (w _ fun D Cc s' m' ys hC hns hl fin => ?_)) (fun ζ s' hq => wpAny_pure (wpAny_pure hq)) fun ζ ζ e => e)
    obtain ⟨q1, q2⟩ := fin s'.heap (.refl ..)
    show wpAny _ _ (assign (.Name x px) c.env (.ref D)) _ _ _
    have hCf : ¬ c.Fx Cc := fun z => let ⟨o, e⟩ := S.there z; absN e hC
    refine wpAny_assign_Name (store_for (s := s') b X S q1.heap hx q2 fun own' h₂ tk₂ S₂ t₂ kb => ?_)
    have hns₂ : h₂.Ns Cc m' := hns.at' fun o e => kb _ o hCf e
    exact ⟨m', hns₂, fun h₃ hs₃ => hQ _ (used_left X S hC hns₂ S₂ t₂ (q1.sm.puts _ _) hs₃)⟩
  . rw [hs c.C] at h; cases h
theorem SX.app (X : SX c) (S : SI c F own γ s.heap) {x : Str} {px ap cp spos : Pos} {a : PySem.Expr} {i : Nat} {e : PE} {r : PyData × Nat} {γ' : Env'} {Q : Flow -> Shared -> Prop}
    (hb : bld c.C x = some i) (hline : (ap.endLine == cp.line) = true) (h : cEs c.C [a] = some (.cons e .nil)) (he : evE c.Φ γ e = some r) (hs : appS γ i r = some γ')
    (hQ : ∀ s', Left c F own s γ' s' -> Q .next s') :
    wpAny c.M c.A (exec (.Expr (.Call (.Attribute (.Name x px) ("append" : Str) ap) [a] [] cp) spos) c.env) Q E s := by
  have hH := X.H S
  obtain ⟨hx, hd⟩ := bld_of X hb
  have hs' : (match γ[i]? with
    | some (.b1 ds) => if ds.length ≤ lenLim then some (γ.set i (.b1 (ds ++ [r.1]))) else none
    | _ => none) = some γ' := hs
  clear hs
  cases hsl : γ[i]? with
  | none => rw [hsl] at hs'; cases hs'
  | some sl =>
    rw [hsl] at hs'
    cases sl with
    | b1 ds =>
      refine cps fun Gq goq => ?_
      refine ifBE hs' fun hlen hs => ?_
      replace hs := Option.some.inj hs
      subst hs
      obtain ⟨ad, vs, hh, oa, ⟨n0, pl⟩, rd⟩ := S.slots i x _ hx hsl
      obtain ⟨z, hz, hz', hst⟩ := cEs_one h
      refine goq ?_
      clear goq
      clear Gq
      cases hz
      refine wpAny_Expr ?_ (by show interactive c.env = false; unfold interactive; rw [show c.env.scope.kind = .function from X.K.kind]; rfl)
      refine wpAny_Call_method (T := "list") (id := "list.append") rfl (by rw [hst]; rfl) hline PySem.F.plainAttrs_list PySem.F.slot_list_append PySem.F.type_list_append (name_has X.K.kind hh ⟨⟨_, pl, rfl⟩, fun b hb => by cases hb; exact ⟨_, pl, rfl⟩, ?_⟩ hd)
      refine Calls.callWith_builtin (stars_plain h) (args_of h rfl (sndOne (fun e ζ => sndE e) h cp hH he fun v s₁ k1 v1 => ?_))
      have rd1 := rd.keeps k1.heap
      have e1 := rd.length
      simp only [Array.length_toList] at e1
      refine wpAny_list_append_plain ⟨n0, k1.heap _ _ pl⟩ (fun h' hp' hs' => ?_) (lenLim_size (e1 ▸ hlen))
      obtain ⟨S', t'⟩ := (S.keeps k1.heap).turn X hx (hh.keeps k1.heap) oa hs' hp' (ds := ds ++ [r.1]) (by rw [Array.toList_push]; exact rd1.append (.cons v1 .nil))
      exact hQ _ ⟨own, S', (Tr.of_keeps k1.heap).trans t', k1.sm.puts _ _⟩
    | _ => cases hs'
theorem SX.put (X : SX c) (S : SI c F own γ s.heap) {x : Str} {px sp spos : Pos} {ix value : PySem.Expr} {i : Nat} {p e : PE} {q r : PyData × Nat} {γ' : Env'} {Q : Flow -> Shared -> Prop}
    (hb : bld c.C x = some i) (hp : cE c.C ix = some p) (h : cE c.C value = some e) (hep : evE c.Φ γ p = some q) (he : evE c.Φ γ e = some r) (hs : putS γ i q.1 r = some γ')
    (hQ : ∀ s', Left c F own s γ' s' -> Q .next s') :
    wpAny c.M c.A (exec (.Assign [.Subscript (.Name x px) ix sp] value spos) c.env) Q E s := by
  have hH := X.H S
  obtain ⟨hx, hd⟩ := bld_of X hb
  have hs' : (match γ[i]? with
    | some (.b1 ds) => (posD q.1 ds.length).bind fun k => some (γ.set i (.b1 (ds.set k r.1)))
    | _ => none) = some γ' := hs
  clear hs
  cases hsl : γ[i]? with
  | none => rw [hsl] at hs'; cases hs'
  | some sl =>
    rw [hsl] at hs'
    cases sl with
    | b1 ds =>
      refine cps fun Gq goq => ?_
      refine bind_someE hs' fun kk hk hs => ?_
      replace hs := Option.some.inj hs
      subst hs
      obtain ⟨ii, hi, i0, i63, itn, ilt⟩ := posD_of hk
      obtain ⟨ad, vs, hh, oa, ⟨n0, pl⟩, rd⟩ := S.slots i x _ hx hsl
      refine goq ?_
      clear goq
      clear Gq
      refine wpAny_Assign_Subscript (sndE value c.C e h hH he fun v s₁ k1 v1 => ?_) (swaps_sub ..)
      refine name_has X.K.kind (hh.keeps k1.heap) ?_ hd
      refine sndE ix c.C p hp (hH.keeps k1) hep fun w s₂ k2 v2 => ?_
      have k12 := k1.trans k2
      have v2' := v2.1
      rw [hi] at v2'
      obtain ⟨t, rfl⟩ := v2'.int_inv
      have e1 := rd.length
      simp only [Array.length_toList] at e1
      refine setItem_plain ⟨n0, k12.heap _ _ pl⟩ i0 i63 (by rw [e1, ← Int.toNat_of_nonneg i0, itn]; exact Int.ofNat_lt.mpr ilt) fun h' hp' hs' => ?_
      obtain ⟨S', t'⟩ := (S.keeps k12.heap).turn X hx (hh.keeps k12.heap) oa hs' hp' (ds := ds.set kk r.1) (by rw [Array.toList_setIfInBounds, itn]; exact (rd.keeps k12.heap).set kk (v1.1.keeps k2.heap))
      exact hQ _ ⟨own, S', (Tr.of_keeps k12.heap).trans t', k12.sm.puts _ _⟩
    | _ => cases hs'
theorem SX.asgW (X : SX c) (S : SI c F own γ s.heap) (htp : c.tp = true) {x fn : Str} {px pf cp spos : Pos} {as : List PySem.Expr} {i j l : Nat} {es : PEs} {xs : List PyData} {d : PyData} {Q : Flow -> Shared -> Prop}
    (hx : c.ns[i]? = some x) (hj : c.C.fn fn = some j) (hes : cEs c.C as = some es) (hne : as.isEmpty = false) (e1 : evEs c.Φ γ es = some xs) (e2 : c.Φ (1000 + j) xs = some (.ret d l))
    (hQ : ∀ s', Left c F own s (γ.set i (.pl d)) s' -> Q .next s') :
    wpAny c.M c.A (exec (.Assign [.Name x px] (.Call (.Name fn pf) as [] cp) spos) c.env) Q E s := by
  have hH := X.H S
  refine cps fun Gq goq => ?_
  obtain ⟨hg, hdb, hj⟩ := fn_of hj
  rw [X.cg.fns, List.getElem?_map] at hj
  obtain ⟨pf', hpf, rfl⟩ := Option.map_eq_some_iff.mp hj
  obtain ⟨ad, o, fd, h1, h2, h3⟩ := X.g.fn j pf' hpf
  refine goq ?_
  clear goq
  clear Gq
  refine wpAny_Assign_Name (name_call (name_glob hH hg h1 ?_ hdb))
  refine Calls.callWith_function (o := o) (fd := fd) (args_of hes hne (sndEsA as es hes cp hH e1 fun vs s₁ k1 ζ r1 => ⟨⟨(hH.keeps k1).ok.kb _ _ h2, h3⟩, ?_⟩))
  have hH1 := hH.keeps k1
  obtain ⟨hlt, real⟩ := X.real.2 j xs _ e2
  have ok : Ok c.G (j + 1) c.A s₁ := ⟨hH1.ok.hh, Nat.lt_of_le_of_lt (Nat.add_le_add_left hlt _) hH1.ok.dp, Nat.lt_of_le_of_lt (Nat.add_le_add_right (Nat.add_le_add_left (Nat.mul_le_mul_left 8 hlt) _) _) hH1.ok.un, hH1.ok.kb, hH1.ok.fr⟩
  refine real pf' ad hpf h1 c.A s₁ (c.env :: c.outer) (FO F own) vs _ _ ok (Around.frames_deeper X.fr) hH1.al r1 (fun d' l' ho v s' kw v1 => ?_) ⟨_, _, rfl⟩
  cases ho
  refine cps fun Gq goq => ?_
  obtain ⟨sm, hk, hu⟩ := kw
  obtain ⟨S2, t2⟩ := (S.keeps k1.heap).caught X htp (fun b o e n => hk b o e n) hu
  refine goq ?_
  clear goq
  clear Gq
  exact store_pl X S2 (fun ζ ζ e => e) hx v1.1 fun h' tk S' t' ζ => hQ _ ⟨_, S', (Tr.of_keeps k1.heap).trans (t2.trans t'), (k1.sm.trans sm).puts _ _⟩
end
end Mine
end
section
set_option maxRecDepth 100000
namespace Mine
open PySem PyProof.Rows
theorem setN_len : ∀ {is : List Nat} {ds : List PyData} {γ γ' : Env'}, setN γ is ds = some γ' -> is.length = ds.length
  | [], [], _, _, _ => rfl
  | [], _ :: _, _, _, h => nomatch h
  | _ :: _, [], _, _, h => nomatch h
  | _ :: is, _ :: ds, γ, _, h => congrArg (· + 1) (setN_len (is := is) (ds := ds) h)
theorem assignEach_names (env : Env) : ∀ xs : List (Str × Pos), assignEach (xs.map fun x => PySem.Expr.Name x.1 x.2) env = xs.map fun x => (false, assign (.Name x.1 x.2) env)
  | [] => rfl
  | x :: xs => by
    show (false, assign (.Name x.1 x.2) env) :: assignEach (xs.map fun x => PySem.Expr.Name x.1 x.2) env = _
    rw [assignEach_names env xs]; rfl
theorem swaps_tuple {C : Ctx} {value : PySem.Expr} {pe : PE} (h : cE C value = some pe) (elts : List PySem.Expr) (kk : Nat) (tp : Pos) (n : Nat) (env : Env) : swapsWithSole [.Tuple elts kk tp] value n env = pure false := by
  cases value <;> first | rfl | cases h
theorem noStar {C : Ctx} : ∀ {vs : List PySem.Expr} {ps : PEs}, cEs C vs = some ps -> (vs.any isSt) = false
  | [], _, _ => rfl
  | v :: vs, ps, h => by
    revert h
    refine bind_liftR fun p h => ?_
    revert h
    refine bS fun ζ ζ h => ?_
    revert h
    refine bS fun q h2 h => ?_
    rw [List.any_cons, noStar h2, p.1.2]
    rfl
theorem swapped_two {vs : List PySem.Expr} {k2 kk : Nat} {p2 tp xpa xpb : Pos} {xa xb : Str} {env : Env} (c1 : vs.length = 2) (hk : env.blockKind = .function) (ka : env.kindOf xa = some .local) (kb : env.kindOf xb = some .local) (c4 : xpa.line = xpb.line) (c5 : ¬ xa = xb)
    (c6 : vs.all (foldedForSure 8) = false) (c7 : vs.all (constantsAlone 8) = false) (hst : (vs.any isSt) = false) :
    swappedStores [.Tuple [.Name xa xpa, .Name xb xpb] kk tp] (.Tuple vs k2 p2) env = pure (some [xa, xb]) := by
  refine (if_neg ?_).trans ((if_neg ?_).trans ?_)
  . show ¬ ((!(true || false) || vs.length != 2 || env.blockKind != .function) = true)
    rw [c1, hk]; decide
  . exact fun z => Bool.noConfusion (z.symm.trans hst)
  . have e : ([PySem.Expr.Name xa xpa, .Name xb xpb].filterMap fun
        | .Name id pos => if env.kindOf id == some .local && pos.line == xpa.line then some id else none
        | _ => none) = [xa, xb] := by
      rw [List.filterMap_cons_some (b := xa) (by show (if _ then _ else _) = _; rw [ka, beq_self_eq_true, beq_self_eq_true]; rfl), List.filterMap_cons_some (b := xb) (by show (if _ then _ else _) = _; rw [kb, c4, beq_self_eq_true, beq_self_eq_true]; rfl)]
      rfl
    refine Eq.trans (b := (if ([xa, xb].length != 2 || [xa, xb].eraseDups.length != [xa, xb].length) = true then pure none else if vs.all (foldedForSure 8) = true then pure none else if vs.all (constantsAlone 8) = true then (do let _ ← (unsupported "assign.tuple-of-constant-expressions:order-of-the-stores" : Sem PUnit); pure (some [xa, xb])) else pure (some [xa, xb]))) ?_ ?_
    . rw [← e]; rfl
    . rw [if_neg, if_neg, if_neg]
      . rw [c7]; decide
      . rw [c6]; decide
      . have c5' : ¬ xb = xa := fun z => c5 z.symm
        have : [xa, xb].eraseDups = [xa, xb] := by simp [List.eraseDups_cons, c5']
        rw [this]
        exact fun z => Bool.noConfusion (show false = true from z)
section
variable {c : FC} {F : Addr -> Prop} {own : Addr -> Option Nat} {γ : Env'} {s : Shared} {E : Value -> Shared -> Prop}
theorem storesN {M : Model} {A : Around} (X : SX c) : ∀ (L : List ((Value -> Sem Unit) × Nat × Str)) (vs : List Value) (ds : List PyData) {hs : Heap} {own : Addr -> Option Nat} {γ γ' : Env'} {s : Shared} {Q : Unit -> Shared -> Prop},
    (∀ p ∈ L, c.ns[p.2.1]? = some p.2.2 ∧ ∀ v s' Q', wpAny M A (storeName c.env p.2.2 v) Q' E s' -> wpAny M A (p.1 v) Q' E s') -> SI c F own γ hs -> KeepsH hs s.heap -> RDs s.heap (FO F own) vs ds ->
    setN γ (L.map (·.2.1)) ds = some γ' ->
    (∀ own' h' tk, SI c F own' γ' h' -> Tr c own hs own' h' -> (∀ b o, ¬ c.Fx b -> s.heap.get? b = some o -> h'.get? b = some o) -> Q () { s with heap := h', toks := tk }) -> wpAny M A (assignInOrder (L.map (·.1)) vs) Q E s
  | [], vs, ds, hs, own, γ, γ', s, Q, _, S, k, r, e, hQ => by
    cases ds with
    | nil =>
      replace e := Option.some.inj e
      subst e
      rw [r.nil_inv]
      exact wpAny_pure (hQ own s.heap s.toks (S.keeps k) (Tr.of_keeps k) fun ζ ζ ζ e => e)
    | cons d ds => cases e
  | p :: L, vs, ds, hs, own, γ, γ', s, Q, hL, S, k, r, e, hQ => by
    cases ds with
    | nil => cases e
    | cons d ds =>
      obtain ⟨v, ws, rfl, rv, r⟩ := r.cons_inv
      obtain ⟨hx, hp⟩ := hL p (.head _)
      show wpAny M A (do holding _ (p.1 _); assignInOrder (L.map (·.1)) _) Q E s
      refine wpAny_bind (wpAny_holding (hp _ _ _ (store_pl X S k hx rv fun h' tk S' t' kb => ?_)))
      exact storesN X L _ _ (fun q hq => hL q (.tail _ hq)) S' (fun ζ ζ e => e) (r.moveF (fun b q => .inl (q.imp id drop_ne)) fun b o vs n e d ζ => kb b o ((S.keeps k).nFx e (.inl ⟨vs, n, d⟩)) e) e fun own' h'' tk' S'' t'' kb' => hQ own' h'' tk' S'' (t'.trans t'') fun b o n e => kb' b o n (kb b o n e)
theorem cNames_of (X : SX c) : ∀ {ts : List PySem.Expr} {is : List Nat}, cNames c.C ts = some is ->
    ∃ xs : List (Str × Pos), ts = xs.map (fun x => PySem.Expr.Name x.1 x.2) ∧ is.length = xs.length ∧ is.Nodup ∧ ∀ p ∈ is.zip xs, c.ns[p.1]? = some p.2.1
  | [], is, h => by cases h; exact ⟨[], rfl, rfl, .nil, nofun⟩
  | t :: ts, is, h => by
    replace h : (bsub (nm t) fun x => (c.C.slot x.1).bind fun i => (cNames c.C ts).bind fun is => if is.contains i then none else some (i :: is)) = some is := h
    revert h
    refine bind_subR fun x hx h => ?_
    subst hx
    revert h
    refine bS fun i h1 h => ?_
    revert h
    refine bS fun js h2 h => ?_
    obtain ⟨hni, h⟩ := ifN h
    replace h := Option.some.inj h
    subst h
    obtain ⟨xs, rfl, e2, e3, e4⟩ := cNames_of X h2
    refine ⟨x :: xs, rfl, congrArg (· + 1) e2, List.nodup_cons.mpr ⟨by simpa using hni, e3⟩, fun q hq => ?_⟩
    rw [List.zip_cons_cons] at hq
    cases hq with
    | head => exact slotNs X h1
    | tail _ hq => exact e4 q hq
theorem unpackN (X : SX c) {A : Around} (hh : A.handled = none) {is : List Nat} {xs : List (Str × Pos)} {kk : Nat} {tp : Pos} {hs : Heap} {t : Addr} {items : Array Value} {ds : List PyData} {γ' : Env'} {Q : Unit -> Shared -> Prop} (hl : is.length = xs.length) (hx : ∀ p ∈ is.zip xs, c.ns[p.1]? = some p.2.1)
    (S : SI c F own γ hs) (k : KeepsH hs s.heap) (ht : IsTup s.heap t items) (r : RDs s.heap (FO F own) items.toList ds) (hn : setN γ is ds = some γ')
    (hQ : ∀ own' h' tk, SI c F own' γ' h' -> Tr c own hs own' h' -> (∀ b o, ¬ c.Fx b -> s.heap.get? b = some o -> h'.get? b = some o) -> Q () { s with heap := h', toks := tk }) :
    wpAny c.M A (assign (.Tuple (xs.map fun x => PySem.Expr.Name x.1 x.2) kk tp) c.env (.ref t)) Q E s := by
  have e1 := r.length
  simp only [Array.length_toList] at e1
  refine assign_Tuple_tuple hh ht ?_ ?_ fun h' he' => ?_
  . rw [assignEach_names, List.length_map, ← hl, setN_len hn, e1]
  . rw [assignEach_names]
    exact List.findIdx?_eq_none_iff.mpr fun x hx => by obtain ⟨_, _, rfl⟩ := List.mem_map.mp hx; rfl
  . rw [assignEach_names]
    have k2 : KeepsH s.heap h' := fun b o e => he' b o (Nat.ne_of_lt (Heap.lt_size e)) e
    have := storesN (E := E) (M := c.M) (A := A) (F := F) X ((is.zip xs).map fun p => (assign (.Name p.2.1 p.2.2) c.env, p.1, p.2.1)) items.toList ds (hs := hs) (own := own) (γ := γ) (γ' := γ')
      (s := { s with heap := h' }) (Q := Q) (fun p hp => ?_) S (k.trans k2) (r.keeps k2) ?_ fun own' h'' tk S'' t'' kb => hQ own' h'' tk S'' t'' fun b o n e => kb b o n (k2 b o e)
    . rw [List.map_map] at this ⊢
      rw [show ((fun x : (Value -> Sem Unit) × Nat × Str => x.1) ∘ fun p : Nat × Str × Pos => (assign (.Name p.2.1 p.2.2) c.env, p.1, p.2.1)) = (fun x : Str × Pos => assign (.Name x.1 x.2) c.env) ∘ Prod.snd from rfl, ← List.map_map, List.map_snd_zip (Nat.le_of_eq hl.symm)] at this
      exact this
    . obtain ⟨q, hq, rfl⟩ := List.mem_map.mp hp
      exact ⟨hx q hq, fun v s' Q' hw => wpAny_assign_Name hw⟩
    . rw [List.map_map, show ((fun x : (Value -> Sem Unit) × Nat × Str => x.2.1) ∘ fun p : Nat × Str × Pos => (assign (.Name p.2.1 p.2.2) c.env, p.1, p.2.1)) = Prod.fst from rfl, List.map_fst_zip (Nat.le_of_eq hl)]
      exact hn
theorem len_two {α : Type} : ∀ {l : List α}, l.length = 2 -> ∃ a b, l = [a, b]
  | [a, b], _ => ⟨a, b, rfl⟩
theorem two_names {xs : List (Str × Pos)} {a b : Str} {pa pb : Pos} (h : (xs.map fun x => PySem.Expr.Name x.1 x.2) = [.Name a pa, .Name b pb]) : ∃ w1 w2, xs = [w1, w2] ∧ w1.1 = a ∧ w2.1 = b := by
  have hl : xs.length = 2 := (List.length_map _).symm.trans (congrArg List.length h)
  obtain ⟨w1, w2, rfl⟩ := len_two hl
  injection h with h1 h2
  injection h1 with h1
  injection h2 with h2
  injection h2 with h2
  exact ⟨w1, w2, rfl, h1, h2⟩
theorem SX.asgN (X : SX c) (S : SI c F own γ s.heap) {value : PySem.Expr} {spos tp : Pos} {kk : Nat} {ts : List PySem.Expr} {is : List Nat} {e : PE} {l : Nat} {ds : List PyData} {γ' : Env'} {Q : Flow -> Shared -> Prop}
    (hc : swapChk c.C ts value = true) (hn : cNames c.C ts = some is) (h : cE c.C value = some e) (he : evE c.Φ γ e = some (.tuple ds, l)) (hs : setN γ is ds = some γ')
    (hQ : ∀ s', Left c F own s γ' s' -> Q .next s') :
    wpAny c.M c.A (exec (.Assign [.Tuple ts kk tp] value spos) c.env) Q E s := by
  have hH := X.H S
  obtain ⟨xs, rfl, hlen, hnd, hix⟩ := cNames_of X hn
  unfold swapChk at hc
  cases hv : tupOf value with
  | some vs' =>
    rw [hv] at hc
    clear hv
    refine cps fun Gq goq => ?_
    obtain ⟨⟨vs, k2, p2⟩, rfl⟩ := vs'
    obtain ⟨_, hc⟩ := Option.isSome_iff_exists.mp hc
    revert hc
    refine bind_subR fun ab z1 hc => ?_
    obtain ⟨⟨xa, xpa⟩, z2, hc⟩ := bind_sub hc
    obtain ⟨⟨xb, xpb⟩, z3, hc⟩ := bind_sub hc
    refine ifBE hc fun hc ζ => ?_
    rw [z2, z3] at z1
    simp only [Bool.and_eq_true, beq_iff_eq, bne_iff_ne, Bool.not_eq_true', ne_eq] at hc
    obtain ⟨⟨⟨⟨⟨⟨c1, c2⟩, c3⟩, c4⟩, c5⟩, c6⟩, c7⟩ := hc
    refine goq ?_
    clear goq
    clear Gq
    rw [z1]
    have hk0 : c.env.scope.kind = .function := X.K.kind
    have hk : c.env.blockKind = .function := by simp [Env.blockKind, hk0]
    have ka : c.env.kindOf xa = some .local := by show c.sc.names.lookup xa = _; rw [← X.K.kinds]; exact c2
    have kb : c.env.kindOf xb = some .local := by show c.sc.names.lookup xb = _; rw [← X.K.kinds]; exact c3
    have hst : (vs.any isSt) = false := by
      revert h
      refine ifBR fun ζ h => ?_
      refine bind_someE h fun ps h1 ζ => ?_
      exact noStar h1
    refine cps fun Gq goq => ?_
    obtain ⟨w1, w2, hxs, m1, m2⟩ := two_names (a := xa) (b := xb) z1
    try clear vs
    try clear p2
    try clear hc
    try clear ab
    try clear z1
    try clear xpa
    try clear z2
    try clear xpb
    try clear z3
    try clear c2
    try clear c3
    try clear hk0
    subst hxs
    obtain ⟨i, j, his⟩ := len_two hlen
    try clear hxs
    subst his
    have hxi : c.ns[i]? = some xa := m1 ▸ hix (i, w1) (.head _)
    have hxj : c.ns[j]? = some xb := m2 ▸ hix (j, w2) (.tail _ (.head _))
    have hl := setN_len hs
    obtain ⟨d1, d2, hds⟩ := len_two hl.symm
    refine goq ?_
    clear goq
    clear Gq
    try clear m1
    try clear m2
    try clear his
    try clear hl
    subst hds
    have hij : i ≠ j := fun z => by rw [z] at hnd; exact (List.nodup_cons.mp hnd).1 (.head _)
    have hs : some ((γ.set i (.pl d1)).set j (.pl d2)) = some γ' := hs
    rw [List.set_comm _ _ hij] at hs
    refine Assign_Tuple_swapped (names := [xa, xb]) (sndE _ c.C e h hH he fun v s₁ k1 v1 => ?_) (swaps_tuple h _ _ _ _ _) (swapped_two c1 hk ka kb c4 c5 c6 c7 hst)
    refine cps fun Gq goq => ?_
    try clear hnd
    try clear c1
    try clear c4
    try clear c5
    try clear c6
    try clear c7
    try clear hk
    try clear ka
    try clear kb
    try clear hst
    try clear hds
    try clear hij
    obtain ⟨t, items, rfl, ht, r⟩ := v1.1.tuple_inv
    obtain ⟨w1, w2, hi, r1, r2⟩ := r.two_inv
    refine goq ?_
    clear goq
    clear Gq
    have e2 : ([xa, xb] : List Str).length = items.size := by rw [← Array.length_toList, hi]; rfl
    rw [e2]
    refine unpackItems_tuple hH.ok.hh ht fun h' he' => ?_
    have k2 : KeepsH s₁.heap h' := fun b o e => he' b o (Nat.ne_of_lt (Heap.lt_size e)) e
    rw [hi]
    exact storesN (E := E) (M := c.M) (A := c.A) (F := F) X [(bindName c.env xb, j, xb), (bindName c.env xa, i, xa)] [w2, w1] [d2, d1] (hs := s.heap) (own := own) (γ := γ) (γ' := γ')
      (s := { s₁ with heap := h' }) (Q := fun ζ s' => Q .next s') (fun p hp => by
        simp only [List.mem_cons, List.not_mem_nil, or_false] at hp
        rcases hp with rfl | rfl
        . exact ⟨hxj, fun v s' Q' hw => wpAny_bindName hw⟩
        . exact ⟨hxi, fun v s' Q' hw => wpAny_bindName hw⟩) S (k1.heap.trans k2) (.cons (r2.keeps k2) (.cons (r1.keeps k2) .nil)) hs fun own' h'' tk S'' t'' ζ => hQ _ ⟨own', S'', t'', k1.sm.puts _ _⟩
  | none =>
    have hw : swappedStores [.Tuple (xs.map fun x => PySem.Expr.Name x.1 x.2) kk tp] value c.env = pure none := by
      cases value <;> first | rfl | cases hv
    refine Assign_Tuple (sndE value c.C e h hH he fun v s₁ k1 v1 => ?_) (swaps_tuple h _ _ _ _ _) hw
    try clear xs
    try clear Gq
    try clear goq
    try clear k2
    try clear xa
    try clear xb
    try clear w1
    try clear w2
    try clear i
    try clear j
    try clear hxi
    try clear hxj
    try clear d1
    try clear d2
    try clear hi
    try clear r1
    try clear r2
    try clear e2
    try clear he'
    try clear hw
    obtain ⟨t, items, rfl, ht, r⟩ := v1.1.tuple_inv
    exact unpackN X hH.ok.hh hlen hix S k1.heap ht r hs fun own' h' tk S' t' ζ => hQ _ ⟨own', S', t', k1.sm.puts _ _⟩
noncomputable def Fin' (c : FC) (h : Heap) : Prop := (∀ b o, c.h₀.get? b = some o -> ¬ c.W b -> h.get? b = some o) ∧ c.h₀.UpToSlots h ∧ ∀ cc P, c.gp = some (cc, P) -> ∃ ps, h.IsCode cc P ps ∧ h.TableAt cc P ps
noncomputable def FPost (c : FC) (F : Addr -> Prop) (own : Addr -> Option Nat) (s : Shared) (fl : Flw) (γ' : Env') (fw : Flow) (s' : Shared) : Prop :=
  match fl, fw with
  | .next, .next => Left c F own s γ' s'
  | .brk, .brk => Left c F own s γ' s'
  | .cont, .cont => Left c F own s γ' s'
  | .ret d l, .ret v => Val F c.h₀ s'.heap v (d, l) ∧ Fin' c s'.heap ∧ Sm s s'
  | _, _ => False
noncomputable def RPost (c : FC) (s : Shared) (x : Nat) (e : Value) (s' : Shared) : Prop :=
  ∃ ea F own₁ γ₁ h₁ args cv, e = .ref ea ∧ SI c F own₁ γ₁ h₁ ∧ c.G.xv x = some cv ∧ Heap.MadeExcOf h₁ s'.heap ea cv args ∧ Sm s s'
theorem SI.fin {h : Heap} (S : SI c F own γ h) : Fin' c h := ⟨S.keep, S.up, S.tab⟩
theorem Left.trans {own₁ : Addr -> Option Nat} {s₁ s' : Shared} {γ' : Env'} (t : Tr c own s.heap own₁ s₁.heap) (m : Sm s s₁) (x : Left c F own₁ s₁ γ' s') : Left c F own s γ' s' :=
  let ⟨o, a, b, d⟩ := x; ⟨o, a, t.trans b, m.trans d⟩
theorem FPost.trans {own₁ : Addr -> Option Nat} {s₁ s' : Shared} {fl : Flw} {γ' : Env'} {fw : Flow} (t : Tr c own s.heap own₁ s₁.heap) (m : Sm s s₁) (x : FPost c F own₁ s₁ fl γ' fw s') : FPost c F own s fl γ' fw s' := by
  cases fl <;> cases fw <;> first
    | exact Left.trans t m x
    | exact ⟨x.1, x.2.1, m.trans x.2.2⟩
    | exact x
theorem RPost.trans {s₁ s' : Shared} {x : Nat} {e : Value} (m : Sm s s₁) (y : RPost c s₁ x e s') : RPost c s x e s' :=
  Exists.imp (fun ζ => Exists.imp fun ζ => Exists.imp fun ζ => Exists.imp fun ζ => Exists.imp fun ζ => Exists.imp fun ζ => Exists.imp fun ζ => And.imp_right (And.imp_right (And.imp_right (And.imp_right m.trans)))) y
theorem Val.less {F F' : Addr -> Prop} {h₀ h : Heap} {v : Value} {r : PyData × Nat} (x : Val F h₀ h v r) (hF : ∀ b, F' b -> F b) : Val F' h₀ h v r := by
  obtain ⟨a, b⟩ := x
  refine ⟨a.weak fun b q => .inl (hF b q), fun e => ?_⟩
  refine cps fun Gq goq => ?_
  obtain ⟨p, vs, ds, q1, q2, q3, q4, q5⟩ := b e
  refine goq ?_
  clear goq
  clear Gq
  exact ⟨p, vs, ds, q1, q2, q3, q4, q5.weak fun b q => .inl (q.imp (hF b) id)⟩
theorem SX.ret (X : SX c) (S : SI c F own γ s.heap) {v : PySem.Expr} {spos : Pos} {e : PE} {r : PyData × Nat} {Q : Flow -> Shared -> Prop} (h : cE c.C v = some e) (he : evE c.Φ γ e = some r)
    (hQ : ∀ v s', Val F c.h₀ s'.heap v (r.1, r.2) -> Fin' c s'.heap -> Sm s s' -> Q (.ret v) s') :
    wpAny c.M c.A (exec (.Return (some v) spos) c.env) Q E s := by
  refine wpAny_Return_some (sndE v c.C e h (X.H S) he fun v s₁ k1 v1 => hQ v s₁ ?_ (S.keeps k1.heap).fin k1.sm)
  obtain ⟨a, b⟩ := v1
  refine Val.less ⟨a, fun e => ?_⟩ (fun b q => .inl q)
  refine cps fun Gq goq => ?_
  obtain ⟨p, vs, ds, q1, q2, q3, q4⟩ := b e
  refine goq ?_
  clear goq
  clear Gq
  exact ⟨p, vs, ds, q1, q2, S.none0 X q3, q4⟩
theorem SX.retv (X : SX c) (S : SI c F own γ s.heap) {x : Str} {px spos : Pos} {i : Nat} {fl : Flw} {γ' : Env'} {Q : Flow -> Shared -> Prop}
    (hb : bld c.C x = some i) (he : evS c.Φ c.fu c.tp γ (.retv i) = some (fl, γ')) (hQ : ∀ fw s', FPost c F own s fl γ' fw s' -> Q fw s') :
    wpAny c.M c.A (exec (.Return (some (.Name x px)) spos) c.env) Q E s := by
  obtain ⟨hx, hd⟩ := bld_of X hb
  have he' : (match γ[i]? with
    | some (.pl d) => some (Flw.ret d 0, γ)
    | some (.b1 ds) => some (.ret (.list ds) 1, γ)
    | _ => none) = some (fl, γ') := he
  clear he
  cases hs : γ[i]? with
  | none => rw [hs] at he'; cases he'
  | some sl =>
    rw [hs] at he'
    have y := S.slots i x sl hx hs
    cases sl with
    | un => cases he'
    | pl d =>
      replace he' := Prod.mk.inj (Option.some.inj he')
      try clear hx
      try clear he
      obtain ⟨rfl, rfl⟩ := he'
      obtain ⟨v, hv, r⟩ := y
      exact wpAny_Return_some (name_has X.K.kind hv (hQ (.ret v) s ⟨.of (r.weak fun b z => .inl (.inl z)), S.fin, Sm.refl s⟩) hd)
    | b1 ds =>
      replace he' := Prod.mk.inj (Option.some.inj he')
      try clear v
      try clear he
      obtain ⟨rfl, rfl⟩ := he'
      refine cps fun Gq goq => ?_
      obtain ⟨a, vs, hv, oa, pl, r⟩ := y
      refine goq ?_
      clear goq
      clear Gq
      have ow := S.own a i oa
      refine wpAny_Return_some (name_has X.K.kind hv (hQ (.ret _) s ⟨⟨.list pl ow.2.1 (r.weak fun b z => .inl (.inl z)), fun ζ => ⟨a, vs, ds, rfl, rfl, ow.1, pl, r.weak fun b z => .inl (z.imp id fun z => ?_)⟩⟩, S.fin, Sm.refl s⟩) hd)
      rw [z, oa]; exact nofun
end
end Mine
end
section
set_option maxRecDepth 100000
namespace Mine
open PySem PyProof.Rows
noncomputable def ow (own : Addr -> Option Nat) (wr : List Addr) : Addr -> Option Nat := fun b => if b ∈ wr then some 0 else own b
theorem ow_in {own : Addr -> Option Nat} {wr : List Addr} {b : Addr} (h : b ∈ wr) : ow own wr b = some 0 := if_pos h
theorem ow_out {own : Addr -> Option Nat} {wr : List Addr} {b : Addr} (h : b ∉ wr) : ow own wr b = own b := if_neg h
section
variable {c : FC} {F : Addr -> Prop} {own own' : Addr -> Option Nat} {γ : Env'} {h h' h₂ : Heap} {wr : List Addr}
theorem Tr.base (t : Tr c (ow own wr) h₂ own' h') (k : KeepsH h h₂) (hn : ∀ b ∈ wr, h.get? b = none) : Tr c own h own' h' :=
  ⟨fun b o e e1 e2 e3 => t.keep b o (k b o e) ((ow_out fun w => absN e (hn b w)).trans e1) e2 e3, fun b o e => t.there b o (k b o e), fun b q => by
    rcases t.own b q with z | z
    . by_cases w : b ∈ wr
      . exact .inr (hn b w)
      . rw [ow_out w] at z; exact .inl z
    . exact .inr (k.none z)⟩
theorem Tr.offW {h₁ : Heap} (t : Tr c (ow own wr) h own' h₁) (hk : ∀ b o, b ∉ wr -> h₁.get? b = some o -> h'.get? b = some o) (hn : ∀ b ∈ wr, ∃ o, h'.get? b = some o) : Tr c (ow own wr) h own' h' :=
  ⟨fun b o e e1 e2 e3 => hk b o (fun w => by rw [ow_in w] at e1; cases e1) (t.keep b o e e1 e2 e3), fun b o e => by
    by_cases w : b ∈ wr
    . exact hn b w
    . obtain ⟨o', e'⟩ := t.there b o e; exact ⟨o', hk b o' w e'⟩, t.own⟩
theorem SI.nl (S : SI c F own γ h) {b : Addr} {o : Obj} (e : h.get? b = some o) (q : NL o) : own b = none := by
  cases z : own b with
  | none => rfl
  | some j =>
    refine cps fun Gq goq => ?_
    obtain ⟨_, _, vs, n, e'⟩ := S.own b j z
    refine goq ?_
    clear goq
    clear Gq
    rw [e] at e'; cases e'
    rcases q with ⟨_, q⟩ | ⟨q, _⟩
    . cases q
    . exact (cls_ne (by decide) q).elim
end
section
variable {c : FC} {F : Addr -> Prop} {own : Addr -> Option Nat} {γ : Env'} {s : Shared} {E : Value -> Shared -> Prop}
noncomputable def TItem (h : Heap) (F : Addr -> Prop) (n : Nat) (v : Value) (d : PyData) : Prop :=
  RD h F v d ∨ (n = 2 ∧ ∃ a vs ds, v = .ref a ∧ d = .tuple ds ∧ IsTup h a vs ∧ RDs h F vs.toList ds)
theorem bind_tgt (X : SX c) {tg : PySem.Expr} {is : List Nat} {hs : Heap} {v : Value} {d : PyData} {γ' : Env'} {Q : Unit -> Shared -> Prop} (ht : cTgt c.C tg = some is) (S : SI c F own γ hs) (k : KeepsH hs s.heap) (hv : TItem s.heap (FO F own) is.length v d) (hb : bindT γ is d = some γ')
    (hQ : ∀ own' h' tk, SI c F own' γ' h' -> Tr c own hs own' h' -> (∀ b o, ¬ c.Fx b -> s.heap.get? b = some o -> h'.get? b = some o) -> Q () { s with heap := h', toks := tk }) :
    wpAny c.M c.A (assign tg c.env v) Q E s := by
  unfold cTgt at ht
  cases hx : nm tg with
  | some x =>
    rw [hx] at ht
    clear hx
    obtain ⟨⟨x, p⟩, rfl⟩ := x
    refine bind_someE ht fun i h1 ht => ?_
    replace ht := Option.some.inj ht
    try clear p
    subst ht
    replace hb := Option.some.inj hb
    subst hb
    rcases hv with rv | ⟨q, _⟩
    . exact wpAny_assign_Name (store_pl X S k (slotNs X h1) rv fun h' tk S' t' kb => hQ _ h' tk S' t' kb)
    . cases q
  | none =>
    rw [hx] at ht
    clear hx
    refine cps fun Gq goq => ?_
    try clear h1
    obtain ⟨⟨ts, kk, tp⟩, rfl, ht2⟩ := bind_sub ht
    refine bind_subE ht2 fun ab hab ht3 => ?_
    clear ht ht2
    obtain ⟨xs, hxs, hl, _, hix⟩ := cNames_of X ht3
    refine goq ?_
    clear goq
    clear Gq
    have h2 : is.length = 2 := by rw [hl, ← List.length_map (f := fun x : Str × Pos => PySem.Expr.Name x.1 x.2), ← hxs]; exact congrArg List.length hab
    replace hxs : ts = _ := hxs
    try clear x
    try clear ht
    try clear Gq
    try clear goq
    try clear ts
    try clear kk
    try clear tp
    try clear ht2
    try clear ab
    try clear hab
    try clear ht3
    try clear xs
    subst hxs
    try clear hxs
    obtain ⟨a, vs, ds, rfl, rfl, htp, r⟩ : ∃ a vs ds, v = .ref a ∧ d = .tuple ds ∧ IsTup s.heap a vs ∧ RDs s.heap (FO F own) vs.toList ds := by
      rcases hv with rv | ⟨_, q⟩
      . match is, h2, hb with
        | [i, j], _, hb =>
          cases d with
          | tuple ds => obtain ⟨a, vs, e, q1, q2⟩ := rv.tuple_inv; exact ⟨a, vs, ds, e, rfl, q1, q2⟩
          | _ => cases hb
      . exact q
    have hn : setN γ is ds = some γ' := by
      match is, h2, hb with
      | [i, j], _, hb => exact hb
    exact unpackN (A := c.A) X (show c.A.handled = none from X.hh) hl hix S k htp r hn hQ
structure ForI (c : FC) (F : Addr -> Prop) (own : Addr -> Option Nat) (wr : List Addr) (St : Nat -> Heap -> Prop) (pb : Env' -> Option (Flw × Env')) (is : List Nat) (xs : List PyData) (r : Flw × Env') (s s₂ : Shared) (n : Nat) (s' : Shared) : Prop where
  ex : ∃ (j : Nat) (ownj : Addr -> Option Nat) (γj : Env'), n = xs.length + 1 - j ∧ j ≤ xs.length ∧ St j s'.heap ∧ SI c (fun b => F b ∨ b ∈ wr) ownj γj s'.heap ∧ Tr c (ow own wr) s₂.heap ownj s'.heap ∧ Sm s s' ∧ forL pb is (xs.drop j) γj = some r
structure WhI (c : FC) (F : Addr -> Prop) (own : Addr -> Option Nat) (pb : Env' -> Option (Flw × Env')) (r : Flw × Env') (s : Shared) (n : Nat) (s' : Shared) : Prop where
  ex : ∃ (own' : Addr -> Option Nat) (γ₁ : Env'), SI c F own' γ₁ s'.heap ∧ Tr c own s.heap own' s'.heap ∧ Sm s s' ∧ whileL (fun ζ => some true) pb n γ₁ = some r
theorem SX.for_ (X : SX c) (S : SI c F own γ s.heap) {tg iter : PySem.Expr} {spos : Pos} {body : List Stmt} {is : List Nat} {pi : PI} {pb : Env' -> Option (Flw × Env')} {xs : List PyData} {fl : Flw} {γ' : Env'} {Q : Flow -> Shared -> Prop}
    (ht : cTgt c.C tg = some is) (hi : cI c.C iter = some pi) (htw : tgtOk is.length pi = true) (hei : evI c.Φ γ pi = some xs) (hfor : forL pb is xs γ = some (fl, γ'))
    (hbody : ∀ (F₁ : Addr -> Prop) (own₁ : Addr -> Option Nat) (γ₁ γ₂ : Env') (s₁ : Shared) (fl₁ : Flw) (Q₁ : Flow -> Shared -> Prop) (E₁ : Value -> Shared -> Prop), pb γ₁ = some (fl₁, γ₂) -> (∀ c, fl₁ ≠ .exc c) -> SI c F₁ own₁ γ₁ s₁.heap ->
      (∀ fw s', FPost c F₁ own₁ s₁ fl₁ γ₂ fw s' -> Q₁ fw s') -> wpAny c.M c.A (execs body c.env) Q₁ E₁ s₁)
    (hQ : ∀ fw s', FPost c F own s fl γ' fw s' -> Q fw s') :
    wpAny c.M c.A (exec (.For tg iter body [] spos) c.env) Q E s := by
  have hH := X.H S
  refine bind_liftE hi fun hp hi => ?_
  refine wpAny_For (sndIA iter pi hi hH hei fun hD I fp wr St Mid s₂ it => ?_) (fun x => hp.2 c.env x)
  have S2 := S.keeps it.keeps.heap
  have wrn : ∀ b ∈ wr, s.heap.get? b = none := fun b hb => it.kD.none (it.new b hb)
  have wr0 : ∀ b ∈ wr, c.h₀.get? b = none := fun b hb => S.none0 X (wrn b hb)
  have SD := S.keeps it.kD
  have S2' : SI c (fun b => F b ∨ b ∈ wr) own γ s₂.heap := S.grow it.keeps.heap fun b q => q.imp id fun w => ⟨wrn b w, let ⟨o, e, _⟩ := it.stF 0 _ it.start b w; ⟨o, e⟩⟩
  -- a list that the walk reads, no part of the walk's own
  have fpO : ∀ b ∈ fp, b ∉ wr -> ∃ o, s₂.heap.get? b = some o ∧ ow own wr b = none ∧ ∃ vs n, o.data = .seq vs n := fun b hb hw => by
    obtain ⟨o, vs, n, z1, z2, z3⟩ := it.off b hb hw
    refine ⟨o, z1, ?_, vs, n, z2⟩
    rw [ow_out hw]
    rcases z3 with z3 | ⟨_, z3⟩
    . exact S2.nl z1 (.inr ⟨z3, vs, n, z2⟩)
    . cases q : own b with
      | none => rfl
      | some j => exact (z3 (.inr (by rw [q]; exact nofun))).elim
  refine codeAny_forLoop_any (ForI c F own wr St pb is xs (fl, γ') s s₂) ?_ (xs.length + 1) ⟨⟨0, own, γ, by rw [Nat.sub_zero], Nat.zero_le _, it.start, S2', ⟨fun ζ ζ e ζ ζ ζ => e, fun ζ o e => ⟨o, e⟩, fun b q => ?_⟩, it.keeps.sm, hfor⟩⟩
  case refine_2 =>
    by_cases w : b ∈ wr
    . rw [ow_in w]; exact .inl nofun
    . rw [ow_out w]; exact .inl q
  intro n s' hI
  refine cps fun Gq goq => ?_
  obtain ⟨⟨j, ownj, γj, hnj, hj, hst, Sj, tj, mj, hf⟩⟩ := hI
  refine goq ?_
  clear goq
  clear Gq
  try clear hH
  try clear hi
  try clear hI
  subst hnj
  have hwr : ∀ {k : Nat} {h' : Heap}, St k h' -> ∀ b ∈ wr, ¬ c.Fx b ∧ ownj b = none ∧ c.h₀.get? b = none ∧ ((F b ∨ b ∈ wr) -> ∃ o', h'.get? b = some o') := fun st b hb => by
    obtain ⟨o, e, q⟩ := it.stF j _ hst b hb
    exact ⟨Sj.nFx e q.dt, Sj.nl e q, wr0 b hb, fun ζ => let ⟨o, e, _⟩ := it.stF _ _ st b hb; ⟨o, e⟩⟩
  by_cases hlt : j < xs.length
  . obtain ⟨d, hd⟩ : ∃ d, xs[j]? = some d := ⟨xs[j], List.getElem?_eq_getElem hlt⟩
    have tD : Tr c own hD ownj s'.heap := tj.base it.kD' it.new
    refine it.item j d s' _ _ hd hst tD.there fun v h₁ tk₁ hv hmid hk₁ => ?_
    refine it.go tg ?_ j v _ _ _ hmid fun h₂ hst₂ hk₂ => ?_
    . unfold cTgt at ht
      cases hx : nm tg with
      | some x =>
        rw [hx] at ht
        refine bind_someE ht fun i h1 ht => ?_
        replace ht := Option.some.inj ht
        try clear hnj
        try clear tD
        try clear hmid
        try clear i
        try clear h1
        subst ht
        exact .inl ⟨Bool.eq_false_iff.mpr fun q => absurd (tgtOk_tw htw q) (show ¬ 1 = 2 by decide), _, _, x.2⟩
      | none =>
        rw [hx] at ht
        refine bind_subE ht fun t e ζ => ?_
        exact .inr ⟨_, _, _, e⟩
    have k12 : ∀ b o, b ∉ wr -> s'.heap.get? b = some o -> h₂.get? b = some o := fun b o hw e => hk₂ b o hw (hk₁ b o hw e)
    have S₁ : SI c (fun b => F b ∨ b ∈ wr) ownj γj h₂ := Sj.off X (fun ζ q => q) k12 (hwr hst₂) fun b hb => .inl (.inr hb)
    have t₂ : Tr c (ow own wr) s₂.heap ownj h₂ := tj.offW k12 fun b hb => let ⟨o, e, _⟩ := it.stF _ _ hst₂ b hb; ⟨o, e⟩
    have tD₂ : Tr c own hD ownj h₂ := t₂.base it.kD' it.new
    have mvF : ∀ a, FO (fun b => F b ∨ b ∈ wr) ownj a -> FO F own a ∨ hD.get? a = none := fun a q => by
      rcases q with (q | q) | q
      . exact .inl (.inl q)
      . exact .inr (it.new a q)
      . exact (tD₂.own a q).imp .inr id
    have mvk : ∀ b o vs n, hD.get? b = some o -> o.data = .seq vs n -> ¬ FO F own b -> h₂.get? b = some o := fun b o vs n e dd q => tD₂.keep b o e (Decidable.byContradiction fun z => q (.inr z)) (SD.nFx e (.inl ⟨vs, n, dd⟩)) (X.nW SD e dd)
    have hti : TItem h₂ (FO (fun b => F b ∨ b ∈ wr) ownj) is.length v d := by
      rcases hv with ⟨_, rd⟩ | ⟨tw, a, vs, ds, rfl, rfl, ⟨o, q1, q2⟩, haw, _, r⟩
      . exact .inl (rd.moveF mvF mvk)
      . exact .inr ⟨tgtOk_tw htw tw, a, vs, ds, rfl, rfl, ⟨o, hk₂ a o haw q1, q2⟩, r.moveF mvF mvk⟩
    have hdrop : xs.drop j = d :: xs.drop (j + 1) := by
      rw [List.drop_eq_getElem_cons hlt]
      have := List.getElem?_eq_getElem hlt
      rw [hd] at this
      replace this := Option.some.inj this
      try clear SD
      try clear γj
      try clear hd
      try clear v
      try clear hv
      try clear hk₂
      try clear k12
      try clear tD₂
      try clear mvF
      try clear mvk
      subst this
      rfl
    rw [hdrop] at hf
    refine cps fun Gq goq => ?_
    replace hf := bind_some hf
    obtain ⟨γ₁, hb, hf⟩ := hf
    replace hf := bind_some hf
    obtain ⟨⟨fl₁, γ₂⟩, hpb, hf⟩ := hf
    refine goq ?_
    clear goq
    clear Gq
    refine bind_tgt X ht (s := { s' with heap := h₂, toks := tk₁ }) S₁ (fun ζ ζ e => e) hti hb fun own₃ h₃ tk₃ S₃ t₃ kb => ?_
    have hne : ∀ c, fl₁ ≠ .exc c := fun c z => by subst z; cases hf
    have t3 := t₂.trans t₃
    have fpD : ∀ b ∈ fp, ∀ o, h₂.get? b = some o -> Dt o := fun b hb o e => by
      by_cases hw : b ∈ wr
      . obtain ⟨o', e', q⟩ := it.stF _ _ hst₂ b hw
        rw [e] at e'; cases e'; exact q.dt
      . obtain ⟨o', z1, z2, vs, n, z3⟩ := fpO b hb hw
        have := t₂.keep b o' z1 z2 (S2.nFx z1 (.inl ⟨vs, n, z3⟩)) (X.nW S2 z1 z3)
        rw [e] at this; cases this; exact .inl ⟨vs, n, z3⟩
    have st3 : St (j + 1) h₃ := it.frame _ _ _ hst₂ fun b hb o e => kb b o (S₁.nFx e (fpD b hb o e)) e
    have ms : Sm s { s' with heap := h₃, toks := tk₃ } := mj.puts _ _
    have tb : Tr c own s.heap own₃ h₃ := t3.base it.keeps.heap wrn
    refine hbody _ own₃ γ₁ γ₂ { s' with heap := h₃, toks := tk₃ } fl₁ _ _ hpb hne S₃ fun fw s₄ hp => ?_
    have go : forL pb is (xs.drop (j + 1)) γ₂ = some (fl, γ') -> Left c (fun b => F b ∨ b ∈ wr) own₃ { s' with heap := h₃, toks := tk₃ } γ₂ s₄ -> ∃ m, m < xs.length + 1 - j ∧ ForI c F own wr St pb is xs (fl, γ') s s₂ m s₄ := by
      rintro hr ⟨own₄, S₄, t₄, m₄⟩
      refine ⟨xs.length + 1 - (j + 1), Nat.sub_lt_sub_left (Nat.lt_succ_of_lt hlt) (Nat.lt_succ_self _), ⟨j + 1, own₄, γ₂, rfl, hlt, it.frame _ _ _ st3 fun b hb o e => ?_, S₄, t3.trans t₄, ms.trans m₄, hr⟩⟩
      by_cases hw : b ∈ wr
      . obtain ⟨o', e', q⟩ := it.stF _ _ st3 b hw
        rw [e] at e'; cases e'
        exact t₄.keep b o e (S₃.nl e q) (S₃.nFx e q.dt) (X.nW0 (wr0 b hw))
      . obtain ⟨o', z1, z2, vs, n, z3⟩ := fpO b hb hw
        have e3 := t3.keep b o' z1 z2 (S2.nFx z1 (.inl ⟨vs, n, z3⟩)) (X.nW S2 z1 z3)
        rw [e] at e3; cases e3
        refine t₄.keep b o e (Decidable.byContradiction fun z => ?_) (S₃.nFx e (.inl ⟨vs, n, z3⟩)) (X.nW S₃ e z3)
        rcases t3.own b z with z | z
        . exact z z2
        . exact absN z1 z
    have less : ∀ {fl : Flw} {fw : Flow} {γ' : Env'}, FPost c (fun b => F b ∨ b ∈ wr) own₃ { s' with heap := h₃, toks := tk₃ } fl γ' fw s₄ -> FPost c F own₃ { s' with heap := h₃, toks := tk₃ } fl γ' fw s₄ := fun {fl fw γ'} x => by
      cases fl <;> cases fw <;> first
        | exact (let ⟨o, S, t, m⟩ := x; ⟨o, S.less fun ζ q => .inl q, t, m⟩)
        | exact ⟨x.1.less fun ζ q => .inl q, x.2.1, x.2.2⟩
        | exact x
    cases fl₁ with
    | next => cases fw with
      | next => exact go hf hp
      | _ => exact hp.elim
    | cont => cases fw with
      | cont => exact go hf hp
      | _ => exact hp.elim
    | brk => cases fw with
      | brk => cases hf; exact hQ .next _ (FPost.trans (fl := .next) (fw := .next) tb ms (less (fl := .brk) (fw := .brk) hp))
      | _ => exact hp.elim
    | ret d' l' => cases fw with
      | ret v' => cases hf; exact hQ (.ret v') _ (FPost.trans (fl := .ret d' l') tb ms (less hp))
      | _ => exact hp.elim
    | exc c => exact (hne c rfl).elim
  . have hin : j = xs.length := Nat.le_antisymm hj (Nat.not_lt.mp hlt)
    try clear hp
    try clear S2
    try clear wr0
    try clear fpO
    try clear o
    try clear vs
    try clear n
    try clear z1
    try clear z2
    try clear z3
    try clear Gq
    try clear goq
    try clear j
    try clear hj
    try clear xs
    try clear some
    try clear h₂
    try clear hst₂
    try clear S₁
    try clear t₂
    try clear hti
    try clear hdrop
    try clear γ₁
    try clear fl₁
    try clear γ₂
    try clear hpb
    try clear own₃
    try clear h₃
    try clear tk₃
    try clear S₃
    try clear t₃
    try clear kb
    try clear hne
    try clear t3
    try clear fpD
    try clear st3
    try clear ms
    try clear tb
    try clear fw
    try clear s₄
    try clear go
    try clear less
    subst hin
    refine it.done s' _ _ hst fun h₁ tk₁ hk₁ => ?_
    rw [List.drop_length] at hf
    replace hf := Prod.mk.inj (Option.some.inj hf)
    try clear s'
    try clear h₁
    try clear tk₁
    try clear hin
    obtain ⟨rfl, rfl⟩ := hf
    exact wpAny_execs_nil (hQ .next _ ⟨ownj, Sj.off X (fun ζ q => .inl q) hk₁ (fun b hb => let ⟨a, d, e, _⟩ := hwr hst b hb; ⟨a, d, e, fun q => (S.al.fresh (wrn b hb) q).elim⟩) fun b hb => .inl (.inr hb), (tj.base it.keeps.heap wrn).off hk₁ wrn, mj.puts _ _⟩)
theorem SX.while_ (X : SX c) (S : SI c F own γ s.heap) {kk : Nat} {tp spos : Pos} {body : List Stmt} {pb : Env' -> Option (Flw × Env')} {fl : Flw} {γ' : Env'} {Q : Flow -> Shared -> Prop} {n : Nat} (hw : whileL (fun ζ => some true) pb n γ = some (fl, γ'))
    (hbody : ∀ (own₁ : Addr -> Option Nat) (γ₁ γ₂ : Env') (s₁ : Shared) (fl₁ : Flw) (Q₁ : Flow -> Shared -> Prop) (E₁ : Value -> Shared -> Prop), pb γ₁ = some (fl₁, γ₂) -> (∀ c, fl₁ ≠ .exc c) -> SI c F own₁ γ₁ s₁.heap ->
      (∀ fw s', FPost c F own₁ s₁ fl₁ γ₂ fw s' -> Q₁ fw s') -> wpAny c.M c.A (execs body c.env) Q₁ E₁ s₁)
    (hQ : ∀ fw s', FPost c F own s fl γ' fw s' -> Q fw s') :
    wpAny c.M c.A (exec (.While (.Constant (.bool true) kk tp) body [] spos) c.env) Q E s := by
  refine wpAny_While (codeAny_whileLoop (WhI c F own pb (fl, γ') s) ?_ n ⟨⟨own, γ, S, Tr.of_keeps fun ζ ζ e => e, Sm.refl s, hw⟩⟩)
  intro n s' hI
  refine cps fun Gq goq => ?_
  obtain ⟨⟨own', γ₁, S', t', m', hw⟩⟩ := hI
  refine goq ?_
  clear goq
  clear Gq
  cases n with
  | zero => cases hw
  | succ n =>
    refine cps fun Gq goq => ?_
    obtain ⟨⟨fl₁, γ₂⟩, hb, hf⟩ := bind_some (show ((pb γ₁).bind fun r => match r.1 with
      | .next => whileL (fun ζ => some true) pb n r.2
      | .cont => whileL (fun ζ => some true) pb n r.2
      | .brk => some (.next, r.2)
      | .ret v l => some (.ret v l, r.2)
      | .exc _ => none) = some (fl, γ') from hw)
    refine goq ?_
    clear goq
    clear Gq
    have hne : ∀ c, fl₁ ≠ .exc c := fun c z => by subst z; cases hf
    refine wpAny_isTrue_value (wpAny_Constant_bool (wpAny_truthy_bool ?_)) rfl
    refine hbody own' γ₁ γ₂ s' fl₁ _ _ hb hne S' fun fw s₄ hp => ?_
    have go : whileL (fun ζ => some true) pb n γ₂ = some (fl, γ') -> Left c F own' s' γ₂ s₄ -> ∃ m, m < n + 1 ∧ WhI c F own pb (fl, γ') s m s₄ :=
      fun hr ⟨o₄, S₄, t₄, m₄⟩ => ⟨n, Nat.lt_succ_self n, ⟨o₄, γ₂, S₄, t'.trans t₄, m'.trans m₄, hr⟩⟩
    cases fl₁ with
    | next => cases fw with
      | next => exact go hf hp
      | _ => exact hp.elim
    | cont => cases fw with
      | cont => exact go hf hp
      | _ => exact hp.elim
    | brk => cases fw with
      | brk => cases hf; exact hQ .next _ (FPost.trans (fl := .next) (fw := .next) t' m' hp)
      | _ => exact hp.elim
    | ret d' l' => cases fw with
      | ret v' => cases hf; exact hQ (.ret v') _ (FPost.trans (fl := .ret d' l') t' m' hp)
      | _ => exact hp.elim
    | exc c => exact (hne c rfl).elim
end
end Mine
end
section
set_option maxRecDepth 100000
namespace Mine
open PySem PyProof.Rows
section
variable {M : Model} {A : Around} {E : Value -> Shared -> Prop} {s : Shared} {base : Heap} {env : Env} {outer l : List Env} {L e : Addr} {cls a0 fl : Value}
theorem noteFrame_frame {x : Value} {env' : Env} (h : env.frame = env'.frame) : noteFrame x env = noteFrame x env' := by
  unfold noteFrame PySem.frameOf
  rw [h]
theorem noteFrame_anyW {Q : Unit -> Shared -> Prop} (hfr : A.frames = some (env :: outer)) (hf : env.frame = some L) (hkb : base.StaysIn s.heap) (hen : base.get? e = none) (hl : s.heap.FunFrames base (env :: outer)) (ht : s.heap.TracedAtW base e cls a0 fl)
    (h : ∀ h', Heap.HeldW base (env :: outer) e cls a0 L h' -> s.heap.UpToSlots h' -> Q () { s with heap := h' }) : wpAny M A (noteFrame (.ref e) env) Q E s := by
  by_cases hfl : fl = rawInt L
  . subst hfl
    exact wpAny_noteFrame_againW hf ht (h s.heap ⟨hkb, hen, hl, ht⟩ (.refl _))
  refine cps fun Gq goq => ?_
  obtain ⟨oe, vs, T, oT, ts, he, ⟨hcls, h0⟩, hd, h1, hnT, hTe, hT, hdT, h3⟩ := ht
  refine goq ?_
  clear goq
  clear Gq
  subst hcls
  unfold noteFrame
  simp only [hf]
  refine wpAny_bind (wpAny_field he hd h1 ?_)
  rw [if_pos (show (Value.ref T != Value.none) = true from by simp)]
  refine wpAny_bind (wpAny_field hT hdT h3 ?_)
  rw [if_neg (show ¬ ((fl == rawInt L) = true) from fun z => hfl (eq_of_beq z))]
  refine wpAny_bind (wpAny_setField hT hdT (Array.getElem?_eq_some_iff.mp h3).1 ?_)
  have other : ∀ b, b ≠ T -> (s.heap.update T (Obj.mapFields (·.setIfInBounds 3 Value.none))).get? b = s.heap.get? b := fun b hb => Heap.get?_update_other _ _ (Ne.symm hb)
  have noRecord : ∀ b o, s.heap.get? b = some o -> (∀ vs, o.data ≠ .fields vs) -> b ≠ T := fun b o hb hnf q => by
    rw [q, hT] at hb; injection hb with hb; subst hb; exact hnf ts hdT
  exact wpAny_entryW hfr (hl.of_keeps fun b o hb hnf => ⟨o, (other b (noRecord b o hb hnf)).trans hb, rfl⟩) hf ((other e (Ne.symm hTe)).trans he)
    (fun b o hbo => (other b fun q => by rw [q, hnT] at hbo; cases hbo).trans (hkb b o hbo)) hen hd (Array.getElem?_eq_some_iff.mp h1).1 h0
    fun h' ⟨x1, x2, x3, x4⟩ => h h' ⟨x1, hen, x2, x3⟩ fun b o hb hnf => x4 b o ((other b (noRecord b o hb hnf)).trans hb) hnf
theorem passOn_anyW {what : String} {cenv : Env} {Q : Value -> Shared -> Prop} (hkb : base.StaysIn s.heap) (hl : s.heap.FunFrames base l) (ht : s.heap.TracedAtW base e cls a0 fl)
    (h : ∀ h' fl', base.StaysIn h' -> h'.FunFrames base l -> h'.TracedAtW base e cls a0 fl' -> s.heap.UpToSlots h' -> E (.ref e) { s with heap := h' }) : wpAny M A (PySem.passOn what (.ref e) cenv : Sem Value) Q E s := by
  refine cps fun Gq goq => ?_
  obtain ⟨oe, vs, T, oT, ts, he, hcls, hd, h1, hnT, hTe, hT, hdT, h3⟩ := ht
  refine goq ?_
  clear goq
  clear Gq
  have hsz3 : 3 < ts.size := (Array.getElem?_eq_some_iff.mp h3).1
  have other : ∀ b, b ≠ T -> (s.heap.update T (Obj.mapFields (·.setIfInBounds 3 (cenv.frame.elim Value.none fun f => rawInt f)))).get? b = s.heap.get? b :=
    fun b hb => Heap.get?_update_other _ _ (Ne.symm hb)
  have noRecord : ∀ b o, s.heap.get? b = some o -> (∀ vs, o.data ≠ .fields vs) -> b ≠ T := fun b o hb hnf q => by
    rw [q, hT] at hb; injection hb with hb; subst hb; exact hnf ts hdT
  unfold PySem.passOn setFlight
  refine wpAny_bind (wpAny_field he hd h1 ?_)
  rw [if_neg (show ¬ (Value.ref T == Value.none) = true from by simp)]
  refine wpAny_bind (wpAny_bind (wpAny_field he hd h1 ?_))
  rw [if_pos (show (Value.ref T != Value.none) = true from by simp)]
  refine wpAny_setField hT hdT hsz3 (wpAny_throw (h _ (cenv.frame.elim Value.none fun f => rawInt f) (fun b o hbo => (other b fun q => by rw [q, hnT] at hbo; cases hbo).trans (hkb b o hbo))
    (hl.of_keeps fun b o hb hnf => ⟨o, (other b (noRecord b o hb hnf)).trans hb, rfl⟩) ?_ fun b o hb hnf => ⟨o.slots, (other b (noRecord b o hb hnf)).trans hb⟩))
  exact ⟨oe, vs, T, _, _, (other e (Ne.symm hTe)).trans he, hcls, hd, h1, hnT, hTe, Heap.get?_update_self _ hT (Obj.isFreed_of_fields (Obj.data_mapFields hdT _)), Obj.data_mapFields hdT _, by simp [hsz3]⟩
end
noncomputable def Fly (c : FC) (x : Nat) (s : Shared) (e : Value) (s' : Shared) : Prop :=
  ∃ ea B a0 cv fl, e = .ref ea ∧ c.G.xv x = some cv ∧ B.StaysIn s'.heap ∧ B.get? ea = none ∧ s'.heap.FunFrames B (c.env :: c.outer) ∧ s'.heap.TracedAtW B ea cv a0 fl ∧ (∀ b o, s.heap.get? b = some o -> b ∉ frs (c.env :: c.outer) -> B.get? b = some o) ∧ s.heap.UpToSlots s'.heap ∧ Sm s s'
section
variable {c : FC} {F : Addr -> Prop} {own : Addr -> Option Nat} {γ : Env'} {s : Shared} {E : Value -> Shared -> Prop}
theorem ExcPost.fly {x : Nat} {e : Value} {s₁ s' : Shared} (X : SX c) (k : Keeps s s₁) (y : ExcPost c.G c.A x e s₁ s') : Fly c x s e s' := by
  refine cps fun Gq goq => ?_
  obtain ⟨ea, B, outer, a0, cv, h1, h2, h3, ⟨f1, f2, f3, f4⟩, h5, h6, h7⟩ := y
  refine goq ?_
  clear goq
  clear Gq
  rw [show c.A.frames = some (c.env :: c.outer) from Around.frames_deeper X.fr] at h3
  replace h3 := Option.some.inj h3
  subst h3
  exact ⟨ea, B, a0, cv, .none, h2, h1, f1, f2, f3, f4.at, fun b o e n => h5 b o (k.heap b o e) n, (Heap.UpToSlots.of_keeps k.heap).trans h6, k.sm.trans h7⟩
theorem exIdx_of (X : SX c) {x : Str} {i : Nat} (h : exIdx c.C x = some i) : c.C.glob x = true ∧ ∃ cv, c.G.xv i = some cv ∧ ExcOk c.G x cv := by
  refine cps fun Gq goq => ?_
  revert h
  refine ifBR fun hc h => ?_
  rw [X.cg.excs] at h
  obtain ⟨h2, h3, _⟩ := List.findIdx?_eq_some_iff_getElem.mp h
  obtain ⟨hc, _⟩ := Bool.and_eq_true_iff.mp hc
  refine goq ?_
  clear goq
  clear Gq
  refine ⟨(Bool.and_eq_true_iff.mp hc).1, X.g.exc i x ?_⟩
  rw [List.getElem?_eq_getElem h2]
  exact congrArg some (eq_of_beq h3)
theorem zde_exc : isSubtype (.type "ZeroDivisionError") (.type "BaseException") = pure true := PySem.F.excRaise_ZeroDivisionError.isExc
theorem zde_nt : isSubtype (.type ((Manifest.find? "ZeroDivisionError").elim "type" fun y => y.metatype)) (.type "tuple") = pure false := by rw [isSubtype_type]; kernel_rfl
theorem zde_sub : isSubtype (.type "ZeroDivisionError") (.type "ZeroDivisionError") = pure true := PySem.F.excCall_ZeroDivisionError.sub
theorem SX.raise (X : SX c) (S : SI c F own γ s.heap) {x m : Str} {px cp pp spos : Pos} {kk i : Nat} {Q : Flow -> Shared -> Prop} (hx : exIdx c.C x = some i) (hm : m.length ≤ lenLim) (hE : ∀ e s', RPost c s i e s' -> E e s') :
    wpAny c.M c.A (exec (.Raise (some (.Call (.Name x px) [.Constant (.str m) kk pp] [] cp)) none spos) c.env) Q E s := by
  refine cps fun Gq goq => ?_
  obtain ⟨hg, cv, hv, ok⟩ := exIdx_of X hx
  refine goq ?_
  clear goq
  clear Gq
  have hH := X.H S
  have hc : cEs c.C [.Constant (.str m) kk pp] = some (.cons (.lit (.str m)) .nil) := by
    show ((cE c.C (.Constant (.str m) kk pp)).bind _) = _
    exact bnd' (a := .lit (.str m)) (show (cConst (.str m)).map PE.lit = _ by rw [show cConst (.str m) = some (.str m) from if_pos hm]; rfl) rfl
  cases ok with
  | zde =>
    refine Raise_madeB PySem.F.excCall_ZeroDivisionError PySem.F.excRaise_ZeroDivisionError hH.ok.hh (name_blt hH hg (v := .type "ZeroDivisionError") (by kernel_rfl) ⟨rfl, ?_⟩ (by decide)) rfl rfl
    refine sndEsA [.Constant (.str m) kk pp] _ hc cp hH (xs := [.str m]) rfl fun vs s₁ k1 hl rd => ⟨by rw [hl]; exact (by decide : 1 ≤ sizeLine), fun h' e he => ?_⟩
    exact hE _ _ ⟨e, F, own, γ, s₁.heap, vs, _, rfl, S.keeps k1.heap, hv, he.of, k1.sm.puts _ _⟩
  | own O FB hb hd =>
    refine cps fun Gq goq => ?_
    obtain ⟨tl, N, nm, q, bs, hdct, sn, sub, ab, col, dd, k0, k1, k2, k3, k5, mN, hC, hN, hni, T⟩ := O.own.obj
    refine goq ?_
    clear goq
    clear Gq
    refine wpAny_Raise_call_subT (nm := nm) (q := q) (N := N) (bs := bs) (bm := tl) (hdct := hdct) (sn := sn) (sub := sub) (ab := ab) (col := col) (dd := dd) (k0 := k0) (k1 := k1) (k2 := k2) (k3 := k3) (k5 := k5)
      FB (mN := mN) (T.hasType FB.hasBase) hH.ok.hh (stars_plain hc) hni (name_glob hH hg O.own.bound ⟨rfl, ?_⟩ hd)
    refine args_of hc rfl (sndEsA [.Constant (.str m) kk pp] _ hc cp hH (xs := [.str m]) rfl fun vs s₁ k1 hl rd => ?_)
    have kb := (hH.keeps k1).ok.kb
    exact ⟨rfl, by rw [hl]; exact (by decide : 1 ≤ sizeLine), kb _ _ hC, hN.keeps kb, T.keeps kb, fun h' e he => hE _ _ ⟨e, F, own, γ, s₁.heap, vs, _, rfl, S.keeps k1.heap, hv, he, k1.sm.puts _ _⟩⟩
theorem SX.land (X : SX c) (S : SI c F own γ s.heap) (htp : c.tp = true) {x y : Str} {ep py kp ap hp : Pos} {kk i yi : Nat} {kc : Const} {d : PyData} {e : Value} {s' : Shared} {Q : Flow -> Shared -> Prop}
    (hex : exIdx c.C x = some i) (hy : c.C.slot y = some yi) (hd : cConst kc = some d) (fly : Fly c i s e s') (hQ : ∀ s'', Left c F own s (γ.set yi (.pl d)) s'' -> Q .next s'') :
    wpAny c.M c.A (noteFrame e c.env) (fun ζ s₂ => wpAny c.M c.A (setFlight e none) (fun ζ s₃ => wpAny c.M c.A (handleBy e c.env [.ExceptHandler (some (.Name x ep)) none [.Assign [.Name y py] (.Constant kc kk kp) ap] hp]) Q E s₃) E s₂) E s' := by
  refine cps fun Gq goq => ?_
  obtain ⟨ea, B, a0, cv, fl, rfl, hv, f1, f2, f3, f4, hB, hus, sm⟩ := fly
  obtain ⟨hg, cv', hv', ok⟩ := exIdx_of X hex
  refine goq ?_
  clear goq
  clear Gq
  rw [hv] at hv'
  replace hv' := Option.some.inj hv'
  subst hv'
  have hyn := slotNs X hy
  refine noteFrame_anyW (Around.frames_deeper X.fr) rfl f1 f2 f3 f4 fun h₄ hheld₄ u4 => ?_
  refine wpAny_landsW hheld₄ fun h₅ hheld u5 => ?_
  refine cps fun Gq goq => ?_
  obtain ⟨ob, hob, hobc⟩ := hheld.there
  have u := (hus.trans u4).trans u5
  obtain ⟨S5, -⟩ := S.caught X htp (fun b o e hn => hheld.1 b o (hB b o e hn)) u
  refine goq ?_
  clear goq
  clear Gq
  have kb5 := SI.kb X S5
  -- behind the clause's test
  have fin : wpAny c.M (c.A.mark (some (.ref ea))) (setFlight (.ref ea) none) (fun ζ s₂ => wpAny c.M (c.A.mark (some (.ref ea))) (execs [.Assign [.Name y py] (.Constant kc kk kp) ap] c.env) Q (notedBy c.M (c.A.mark (some (.ref ea))) c.env (cameBackBy c.M c.A c.env E)) s₂) (notedBy c.M (c.A.mark (some (.ref ea))) c.env (cameBackBy c.M c.A c.env E)) { s' with heap := h₅ } := by
    refine lands_againW hheld fun h₆ hfl₆ u6 => ?_
    obtain ⟨S6, t6⟩ := S.caught X htp (fun b o e hn => hfl₆.1 b o (hB b o e hn)) (u.trans u6)
    refine wpAny_execs_cons (wpAny_Assign_Name (sndConst (F := FO F own) hd fun v s₇ k7 v7 => ?_))
    exact store_pl X S6 k7.heap hyn v7.1 fun h' tk S' t' ζ => wpAny_execs_nil (hQ _ ⟨_, S', t6.trans t', ((sm.puts _ _).trans k7.sm).puts _ _⟩)
  have hk : c.env.scope.kind = .function := X.K.kind
  have hgk : c.env.kindOf x = some .globalImplicit := (X.H S5 (s := { s' with heap := h₅ })).env.glob x hg
  cases ok with
  | zde =>
    refine wpAny_handleBy_builtin (X := "ZeroDivisionError") (T := "ZeroDivisionError") (b := true) zde_exc zde_nt zde_sub ?_
    exact Calls.Name_function_global hk hgk (Calls.loadGlobal_builtin (mg := c.G.mg) (mb := c.G.mb) (X.g.g.keeps kb5) (X.g.blt _ (.type "ZeroDivisionError") (by kernel_rfl)).1 (X.g.b.keeps kb5) (X.g.blt _ (.type "ZeroDivisionError") (by kernel_rfl)).2 ⟨rfl, ⟨ob, hob, hobc⟩, fin⟩) (by decide)
  | own O FB hb hd =>
    exact handleBy_own hb (Calls.Name_function_global hk hgk (Calls.loadGlobal_global (mg := c.G.mg) (X.g.g.keeps kb5) O.own.bound ⟨rfl, O.keeps kb5, ⟨ob, hob, hobc⟩, fin⟩) hd)
theorem fnS_of {C : Ctx} {x : Str} {j : Nat} (h : C.fnS x = some j) : C.fn x = some j := by
  revert h
  refine bS fun j' h1 h => ?_
  obtain ⟨_, h⟩ := ifN h
  replace h := Option.some.inj h
  subst h
  exact h1
theorem call_any {G : GCtx} {Φ : Funs} {k : Nat} {C : Ctx} {γ : Env'} {A : Around} {env : Env} {F : Addr -> Prop} {s : Shared} {Q E : Value -> Shared -> Prop} {x : Str} {p pos : Pos} {as : List PySem.Expr} {j : Nat} {es : PEs} {xs : List PyData} {out : Out}
    (hj : C.fn x = some j) (hne : as.isEmpty = false) (h2 : cEs C as = some es) (hH : H G Φ k C γ A env F s) (e1 : evEs Φ γ es = some xs) (e2 : Φ j xs = some out)
    (hQ : ∀ d l, out = .ret d l -> ∀ v s', Keeps s s' -> Val F s.heap s'.heap v (d, l) -> Q v s') (hE : ∀ i, out = .exc i -> ∀ e s₁ s', Keeps s s₁ -> ExcPost G A i e s₁ s' -> E e s') :
    wpAny (model G.prog G.w) A (eval (.Call (.Name x p) as [] pos) env) Q E s := by
  refine cps fun Gq goq => ?_
  obtain ⟨hg, hd, hjn⟩ := fn_of hj
  obtain ⟨ad, o, fd, q1, q2, q3, q4⟩ := call_fn hj hH
  refine goq ?_
  clear goq
  clear Gq
  have hlt : j < 1000 := by
    rw [hH.cg.fns] at hjn
    have h1 := (List.getElem?_eq_some_iff.mp hjn).1
    rw [List.length_map] at h1
    exact Nat.lt_of_lt_of_le h1 hH.g.len
  refine name_call (name_glob hH hg q1 ?_ hd)
  refine Calls.callWith_function (o := o) (fd := fd) (args_of h2 hne (sndEsA as es h2 pos hH e1 fun vs s₁ k1 ζ r1 => ⟨⟨(hH.keeps k1).ok.kb _ _ q2, q3⟩, ?_⟩))
  exact q4 s₁ vs xs out Q E k1 r1 e2 hlt (fun d l ho v s' k2 v2 => hQ d l ho v s' (k1.trans k2) (v2.back k1.heap)) fun i ho e s' hx => hE i ho e s₁ s' k1 hx
theorem SX.tryC (X : SX c) (S : SI c F own γ s.heap) {x fn ex y : Str} {px pf cp sp ep py kp ap hp pos : Pos} {kk : Nat} {as : List PySem.Expr} {kc : Const} {i j x' yi : Nat} {es : PEs} {d : PyData} {fl : Flw} {γ' : Env'} {Q : Flow -> Shared -> Prop}
    (hx : c.C.slot x = some i) (hj : c.C.fnS fn = some j) (hes : cEs c.C as = some es) (hex : exIdx c.C ex = some x') (hy : c.C.slot y = some yi) (hd : cConst kc = some d) (hne : as.isEmpty = false)
    (he : evS c.Φ c.fu c.tp γ (.tryC i j es x' yi d) = some (fl, γ')) (hQ : ∀ fw s', FPost c F own s fl γ' fw s' -> Q fw s') :
    wpAny c.M c.A (exec (.Try [.Assign [.Name x px] (.Call (.Name fn pf) as [] cp) sp] [.ExceptHandler (some (.Name ex ep)) none [.Assign [.Name y py] (.Constant kc kk kp) ap] hp] [] [] pos) c.env) Q E s := by
  revert he
  refine bS fun xs e1 he => ?_
  revert he
  refine bS fun out e2 he => ?_
  refine wpAny_Try_except (wpAny_execs_cons (wpAny_Assign_Name (call_any (fnS_of hj) hne hes (X.H S) e1 e2 (fun d' l ho v s' k1 v1 => ?_) fun i' ho e s₁ s' k1 hx' => ?_)))
  . subst ho
    replace he := Prod.mk.inj (Option.some.inj he)
    obtain ⟨rfl, rfl⟩ := he
    exact store_pl X S k1.heap (slotNs X hx) v1.1 fun h' tk S' t' ζ => wpAny_execs_nil (wpAny_execs_nil (hQ .next _ ⟨_, S', t', k1.sm.puts _ _⟩))
  . subst ho
    replace he : (if c.tp && i' == x' then some (Flw.next, γ.set yi (.pl d)) else none) = some (fl, γ') := he
    revert he
    refine ifBR fun hcc he => ?_
    replace he := Prod.mk.inj (Option.some.inj he)
    obtain ⟨rfl, rfl⟩ := he
    obtain ⟨htp, hi⟩ := Bool.and_eq_true_iff.mp hcc
    rw [eq_of_beq hi] at hx'
    exact X.land S htp hex hy hd (hx'.fly X k1) fun s'' l => hQ .next s'' l
end
end Mine
end
section
set_option maxRecDepth 100000
namespace Mine
open PySem PyProof.Rows
noncomputable def toC : Out -> COut
  | .ret d l => .val (d, l)
  | .exc i => .exc i
theorem NE.tail {o : COut} {os : List COut} {n : Nat} (h : NE (o :: os) (n + 1)) : NE os n := fun k hk c => h (k + 1) (Nat.succ_lt_succ hk) c
theorem tryL_outs {f : PyData -> Option Out} : ∀ {ds : List PyData} {r : List PyData ⊕ Nat}, tryL f ds = some r -> ∃ os : List COut, os.length = ds.length ∧ (∀ (i : Nat) (d : PyData), ds[i]? = some d -> NE os i -> ∃ o, f d = some o ∧ os[i]? = some (toC o)) ∧
    (∀ k i : Nat, os[k]? = some (COut.exc i) -> r = .inr i) ∧ (∀ vs, r = .inl vs -> (vals os).map (·.1) = vs) ∧ (∀ i, r = .inr i -> ¬ NE os os.length)
  | [], r, h => by cases h; exact ⟨[], rfl, nofun, nofun, fun vs e => by cases e; rfl, nofun⟩
  | d :: ds, r, h => by
    revert h
    refine bS fun o h1 h => ?_
    cases o with
    | ret v l =>
      refine cps fun Gq goq => ?_
      revert h
      refine bS fun r' h2 h => ?_
      obtain ⟨os, a, b, c, d', e⟩ := tryL_outs h2
      refine goq ?_
      clear goq
      clear Gq
      refine ⟨.val (v, l) :: os, congrArg (· + 1) a, fun i d₁ hi hne => ?_, fun k i hk => ?_, fun vs e' => ?_, fun i e' hne => ?_⟩
      . cases i with
        | zero => cases hi; exact ⟨_, h1, rfl⟩
        | succ i => exact b i d₁ hi hne.tail
      . cases k with
        | zero => cases hk
        | succ k => have := c k i hk; subst this; cases h; rfl
      . cases r' with
        | inl vs' => cases h; cases e'; exact congrArg (v :: ·) (d' vs' rfl)
        | inr => cases h; cases e'
      . cases r' with
        | inl => cases h; cases e'
        | inr i' => exact e i' rfl hne.tail
    | exc i =>
      replace h := Option.some.inj h
      subst h
      refine ⟨.exc i :: List.replicate ds.length .skip, congrArg (· + 1) List.length_replicate, fun i' d₁ hi hne => ?_, fun k i' hk => ?_, nofun, fun i' e hne => hne 0 (Nat.succ_pos _) i rfl⟩
      . cases i' with
        | zero => cases hi; exact ⟨_, h1, rfl⟩
        | succ i' => exact (hne 0 (Nat.succ_pos _) i rfl).elim
      . cases k with
        | zero => cases hk; rfl
        | succ k => cases List.eq_of_mem_replicate (List.mem_of_getElem? (show (List.replicate ds.length COut.skip)[k]? = some (.exc i') from hk))
theorem swaps_lc (elt : PySem.Expr) (gens : List Comprehension) (sc : Scope) (p : Pos) (x : Str) (px : Pos) (n : Nat) (env : Env) : swapsWith (.ListComp elt gens sc p) (some (.Name x px)) n env = pure false ∨ swapsWith (.ListComp elt gens sc p) (some (.Name x px)) n env = pure true := by
  cases hb : (env.blockKind == .function && env.kindOf x == some .local && px.line == (PySem.Expr.ListComp elt gens sc p).pos.line && !(sc.names.any fun (n, k) => n == x && (k == .local || k == .cell)))
  . left
    show (pure _ : Sem Bool) = _
    rw [hb]
  . right
    show (pure _ : Sem Bool) = _
    rw [hb]
section
variable {c : FC} {F : Addr -> Prop} {own : Addr -> Option Nat} {γ : Env'} {s : Shared} {E : Value -> Shared -> Prop}
theorem Fly.out (X : SX c) (S : SI c F own γ s.heap) {i : Nat} {s₂ s₃ s₄ : Shared} {Cc : Addr} {m : Str -> Option Value} {wr : List Addr} {e : Value} {h₅ h' : Heap} (k2 : Keeps s s₂) (wrn : ∀ b ∈ wr, s.heap.get? b = none) (hC : s₂.heap.get? Cc = none) (hns : s₃.heap.Ns Cc m) (sm : Sm s₂ s₃)
    (hkp : ∀ b o, b ∉ wr -> s₂.heap.get? b = some o -> s₃.heap.get? b = some o) {ea : Addr} {B : Heap} {a0 cv : Value} (he : e = .ref ea) (hv : c.G.xv i = some cv) (hheld : Heap.HeldW B (c.env :: c.outer) ea cv a0 c.L h₅) (hB : ∀ b o, s₃.heap.get? b = some o -> b ∉ frs (c.env :: c.outer) -> B.get? b = some o)
    (u : s₃.heap.UpToSlots h₅) (sm₄ : Sm s₃ s₄) (hs : Heap.SameBut Cc h₅ h') : Fly c i s e { s₄ with heap := h' } := by
  refine cps fun Gq goq => ?_
  obtain ⟨f1, f2, f3, oe, vs, T, oT, ts, q1, q2, q3, q4, q5, q6, q7, q8, q9⟩ := hheld
  refine goq ?_
  clear goq
  clear Gq
  have hk3 : ∀ b o, s.heap.get? b = some o -> s₃.heap.get? b = some o := fun b o e => hkp b o (fun w => absN e (wrn b w)) (k2.heap b o e)
  have hnC : ∀ b o, s.heap.get? b = some o -> b ≠ Cc := fun b o e z => absN (k2.heap b o e) (z ▸ hC)
  have nb : ∀ b, B.get? b = none -> (B.hide Cc).get? b = none := fun b e => by
    cases q : (B.hide Cc).get? b with
    | none => rfl
    | some o => exact (absN (Heap.of_hide q) e).elim
  have hns5 := u.ns hns
  have neC : ∀ b o vs, h₅.get? b = some o -> o.data = .fields vs -> b ≠ Cc := fun b o vs e d z => ns_dt hns5 (z ▸ e) (.inr ⟨vs, d⟩)
  refine ⟨ea, B.hide Cc, a0, cv, rawInt c.L, he, hv, fun b o e => ?_, nb _ f2, FrsB.ff fun env henv => ?_, ⟨oe, vs, T, oT, ts, hs.extBut _ _ (neC _ _ _ q1 q3) q1, q2, q3, q4, nb _ q5, q6, hs.extBut _ _ (neC _ _ _ q7 q8) q7, q8, q9⟩, fun b o e hn => ?_, fun b o e nf => ?_, ((k2.sm.trans sm).trans sm₄).puts _ _⟩
  . have e' := Heap.of_hide e
    exact hs.extBut b o (fun z => by subst z; rw [Heap.hide_self] at e; cases e) (f1 b o e')
  . obtain ⟨kd, L, m', hf, _, hn⟩ := X.frs S env henv
    have hL : ∃ o, s.heap.get? L = some o := let ⟨o, _, _, e, _⟩ := hn; ⟨o, e⟩
    obtain ⟨o, eL⟩ := hL
    refine ⟨kd, L, m', hf, nb _ (f3.mem (List.mem_filterMap.mpr ⟨env, henv, hf⟩)).1, ?_⟩
    exact (u.ns (hn.at' fun o e => hk3 L o e)).sameBut hs (hnC L o eL)
  . rw [Heap.hide_ne _ (hnC b o e)]
    exact hB b o (hk3 b o e) hn
  . obtain ⟨sl, e5⟩ := u b o (hk3 b o e) nf
    exact ⟨sl, hs.extBut b _ (hnC b o e) e5⟩
theorem SX.tryM (X : SX c) (S : SI c F own γ s.heap) {x fn ex y : Str} {px pf cp lp sp ep py kp ap hp pos : Pos} {kk : Nat} {as : List PySem.Expr} {gens : List Comprehension} {sc : Scope} {g : Gen1} {it : PI × PT} {kc : Const} {i j x' yi : Nat} {es : PEs} {d : PyData} {fl : Flw} {γ' : Env'} {Q : Flow -> Shared -> Prop}
    (hx : c.C.slot x = some i) (hg : gen1 gens = some g) (hc : compOk c.C g.xs sc = true) (hts : g.tests = false) (hit : cGs c.C (compCtx c.C g.xs sc) gens = some it) (hj : (compCtx c.C g.xs sc).fnS fn = some j) (hes : cEs (compCtx c.C g.xs sc) as = some es) (htw : tgtOk g.xs.length it.1 = true)
    (hex : exIdx c.C ex = some x') (hy : c.C.slot y = some yi) (hd : cConst kc = some d) (hne : as.isEmpty = false)
    (he : evS c.Φ c.fu c.tp γ (.tryM i j es g.xs.length it.1 x' yi d) = some (fl, γ')) (hQ : ∀ fw s', FPost c F own s fl γ' fw s' -> Q fw s') :
    wpAny c.M c.A (exec (.Try [.Assign [.Name x px] (.ListComp (.Call (.Name fn pf) as [] cp) gens sc lp) sp] [.ExceptHandler (some (.Name ex ep)) none [.Assign [.Name y py] (.Constant kc kk kp) ap] hp] [] [] pos) c.env) Q E s := by
  have hH := X.H S
  have hxn := slotNs X hx
  refine cps fun Gq goq => ?_
  revert he
  refine bS fun ds e1 he => ?_
  revert he
  refine bS fun r e2 he => ?_
  obtain ⟨os, o1, o2, o3, o4, o5⟩ := tryL_outs e2
  have hc := CompOk.of hc
  try clear ds
  try clear e2
  obtain ⟨tg, iter, ifs, rfl, te, ht⟩ := gen1_of hg
  rw [hts] at ht
  have hifs : ifs = [] := by
    cases ifs with
    | nil => rfl
    | cons => cases ht
  try clear ifs
  try clear ht
  subst hifs
  obtain ⟨hfold, h4, h5⟩ := cGs_one hit
  refine goq ?_
  clear goq
  clear Gq
  -- the comprehension, up to its end
  have core : ∀ (E' : Value -> Shared -> Prop) (RR : Value -> Addr -> Result -> Shared -> Prop), (∀ D Cc s' m' ys, s.heap.get? Cc = none -> s'.heap.Ns Cc m' -> s'.heap.PlainList D ys -> (∀ h'', Heap.SameBut Cc s'.heap h'' -> Keeps s { s' with heap := h'' } ∧ Val (FO F own) s.heap h'' (.ref D) (mkL (vals os))) -> NE os os.length -> RR (.ref D) Cc (.ok .next) s') ->
      (∀ D Cc e s' m' i', s'.heap.Ns Cc m' -> r = .inr i' -> (∀ h', Heap.SameBut Cc s'.heap h' -> Fly c i' s e { s' with heap := h' }) -> RR (.ref D) Cc (.error e) s') ->
      wpAny c.M c.A (eval iter c.env) (fun x s₁ => wpAny c.M c.A (pyIter x) (fun it s₂ => wpAny c.M c.A (newList []) (fun acc s₃ => wpAny c.M c.A (newFunctionEnv sc c.env.globals (clL c.env sc.names []) [] c.env.qual none .none (some c.env)) (fun cenv s₄ =>
          codeAny c.M c.A (.compStart (.ListComp (.Call (.Name fn pf) as [] cp) [⟨tg, iter, [], 0⟩] sc lp) 0 it acc { cenv with scope := relabel sc c.env }) (RR acc cenv.locals) s₄) E' s₃) E' s₂) E' s₁) E' s := by
    intro E' RR hOk hErr
    refine sndIA iter it.1 h4 hH e1 fun hD I' fp wr St Mid s₂ iti => ?_
    have wrn : ∀ b ∈ wr, s.heap.get? b = none := fun b hb => iti.kD.none (iti.new b hb)
    refine comp_core (os := os) (RR := RR) (XE := fun e s₃ s₄ => ∃ i', r = .inr i' ∧ Fly c i' s₃ e s₄) hH.ok.hh iti hH.al te (te.nodup hc) (fun q => tgtOk_tw htw q) (fun hn i d hi hne => ?_) hc.kind (comp_tg hc) o1 ?_ ?_ ?_
    . obtain ⟨o, q, _⟩ := o2 i d hi hne
      obtain ⟨γ', q, _⟩ := bind_some q
      exact bindC_two q hn
    . intro i d o Cc s₃ F' Qt Qf E'' hd' ho hne' hold ks hF' al' hf hv hx'
      obtain ⟨out, q, ho'⟩ := o2 i d hd' hne'
      rw [ho'] at ho
      replace ho := Option.some.inj ho
      try clear o1
      try clear te
      try clear hifs
      try clear h4
      try clear h5
      try clear E'
      try clear RR
      try clear hD
      try clear I'
      try clear fp
      try clear wr
      try clear St
      try clear Mid
      try clear Qt
      try clear Qf
      try clear E''
      try clear hd'
      try clear hf
      try clear out
      subst ho
      obtain ⟨γ', q1, q⟩ := bind_some q
      revert q
      refine bS fun vs q2 q => ?_
      have hH3 : Mine.H c.G c.Φ c.k (compCtx c.C g.xs sc) γ' c.A (cEnv sc (clL c.env sc.names []) Cc c.env) F' s₃ := ⟨hH.g, hH.real, ⟨hH.cg.fns, hH.cg.excs⟩, hH.ok.keeps ks, comp_env hc hH.env q1 hold ks hF', al'⟩
      refine wpAny_tests_nil ?_
      refine call_any (fnS_of hj) hne hes hH3 q2 q (fun d' l ho v s' k1 v1 => ?_) fun i' ho e s₁ s' k1 hx'' => ?_
      . subst ho
        exact hv (d', l) v s' rfl k1 v1
      . subst ho
        exact hx' i' e s' rfl ⟨i', o3 i i' ho', hx''.fly X k1⟩
    . intro D Cc s₃ m e s₄ hDn hCn hns sm hkp hI
      refine cps fun Gq goq => ?_
      try clear o3
      try clear q
      try clear F'
      try clear ho
      try clear hold
      try clear ks
      try clear hF'
      try clear al'
      try clear hx'
      try clear ho'
      try clear hH3
      try clear k1
      try clear hx''
      obtain ⟨i', hr, ea, B, a0, cv, fl', rfl, hv, f1, f2, f3, f4, hB, hus, sm₄⟩ := hI
      refine goq ?_
      clear goq
      clear Gq
      show wpAny c.M c.A (noteFrame (.ref ea) (cEnv sc (clL c.env sc.names []) Cc c.env)) _ _ s₄
      rw [noteFrame_frame (env := cEnv sc (clL c.env sc.names []) Cc c.env) (env' := c.env) rfl]
      refine noteFrame_anyW (Around.frames_deeper X.fr) rfl f1 f2 f3 f4 fun h₅ hheld u5 => ?_
      exact hErr D Cc _ _ m i' ((hus.trans u5).ns hns) hr fun h' hs => Fly.out X S iti.keeps wrn hCn hns sm hkp rfl hv hheld hB (hus.trans u5) (sm₄.puts _ _) hs
    . intro D Cc s' m' ys hDn hC hDC sm hns hl hm hkp hne'
      exact hOk D Cc s' m' ys (KeepsH.none iti.keeps.heap hC) hns hl (fun h'' hs => comp_fin (os := os) iti hH.al hDn hC hDC sm hns hl (Or.inl rfl) hm hkp hs) hne'
  clear o2 e1 hj hes
  -- the exception, caught
  have err : ∀ e s' i', r = .inr i' -> Fly c i' s e s' -> wpAny c.M c.A (noteFrame e c.env) (fun ζ s₂ => wpAny c.M c.A (setFlight e none) (fun ζ s₃ => wpAny c.M c.A (handleBy e c.env [.ExceptHandler (some (.Name ex ep)) none [.Assign [.Name y py] (.Constant kc kk kp) ap] hp]) Q E s₃) E s₂) E s' := by
    rintro e s' i' rfl fly
    replace he : (if c.tp && i' == x' then some (Flw.next, γ.set yi (.pl d)) else none) = some (fl, γ') := he
    revert he
    refine ifBR fun hcc he => ?_
    replace he := Prod.mk.inj (Option.some.inj he)
    try clear Gq
    try clear goq
    try clear e1
    try clear o2
    try clear hOk
    try clear hErr
    try clear iti
    try clear wrn
    try clear d
    try clear s₄
    try clear hDn
    try clear hCn
    try clear hkp
    try clear hI
    try clear hDC
    try clear hm
    obtain ⟨rfl, rfl⟩ := he
    obtain ⟨htp, hi⟩ := Bool.and_eq_true_iff.mp hcc
    rw [eq_of_beq hi] at fly
    exact X.land S htp hex hy hd fly fun s'' l => hQ .next s'' l
  have ok : ∀ {s'}, NE os os.length -> Left c F own s (γ.set i (.pl (mkL (vals os)).1)) s' -> Q .next s' := fun {s'} hne' l => by
    cases r with
    | inr i' => exact (o5 i' rfl hne').elim
    | inl vs =>
      replace he := Prod.mk.inj (Option.some.inj he)
      try clear o5
      try clear γ'
      try clear i
      try clear sm₄
      try clear h₅
      try clear hheld
      try clear u5
      try clear fly
      try clear hcc
      try clear htp
      try clear hi
      obtain ⟨rfl, rfl⟩ := he
      rw [show (mkL (vals os)).1 = .list vs from congrArg PyData.list (o4 vs rfl)] at l
      exact hQ .next s' l
  have errE : ∀ {D : Addr} {Cc : Addr} {e : Value} {s' : Shared} {m' : Str -> Option Value} {i' : Nat}, s'.heap.Ns Cc m' -> r = .inr i' -> (∀ h', Heap.SameBut Cc s'.heap h' -> Fly c i' s e { s' with heap := h' }) -> ∃ m, s'.heap.Ns Cc m ∧ ∀ h', Heap.SameBut Cc s'.heap h' -> ∀ cenv : Env, cenv.locals = Cc -> wpAny c.M c.A (PySem.passOn "comprehension.variables-let-go" e cenv : Sem Value) (fun ζ ζ => False)
      (fun e s₁ => wpAny c.M c.A (noteFrame e c.env) (fun ζ s₂ => wpAny c.M c.A (setFlight e none) (fun ζ s₃ => wpAny c.M c.A (handleBy e c.env [.ExceptHandler (some (.Name ex ep)) none [.Assign [.Name y py] (.Constant kc kk kp) ap] hp]) Q E s₃) E s₂) E s₁) { s' with heap := h' } := by
    intro D Cc e s' m' i' hns hr fl
    refine ⟨m', hns, fun h' hs cenv ζ => ?_⟩
    try clear he
    try clear r
    try clear os
    try clear o4
    try clear s₂
    try clear s₃
    try clear m
    obtain ⟨ea, B, a0, cv, fl', rfl, hv, f1, f2, f3, f4, hB, hus, sm⟩ := fl h' hs
    exact passOn_anyW f1 f3 f4 fun h₆ fl₆ g1 g3 g4 u6 => err _ _ i' hr ⟨ea, B, a0, cv, fl₆, rfl, hv, g1, f2, g3, g4, hB, hus.trans u6, sm.puts _ _⟩
  refine wpAny_Try_except (wpAny_execs_cons ?_)
  rcases swaps_lc (.Call (.Name fn pf) as [] cp) [⟨tg, iter, [], 0⟩] sc lp x px sp.line c.env with hs | hs
  . refine wpAny_Assign_Name ?_ hs
    rw [eval_ListComp]
    refine wpAny_comprehension_free (use := none) rfl (hfold c.env) (comp_closure hc hH.env) hc.kind hc.names (core _ _ (fun D Cc s' m' ys ζ hns ζ fin hne' => ⟨m', hns, fun h'' hs => ?_⟩) fun D Cc e s' m' i' hns hr fl => errE (D := D) hns hr fl)
    obtain ⟨q1, q2⟩ := fin h'' hs
    exact store_pl X S q1.heap hxn q2.1 fun h' tk S' t' ζ => wpAny_execs_nil (wpAny_execs_nil (ok hne' ⟨_, S', t', q1.sm.puts _ _⟩))
  . rw [exec_Assign_Name_used _ _ _ _ hs]
    refine wpAny_bind (wpAny_standAt (wpAny_bind ?_))
    show wpAny _ _ (do let _ ← comprehension (.ListComp (.Call (.Name fn pf) as [] cp) [⟨tg, iter, [], 0⟩] sc lp) sc c.env _ (newList []) false (eval iter c.env) (some (assign (.Name x px) c.env))) _ _ s
    refine wpAny_bind (wpAny_mono (wpAny_comprehension_free (use := some (assign (.Name x px) c.env)) (Q := fun ζ s' => Q .next s') rfl (hfold c.env) (comp_closure hc hH.env) hc.kind hc.names (core _ _ (fun D Cc s' m' ys hC hns hl fin hne' => ?_) fun D Cc e s' m' i' hns hr fl => errE (D := D) hns hr fl)) (fun ζ s' hq => wpAny_pure (wpAny_pure (wpAny_execs_nil (wpAny_execs_nil hq)))) fun ζ ζ e => e)
    obtain ⟨q1, q2⟩ := fin s'.heap (.refl ..)
    show wpAny _ _ (assign (.Name x px) c.env (.ref D)) _ _ _
    have hCf : ¬ c.Fx Cc := fun z => let ⟨o, e⟩ := S.there z; absN e hC
    refine wpAny_assign_Name (store_pl (s := s') X S q1.heap hxn q2.1 fun h₂ tk₂ S₂ t₂ kb => ?_)
    have hns₂ : h₂.Ns Cc m' := hns.at' fun o e => kb _ o hCf e
    exact ⟨m', hns₂, fun h₃ hs₃ => ok hne' (used_left X S hC hns₂ S₂ t₂ (q1.sm.puts _ _) hs₃)⟩
end
end Mine
end
section
set_option maxRecDepth 100000
namespace Mine
open PySem PyProof.Rows
section
variable {c : FC} {F : Addr -> Prop} {own : Addr -> Option Nat} {γ : Env'} {h h' : Heap}
theorem SI.gen (X : SX c) (S : SI c F own γ h) {cc P : Addr} (hgp : c.gp = some (cc, P)) (htp : c.tp = true) (hk : ∀ b o, b ≠ P -> h.get? b = some o -> h'.get? b = some o) (ht : ∃ ps, h'.IsCode cc P ps ∧ h'.TableAt cc P ps) : SI c F own γ h' ∧ Tr c own h own h' := by
  refine cps fun Gq goq => ?_
  obtain ⟨_, _, _, oP, eP, vsP, dP⟩ := X.gp cc P hgp
  refine goq ?_
  clear goq
  clear Gq
  have w : c.W P := ⟨htp, .inr ⟨cc, hgp⟩⟩
  have nP : ∀ b, ¬ c.W b -> b ≠ P := fun b n z => n (z ▸ w)
  have th : ∀ b o, h.get? b = some o -> ∃ o', h'.get? b = some o' := fun b o e => by
    by_cases z : b = P
    . obtain ⟨ps, _, _, e'⟩ := ht
      exact ⟨_, z ▸ e'⟩
    . exact ⟨o, hk b o z e⟩
  have vk : ∀ b o, Vol c.env c.nc b -> h.get? b = some o -> h'.get? b = some o := fun b o v e => hk b o (fun z => absN (z ▸ eP) (X.fx b v)) e
  have sk : ∀ b o vs n, h.get? b = some o -> o.data = .seq vs n -> h'.get? b = some o := fun b o vs n e d => hk b o (nP b (X.nW S e d)) e
  refine ⟨⟨S.cv.at vk, fun i x sl e1 e2 => (S.slots i x sl e1 e2).move (fun v q => q.at (X.tg e1) vk) (fun ζ q => q) (fun ζ q => .inl q) fun b o vs n e d ζ => sk b o vs n e d, fun b o e n => hk b o (nP b n) (S.keep b o e n), fun b o e nf => ?_,
    fun b i q => let ⟨q1, q2, vs, n, e⟩ := S.own b i q; ⟨q1, q2, vs, n, sk b _ vs n e rfl⟩, fun b q => let ⟨o, e⟩ := S.al b q; th b o e, fun cc' P' e => ?_⟩, fun b o e ζ ζ n => hk b o (nP b n) e, th, fun b q => .inl q⟩
  . obtain ⟨sl, e'⟩ := S.up b o e nf
    refine ⟨sl, hk b _ (fun z => ?_) e'⟩
    subst z
    rw [eP] at e
    replace e := Option.some.inj e
    subst e
    exact nf _ dP
  . rw [hgp] at e
    replace e := Prod.mk.inj (Option.some.inj e)
    obtain ⟨rfl, rfl⟩ := e
    exact ht
end
section
variable {M : Model} {A : Around} {E : Value -> Shared -> Prop} {s : Shared}
theorem gcode {env : Env} {cc P : Addr} {ps : Array Value} {pos : Pos} {qualname : Str} {scope : Scope} {Q : Value -> Shared -> Prop} (hc : env.code = .ref cc) (x : s.heap.IsCode cc P ps ∧ s.heap.TableAt cc P ps)
    (hQ : ∀ code h' tk ps', Heap.ExtBut P s.heap h' -> s.heap.objs.size ≤ h'.objs.size -> h'.IsCode cc P ps' -> h'.TableAt cc P ps' -> Q code { s with heap := h', toks := tk }) : wpAny M A (genexprCode env pos qualname scope) Q E s := by
  cases hnf : codeAmong pos ps.toList with
  | none => exact wpAny_genexprCodeX hc x.1 x.2 hnf fun c' h' tk hx hge hlt h1 ζ h2 ζ => hQ _ h' tk _ hx (Nat.le_trans hge (Nat.le_of_lt hlt)) h1 h2
  | some cv =>
    refine cps fun Gq goq => ?_
    obtain ⟨o, vs, file, tf, flags, tg, inF, text, tt, op, ho, hd, h11, h2, h7, h9, h10, hop, hpd, htr, hne⟩ := id x.1
    refine goq ?_
    clear goq
    clear Gq
    unfold genexprCode codeAt
    rw [hc, if_neg (show ¬ ((Value.ref cc == Value.none) = true) from Bool.false_ne_true)]
    refine wpAny_bind (wpAny_fieldsOf ho hd ?_)
    rw [h11]
    refine wpAny_bind (wpAny_fieldsOf hop hpd ?_)
    rw [hnf]
    exact wpAny_pure (hQ cv s.heap s.toks ps (Heap.ExtBut.refl _ _) (Nat.le_refl _) x.1 x.2)
end
theorem firstI_get : ∀ {xs : List PyData} {is : List Int}, firstI xs = some is -> is.length = xs.length ∧ ∀ (i : Nat) (d : PyData), xs[i]? = some d -> ∃ k r, d = .tuple (.int k :: r) ∧ is[i]? = some k
  | [], is, h => by cases h; exact ⟨rfl, nofun⟩
  | x :: xs, is, h => by
    cases x with
    | tuple ds => cases ds with
      | nil => cases h
      | cons d ds => cases d with
        | int k =>
          refine bind_someE (show ((firstI xs).bind fun is => some (k :: is)) = some is from h) fun js h1 h => ?_
          replace h := Option.some.inj h
          subst h
          obtain ⟨a, b⟩ := firstI_get h1
          refine ⟨congrArg (· + 1) a, fun i d e => ?_⟩
          cases i with
          | zero => cases e; exact ⟨k, ds, rfl, rfl⟩
          | succ i => exact b i d e
        | _ => cases h
    | _ => cases h
theorem firsts_get {x : PyData} {is : List Int} (h : firsts x = some is) : ∃ xs, x = .list xs ∧ xs.length ≤ lenLim ∧ firstI xs = some is := by
  cases x with
  | list xs => exact ⟨xs, rfl, ifB h⟩
  | _ => cases h
section
variable {G : GCtx} {A : Around} {E : Value -> Shared -> Prop} {env : Env} {F : Addr -> Prop}
theorem first_ok {s : Shared} {e : PySem.Expr} {op : CmpOp} {o : COp} {x : Str} {v : Value} {k : Int} {r : List PyData} {b : Bool} {Q : Value -> Shared -> Prop} (h : firstOp op e = some x) (hb : behindInMarks op (.Constant (.int 0) 0 default) = false) (ho : cCmp op = some o) (hd : (x == ("__debug__" : Str)) = false) (hk : env.scope.kind = .function) (hx : Has env s.heap x v)
    (rv : RD s.heap F v (.tuple (.int k :: r))) (hc : cmpD o (.int k) (.int 0) = some b) (hu : A.units + 64 < cLine) (hQ : ∀ tk, Q (.bool b) { s with toks := tk }) : wpAny (model G.prog G.w) A (eval e env) Q E s := by
  refine cps fun Gq goq => ?_
  refine bind_subE h fun c q1 h => ?_
  refine bind_subE h fun r1 q2 h => ?_
  refine bind_subE h fun k1 q3 h => ?_
  refine bind_liftE h fun q4 h => ?_
  refine bind_subE h fun u q5 h => ?_
  refine bind_subE h fun x' q6 h => ?_
  refine bind_subE h fun k2 q7 h => ?_
  refine bind_liftE h fun q8 h => ?_
  refine ifBE h fun q9 h => ?_
  refine goq ?_
  clear goq
  clear Gq
  replace h := Option.some.inj h
  subst h
  rw [q1, q2, q5, q6, q7, q3, q4, q8, eq_of_beq q9]
  refine wpAny_Compare1 ?_ hb
  refine Subscript_ (name_has hk hx (wpAny_Constant_int ?_) hd)
  refine idx_sound (F := F) (s := { s with toks := s.toks + 1 }) (x := .tuple (.int k :: r)) (y := .int 0) (r := (.int k, 0)) rfl rv (.int 0 _) (by intros; with_unfolding_all rfl) fun u v3 => wpAny_Constant_int ?_
  exact cmpD_sound (F := F) ho hc v3.1 (.int 0 _) hu (hQ _)
end
theorem passing_true' (n : Nat) : passing (fun ζ => true) n 0 = List.range n := by
  unfold passing
  rw [List.drop_zero, List.filter_eq_self.mpr fun ζ ζ => rfl]
theorem and_l {a b : Bool} (h : (a && b) = true) : a = true := (Bool.and_eq_true_iff.mp h).1
theorem and_r {a b : Bool} (h : (a && b) = true) : b = true := (Bool.and_eq_true_iff.mp h).2
theorem loc_1 {sc : Scope} {x : Str} (h : locOk sc x = true) : sc.names.lookup x = some .local := eq_of_beq (and_l h)
theorem loc_2 {sc : Scope} {x : Str} (h : locOk sc x = true) : (x == ("__debug__" : Str)) = false := by
  have := and_r h
  simpa using this
structure BP' where
  z : ZpP
  e1 : PySem.Expr
  e2 : PySem.Expr
  ep : Pos
  sc : Scope
  gp : Pos
noncomputable def BP'.e (a : BP') : PySem.Expr := .GeneratorExp (.BoolOp .And [a.e1, a.e2] a.ep) [a.z.g] a.sc a.gp
structure AnyP (a : BP') : Prop where
  p1 : firstOp .Eq a.e1 = some a.z.x
  p2 : firstOp .NotEq a.e2 = some a.z.y
  hxy : a.z.x ≠ a.z.y
  hk : a.sc.kind = .function
  hn : ∀ z ∈ a.sc.names, z.2 ≠ .cell ∧ z.2 ≠ .free
  hx : a.sc.names.lookup a.z.x = some .local
  hy : a.sc.names.lookup a.z.y = some .local
  h0 : a.sc.names.lookup (".0" : Str) = some .local
  hco : a.sc.isCoroutine = false
  hdx : (a.z.x == ("__debug__" : Str)) = false
  hdy : (a.z.y == ("__debug__" : Str)) = false
theorem gen1' {elt elt' : PySem.Expr} {gs : List Comprehension} {a a' : Comprehension} {sc : Scope} {p : Pos} (h : elt = elt') (hg : gs = [a]) (h1 : a = a') : PySem.Expr.GeneratorExp elt gs sc p = .GeneratorExp elt' [a'] sc p := by
  subst h hg h1; rfl
theorem bool2 {e : PySem.Expr} {bo : List PySem.Expr × Pos} {ts : PySem.Expr × PySem.Expr} (h : e = .BoolOp .And bo.1 bo.2) (h1 : bo.1 = [ts.1, ts.2]) : e = .BoolOp .And [ts.1, ts.2] bo.2 := h1 ▸ h
theorem AnyP.of {as : List PySem.Expr} {ab : Str × Str} (h : anyShape as = some ab) : ∃ a : BP', as = [a.e] ∧ (a.z.a, a.z.b) = ab ∧ AnyP a := by
  refine cps fun Gq goq => ?_
  refine bind_subE h fun e q1 h => ?_
  refine bind_subE h fun g q2 h => ?_
  refine bind_subE h fun gen q3 h => ?_
  refine bind_subE h fun z q4 h => ?_
  refine bind_subE h fun bo q5 h => ?_
  refine bind_subE h fun ts q6 h => ?_
  refine ifBE h fun hc h => ?_
  refine goq ?_
  clear goq
  clear Gq
  exact ⟨⟨z, ts.1, ts.2, bo.2, g.sc, g.pos⟩, q1.trans (congrArg (fun e => [e]) (q2.trans (gen1' (bool2 q5 q6) q3 q4))), Option.some.inj h,
    eq_of_beq (and_l (and_l (and_l hc))), eq_of_beq (and_r (and_l (and_l hc))), bne_iff_ne.mp (and_r (and_l hc)), eq_of_beq (and_l (and_l (and_l (and_l (and_r hc))))), fun y hy => by
      have := List.all_eq_true.mp (and_r (and_l (and_l (and_l (and_r hc))))) y hy
      exact ⟨bne_iff_ne.mp (and_l this), bne_iff_ne.mp (and_r this)⟩, loc_1 (and_l (and_r (and_r hc))), loc_1 (and_r (and_r (and_r hc))), eq_of_beq (and_r (and_l (and_l (and_r hc)))), by simpa using and_r (and_l (and_r hc)), loc_2 (and_l (and_r (and_r hc))), loc_2 (and_r (and_r (and_r hc)))⟩
end Mine
end
section
set_option maxRecDepth 100000
namespace Mine
open PySem PyProof.Rows
theorem eqv_i (a b : Int) : PyData.eqv (.int a) (.int b) = (a == b) := by
  simp only [PyData.eqv]
theorem cmpE (a b : Int) : cmpD .eq (.int a) (.int b) = some (a == b) := congrArg some (eqv_i a b)
theorem cmpN (a b : Int) : cmpD .ne (.int a) (.int b) = some (a != b) := congrArg (fun x => some (!x)) (eqv_i a b)
theorem Sm.moved {s s' : Shared} {wr : List Addr} {R : Array GenState -> Array GenState -> Prop} (m : Moved wr R s s') (hb : AllBare s.gens -> AllBare s'.gens) : Sm s s' := by
  refine ⟨s'.heap, s'.toks, s'.gens, ?_, hb⟩
  have h1 := m.drawn
  have h2 := m.os
  refine cps fun Gq goq => ?_
  obtain ⟨a, b, d, e, f⟩ := s'
  obtain ⟨a', b', d', e', f'⟩ := s
  refine goq ?_
  clear goq
  clear Gq
  simp only at h1 h2
  subst h1 h2
  rfl
theorem bare_push {g : Array GenState} {x : GenState} (h : AllBare g) (hx : x.bare = true) : AllBare (g.push x) := fun y hy => by
  rcases Array.mem_push.mp hy with hy | rfl
  . exact h y hy
  . exact hx
theorem any_zip : ∀ (is js : List Int), (List.range (min is.length js.length)).any (fun j => anyP (is.getD j 0, js.getD j 0)) = (is.zip js).any anyP
  | [], js => by simp
  | i :: is, [] => by simp
  | i :: is, j :: js => by
    rw [List.length_cons, List.length_cons, Nat.succ_min_succ, List.range_succ_eq_map, List.any_cons, List.any_map, List.zip_cons_cons, List.any_cons, ← any_zip is js]
    rfl
theorem ex9 {α₁ α₂ α₃ α₄ α₅ α₆ α₇ α₈ α₉ : Type} {p : α₁ -> α₂ -> α₃ -> α₄ -> α₅ -> α₆ -> α₇ -> α₈ -> α₉ -> Prop} (a : α₁) (b : α₂) (c : α₃) (d : α₄) (e : α₅) (f : α₆) (g : α₇) (h : α₈) (i : α₉) (q : p a b c d e f g h i) : ∃ a b c d e f g h i, p a b c d e f g h i := ⟨a, b, c, d, e, f, g, h, i, q⟩
section
variable {c : FC} {F : Addr -> Prop} {own : Addr -> Option Nat} {γ : Env'} {s : Shared} {E : Value -> Shared -> Prop}
theorem any_ok (X : SX c) (S : SI c F own γ s.heap) (hg : c.C.gen = true) {e : PySem.Expr} {pt : PT} {b : Bool} {Q : Value -> Shared -> Prop} (h : cAny c.C e = some pt) (he : evT c.Φ γ pt = some b)
    (hQ : ∀ s', SI c F own γ s'.heap -> Tr c own s.heap own s'.heap -> Sm s s' -> Q (.bool b) s') : wpAny c.M c.A (eval e c.env) Q E s := by
  refine cps fun Gq goq => ?_
  revert h
  refine bind_subR fun cp q1 h => ?_
  revert h
  refine ifBR fun hb h => ?_
  revert h
  refine bS fun xy h1 h => ?_
  revert h
  refine bS fun pa h2 h => ?_
  revert h
  refine bS fun pb h3 h => ?_
  replace h := Option.some.inj h
  subst h
  obtain ⟨hb, _⟩ := Bool.and_eq_true_iff.mp hb
  obtain ⟨hb, hgz⟩ := Bool.and_eq_true_iff.mp hb
  obtain ⟨ap, f1, f2, hga⟩ := isBlt_of hb
  obtain ⟨B, q2, rfl, K⟩ := AnyP.of h1
  refine goq ?_
  clear goq
  clear Gq
  rw [q1, f1, f2, q2]
  clear q1 q2 f1 f2 h1 hb
  refine cps fun Gq goq => ?_
  revert he
  refine bS fun x1 e1 he => ?_
  revert he
  refine bS fun y1 e2 he => ?_
  revert he
  refine bS fun is e3 he => ?_
  revert he
  refine bS fun js e4 he => ?_
  replace he := Option.some.inj he
  subst he
  obtain ⟨xs, x2, x3, x4⟩ := firsts_get e3
  obtain ⟨ys, y2, y3, y4⟩ := firsts_get e4
  obtain ⟨il, ig⟩ := firstI_get x4
  obtain ⟨jl, jg⟩ := firstI_get y4
  clear e3 e4 x4 y4
  have hH := X.H S
  obtain ⟨htp, cc, P, hgp⟩ := X.gen hg
  obtain ⟨hcd, hBP, _, oP, eP, vsP, dP⟩ := X.gp cc P hgp
  refine goq ?_
  clear goq
  clear Gq
  refine name_call (name_blt hH hga (v := .builtin "any") (by kernel_rfl) (PySem.callWith_builtin1 ?_) (by decide))
  have h1' : cEs c.C [.Name B.z.a B.z.ap, .Name B.z.b B.z.bp] = some (.cons pa (.cons pb .nil)) := bnd' (x := cName c.C B.z.a) h2 (bnd' (x := (cName c.C B.z.b).bind fun a => some (PEs.cons a .nil)) (bnd' h3 rfl) rfl)
  have hroom : c.A.depth < recursionLimit := Nat.lt_of_le_of_lt (Nat.le_add_right _ _) hH.ok.dp
  refine wpAny_GeneratorExp_walksQTD (cl := clL c.env B.sc.names []) hH.ok.hh K.hco (closure_ok fun y hy hk => absurd hk (K.hn y hy).2) (fun y hy => (K.hn y hy).1) K.h0 K.hx K.hy K.hxy K.hk hroom ?_ (fun ζ => rfl)
  refine name_call (name_blt hH hgz (v := .type "zip") (by kernel_rfl) (PySem.callWith_type (stars_plain h1') (args_of h1' rfl (sndTwo (fun e ζ => sndE e) h1' B.z.cp hH e1 e2 fun v w s₁ k1 v1 v2 => ?_))) (by decide))
  rw [x2] at v1
  rw [y2] at v2
  refine cps fun Gq goq => ?_
  obtain ⟨l1, vs, rfl, hl1, hf1, r1⟩ := v1.list_inv
  obtain ⟨l2, ws, rfl, hl2, hf2, r2⟩ := v2.list_inv
  refine goq ?_
  clear goq
  clear Gq
  have S1 := S.keeps k1.heap
  refine call_zip_2 hl1.isList hl2.isList fun h' hz hTI hTO hi1 hi2 hsz hkp => ?_
  have b1 : l1 < s₁.heap.objs.size := let ⟨_, ho⟩ := hl1; Heap.lt_size ho
  have b2 : l2 < s₁.heap.objs.size := let ⟨_, ho⟩ := hl2; Heap.lt_size ho
  have nP : ∀ b o vs n, s₁.heap.get? b = some o -> o.data = .seq vs n -> b ≠ P := fun b o vs n e d z => X.nW S1 e d (z ▸ ⟨htp, .inr ⟨cc, hgp⟩⟩)
  have n1 : l1 ≠ P := let ⟨_, ho⟩ := hl1; nP _ _ _ _ ho rfl
  have n2 : l2 ≠ P := let ⟨_, ho⟩ := hl2; nP _ _ _ _ ho rfl
  obtain ⟨ps, tb⟩ := S1.tab cc P hgp
  have ltP : P < s₁.heap.objs.size := Heap.lt_size tb.2.2
  have ltC : cc < s₁.heap.objs.size := tb.1.lt.1
  generalize hN : s₁.heap.objs.size = N at *
  have D := zip_apart b1 b2
  have kb1 := SI.kb X S1
  refine wpAny_pyIter_zip hz ⟨X.g.nolimit.keeps (kb1.trans hkp), ?_⟩
  refine gcode (env := c.env) (cc := cc) (P := P) (ps := ps) hcd (tab_at tb (hkp cc) (hkp P)) fun code h₃ tk₃ ps' hx₃ hge hcode₃ htab₃ => ?_
  have k3 : ∀ b o, b ≠ P -> s₁.heap.get? b = some o -> h₃.get? b = some o := fun b o n e => hx₃ b o n (hkp b o e)
  have kb3 : KeepsH c.G.hB h₃ := fun b o e => k3 b o (fun z => absN e (z ▸ hBP)) (kb1 b o e)
  have sz3 : N + 5 ≤ h₃.objs.size := hsz ▸ hge
  refine cps fun Gq goq => ?_
  obtain ⟨bm, ob, m1, m2, m3, m4, m5, m6⟩ := X.g.bm
  refine goq ?_
  clear goq
  clear Gq
  refine wpAny_builtinsFor (X.g.g.keeps kb3) m1 m2 (kb3 _ _ m3) m4 m5 m6 ?_
  have fpP : ∀ b ∈ [N + 4, N + 2, N + 3, N, N + 1, l1, l2], b ≠ P ∧ b < N + 5 := fun b hb => ⟨zne ltP n1 n2 b hb, zlow b1 b2 b hb⟩
  have wrN : ∀ b ∈ [N + 4, N + 3, N, N + 1], N ≤ b := zwr N
  have st3 := (WalksT.zip2 (prog := c.G.prog) (w := c.G.w) (A := c.A) hH.ok.hh (N + 4) (N + 2) (N + 3) N (N + 1) l1 l2 D vs ws).frame 0 h' h₃ ⟨hz, hTI, ⟨_, _, hTO⟩, hi1, hi2, hl1.isList.at (fun o e => hkp _ o e), hl2.isList.at (fun o e => hkp _ o e)⟩ fun b hb o e => hx₃ b o (fpP b hb).1 e
  refine ex9 (N + 4) [N + 4, N + 2, N + 3, N, N + 1, l1, l2] [N + 4, N + 3, N, N + 1] (min vs.size ws.size) _ _ _ (fun ζ => true) (fun i y => y = .bool (anyP (is.getD i 0, js.getD i 0))) ⟨rfl, fun A' hA' => (WalksT.zip2 hA' (N + 4) (N + 2) (N + 3) N (N + 1) l1 l2 D vs ws).toU, fun i vals hP => ?_, st3,
    fun b hb => Nat.lt_of_lt_of_le (fpP b hb).2 sz3, X.g.nolimit.keeps kb3, fun hm => ?_, fun href hhref => ⟨?_, ?_⟩, fun a h₅ tk gs hgb hag hsz₅ hk₅ W hat => ?_⟩
  . obtain ⟨va, vb, _, _, rfl⟩ := hP
    exact ⟨va, vb, rfl⟩
  . obtain ⟨mc, ⟨o, _, _, z, _⟩, _⟩ := X.g.nolimit
    exact absurd (Heap.lt_size (kb1 _ _ z)) (by rw [hN]; exact Nat.not_lt.mpr (wrN _ hm))
  . intro A' E' i va vb s₂ m₂ _ _ _ _ _ _ _ _
    exact wpAny_pure ⟨rfl, s₂.heap, s₂.toks, rfl, fun ζ ζ e => e⟩
  . intro A' E' i va vb s₂ m₂ _ _ hu hP _ hns hma hmb hkp2
    refine cps fun Gq goq => ?_
    obtain ⟨va', vb', g1, g2, g3⟩ := hP
    have ga : va = va' := congrArg (fun a : Array Value => a.toList.headD .none) g3
    have gb : vb = vb' := congrArg (fun a : Array Value => (a.toList.drop 1).headD .none) g3
    subst ga gb
    obtain ⟨d1, z1, w1⟩ := r1.get' (i := i) (v := va) (by simpa using g1)
    obtain ⟨d2, z2, w2⟩ := r2.get' (i := i) (v := vb) (by simpa using g2)
    obtain ⟨n1', t1, rfl, u1⟩ := ig i d1 z1
    obtain ⟨n2', t2, rfl, u2⟩ := jg i d2 z2
    refine goq ?_
    clear goq
    clear Gq
    have mv : ∀ b o us n, s₁.heap.get? b = some o -> o.data = .seq us n -> s₂.heap.get? b = some o := fun b o us n e d => by
      have hlt := Heap.lt_size e
      rw [hN] at hlt
      exact hkp2 b (List.mem_range.mpr (Nat.lt_of_lt_of_le hlt (Nat.le_trans (Nat.le_add_right _ _) sz3))) (fun hw => absurd hlt (Nat.not_lt.mpr (wrN b hw))) o (hhref b o (k3 b o (nP b o us n e d) e))
    have c0 : ∀ z, (clL c.env B.sc.names []).lookup z = none := fun z => cl_not fun hz => (K.hn _ (mem_freeNames.mp hz)).2 rfl
    have hu' : A'.units + 64 < cLine := by have := hH.ok.un; omega
    have hasx : Has (genEnv B.sc (clL c.env B.sc.names []) h₃.objs.size code builtinsNs c.env) s₂.heap B.z.x va := .inl ⟨K.hx, c0 B.z.x, m₂, hns, hma⟩
    have hasy : Has (genEnv B.sc (clL c.env B.sc.names []) h₃.objs.size code builtinsNs c.env) s₂.heap B.z.y vb := .inl ⟨K.hy, c0 B.z.y, m₂, hns, hmb⟩
    have rx : RD s₂.heap (fun ζ => False) va (.tuple (.int n1' :: t1)) := w1.moveF (fun ζ z => z.elim) fun b o us n e d ζ => mv b o us n e d
    have ry : RD s₂.heap (fun ζ => False) vb (.tuple (.int n2' :: t2)) := w2.moveF (fun ζ z => z.elim) fun b o us n e d ζ => mv b o us n e d
    have ev : anyP (is.getD i 0, js.getD i 0) = (n1' == 0 && n2' != 0) := by
      rw [List.getD_eq_getElem?_getD, List.getD_eq_getElem?_getD, u1, u2]; rfl
    refine wpAny_And2 (first_ok (G := c.G) K.p1 rfl rfl K.hdx K.hk hasx rx (cmpE n1' 0) hu' fun tk₂ => wpAny_truthy_bool ?_)
    cases hq : n1' == 0 with
    | true =>
      refine first_ok (G := c.G) K.p2 rfl rfl K.hdy K.hk (hasy.keeps fun ζ ζ e => e) (s := { s₂ with toks := tk₂ }) ry (cmpN n2' 0) hu' fun tk₃ => ⟨?_, s₂.heap, tk₃, rfl, fun ζ ζ e => e⟩
      rw [ev, hq]; rfl
    | false =>
      refine ⟨?_, s₂.heap, tk₂, rfl, fun ζ ζ e => e⟩
      rw [ev, hq]; rfl
  . have W1 := W.in4_1
    refine call_any_walkS (A := c.A) (W1.self 0 _ _ _ hat ⟨a, _, _, _, _, _, _, (fun j => anyP (is.getD j 0, js.getD j 0)), rfl, W1, hat, fun i v s₂ Q' E' hP hq => ?_, fun s' hm => ?_⟩)
    . obtain ⟨i', g1, rfl⟩ := hP
      rw [passing_true'] at g1
      have hlt := (List.getElem?_eq_some_iff.mp g1).1
      rw [List.length_range] at hlt
      rw [List.getElem?_range hlt] at g1
      replace g1 := Option.some.inj g1
      subst g1
      exact wpAny_truthy_bool hq
    . have en : (passing (fun ζ => true) (min vs.size ws.size) 0).length = min is.length js.length := by
        rw [passing_true', List.length_range, il, jl, ← r1.length, ← r2.length, Array.length_toList, Array.length_toList]
      rw [en, any_zip]
      have kf : ∀ b o, b ≠ P -> s.heap.get? b = some o -> s'.heap.get? b = some o := fun b o n e => by
        have e1 := k1.heap b o e
        have hlt := Heap.lt_size e1
        rw [hN] at hlt
        refine hm.heap b o (fun hw => ?_) (hk₅ b o (k3 b o n e1))
        rcases List.mem_cons.mp hw with z | hw
        . have z : b = h₃.objs.size := z
          exact absurd hlt (Nat.not_lt.mpr (z ▸ Nat.le_trans (Nat.le_add_right _ _) sz3))
        . exact absurd hlt (Nat.not_lt.mpr (wrN b hw))
      have kt : ∀ b, b < N -> ∀ o, h₃.get? b = some o -> s'.heap.get? b = some o := fun b hlt o e => by
        refine hm.heap b o (fun hw => ?_) (hk₅ b o e)
        rcases List.mem_cons.mp hw with z | hw
        . have z : b = h₃.objs.size := z
          exact absurd hlt (Nat.not_lt.mpr (z ▸ Nat.le_trans (Nat.le_add_right _ _) sz3))
        . exact absurd hlt (Nat.not_lt.mpr (wrN b hw))
      obtain ⟨S', t'⟩ := S.gen X hgp htp kf ⟨ps', tab_at ⟨hcode₃, htab₃⟩ (kt cc ltC) (kt P ltP)⟩
      refine hQ s' S' t' ?_
      refine cps fun Gq goq => ?_
      obtain ⟨h₁, t₁, g₁, rfl, hb₁⟩ := k1.sm
      refine goq ?_
      clear goq
      clear Gq
      exact Sm.trans ⟨h₅, tk, g₁.push gs, rfl, fun q => bare_push (hb₁ q) hgb⟩ (Sm.moved hm fun q => hm.gens.bare q)
end
end Mine
end
section
set_option maxRecDepth 100000
namespace Mine
open PySem PyProof.Rows
structure AP where
  seen : Str
  row : Str
  w : Str
  n : Str
  ps : Pos
  pr : Pos
  pr' : Pos
  pw : Pos
  pw' : Pos
  pn : Pos
  np : Pos
  tp : Pos
  ip : Pos
  cp : Pos
  ep : Pos
  sc : Scope
  gp : Pos
noncomputable def AP.elt (a : AP) : PySem.Expr := .Compare (.Call (.Name ("type" : Str) a.tp) [.Name a.n a.np] [] a.cp) [.Is] [.Name ("int" : Str) a.ip] a.ep
noncomputable def AP.e (a : AP) : PySem.Expr := .GeneratorExp a.elt [⟨.Name a.row a.pr, .Name a.seen a.ps, [], 0⟩, ⟨.Name a.w a.pw, .Name a.row a.pr', [], 0⟩, ⟨.Name a.n a.pn, .Name a.w a.pw', [], 0⟩] a.sc a.gp
theorem turn2 (a : AP) (it acc : Value) (env : Env) : compTurn a.e 2 it acc env = (do
    standAt a.pw'
    match ← pyNext it with
    | none => pure (.done .next)
    | some v =>
      assign (.Name a.n a.pn) env v
      (do let v ← eval a.elt env; standAt a.ep; let _ ← yieldOut env v)
      again (.compLoop a.e 2 it acc env)) := by rfl
theorem turn1 (a : AP) (it acc : Value) (env : Env) : compTurn a.e 1 it acc env = (do
    standAt a.pr'
    match ← pyNext it with
    | none => pure (.done .next)
    | some v =>
      assign (.Name a.w a.pw) env v
      let y ← eval (.Name a.w a.pw') env
      standAt a.pw'
      let it' ← holding [y] (pyIter y)
      let _ ← runOwn (.compStart a.e 2 it' acc env) env
      again (.compLoop a.e 1 it acc env)) := by rfl
theorem turn0 (a : AP) (it acc : Value) (env : Env) : compTurn a.e 0 it acc env = (do
    standAt a.ps
    match ← pyNext it with
    | none => pure (.done .next)
    | some v =>
      assign (.Name a.row a.pr) env v
      let y ← eval (.Name a.row a.pr') env
      standAt a.pr'
      let it' ← holding [y] (pyIter y)
      let _ ← runOwn (.compStart a.e 1 it' acc env) env
      again (.compLoop a.e 0 it acc env)) := by rfl
noncomputable def GX (S : Nat) (I C : Addr) (s₀ s : Shared) : Prop := ∃ h' tk, s = { s₀ with heap := h', toks := tk } ∧ ∀ b o, b < S -> b ≠ I -> b ≠ C -> s₀.heap.get? b = some o -> h'.get? b = some o
theorem GX.refl (S : Nat) (I C : Addr) (s : Shared) : GX S I C s s := ⟨s.heap, s.toks, rfl, fun ζ ζ ζ ζ ζ e => e⟩
theorem GX.step {S : Nat} {I C : Addr} {s₀ s : Shared} (x : GX S I C s₀ s) {h' : Heap} {tk : Nat} (hk : ∀ b o, b < S -> b ≠ I -> b ≠ C -> s.heap.get? b = some o -> h'.get? b = some o) : GX S I C s₀ { s with heap := h', toks := tk } := by
  obtain ⟨h₁, tk₁, rfl, hk₁⟩ := x
  exact ⟨h', tk, rfl, fun b o h1 h2 h3 e => hk b o h1 h2 h3 (hk₁ b o h1 h2 h3 e)⟩
noncomputable def YP (S : Nat) (I C : Addr) : Protocol := fun ζ s₀ v s kap => v = .bool true ∧ GX S I C s₀ s ∧ ∀ s'' : Shared, KeepsH s.heap s''.heap -> kap (.send .none) s''
noncomputable def RP (S : Nat) (I C : Addr) : GenEnd := fun n s₀ r s₁ => r = .ok .next ∧ (n = 0 ∧ GX S I C s₀ s₁)
structure FOk (fs : List Frame) : Prop where
  sp : splitAtGen fs = none
  gd : fs.any Frame.guarded = false
  mks : (marksOver fs (none, none)).1 = none
structure GS where
  G : GCtx
  a : AP
  A : Around
  E : Env
  S : Nat
  I : Addr
  ag : Addr
noncomputable abbrev GS.M (g : GS) : Model := model g.G.prog g.G.w
noncomputable abbrev GS.C (g : GS) : Addr := g.E.locals
noncomputable abbrev GS.Sg (g : GS) (n : Nat) (s₀ : Shared) (c : Code) (t : Sem Fin) (fs : List Frame) (s : Shared) : Prop := Seg g.M g.A (RP g.S g.I g.C) (YP g.S g.I g.C) n s₀ c t fs s
structure GSok (g : GS) : Prop where
  hh : g.A.handled = none
  gk : GOk g.G
  kind : g.E.scope.kind = .function
  co : g.E.scope.isCoroutine = false
  row : g.E.kindOf g.a.row = some .local
  w : g.E.kindOf g.a.w = some .local
  n : g.E.kindOf g.a.n = some .local
  drow : (g.a.row == ("__debug__" : Str)) = false
  dw : (g.a.w == ("__debug__" : Str)) = false
  dn : (g.a.n == ("__debug__" : Str)) = false
  ty : g.E.kindOf ("type" : Str) = some .globalImplicit
  int : g.E.kindOf ("int" : Str) = some .globalImplicit
  gl : g.E.globals = mainGlobals
  bl : g.E.builtins = builtinsNs
  agS : g.ag + 1 = g.S
  agC : g.ag ≠ g.C
  agI : g.ag ≠ g.I
  old : ∀ b o, g.G.hB.get? b = some o -> b < g.S ∧ b ≠ g.I ∧ b ≠ g.C
structure Gd (g : GS) (h : Heap) : Prop where
  kb : KeepsH g.G.hB h
  ns : ∃ m, h.Ns g.C m
  ag : ∃ o, h.get? g.ag = some o
theorem Gd.keeps {g : GS} {h h' : Heap} (x : Gd g h) (k : KeepsH h h') : Gd g h' := ⟨x.kb.trans k, (let ⟨m, q⟩ := x.ns; ⟨m, q.keeps k⟩), let ⟨o, e⟩ := x.ag; ⟨o, k _ o e⟩⟩
section
variable {g : GS}
theorem GSok.lt (K : GSok g) : g.ag < g.S := K.agS ▸ Nat.lt_succ_self _
theorem Gd.off {h h' : Heap} {I : Addr} (x : Gd g h) (k : ∀ b o, b ≠ I -> h.get? b = some o -> h'.get? b = some o) (hB : ∀ b o, g.G.hB.get? b = some o -> b ≠ I) (hC : g.C ≠ I) (ha : g.ag ≠ I) : Gd g h' :=
  ⟨fun b o e => k b o (hB b o e) (x.kb b o e), (let ⟨m, q⟩ := x.ns; ⟨m, q.at' fun o e => k _ o hC e⟩), let ⟨o, e⟩ := x.ag; ⟨o, k _ o ha e⟩⟩
theorem GSok.hp (K : GSok g) : (g.E.scope.kind == .class || (g.E.scope.kind == .module && g.E.locals != g.E.globals)) = false := by rw [K.kind]; rfl
theorem GSok.glob (K : GSok g) {A : Around} {s : Shared} {x : Str} {p : Pos} {v : Value} {Q E : Value -> Shared -> Prop} (hk : g.E.kindOf x = some .globalImplicit) (hb : bltin.lookup x = some v) (kb : KeepsH g.G.hB s.heap) (h : Q v s) : wpAny g.M A (eval (.Name x p) g.E) Q E s :=
  Calls.Name_function_global K.kind hk (Calls.loadGlobal_builtin (by rw [K.gl]; exact K.gk.g.keeps kb) (K.gk.blt x v hb).1 (by rw [K.bl]; exact K.gk.b.keeps kb) (K.gk.blt x v hb).2 h) (bltin_debug hb)
theorem GSok.elt (K : GSok g) {A : Around} {s : Shared} {m : Str -> Option Value} {i : Int} {t : Tok} {Q E : Value -> Shared -> Prop} (kb : KeepsH g.G.hB s.heap) (hn : s.heap.Ns g.C m) (hm : m g.a.n = some (.int i t)) (h : Q (.bool true) s) : wpAny g.M A (eval g.a.elt g.E) Q E s := by
  refine wpAny_Compare1 (name_call (K.glob K.ty (v := .type "type") (by kernel_rfl) kb (PySem.callWith_type1 ?_))) rfl
  refine wpAny_Name (wpAny_loadName_local K.kind K.n hn hm ?_) K.dn
  refine call_type_of (Tx := "int") rfl (by decide +kernel) ?_
  exact K.glob K.int (v := .type "int") (by kernel_rfl) kb (wpAny_is_self (by rfl) h)
theorem GSok.store (K : GSok g) {A : Around} {s : Shared} {x : Str} {p : Pos} {v : Value} {Q : Unit -> Shared -> Prop} {E : Value -> Shared -> Prop} (hx : g.E.kindOf x = some .local) (d : Gd g s.heap)
    (h : ∀ h' tk m, h'.Ns g.C m -> m x = some v -> Heap.SameBut g.C s.heap h' -> Gd g h' -> Q () { s with heap := h', toks := tk }) : wpAny g.M A (assign (.Name x p) g.E v) Q E s := by
  obtain ⟨m, hm⟩ := d.ns
  refine wpAny_assign_Name (wpAny_storeName_local hx hm (fun h' hn hs => h h' _ _ hn (by simp) hs ⟨fun b o e => hs.extBut b o (K.old b o e).2.2 (d.kb b o e), ⟨_, hn⟩, let ⟨o, e⟩ := d.ag; ⟨o, hs.extBut _ o K.agC e⟩⟩) K.hp)
theorem seg2 (K : GSok g) {T I : Addr} {vs : Array Value} {fs : List Frame} {m : Nat} {hs : Heap} (hI : g.S ≤ I) (hIC : I ≠ g.C) (hT : T ≠ I) (hTC : T ≠ g.C) (hf : FOk fs) (hints : ∀ (i : Nat) (v : Value), vs[i]? = some v -> ∃ n t, v = .int n t)
    (hend : ∀ c s₀ s, Gd g s.heap -> (∀ b o, b ≠ g.C -> b ≠ I -> hs.get? b = some o -> s.heap.get? b = some o) -> GX g.S g.I g.C s₀ s -> g.Sg m s₀ c (leafOf (.ok .next)) fs s) :
    ∀ k i s₀ s, vs.size - i = k -> i ≤ vs.size -> (s.heap.IsTupleIter I T i ∧ s.heap.IsTuple T vs) -> Gd g s.heap -> (∀ b o, b ≠ g.C -> b ≠ I -> hs.get? b = some o -> s.heap.get? b = some o) -> GX g.S g.I g.C s₀ s ->
      g.Sg (k + m) s₀ (.compLoop g.a.e 2 (.ref I) .none g.E) (g.M.den (.compLoop g.a.e 2 (.ref I) .none g.E)) fs s := by
  have W : ∀ A' : Around, A'.handled = none -> Walks g.G.prog g.G.w A' I [I, T] [I] vs.size (fun i v => vs[i]? = some v) (fun i h => h.IsTupleIter I T i ∧ h.IsTuple T vs) := fun A' hA' => Walks.tuple hA' I T hT vs
  have hh' : (g.A.over (.compLoop g.a.e 2 (.ref I) .none g.E) fs).handled = none := by show (marksOver fs (g.A.handled, g.A.handled)).1 = none; rw [K.hh]; exact hf.mks
  have hBI : ∀ b o, g.G.hB.get? b = some o -> b ≠ I := fun b o e z => absurd (K.old b o e).1 (Nat.not_lt.mpr (z ▸ hI))
  have haI : g.ag ≠ I := fun z => absurd K.lt (Nat.not_lt.mpr (z ▸ hI))
  intro k
  induction k with
  | zero =>
    intro i s₀ s hk hi hst hd hkp hx
    have hin : i = vs.size := Nat.le_antisymm hi (Nat.le_of_sub_eq_zero hk)
    subst hin
    show Seg _ _ _ _ _ s₀ _ ((compTurn g.a.e 2 (.ref I) .none g.E).onRaise _) fs s
    rw [turn2, Sem.onRaise_eq_wrap, Nat.zero_add]
    refine seg_bind_wrap (wpAny_standAt ?_)
    refine seg_bind_wrap ((W _ hh').done s _ _ hst fun h' tk hk' => ?_)
    have k' : ∀ b o, b ≠ I -> s.heap.get? b = some o -> h'.get? b = some o := fun b o n e => hk' b o (fun z => n (List.mem_singleton.mp z)) e
    exact hend _ s₀ _ (hd.off k' hBI (Ne.symm hIC) haI) (fun b o n1 n2 e => k' b o n2 (hkp b o n1 n2 e)) (hx.step fun b o h1 h2 ζ e => k' b o (fun z => absurd h1 (Nat.not_lt.mpr (z ▸ hI))) e)
  | succ k ih =>
    intro i s₀ s hk hi hst hd hkp hx
    have hlt : i < vs.size := by omega
    show Seg _ _ _ _ _ s₀ _ ((compTurn g.a.e 2 (.ref I) .none g.E).onRaise _) fs s
    rw [turn2, Sem.onRaise_eq_wrap, Nat.succ_add]
    refine seg_bind_wrap (wpAny_standAt ?_)
    refine seg_bind_wrap ((W _ hh').item i s _ _ hlt hst fun v h₁ tk₁ hP hst₁ hk₁ => ?_)
    obtain ⟨n, t, rfl⟩ := hints i v hP
    have k1 : ∀ b o, b ≠ I -> s.heap.get? b = some o -> h₁.get? b = some o := fun b o n e => hk₁ b o (fun z => n (List.mem_singleton.mp z)) e
    have d1 : Gd g h₁ := hd.off k1 hBI (Ne.symm hIC) haI
    refine seg_bind_wrap (K.store K.n (s := { s with heap := h₁, toks := tk₁ }) d1 fun h₂ tk₂ m₂ hn₂ hm₂ hs₂ d2 => ?_)
    have hy : ∀ v, yieldOut g.E v = yieldValue v := fun v => by simp only [yieldOut, K.co, Bool.false_eq_true, if_false]
    simp only [hy]
    rw [Sem.bind_eq_wrap', Sem.bind_eq_wrap', Sem.wrap_wrap, Sem.wrap_wrap]
    refine seg_wrap (K.elt (s := { s with heap := h₂, toks := tk₂ }) d2.kb hn₂ hm₂ ?_)
    have k2 : ∀ b o, b ≠ g.C -> b ≠ I -> s.heap.get? b = some o -> h₂.get? b = some o := fun b o n1 n2 e => hs₂.extBut b o n1 (k1 b o n2 e)
    have hx2 : GX g.S g.I g.C s₀ { s with heap := h₂, toks := tk₂ } := hx.step fun b o h1 ζ h3 e => k2 b o h3 (fun z => absurd h1 (Nat.not_lt.mpr (z ▸ hI))) e
    have hst2 : h₂.IsTupleIter I T (i + 1) ∧ h₂.IsTuple T vs := (W _ hh').frame _ _ _ hst₁ fun b hb o e => hs₂.extBut b o (fun z => by
      rcases List.mem_cons.mp hb with q | q
      . exact hIC (q ▸ z)
      . exact hTC ((List.mem_singleton.mp q) ▸ z)) e
    refine seg_at (seg_yield hf.sp rfl hf.gd ⟨rfl, hx2, fun s'' hal => ?_⟩)
    refine seg_again rfl (ih (i + 1) s'' s'' (by omega) hlt ((W _ hh').frame _ _ _ hst2 fun b ζ o e => hal b o e) (d2.keeps hal) (fun b o n1 n2 e => hal b o (k2 b o n1 n2 (hkp b o n1 n2 e))) (GX.refl _ _ _ _))
theorem FOk.cons {fs : List Frame} (h : FOk fs) (k : Result -> Sem Fin) (l : List Value) (c : Code) (p : Pos) : FOk (.ret k none false l c p [] :: fs) :=
  ⟨by show (splitAtGen fs).map _ = none; rw [h.sp]; rfl, by show (false || fs.any Frame.guarded) = false; rw [h.gd]; rfl, h.mks⟩
theorem FOk.nil : FOk [] := ⟨rfl, rfl, rfl⟩
noncomputable def sumF (cnt : Nat -> Nat) : Nat -> Nat -> Nat
  | _, 0 => 0
  | i, k + 1 => cnt i + sumF cnt (i + 1) k
theorem segStart (d : Nat) (hd : d = 0 ∨ d = 1 ∨ d = 2) {I : Addr} {fs : List Frame} {n : Nat} {s₀ s : Shared} (hself : ∀ (A' : Around) (Q : Value -> Shared -> Prop) (E' : Value -> Shared -> Prop), Q (.ref I) s -> wpAny g.M A' (pyIter (.ref I)) Q E' s)
    (loop : g.Sg n s₀ (.compLoop g.a.e d (.ref I) .none g.E) (g.M.den (.compLoop g.a.e d (.ref I) .none g.E)) fs s) : g.Sg n s₀ (.compStart g.a.e d (.ref I) .none g.E) (g.M.den (.compStart g.a.e d (.ref I) .none g.E)) fs s := by
  have go : ∀ H : Value -> Sem Unit, g.Sg n s₀ (.compStart g.a.e d (.ref I) .none g.E) ((compStart g.a.e d (.ref I) .none g.E).onRaise H) fs s := fun H => by
    rcases hd with rfl | rfl | rfl <;>
    . unfold compStart
      rw [Sem.onRaise_eq_wrap]
      show Seg _ _ _ _ _ s₀ _ ((ask >>= _).wrap _ _ _ _) fs s
      refine seg_bind_wrap (wpAny_askSetting ?_)
      split
      . exact seg_again rfl loop
      . refine seg_bind_wrap (wpAny_rule ?_)
        show Seg _ _ _ _ _ s₀ _ ((standAt _ >>= _).wrap _ _ _ _) fs s
        exact seg_bind_wrap (wpAny_standAt (seg_bind_wrap (hself _ _ _ (seg_again rfl loop))))
  rcases hd with rfl | rfl | rfl
  . exact go _
  . exact go _
  . exact go _
theorem segN (K : GSok g) {d : Nat} {x : Str} {px px' p0 : Pos} (H : Value -> Sem Unit)
    (hturn : ∀ it : Value, g.M.den (.compLoop g.a.e d it .none g.E) = (do
      standAt p0
      match ← pyNext it with
      | none => pure (.done .next)
      | some v =>
        assign (.Name x px) g.E v
        let y ← eval (.Name x px') g.E
        standAt px'
        let it' ← holding [y] (pyIter y)
        let _ ← runOwn (.compStart g.a.e (d + 1) it' .none g.E) g.E
        again (.compLoop g.a.e d it .none g.E) : Sem Fin).onRaise H)
    (hx : g.E.kindOf x = some .local) (hdx : (x == ("__debug__" : Str)) = false) {l I : Addr} {vs : Array Value} {fs : List Frame} {m : Nat} {hs : Heap} {cnt : Nat -> Nat} (hI : ∀ b, b < g.S -> b ≠ g.I -> b ≠ I) (hIC : I ≠ g.C) (hl : l ≠ I) (hlC : l ≠ g.C) (hf : FOk fs)
    (hin : ∀ (i : Nat) (v : Value), vs[i]? = some v -> ∀ (A' : Around) (s₀ s : Shared) (fs' : Pos -> List Frame) (m' : Nat) (E' : Value -> Shared -> Prop), A'.handled = none -> (∀ p, FOk (fs' p)) -> Gd g s.heap -> (∀ b o, b ≠ g.C -> b ≠ I -> hs.get? b = some o -> s.heap.get? b = some o) -> GX g.S g.I g.C s₀ s ->
      (∀ p c s₀' s', Gd g s'.heap -> (∀ b o, b ≠ g.C -> s.heap.get? b = some o -> s'.heap.get? b = some o) -> GX g.S g.I g.C s₀' s' -> g.Sg m' s₀' c (leafOf (.ok .next)) (fs' p) s') ->
      wpAny g.M A' (pyIter v) (fun it s' => ∀ p, g.Sg (cnt i + m') s₀ (.compStart g.a.e (d + 1) it .none g.E) (g.M.den (.compStart g.a.e (d + 1) it .none g.E)) (fs' p) s') E' s)
    (hend : ∀ c s₀ s, Gd g s.heap -> (∀ b o, b ≠ g.C -> b ≠ I -> hs.get? b = some o -> s.heap.get? b = some o) -> GX g.S g.I g.C s₀ s -> g.Sg m s₀ c (leafOf (.ok .next)) fs s) :
    ∀ k i s₀ s, vs.size - i = k -> i ≤ vs.size -> (s.heap.IsListIter I l i ∧ s.heap.IsList l vs) -> Gd g s.heap -> (∀ b o, b ≠ g.C -> b ≠ I -> hs.get? b = some o -> s.heap.get? b = some o) -> GX g.S g.I g.C s₀ s ->
      g.Sg (sumF cnt i k + m) s₀ (.compLoop g.a.e d (.ref I) .none g.E) (g.M.den (.compLoop g.a.e d (.ref I) .none g.E)) fs s := by
  have W : ∀ A' : Around, A'.handled = none -> Walks g.G.prog g.G.w A' I [I, l] [I] vs.size (fun i v => vs[i]? = some v) (fun i h => h.IsListIter I l i ∧ h.IsList l vs) := fun A' hA' => Walks.list hA' I l hl vs
  have hh' : (g.A.over (.compLoop g.a.e d (.ref I) .none g.E) fs).handled = none := by show (marksOver fs (g.A.handled, g.A.handled)).1 = none; rw [K.hh]; exact hf.mks
  have hBI : ∀ b o, g.G.hB.get? b = some o -> b ≠ I := fun b o e => hI b (K.old b o e).1 (K.old b o e).2.1
  have haI : g.ag ≠ I := hI _ K.lt K.agI
  intro k
  induction k with
  | zero =>
    intro i s₀ s hk hi hst hd hkp hx'
    have hin' : i = vs.size := Nat.le_antisymm hi (Nat.le_of_sub_eq_zero hk)
    subst hin'
    rw [hturn, Sem.onRaise_eq_wrap]
    show g.Sg (0 + m) s₀ _ _ fs s
    rw [Nat.zero_add]
    refine seg_bind_wrap (wpAny_standAt ?_)
    refine seg_bind_wrap ((W _ hh').done s _ _ hst fun h' tk hk' => ?_)
    have k' : ∀ b o, b ≠ I -> s.heap.get? b = some o -> h'.get? b = some o := fun b o n e => hk' b o (fun z => n (List.mem_singleton.mp z)) e
    exact hend _ s₀ _ (hd.off k' hBI (Ne.symm hIC) haI) (fun b o n1 n2 e => k' b o n2 (hkp b o n1 n2 e)) (hx'.step fun b o h1 h2 ζ e => k' b o (hI b h1 h2) e)
  | succ k ih =>
    intro i s₀ s hk hi hst hd hkp hx'
    have hlt : i < vs.size := by omega
    rw [hturn, Sem.onRaise_eq_wrap]
    show g.Sg (cnt i + sumF cnt (i + 1) k + m) s₀ _ _ fs s
    rw [Nat.add_assoc]
    refine seg_bind_wrap (wpAny_standAt ?_)
    refine seg_bind_wrap ((W _ hh').item i s _ _ hlt hst fun v h₁ tk₁ hP hst₁ hk₁ => ?_)
    have k1 : ∀ b o, b ≠ I -> s.heap.get? b = some o -> h₁.get? b = some o := fun b o n e => hk₁ b o (fun z => n (List.mem_singleton.mp z)) e
    have d1 : Gd g h₁ := hd.off k1 hBI (Ne.symm hIC) haI
    refine seg_bind_wrap (K.store hx (s := { s with heap := h₁, toks := tk₁ }) d1 fun h₂ tk₂ m₂ hn₂ hm₂ hs₂ d2 => ?_)
    refine seg_bind_wrap (wpAny_Name (wpAny_loadName_local K.kind hx hn₂ hm₂ ?_) hdx)
    refine seg_bind_wrap (wpAny_standAt ?_)
    have k2 : ∀ b o, b ≠ g.C -> b ≠ I -> s.heap.get? b = some o -> h₂.get? b = some o := fun b o n1 n2 e => hs₂.extBut b o n1 (k1 b o n2 e)
    have hx2 : GX g.S g.I g.C s₀ { s with heap := h₂, toks := tk₂ } := hx'.step fun b o h1 h2 h3 e => k2 b o h3 (hI b h1 h2) e
    have hst2 : h₂.IsListIter I l (i + 1) ∧ h₂.IsList l vs := (W _ hh').frame _ _ _ hst₁ fun b hb o e => hs₂.extBut b o (fun z => by
      rcases List.mem_cons.mp hb with q | q
      . exact hIC (q ▸ z)
      . exact hlC ((List.mem_singleton.mp q) ▸ z)) e
    refine seg_bind_wrap (wpAny_holding (wpAny_mono (hin i v hP _ s₀ { s with heap := h₂, toks := tk₂ } (fun p => .ret _ none false [] (.compLoop g.a.e d (.ref I) .none g.E) p [] :: fs) (sumF cnt (i + 1) k + m) (fun ζ ζ => False) hh' (fun p => hf.cons _ _ _ _) d2 (fun b o n1 n2 e => k2 b o n1 n2 (hkp b o n1 n2 e)) hx2 fun p c s₀' s' d' kp' x' => seg_leaf (.ok .next) ?_) (fun it s' hseg => seg_call fun p => hseg p) fun ζ ζ z => z.elim))
    exact seg_again rfl (ih (i + 1) s₀' s' (by omega) hlt ((W _ hh').frame _ _ _ hst2 fun b hb o e => kp' b o (fun z => by
      rcases List.mem_cons.mp hb with q | q
      . exact hIC (q ▸ z)
      . exact hlC ((List.mem_singleton.mp q) ▸ z)) e) d' (fun b o n1 n2 e => kp' b o n1 (k2 b o n1 n2 (hkp b o n1 n2 e))) x')
end
end Mine
end
section
set_option maxRecDepth 100000
namespace Mine
open PySem PyProof.Rows
noncomputable def WOk (h : Heap) (v : Value) (n : Nat) : Prop := ∃ T ws, v = .ref T ∧ h.IsTuple T ws ∧ ws.size = n ∧ ∀ (i : Nat) (u : Value), ws[i]? = some u -> ∃ k t, u = .int k t
noncomputable def ROk (h : Heap) (v : Value) (n : Nat) : Prop := ∃ l vs cnt, v = .ref l ∧ h.IsList l vs ∧ sumF cnt 0 vs.size = n ∧ ∀ (i : Nat) (u : Value), vs[i]? = some u -> WOk h u (cnt i)
section
variable {h h' : Heap}
theorem WOk.at {v : Value} {n : Nat} (x : WOk h v n) (k : ∀ b o vs n, h.get? b = some o -> o.data = .seq vs n -> h'.get? b = some o) : WOk h' v n :=
  let ⟨T, ws, e, ⟨o, q1, q2, m, q3⟩, r⟩ := x; ⟨T, ws, e, ⟨o, k T o _ _ q1 q3, q2, m, q3⟩, r⟩
theorem ROk.at {v : Value} {n : Nat} (x : ROk h v n) (k : ∀ b o vs n, h.get? b = some o -> o.data = .seq vs n -> h'.get? b = some o) : ROk h' v n :=
  let ⟨l, vs, cnt, e, ⟨o, q1, q2, m, q3⟩, r1, r2⟩ := x; ⟨l, vs, cnt, e, ⟨o, k l o _ _ q1 q3, q2, m, q3⟩, r1, fun i u q => (r2 i u q).at k⟩
end
section
variable {g : GS}
theorem Gd.lt {h : Heap} (d : Gd g h) : g.C < h.objs.size := let ⟨_, o, _, _, e, _⟩ := d.ns; Heap.lt_size e
theorem GSok.sz (K : GSok g) {h : Heap} (d : Gd g h) : g.S ≤ h.objs.size := K.agS ▸ let ⟨_, e⟩ := d.ag; Heap.lt_size e
theorem Gd.nC {h : Heap} (d : Gd g h) {b : Addr} {o : Obj} (e : h.get? b = some o) (q : Dt o) : b ≠ g.C := fun z => let ⟨_, hm⟩ := d.ns; ns_dt hm (z ▸ e) q
theorem Gd.push {h : Heap} (d : Gd g h) (o : Obj) : Gd g (h.push o) := d.keeps fun ζ ζ e => Heap.get?_push_of_some _ e
theorem hin1 (K : GSok g) {I : Addr} {hs : Heap} {vs : Array Value} {cnt : Nat -> Nat} (hw : ∀ (i : Nat) (v : Value), vs[i]? = some v -> WOk hs v (cnt i)) (hk : ∀ h, Gd g h -> (∀ b o, b ≠ g.C -> b ≠ I -> hs.get? b = some o -> h.get? b = some o) -> ∀ b o us n, hs.get? b = some o -> o.data = .seq us n -> h.get? b = some o) :
    ∀ (i : Nat) (v : Value), vs[i]? = some v -> ∀ (A' : Around) (s₀ s : Shared) (fs' : Pos -> List Frame) (m' : Nat) (E' : Value -> Shared -> Prop), A'.handled = none -> (∀ p, FOk (fs' p)) -> Gd g s.heap -> (∀ b o, b ≠ g.C -> b ≠ I -> hs.get? b = some o -> s.heap.get? b = some o) -> GX g.S g.I g.C s₀ s ->
      (∀ p c s₀' s', Gd g s'.heap -> (∀ b o, b ≠ g.C -> s.heap.get? b = some o -> s'.heap.get? b = some o) -> GX g.S g.I g.C s₀' s' -> g.Sg m' s₀' c (leafOf (.ok .next)) (fs' p) s') ->
      wpAny g.M A' (pyIter v) (fun it s' => ∀ p, g.Sg (cnt i + m') s₀ (.compStart g.a.e (1 + 1) it .none g.E) (g.M.den (.compStart g.a.e (1 + 1) it .none g.E)) (fs' p) s') E' s := by
  intro i v hv A' s₀ s fs' m' E' _ hF hd hkp hx hend
  refine cps fun Gq goq => ?_
  obtain ⟨T, ws, rfl, ht, hn, hi⟩ := (hw i v hv).at (hk s.heap hd hkp)
  refine goq ?_
  clear goq
  clear Gq
  have hlt := hd.lt
  have hT : T < s.heap.objs.size := let ⟨_, e, _⟩ := ht; Heap.lt_size e
  have hTC : T ≠ g.C := let ⟨o, e, _, n, q⟩ := ht; hd.nC e (.inl ⟨_, n, q⟩)
  refine wpAny_pyIter_tuple ht fun p => ?_
  have hit : (s.heap.push { cls := .type "tuple_iterator", data := .fields #[.ref T, .int 0 0] }).IsTupleIter s.heap.objs.size T 0 := ⟨_, Heap.get?_push_size _ rfl, rfl, rfl⟩
  have ht' : (s.heap.push { cls := .type "tuple_iterator", data := .fields #[.ref T, .int 0 0] }).IsTuple T ws := let ⟨o, q1, r⟩ := ht; ⟨o, Heap.get?_push_of_some _ q1, r⟩
  refine segStart 2 (.inr (.inr rfl)) (fun A₁ Q₁ E₁ h => wpAny_pyIter_tupleiter hit h) ?_
  have := seg2 K (T := T) (I := s.heap.objs.size) (vs := ws) (fs := fs' p) (m := m') (hs := s.heap) (K.sz hd) (Nat.ne_of_gt hlt) (Nat.ne_of_lt hT) hTC (hF p) hi
    (fun c s₀' s' d' kp' x' => hend p c s₀' s' d' (fun b o n e => kp' b o n (Nat.ne_of_lt (Heap.lt_size e)) e) x') ws.size 0 s₀ { s with heap := s.heap.push { cls := .type "tuple_iterator", data := .fields #[.ref T, .int 0 0] } } (Nat.sub_zero _) (Nat.zero_le _) ⟨hit, ht'⟩ (hd.push _)
    (fun b o ζ ζ e => Heap.get?_push_of_some _ e) (hx.step (tk := s.toks) fun b o ζ ζ ζ e => Heap.get?_push_of_some _ e)
  rw [hn] at this
  exact this
theorem hin0 (K : GSok g) {I : Addr} {hs : Heap} {vs : Array Value} {cnt : Nat -> Nat} (hw : ∀ (i : Nat) (v : Value), vs[i]? = some v -> ROk hs v (cnt i)) (hk : ∀ h, Gd g h -> (∀ b o, b ≠ g.C -> b ≠ I -> hs.get? b = some o -> h.get? b = some o) -> ∀ b o us n, hs.get? b = some o -> o.data = .seq us n -> h.get? b = some o) :
    ∀ (i : Nat) (v : Value), vs[i]? = some v -> ∀ (A' : Around) (s₀ s : Shared) (fs' : Pos -> List Frame) (m' : Nat) (E' : Value -> Shared -> Prop), A'.handled = none -> (∀ p, FOk (fs' p)) -> Gd g s.heap -> (∀ b o, b ≠ g.C -> b ≠ I -> hs.get? b = some o -> s.heap.get? b = some o) -> GX g.S g.I g.C s₀ s ->
      (∀ p c s₀' s', Gd g s'.heap -> (∀ b o, b ≠ g.C -> s.heap.get? b = some o -> s'.heap.get? b = some o) -> GX g.S g.I g.C s₀' s' -> g.Sg m' s₀' c (leafOf (.ok .next)) (fs' p) s') ->
      wpAny g.M A' (pyIter v) (fun it s' => ∀ p, g.Sg (cnt i + m') s₀ (.compStart g.a.e (0 + 1) it .none g.E) (g.M.den (.compStart g.a.e (0 + 1) it .none g.E)) (fs' p) s') E' s := by
  intro i v hv A' s₀ s fs' m' E' _ hF hd hkp hx hend
  refine cps fun Gq goq => ?_
  obtain ⟨l, us, cn, rfl, ht, hn, hi⟩ := (hw i v hv).at (hk s.heap hd hkp)
  refine goq ?_
  clear goq
  clear Gq
  have hlt := hd.lt
  have hl : l < s.heap.objs.size := let ⟨_, e, _⟩ := ht; Heap.lt_size e
  have hlC : l ≠ g.C := let ⟨o, e, _, n, q⟩ := ht; hd.nC e (.inl ⟨_, n, q⟩)
  refine wpAny_pyIter_list ht fun p => ?_
  have hit : (s.heap.push { cls := .type "list_iterator", data := .fields #[.ref l, .int 0 0] }).IsListIter s.heap.objs.size l 0 := ⟨_, Heap.get?_push_size _ rfl, rfl, rfl⟩
  have ht' : (s.heap.push { cls := .type "list_iterator", data := .fields #[.ref l, .int 0 0] }).IsList l us := ht.push _
  refine segStart 1 (.inr (.inl rfl)) (fun A₁ Q₁ E₁ h => wpAny_pyIter_listiter hit h) ?_
  have := segN K (d := 1) (x := g.a.w) (px := g.a.pw) (px' := g.a.pw') (p0 := g.a.pr') (fun x => do noteFrame x g.E; theTreesLotGoes x) (fun it => congrArg (fun t => Sem.onRaise t (fun x => do noteFrame x g.E; theTreesLotGoes x)) (turn1 g.a it .none g.E)) K.w K.dw
    (l := l) (I := s.heap.objs.size) (vs := us) (fs := fs' p) (m := m') (hs := s.heap) (cnt := cn) (fun b h1 ζ z => absurd (Nat.lt_of_lt_of_le h1 (K.sz hd)) (z ▸ Nat.lt_irrefl _)) (Nat.ne_of_gt hlt) (Nat.ne_of_lt hl) hlC (hF p)
    (hin1 K hi fun h d k b o us n e q => k b o (hd.nC e (.inl ⟨us, n, q⟩)) (Nat.ne_of_lt (Heap.lt_size e)) e)
    (fun c s₀' s' d' kp' x' => hend p c s₀' s' d' (fun b o n e => kp' b o n (Nat.ne_of_lt (Heap.lt_size e)) e) x') us.size 0 s₀ { s with heap := s.heap.push { cls := .type "list_iterator", data := .fields #[.ref l, .int 0 0] } } (Nat.sub_zero _) (Nat.zero_le _) ⟨hit, ht'⟩ (hd.push _)
    (fun b o ζ ζ e => Heap.get?_push_of_some _ e) (hx.step (tk := s.toks) fun b o ζ ζ ζ e => Heap.get?_push_of_some _ e)
  rw [hn] at this
  exact this
theorem segAll (K : GSok g) {l : Addr} {vs : Array Value} {cnt : Nat -> Nat} {hs : Heap} (hIC : g.I ≠ g.C) (hl : l ≠ g.I) (hlC : l ≠ g.C) (hw : ∀ (i : Nat) (v : Value), vs[i]? = some v -> ROk hs v (cnt i)) (hsd : Gd g hs) (hsI : hs.IsListIter g.I l 0 ∧ hs.IsList l vs) (s : Shared) (hk : KeepsH hs s.heap) :
    g.Sg (sumF cnt 0 vs.size) s (.compStart g.a.e 0 (.ref g.I) .none g.E) (g.M.den (.compStart g.a.e 0 (.ref g.I) .none g.E)) [] s := by
  have st : s.heap.IsListIter g.I l 0 ∧ s.heap.IsList l vs := ⟨hsI.1.at fun o e => hk _ o e, hsI.2.at fun o e => hk _ o e⟩
  refine segStart 0 (.inl rfl) (fun A₁ Q₁ E₁ h => wpAny_pyIter_listiter st.1 h) ?_
  have := segN K (d := 0) (x := g.a.row) (px := g.a.pr) (px' := g.a.pr') (p0 := g.a.ps) (leaving g.E) (fun it => congrArg (fun t => Sem.onRaise t (leaving g.E)) (turn0 g.a it .none g.E)) K.row K.drow
    (l := l) (I := g.I) (vs := vs) (fs := []) (m := 0) (hs := hs) (cnt := cnt) (fun b ζ h2 => h2) hIC hl hlC FOk.nil
    (hin0 K hw fun h d k b o us n e q => k b o (hsd.nC e (.inl ⟨us, n, q⟩)) (fun z => by
      obtain ⟨o', e', _, q'⟩ := hsI.1
      rw [← z, e] at e'; cases e'; rw [q] at q'; cases q') e)
    (fun c s₀' s' d' kp' x' => seg_end (.ok .next) ⟨rfl, rfl, x'⟩) vs.size 0 s s (Nat.sub_zero _) (Nat.zero_le _) st (hsd.keeps hk) (fun b o ζ ζ e => hk b o e) (GX.refl _ _ _ _)
  exact this
end
end Mine
end
section
set_option maxRecDepth 100000
namespace Mine
open PySem PyProof.Rows
theorem eval_all (a : AP) (env : Env) (hco : a.sc.isCoroutine = false) : eval a.e env = (do
      let x ← eval (.Name a.seen a.ps) env
      standAt a.ps
      let it ← holding [x] (pyIter x)
      enterFrame
      let cl ← closureFor a.sc env
      let code ← genexprCode env a.gp (env.qual ++ "<genexpr>") a.sc
      let bi ← builtinsFor env.globals env.builtins
      let cenv ← newFunctionEnv a.sc env.globals cl [(".0", it)] (env.qual ++ "<genexpr>.") none code none bi
      newGenerator (.compStart a.e 0 it .none cenv) "<genexpr>" (env.qual ++ "<genexpr>")) := by
  unfold AP.e
  rw [arm_eval_GeneratorExp]
  simp only [hco, Bool.false_eq_true, if_false]
  rfl
section
variable {M : Model} {A : Around} {E : Value -> Shared -> Prop} {s : Shared}
theorem all_make {a : AP} {env : Env} {cl : List (Str × Addr)} {Q : Value -> Shared -> Prop} (hco : a.sc.isCoroutine = false) (hclos : closureFor a.sc env = pure cl) (hcell : ∀ y ∈ a.sc.names, y.2 ≠ .cell) (h0 : a.sc.names.lookup (".0" : Str) = some NameKind.local) (hkind : a.sc.kind = .function) (hroom : A.depth < recursionLimit)
    (h : wpAny M A (eval (.Name a.seen a.ps) env) (fun xv s₁ => wpAny M A (pyIter xv) (fun it s₂ => s₂.heap.NoLimit ∧
      wpAny M A (genexprCode env a.gp (env.qual ++ "<genexpr>") a.sc) (fun code s₃ => wpAny M A (builtinsFor env.globals env.builtins) (fun bi s₄ =>
        ∀ h', h'.Ns s₄.heap.objs.size (fun y => if y = ".0" then some it else none) -> Heap.SameBut s₄.heap.objs.size (s₄.heap.push { cls := .type "frame", data := .dict #[] }) h' ->
          Q (.ref h'.objs.size) { s₄ with
            gens := s₄.gens.push (.fresh (.compStart a.e 0 it .none (genEnv a.sc cl s₄.heap.objs.size code bi env))),
            toks := s₄.toks + 1 + 1 + 1,
            heap := h'.push { cls := .type "generator", data := .fields #[.int s₄.gens.size 0, .str "<genexpr>" (s₄.toks + 1), .str (env.qual ++ "<genexpr>") (s₄.toks + 1 + 1)] } }) E s₃) E s₂) E s₁) E s) :
    wpAny M A (eval a.e env) Q E s := by
  rw [eval_all _ _ hco, hclos]
  refine wpAny_bind (wpAny_mono h (fun xv s₁ h₁ => ?_) fun ζ ζ e => e)
  refine wpAny_bind (wpAny_standAt ?_)
  refine wpAny_bind (wpAny_holding (wpAny_mono h₁ (fun it s₂ h₂ => ?_) fun ζ ζ e => e))
  refine wpAny_bind (wpAny_enterFrame h₂.1 hroom ?_)
  refine wpAny_bind (wpAny_pure ?_)
  refine wpAny_bind (wpAny_mono h₂.2 (fun code s₃ h₃ => ?_) fun ζ ζ e => e)
  refine wpAny_bind (wpAny_mono h₃ (fun bi s₄ h₄ => ?_) fun ζ ζ e => e)
  have hbinds : ∀ y ∈ ([((".0" : Str), it)] : List (Str × Value)), a.sc.names.lookup y.1 = some NameKind.local := by
    intro y hy
    rcases List.mem_cons.mp hy with rfl | hy
    . exact h0
    . cases hy
  refine wpAny_bind (wpAny_newFunctionEnv hcell hbinds (fun h' hn' hs' => ?_) hkind)
  have e : (fun y : Str => ([((".0" : Str), it)] : List (Str × Value)).reverse.lookup y) = fun y : Str => if y = (".0" : Str) then some it else none := by
    funext y
    by_cases hy : y = ".0"
    . subst hy; simp
    . have : (y == (".0" : Str)) = false := by simpa using hy
      simp [List.lookup, this, hy]
  rw [e] at hn'
  simp only [newGenerator, newFields]
  refine wpAny_bind (wpAny_newGen (wpAny_bind (wpAny_mkText (wpAny_bind (wpAny_mkText (wpAny_newObj_type ?_ (by size_fits)))))))
  exact h₄ h' hn' hs'
end
structure AtG (g : GS) (gi n : Nat) (s : Shared) : Prop where
  ig : s.heap.IsGen g.ag gi
  nl : s.heap.NoLimit
  go : ∃ gs, s.gens[gi]? = some gs ∧ ∀ s'' : Shared, KeepsH s.heap s''.heap -> gs.Goes g.M g.A (RP g.S g.I g.C) (YP g.S g.I g.C) n (.send .none) s''
structure MvG (g : GS) (gi : Nat) (s s' : Shared) : Prop where
  heap : ∀ b o, b < g.S -> b ≠ g.I -> b ≠ g.C -> s.heap.get? b = some o -> s'.heap.get? b = some o
  gens : GenOnlyQ gi s.gens s'.gens
  drawn : s'.drawn = s.drawn
  os : s'.os = s.os
theorem MvG.trans {g : GS} {gi : Nat} {a b c : Shared} (x : MvG g gi a b) (y : MvG g gi b c) : MvG g gi a c :=
  ⟨fun p o h1 h2 h3 e => y.heap p o h1 h2 h3 (x.heap p o h1 h2 h3 e), x.gens.trans y.gens, y.drawn.trans x.drawn, y.os.trans x.os⟩
section
variable {g : GS} {A : Around} {R : Result -> Shared -> Prop} {gi : Nat}
theorem allLoop (hA : g.A = A.in1.in1) (hh : A.handled = none) (hroom : A.depth < recursionLimit) (hS : g.ag < g.S) (haI : g.ag ≠ g.I) (haC : g.ag ≠ g.C) (hcs : ∀ s : Shared, s.heap.NoLimit -> cStatics < g.S ∧ cStatics ≠ g.I ∧ cStatics ≠ g.C) :
    ∀ (n : Nat) (s : Shared), AtG g gi n s -> (∀ s', MvG g gi s s' -> R (.ok (.ret (.bool true))) s') -> codeAny g.M A (.builtin "all.loop" ⟨[.ref g.ag], []⟩) R s := by
  intro n
  induction n with
  | zero =>
    intro s st hR
    obtain ⟨hg, hl, gs, hgs, hgo⟩ := st
    refine codeAny_builtin F.entry_all_loop ?_
    rw [Around.under_plainId F.plain_all_loop _]
    show wpAny _ A.in1 (pyNext (.ref g.ag) >>= _) _ _ s
    refine wpAny_bind (wpAny_pyNext_genexpQ (P := fun n s₀ s₁ => n = 0 ∧ GX g.S g.I g.C s₀ s₁) (Y := YP g.S g.I g.C) hh hl hroom hg hgs (hA ▸ hgo (s.setGen gi .running) fun ζ ζ e => e) (fun v s₁ gs' hb hv => ?_) (fun s₁ hp h' hk => ?_))
    . obtain ⟨_, _, hkap⟩ := hv
      exact (hkap s₁ fun ζ ζ e => e).elim
    . obtain ⟨_, h₁, tk₁, rfl, hk₁⟩ := hp
      exact wpAny_bind (wpAny_rule (wpAny_pure (hR _ ⟨fun b o h1 h2 h3 e => hk b o (hk₁ b o h1 h2 h3 e), GenOnlyQ.of ((GenOnly.setGen s gi .running).trans (GenOnly.setGen _ gi .finished)) (setGen_self (gs := .running) (setGen_self hgs)) rfl, rfl, rfl⟩)))
  | succ n ih =>
    intro s st hR
    obtain ⟨hg, hl, gs, hgs, hgo⟩ := st
    refine codeAny_builtin F.entry_all_loop ?_
    rw [Around.under_plainId F.plain_all_loop _]
    show wpAny _ A.in1 (pyNext (.ref g.ag) >>= _) _ _ s
    refine wpAny_bind (wpAny_pyNext_genexpQ (P := fun n s₀ s₁ => n = 0 ∧ GX g.S g.I g.C s₀ s₁) (Y := YP g.S g.I g.C) hh hl hroom hg hgs (hA ▸ hgo (s.setGen gi .running) fun ζ ζ e => e) (fun v s₁ gs' hb hv => ?_) (fun s₁ hp h' hk => absurd hp.1 (Nat.succ_ne_zero n)))
    obtain ⟨rfl, ⟨h₁, tk₁, rfl, hk₁⟩, hkap⟩ := hv
    refine wpAny_bind (wpAny_holding (wpAny_truthy_bool ?_))
    refine wpAny_bind (wpAny_letGo ?_)
    obtain ⟨c1, c2, c3⟩ := hcs s hl
    refine wpAny_pure ⟨plainId_quiet F.plain_all_loop _, ih _ ⟨let ⟨o, nm, qn, ho, r⟩ := hg; ⟨o, nm, qn, hk₁ g.ag o hS haI haC ho, r⟩, (let ⟨mc, hns, hnn⟩ := hl; ⟨mc, hns.at' fun o e => hk₁ cStatics o c1 c2 c3 e, hnn⟩), gs', setGen_self (gs := .running) (setGen_self hgs), fun s'' hal => hA ▸ hkap s'' hal⟩ fun s' hm => hR s' (MvG.trans ?_ hm)⟩
    exact ⟨fun b o h1 h2 h3 e => hk₁ b o h1 h2 h3 e, GenOnlyQ.of ((GenOnly.setGen s gi .running).trans (GenOnly.setGen _ gi gs')) (setGen_self (gs := .running) (setGen_self hgs)) hb, rfl, rfl⟩
theorem call_allG {E : Value -> Shared -> Prop} {Q : Value -> Shared -> Prop} {s : Shared} {n : Nat} (hA : g.A = A.in1.in1) (hh : A.handled = none) (hroom : A.depth < recursionLimit) (hS : g.ag < g.S) (haI : g.ag ≠ g.I) (haC : g.ag ≠ g.C) (hcs : ∀ s : Shared, s.heap.NoLimit -> cStatics < g.S ∧ cStatics ≠ g.I ∧ cStatics ≠ g.C) (st : AtG g gi n s)
    (hQ : ∀ s', MvG g gi s s' -> Q (.bool true) s') : wpAny g.M A (call (.builtin "all") [.ref g.ag]) Q E s := by
  refine call_function_tree F.kind_all F.plain_all F.entry_all (F.args_all1 _) ?_
  unfold Builtin.«all»
  refine wpAny_bind (m := oneArg "all" _) (wpAny_pure ?_)
  refine wpAny_bind (wpAny_pyIter_gen st.ig ?_)
  exact wpAny_pure ⟨plainId_quiet F.plain_all_loop _, allLoop hA hh hroom hS haI haC hcs n s st hQ⟩
end
noncomputable def tlW : PyData -> Nat
  | .tuple ds => ds.length
  | _ => 0
noncomputable def rowN : PyData -> Nat
  | .list ys => sumF (fun j => tlW (ys.getD j .none)) 0 ys.length
  | _ => 0
section
variable {h : Heap} {F : Addr -> Prop}
theorem rdW {v : Value} {d : PyData} (r : RD h F v d) (ha : allI d = true) : WOk h v (tlW d) := by
  cases d with
  | tuple ds =>
    obtain ⟨T, ws, rfl, ht, rs⟩ := r.tuple_inv
    refine ⟨T, ws, rfl, ht, by rw [← Array.length_toList, rs.length]; rfl, fun i u e => ?_⟩
    obtain ⟨d, q, r'⟩ := rs.get' (i := i) (v := u) (by simpa using e)
    have hd := List.all_eq_true.mp (show ds.all isI = true from ha) d (List.mem_of_getElem? q)
    cases d with
    | int k => obtain ⟨t, e⟩ := r'.int_inv; exact ⟨k, t, e⟩
    | _ => cases hd
  | _ => cases ha
theorem rdR {v : Value} {d : PyData} (r : RD h F v d) (ha : allI2 d = true) : ROk h v (rowN d) := by
  cases d with
  | list ys =>
    obtain ⟨l, vs, rfl, hl, _, rs⟩ := r.list_inv
    have hn : vs.size = ys.length := by rw [← Array.length_toList, rs.length]
    refine ⟨l, vs, _, rfl, hl.isList, by rw [hn]; rfl, fun i u e => ?_⟩
    obtain ⟨d, q, r'⟩ := rs.get' (i := i) (v := u) (by simpa using e)
    have := rdW r' (List.all_eq_true.mp (show ys.all allI = true from ha) d (List.mem_of_getElem? q))
    rw [List.getD_eq_getElem?_getD, q]
    exact this
  | _ => cases ha
end
end Mine
end
section
set_option maxRecDepth 100000
namespace Mine
open PySem PyProof.Rows
structure AllP (a : AP) : Prop where
  kind : a.sc.kind = .function
  nm : ∀ z ∈ a.sc.names, z.2 ≠ .cell ∧ z.2 ≠ .free
  p0 : a.sc.names.lookup (".0" : Str) = some .local
  row : a.sc.names.lookup a.row = some .local
  w : a.sc.names.lookup a.w = some .local
  n : a.sc.names.lookup a.n = some .local
  ty : a.sc.names.lookup ("type" : Str) = some .globalImplicit
  int : a.sc.names.lookup ("int" : Str) = some .globalImplicit
  co : a.sc.isCoroutine = false
  drow : (a.row == ("__debug__" : Str)) = false
  dw : (a.w == ("__debug__" : Str)) = false
  dn : (a.n == ("__debug__" : Str)) = false
theorem gen3 {elt elt' : PySem.Expr} {gs : List Comprehension} {a b c a' b' c' : Comprehension} {sc : Scope} {p : Pos} (h : elt = elt') (hg : gs = [a, b, c]) (h1 : a = a') (h2 : b = b') (h3 : c = c') : PySem.Expr.GeneratorExp elt gs sc p = .GeneratorExp elt' [a', b', c'] sc p := by
  subst h hg h1 h2 h3; rfl
theorem AllP.of {as : List PySem.Expr} {x : Str} (h : allShape as = some x) : ∃ a : AP, as = [a.e] ∧ a.seen = x ∧ AllP a := by
  refine bind_subE h fun e q1 h => ?_
  refine bind_subE h fun g q2 h => ?_
  refine bind_subE h fun gs q3 h => ?_
  refine bind_subE h fun k0 q4 h => ?_
  refine bind_subE h fun k1 q5 h => ?_
  refine bind_subE h fun k2 q6 h => ?_
  refine bind_subE h fun t q7 h => ?_
  refine ifBE h fun hc h => ?_
  have e1 : k1.y = k0.x := eq_of_beq (and_l (and_l (and_l hc)))
  have e2 : k2.y = k1.x := eq_of_beq (and_r (and_l (and_l hc)))
  have e3 : t.n = k2.x := eq_of_beq (and_r (and_l hc))
  rw [e1] at q5
  rw [e2] at q6
  have q7 : g.elt = (⟨k2.x, t.np, t.tp, t.ip, t.cp, t.ep⟩ : TyP).e := e3 ▸ q7
  exact ⟨⟨k0.y, k0.x, k1.x, k2.x, k0.py, k0.px, k1.py, k1.px, k2.py, k2.px, t.np, t.tp, t.ip, t.cp, t.ep, g.sc, g.pos⟩, q1.trans (congrArg (fun e => [e]) (q2.trans (gen3 q7 q3 q4 q5 q6))), Option.some.inj h,
    eq_of_beq (and_l (and_l (and_l (and_l (and_l (and_r hc)))))), fun z hz => by
      have := List.all_eq_true.mp (and_r (and_l (and_l (and_l (and_l (and_r hc)))))) z hz
      exact ⟨bne_iff_ne.mp (and_l this), bne_iff_ne.mp (and_r this)⟩, eq_of_beq (and_r (and_l (and_l (and_l (and_r hc))))),
    loc_1 (and_l (and_l (and_r (and_l (and_r hc))))), loc_1 (and_r (and_l (and_r (and_l (and_r hc))))), loc_1 (and_r (and_r (and_l (and_r hc)))), eq_of_beq (and_l (and_r (and_r hc))), eq_of_beq (and_r (and_r (and_r hc))),
    by simpa using and_r (and_l (and_l (and_r hc))),
    loc_2 (and_l (and_l (and_r (and_l (and_r hc))))), loc_2 (and_r (and_l (and_r (and_l (and_r hc))))), loc_2 (and_r (and_r (and_l (and_r hc))))⟩
end Mine
end
section
set_option maxRecDepth 100000
namespace Mine
open PySem PyProof.Rows
theorem Sm.mvg {g : GS} {gi : Nat} {s s' : Shared} (m : MvG g gi s s') : Sm s s' := by
  refine ⟨s'.heap, s'.toks, s'.gens, ?_, fun q => m.gens.bare q⟩
  have h1 := m.drawn
  have h2 := m.os
  refine cps fun Gq goq => ?_
  obtain ⟨a, b, d, e, f⟩ := s'
  obtain ⟨a', b', d', e', f'⟩ := s
  refine goq ?_
  clear goq
  clear Gq
  simp only at h1 h2
  subst h1 h2
  rfl
section
variable {c : FC} {F : Addr -> Prop} {own : Addr -> Option Nat} {γ : Env'} {s : Shared} {E : Value -> Shared -> Prop}
theorem all_ok (X : SX c) (S : SI c F own γ s.heap) (hg : c.C.gen = true) {e : PySem.Expr} {pt : PT} {b : Bool} {Q : Value -> Shared -> Prop} (h : cAll c.C e = some pt) (he : evT c.Φ γ pt = some b)
    (hQ : ∀ s', SI c F own γ s'.heap -> Tr c own s.heap own s'.heap -> Sm s s' -> Q (.bool b) s') : wpAny c.M c.A (eval e c.env) Q E s := by
  refine cps fun Gq goq => ?_
  revert h
  refine bind_subR fun cp q1 h => ?_
  revert h
  refine ifBR fun hb h => ?_
  revert h
  refine bS fun x h1 h => ?_
  revert h
  refine bS fun pa h2 h => ?_
  replace h := Option.some.inj h
  subst h
  obtain ⟨ap, f1, f2, hga⟩ := isBlt_of hb
  obtain ⟨a, q2, rfl, P⟩ := AllP.of h1
  refine goq ?_
  clear goq
  clear Gq
  rw [q1, f1, f2, q2]
  clear q1 q2 f1 f2 h1 hb
  refine cps fun Gq goq => ?_
  revert he
  refine bS fun x1 e1 he => ?_
  revert he
  refine ifBR fun ha he => ?_
  replace he := Option.some.inj he
  subst he
  have hH := X.H S
  obtain ⟨htp, cc, T, hgp⟩ := X.gen hg
  obtain ⟨hcd, hBP, _, oP, eP, vsP, dP⟩ := X.gp cc T hgp
  refine goq ?_
  clear goq
  clear Gq
  refine name_call (name_blt hH hga (v := .builtin "all") (by kernel_rfl) ?_ (by decide))
  show wpAny c.M c.A (callWith cp.pos (.builtin "all") [] [(false, eval a.e c.env)] []) _ _ _
  refine PySem.callWith_builtin1 ?_
  have hroom : c.A.depth < recursionLimit := Nat.lt_of_le_of_lt (Nat.le_add_right _ _) hH.ok.dp
  refine all_make (cl := clL c.env a.sc.names []) P.co (closure_ok fun y hy hk => absurd hk (P.nm y hy).2) (fun y hy => (P.nm y hy).1) P.p0 P.kind hroom ?_
  refine sndName h2 hH e1 fun v s₁ k1 v1 => ?_
  obtain ⟨d, lv⟩ := x1
  cases d with
  | list xs =>
    refine cps fun Gq goq => ?_
    obtain ⟨l, vs, rfl, hl, _, rs⟩ := v1.1.list_inv
    have S1 := S.keeps k1.heap
    have nP : ∀ b o us n, s₁.heap.get? b = some o -> o.data = .seq us n -> b ≠ T := fun b o us n e d z => X.nW S1 e d (z ▸ ⟨htp, .inr ⟨cc, hgp⟩⟩)
    have b1 : l < s₁.heap.objs.size := let ⟨_, ho⟩ := hl; Heap.lt_size ho
    obtain ⟨ps, tb⟩ := S1.tab cc T hgp
    refine goq ?_
    clear goq
    clear Gq
    have ltP : T < s₁.heap.objs.size := Heap.lt_size tb.2.2
    have ltC : cc < s₁.heap.objs.size := tb.1.lt.1
    have kb1 := SI.kb X S1
    refine wpAny_pyIter_list hl.isList ⟨X.g.nolimit.keeps (kb1.trans fun ζ ζ e => Heap.get?_push_of_some _ e), ?_⟩
    have hkp : KeepsH s₁.heap (s₁.heap.push { cls := .type "list_iterator", data := .fields #[.ref l, .int 0 0] }) := fun ζ ζ e => Heap.get?_push_of_some _ e
    have hit : (s₁.heap.push { cls := .type "list_iterator", data := .fields #[.ref l, .int 0 0] }).IsListIter s₁.heap.objs.size l 0 := ⟨_, Heap.get?_push_size _ rfl, rfl, rfl⟩
    refine gcode (env := c.env) (cc := cc) (P := T) (ps := ps) hcd (tab_at tb (hkp cc) (hkp T)) fun code h₃ tk₃ ps' hx₃ hge hcode₃ htab₃ => ?_
    replace hx₃ : Heap.ExtBut T (s₁.heap.push { cls := .type "list_iterator", data := .fields #[.ref l, .int 0 0] }) h₃ := hx₃
    have sz3 : s₁.heap.objs.size + 1 ≤ h₃.objs.size := by
      have : (s₁.heap.push { cls := .type "list_iterator", data := .fields #[.ref l, .int 0 0] }).objs.size ≤ h₃.objs.size := hge
      rw [Heap.size_push] at this
      exact this
    have k3 : ∀ b o, b ≠ T -> s₁.heap.get? b = some o -> h₃.get? b = some o := fun b o n e => hx₃ b o n (hkp b o e)
    have kb3 : KeepsH c.G.hB h₃ := fun b o e => k3 b o (fun z => absN e (z ▸ hBP)) (kb1 b o e)
    have it3 : h₃.IsListIter s₁.heap.objs.size l 0 := hit.at fun o e => hx₃ _ o (Nat.ne_of_gt ltP) e
    refine cps fun Gq goq => ?_
    obtain ⟨bm, ob, m1, m2, m3, m4, m5, m6⟩ := X.g.bm
    refine goq ?_
    clear goq
    clear Gq
    refine wpAny_builtinsFor (X.g.g.keeps kb3) m1 m2 (kb3 _ _ m3) m4 m5 m6 ?_
    intro h' hn' hs'
    replace hn' : h'.Ns h₃.objs.size _ := hn'
    replace hs' : Heap.SameBut h₃.objs.size (h₃.push { cls := .type "frame", data := .dict #[] }) h' := hs'
    have szh : h'.objs.size = h₃.objs.size + 1 := by rw [hs'.1, Heap.size_push]
    have k5 : ∀ b o, h₃.get? b = some o -> h'.get? b = some o := fun b o e => hs'.extBut b o (Nat.ne_of_lt (Heap.lt_size e)) (Heap.get?_push_of_some _ e)
    generalize hob : ({ cls := .type "generator", data := .fields #[.int s₁.gens.size 0, .str "<genexpr>" (tk₃ + 1), .str (c.env.qual ++ "<genexpr>") (tk₃ + 1 + 1)] } : Obj) = og
    have k6 : ∀ b o, h₃.get? b = some o -> (h'.push og).get? b = some o := fun b o e => Heap.get?_push_of_some _ (k5 b o e)
    let g : GS := ⟨c.G, a, c.A.in1.in1, genEnv a.sc (clL c.env a.sc.names []) h₃.objs.size code builtinsNs c.env, h'.objs.size + 1, s₁.heap.objs.size, h'.objs.size⟩
    have hIC : s₁.heap.objs.size ≠ h₃.objs.size := Nat.ne_of_lt sz3
    have szS : ∀ b, b < s₁.heap.objs.size -> b < h'.objs.size + 1 ∧ b ≠ s₁.heap.objs.size ∧ b ≠ h₃.objs.size := fun b hb => ⟨by omega, Nat.ne_of_lt hb, by omega⟩
    have K : GSok g := ⟨hH.ok.hh, X.g, P.kind, P.co, P.row, P.w, P.n, P.drow, P.dw, P.dn, P.ty, P.int, rfl, rfl, rfl, (by show h'.objs.size ≠ h₃.objs.size; omega), (by show h'.objs.size ≠ s₁.heap.objs.size; omega), fun b o e => szS b (Heap.lt_size (kb1 b o e))⟩
    have hd : Gd g (h'.push og) := ⟨fun b o e => k6 b o (kb3 b o e), ⟨_, hn'.push _⟩, _, Heap.get?_push_size _ (by rw [← hob]; rfl)⟩
    have sq : ∀ b o us n, s₁.heap.get? b = some o -> o.data = .seq us n -> (h'.push og).get? b = some o := fun b o us n e d => k6 b o (k3 b o (nP b o us n e d) e)
    have st : AtG g s₁.gens.size (sumF (fun i => rowN (xs.getD i .none)) 0 vs.size) { s₁ with gens := s₁.gens.push (.fresh (.compStart a.e 0 (.ref s₁.heap.objs.size) .none g.E)), toks := tk₃ + 1 + 1 + 1, heap := h'.push og } := by
      refine ⟨⟨_, _, _, Heap.get?_push_size _ (by rw [← hob]; rfl), by rw [← hob], by rw [← hob], by rw [← hob]⟩, X.g.nolimit.keeps hd.kb, _, Array.getElem?_push_size .., fun s'' hk => ⟨rfl, segAll K hIC (Nat.ne_of_lt b1) (szS l b1).2.2 (fun i v e => ?_) hd ⟨it3.at fun o e => k6 _ o e, hl.isList.at fun o e => ?_⟩ s'' hk⟩⟩
      . obtain ⟨d, q, r⟩ := rs.get' (i := i) (v := v) (by simpa using e)
        have := (rdR r (List.all_eq_true.mp (show xs.all allI2 = true from ha) d (List.mem_of_getElem? q))).at sq
        rw [List.getD_eq_getElem?_getD, q]
        exact this
      . obtain ⟨n, ho⟩ := hl
        rw [ho] at e
        replace e := Option.some.inj e
        subst e
        exact sq l _ _ n ho rfl
    refine call_allG (g := g) (A := c.A) (gi := s₁.gens.size) rfl hH.ok.hh hroom (Nat.lt_succ_self _) K.agI K.agC (fun ζ ζ => ?_) st fun s' hm => ?_
    . obtain ⟨mc, ⟨o, _, _, z, _⟩, _⟩ := X.g.nolimit
      exact K.old _ o z
    . have kt : ∀ b, b < s₁.heap.objs.size -> ∀ o, h₃.get? b = some o -> s'.heap.get? b = some o := fun b hb o e => hm.heap b o (szS b hb).1 (szS b hb).2.1 (szS b hb).2.2 (k6 b o e)
      obtain ⟨S', t'⟩ := S.gen X hgp htp (fun b o n e => kt b (Heap.lt_size (k1.heap b o e)) o (k3 b o n (k1.heap b o e))) ⟨ps', tab_at ⟨hcode₃, htab₃⟩ (kt cc ltC) (kt T ltP)⟩
      refine hQ s' S' t' ?_
      obtain ⟨h₁, t₁, g₁, rfl, hb₁⟩ := k1.sm
      refine Sm.trans (b := { s with gens := g₁.push (.fresh (.compStart a.e 0 (.ref h₁.objs.size) .none g.E)), toks := tk₃ + 1 + 1 + 1, heap := h'.push og }) ⟨_, _, _, rfl, fun q => bare_push (hb₁ q) rfl⟩ (Sm.mvg hm)
  | _ => cases ha
end
end Mine
end
section
set_option maxRecDepth 100000
namespace Mine
open PySem PyProof.Rows
section
variable {c : FC} {F : Addr -> Prop} {own : Addr -> Option Nat} {γ : Env'} {s : Shared}
theorem sndTG (X : SX c) {t : PySem.Expr} {pt : PT} {b : Bool} {Q : Bool -> Shared -> Prop} {E : Value -> Shared -> Prop} (S : SI c F own γ s.heap) (hg : c.C.gen = true) (h : cTG c.C t = some pt) (he : evT c.Φ γ pt = some b)
    (hQ : ∀ s', SI c F own γ s'.heap -> Tr c own s.heap own s'.heap -> Sm s s' -> Q b s') : wpAny c.M c.A (isTrue t c.env (eval t c.env)) Q E s := by
  unfold cTG at h
  split at h
  . rename_i cp _
    refine cps fun Gq goq => ?_
    obtain ⟨cp, q0⟩ := cp
    revert h
    refine bind_subR fun r q1 h => ?_
    revert h
    refine ifBR fun hb h => ?_
    revert h
    refine bS fun a h1 h => ?_
    revert h
    refine bind_subR fun a' q2 h => ?_
    revert h
    refine bS fun t' h2 h => ?_
    refine goq ?_
    clear goq
    clear Gq
    replace h := Option.some.inj h
    subst h
    subst q2
    have q1 : cp.rs = [r] := q1
    rw [q0, q1, show cp.ops = [.NotEq] from eq_of_beq hb]
    refine cps fun Gq goq => ?_
    revert he
    refine bS fun x e1 he => ?_
    revert he
    refine bS fun y e2 he => ?_
    refine bind_someE (show (evT c.Φ γ a').bind (fun b => some (PyData.bool b, 0)) = some x from e1) fun bx e3 e4 => ?_
    refine goq ?_
    clear goq
    clear Gq
    replace e4 := Option.some.inj e4
    subst e4
    refine bind_someE (show (evT c.Φ γ t').bind (fun b => some (PyData.bool b, 0)) = some y from e2) fun b1 e5 e6 => ?_
    replace e6 := Option.some.inj e6
    subst e6
    refine bind_subE h2 fun ζ q ζ => ?_
    refine wpAny_isTrue_Compare1 (sndE cp.l c.C _ h1 (X.H S) e1 fun v s₁ k1 v1 => ?_) (by rw [q]; rfl)
    refine any_ok X (S.keeps k1.heap) hg h2 e5 fun s₂ S2 t2 m2 => ?_
    refine cmpD_sound (o := .ne) (F := F) rfl he (show RD s₂.heap F v (.bool bx) from v1.1.bool_inv) (RD.bool b1) ?_ (wpAny_truthy_bool (hQ s₂ S2 ((Tr.of_keeps k1.heap).trans t2) (k1.sm.trans m2)))
    have := (X.H S).ok.un
    omega
  . revert h
    refine bind_subR fun cp q0 h => ?_
    revert h
    refine bS fun t' h2 h => ?_
    replace h := Option.some.inj h
    subst h
    rw [q0]
    revert he
    refine bS fun b1 e1 he => ?_
    replace he := Option.some.inj he
    subst he
    refine bind_subE h2 fun ζ q ζ => ?_
    refine wpAny_isTrue_Not (wpAny_isTrue_value (all_ok X S hg h2 e1 fun s' S' t1 m1 => wpAny_truthy_bool (hQ s' S' t1 m1)) (by rw [q]; rfl))
end
end Mine
end
section
set_option maxRecDepth 100000
namespace Mine
open PySem PyProof.Rows
section
variable {c : FC}
theorem fz_of {is : List Nat} {p : PS} {r : PSs} {γ : Env'} {res : Flw × Env'} (h : evSs c.Φ c.fu c.tp γ (fz c.C is p r) = some res) : ∃ js, evSs c.Φ c.fu c.tp (frz γ js) (.cons p r) = some res := by
  unfold fz at h
  dsimp only at h
  split at h
  . exact ⟨[], h⟩
  . exact ⟨_, h⟩
theorem cons_of {p : PS} {r : PSs} {γ : Env'} {res : Flw × Env'} (h : evSs c.Φ c.fu c.tp γ (.cons p r) = some res) :
    ∃ fl₁ γ₁, evS c.Φ c.fu c.tp γ p = some (fl₁, γ₁) ∧ ((fl₁ = .next ∧ evSs c.Φ c.fu c.tp γ₁ r = some res) ∨ (fl₁ ≠ .next ∧ res = (fl₁, γ₁))) := by
  refine cps fun Gq goq => ?_
  replace h := bind_some h
  obtain ⟨⟨fl₁, γ₁⟩, h1, h⟩ := h
  refine goq ?_
  clear goq
  clear Gq
  refine ⟨fl₁, γ₁, h1, ?_⟩
  cases fl₁ with
  | next => exact .inl ⟨rfl, h⟩
  | _ => exact .inr ⟨nofun, (Option.some.inj h).symm⟩
structure Aft (c : FC) (F : Addr -> Prop) (own : Addr -> Option Nat) (s : Shared) (r : PSs) (res : Flw × Env') (Q : Flow -> Shared -> Prop) (E : Value -> Shared -> Prop) : Prop where
  next : ∀ own₁ γ₁ s₁, SI c F own₁ γ₁ s₁.heap -> Tr c own s.heap own₁ s₁.heap -> Sm s s₁ -> evSs c.Φ c.fu c.tp γ₁ r = some res -> Q .next s₁
  out : ∀ fw s', fw ≠ .next -> FPost c F own s res.1 res.2 fw s' -> Q fw s'
  exc : ∀ x, res.1 = .exc x -> ∀ e s', RPost c s x e s' -> E e s'
theorem Aft.go {F : Addr -> Prop} {own own' : Addr -> Option Nat} {s s' : Shared} {r : PSs} {res : Flw × Env'} {Q : Flow -> Shared -> Prop} {E : Value -> Shared -> Prop} (a : Aft c F own s r res Q E) (t : Tr c own s.heap own' s'.heap) (m : Sm s s') : Aft c F own' s' r res Q E :=
  ⟨fun o₁ γ₁ s₁ S t1 m1 h => a.next o₁ γ₁ s₁ S (t.trans t1) (m.trans m1) h, fun fw s₁ hn x => a.out fw s₁ hn (x.trans t m), fun c hc e s₁ x => a.exc c hc e s₁ (x.trans m)⟩
noncomputable def Nx (c : FC) (r : PSs) (res : Flw × Env') (fl₁ : Flw) (γ₁ : Env') : Prop := (fl₁ = .next ∧ evSs c.Φ c.fu c.tp γ₁ r = some res) ∨ (fl₁ ≠ .next ∧ res = (fl₁, γ₁))
section
variable {F : Addr -> Prop} {own : Addr -> Option Nat} {s : Shared} {r : PSs} {res : Flw × Env'} {Q : Flow -> Shared -> Prop} {E : Value -> Shared -> Prop} {fl₁ : Flw} {γ₁ : Env'}
theorem Aft.post (a : Aft c F own s r res Q E) (h : Nx c r res fl₁ γ₁) : ∀ fw s', FPost c F own s fl₁ γ₁ fw s' -> Q fw s' := by
  intro fw s' x
  rcases h with ⟨rfl, h⟩ | ⟨hn, rfl⟩
  . cases fw with
    | next => obtain ⟨o₁, S, t, m⟩ := x; exact a.next o₁ γ₁ s' S t m h
    | _ => exact x.elim
  . refine a.out fw s' (fun z => ?_) x
    subst z
    cases fl₁ with
    | next => exact hn rfl
    | _ => exact x.elim
theorem Aft.left (a : Aft c F own s r res Q E) (h : Nx c r res .next γ₁) : ∀ s', Left c F own s γ₁ s' -> Q .next s' := fun s' x => a.post h .next s' x
theorem Aft.exc' (a : Aft c F own s r res Q E) (h : Nx c r res fl₁ γ₁) : ∀ x, fl₁ = .exc x -> ∀ e s', RPost c s x e s' -> E e s' := fun x hx => a.exc x (by
  rcases h with ⟨rfl, _⟩ | ⟨_, rfl⟩
  . cases hx
  . exact hx)
end
theorem pre {F : Addr -> Prop} {is : List Nat} {q : PS} {r : PSs} {γ : Env'} {res : Flw × Env'} {own : Addr -> Option Nat} {s : Shared} {Q : Flow -> Shared -> Prop} {E : Value -> Shared -> Prop} (S : SI c F own γ s.heap)
    (he : evSs c.Φ c.fu c.tp γ (fz c.C is q r) = some res) (a : Aft c F own s r res Q E) :
    ∃ own₁ γ₀ fl₁ γ₁, SI c F own₁ γ₀ s.heap ∧ evS c.Φ c.fu c.tp γ₀ q = some (fl₁, γ₁) ∧ Nx c r res fl₁ γ₁ ∧ Aft c F own₁ s r res Q E := by
  refine cps fun Gq goq => ?_
  replace he := fz_of he
  obtain ⟨js, he⟩ := he
  obtain ⟨own₁, S, t⟩ := SI.frz js S
  obtain ⟨fl₁, γ₁, h2, h3⟩ := cons_of he
  refine goq ?_
  clear goq
  clear Gq
  exact ⟨own₁, _, fl₁, γ₁, S, h2, h3, a.go t (Sm.refl s)⟩
noncomputable def SndS (c : FC) (st : Stmt) : Prop := ∀ (r p : PSs), cS c.C r st = some p -> ∀ {F : Addr -> Prop} {own : Addr -> Option Nat} {γ : Env'} {s : Shared} {res : Flw × Env'} {Q : Flow -> Shared -> Prop} {E : Value -> Shared -> Prop}, SI c F own γ s.heap -> evSs c.Φ c.fu c.tp γ p = some res -> Aft c F own s r res Q E ->
    wpAny c.M c.A (exec st c.env) Q E s
theorem sS_none {st : Stmt} (h : ∀ r, cS c.C r st = none) : SndS c st := fun r p h' => by rw [h r] at h'; cases h'
theorem sndSs (ss : List Stmt) (ih : ∀ st ∈ ss, SndS c st) (p : PSs) (h : cSs c.C ss = some p) {F : Addr -> Prop} {own : Addr -> Option Nat} {γ : Env'} {s : Shared} {fl : Flw} {γ' : Env'} {Q : Flow -> Shared -> Prop} {E : Value -> Shared -> Prop}
    (S : SI c F own γ s.heap) (he : evSs c.Φ c.fu c.tp γ p = some (fl, γ')) (hQ : ∀ fw s', FPost c F own s fl γ' fw s' -> Q fw s') (hE : ∀ x, fl = .exc x -> ∀ e s', RPost c s x e s' -> E e s') :
    wpAny c.M c.A (execs ss c.env) Q E s := by
  induction ss generalizing p own γ s Q E with
  | nil =>
    replace h := Option.some.inj h
    subst h
    replace he := Prod.mk.inj (Option.some.inj he)
    obtain ⟨rfl, rfl⟩ := he
    exact wpAny_execs_nil (hQ .next s ⟨own, S, Tr.of_keeps fun ζ ζ e => e, Sm.refl s⟩)
  | cons st r ihr =>
    revert h
    refine bS fun b h1 h => ?_
    refine wpAny_execs_cons (ih st (.head _) b p h S he ⟨fun o₁ g₁ s₁ S₁ t₁ m₁ e₁ => ?_, fun fw s' hn x => ?_, hE⟩)
    . exact ihr (fun y hy => ih y (.tail _ hy)) b h1 S₁ e₁ (fun fw s' x => hQ fw s' (x.trans t₁ m₁)) fun c hc e s' x => hE c hc e s' (x.trans m₁)
    . cases fw with
      | next => exact (hn rfl).elim
      | _ => exact hQ _ s' x
theorem wkCall_of {C : Ctx} {e : PySem.Expr} {w : Nat × List PySem.Expr} (h : wkCall C e = some w) : ∃ f p pos, e = .Call (.Name f p) w.2 [] pos ∧ C.fn f = some w.1 := by
  refine cps fun Gq goq => ?_
  revert h
  refine bind_subR fun cp q1 h => ?_
  revert h
  refine bind_subR fun f q2 h => ?_
  revert h
  refine bS fun j h1 h => ?_
  revert h
  refine ifBR fun hc h => ?_
  refine goq ?_
  clear goq
  clear Gq
  replace h := Option.some.inj h
  subst h
  exact ⟨f.1, f.2, cp.pos, by rw [q1, q2, List.isEmpty_iff.mp (Bool.and_eq_true_iff.mp hc).2], h1⟩
theorem sS_Assign (X : SX c) (ts : List PySem.Expr) (v : PySem.Expr) (pos : Pos) : SndS c (.Assign ts v pos) := fun r p h {F own γ s res Q E} S he a => by
  refine cps fun Gq goq => ?_
  replace h := bind_some h
  obtain ⟨⟨is, q⟩, h1, h⟩ := h
  replace h := Option.some.inj h
  subst h
  obtain ⟨own₁, γ₀, fl₁, γ₁, S, h2, h3, a⟩ := pre S he a
  clear he
  refine bind_subE h1 fun t ht h1' => ?_
  refine goq ?_
  clear goq
  clear Gq
  clear h1
  subst ht
  cases t with
  | Name x px =>
    refine bind_someE h1' fun i w1 h4 => ?_
    have hx := slotNs X w1
    cases hw : wkCall c.C v with
    | some w =>
      rw [hw] at h4
      refine cps fun Gq goq => ?_
      revert h4
      refine bS fun es w2 h4 => ?_
      replace h4 := ifN h4
      obtain ⟨hb, h4⟩ := h4
      replace h4 := Prod.mk.inj (Option.some.inj h4)
      obtain ⟨rfl, rfl⟩ := h4
      obtain ⟨f, pf, cp, hv, hj⟩ := wkCall_of hw
      clear hw
      subst hv
      revert h2
      refine bS fun xs e1 h2 => ?_
      revert h2
      refine bS fun o e2 h2 => ?_
      refine goq ?_
      clear goq
      clear Gq
      cases o with
      | ret d l =>
        replace h2 : (if c.tp then some (Flw.next, γ₀.set i (.pl d)) else none) = some (fl₁, γ₁) := h2
        revert h2
        refine ifBR fun htp h2 => ?_
        replace h2 := Prod.mk.inj (Option.some.inj h2)
        obtain ⟨rfl, rfl⟩ := h2
        exact X.asgW S htp hx hj w2 ((Bool.or_eq_false_iff.mp hb).2) e1 e2 (a.left h3)
      | exc => cases h2
    | none =>
      rw [hw] at h4
      revert h4
      refine bS fun e w2 h4 => ?_
      replace h4 := Prod.mk.inj (Option.some.inj h4)
      obtain ⟨rfl, rfl⟩ := h4
      cases hb : c.C.bs.contains i with
      | true =>
        rw [hb] at h2
        revert h2
        refine bS fun rv e1 h2 => ?_
        replace h2 := Prod.mk.inj (Option.some.inj h2)
        obtain ⟨rfl, rfl⟩ := h2
        exact X.asgName S true w2 e1 hx (a.left h3)
      | false =>
        rw [hb] at h2
        revert h2
        refine bS fun rv e1 h2 => ?_
        replace h2 := Prod.mk.inj (Option.some.inj h2)
        obtain ⟨rfl, rfl⟩ := h2
        exact X.asgName S false w2 e1 hx (a.left h3)
  | Tuple ts kk pp =>
    refine cps fun Gq goq => ?_
    refine ifBE (show (if swapChk c.C ts v then (cNames c.C ts).bind fun is => (cE c.C v).bind fun e => some (rdE 0 e, PS.asgN is e) else none) = some (is, q) from h1') fun w0 h4 => ?_
    revert h4
    refine bS fun is' w1 h4 => ?_
    revert h4
    refine bS fun e w2 h4 => ?_
    replace h4 := Prod.mk.inj (Option.some.inj h4)
    obtain ⟨rfl, rfl⟩ := h4
    replace h2 := bind_some h2
    obtain ⟨⟨rd, rl⟩, e1, h2⟩ := h2
    refine goq ?_
    clear goq
    clear Gq
    cases rd with
    | tuple ds =>
      revert h2
      refine bS fun g1 e2 h2 => ?_
      replace h2 := Prod.mk.inj (Option.some.inj h2)
      obtain ⟨rfl, rfl⟩ := h2
      exact X.asgN S w0 w1 w2 e1 e2 (a.left h3)
    | _ => cases h2
  | Subscript o i sp =>
    refine cps fun Gq goq => ?_
    refine bind_subE (show (bsub (nm o) fun x => (bld c.C x.1).bind fun b => (cE c.C i).bind fun p => (cE c.C v).bind fun e => some (rdE 0 p ++ rdE 0 e, PS.put b p e)) = some (is, q) from h1') fun x hx h4 => ?_
    clear h1'
    subst hx
    revert h4
    refine bS fun b w1 h4 => ?_
    revert h4
    refine bS fun pp w2 h4 => ?_
    revert h4
    refine bS fun e w3 h4 => ?_
    replace h4 := Prod.mk.inj (Option.some.inj h4)
    obtain ⟨rfl, rfl⟩ := h4
    revert h2
    refine bS fun rv e1 h2 => ?_
    revert h2
    refine bS fun kv e2 h2 => ?_
    revert h2
    refine bS fun g1 e3 h2 => ?_
    refine goq ?_
    clear goq
    clear Gq
    replace h2 := Prod.mk.inj (Option.some.inj h2)
    obtain ⟨rfl, rfl⟩ := h2
    exact X.put S w1 w2 w3 e2 e1 e3 (a.left h3)
  | _ => cases h1'
theorem sS_Expr (X : SX c) (e : PySem.Expr) (pos : Pos) : SndS c (.Expr e pos) := fun r p h {F own γ s res Q E} S he a => by
  refine cps fun Gq goq => ?_
  replace h := bind_some h
  obtain ⟨⟨is, q⟩, h1, h⟩ := h
  replace h := Option.some.inj h
  subst h
  obtain ⟨own₁, γ₀, fl₁, γ₁, S, h2, h3, a⟩ := pre S he a
  refine bind_subE h1 fun cp q1 h4 => ?_
  revert h4
  refine ifBR fun hk h4 => ?_
  revert h4
  refine bind_subR fun at' q2 h4 => ?_
  revert h4
  refine bind_subR fun x q3 h4 => ?_
  revert h4
  refine ifBR fun hl h4 => ?_
  revert h4
  refine bind_subR fun y q4 h4 => ?_
  revert h4
  refine bS fun b w1 h4 => ?_
  revert h4
  refine bS fun es w2 h4 => ?_
  revert h4
  refine bS fun e' w3 h4 => ?_
  replace h4 := Prod.mk.inj (Option.some.inj h4)
  obtain ⟨rfl, rfl⟩ := h4
  revert h2
  refine bS fun rv e1 h2 => ?_
  revert h2
  refine bS fun g1 e2 h2 => ?_
  replace h2 := Prod.mk.inj (Option.some.inj h2)
  obtain ⟨rfl, rfl⟩ := h2
  obtain ⟨hl1, hl2⟩ := Bool.and_eq_true_iff.mp hl
  refine goq ?_
  clear goq
  clear Gq
  rw [q4, one_of w3] at w2
  rw [q1, q2, q3, List.isEmpty_iff.mp hk, q4, eq_of_beq hl2]
  exact X.app S w1 hl1 w2 e1 e2 (a.left h3)
theorem sndTs (X : SX c) {F : Addr -> Prop} {own : Addr -> Option Nat} {γ : Env'} {s : Shared} {t : PySem.Expr} {pt : PT} {b : Bool} {Q : Bool -> Shared -> Prop} {E : Value -> Shared -> Prop} (S : SI c F own γ s.heap) (h : cTs c.C t = some pt) (he : evT c.Φ γ pt = some b)
    (hQ : ∀ s', SI c F own γ s'.heap -> Tr c own s.heap own s'.heap -> Sm s s' -> Q b s') : wpAny c.M c.A (isTrue t c.env (eval t c.env)) Q E s := by
  rcases Option.or_eq_some_iff.mp h with h | ⟨_, h⟩
  . exact sndT t c.C pt h (X.H S) he fun s₁ k1 => hQ s₁ (S.keeps k1.heap) (Tr.of_keeps k1.heap) k1.sm
  . revert h
    refine ifBR fun hg h => ?_
    exact sndTG X S hg h he hQ
theorem sS_If (X : SX c) (t : PySem.Expr) {b d : List Stmt} (pos : Pos) (ihb : ∀ st ∈ b, SndS c st) (ihc : ∀ st ∈ d, SndS c st) : SndS c (.If t b d pos) := fun r p h {F own γ s res Q E} S he a => by
  refine cps fun Gq goq => ?_
  revert h
  refine bS fun pt h1 h => ?_
  revert h
  refine bS fun pb hb h => ?_
  revert h
  refine bS fun pc hc h => ?_
  replace h := Option.some.inj h
  subst h
  obtain ⟨own₁, γ₀, fl₁, γ₁, S, h2, h3, a⟩ := pre S he a
  revert h2
  refine bS fun bv e1 h2 => ?_
  refine goq ?_
  clear goq
  clear Gq
  refine wpAny_If (sndTs X S h1 e1 fun s₁ S1 t1 m1 => ?_)
  have a1 := a.go t1 m1
  cases bv with
  | true => exact sndSs b ihb pb hb S1 h2 (a1.post h3) (a1.exc' h3)
  | false => exact sndSs d ihc pc hc S1 h2 (a1.post h3) (a1.exc' h3)
theorem sS_For (X : SX c) (tg it : PySem.Expr) {body : List Stmt} (oe : List Stmt) (pos : Pos) (ihb : ∀ st ∈ body, SndS c st) : SndS c (.For tg it body oe pos) := fun r p h {F own γ s res Q E} S he a => by
  refine cps fun Gq goq => ?_
  revert h
  refine ifBR fun hoe h => ?_
  revert h
  refine bS fun is h1 h => ?_
  revert h
  refine bS fun pi hi h => ?_
  revert h
  refine bS fun pb hb h => ?_
  revert h
  refine ifBR fun htw h => ?_
  replace h := Option.some.inj h
  subst h
  obtain ⟨own₁, γ₀, fl₁, γ₁, S, h2, h3, a⟩ := pre S he a
  revert h2
  refine bS fun xs e1 h2 => ?_
  refine goq ?_
  clear goq
  clear Gq
  rw [List.isEmpty_iff.mp hoe]
  exact X.for_ S h1 hi htw e1 h2 (fun F₁ o₁ g₁ g₂ s₁ f₁ Q₁ E₁ ev hne S₁ hQ₁ => sndSs body ihb pb hb S₁ ev hQ₁ fun c hc => (hne c hc).elim) (a.post h3)
theorem sS_While (X : SX c) (t : PySem.Expr) {body : List Stmt} (oe : List Stmt) (pos : Pos) (ihb : ∀ st ∈ body, SndS c st) : SndS c (.While t body oe pos) := fun r p h {F own γ s res Q E} S he a => by
  refine cps fun Gq goq => ?_
  revert h
  refine ifBR fun hoe h => ?_
  replace hoe := Bool.and_eq_true_iff.mp hoe
  obtain ⟨hoe, ht⟩ := hoe
  revert h
  refine bS fun pb hb h => ?_
  replace h := Option.some.inj h
  subst h
  obtain ⟨fl₁, γ₁, h2, h3⟩ := cons_of he
  refine goq ?_
  clear goq
  clear Gq
  rw [List.isEmpty_iff.mp hoe]
  obtain ⟨kk, tp, rfl⟩ : ∃ kk tp, t = .Constant (.bool true) kk tp := by
    cases t with
    | Constant k kk tp =>
      cases k with
      | bool b => cases b with
        | true => exact ⟨_, _, rfl⟩
        | false => cases ht
      | _ => cases ht
    | _ => cases ht
  exact X.while_ S h2 (fun o₁ g₁ g₂ s₁ f₁ Q₁ E₁ ev hne S₁ hQ₁ => sndSs body ihb pb hb S₁ ev hQ₁ fun c hc => (hne c hc).elim) (a.post h3)
theorem sS_Return (X : SX c) (v : Option PySem.Expr) (pos : Pos) : SndS c (.Return v pos) := fun r p h {F own γ s res Q E} S he a => by
  refine cps fun Gq goq => ?_
  replace h := bind_some h
  obtain ⟨⟨is, q⟩, h1, h⟩ := h
  replace h := Option.some.inj h
  subst h
  obtain ⟨own₁, γ₀, fl₁, γ₁, S, h2, h3, a⟩ := pre S he a
  refine goq ?_
  clear goq
  clear Gq
  cases v with
  | none => cases h1
  | some v =>
    have h4 : (match isBld c.C v with
      | some i => some ([], .retv i)
      | none => (cE c.C v).bind fun e => some (rdE 0 e, .ret e)) = some (is, q) := h1
    clear h1
    cases hi : isBld c.C v with
    | some i =>
      rw [hi] at h4
      replace h4 := Prod.mk.inj (Option.some.inj h4)
      obtain ⟨rfl, rfl⟩ := h4
      refine bind_subE hi fun x hx hi' => ?_
      clear hi
      subst hx
      exact X.retv S hi' h2 (a.post h3)
    | none =>
      rw [hi] at h4
      revert h4
      refine bS fun e h5 h4 => ?_
      replace h4 := Prod.mk.inj (Option.some.inj h4)
      obtain ⟨rfl, rfl⟩ := h4
      revert h2
      refine bS fun rv e1 h2 => ?_
      replace h2 := Prod.mk.inj (Option.some.inj h2)
      obtain ⟨rfl, rfl⟩ := h2
      exact X.ret S h5 e1 fun v s' q1 q2 q3 => a.post h3 (.ret v) s' ⟨q1, q2, q3⟩
theorem sS_Raise (X : SX c) (ex ca : Option PySem.Expr) (pos : Pos) : SndS c (.Raise ex ca pos) := fun r p h {F own γ s res Q E} S he a => by
  refine cps fun Gq goq => ?_
  replace h := bind_some h
  obtain ⟨⟨is, q⟩, h1, h⟩ := h
  replace h := Option.some.inj h
  subst h
  obtain ⟨own₁, γ₀, fl₁, γ₁, S, h2, h3, a⟩ := pre S he a
  refine goq ?_
  clear goq
  clear Gq
  cases ex with
  | none => cases h1
  | some e => cases ca with
    | some _ => cases h1
    | none =>
      refine cps fun Gq goq => ?_
      refine bind_subE (show (bsub (callOf e) fun c' => if c'.ks.isEmpty then bsub (nm c'.f) fun x => bsub (oneE c'.as) fun a => bsub (conOf a) fun k => bsub (strOf k.1) fun m => (exIdx c.C x.1).bind fun ci => if m.length ≤ lenLim then some ([], PS.raise ci m) else none else none) = some (is, q) from h1) fun cp q1 h4 => ?_
      clear h1
      revert h4
      refine ifBR fun hk h4 => ?_
      revert h4
      refine bind_subR fun x q2 h4 => ?_
      revert h4
      refine bind_subR fun y q3 h4 => ?_
      revert h4
      refine bind_subR fun k q4 h4 => ?_
      revert h4
      refine bind_subR fun m q5 h4 => ?_
      revert h4
      refine bS fun ci w1 h4 => ?_
      revert h4
      refine ifBR fun hm h4 => ?_
      refine goq ?_
      clear goq
      clear Gq
      replace h4 := Prod.mk.inj (Option.some.inj h4)
      obtain ⟨rfl, rfl⟩ := h4
      replace h2 := Prod.mk.inj (Option.some.inj h2)
      obtain ⟨rfl, rfl⟩ := h2
      rw [q1, q2, List.isEmpty_iff.mp hk, q3, q4, q5]
      exact X.raise S w1 hm fun e s' x => a.exc' h3 ci rfl e s' x
theorem hnd_of {C : Ctx} {hs : List ExceptHandler} {h : Hnd} (e : cHnd C hs = some h) : ∃ ex ep y py kc kk kp ap hp, hs = [.ExceptHandler (some (.Name ex ep)) none [.Assign [.Name y py] (.Constant kc kk kp) ap] hp] ∧ exIdx C ex = some h.c ∧ C.slot y = some h.y ∧ cConst kc = some h.d := by
  refine cps fun Gq goq => ?_
  revert e
  refine bind_subR fun h0 q1 e => ?_
  revert e
  refine bind_subR fun h1 q2 e => ?_
  revert e
  refine bind_subR fun ex q3 e => ?_
  revert e
  refine bind_subR fun a q4 e => ?_
  revert e
  refine bind_subR fun t q5 e => ?_
  revert e
  refine bind_subR fun y q6 e => ?_
  revert e
  refine bind_subR fun k q7 e => ?_
  revert e
  refine bS fun ci w1 e => ?_
  revert e
  refine bS fun yi w2 e => ?_
  revert e
  refine bS fun d w3 e => ?_
  refine goq ?_
  clear goq
  clear Gq
  replace e := Option.some.inj e
  subst e
  refine ⟨ex.1, ex.2, y.1, y.2, k.1, k.2.1, k.2.2, a.2.2, h1.2.2, ?_, w1, w2, w3⟩
  rw [q1, q2, q3, q4, q5, q6, q7]
theorem sS_Try (X : SX c) (body : List Stmt) (hs : List ExceptHandler) (oe fb : List Stmt) (pos : Pos) : SndS c (.Try body hs oe fb pos) := fun r p h {F own γ s res Q E} S he a => by
  refine cps fun Gq goq => ?_
  revert h
  refine ifBR fun hoe h => ?_
  replace h := bind_some h
  obtain ⟨⟨is, q⟩, h1, h⟩ := h
  replace h := Option.some.inj h
  subst h
  obtain ⟨own₁, γ₀, fl₁, γ₁, S, h2, h3, a⟩ := pre S he a
  clear he
  obtain ⟨ho, hf⟩ := Bool.and_eq_true_iff.mp hoe
  refine bind_subE h1 fun st q1 h4 => ?_
  revert h4
  refine bind_subR fun as q2 h4 => ?_
  revert h4
  refine bind_subR fun t q3 h4 => ?_
  revert h4
  refine bind_subR fun x q4 h4 => ?_
  revert h4
  refine bS fun i w1 h4 => ?_
  revert h4
  refine bS fun hd w2 h4 => ?_
  obtain ⟨ex, ep, y, py, kc, kk, kp, ap, hp, q5, w3, w4, w5⟩ := hnd_of w2
  refine goq ?_
  clear goq
  clear Gq
  rw [List.isEmpty_iff.mp ho, List.isEmpty_iff.mp hf, q5, q1, q2, q3, q4]
  clear h1
  cases hc : callOf as.2.1 with
  | some cp =>
    rw [hc] at h4
    refine cps fun Gq goq => ?_
    replace h4 : cTryC c.C i hd cp.1 = some (is, q) := h4
    revert h4
    refine bind_subR fun f q6 h4 => ?_
    revert h4
    refine bS fun j w6 h4 => ?_
    revert h4
    refine bS fun es w7 h4 => ?_
    replace h4 := ifN h4
    obtain ⟨hn, h4⟩ := h4
    replace h4 := Prod.mk.inj (Option.some.inj h4)
    obtain ⟨rfl, rfl⟩ := h4
    obtain ⟨hn1, hn2⟩ := Bool.or_eq_false_iff.mp hn
    refine goq ?_
    clear goq
    clear Gq
    have hks : cp.1.ks = [] := List.isEmpty_iff.mp (by simpa using hn2)
    rw [cp.2, q6, hks]
    exact X.tryC S w1 w6 w7 w3 w4 w5 hn1 h2 (a.post h3)
  | none =>
    rw [hc] at h4
    refine cps fun Gq goq => ?_
    revert h4
    refine bind_subR fun lc q6 h4 => ?_
    replace h4 : cTryM c.C x.1 i hd lc = some (is, q) := h4
    revert h4
    refine bS fun g w6 h4 => ?_
    revert h4
    refine ifBR fun hcc h4 => ?_
    revert h4
    refine bS fun it w7 h4 => ?_
    revert h4
    refine bind_subR fun cp q7 h4 => ?_
    revert h4
    refine bind_subR fun f q8 h4 => ?_
    revert h4
    refine bS fun j w8 h4 => ?_
    revert h4
    refine bS fun es w9 h4 => ?_
    replace h4 := ifN h4
    obtain ⟨hn, h4⟩ := h4
    replace h4 := Prod.mk.inj (Option.some.inj h4)
    obtain ⟨rfl, rfl⟩ := h4
    replace hn := Bool.or_eq_false_iff.mp hn
    obtain ⟨hn, hn3⟩ := hn
    obtain ⟨hn1, hn2⟩ := Bool.or_eq_false_iff.mp hn
    have hks : cp.ks = [] := List.isEmpty_iff.mp (by simpa using hn2)
    replace hcc := Bool.and_eq_true_iff.mp hcc
    obtain ⟨hcc, _⟩ := hcc
    replace hcc := Bool.and_eq_true_iff.mp hcc
    obtain ⟨hcc, _⟩ := hcc
    replace hcc := Bool.and_eq_true_iff.mp hcc
    obtain ⟨hcc, hts⟩ := hcc
    refine goq ?_
    clear goq
    clear Gq
    rw [q6, q7, q8, hks]
    exact X.tryM S w1 w6 hcc (by simpa using hts) w7 w8 w9 (by simpa using hn3) w3 w4 w5 hn1 h2 (a.post h3)
theorem snd_stmt (X : SX c) : ∀ (n : Nat) (st : Stmt), sizeOf st < n -> SndS c st
  | 0, _, h => absurd h (Nat.not_lt_zero _)
  | n + 1, st, hn => by
    have ih := fun st h => snd_stmt X n st h
    have ihs : ∀ {ss : List Stmt}, sizeOf ss < n -> ∀ st ∈ ss, SndS c st := fun h st hs => ih st (Nat.lt_trans (List.sizeOf_lt_of_mem hs) h)
    cases st with
    | Assign ts v pos => exact sS_Assign X ts v pos
    | Expr e pos => exact sS_Expr X e pos
    | If t a b pos =>
      simp only [Stmt.If.sizeOf_spec] at hn
      exact sS_If X t pos (ihs (sz4 hn).2.1) (ihs (sz4 hn).2.2.1)
    | For tg it body oe pos =>
      simp only [Stmt.For.sizeOf_spec] at hn
      exact sS_For X tg it oe pos (ihs (by omega))
    | While t body oe pos =>
      simp only [Stmt.While.sizeOf_spec] at hn
      exact sS_While X t oe pos (ihs (sz4 hn).2.1)
    | Return v pos => exact sS_Return X v pos
    | Raise ex ca pos => exact sS_Raise X ex ca pos
    | Try body hs oe fb pos => exact sS_Try X body hs oe fb pos
    | Continue pos =>
      exact fun r p h {F own γ s res Q E} S he a => by
        replace h := Option.some.inj h
        subst h
        refine cps fun Gq goq => ?_
        obtain ⟨fl₁, γ₁, h2, h3⟩ := cons_of he
        refine goq ?_
        clear goq
        clear Gq
        replace h2 := Prod.mk.inj (Option.some.inj h2)
        obtain ⟨rfl, rfl⟩ := h2
        exact wpAny_Continue (a.post h3 .cont s ⟨own, S, Tr.of_keeps fun ζ ζ e => e, Sm.refl s⟩)
    | Break pos =>
      exact fun r p h {F own γ s res Q E} S he a => by
        replace h := Option.some.inj h
        subst h
        refine cps fun Gq goq => ?_
        obtain ⟨fl₁, γ₁, h2, h3⟩ := cons_of he
        refine goq ?_
        clear goq
        clear Gq
        replace h2 := Prod.mk.inj (Option.some.inj h2)
        obtain ⟨rfl, rfl⟩ := h2
        exact wpAny_Break (a.post h3 .brk s ⟨own, S, Tr.of_keeps fun ζ ζ e => e, Sm.refl s⟩)
    | _ => exact sS_none fun ζ => rfl
theorem sndSsA (X : SX c) (ss : List Stmt) (p : PSs) (h : cSs c.C ss = some p) {F : Addr -> Prop} {own : Addr -> Option Nat} {γ : Env'} {s : Shared} {fl : Flw} {γ' : Env'} {Q : Flow -> Shared -> Prop} {E : Value -> Shared -> Prop}
    (S : SI c F own γ s.heap) (he : evSs c.Φ c.fu c.tp γ p = some (fl, γ')) (hQ : ∀ fw s', FPost c F own s fl γ' fw s' -> Q fw s') (hE : ∀ x, fl = .exc x -> ∀ e s', RPost c s x e s' -> E e s') :
    wpAny c.M c.A (execs ss c.env) Q E s := sndSs ss (fun st ζ => snd_stmt X _ st (Nat.lt_succ_self _)) p h S he hQ hE
end
end Mine
end
section
set_option maxRecDepth 100000
namespace Mine
open PySem PyProof.Rows
theorem zip_lookup : ∀ {xs : List Str} {vs : List Value}, xs.Nodup -> xs.length = vs.length -> ∀ {i : Nat} {x : Str} {v : Value}, xs[i]? = some x -> vs[i]? = some v -> (xs.zip vs).lookup x = some v
  | [], _, _, _, i, x, v, h1, _ => nomatch h1
  | y :: ys, [], _, hl, _, _, _, _, _ => nomatch hl
  | y :: ys, w :: ws, hn, hl, 0, x, v, h1, h2 => by
    replace h1 := Option.some.inj h1
    subst h1
    replace h2 := Option.some.inj h2
    subst h2
    rw [List.zip_cons_cons, List.lookup_cons, beq_self_eq_true]
  | y :: ys, w :: ws, hn, hl, i + 1, x, v, h1, h2 => by
    replace h1 : ys[i]? = some x := h1
    have hne : (x == y) = false := beq_eq_false_iff_ne.mpr fun z => (List.nodup_cons.mp hn).1 (z ▸ List.mem_of_getElem? h1)
    rw [List.zip_cons_cons, List.lookup_cons, hne]
    exact zip_lookup (List.nodup_cons.mp hn).2 (Nat.succ.inj hl) h1 h2
theorem zip_isSome {xs : List Str} {vs : List Value} (hn : xs.Nodup) (hl : xs.length = vs.length) {x : Str} (hx : x ∈ xs) : ((xs.zip vs).lookup x).isNone = false := by
  obtain ⟨i, hi⟩ := List.getElem?_of_mem hx
  have hlt : i < vs.length := by rw [← hl]; exact (List.getElem?_eq_some_iff.mp hi).1
  rw [zip_lookup hn hl hi (List.getElem?_eq_getElem hlt)]
  rfl
theorem filterMap_zip : ∀ {xs : List Str} {vs : List Value} (l : List (Str × Value)), xs.length = vs.length -> (∀ (i : Nat) (x : Str) (v : Value), xs[i]? = some x -> vs[i]? = some v -> l.lookup x = some v) ->
    xs.filterMap (fun n => (l.lookup n).map (n, ·)) = xs.zip vs
  | [], [], _, _, _ => rfl
  | [], _ :: _, _, hl, _ => nomatch hl
  | _ :: _, [], _, hl, _ => nomatch hl
  | y :: ys, w :: ws, l, hl, h => by
    rw [List.filterMap_cons, h 0 y w rfl rfl]
    exact congrArg ((y, w) :: ·) (filterMap_zip l (Nat.succ.inj hl) fun i x v h1 h2 => h (i + 1) x v h1 h2)
theorem bind_plain {name : Str} {as : List Arg} {body : List Stmt} {sc : Scope} {pm cd doc : Value} {vs : List Value} (hn : (as.map (·.arg)).Nodup) (hl : (as.map (·.arg)).length = vs.length) :
    bindArgs (Calls.docDef name ⟨[], as, none, [], [], none, []⟩ body sc pm cd doc) ⟨vs, []⟩ = pure ((as.map (·.arg)).zip vs) := by
  have h1 : ((as.map (·.arg)).filter fun n => (((as.map (·.arg)).zip vs).lookup n).isNone) = [] := by
    rw [List.filter_eq_nil_iff]
    intro x hx
    rw [zip_isSome hn hl hx]
    decide
  have h2 := filterMap_zip ((as.map (·.arg)).zip vs) hl fun i x v e1 e2 => zip_lookup hn hl e1 e2
  have h6 : (as.map (·.arg)).take (as.map (·.arg)).length = as.map (·.arg) := List.take_length
  have h5 : ¬ ((decide (vs.length > (as.map (·.arg)).length) && true) = true) := by
    rw [hl, decide_eq_false (Nat.lt_irrefl _)]
    exact Bool.false_ne_true
  have h7 : ¬ ((!(((as.map (·.arg)).take ((as.map (·.arg)).length - (List.drop (([] : List Value).length - (as.map (·.arg)).length) ([] : List Value)).length)).filter fun n => (((as.map (·.arg)).zip vs).lookup n).isNone).isEmpty) = true) := by
    rw [List.drop_nil, List.length_nil, Nat.sub_zero, h6, h1]
    exact Bool.false_ne_true
  refine Eq.trans (if_neg h5) ?_
  refine Eq.trans (if_neg h7) ?_
  have hd : List.drop (([] : List Value).length - (as.map (·.arg)).length) ([] : List Value) = [] := List.drop_nil
  have h3 : ((as.map (·.arg)).drop ((as.map (·.arg)).length - (List.drop (([] : List Value).length - (as.map (·.arg)).length) ([] : List Value)).length)).zip (List.drop (([] : List Value).length - (as.map (·.arg)).length) ([] : List Value)) = [] := by rw [hd]; exact List.zip_nil_right
  change (forIn (((as.map (·.arg)).drop ((as.map (·.arg)).length - (List.drop (([] : List Value).length - (as.map (·.arg)).length) ([] : List Value)).length)).zip (List.drop (([] : List Value).length - (as.map (·.arg)).length) ([] : List Value))) _ _ >>= _) = _
  rw [h3]
  have h8 : ((as.map fun x => x.arg) ++ ([] : List Str)).filterMap (fun n => (((as.map fun x => x.arg).zip vs).lookup n).map (n, ·)) = (as.map (·.arg)).zip vs := by rw [List.append_nil]; exact h2
  exact congrArg (fun b => (pure b : Sem (List (Str × Value)))) h8
noncomputable def fnChk (C : Ctx) (sc : Scope) (ns : List Str) : Bool :=
  decide (C.ns = ns.map some) && decide ns.Nodup && sc.kind == .function && decide ((cellsFrom 0 sc.names []).map (·.1)).Nodup &&
    ns.all (fun x => (sc.names.lookup x == some .local && sc.names.all (fun y => y.2 != .cell || y.1 != x)) || sc.names.lookup x == some .cell)
theorem lookup_nodup {l : List (Str × Addr)} {x : Str} {k : Addr} (hn : (l.map (·.1)).Nodup) (h : (x, k) ∈ l) : l.lookup x = some k := by
  induction l with
  | nil => cases h
  | cons p r ih =>
    obtain ⟨y, c⟩ := p
    obtain ⟨h1, h2⟩ := List.nodup_cons.mp hn
    rw [List.lookup_cons]
    cases h with
    | head => rw [beq_self_eq_true]
    | tail _ h =>
      rw [show (x == y) = false from beq_eq_false_iff_ne.mpr fun z => h1 (z ▸ List.mem_map.mpr ⟨_, h, rfl⟩)]
      exact ih h2 h
theorem FnOk.of {fns : List Str} {excs : List Str} {wk : List Nat} {gen : Bool} {bn : List Str} {sc : Scope} {ns : List Str} (h : fnChk (mkCtx fns excs wk gen ns bn sc) sc ns = true) : FnOk (mkCtx fns excs wk gen ns bn sc) sc ns ∧ ∀ n, ((cellsFrom n sc.names []).map (·.1)).Nodup := by
  unfold fnChk at h
  simp only [Bool.and_eq_true, decide_eq_true_eq, List.all_eq_true, Bool.or_eq_true, beq_iff_eq, bne_iff_ne] at h
  refine cps fun Gq goq => ?_
  obtain ⟨⟨⟨⟨h1, h2⟩, h3⟩, h4⟩, h5⟩ := h
  refine goq ?_
  clear goq
  clear Gq
  refine ⟨⟨h1, h2, h3, rfl, fun x hx => ?_, fun x hx => (h5 x hx).imp (fun q => ⟨q.1, fun y hy e => (q.2 y hy).resolve_left (fun z => z e)⟩) id⟩, fun n => ?_⟩
  . obtain ⟨⟨y, k⟩, q1, q2⟩ := List.mem_map.mp (show x ∈ (sc.names.filter fun x => x.2 == .cell).map (·.1) from hx)
    obtain ⟨q3, q4⟩ := List.mem_filter.mp q1
    replace q4 : k = .cell := eq_of_beq q4
    replace q2 : y = x := q2
    rw [← q4, ← q2]
    exact q3
  . rw [cellsFrom_names sc.names n 0 [] [] rfl]
    exact h4
theorem bindL_other (ko : Str -> Option NameKind) {x : Str} : ∀ (l : List (Str × Value)) (m : Str -> Option Value), x ∉ l.map (·.1) -> bindL ko l m x = m x
  | [], _, _ => rfl
  | (n, v) :: r, m, h => by
    simp only [List.map_cons, List.mem_cons, not_or] at h
    rw [bindL, bindL_other ko r _ h.2]
    split <;> simp [h.1]
theorem bindC_other (ko : Str -> Option NameKind) {x : Str} : ∀ (l : List (Str × Value)) (m : Str -> Option Value), x ∉ l.map (·.1) -> PySem.bindC ko l m x = m x
  | [], _, _ => rfl
  | (n, v) :: r, m, h => by
    simp only [List.map_cons, List.mem_cons, not_or] at h
    rw [PySem.bindC, bindC_other ko r _ h.2]
    split <;> simp [h.1]
theorem zip_not {y : Str} {ys : List Str} {ws : List Value} (h : y ∉ ys) : y ∉ (ys.zip ws).map (·.1) := fun z => h (by
  obtain ⟨p, hp, rfl⟩ := List.mem_map.mp z
  exact (List.of_mem_zip hp).1)
theorem bindL_at (ko : Str -> Option NameKind) {x : Str} (hk : ko x = some .local) : ∀ (xs : List Str) (vs : List Value) (m : Str -> Option Value), xs.Nodup -> ∀ (i : Nat) (v : Value), xs[i]? = some x -> vs[i]? = some v -> bindL ko (xs.zip vs) m x = some v
  | [], _, _, _, i, v, h, _ => nomatch h
  | _ :: _, [], _, _, i, v, _, h => nomatch h
  | y :: ys, w :: ws, m, hn, 0, v, h1, h2 => by
    replace h1 := Option.some.inj h1
    subst h1
    replace h2 := Option.some.inj h2
    subst h2
    rw [List.zip_cons_cons, bindL, bindL_other _ _ _ (zip_not (List.nodup_cons.mp hn).1)]
    simp [hk]
  | y :: ys, w :: ws, m, hn, i + 1, v, h1, h2 => by
    rw [List.zip_cons_cons, bindL]
    exact bindL_at ko hk ys ws _ (List.nodup_cons.mp hn).2 i v h1 h2
theorem bindC_at (ko : Str -> Option NameKind) {x : Str} (hk : ko x ≠ some .local) : ∀ (xs : List Str) (vs : List Value) (m : Str -> Option Value), xs.Nodup -> ∀ (i : Nat) (v : Value), xs[i]? = some x -> vs[i]? = some v -> PySem.bindC ko (xs.zip vs) m x = some v
  | [], _, _, _, i, v, h, _ => nomatch h
  | _ :: _, [], _, _, i, v, _, h => nomatch h
  | y :: ys, w :: ws, m, hn, 0, v, h1, h2 => by
    replace h1 := Option.some.inj h1
    subst h1
    replace h2 := Option.some.inj h2
    subst h2
    rw [List.zip_cons_cons, PySem.bindC, bindC_other _ _ _ (zip_not (List.nodup_cons.mp hn).1)]
    simp [hk]
  | y :: ys, w :: ws, m, hn, i + 1, v, h1, h2 => by
    rw [List.zip_cons_cons, PySem.bindC]
    exact bindC_at ko hk ys ws _ (List.nodup_cons.mp hn).2 i v h1 h2
structure DefOk (G : GCtx) (name : Str) (params : Arguments) (body : List Stmt) (sc : Scope) (f : PFun) : Prop where
  ex : ∃ (C : Ctx) (as : List Arg), C.gen = f.gen ∧ CG G C ∧ cSs C body = some f.body ∧ FnOk C sc f.ns ∧ params = ⟨[], as, none, [], [], none, []⟩ ∧ as.map (·.arg) = f.ns.take f.params ∧ f.params ≤ f.ns.length
  nd : ∀ n, ((cellsFrom n sc.names []).map (·.1)).Nodup
  co : sc.isCoroutine = false
  gen : sc.isGenerator = false
theorem runs {G : GCtx} {Φ : Funs} {fu j : Nat} {tp : Bool} {f : PFun} {name : Str} {params : Arguments} {body : List Stmt} {sc : Scope} {pm code doc : Value} {a : Addr} {o : Obj} {args : List PyData} {out : Out} (g : GOk G) (D : DefOk G name params body sc f)
    (ho : G.hB.get? a = some o) (hd : o.data = .func (Calls.docDef name params body sc pm code doc)) (hcd : G.hB.CodeRec code name)
    (real : Reals G Φ j) (he : evF Φ fu tp f args = some out)
    {A : Around} {s : Shared} {outer : List Env} {F : Addr -> Prop} {vs : List Value} {Q E : Value -> Shared -> Prop} (gp : Option (Addr × Addr)) (hgp : ∀ cc P, gp = some (cc, P) -> code = .ref cc ∧ G.hB.get? P = none ∧ ∃ ps, s.heap.IsCode cc P ps ∧ s.heap.TableAt cc P ps) (hng : ∀ x, out = .exc x -> gp = none) (hfg : f.gen = true -> tp = true ∧ ∃ cc P, gp = some (cc, P)) (ok : Ok G (j + 1) A s) (hfr : A.frames = some outer) (al : Alloc F s.heap) (rv : RDs s.heap F vs args)
    (hQ : ∀ d l, out = .ret d l -> ∀ v s', Sm s s' -> (∀ b o, s.heap.get? b = some o -> ¬ (tp = true ∧ (b ∈ frs outer ∨ ∃ cc, gp = some (cc, b))) -> s'.heap.get? b = some o) -> (∀ cc P, gp = some (cc, P) -> ∃ ps, s'.heap.IsCode cc P ps ∧ s'.heap.TableAt cc P ps) -> s.heap.UpToSlots s'.heap -> Val F s.heap s'.heap v (d, l) -> Q v s') (hE : ∀ x, out = .exc x -> ∀ e s', ExcPost G A x e s s' -> E e s') :
    wpAny (model G.prog G.w) A (call (.ref a) vs) Q E s := by
  refine cps fun Gq goq => ?_
  obtain ⟨⟨C, as, hcg, cg, hc, K, rfl, hna, hle⟩, hnd', hco, hgen⟩ := D
  refine ifBE he fun hlen he => ?_
  replace he := bind_some he
  obtain ⟨⟨fl, γ'⟩, ev, he⟩ := he
  refine goq ?_
  clear goq
  clear Gq
  have hnd : (as.map (·.arg)).Nodup := by rw [hna]; exact K.nodup.sublist (List.take_sublist _ _)
  have hl : (as.map (·.arg)).length = vs.length := by
    rw [hna, List.length_take, rv.length, hlen, Nat.min_eq_left hle]
  refine wpAny_call (call_cells (Nat.lt_of_le_of_lt (Nat.le_add_right _ _) ok.dp) (ok.kb _ _ ho) hd (g.nolimit.keeps ok.kb) (hcd.keeps ok.kb) (bind_plain hnd hl) (fun x hx => ?_) (fun h₁ tk F1 Y => ?_) hco hgen K.kind)
  . have hx1 : x.1 ∈ f.ns := by
      have := (List.of_mem_zip (show (x.1, x.2) ∈ _ from hx)).1
      rw [hna] at this
      exact List.mem_of_mem_take this
    rcases K.var x.1 hx1 with ⟨q1, _⟩ | q1
    . exact .inl q1
    . obtain ⟨c, hc⟩ := nc_has (n := s.heap.objs.size + 1) (mem_of_lookup q1)
      exact .inr ⟨q1, by rw [hc]; rfl⟩
  . let c : FC := ⟨G, Φ, j, C, f.ns, name, sc, s.heap.objs.size, a, code, s.heap, A, outer, fu, tp, gp⟩
    have ff : Frs G s.heap outer := by
      obtain ⟨o', q1, q2⟩ := ok.fr
      rw [hfr] at q1
      replace q1 := Option.some.inj q1
      subst q1
      exact q2
    have X : SX c := ⟨g, real, cg, K, ok.hh, ok.dp, ok.un, ok.kb, hfr, ff, fun b hb => by
      rcases hb with hb | ⟨x, hb⟩
      . rw [show b = s.heap.objs.size from hb]; exact fresh_size _
      . exact Heap.get?_none_of_le (Nat.le_of_lt (Y.above x b hb)), fun cc P e => by
      obtain ⟨q1, q2, ps, ⟨o, _, _, _, _, _, _, _, _, op, ho, _, _, _, _, _, _, hop, hpd, _⟩, _⟩ := hgp cc P e
      exact ⟨q1, q2, ⟨o, ho⟩, op, hop, ps, hpd⟩, fun q => hfg (hcg ▸ q)⟩
    have S : SI c F (fun ζ => none) (args.map Slot.pl ++ List.replicate (f.ns.length - f.params) Slot.un) h₁ := by
      refine ⟨⟨⟨_, F1.ns⟩, fun x k hm => ⟨_, Y.cell x k (lookup_nodup (hnd' _) hm)⟩, Y.apart, fun x k hm => Nat.ne_of_gt (Y.above x k hm)⟩, fun i x sl e1 e2 => ?_, fun b o e ζ => F1.keep b o e, .of_keeps F1.keep, nofun, al.keeps F1.keep, fun cc P e => let ⟨_, _, ps, x⟩ := hgp cc P e; ⟨ps, tab_at x (F1.keep cc) (F1.keep P)⟩⟩
      by_cases hi : i < args.length
      . rw [List.getElem?_append_left (by rw [List.length_map]; exact hi), List.getElem?_map] at e2
        obtain ⟨d, e3, rfl⟩ := Option.map_eq_some_iff.mp e2
        obtain ⟨v, e4, r⟩ := rv.get e3
        have e5 : (as.map (·.arg))[i]? = some x := by rw [hna, List.getElem?_take_of_lt (hlen ▸ hi)]; exact e1
        refine ⟨v, ?_, (r.keeps F1.keep).weak fun b q => .inl (q.elim id fun z => (z rfl).elim)⟩
        rcases K.var x (List.mem_of_getElem? e1) with ⟨k1, k2⟩ | k1
        . exact .inl ⟨k1, nc_none k2, _, F1.ns, bindL_at _ k1 _ _ _ hnd i v e5 e4⟩
        . obtain ⟨k, hk⟩ := nc_has (n := s.heap.objs.size + 1) (mem_of_lookup k1)
          refine .inr ⟨.inl k1, k, hk, ?_⟩
          have := Y.cell x k hk
          rw [bindC_at _ (by show sc.names.lookup x ≠ _; rw [k1]; exact nofun) _ _ _ hnd i v e5 e4] at this
          exact this
      . rw [List.getElem?_append_right (by rw [List.length_map]; exact Nat.not_lt.mp hi)] at e2
        rw [(List.mem_replicate.mp (List.mem_of_getElem? e2)).2]
        trivial
    have sm0 : Sm s { s with heap := h₁, toks := tk } := .put _ _ _
    refine sndSsA X body f.body hc (s := { s with heap := h₁, toks := tk }) S ev (fun fw s' x => ?_) fun x hx e s' y => ?_
    . cases fl with
      | next => cases fw with
        | next =>
          obtain ⟨own', S', _, m'⟩ := x
          replace he := Option.some.inj he
          subst he
          exact hQ _ _ rfl _ _ (sm0.trans m') S'.keep S'.tab S'.up (.of .none)
        | _ => exact x.elim
      | ret d l => cases fw with
        | ret v =>
          obtain ⟨x1, x2, x3⟩ := x
          replace he := Option.some.inj he
          subst he
          exact hQ _ _ rfl _ _ (sm0.trans x3) x2.1 x2.2.2 x2.2.1 x1
        | _ => exact x.elim
      | brk => cases he
      | cont => cases he
      | exc c => cases fw <;> exact x.elim
    . subst hx
      replace he := Option.some.inj he
      subst he
      refine cps fun Gq goq => ?_
      obtain ⟨ea, F₁, own₁, γ₁, h₂, as', cv, rfl, S₂, hxv, hmk, m₂⟩ := y
      refine goq ?_
      clear goq
      clear Gq
      have hin : ∀ env ∈ (c.env :: outer), ∀ b, env.frame = some b -> b ∈ frs (c.env :: outer) := fun env he b hb => List.mem_filterMap.mpr ⟨env, he, hb⟩
      refine wpAny_leaves_madeW (base := PySem.W.hideAll h₂ (frs (c.env :: outer))) (Around.frames_deeper hfr) rfl (fun b o q => PySem.W.of_hideAll _ q) (PySem.W.funFrames_hide (FrsB.ff (X.frs S₂)) hin) hmk fun h' t x1 x2 x3 x4 => ?_
      refine hE x rfl _ _ ⟨ea, _, outer, _, cv, hxv, rfl, hfr, x1, fun b o e hn => PySem.W.hideAll_get _ (S₂.keep b o e fun w => w.2.elim hn fun ⟨cc, z⟩ => by rw [show c.gp = none from hng x rfl] at z; cases z) ?_, (S₂.up.trans (.of_keeps hmk.keeps)).trans x4, (sm0.trans m₂).puts _ _⟩
      show b ∉ s.heap.objs.size :: frs outer
      rw [List.mem_cons, not_or]
      exact ⟨Nat.ne_of_lt (Heap.lt_size e), hn⟩
noncomputable def DefAt (G : GCtx) (f : PFun) : Prop :=
  ∃ name params body sc pm code doc a o, G.mg f.name = some (.ref a) ∧ G.hB.get? a = some o ∧ o.data = .func (Calls.docDef name params body sc pm code doc) ∧ G.hB.CodeRec code name ∧ DefOk G name params body sc f
theorem towerReal {G : GCtx} (g : GOk G) (hd : ∀ (j : Nat) (f : PFun), G.fs[j]? = some f -> DefAt G f) (fu : Nat) : ∀ (k : Nat), k ≤ 1000 -> (∀ (j : Nat) (f : PFun), j < k -> G.fs[j]? = some f -> f.gen = false) -> Reals G (tower G.fs fu k) k
  | 0, _, _ => ⟨nofun, nofun⟩
  | k + 1, hk, hgn => by
    have ih := towerReal g hd fu k (Nat.le_of_succ_le hk) fun j f hj => hgn j f (Nat.lt_succ_of_lt hj)
    have up : ∀ {j args out}, tower G.fs fu k j args = some out -> (j < 1000 -> j < k + 1 ∧ Realizes G j args out) := fun h hj => let ⟨a, b⟩ := ih.1 _ _ _ h hj; ⟨Nat.lt_succ_of_lt a, b⟩
    have upW : ∀ {j args out}, tower G.fs fu k (1000 + j) args = some out -> j < k + 1 ∧ RealizesW G j args out := fun h => let ⟨a, b⟩ := ih.2 _ _ _ h; ⟨Nat.lt_succ_of_lt a, b⟩
    cases hf : G.fs[k]? with
    | none =>
      have e : tower G.fs fu (k + 1) = tower G.fs fu k := by funext j args; show (match G.fs[k]? with | some f => _ | none => _) = _; rw [hf]
      rw [e]
      exact ⟨fun j args out h hj => up h hj, fun j args out h => upW h⟩
    | some f =>
      have e : ∀ j args, tower G.fs fu (k + 1) j args = if f.wk then (if j = 1000 + k then evF (tower G.fs fu k) fu true f args else tower G.fs fu k j args) else if j = k then evF (tower G.fs fu k) fu false f args else tower G.fs fu k j args := by
        intro j args; show (match G.fs[k]? with | some f => _ | none => _) = _; rw [hf]
      cases hw : f.wk with
      | true =>
        rw [hw] at e
        replace e : ∀ j args, tower G.fs fu (k + 1) j args = if j = 1000 + k then evF (tower G.fs fu k) fu true f args else tower G.fs fu k j args := e
        refine ⟨fun j args out h hj => ?_, fun j args out h => ?_⟩
        . rw [e, if_neg (show ¬ j = 1000 + k from fun z => absurd hj (Nat.not_lt.mpr (z ▸ Nat.le_add_right _ _)))] at h
          exact up h hj
        . rw [e] at h
          by_cases hjk : j = k
          . subst hjk
            rw [if_pos rfl] at h
            refine ⟨Nat.lt_succ_self _, ?_⟩
            intro f' a hf' hm A s outer F vs Q E ok hfr al rv hQ hex
            rw [hf] at hf'
            replace hf' := Option.some.inj hf'
            subst hf'
            refine cps fun Gq goq => ?_
            obtain ⟨name, params, body, sc, pm, code, doc, a', o, w1, w2, w3, w4, w5⟩ := hd _ f hf
            refine goq ?_
            clear goq
            clear Gq
            rw [hm] at w1
            cases w1
            exact runs g w5 w2 w3 w4 ih h none nofun (fun ζ ζ => rfl) (fun q => by rw [hgn _ f (Nat.lt_succ_self _) hf] at q; cases q) ok hfr al rv (fun d l ho v s' sm q1 ζ q2 v1 => hQ d l ho v s' ⟨sm, fun b o e n => q1 b o e fun z => z.2.elim n fun ⟨_, z⟩ => (nomatch z), q2⟩ v1) fun x hx => by obtain ⟨d, l, hx'⟩ := hex; rw [hx] at hx'; cases hx'
          . rw [if_neg (show ¬ 1000 + j = 1000 + k from fun z => hjk (Nat.add_left_cancel z))] at h
            exact upW h
      | false =>
        rw [hw] at e
        replace e : ∀ j args, tower G.fs fu (k + 1) j args = if j = k then evF (tower G.fs fu k) fu false f args else tower G.fs fu k j args := e
        refine ⟨fun j args out h hj => ?_, fun j args out h => ?_⟩
        . rw [e] at h
          by_cases hjk : j = k
          . subst hjk
            rw [if_pos rfl] at h
            refine ⟨Nat.lt_succ_self _, ?_⟩
            intro f' a hf' hm A s F vs Q E ok al rv hQ hE
            rw [hf] at hf'
            replace hf' := Option.some.inj hf'
            subst hf'
            refine cps fun Gq goq => ?_
            obtain ⟨name, params, body, sc, pm, code, doc, a', o, w1, w2, w3, w4, w5⟩ := hd _ f hf
            rw [hm] at w1
            cases w1
            obtain ⟨outer, hfr, _⟩ := ok.fr
            refine goq ?_
            clear goq
            clear Gq
            exact runs g w5 w2 w3 w4 ih h none nofun (fun ζ ζ => rfl) (fun q => by rw [hgn _ f (Nat.lt_succ_self _) hf] at q; cases q) ok hfr al rv (fun d l ho v s' sm q1 ζ q2 v1 => hQ d l ho v s' ⟨sm, fun b o e => q1 b o e fun z => nomatch z.1⟩ v1) hE
          . rw [if_neg hjk] at h
            exact up h hj
        . rw [e, if_neg (show ¬ 1000 + j = k from fun z => absurd hk (Nat.not_le.mpr (Nat.lt_succ_of_le (z ▸ Nat.le_add_right _ _))))] at h
          exact upW h
end Mine
end
section
set_option maxRecDepth 100000
namespace Mine
open PySem
noncomputable def excs9 : List Str := [("ZeroDivisionError" : Str), ("SingularError" : Str)]
noncomputable def b9_0 : PSs := (.cons (.ret (.comp (.sl (.var 0) (.lit .none) (.lit .none)) 1 (.of (.var 0)) .tt))
  .nil)
noncomputable def f9_0 : PFun := ⟨("copy_rows" : Str), 1, [("m" : Str)], b9_0, false, false⟩
noncomputable def n9_0 : List Str := []
noncomputable def b9_1 : PSs := (.cons (.for_ [4] (.r2 (.var 2) (.blt .len (.var 0))) (.cons (.ite (.cmp .ne (.idx (.idx (.var 0) (.var 4)) (.var 1)) (.var 3)) (.cons (.ret (.var 4))
  .nil) .nil)
  .nil))
  (.cons (.ret (.neg (.lit (.int 1))))
  .nil))
noncomputable def f9_1 : PFun := ⟨("pivot_row" : Str), 4, [("m" : Str), ("c" : Str), ("start" : Str), ("zero" : Str), ("i" : Str)], b9_1, false, false⟩
noncomputable def n9_1 : List Str := []
noncomputable def b9_2 : PSs := (.cons (.asg 0 (.blt .abs (.var 0)))
  (.cons (.asg 1 (.blt .abs (.var 1)))
  (.cons (.for_ [2] (.r1 (.bin .add (.bin .mul (.lit (.int 5)) (.blt .len (.blt .str (.bin .add (.var 0) (.var 1))))) (.lit (.int 2)))) (.cons (.ite (.cmp .eq (.var 1) (.lit (.int 0))) (.cons (.ret (.var 0))
  .nil) .nil)
  (.cons (.asgN [0, 1] (.tup (.cons (.var 1) (.cons (.bin .mod (.var 0) (.var 1)) .nil))))
  .nil)))
  (.cons (.ret (.var 0))
  .nil))))
noncomputable def f9_2 : PFun := ⟨("gcd_of" : Str), 2, [("a" : Str), ("b" : Str), ("_" : Str)], b9_2, false, false⟩
noncomputable def n9_2 : List Str := []
noncomputable def b9_3 : PSs := (.cons (.ite (.cmp .eq (.var 1) (.lit (.int 0))) (.cons (.raise 0 ("fraction with denominator 0" : Str))
  .nil) .nil)
  (.cons (.ite (.cmp .lt (.var 1) (.lit (.int 0))) (.cons (.asg 0 (.neg (.var 0)))
  (.cons (.asg 1 (.neg (.var 1)))
  .nil)) .nil)
  (.cons (.asg 2 (.call 2 (.cons (.var 0) (.cons (.var 1) .nil))))
  (.cons (.ret (.tup (.cons (.bin .fdiv (.var 0) (.var 2)) (.cons (.bin .fdiv (.var 1) (.var 2)) .nil))))
  .nil))))
noncomputable def f9_3 : PFun := ⟨("frac" : Str), 2, [("n" : Str), ("d" : Str), ("g" : Str)], b9_3, false, false⟩
noncomputable def n9_3 : List Str := []
noncomputable def b9_4 : PSs := (.cons (.ret (.call 3 (.cons (.bin .add (.bin .mul (.idx (.var 0) (.lit (.int 0))) (.idx (.var 1) (.lit (.int 1)))) (.bin .mul (.idx (.var 1) (.lit (.int 0))) (.idx (.var 0) (.lit (.int 1))))) (.cons (.bin .mul (.idx (.var 0) (.lit (.int 1))) (.idx (.var 1) (.lit (.int 1)))) .nil))))
  .nil)
noncomputable def f9_4 : PFun := ⟨("f_add" : Str), 2, [("x" : Str), ("y" : Str)], b9_4, false, false⟩
noncomputable def n9_4 : List Str := []
noncomputable def b9_5 : PSs := (.cons (.ret (.tup (.cons (.neg (.idx (.var 0) (.lit (.int 0)))) (.cons (.idx (.var 0) (.lit (.int 1))) .nil))))
  .nil)
noncomputable def f9_5 : PFun := ⟨("f_neg" : Str), 1, [("x" : Str)], b9_5, false, false⟩
noncomputable def n9_5 : List Str := []
noncomputable def b9_6 : PSs := (.cons (.ret (.call 4 (.cons (.var 0) (.cons (.call 5 (.cons (.var 1) .nil)) .nil))))
  .nil)
noncomputable def f9_6 : PFun := ⟨("f_sub" : Str), 2, [("x" : Str), ("y" : Str)], b9_6, false, false⟩
noncomputable def n9_6 : List Str := []
noncomputable def b9_7 : PSs := (.cons (.ret (.call 3 (.cons (.bin .mul (.idx (.var 0) (.lit (.int 0))) (.idx (.var 1) (.lit (.int 0)))) (.cons (.bin .mul (.idx (.var 0) (.lit (.int 1))) (.idx (.var 1) (.lit (.int 1)))) .nil))))
  .nil)
noncomputable def f9_7 : PFun := ⟨("f_mul" : Str), 2, [("x" : Str), ("y" : Str)], b9_7, false, false⟩
noncomputable def n9_7 : List Str := []
noncomputable def b9_8 : PSs := (.cons (.ite (.cmp .eq (.idx (.var 1) (.lit (.int 0))) (.lit (.int 0))) (.cons (.raise 0 ("division by the fraction 0" : Str))
  .nil) .nil)
  (.cons (.ret (.call 3 (.cons (.bin .mul (.idx (.var 0) (.lit (.int 0))) (.idx (.var 1) (.lit (.int 1)))) (.cons (.bin .mul (.idx (.var 0) (.lit (.int 1))) (.idx (.var 1) (.lit (.int 0)))) .nil))))
  .nil))
noncomputable def f9_8 : PFun := ⟨("f_div" : Str), 2, [("x" : Str), ("y" : Str)], b9_8, false, false⟩
noncomputable def n9_8 : List Str := []
noncomputable def b9_9 : PSs := (.cons (.ite (.cmp .eq (.idx (.var 0) (.lit (.int 1))) (.lit (.int 1))) (.cons (.ret (.blt .str (.idx (.var 0) (.lit (.int 0)))))
  .nil) .nil)
  (.cons (.ret (.bin .add (.bin .add (.blt .str (.idx (.var 0) (.lit (.int 0)))) (.lit (.str ("/" : Str)))) (.blt .str (.idx (.var 0) (.lit (.int 1))))))
  .nil))
noncomputable def f9_9 : PFun := ⟨("f_text" : Str), 1, [("x" : Str)], b9_9, false, false⟩
noncomputable def n9_9 : List Str := []
noncomputable def b9_10 : PSs := (.cons (.ret (.comp (.comp (.tup (.cons (.var 0) (.cons (.lit (.int 1)) .nil))) 1 (.of (.var 0)) .tt) 1 (.of (.var 0)) .tt))
  .nil)
noncomputable def f9_10 : PFun := ⟨("from_ints" : Str), 1, [("rows" : Str)], b9_10, false, false⟩
noncomputable def n9_10 : List Str := []
noncomputable def b9_11 : PSs := (.cons (.ret (.comp (.comp (.ite (.cmp .eq (.var 1) (.var 0)) (.tup (.cons (.lit (.int 1)) (.cons (.lit (.int 1)) .nil))) (.tup (.cons (.lit (.int 0)) (.cons (.lit (.int 1)) .nil)))) 1 (.r1 (.var 1)) .tt) 1 (.r1 (.var 0)) .tt))
  .nil)
noncomputable def f9_11 : PFun := ⟨("identity" : Str), 1, [("n" : Str)], b9_11, false, false⟩
noncomputable def n9_11 : List Str := []
noncomputable def b9_12 : PSs := (.cons (.ret (.comp (.comp (.idx (.idx (.var 2) (.var 0)) (.var 1)) 1 (.r1 (.blt .len (.var 1))) .tt) 1 (.r1 (.var 1)) .tt))
  .nil)
noncomputable def f9_12 : PFun := ⟨("transposed" : Str), 2, [("m" : Str), ("cols" : Str)], b9_12, false, false⟩
noncomputable def n9_12 : List Str := []
noncomputable def b9_13 : PSs := (.cons (.asg 2 (.tup (.cons (.lit (.int 0)) (.cons (.lit (.int 1)) .nil))))
  (.cons (.for_ [3] (.r1 (.blt .len (.var 0))) (.cons (.asg 2 (.call 4 (.cons (.var 2) (.cons (.call 7 (.cons (.idx (.var 0) (.var 3)) (.cons (.idx (.var 1) (.var 3)) .nil))) .nil))))
  .nil))
  (.cons (.ret (.var 2))
  .nil)))
noncomputable def f9_13 : PFun := ⟨("dot" : Str), 2, [("u" : Str), ("v" : Str), ("total" : Str), ("i" : Str)], b9_13, false, false⟩
noncomputable def n9_13 : List Str := []
noncomputable def b9_14 : PSs := (.cons (.asg 4 (.call 12 (.cons (.var 1) (.cons (.var 3) .nil))))
  (.cons (.ret (.comp (.comp (.call 13 (.cons (.idx (.var 2) (.var 1)) (.cons (.idx (.var 6) (.var 0)) .nil))) 1 (.r1 (.var 4)) .tt) 1 (.r1 (.blt .len (.var 0))) .tt))
  .nil))
noncomputable def f9_14 : PFun := ⟨("m_mul" : Str), 4, [("a" : Str), ("b" : Str), ("inner" : Str), ("cols" : Str), ("bt" : Str)], b9_14, false, false⟩
noncomputable def n9_14 : List Str := []
noncomputable def b9_15 : PSs := (.cons (.ret (.comp (.call 13 (.cons (.var 0) (.cons (.var 2) .nil))) 1 (.of (.var 0)) .tt))
  .nil)
noncomputable def f9_15 : PFun := ⟨("m_vec" : Str), 2, [("a" : Str), ("v" : Str)], b9_15, false, false⟩
noncomputable def n9_15 : List Str := []
noncomputable def b9_16 : PSs := (.cons (.bnew 3 (.call 0 (.cons (.var 0) .nil)))
  (.cons (.put 3 (.var 1) (.sl (.idx (.var 0) (.var 2)) (.lit .none) (.lit .none)))
  (.cons (.put 3 (.var 2) (.sl (.idx (.var 0) (.var 1)) (.lit .none) (.lit .none)))
  (.cons (.retv 3)
  .nil))))
noncomputable def f9_16 : PFun := ⟨("rows_swapped" : Str), 3, [("m" : Str), ("i" : Str), ("j" : Str), ("out" : Str)], b9_16, false, false⟩
noncomputable def n9_16 : List Str := [("out" : Str)]
noncomputable def b9_17 : PSs := (.cons (.bnew 3 (.call 0 (.cons (.var 0) .nil)))
  (.cons (.put 3 (.var 1) (.comp (.call 7 (.cons (.var 3) (.cons (.var 0) .nil))) 1 (.of (.idx (.var 0) (.var 1))) .tt))
  (.cons (.retv 3)
  .nil)))
noncomputable def f9_17 : PFun := ⟨("row_scaled" : Str), 3, [("m" : Str), ("i" : Str), ("k" : Str), ("out" : Str)], b9_17, false, false⟩
noncomputable def n9_17 : List Str := [("out" : Str)]
noncomputable def b9_18 : PSs := (.cons (.bnew 4 (.call 0 (.cons (.var 0) .nil)))
  (.cons (.put 4 (.var 1) (.comp (.call 4 (.cons (.idx (.idx (.var 1) (.var 2)) (.var 0)) (.cons (.call 7 (.cons (.var 4) (.cons (.idx (.idx (.var 1) (.var 3)) (.var 0)) .nil))) .nil))) 1 (.r1 (.blt .len (.idx (.var 0) (.var 1)))) .tt))
  (.cons (.retv 4)
  .nil)))
noncomputable def f9_18 : PFun := ⟨("row_added" : Str), 4, [("m" : Str), ("i" : Str), ("j" : Str), ("k" : Str), ("out" : Str)], b9_18, false, false⟩
noncomputable def n9_18 : List Str := [("out" : Str)]
noncomputable def b9_19 : PSs := (.cons (.asg 2 (.call 0 (.cons (.var 0) .nil)))
  (.cons (.bnew 3 (.lst .nil))
  (.cons (.asg 4 (.lit (.int 0)))
  (.cons (.for_ [5] (.r1 (.var 1)) (.cons (.asg 6 (.call 1 (.cons (.var 2) (.cons (.var 5) (.cons (.var 4) (.cons (.tup (.cons (.lit (.int 0)) (.cons (.lit (.int 1)) .nil))) .nil))))))
  (.cons (.ite (.cmp .eq (.var 6) (.neg (.lit (.int 1)))) (.cons .cont
  .nil) .nil)
  (.cons (.ite (.cmp .ne (.var 6) (.var 4)) (.cons (.asg 2 (.call 16 (.cons (.var 2) (.cons (.var 4) (.cons (.var 6) .nil)))))
  .nil) .nil)
  (.cons (.asg 2 (.call 17 (.cons (.var 2) (.cons (.var 4) (.cons (.call 8 (.cons (.tup (.cons (.lit (.int 1)) (.cons (.lit (.int 1)) .nil))) (.cons (.idx (.idx (.var 2) (.var 4)) (.var 5)) .nil))) .nil)))))
  (.cons (.for_ [7] (.r1 (.blt .len (.var 2))) (.cons (.ite (.and (.cmp .ne (.var 7) (.var 4)) (.and (.cmp .ne (.idx (.idx (.var 2) (.var 7)) (.var 5)) (.tup (.cons (.lit (.int 0)) (.cons (.lit (.int 1)) .nil)))) .tt)) (.cons (.asg 2 (.call 18 (.cons (.var 2) (.cons (.var 7) (.cons (.var 4) (.cons (.call 5 (.cons (.idx (.idx (.var 2) (.var 7)) (.var 5)) .nil)) .nil))))))
  .nil) .nil)
  .nil))
  (.cons (.app 3 (.var 5))
  (.cons (.asg 4 (.bin .add (.var 4) (.lit (.int 1))))
  .nil))))))))
  (.cons (.frz [3])
  (.cons (.ret (.tup (.cons (.var 2) (.cons (.var 3) .nil))))
  .nil))))))
noncomputable def f9_19 : PFun := ⟨("reduced" : Str), 2, [("m" : Str), ("cols" : Str), ("red" : Str), ("pivots" : Str), ("top" : Str), ("c" : Str), ("found" : Str), ("i" : Str)], b9_19, false, false⟩
noncomputable def n9_19 : List Str := [("pivots" : Str)]
noncomputable def b9_20 : PSs := (.cons (.asg 1 (.blt .len (.var 0)))
  (.cons (.asg 2 (.call 0 (.cons (.var 0) .nil)))
  (.cons (.asg 3 (.tup (.cons (.lit (.int 1)) (.cons (.lit (.int 1)) .nil))))
  (.cons (.for_ [4] (.r1 (.var 1)) (.cons (.asg 5 (.call 1 (.cons (.var 2) (.cons (.var 4) (.cons (.var 4) (.cons (.tup (.cons (.lit (.int 0)) (.cons (.lit (.int 1)) .nil))) .nil))))))
  (.cons (.ite (.cmp .eq (.var 5) (.neg (.lit (.int 1)))) (.cons (.ret (.tup (.cons (.lit (.int 0)) (.cons (.lit (.int 1)) .nil))))
  .nil) .nil)
  (.cons (.ite (.cmp .ne (.var 5) (.var 4)) (.cons (.asg 2 (.call 16 (.cons (.var 2) (.cons (.var 4) (.cons (.var 5) .nil)))))
  (.cons (.asg 3 (.call 5 (.cons (.var 3) .nil)))
  .nil)) .nil)
  (.cons (.for_ [6] (.r2 (.bin .add (.var 4) (.lit (.int 1))) (.var 1)) (.cons (.ite (.cmp .ne (.idx (.idx (.var 2) (.var 6)) (.var 4)) (.tup (.cons (.lit (.int 0)) (.cons (.lit (.int 1)) .nil)))) (.cons (.asg 2 (.call 18 (.cons (.var 2) (.cons (.var 6) (.cons (.var 4) (.cons (.call 5 (.cons (.call 8 (.cons (.idx (.idx (.var 2) (.var 6)) (.var 4)) (.cons (.idx (.idx (.var 2) (.var 4)) (.var 4)) .nil))) .nil)) .nil))))))
  .nil) .nil)
  .nil))
  .nil)))))
  (.cons (.asg 7 (.var 3))
  (.cons (.for_ [6] (.r1 (.var 1)) (.cons (.asg 7 (.call 7 (.cons (.var 7) (.cons (.idx (.idx (.var 2) (.var 6)) (.var 6)) .nil))))
  .nil))
  (.cons (.ret (.var 7))
  .nil)))))))
noncomputable def f9_20 : PFun := ⟨("det_by_elimination" : Str), 1, [("m" : Str), ("n" : Str), ("a" : Str), ("sign" : Str), ("c" : Str), ("found" : Str), ("i" : Str), ("result" : Str)], b9_20, false, false⟩
noncomputable def n9_20 : List Str := []
noncomputable def b9_21 : PSs := (.cons (.asg 1 (.blt .len (.var 0)))
  (.cons (.asg 2 (.call 11 (.cons (.var 1) .nil)))
  (.cons (.asgN [3, 4] (.call 19 (.cons (.comp (.bin .add (.idx (.var 1) (.var 0)) (.idx (.var 3) (.var 0))) 1 (.r1 (.var 1)) .tt) (.cons (.bin .add (.var 1) (.var 1)) .nil))))
  (.cons (.ite (.cmp .ne (.var 4) (.lrange (.r1 (.var 1)))) (.cons (.raise 1 ("the matrix is singular" : Str))
  .nil) .nil)
  (.cons (.ret (.comp (.sl (.var 0) (.var 2) (.lit .none)) 1 (.of (.var 3)) .tt))
  .nil)))))
noncomputable def f9_21 : PFun := ⟨("inverse_of" : Str), 1, [("m" : Str), ("n" : Str), ("ident" : Str), ("red" : Str), ("pivots" : Str)], b9_21, false, false⟩
noncomputable def n9_21 : List Str := []
noncomputable def b9_22 : PSs := (.cons (.asgN [3, 4] (.call 19 (.cons (.comp (.bin .add (.idx (.var 1) (.var 0)) (.lst (.cons (.idx (.var 3) (.var 0)) .nil))) 1 (.r1 (.blt .len (.var 0))) .tt) (.cons (.bin .add (.var 1) (.lit (.int 1))) .nil))))
  (.cons (.ite (.cmp .isin (.var 1) (.var 4)) (.cons (.ret (.lit .none))
  .nil) .nil)
  (.cons (.bnew 5 (.bin .mul (.lst (.cons (.tup (.cons (.lit (.int 0)) (.cons (.lit (.int 1)) .nil))) .nil)) (.var 1)))
  (.cons (.for_ [6] (.r1 (.blt .len (.var 4))) (.cons (.put 5 (.idx (.var 4) (.var 6)) (.idx (.idx (.var 3) (.var 6)) (.var 1)))
  .nil))
  (.cons (.retv 5)
  .nil)))))
noncomputable def f9_22 : PFun := ⟨("solutions" : Str), 3, [("m" : Str), ("cols" : Str), ("b" : Str), ("red" : Str), ("pivots" : Str), ("x" : Str), ("r" : Str)], b9_22, false, false⟩
noncomputable def n9_22 : List Str := [("x" : Str)]
noncomputable def b9_23 : PSs := (.cons (.asgN [2, 3] (.call 19 (.cons (.var 0) (.cons (.var 1) .nil))))
  (.cons (.bnew 4 (.lst .nil))
  (.cons (.for_ [5] (.r1 (.var 1)) (.cons (.ite (.cmp .isin (.var 5) (.var 3)) (.cons .cont
  .nil) .nil)
  (.cons (.bnew 6 (.bin .mul (.lst (.cons (.tup (.cons (.lit (.int 0)) (.cons (.lit (.int 1)) .nil))) .nil)) (.var 1)))
  (.cons (.put 6 (.var 5) (.tup (.cons (.lit (.int 1)) (.cons (.lit (.int 1)) .nil))))
  (.cons (.for_ [7] (.r1 (.blt .len (.var 3))) (.cons (.put 6 (.idx (.var 3) (.var 7)) (.call 5 (.cons (.idx (.idx (.var 2) (.var 7)) (.var 5)) .nil)))
  .nil))
  (.cons (.frz [6])
  (.cons (.app 4 (.var 6))
  .nil)))))))
  (.cons (.retv 4)
  .nil))))
noncomputable def f9_23 : PFun := ⟨("null_space" : Str), 2, [("m" : Str), ("cols" : Str), ("red" : Str), ("pivots" : Str), ("basis" : Str), ("f" : Str), ("v" : Str), ("r" : Str)], b9_23, false, false⟩
noncomputable def n9_23 : List Str := [("v" : Str), ("basis" : Str)]
noncomputable def b9_24 : PSs := (.cons (.asg 2 (.var 0))
  (.cons (.asg 3 (.var 1))
  (.cons (.while_ .tt (.cons (.ite (.cmp .eq (.var 3) (.lit (.int 0))) (.cons .brk
  .nil) .nil)
  (.cons (.asgN [2, 3] (.tup (.cons (.var 3) (.cons (.bin .mod (.var 2) (.var 3)) .nil))))
  .nil)))
  (.cons (.ret (.tup (.cons (.bin .fdiv (.var 0) (.var 2)) (.cons (.bin .fdiv (.var 1) (.var 2)) .nil))))
  .nil))))
noncomputable def f9_24 : PFun := ⟨("_law_low" : Str), 2, [("n" : Str), ("d" : Str), ("a" : Str), ("b" : Str)], b9_24, false, false⟩
noncomputable def n9_24 : List Str := []
noncomputable def b9_25 : PSs := (.cons (.asg 3 (.lit (.int 0)))
  (.cons (.asg 4 (.lit (.int 1)))
  (.cons (.for_ [5, 6] (.zip (.var 0) (.var 1)) (.cons (.asgN [3, 4] (.tup (.cons (.bin .add (.bin .mul (.var 3) (.idx (.var 6) (.lit (.int 1)))) (.bin .mul (.bin .mul (.var 5) (.idx (.var 6) (.lit (.int 0)))) (.var 4))) (.cons (.bin .mul (.var 4) (.idx (.var 6) (.lit (.int 1)))) .nil))))
  .nil))
  (.cons (.ret (.call 24 (.cons (.var 3) (.cons (.bin .mul (.var 4) (.var 2)) .nil))))
  .nil))))
noncomputable def f9_25 : PFun := ⟨("_law_sum" : Str), 3, [("us" : Str), ("qs" : Str), ("div" : Str), ("n" : Str), ("m" : Str), ("u" : Str), ("q" : Str)], b9_25, false, false⟩
noncomputable def n9_25 : List Str := []
noncomputable def b9_26 : PSs := (.cons (.asg 1 (.tup (.cons (.lit (.int 1)) (.cons (.lit (.int 2)) (.cons (.lit (.int 0)) .nil)))))
  (.cons (.asg 2 (.tup (.cons (.lit (.int 2)) (.cons (.lit (.int 0)) (.cons (.lit (.int 1)) .nil)))))
  (.cons (.ret (.comp (.comp (.bin .sub (.bin .mul (.idx (.idx (.var 2) (.idx (.var 3) (.var 0))) (.idx (.var 3) (.var 1))) (.idx (.idx (.var 2) (.idx (.var 4) (.var 0))) (.idx (.var 4) (.var 1)))) (.bin .mul (.idx (.idx (.var 2) (.idx (.var 3) (.var 0))) (.idx (.var 4) (.var 1))) (.idx (.idx (.var 2) (.idx (.var 4) (.var 0))) (.idx (.var 3) (.var 1))))) 1 (.r1 (.lit (.int 3))) .tt) 1 (.r1 (.lit (.int 3))) .tt))
  .nil)))
noncomputable def f9_26 : PFun := ⟨("_law_adjugate" : Str), 1, [("t" : Str), ("a" : Str), ("b" : Str)], b9_26, false, false⟩
noncomputable def n9_26 : List Str := []
noncomputable def b9_27 : PSs := (.cons (.bnew 5 (.lst .nil))
  (.cons (.bnew 6 (.lst .nil))
  (.cons (.for_ [7] (.of (.var 0)) (.cons (.bnew 8 (.lst .nil))
  (.cons (.for_ [9] (.r1 (.lit (.int 3))) (.cons (.app 8 (.call 25 (.cons (.comp (.bin .mul (.idx (.var 8) (.var 0)) (.idx (.idx (.var 2) (.var 0)) (.var 10))) 1 (.r1 (.lit (.int 3))) .tt) (.cons (.var 3) (.cons (.var 2) .nil)))))
  .nil))
  (.cons (.frz [8])
  (.cons (.app 5 (.var 8))
  (.cons (.app 6 (.call 25 (.cons (.var 7) (.cons (.var 4) (.cons (.lit (.int 1)) .nil)))))
  .nil))))))
  (.cons (.frz [5, 6])
  (.cons (.ret (.tup (.cons (.var 5) (.cons (.var 6) .nil))))
  .nil)))))
noncomputable def f9_27 : PFun := ⟨("_law_due" : Str), 5, [("table" : Str), ("adj" : Str), ("det" : Str), ("ds" : Str), ("cs" : Str), ("machine" : Str), ("state" : Str), ("row" : Str), ("line" : Str), ("k" : Str)], b9_27, false, false⟩
noncomputable def n9_27 : List Str := [("machine" : Str), ("state" : Str), ("line" : Str)]
noncomputable def b9_28 : PSs := (.cons (.ret (.comp (.comp (.call 6 (.cons (.var 0) (.cons (.call 7 (.cons (.var 5) (.cons (.var 1) .nil))) .nil))) 2 (.zip (.var 0) (.var 1)) .tt) 2 (.zip (.var 0) (.call 11 (.cons (.lit (.int 3)) .nil))) .tt))
  .nil)
noncomputable def f9_28 : PFun := ⟨("_law_lessened" : Str), 2, [("a" : Str), ("k" : Str)], b9_28, false, false⟩
noncomputable def n9_28 : List Str := []
noncomputable def b9_29 : PSs := (.cons (.asg 5 (.lit (.bool false)))
  (.cons (.ite (.cmp .eq (.var 0) (.lit (.int 0))) (.cons (.asg 3 (.call 15 (.cons (.var 2) (.cons (.var 3) .nil))))
  .nil) (.cons (.ite (.cmp .eq (.var 0) (.lit (.int 1))) (.cons (.tryC 2 21 (.cons (.var 2) .nil) 1 5 (.bool true))
  .nil) (.cons (.ite (.cmp .eq (.var 0) (.lit (.int 2))) (.cons (.asg 2 (.call 28 (.cons (.var 2) (.cons (.tup (.cons (.var 1) (.cons (.lit (.int 1)) .nil))) .nil))))
  .nil) (.cons (.ite (.cmp .eq (.var 0) (.lit (.int 3))) (.cons (.asg 2 (.call 14 (.cons (.var 2) (.cons (.var 2) (.cons (.lit (.int 3)) (.cons (.lit (.int 3)) .nil))))))
  .nil) (.cons (.ite (.cmp .eq (.var 0) (.lit (.int 4))) (.cons (.asg 3 (.comp (.call 4 (.cons (.var 0) (.cons (.call 7 (.cons (.tup (.cons (.var 3) (.cons (.lit (.int 1)) .nil))) (.cons (.var 1) .nil))) .nil))) 2 (.zip (.var 3) (.idx (.call 12 (.cons (.var 4) (.cons (.lit (.int 3)) .nil))) (.bin .mod (.var 1) (.lit (.int 3))))) .tt))
  .nil) (.cons (.asg 6 (.comp (.mth .split (.bin .add (.call 9 (.cons (.var 0) .nil)) (.lit (.str ("/1" : Str)))) (.lit (.str ("/" : Str)))) 1 (.of (.var 3)) .tt))
  (.cons (.tryM 3 3 (.cons (.blt .int (.idx (.var 0) (.lit (.int 0)))) (.cons (.bin .mul (.var 2) (.blt .int (.idx (.var 0) (.lit (.int 1))))) .nil)) 1 (.of (.var 6)) 0 5 (.bool true))
  .nil)))
  .nil))
  .nil))
  .nil))
  .nil))
  (.cons (.ret (.tup (.cons (.var 2) (.cons (.var 3) (.cons (.var 5) .nil)))))
  .nil)))
noncomputable def f9_29 : PFun := ⟨("_law_run" : Str), 5, [("kind" : Str), ("k" : Str), ("a" : Str), ("x" : Str), ("p" : Str), ("refused" : Str), ("parts" : Str)], b9_29, true, false⟩
noncomputable def n9_29 : List Str := []
noncomputable def b9_30 : PSs := (.cons (.ite (.cmp .eq (.var 0) (.lit (.int 0))) (.cons (.ret (.tup (.cons (.var 2) (.cons (.comp (.tup (.cons (.bin .mul (.idx (.var 0) (.lit (.int 0))) (.idx (.var 1) (.lit (.int 0)))) (.cons (.bin .mul (.idx (.var 0) (.lit (.int 1))) (.idx (.var 1) (.lit (.int 1)))) .nil))) 2 (.zip (.var 3) (.var 2)) .tt) (.cons (.lit (.bool false)) .nil)))))
  .nil) .nil)
  (.cons (.ite (.cmp .eq (.var 0) (.lit (.int 1))) (.cons (.ite (.cmp .isin (.lit (.int 0)) (.comp (.idx (.var 0) (.lit (.int 0))) 1 (.of (.var 2)) .tt)) (.cons (.ret (.tup (.cons (.var 2) (.cons (.var 3) (.cons (.lit (.bool true)) .nil)))))
  .nil) .nil)
  (.cons (.ret (.tup (.cons (.comp (.tup (.cons (.idx (.var 0) (.lit (.int 1))) (.cons (.idx (.var 0) (.lit (.int 0))) .nil))) 1 (.of (.var 2)) .tt) (.cons (.var 3) (.cons (.lit (.bool false)) .nil)))))
  .nil)) .nil)
  (.cons (.ite (.cmp .eq (.var 0) (.lit (.int 2))) (.cons (.ret (.tup (.cons (.comp (.tup (.cons (.bin .sub (.idx (.var 0) (.lit (.int 0))) (.bin .mul (.var 2) (.idx (.var 0) (.lit (.int 1))))) (.cons (.idx (.var 0) (.lit (.int 1))) .nil))) 1 (.of (.var 2)) .tt) (.cons (.var 3) (.cons (.lit (.bool false)) .nil)))))
  .nil) .nil)
  (.cons (.ite (.cmp .eq (.var 0) (.lit (.int 3))) (.cons (.ret (.tup (.cons (.comp (.tup (.cons (.bin .mul (.idx (.var 0) (.lit (.int 0))) (.idx (.var 0) (.lit (.int 0)))) (.cons (.bin .mul (.idx (.var 0) (.lit (.int 1))) (.idx (.var 0) (.lit (.int 1)))) .nil))) 1 (.of (.var 2)) .tt) (.cons (.var 3) (.cons (.lit (.bool false)) .nil)))))
  .nil) .nil)
  (.cons (.ite (.cmp .eq (.var 0) (.lit (.int 4))) (.cons (.ret (.tup (.cons (.var 2) (.cons (.comp (.ite (.cmp .eq (.var 0) (.bin .mod (.var 3) (.lit (.int 3)))) (.tup (.cons (.bin .add (.idx (.var 1) (.lit (.int 0))) (.bin .mul (.var 3) (.idx (.var 1) (.lit (.int 1))))) (.cons (.idx (.var 1) (.lit (.int 1))) .nil))) (.var 1)) 2 (.enum (.var 3)) .tt) (.cons (.lit (.bool false)) .nil)))))
  .nil) .nil)
  (.cons (.ite (.cmp .eq (.var 1) (.lit (.int 0))) (.cons (.ret (.tup (.cons (.var 2) (.cons (.var 3) (.cons (.lit (.bool true)) .nil)))))
  .nil) .nil)
  (.cons (.ret (.tup (.cons (.var 2) (.cons (.comp (.tup (.cons (.idx (.var 0) (.lit (.int 0))) (.cons (.bin .mul (.idx (.var 0) (.lit (.int 1))) (.var 2)) .nil))) 1 (.of (.var 3)) .tt) (.cons (.lit (.bool false)) .nil)))))
  .nil)))))))
noncomputable def f9_30 : PFun := ⟨("_law_model" : Str), 4, [("kind" : Str), ("k" : Str), ("ds" : Str), ("cs" : Str)], b9_30, false, false⟩
noncomputable def n9_30 : List Str := []
noncomputable def b9_31 : PSs := (.cons (.ite (.cmp .ne (.blt .len (.var 4)) (.lit (.int 3))) (.cons (.ret (.lit (.bool false)))
  .nil) .nil)
  (.cons (.for_ [5] (.r1 (.lit (.int 3))) (.cons (.ite (.cmp .ne (.idx (.var 4) (.var 5)) (.call 24 (.cons (.idx (.idx (.var 4) (.var 5)) (.lit (.int 0))) (.cons (.idx (.idx (.var 4) (.var 5)) (.lit (.int 1))) .nil)))) (.cons (.ret (.lit (.bool false)))
  .nil) .nil)
  (.cons (.ite (.cmp .ne (.idx (.idx (.var 2) (.var 5)) (.lit (.int 0))) (.lit (.int 0))) (.cons (.ite (.cmp .ne (.call 25 (.cons (.idx (.var 0) (.var 5)) (.cons (.var 4) (.cons (.var 1) .nil)))) (.call 24 (.cons (.bin .mul (.idx (.idx (.var 3) (.var 5)) (.lit (.int 0))) (.idx (.idx (.var 2) (.var 5)) (.lit (.int 1)))) (.cons (.bin .mul (.idx (.idx (.var 3) (.var 5)) (.lit (.int 1))) (.idx (.idx (.var 2) (.var 5)) (.lit (.int 0)))) .nil)))) (.cons (.ret (.lit (.bool false)))
  .nil) .nil)
  .nil) .nil)
  .nil)))
  (.cons (.ret (.lit (.bool true)))
  .nil)))
noncomputable def f9_31 : PFun := ⟨("_law_solves" : Str), 5, [("adj" : Str), ("det" : Str), ("es" : Str), ("cs" : Str), ("v" : Str), ("j" : Str)], b9_31, false, false⟩
noncomputable def n9_31 : List Str := []
noncomputable def b9_32 : PSs := (.cons (.ite (.cmp .lt (.blt .len (.var 0)) (.lit (.int 23))) (.cons (.ret (.lit (.bool true)))
  .nil) .nil)
  (.cons (.asg 1 (.lst (.cons (.bin .sub (.bin .mod (.bin .add (.idx (.var 0) (.lit (.int 0))) (.lit (.int 2))) (.lit (.int 4))) (.lit (.int 1))) (.cons (.bin .sub (.bin .mod (.idx (.var 0) (.lit (.int 1))) (.lit (.int 4))) (.lit (.int 1))) (.cons (.bin .sub (.bin .mod (.idx (.var 0) (.lit (.int 2))) (.lit (.int 4))) (.lit (.int 1))) .nil)))))
  (.cons (.asg 2 (.lst (.cons (.bin .sub (.bin .mod (.idx (.var 0) (.lit (.int 3))) (.lit (.int 4))) (.lit (.int 1))) (.cons (.bin .sub (.bin .mod (.bin .add (.idx (.var 0) (.lit (.int 4))) (.lit (.int 2))) (.lit (.int 4))) (.lit (.int 1))) (.cons (.bin .sub (.bin .mod (.idx (.var 0) (.lit (.int 5))) (.lit (.int 4))) (.lit (.int 1))) .nil)))))
  (.cons (.asg 3 (.lst (.cons (.var 1) (.cons (.var 2) (.cons (.lst (.cons (.bin .sub (.bin .mod (.idx (.var 0) (.lit (.int 6))) (.lit (.int 4))) (.lit (.int 1))) (.cons (.bin .sub (.bin .mod (.idx (.var 0) (.lit (.int 7))) (.lit (.int 4))) (.lit (.int 1))) (.cons (.bin .sub (.bin .mod (.bin .add (.idx (.var 0) (.lit (.int 8))) (.lit (.int 2))) (.lit (.int 4))) (.lit (.int 1))) .nil)))) .nil)))))
  (.cons (.asg 4 (.comp (.comp (.tup (.cons (.var 0) (.cons (.lit (.int 1)) .nil))) 1 (.of (.var 0)) .tt) 1 (.of (.var 3)) .tt))
  (.cons (.asg 5 (.lst (.cons (.tup (.cons (.bin .sub (.bin .mod (.idx (.var 0) (.lit (.int 9))) (.lit (.int 6))) (.lit (.int 2))) (.cons (.lit (.int 1)) .nil))) (.cons (.tup (.cons (.bin .sub (.bin .mod (.idx (.var 0) (.lit (.int 10))) (.lit (.int 6))) (.lit (.int 2))) (.cons (.lit (.int 1)) .nil))) (.cons (.tup (.cons (.bin .sub (.bin .mod (.idx (.var 0) (.lit (.int 11))) (.lit (.int 6))) (.lit (.int 2))) (.cons (.lit (.int 1)) .nil))) .nil)))))
  (.cons (.asg 6 (.lst (.cons (.tup (.cons (.bin .sub (.bin .mod (.idx (.var 0) (.lit (.int 12))) (.lit (.int 5))) (.lit (.int 2))) (.cons (.lit (.int 1)) .nil))) (.cons (.tup (.cons (.bin .sub (.bin .mod (.idx (.var 0) (.lit (.int 13))) (.lit (.int 5))) (.lit (.int 2))) (.cons (.lit (.int 1)) .nil))) (.cons (.tup (.cons (.bin .sub (.bin .mod (.idx (.var 0) (.lit (.int 14))) (.lit (.int 5))) (.lit (.int 2))) (.cons (.lit (.int 1)) .nil))) .nil)))))
  (.cons (.asg 7 (.lst (.cons (.tup (.cons (.bin .mod (.idx (.var 0) (.lit (.int 15))) (.lit (.int 6))) (.cons (.bin .sub (.bin .mod (.idx (.var 0) (.lit (.int 16))) (.lit (.int 5))) (.lit (.int 2))) .nil))) (.cons (.tup (.cons (.bin .mod (.idx (.var 0) (.lit (.int 17))) (.lit (.int 6))) (.cons (.bin .sub (.bin .mod (.idx (.var 0) (.lit (.int 18))) (.lit (.int 5))) (.lit (.int 2))) .nil))) (.cons (.tup (.cons (.bin .mod (.idx (.var 0) (.lit (.int 19))) (.lit (.int 6))) (.cons (.bin .sub (.bin .mod (.idx (.var 0) (.lit (.int 20))) (.lit (.int 5))) (.lit (.int 2))) .nil))) .nil)))))
  (.cons (.asg 8 (.call 26 (.cons (.var 3) .nil)))
  (.cons (.asg 9 (.bin .add (.bin .add (.bin .mul (.idx (.var 1) (.lit (.int 0))) (.idx (.idx (.var 8) (.lit (.int 0))) (.lit (.int 0)))) (.bin .mul (.idx (.var 1) (.lit (.int 1))) (.idx (.idx (.var 8) (.lit (.int 1))) (.lit (.int 0))))) (.bin .mul (.idx (.var 1) (.lit (.int 2))) (.idx (.idx (.var 8) (.lit (.int 2))) (.lit (.int 0))))))
  (.cons (.asg 10 (.call 10 (.cons (.var 3) .nil)))
  (.cons (.asg 11 (.lit .none))
  (.cons (.tryC 11 21 (.cons (.var 10) .nil) 1 11 .none)
  (.cons (.ite (.or (.cmp .ne (.tst (.isNone (.var 11))) (.tst (.cmp .eq (.var 9) (.lit (.int 0))))) (.or (.cmp .ne (.var 10) (.var 4)) .ff)) (.cons (.ret (.lit (.bool false)))
  .nil) .nil)
  (.cons (.ite (.isNone (.var 11)) (.cons (.ret (.lit (.bool true)))
  .nil) .nil)
  (.cons (.asg 12 (.call 14 (.cons (.call 10 (.cons (.comp (.comp (.bin .mul (.var 0) (.idx (.var 1) (.lit (.int 0)))) 2 (.zip (.var 0) (.var 6)) .tt) 1 (.of (.var 3)) .tt) .nil)) (.cons (.var 11) (.cons (.lit (.int 3)) (.cons (.lit (.int 3)) .nil))))))
  (.cons (.asg 13 (.sl (.var 6) (.lit .none) (.lit .none)))
  (.cons (.asg 14 (.call 15 (.cons (.var 10) (.cons (.var 13) .nil))))
  (.cons (.asg 15 (.call 27 (.cons (.var 3) (.cons (.var 8) (.cons (.var 9) (.cons (.var 5) (.cons (.var 6) .nil)))))))
  (.cons (.ite (.or (.cmp .ne (.var 13) (.var 6)) (.or (.cmp .ne (.tup (.cons (.var 12) (.cons (.var 14) .nil))) (.var 15)) .ff)) (.cons (.ret (.lit (.bool false)))
  .nil) .nil)
  (.cons (.for_ [16, 17] (.of (.var 7)) (.cons (.asgW 18 29 (.cons (.var 16) (.cons (.var 17) (.cons (.var 12) (.cons (.var 14) (.cons (.var 10) .nil))))))
  (.cons (.asgN [5, 6, 19] (.call 30 (.cons (.var 16) (.cons (.var 17) (.cons (.var 5) (.cons (.var 6) .nil))))))
  (.cons (.ite (.or (.cmp .ne (.tup (.cons (.var 12) (.cons (.var 14) .nil))) (.var 15)) (.or (.cmp .ne (.idx (.var 18) (.lit (.int 2))) (.var 19)) .ff)) (.cons (.ret (.lit (.bool false)))
  .nil) .nil)
  (.cons (.asg 12 (.idx (.var 18) (.lit (.int 0))))
  (.cons (.asg 14 (.idx (.var 18) (.lit (.int 1))))
  (.cons (.asg 15 (.call 27 (.cons (.var 3) (.cons (.var 8) (.cons (.var 9) (.cons (.var 5) (.cons (.var 6) .nil)))))))
  (.cons (.ite (.cmp .ne (.tup (.cons (.var 12) (.cons (.var 14) .nil))) (.var 15)) (.cons (.ret (.lit (.bool false)))
  .nil) .nil)
  .nil))))))))
  (.cons (.asg 20 (.idx (.var 5) (.bin .mod (.idx (.var 0) (.lit (.int 21))) (.lit (.int 3)))))
  (.cons (.asg 21 (.call 24 (.cons (.bin .add (.idx (.var 20) (.lit (.int 0))) (.bin .mul (.bin .mod (.idx (.var 0) (.lit (.int 22))) (.lit (.int 2))) (.idx (.var 20) (.lit (.int 1))))) (.cons (.idx (.var 20) (.lit (.int 1))) .nil))))
  (.cons (.asg 22 (.comp (.tup (.cons (.bin .sub (.bin .mul (.idx (.var 0) (.lit (.int 0))) (.idx (.var 22) (.lit (.int 1)))) (.bin .mul (.idx (.var 22) (.lit (.int 0))) (.idx (.var 0) (.lit (.int 1))))) (.cons (.bin .mul (.idx (.var 0) (.lit (.int 1))) (.idx (.var 22) (.lit (.int 1)))) .nil))) 1 (.of (.var 5)) .tt))
  (.cons (.asg 23 (.call 28 (.cons (.var 12) (.cons (.var 21) .nil))))
  (.cons (.asg 24 (.call 23 (.cons (.var 23) (.cons (.lit (.int 3)) .nil))))
  (.cons (.asg 25 (.call 20 (.cons (.var 23) .nil)))
  (.cons (.asg 26 (.call 22 (.cons (.var 23) (.cons (.lit (.int 3)) (.cons (.var 14) .nil)))))
  (.cons (.asg 27 (.comp (.blt .max (.bin .add (.lst (.cons (.neg (.lit (.int 1))) .nil)) (.comp (.var 0) 1 (.r1 (.lit (.int 3))) (.cmp .ne (.idx (.var 1) (.var 0)) (.tup (.cons (.lit (.int 0)) (.cons (.lit (.int 1)) .nil))))))) 1 (.of (.var 24)) .tt))
  (.cons (.ite (.or (.cmp .ne (.blt .len (.var 24)) (.mth .count (.comp (.idx (.var 0) (.lit (.int 0))) 1 (.of (.var 22)) .tt) (.lit (.int 0)))) (.or (.cmp .ne (.var 27) (.blt .sortedSet (.var 27))) .ff)) (.cons (.ret (.lit (.bool false)))
  .nil) .nil)
  (.cons (.ite (.cmp .ne (.comp (.comp (.idx (.var 1) (.var 0)) 1 (.of (.var 28)) .tt) 1 (.of (.var 24)) .tt) (.comp (.comp (.ite (.cmp .eq (.var 1) (.var 0)) (.tup (.cons (.lit (.int 1)) (.cons (.lit (.int 1)) .nil))) (.tup (.cons (.lit (.int 0)) (.cons (.lit (.int 1)) .nil)))) 1 (.of (.var 28)) .tt) 1 (.of (.var 27)) .tt)) (.cons (.ret (.lit (.bool false)))
  .nil) .nil)
  (.cons (.for_ [28] (.of (.var 24)) (.cons (.ite (.not (.val (.call 31 (.cons (.var 8) (.cons (.var 9) (.cons (.var 22) (.cons (.lst (.cons (.tup (.cons (.lit (.int 0)) (.cons (.lit (.int 1)) .nil))) (.cons (.tup (.cons (.lit (.int 0)) (.cons (.lit (.int 1)) .nil))) (.cons (.tup (.cons (.lit (.int 0)) (.cons (.lit (.int 1)) .nil))) .nil)))) (.cons (.var 28) .nil)))))))) (.cons (.ret (.lit (.bool false)))
  .nil) .nil)
  .nil))
  (.cons (.ite (.cmp .ne (.tst (.isNone (.var 26))) (.tst (.anyZ (.var 22) (.var 6)))) (.cons (.ret (.lit (.bool false)))
  .nil) .nil)
  (.cons (.asg 29 (.bin .add (.bin .add (.bin .add (.var 12) (.var 23)) (.var 24)) (.lst (.cons (.var 14) (.cons (.lst (.cons (.var 25) .nil)) .nil)))))
  (.cons (.ite (.isNotNone (.var 26)) (.cons (.asg 29 (.bin .add (.var 29) (.lst (.cons (.var 26) .nil))))
  (.cons (.ite (.or (.cmp .ne (.comp (.idx (.var 27) (.var 0)) 1 (.of (.var 27)) .tt) (.comp (.tup (.cons (.lit (.int 0)) (.cons (.lit (.int 1)) .nil))) 1 (.of (.var 27)) .tt)) (.or (.not (.val (.call 31 (.cons (.var 8) (.cons (.var 9) (.cons (.var 22) (.cons (.var 6) (.cons (.var 26) .nil)))))))) .ff)) (.cons (.ret (.lit (.bool false)))
  .nil) .nil)
  .nil)) .nil)
  (.cons (.ite (.cmp .ne (.var 25) (.call 24 (.cons (.bin .mul (.bin .mul (.idx (.idx (.var 22) (.lit (.int 0))) (.lit (.int 0))) (.idx (.idx (.var 22) (.lit (.int 1))) (.lit (.int 0)))) (.idx (.idx (.var 22) (.lit (.int 2))) (.lit (.int 0)))) (.cons (.bin .mul (.bin .mul (.idx (.idx (.var 22) (.lit (.int 0))) (.lit (.int 1))) (.idx (.idx (.var 22) (.lit (.int 1))) (.lit (.int 1)))) (.idx (.idx (.var 22) (.lit (.int 2))) (.lit (.int 1)))) .nil)))) (.cons (.ret (.lit (.bool false)))
  .nil) .nil)
  (.cons (.ite (.cmp .ne (.comp (.call 9 (.cons (.var 0) .nil)) 1 (.of (.var 14)) .tt) (.comp (.ite (.cmp .eq (.idx (.var 0) (.lit (.int 1))) (.lit (.int 1))) (.blt .str (.idx (.var 0) (.lit (.int 0)))) (.bin .add (.bin .add (.blt .str (.idx (.var 0) (.lit (.int 0)))) (.lit (.str ("/" : Str)))) (.blt .str (.idx (.var 0) (.lit (.int 1)))))) 1 (.of (.idx (.var 15) (.lit (.int 1)))) .tt)) (.cons (.ret (.lit (.bool false)))
  .nil) .nil)
  (.cons (.ite (.or (.cmp .ne (.tup (.cons (.var 12) (.cons (.var 14) .nil))) (.var 15)) (.or (.cmp .ne (.tup (.cons (.var 23) (.cons (.var 14) .nil))) (.call 27 (.cons (.var 3) (.cons (.var 8) (.cons (.var 9) (.cons (.var 22) (.cons (.var 6) .nil))))))) (.or (.cmp .ne (.var 10) (.var 4)) .ff))) (.cons (.ret (.lit (.bool false)))
  .nil) .nil)
  (.cons (.ite (.not (.allInts (.var 29))) (.cons (.ret (.lit (.bool false)))
  .nil) .nil)
  (.cons (.ret (.lit (.bool true)))
  .nil))))))))))))))))))))))))))))))))))))))))
noncomputable def f9_32 : PFun := ⟨("law" : Str), 1, [("script" : Str), ("top" : Str), ("mid" : Str), ("table" : Str), ("held" : Str), ("ds" : Str), ("cs" : Str), ("deeds" : Str), ("adj" : Str), ("det" : Str), ("p" : Str), ("inv" : Str), ("a" : Str), ("column" : Str), ("x" : Str), ("want" : Str), ("kind" : Str), ("k" : Str), ("made" : Str), ("refusal" : Str), ("q" : Str), ("lam" : Str), ("es" : Str), ("b" : Str), ("basis" : Str), ("size" : Str), ("y" : Str), ("leads" : Str), ("v" : Str), ("seen" : Str)], b9_32, false, true⟩
noncomputable def n9_32 : List Str := []
noncomputable def fn9 : List Str := [("copy_rows" : Str), ("pivot_row" : Str), ("gcd_of" : Str), ("frac" : Str), ("f_add" : Str), ("f_neg" : Str), ("f_sub" : Str), ("f_mul" : Str), ("f_div" : Str), ("f_text" : Str), ("from_ints" : Str), ("identity" : Str), ("transposed" : Str), ("dot" : Str), ("m_mul" : Str), ("m_vec" : Str), ("rows_swapped" : Str), ("row_scaled" : Str), ("row_added" : Str), ("reduced" : Str), ("det_by_elimination" : Str), ("inverse_of" : Str), ("solutions" : Str), ("null_space" : Str), ("_law_low" : Str), ("_law_sum" : Str), ("_law_adjugate" : Str), ("_law_due" : Str), ("_law_lessened" : Str), ("_law_run" : Str), ("_law_model" : Str), ("_law_solves" : Str), ("law" : Str)]
noncomputable def fs9 : List PFun := [f9_0, f9_1, f9_2, f9_3, f9_4, f9_5, f9_6, f9_7, f9_8, f9_9, f9_10, f9_11, f9_12, f9_13, f9_14, f9_15, f9_16, f9_17, f9_18, f9_19, f9_20, f9_21, f9_22, f9_23, f9_24, f9_25, f9_26, f9_27, f9_28, f9_29, f9_30, f9_31, f9_32]
noncomputable def bn9 : List (List Str) := [n9_0, n9_1, n9_2, n9_3, n9_4, n9_5, n9_6, n9_7, n9_8, n9_9, n9_10, n9_11, n9_12, n9_13, n9_14, n9_15, n9_16, n9_17, n9_18, n9_19, n9_20, n9_21, n9_22, n9_23, n9_24, n9_25, n9_26, n9_27, n9_28, n9_29, n9_30, n9_31, n9_32]
end Mine
end
section
set_option maxRecDepth 100000
namespace Mine
open PySem PyProof.Rows PySem.W
noncomputable def plainP (p : Arguments) (f : PFun) : Bool :=
  p.posonlyargs.isEmpty && p.vararg.isNone && p.kwonlyargs.isEmpty && p.kw_defaults.isEmpty && p.kwarg.isNone && p.defaults.isEmpty && decide (p.args.map (·.arg) = f.ns.take f.params) && decide (f.params ≤ f.ns.length)
noncomputable def defChk (fns excs : List Str) (wk : List Nat) (f : PFun) (bn : List Str) (d : DefRec) : Bool :=
  d.name == f.name && plainP d.params f && fnChk (mkCtx fns excs wk f.gen f.ns bn d.scope) d.scope f.ns && !d.scope.isCoroutine && !d.scope.isGenerator
noncomputable def defComp (fns excs : List Str) (wk : List Nat) (f : PFun) (bn : List Str) (d : DefRec) : Option PSs := cSs (mkCtx fns excs wk f.gen f.ns bn d.scope) d.body
theorem DefOk.of {G : GCtx} {wk : List Nat} {f : PFun} {bn : List Str} {d : DefRec} (h1 : defChk (G.fs.map (·.name)) G.excs wk f bn d = true) (h2 : defComp (G.fs.map (·.name)) G.excs wk f bn d = some f.body) :
    d.name = f.name ∧ DefOk G d.name d.params d.body d.scope f := by
  unfold defChk plainP at h1
  simp only [Bool.and_eq_true, beq_iff_eq, decide_eq_true_eq, List.isEmpty_iff, Option.isNone_iff_eq_none, Bool.not_eq_true'] at h1
  refine cps fun Gq goq => ?_
  obtain ⟨⟨⟨⟨w1, ⟨⟨⟨⟨⟨⟨⟨p1, p2⟩, p3⟩, p4⟩, p5⟩, p6⟩, p7⟩, p8⟩⟩, w2⟩, w3⟩, w4⟩ := h1
  obtain ⟨k1, k2⟩ := FnOk.of w2
  refine goq ?_
  clear goq
  clear Gq
  refine ⟨w1, ⟨⟨_, d.params.args, rfl, ⟨rfl, rfl⟩, h2, k1, ?_, p7, p8⟩, k2, w3, w4⟩⟩
  refine cps fun Gq goq => ?_
  obtain ⟨n, ⟨a1, a2, a3, a4, a5, a6, a7⟩, b, sc, pos⟩ := d
  refine goq ?_
  clear goq
  clear Gq
  simp only at p1 p2 p3 p4 p5 p6
  subst p1 p2 p3 p4 p5 p6
  rfl
noncomputable def DefsIn (fns excs : List Str) (wk : List Nat) (recs : List DefRec) : List PFun -> List (List Str) -> Prop
  | [], _ => True
  | f :: fs, bn :: bns => (∃ d ∈ recs, defChk fns excs wk f bn d = true ∧ defComp fns excs wk f bn d = some f.body) ∧ DefsIn fns excs wk recs fs bns
  | _ :: _, [] => False
theorem DefsIn.get {fns excs : List Str} {wk : List Nat} {recs : List DefRec} : ∀ {fs : List PFun} {bns : List (List Str)}, DefsIn fns excs wk recs fs bns -> ∀ (j : Nat) (f : PFun), fs[j]? = some f ->
    ∃ d ∈ recs, ∃ bn, defChk fns excs wk f bn d = true ∧ defComp fns excs wk f bn d = some f.body
  | [], _, _, _, _, h => nomatch h
  | _ :: _, [], h, _, _, _ => h.elim
  | f :: fs, bn :: bns, ⟨⟨d, m, h1, h2⟩, _⟩, 0, g, h => by
    replace h := Option.some.inj h
    subst h
    exact ⟨d, m, bn, h1, h2⟩
  | f :: fs, bn :: bns, ⟨_, r⟩, j + 1, g, h => r.get j g h
noncomputable def chkAll (fns excs : List Str) (wk : List Nat) : List DefRec -> List PFun -> List (List Str) -> Bool
  | d :: ds, f :: fs, bn :: bns => defChk fns excs wk f bn d && chkAll fns excs wk ds fs bns
  | [], [], [] => true
  | _, _, _ => false
noncomputable def compAll (fns excs : List Str) (wk : List Nat) : List DefRec -> List PFun -> List (List Str) -> List (Option PSs)
  | d :: ds, f :: fs, bn :: bns => defComp fns excs wk f bn d :: compAll fns excs wk ds fs bns
  | _, _, _ => []
theorem defsIn_of' {fns excs : List Str} {wk : List Nat} {recs : List DefRec} : ∀ {ds : List DefRec} {fs : List PFun} {bns : List (List Str)}, (∀ d ∈ ds, d ∈ recs) ->
    chkAll fns excs wk ds fs bns = true -> compAll fns excs wk ds fs bns = fs.map (fun f => some f.body) -> DefsIn fns excs wk recs fs bns
  | [], [], [], _, _, _ => trivial
  | d :: ds, f :: fs, bn :: bns, hs, h1, h2 => by
    obtain ⟨a1, a2⟩ := Bool.and_eq_true_iff.mp h1
    obtain ⟨b1, b2⟩ := List.cons.inj h2
    exact ⟨⟨d, hs d (.head _), a1, b1⟩, defsIn_of' (fun d' q => hs d' (.tail _ q)) a2 b2⟩
  | [], _ :: _, _, _, h, _ => nomatch h
  | [], [], _ :: _, _, h, _ => nomatch h
  | _ :: _, [], _, _, h, _ => nomatch h
  | _ :: _, _ :: _, [], _, h, _ => nomatch h
noncomputable def SeenTop (h : Heap) : Prop := ∃ m, h.Ns mainGlobals m ∧ ∀ x v, bltin.lookup x = some v -> m x = none
theorem ns_same {h : Heap} {a : Addr} {m m' : Str -> Option Value} (x : h.Ns a m) (y : h.Ns a m') : m = m' := funext fun n => Heap.Ns.agree x y n
theorem lk_mem {α : Type} {x : Str} {v : α} : ∀ {l : List (Str × α)}, l.lookup x = some v -> (x, v) ∈ l
  | [], e => nomatch e
  | (y, w) :: r, e => by
    rw [List.lookup_cons] at e
    cases q : x == y with
    | true => rw [q] at e; cases e; rw [eq_of_beq q]; exact .head _
    | false => rw [q] at e; exact .tail _ (lk_mem e)
theorem map_at {α β : Type} {f g : α -> β} {l : List α} (h : l.map f = l.map g) {x : α} (hx : x ∈ l) : f x = g x := List.map_inj_left.mp h x hx
noncomputable def topHook : Hook where
  α := Bool × List Bool
  obs := fun s => (s.heap.isNs mainGlobals, bltin.map (fun x => (s.heap.nsMap mainGlobals x.1).isNone))
  val := fun ζ => (true, bltin.map (fun ζ => true))
  says := fun ζ h => SeenTop h
  of := fun w s e => by
    have e1 := congrArg Prod.fst e
    have e2 : bltin.map (fun x => (s.heap.nsMap mainGlobals x.1).isNone) = bltin.map (fun ζ => true) := congrArg Prod.snd e
    exact ⟨_, .of_isNs e1, fun x v q => Option.isNone_iff_eq_none.mp (map_at e2 (lk_mem q))⟩
  keeps := fun w h h' ⟨m, h1, h2⟩ k => ⟨m, h1.keeps k, h2⟩
theorem bltin_boot : ∀ x v, bltin.lookup x = some v -> x ≠ "__name__" ∧ bootBuiltins x = some v := by
  have h : ∀ p ∈ bltin, p.1 ≠ ("__name__" : Str) ∧ bootBuiltins p.1 = some p.2 := by
    intro p hp
    simp only [bltin, List.mem_cons, List.not_mem_nil, or_false] at hp
    rcases hp with rfl | rfl | rfl | rfl | rfl | rfl | rfl | rfl | rfl | rfl | rfl | rfl | rfl | rfl | rfl <;> exact ⟨by decide, by kernel_rfl⟩
  intro x v e
  exact h (x, v) (lk_mem e)
section
variable {h : Heap} {P : Addr}
noncomputable def Tab0 (h : Heap) (P : Addr) : Prop := h.get? P = some { cls := .none, data := .fields #[] }
theorem hide_at {b : Addr} {o : Obj} (t : Tab0 h P) (e : h.get? b = some o) (hd : ∀ vs, o.data = .fields vs -> vs ≠ #[]) : (h.hide P).get? b = some o :=
  (Heap.hide_ne h fun z => by subst z; rw [t] at e; cases e; exact hd _ rfl rfl).trans e
theorem hide_ns {a : Addr} {m : Str -> Option Value} (t : Tab0 h P) (x : h.Ns a m) : (h.hide P).Ns a m :=
  let ⟨o, es, ep, e, hd, r⟩ := x; ⟨o, es, ep, hide_at t e (fun vs q => by rw [hd] at q; cases q), hd, r⟩
theorem hide_rec {cd : Value} {q : Str} (t : Tab0 h P) (x : h.CodeRec cd q) : (h.hide P).CodeRec cd q :=
  let ⟨c, o, vs, tk, e, g, hd, r⟩ := x; ⟨c, o, vs, tk, e, hide_at t g (fun vs' q z => by rw [hd] at q; cases q; subst z; cases r), hd, r⟩
theorem hide_tail {bmB tl : List Value} (t : Tab0 h P) (T : OwnTailQ h bmB tl) : OwnTailQ (h.hide P) bmB tl := by
  induction T with
  | base => exact .base
  | own hA hN hq _ ih => exact .own (hide_at t hA fun vs q => nomatch q) (hide_ns t hN) hq ih
theorem hide_own {x : Str} {C : Addr} {bm : List Value} {newId : String} {mg : Str -> Option Value} (t : Tab0 h P) (O : OwnClsQ x C bm newId mg h) : OwnClsQ x C bm newId mg (h.hide P) := by
  refine ⟨O.bound, ?_⟩
  refine O.obj.imp fun bm' => Exists.imp fun N => Exists.imp fun nm => Exists.imp fun q => Exists.imp fun bs => Exists.imp fun hdct => Exists.imp fun sn => Exists.imp fun sub => Exists.imp fun ab => Exists.imp fun col => Exists.imp fun dd => Exists.imp fun k0 => Exists.imp fun k1 => Exists.imp fun k2 => Exists.imp fun k3 => Exists.imp fun k5 => Exists.imp fun mN => ?_
  exact And.imp (fun hC => hide_at t hC fun vs q => (nomatch q)) (And.imp (hide_ns t) (And.imp id (hide_tail t)))
end
section
variable {prog : Program} {w : World} {s₁ : Shared} {p : Program} {loose : List Str} {mean : ExcName -> Option Value} {mg mb : Str -> Option Value} {fs : List PFun} {bns : List (List Str)} {P : Addr}
noncomputable def xv9 (C : Addr) : Nat -> Option Value
  | 0 => some (.type "ZeroDivisionError")
  | 1 => some (.ref C)
  | _ => none
noncomputable def gOf (prog : Program) (w : World) (h : Heap) (mg mb : Str -> Option Value) (fs : List PFun) (C P : Addr) : GCtx := ⟨prog, w, h.hide P, mg, mb, fs, excs9, xv9 C⟩
noncomputable def wk9 : List Nat := [29]
theorem top_defs (T : Top p loose mean mg mb s₁.heap) (t : Tab0 s₁.heap P) (c : DefsIn (fs.map (·.name)) excs9 wk9 (recsOf p) fs bns) (C : Addr) : ∀ (j : Nat) (f : PFun), (gOf prog w s₁.heap mg mb fs C P).fs[j]? = some f -> DefAt (gOf prog w s₁.heap mg mb fs C P) f := by
  intro j f hf
  refine cps fun Gq goq => ?_
  obtain ⟨d, hd, bn, h1, h2⟩ := c.get j f hf
  obtain ⟨a, o, pm, code, doc, q1, q2, q3, q4⟩ := T.fn d hd
  obtain ⟨e1, e2⟩ := DefOk.of (G := gOf prog w s₁.heap mg mb fs C P) h1 h2
  refine goq ?_
  clear goq
  clear Gq
  exact ⟨d.name, d.params, d.body, d.scope, pm, code, doc, a, o, e1 ▸ q1, hide_at t q2 (fun vs q => by rw [q3] at q; cases q), q3, hide_rec t q4, e2⟩
theorem top_ok (T : Top p loose mean mg mb s₁.heap) (t : Tab0 s₁.heap P) (X : SeenTop s₁.heap) (c : DefsIn (fs.map (·.name)) excs9 wk9 (recsOf p) fs bns) (hl : fs.length ≤ 1000) {C : Addr} {bm : List Value} (O : OwnClsQ ("SingularError" : Str) C bm "Exception.__new__" mg s₁.heap) (hbm : bm = [.type "Exception", .type "BaseException", .type "object"]) :
    GOk (gOf prog w s₁.heap mg mb fs C P) where
  g := hide_ns t T.g
  b := hide_ns t T.b
  nolimit := let ⟨mc, h1, h2⟩ := T.nolimit; ⟨mc, hide_ns t h1, h2⟩
  nodigits := let ⟨mc, h1, h2⟩ := T.nodigits; ⟨mc, hide_ns t h1, h2⟩
  blt := fun x v e => ⟨by obtain ⟨m, h1, h2⟩ := X; rw [show (gOf prog w s₁.heap mg mb fs C P).mg = m from ns_same T.g h1]; exact h2 x v e, by
    obtain ⟨e1, e2⟩ := bltin_boot x v e
    rw [← e2]; exact T.builtins x e1⟩
  exc := fun i x e => by
    match i, e with
    | 0, e => cases e; exact ⟨_, rfl, .zde⟩
    | 1, e => cases e; exact ⟨_, rfl, .own (hide_own t O) (hbm ▸ PySem.F.excBase_Exception) (hbm ▸ rfl) (by decide)⟩
    | _ + 2, e => cases e
  len := hl
  bm := let ⟨bm, ob, h1, h2, h3, h4, h5, h6⟩ := T.bmain; ⟨bm, ob, h1, h2, hide_at t h3 (fun vs q => by rw [h6] at q; cases q), h4, h5, h6⟩
  fn := fun j f hf => by
    refine cps fun Gq goq => ?_
    obtain ⟨_, _, _, _, _, _, _, a, o, q1, q2, q3, _⟩ := top_defs (prog := prog) (w := w) T t c C j f hf
    refine goq ?_
    clear goq
    clear Gq
    exact ⟨a, o, _, q1, q2, q3⟩
end
theorem items_int {R : WRecords} : ∀ {xs : List WData}, WShape.hasItems R xs .int = true -> ∃ is : List Int, xs = is.map WData.int
  | [], _ => ⟨[], rfl⟩
  | x :: xs, h => by
    have h' : WShape.has R x .int = true ∧ WShape.hasItems R xs .int = true := by simpa [WShape.hasItems] using h
    obtain ⟨i, rfl⟩ := hasW_int h'.1
    obtain ⟨is, rfl⟩ := items_int h'.2
    exact ⟨i :: is, rfl⟩
theorem well_ints {P : Params} {h : Heap} {F : Addr -> Prop} : ∀ {is : List Int} {vs : List Value}, WellAll P h vs (is.map WData.int) -> RDs h F vs (is.map PyData.int)
  | [], vs, w => by cases w; exact .nil
  | i :: is, vs, w => by
    cases w with
    | cons a b =>
      cases a
      exact .cons (.int _ _) (well_ints b)
theorem law_args {R : WRecords} {P : Params} {h : Heap} {args : List WData} {vals : List Value} (hsh : WShape.hasAll R args [.list .int] = true) (hwl : WellAll P h vals args) :
    ∃ is : List Int, args = [.list (is.map WData.int)] ∧ RDs h (fun ζ => False) vals [.list (is.map PyData.int)] := by
  obtain ⟨d, r, rfl, h1, h2⟩ := hasAllW_cons hsh
  have := hasAllW_nil h2
  subst this
  obtain ⟨xs, rfl, h3⟩ := hasW_list h1
  obtain ⟨is, rfl⟩ := items_int h3
  refine ⟨is, rfl, ?_⟩
  cases hwl with
  | cons a b =>
    cases b
    cases a with
    | list ho hw => exact .cons (.list ⟨_, ho⟩ (fun z => z) (by simpa using well_ints hw)) .nil
theorem law_runs {prog : Program} {w : World} {s₁ : Shared} {p : Program} {loose : List Str} {mean : ExcName -> Option Value} {mg mb : Str -> Option Value} {fs : List PFun} {bns : List (List Str)}
    (T : Top p loose mean mg mb s₁.heap) (X : SeenTop s₁.heap) (c : DefsIn (fs.map (·.name)) excs9 wk9 (recsOf p) fs bns) (hl : fs.length ≤ 1000) {C : Addr} {bm : List Value} (O : OwnClsQ ("SingularError" : Str) C bm "Exception.__new__" mg s₁.heap) (hbm : bm = [.type "Exception", .type "BaseException", .type "object"])
    {fu j : Nat} {f : PFun} {fa : Addr} {vals : List Value} {ds : List PyData} {d : PyData} {l : Nat} {Q E : Value -> Shared -> Prop}
    (hj : j < 60) (hgn : ∀ (i : Nat) (f : PFun), i < j -> fs[i]? = some f -> f.gen = false) (hf : fs[j]? = some f) (hm : mg f.name = some (.ref fa)) (rd : RDs s₁.heap (fun ζ => False) vals ds) (he : evF (tower fs fu j) fu true f ds = some (.ret d l))
    (hQ : ∀ v s', Sm s₁ s' -> OldK s₁.heap s'.heap -> RD s'.heap (fun ζ => False) v d -> Q v s') : wpAny (model prog w) callerA (call (.ref fa) vals) Q E s₁ := by
  refine cps fun Gq goq => ?_
  obtain ⟨dr, hdr, bn, h1, h2⟩ := c.get j f hf
  obtain ⟨a, o, fd, cc, P, t1, t2, t3, t4, t5, t6⟩ := T.tab dr hdr
  have t : Tab0 s₁.heap P := t6.2
  have g := top_ok (prog := prog) (w := w) T t X c hl O hbm
  obtain ⟨name, params, body, sc, pm, code, doc, a', o', w1, w2, w3, w4, w5⟩ := top_defs (prog := prog) (w := w) T t c C j f hf
  obtain ⟨e1, _⟩ := DefOk.of (G := gOf prog w s₁.heap mg mb fs C P) h1 h2
  refine goq ?_
  clear goq
  clear Gq
  rw [show (gOf prog w s₁.heap mg mb fs C P).mg f.name = some (.ref fa) from hm] at w1
  cases w1
  rw [e1, hm] at t1
  cases t1
  have w2' : s₁.heap.get? fa = some o' := Heap.of_hide w2
  rw [t2] at w2'
  cases w2'
  rw [t3] at w3
  have hcode : code = .ref cc := by
    have := Data.func.inj w3
    subst this
    exact t4
  rw [← t3] at w3
  refine runs g w5 w2 w3 w4 (towerReal g (top_defs (prog := prog) (w := w) T t c C) fu j (Nat.le_trans (Nat.le_of_lt hj) (by decide)) hgn) he (A := callerA) (outer := []) (F := fun ζ => False) (some (cc, P)) (fun cc' P' e => by
    cases e
    exact ⟨hcode, Heap.hide_self _ _, #[], t5, t6⟩) nofun (fun ζ => ⟨rfl, cc, P, rfl⟩) ⟨rfl, ?_, ?_, fun ζ ζ e => Heap.of_hide e, [], rfl, fun ζ z => (List.not_mem_nil z).elim⟩ rfl (fun ζ z => z.elim) rd (fun d' l' e v s' sm k tb ζ v1 => ?_) nofun
  . show 1 + claimMargin + (j + 1) < recursionLimit
    unfold claimMargin recursionLimit; omega
  . show 4 + 8 * (j + 1) + 200 < cLine
    unfold cLine; omega
  . cases e
    have zq := tb cc P rfl
    clear tb
    obtain ⟨ps, _, tb⟩ := zq
    refine hQ v s' sm ((OldK.refl s₁.heap).step_table (more := ps) t6 t6 (by simpa using tb) (fun b o hb e => k b o e fun z => ?_) ?_) v1.1
    . rcases z.2 with z | ⟨_, z⟩
      . cases z
      . cases z; exact hb rfl
    . rintro rfl
      obtain ⟨mc, hn, _⟩ := T.nolimit
      exact ns_dt hn t (.inr ⟨_, rfl⟩)
theorem law_post (l : OpenLaw) (args : List WData) : l.row.toRowW.claim.post args (.bool true) args = true := by
  refine postW_of (r := l.row.toRowW) (X := true) rfl ?_ rfl
  show WTm.value [] (.eq .res (.lit (.bool true))) { args := args, res := some (.bool true), after := args } = some (.bool true)
  simp only [WTm.value]
  exact congrArg (fun b => some (WData.bool b)) (same_self _)
end Mine
end
section
open PySem PySem.W PyProof.Rows
set_option Elab.async false
set_option maxRecDepth 100000
set_option maxHeartbeats 8000000
namespace Mine
noncomputable def vw9 : Program := { PySem.Challenge.pw_sx_vpivot_9 with main := { PySem.Challenge.pw_sx_vpivot_9.main with body := (PySem.Challenge.pw_sx_vpivot_9.main.body.eraseIdx 26).eraseIdx 0 } }
theorem some9 : (defOf vw9 PySem.Challenge.rw_sx_vpivot_9.row.name).isSome = true := by kernel_rfl
noncomputable def d9 : DefRec := ((defOf vw9 PySem.Challenge.rw_sx_vpivot_9.row.name).get some9).1
theorem left9 : LeftO PySem.Challenge.pw_sx_vpivot_9 vw9 [] (fun s => xlAt vw9 [] s && recOk [] s) topHook.obs topHook.val 1780 := fun w => by kernel_rfl
theorem chk9 : DefsIn (fs9.map (·.name)) excs9 wk9 (recsOf vw9) fs9 bn9 := defsIn_of' (fun ζ q => q) (by kernel_rfl) (by kernel_rfl)
theorem gen9 (i : Nat) (f : PFun) (hi : i < 32) (hf : fs9[i]? = some f) : f.gen = false := by
  have h : (fs9.take 32).all (fun f => !f.gen) = true := by kernel_rfl
  have hm : f ∈ fs9.take 32 := List.mem_of_getElem? (i := i) (by rw [List.getElem?_take_of_lt hi]; exact hf)
  simpa using List.all_eq_true.mp h f hm
theorem spec9 : ∃ o ∈ ownsOf vw9, o.name = ("SingularError" : Str) ∧ o.newId = "Exception.__new__" ∧ o.bm = [.type "Exception", .type "BaseException", .type "object"] := by
  have h : (ownsOf vw9).map (fun o => (o.name, o.newId, o.bm)) = [(("SingularError" : Str), "Exception.__new__", [.type "Exception", .type "BaseException", .type "object"])] := by kernel_rfl
  have hm : (("SingularError" : Str), "Exception.__new__", [Value.type "Exception", .type "BaseException", .type "object"]) ∈ (ownsOf vw9).map (fun o => (o.name, o.newId, o.bm)) := by rw [h]; exact .head _
  obtain ⟨o, ho, e⟩ := List.mem_map.mp hm
  exact ⟨o, ho, congrArg (·.1) e, congrArg (·.2.1) e, congrArg (·.2.2) e⟩
theorem law_len (l : OpenLaw) (hm : l.most = some 63) (hb : l.bound = none) (is : List Int) (h : l.row.toRowW.pre.holds l.row.toRowW.records { args := [.list (is.map WData.int)] } = true) : is.length ≤ 63 := by
  have h0 : l.pre.holds [] { args := [.list (is.map WData.int)] } = true := h
  unfold OpenLaw.pre at h0
  rw [hm, hb] at h0
  have h1 := (holds_andW h0).1
  simp [WTm.holds, WTm.value] at h1
  have e : less? (WData.int 63) (WData.int (is.length : Int)) = some (decide ((63 : Int) < is.length)) := by with_unfolding_all rfl
  rw [e] at h1
  simp only [Option.map_some] at h1
  by_cases hl : (63 : Int) < is.length
  . rw [decide_eq_true hl] at h1; simp at h1
  . omega
theorem x9 (pure9 : ∀ is : List Int, is.length ≤ 63 -> ∃ l, evF (tower fs9 40000 32) 40000 true f9_32 [.list (is.map PyData.int)] = some (.ret (.bool true) l)) : PySem.Challenge.rw_sx_vpivot_9.Holds := by
  refine holds_law (by kernel_rfl) (fun said => ?_)
  refine PySem.W.holds_open (q := vw9) (d := d9) (kwd := []) (loose := []) (Xt := fun s => xlAt vw9 [] s && recOk [] s) (XP := XL vw9 []) (Yf := topHook.obs) (Ya := topHook.val) (YP := topHook.says) (N := 1780) left9 topHook.of topHook.keeps
    (fun s e => xl_of s (Bool.and_eq_true_iff.mp e).1) XL.keeps (by kernel_rfl) (by kernel_rfl) (by kernel_rfl) (fun s e => recFacts_of (Bool.and_eq_true_iff.mp e).2) (by rfl) said (by kernel_rfl) ⟨rfl, rfl, rfl, rfl, rfl, by kernel_rfl⟩ ⟨[.list []], by kernel_rfl, by kernel_rfl⟩ ?_
  intro w s₀ s₁ mg mb G Y fa o pm cd doc dV kV ho hd hcd hD hmg hg args vals as hpre hlay hrd hwl hlo
  clear ho hd hcd hD hlay hrd hlo
  refine Ground.open G ?_
  intro T B D TE TW
  clear B D TE TW G
  have hsh := (pre_splitW hpre).1
  have hcond := (pre_splitW hpre).2
  clear hpre
  obtain ⟨is, rfl, rd⟩ := law_args hsh hwl
  obtain ⟨l, he⟩ := pure9 is (law_len PySem.Challenge.rw_sx_vpivot_9 rfl rfl is hcond)
  obtain ⟨oc, hoc, c1, c2, c3⟩ := spec9
  obtain ⟨C, O, _⟩ := T.own oc hoc
  rw [c1, c2] at O
  refine law_runs (fs := fs9) (bns := bn9) T Y chk9 (by decide) O c3 (fu := 40000) (j := 32) (f := f9_32) (by decide) gen9 rfl hmg rd he fun v s' sm k r => ?_
  have := r.bool_inv
  subst this
  obtain ⟨h', tk, gs, rfl, hb⟩ := sm
  exact ⟨.inl ⟨_, .bool true, [], rfl, fun cls => rfl, .bool true, law_post _ _, fun ζ => ⟨.nil, fun a ha => by cases ha⟩⟩, k, rfl, hb (.of_eq hg)⟩
end Mine
end
section
set_option maxRecDepth 100000
namespace Mine
open PySem
section
variable {Φ : Funs} {fu : Nat} {tp : Bool} {γ γ' : Env'} {res : Flw × Env'} {rest : PSs}
theorem bnd {α β : Type} {x : Option α} {a : α} {g : α -> Option β} {b : Option β} (h : x = some a) (hb : g a = b) : x.bind g = b := by rw [h]; exact hb
theorem ss_next {p : PS} (h : evS Φ fu tp γ p = some (.next, γ')) (hr : evSs Φ fu tp γ' rest = some res) : evSs Φ fu tp γ (.cons p rest) = some res := bnd h hr
theorem ss_stop {p : PS} {fl : Flw} (h : evS Φ fu tp γ p = some (fl, γ')) (hf : fl ≠ .next) : evSs Φ fu tp γ (.cons p rest) = some (fl, γ') := bnd h (by
  cases fl with
  | next => exact (hf rfl).elim
  | _ => rfl)
theorem st_nil : evSs Φ fu tp γ .nil = some (.next, γ) := rfl
theorem st_frz {is : List Nat} (hr : evSs Φ fu tp (frz γ is) rest = some res) : evSs Φ fu tp γ (.cons (.frz is) rest) = some res := ss_next rfl hr
theorem st_asg {i : Nat} {e : PE} {d : PyData} {l : Nat} (h : evE Φ γ e = some (d, l)) (hr : evSs Φ fu tp (γ.set i (.pl d)) rest = some res) : evSs Φ fu tp γ (.cons (.asg i e) rest) = some res := ss_next (bnd h rfl) hr
theorem st_bnew {i : Nat} {e : PE} {r : PyData × Nat} {sl : Slot} (h : evE Φ γ e = some r) (hs : mkSlot r = sl) (hr : evSs Φ fu tp (γ.set i sl) rest = some res) : evSs Φ fu tp γ (.cons (.bnew i e) rest) = some res := ss_next (bnd h (by subst hs; rfl)) hr
theorem st_asgN {is : List Nat} {e : PE} {ds : List PyData} {l : Nat} (h : evE Φ γ e = some (.tuple ds, l)) (hs : setN γ is ds = some γ') (hr : evSs Φ fu tp γ' rest = some res) : evSs Φ fu tp γ (.cons (.asgN is e) rest) = some res := ss_next (bnd h (bnd hs rfl)) hr
theorem st_app {i : Nat} {e : PE} {r : PyData × Nat} (h : evE Φ γ e = some r) (hs : appS γ i r = some γ') (hr : evSs Φ fu tp γ' rest = some res) : evSs Φ fu tp γ (.cons (.app i e) rest) = some res := ss_next (bnd h (bnd hs rfl)) hr
theorem st_put {i : Nat} {p e : PE} {k r : PyData × Nat} (h : evE Φ γ e = some r) (h1 : evE Φ γ p = some k) (hs : putS γ i k.1 r = some γ') (hr : evSs Φ fu tp γ' rest = some res) : evSs Φ fu tp γ (.cons (.put i p e) rest) = some res := ss_next (bnd h (bnd h1 (bnd hs rfl))) hr
theorem st_true {t : PT} {a b : PSs} (h : evT Φ γ t = some true) (ha : evSs Φ fu tp γ a = some (.next, γ')) (hr : evSs Φ fu tp γ' rest = some res) : evSs Φ fu tp γ (.cons (.ite t a b) rest) = some res := ss_next (bnd h ha) hr
theorem st_false {t : PT} {a b : PSs} (h : evT Φ γ t = some false) (ha : evSs Φ fu tp γ b = some (.next, γ')) (hr : evSs Φ fu tp γ' rest = some res) : evSs Φ fu tp γ (.cons (.ite t a b) rest) = some res := ss_next (bnd h ha) hr
theorem st_else {t : PT} {a : PSs} (h : evT Φ γ t = some false) (hr : evSs Φ fu tp γ rest = some res) : evSs Φ fu tp γ (.cons (.ite t a .nil) rest) = some res := st_false h st_nil hr
theorem st_trueX {t : PT} {a b : PSs} {fl : Flw} (h : evT Φ γ t = some true) (ha : evSs Φ fu tp γ a = some (fl, γ')) (hf : fl ≠ .next) : evSs Φ fu tp γ (.cons (.ite t a b) rest) = some (fl, γ') := ss_stop (bnd h ha) hf
theorem st_for {is : List Nat} {it : PI} {body : PSs} {xs : List PyData} (h : evI Φ γ it = some xs) (hf : forL (fun g => evSs Φ fu tp g body) is xs γ = some (.next, γ')) (hr : evSs Φ fu tp γ' rest = some res) : evSs Φ fu tp γ (.cons (.for_ is it body) rest) = some res := ss_next (bnd h hf) hr
theorem st_forX {is : List Nat} {it : PI} {body : PSs} {xs : List PyData} {fl : Flw} (h : evI Φ γ it = some xs) (hf : forL (fun g => evSs Φ fu tp g body) is xs γ = some (fl, γ')) (hn : fl ≠ .next) : evSs Φ fu tp γ (.cons (.for_ is it body) rest) = some (fl, γ') := ss_stop (bnd h hf) hn
theorem st_ret {e : PE} {d : PyData} {l : Nat} (h : evE Φ γ e = some (d, l)) : evSs Φ fu tp γ (.cons (.ret e) rest) = some (.ret d l, γ) := ss_stop (bnd h rfl) (fun z => by cases z)
theorem st_retv {i : Nat} {d : PyData} {l : Nat} (h : evS Φ fu tp γ (.retv i) = some (.ret d l, γ)) : evSs Φ fu tp γ (.cons (.retv i) rest) = some (.ret d l, γ) := ss_stop h (fun z => by cases z)
theorem st_cont : evSs Φ fu tp γ (.cons .cont rest) = some (.cont, γ) := rfl
theorem st_raise {c : Nat} {m : Str} : evSs Φ fu tp γ (.cons (.raise c m) rest) = some (.exc c, γ) := rfl
theorem st_try {i f c y : Nat} {as : PEs} {d v : PyData} {l : Nat} {xs : List PyData} (h : evEs Φ γ as = some xs) (h2 : Φ f xs = some (.ret v l)) (hr : evSs Φ fu tp (γ.set i (.pl v)) rest = some res) : evSs Φ fu tp γ (.cons (.tryC i f as c y d) rest) = some res := ss_next (bnd h (bnd h2 rfl)) hr
theorem st_tryX {i f c y : Nat} {as : PEs} {d : PyData} {xs : List PyData} (h : evEs Φ γ as = some xs) (h2 : Φ f xs = some (.exc c)) (htp : tp = true) (hr : evSs Φ fu tp (γ.set y (.pl d)) rest = some res) : evSs Φ fu tp γ (.cons (.tryC i f as c y d) rest) = some res := by
  subst htp
  refine ss_next (bnd h (bnd h2 ?_)) hr
  show (if (true && c == c) then _ else _) = _
  rw [beq_self_eq_true]
  rfl
theorem fl_nil {body : Env' -> Option (Flw × Env')} {is : List Nat} : forL body is [] γ = some (.next, γ) := rfl
theorem fl_cons {body : Env' -> Option (Flw × Env')} {i : Nat} {d : PyData} {ds : List PyData} {γ₁ : Env'} (h : body (γ.set i (.pl d)) = some (.next, γ₁)) (hr : forL body [i] ds γ₁ = some res) : forL body [i] (d :: ds) γ = some res := bnd rfl (bnd h hr)
theorem fl_cont {body : Env' -> Option (Flw × Env')} {i : Nat} {d : PyData} {ds : List PyData} {γ₁ : Env'} (h : body (γ.set i (.pl d)) = some (.cont, γ₁)) (hr : forL body [i] ds γ₁ = some res) : forL body [i] (d :: ds) γ = some res := bnd rfl (bnd h hr)
theorem fl_ret {body : Env' -> Option (Flw × Env')} {i : Nat} {d : PyData} {ds : List PyData} {γ₁ : Env'} {v : PyData} {l : Nat} (h : body (γ.set i (.pl d)) = some (.ret v l, γ₁)) : forL body [i] (d :: ds) γ = some (.ret v l, γ₁) := bnd rfl (bnd h rfl)
theorem eF {f : Nat} {as : PEs} {xs : List PyData} {d : PyData} {l : Nat} (h : evEs Φ γ as = some xs) (h2 : Φ f xs = some (.ret d l)) : evE Φ γ (.call f as) = some (d, l) := bnd h (bnd h2 rfl)
theorem eC {e : PE} {r : PEs} {d : PyData} {l : Nat} {xs : List PyData} (h : evE Φ γ e = some (d, l)) (h2 : evEs Φ γ r = some xs) : evEs Φ γ (.cons e r) = some (d :: xs) := bnd h (bnd h2 rfl)
theorem eN : evEs Φ γ .nil = some [] := rfl
theorem eB {o : BOp} {a b : PE} {x y : PyData} {l l' : Nat} {r : PyData × Nat} (h : evE Φ γ a = some (x, l)) (h2 : evE Φ γ b = some (y, l')) (h3 : binD o x y = some r) : evE Φ γ (.bin o a b) = some r := bnd h (bnd h2 h3)
theorem eI {a b : PE} {x y : PyData} {l l' : Nat} {r : PyData × Nat} (h : evE Φ γ a = some (x, l)) (h2 : evE Φ γ b = some (y, l')) (h3 : idxD x y = some r) : evE Φ γ (.idx a b) = some r := bnd h (bnd h2 h3)
theorem eV {i : Nat} {d : PyData} (h : γ[i]? = some (.pl d)) : evE Φ γ (.var i) = some (d, 0) := by
  show (match γ[i]? with | some (.pl d) => some (d, 0) | _ => none) = _
  rw [h]
theorem eK {o : COp} {a b : PE} {x y : PyData} {l l' : Nat} {r : Bool} (h : evE Φ γ a = some (x, l)) (h2 : evE Φ γ b = some (y, l')) (h3 : cmpD o x y = some r) : evT Φ γ (.cmp o a b) = some r := bnd h (bnd h2 h3)
theorem ev_r1 {b : PE} {j : Int} {l : Nat} (h : evE Φ γ b = some (.int j, l)) (hj : okR 0 j = true) : evI Φ γ (.r1 b) = some (rangeL 0 j) := bnd h (bnd (x := some j) rfl (if_pos hj))
theorem ev_of {a : PE} {x : PyData} {l : Nat} {xs : List PyData} (h : evE Φ γ a = some (x, l)) (h2 : itemsD x = some xs) (h3 : xs.length ≤ lenLim) : evI Φ γ (.of a) = some xs := bnd h (bnd h2 (if_pos h3))
theorem ev_comp {elt : PE} {n : Nat} {it : PI} {c : PT} {xs : List PyData} {rs : List (Option (PyData × Nat))} (h : evI Φ γ it = some xs) (h2 : xs.mapM (fun d => (bindC n d γ).bind fun g => (evT Φ g c).bind fun b => if b then (evE Φ g elt).map some else some none) = some rs) :
    evE Φ γ (.comp elt n it c) = some (mkL (rs.filterMap id)) := bnd h (bnd h2 rfl)
theorem evF_ret {f : PFun} {args : List PyData} {γ' : Env'} {d : PyData} {l : Nat} (hl : args.length = f.params) (h : evSs Φ fu tp (args.map Slot.pl ++ List.replicate (f.ns.length - f.params) Slot.un) f.body = some (.ret d l, γ')) : evF Φ fu tp f args = some (.ret d l) := (if_pos hl).trans (bnd h rfl)
theorem evF_exc {f : PFun} {args : List PyData} {γ' : Env'} {c : Nat} (hl : args.length = f.params) (h : evSs Φ fu tp (args.map Slot.pl ++ List.replicate (f.ns.length - f.params) Slot.un) f.body = some (.exc c, γ')) : evF Φ fu tp f args = some (.exc c) := (if_pos hl).trans (bnd h rfl)
theorem put_b1 {i k : Nat} {p : PyData} {ds : List PyData} {r : PyData × Nat} (h : γ[i]? = some (.b1 ds)) (hp : posD p ds.length = some k) : putS γ i p r = some (γ.set i (.b1 (ds.set k r.1))) := by
  unfold putS; rw [h]; exact bnd hp rfl
theorem app_b1 {i : Nat} {ds : List PyData} {r : PyData × Nat} (h : γ[i]? = some (.b1 ds)) (hl : ds.length ≤ lenLim) : appS γ i r = some (γ.set i (.b1 (ds ++ [r.1]))) := by
  unfold appS; rw [h]; exact if_pos hl
theorem ev_sl {a : PE} {x : PyData} {l : Nat} {r : PyData × Nat} (h : evE Φ γ a = some (x, l)) (h2 : slD x .none .none = some r) : evE Φ γ (.sl a (.lit .none) (.lit .none)) = some r := bnd h (bnd (x := some (PyData.none, 0)) rfl (bnd (x := some (PyData.none, 0)) rfl h2))
theorem vL {d : PyData} : evE Φ γ (.lit d) = some (d, 0) := rfl
theorem ev_tup {es : PEs} {xs : List PyData} (h : evEs Φ γ es = some xs) : evE Φ γ (.tup es) = some (.tuple xs, 0) := bnd h rfl
theorem ev_lst {es : PEs} {xs : List PyData} (h : evEs Φ γ es = some xs) : evE Φ γ (.lst es) = some (.list xs, 1) := bnd h rfl
theorem ev_blt {f : Blt} {a : PE} {x : PyData} {l : Nat} {r : PyData × Nat} (h : evE Φ γ a = some (x, l)) (h2 : bltD f x = some r) : evE Φ γ (.blt f a) = some r := bnd h h2
theorem ev_neg {a : PE} {i : Int} {l : Nat} (h : evE Φ γ a = some (.int i, l)) : evE Φ γ (.neg a) = some (.int (-i), 0) := bnd h rfl
theorem ev_mth {f : Mth} {a b : PE} {x y : PyData} {l l' : Nat} {r : PyData × Nat} (h : evE Φ γ a = some (x, l)) (h2 : evE Φ γ b = some (y, l')) (h3 : mthD f x y = some r) : evE Φ γ (.mth f a b) = some r := bnd h (bnd h2 h3)
theorem ev_lrange {i : PI} {xs : List PyData} (h : evI Φ γ i = some xs) : evE Φ γ (.lrange i) = some (.list xs, 1) := bnd h rfl
theorem ev_r2 {a b : PE} {i j : Int} {l l' : Nat} (h : evE Φ γ a = some (.int i, l)) (h' : evE Φ γ b = some (.int j, l')) (hj : okR i j = true) (hl : (j - i).toNat ≤ lenLim) : evI Φ γ (.r2 a b) = some (rangeL i j) :=
  bnd h (bnd (x := some i) rfl (bnd h' (bnd (x := some j) rfl (if_pos (by rw [hj, decide_eq_true hl]; rfl)))))
theorem okR_small {a b : Int} (ha : a.natAbs ≤ 1048576) (hb : b.natAbs ≤ 1048576) : okR a b = true := by
  unfold okR lenLim
  exact Bool.and_eq_true_iff.mpr ⟨decide_eq_true (by omega), decide_eq_true (by omega)⟩
theorem ev_notval {a : PE} {b : Bool} {l : Nat} (h : evE Φ γ a = some (.bool b, l)) : evT Φ γ (.not (.val a)) = some (!b) := bnd (bnd h rfl) rfl
theorem tower_at {fs : List PFun} {fu j : Nat} {f : PFun} (hf : fs[j]? = some f) (hw : f.wk = false) (hj : j < 1000) : ∀ {k : Nat}, j < k -> ∀ args, tower fs fu k j args = evF (tower fs fu j) fu false f args
  | 0, h, _ => absurd h (Nat.not_lt_zero _)
  | k + 1, h, args => by
    rcases Nat.lt_succ_iff_lt_or_eq.mp h with e | e
    . have ih := tower_at (fu := fu) hf hw hj e args
      rw [← ih]
      show (match fs[k]? with | some f => if f.wk then (if j = 1000 + k then evF (tower fs fu k) fu true f args else tower fs fu k j args) else if j = k then evF (tower fs fu k) fu false f args else tower fs fu k j args | none => tower fs fu k j args) = _
      cases fs[k]? with
      | none => rfl
      | some f' =>
        show (if f'.wk then _ else _) = _
        rw [if_neg (show ¬ j = 1000 + k from fun z => absurd hj (Nat.not_lt.mpr (z ▸ Nat.le_add_right _ _))), if_neg (Nat.ne_of_lt e)]
        exact ite_self _
    . subst e
      show (match fs[j]? with | some f => if f.wk then (if j = 1000 + j then evF (tower fs fu j) fu true f args else tower fs fu j j args) else if j = j then evF (tower fs fu j) fu false f args else tower fs fu j j args | none => tower fs fu j j args) = _
      rw [hf]
      show (if f.wk then _ else _) = _
      rw [hw, if_pos rfl]
      rfl
end
end Mine
end
section
set_option maxRecDepth 100000
namespace Mine
open PySem
noncomputable def T9 (k : Nat) : Funs := tower fs9 40000 k
theorem t9 {j : Nat} (f : PFun) (hf : fs9[j]? = some f) (hw : f.wk = false) (hj : j < 1000) {k : Nat} (h : j < k) (args : List PyData) : T9 k j args = evF (T9 j) 40000 false f args := tower_at hf hw hj h args
noncomputable def stp (p : Nat × Nat) : Nat × Nat := if p.2 = 0 then p else (p.2, p.1 % p.2)
noncomputable def its : Nat -> Nat × Nat -> Nat × Nat
  | 0, p => p
  | n + 1, p => its n (stp p)
noncomputable def fib : Nat -> Nat
  | 0 => 0
  | 1 => 1
  | n + 2 => fib n + fib (n + 1)
theorem its_zero : ∀ (n a : Nat), its n (a, 0) = (a, 0)
  | 0, _ => rfl
  | n + 1, a => its_zero n a
theorem its_step (n a : Nat) {b : Nat} (hb : b ≠ 0) : its (n + 1) (a, b) = its n (b, a % b) := congrArg (its n) (if_neg hb)
theorem lame : ∀ (n a b : Nat), b ≤ a -> (its n (a, b)).2 ≠ 0 -> fib (n + 1) ≤ b ∧ fib (n + 2) ≤ a
  | 0, a, b, h, hn => by
    have : 0 < b := Nat.pos_of_ne_zero hn
    exact ⟨this, Nat.le_trans this h⟩
  | n + 1, a, b, h, hn => by
    by_cases hb : b = 0
    . subst hb; rw [its_zero] at hn; exact (hn rfl).elim
    . have hb' : 0 < b := Nat.pos_of_ne_zero hb
      rw [its_step n a hb] at hn
      have hr := Nat.mod_lt a hb'
      obtain ⟨h1, h2⟩ := lame n b (a % b) (Nat.le_of_lt hr) hn
      refine ⟨h2, ?_⟩
      have h3 : b + a % b ≤ a := by
        have := Nat.div_add_mod a b
        have h4 : 1 ≤ a / b := (Nat.one_le_div_iff hb').mpr h
        have h5 : b * 1 ≤ b * (a / b) := Nat.mul_le_mul_left b h4
        omega
      show fib (n + 1) + fib (n + 1 + 1) ≤ a
      have : fib (n + 1 + 1) = fib (n + 2) := rfl
      omega
theorem fib_pos : ∀ n, 1 ≤ fib (n + 1)
  | 0 => Nat.le_refl _
  | n + 1 => by show 1 ≤ fib n + fib (n + 1); have := fib_pos n; omega
theorem fib5 : ∀ k, 2 * 10 ^ k ≤ fib (5 * k + 3) ∧ 10 ^ k ≤ fib (5 * k + 2)
  | 0 => by decide
  | k + 1 => by
    obtain ⟨h1, h2⟩ := fib5 k
    have e : ∀ n, fib (n + 2) = fib n + fib (n + 1) := fun ζ => rfl
    have a1 := e (5 * k + 2)
    have a2 := e (5 * k + 3)
    have a3 := e (5 * k + 4)
    have a4 := e (5 * k + 5)
    have a5 := e (5 * k + 6)
    simp only [Nat.add_assoc, Nat.reduceAdd] at a1 a2 a3 a4 a5
    have b1 : 5 * (k + 1) + 3 = 5 * k + 8 := by omega
    have b2 : 5 * (k + 1) + 2 = 5 * k + 7 := by omega
    rw [b1, b2, Nat.pow_succ]
    constructor <;> omega
theorem its_done {a b n : Nat} (h : a + b < 10 ^ n) : (its (5 * n + 2) (a, b)).2 = 0 := by
  apply Classical.byContradiction
  intro hn
  obtain ⟨f1, f2⟩ := fib5 n
  by_cases hab : b ≤ a
  . obtain ⟨_, h2⟩ := lame _ _ _ hab hn
    have e : fib (5 * n + 2 + 2) = fib (5 * n + 2) + fib (5 * n + 3) := rfl
    omega
  . have hb : b ≠ 0 := by omega
    have e : its (5 * n + 2) (a, b) = its (5 * n + 1) (b, a) := by
      show its (5 * n + 1) (stp (a, b)) = _
      simp only [stp, hb, if_false]
      rw [Nat.mod_eq_of_lt (by omega)]
    rw [e] at hn
    obtain ⟨_, h2⟩ := lame _ _ _ (by omega) hn
    have e2 : fib (5 * n + 1 + 2) = fib (5 * n + 3) := rfl
    omega
theorem its_gcd : ∀ (n a b : Nat), (its n (a, b)).2 = 0 -> (its n (a, b)).1 = Nat.gcd a b
  | 0, a, b, h => by
    obtain rfl : b = 0 := h
    exact (Nat.gcd_zero_right a).symm
  | n + 1, a, b, h => by
    by_cases hb : b = 0
    . subst hb; rw [its_zero]; exact (Nat.gcd_zero_right a).symm
    . rw [its_step n a hb] at h ⊢
      rw [its_gcd n _ _ h, Nat.gcd_comm b, ← Nat.gcd_rec, Nat.gcd_comm]
theorem strI_len (n : Nat) : (strI (n : Int)).length = (Nat.toDigits 10 n).length := by
  unfold strI
  rw [Str.ofString_eq_toList]
  show ((toString (n : Int)).toList.map Char.toNat).toArray.size = _
  have : toString (n : Int) = n.repr := rfl
  rw [this, Nat.toList_repr]
  simp
theorem lt_len (n : Nat) : n < 10 ^ (strI (n : Int)).length := by
  rw [strI_len]
  exact (Nat.length_toDigits_le_iff (by decide) Nat.length_toDigits_pos).mp (Nat.le_refl _)
theorem len_le {n k : Nat} (hk : 0 < k) (h : n < 10 ^ k) : (strI (n : Int)).length ≤ k := by
  rw [strI_len]
  exact (Nat.length_toDigits_le_iff (by decide) hk).mpr h
end Mine
end
section
set_option maxRecDepth 100000
namespace Mine
open PySem
theorem sh_int (i : Int) : SeqAt.shaped (.int i) = true := rfl
theorem eqv_int (a b : Int) : PyData.eqv (.int a) (.int b) = decide (a = b) := by
  simp only [PyData.eqv]
  exact Bool.eq_iff_iff.mpr (by simp)
theorem cmp_eq_int (a b : Int) : cmpD .eq (.int a) (.int b) = some (decide (a = b)) := congrArg some (eqv_int a b)
theorem cmp_ne_int (a b : Int) : cmpD .ne (.int a) (.int b) = some (!decide (a = b)) := congrArg (fun x => some (!x)) (eqv_int a b)
theorem mul_int {a b : Int} (ha : a.natAbs < lim) (hb : b.natAbs < lim) : binD .mul (.int a) (.int b) = some (.int (a * b), 0) := if_pos (Bool.and_eq_true_iff.mpr ⟨decide_eq_true ha, decide_eq_true hb⟩)
theorem fdiv_int {a b : Int} (h0 : b ≠ 0) (hb : b.natAbs < lim) : binD .fdiv (.int a) (.int b) = some (.int (a.fdiv b), 0) := if_pos (Bool.and_eq_true_iff.mpr ⟨decide_eq_true h0, decide_eq_true hb⟩)
theorem mod_int {a b : Int} (h0 : b ≠ 0) (hb : b.natAbs < lim) : binD .mod (.int a) (.int b) = some (.int (a.fmod b), 0) := if_pos (Bool.and_eq_true_iff.mpr ⟨decide_eq_true h0, decide_eq_true hb⟩)
theorem str_int {a : Int} (ha : a.natAbs < lim) : bltD .str (.int a) = some (.str (strI a), 0) := if_pos (decide_eq_true ha)
noncomputable def gBody : PSs := (.cons (.ite (.cmp .eq (.var 1) (.lit (.int 0))) (.cons (.ret (.var 0))
  .nil) .nil)
  (.cons (.asgN [0, 1] (.tup (.cons (.var 1) (.cons (.bin .mod (.var 0) (.var 1)) .nil))))
  .nil))
theorem gcd_loop (Φ : Funs) (fu : Nat) (tp : Bool) : ∀ (xs : List PyData) (a b : Nat) (sl : Slot), a < lim -> b < lim -> (its xs.length (a, b)).2 = 0 ->
    (∃ γ', forL (fun g => evSs Φ fu tp g gBody) [2] xs [.pl (.int a), .pl (.int b), sl] = some (.ret (.int (Nat.gcd a b : Nat)) 0, γ')) ∨
    (∃ sl', forL (fun g => evSs Φ fu tp g gBody) [2] xs [.pl (.int a), .pl (.int b), sl] = some (.next, [.pl (.int (Nat.gcd a b : Nat)), .pl (.int 0), sl']))
  | [], a, b, sl, ha, hb, h => by
    simp only [List.length_nil, its] at h
    subst h
    exact .inr ⟨sl, by simp [forL]⟩
  | x :: xs, a, b, sl, ha, hb, h => by
    by_cases h0 : b = 0
    . subst h0
      left
      have e : cmpD .eq (.int ((0 : Nat) : Int)) (.int 0) = some true := by rw [cmp_eq_int]; rfl
      rw [Nat.gcd_zero_right]
      exact ⟨_, fl_ret (st_trueX (eK (eV rfl) vL e) (st_ret (eV rfl)) (fun z => by cases z))⟩
    . have e : cmpD .eq (.int (b : Int)) (.int 0) = some false := by rw [cmp_eq_int]; exact congrArg some (decide_eq_false (by first | assumption | decide | exact Nat.le_of_lt ‹_› | exact Nat.le_trans ‹_› (by decide) | exact Nat.lt_of_lt_of_le ‹_› (by decide) | omega))
      have em : binD .mod (.int (a : Int)) (.int (b : Int)) = some (.int ((a % b : Nat) : Int), 0) := by
        rw [mod_int (by first | assumption | decide | exact Nat.le_of_lt ‹_› | exact Nat.le_trans ‹_› (by decide) | exact Nat.lt_of_lt_of_le ‹_› (by decide) | omega) (by simpa using hb)]
        rw [Int.fmod_eq_emod_of_nonneg _ (by first | assumption | decide | exact Nat.le_of_lt ‹_› | exact Nat.le_trans ‹_› (by decide) | exact Nat.lt_of_lt_of_le ‹_› (by decide) | omega)]
        rfl
      have hg : Nat.gcd a b = Nat.gcd b (a % b) := by rw [Nat.gcd_comm a b, Nat.gcd_rec b a, Nat.gcd_comm]
      rw [hg]
      have ih := gcd_loop Φ fu tp xs b (a % b) (.pl x) hb (Nat.lt_trans (Nat.mod_lt _ (Nat.pos_of_ne_zero h0)) hb) (by simpa [List.length_cons, its, stp, h0] using h)
      have go : ∀ res, forL (fun g => evSs Φ fu tp g gBody) [2] xs [.pl (.int b), .pl (.int (a % b : Nat)), .pl x] = some res -> forL (fun g => evSs Φ fu tp g gBody) [2] (x :: xs) [.pl (.int a), .pl (.int b), sl] = some res := fun res hr =>
        fl_cons (st_else (eK (eV rfl) vL e) (st_asgN (ev_tup (eC (eV rfl) (eC (eB (eV rfl) (eV rfl) em) eN))) rfl st_nil)) hr
      rcases ih with ⟨γ', k⟩ | ⟨sl', k⟩
      . exact .inl ⟨γ', go _ k⟩
      . exact .inr ⟨sl', go _ k⟩
theorem rangeL_len (n : Int) : (rangeL 0 n).length = n.toNat := by simp [rangeL]
theorem gcd_ok {K : Nat} (hK : 2 < K) {a b : Int} (ha : a.natAbs < 2 ^ 7999) (hb : b.natAbs < 2 ^ 7999) : T9 K 2 [.int a, .int b] = some (.ret (.int (Int.gcd a b : Nat)) 0) := by
  rw [t9 f9_2 rfl rfl (by decide) hK]
  have hlim : (lim : Nat) = 2 ^ 7999 * 2 := by unfold lim; rw [← Nat.pow_succ]
  have ha' : a.natAbs < lim := by first | assumption | decide | exact Nat.le_of_lt ‹_› | exact Nat.le_trans ‹_› (by decide) | exact Nat.lt_of_lt_of_le ‹_› (by decide) | omega
  have hb' : b.natAbs < lim := by first | assumption | decide | exact Nat.le_of_lt ‹_› | exact Nat.le_trans ‹_› (by decide) | exact Nat.lt_of_lt_of_le ‹_› (by decide) | omega
  have hs : (a.natAbs : Int) + (b.natAbs : Int) = ((a.natAbs + b.natAbs : Nat) : Int) := by first | assumption | decide | exact Nat.le_of_lt ‹_› | exact Nat.le_trans ‹_› (by decide) | exact Nat.lt_of_lt_of_le ‹_› (by decide) | omega
  generalize hn : (strI ((a.natAbs + b.natAbs : Nat) : Int)).length = n
  have hlt : a.natAbs + b.natAbs < 10 ^ n := by rw [← hn]; exact lt_len _
  have hle : n ≤ 8000 := by
    rw [← hn]
    refine len_le (by decide) ?_
    have h1 : a.natAbs + b.natAbs < 2 ^ 8000 := by have : (2 : Nat) ^ 8000 = 2 ^ 7999 * 2 := by rw [← Nat.pow_succ]
                                                   omega
    exact Nat.lt_of_lt_of_le h1 (Nat.pow_le_pow_left (by decide) _)
  have e1 : bltD .str (.int ((a.natAbs : Int) + (b.natAbs : Int))) = some (.str (strI ((a.natAbs + b.natAbs : Nat) : Int)), 0) := by
    rw [hs, str_int (by rw [Int.natAbs_natCast]; omega)]
  have e2 : bltD .len (.str (strI ((a.natAbs + b.natAbs : Nat) : Int))) = some (.int (n : Int), 0) := by
    rw [← hn]
    exact if_pos (by unfold lenLim; omega)
  have e3 : binD .mul (.int 5) (.int (n : Int)) = some (.int (5 * n), 0) := mul_int (by unfold lim; exact Nat.lt_of_lt_of_le (by decide) (Nat.pow_le_pow_right (n := 2) (by decide) (show 3 ≤ 8000 by decide))) (by
    rw [Int.natAbs_natCast]; exact Nat.lt_of_le_of_lt hle (by unfold lim; exact Nat.lt_of_lt_of_le (by decide) (Nat.pow_le_pow_right (n := 2) (by decide) (show 13 ≤ 8000 by decide))))
  have e4 : okR 0 (5 * (n : Int) + 2) = true := okR_small (by decide) (by first | assumption | decide | exact Nat.le_of_lt ‹_› | exact Nat.le_trans ‹_› (by decide) | exact Nat.lt_of_lt_of_le ‹_› (by decide) | omega)
  have hl : (rangeL 0 (5 * (n : Int) + 2)).length = 5 * n + 2 := by rw [rangeL_len]; omega
  have hd := its_done hlt
  have key := gcd_loop (T9 2) 40000 false (rangeL 0 (5 * (n : Int) + 2)) a.natAbs b.natAbs .un ha' hb' (by rw [hl]; exact hd)
  have r1 : ∀ γ : Env', γ[0]? = some (.pl (.int (a.natAbs : Int))) -> γ[1]? = some (.pl (.int (b.natAbs : Int))) -> evI (T9 2) γ (.r1 (.bin .add (.bin .mul (.lit (.int 5)) (.blt .len (.blt .str (.bin .add (.var 0) (.var 1))))) (.lit (.int 2)))) = some (rangeL 0 (5 * (n : Int) + 2)) := fun γ g0 g1 =>
    ev_r1 (eB (eB vL (ev_blt (ev_blt (eB (eV g0) (eV g1) rfl) e1) e2) e3) vL rfl) e4
  rcases key with ⟨γ', k⟩ | ⟨sl', k⟩
  . apply evF_ret rfl
    refine st_asg (ev_blt (eV rfl) rfl) ?_
    refine st_asg (ev_blt (eV rfl) rfl) ?_
    exact st_forX (r1 _ rfl rfl) k (fun z => by cases z)
  . apply evF_ret rfl
    refine st_asg (ev_blt (eV rfl) rfl) ?_
    refine st_asg (ev_blt (eV rfl) rfl) ?_
    exact st_for (r1 _ rfl rfl) k (st_ret (eV rfl))
end Mine
end
section
set_option maxRecDepth 100000
namespace Mine
open PySem
noncomputable def fq (r : Rat) : PyData := .tuple [.int r.num, .int r.den]
noncomputable def Bd (k : Nat) (r : Rat) : Prop := r.num.natAbs < 2 ^ k ∧ r.den < 2 ^ k
theorem fq_divInt {n d : Int} (hd : d ≠ 0) : fq (Rat.divInt n d) = .tuple [.int ((if d < 0 then -n else n).fdiv (Int.gcd (if d < 0 then -n else n) (if d < 0 then -d else d) : Nat)), .int ((if d < 0 then -d else d).fdiv (Int.gcd (if d < 0 then -n else n) (if d < 0 then -d else d) : Nat))] := by
  unfold fq
  rw [Rat.num_divInt, Rat.den_divInt, if_neg hd]
  have hg : ∀ m : Int, m.fdiv ((Int.gcd n d : Nat) : Int) = m / (Int.gcd n d : Nat) := fun m => Int.fdiv_eq_ediv_of_nonneg _ (Int.natCast_nonneg _)
  by_cases h : d < 0
  . simp only [h, if_true, Int.gcd_neg, Int.neg_gcd, hg]
    rw [Int.gcd_comm d n, Int.sign_eq_neg_one_of_neg h]
    have e : ((d.natAbs / n.gcd d : Nat) : Int) = -d / (n.gcd d : Nat) := by
      rw [Int.natCast_ediv]
      congr 1
      omega
    rw [e]
    simp
  . simp only [h, if_false, hg]
    rw [Int.gcd_comm d n, Int.sign_eq_one_of_pos (by omega)]
    have e : ((d.natAbs / n.gcd d : Nat) : Int) = d / (n.gcd d : Nat) := by
      rw [Int.natCast_ediv]
      congr 1
      omega
    rw [e]
    simp
theorem lim_gt {n : Nat} (h : n < 2 ^ 7999) : n < lim := Nat.lt_of_lt_of_le h (by unfold lim; exact Nat.pow_le_pow_right (by decide) (by decide))
theorem frac_ok {K : Nat} (hK : 3 < K) {n d : Int} (h0 : d ≠ 0) (hn : n.natAbs < 2 ^ 7999) (hd : d.natAbs < 2 ^ 7999) : T9 K 3 [.int n, .int d] = some (.ret (fq (Rat.divInt n d)) 0) := by
  rw [t9 f9_3 rfl rfl (by decide) hK, fq_divInt h0]
  have e1 : cmpD .eq (.int d) (.int 0) = some false := (cmp_eq_int _ _).trans (congrArg some (decide_eq_false h0))
  have gpos : ∀ a b : Int, b ≠ 0 -> b.natAbs < 2 ^ 7999 -> ((Int.gcd a b : Nat) : Int) ≠ 0 ∧ ((Int.gcd a b : Nat) : Int).natAbs < lim := fun a b hb hb' => by
    have h1 : 0 < Int.gcd a b := Int.gcd_pos_of_ne_zero_right _ hb
    have h2 : Int.gcd a b ≤ b.natAbs := Int.gcd_le_natAbs_right _ (by omega)
    refine ⟨by omega, ?_⟩
    rw [Int.natAbs_natCast]
    exact lim_gt (Nat.lt_of_le_of_lt h2 hb')
  by_cases h : d < 0
  . have e2 : cmpD .lt (.int d) (.int 0) = some true := congrArg some (decide_eq_true h)
    obtain ⟨g1, g2⟩ := gpos (-n) (-d) (by omega) (by rw [Int.natAbs_neg]; exact hd)
    have e3 := gcd_ok (K := 3) (by decide) (a := -n) (b := -d) (by rw [Int.natAbs_neg]; exact hn) (by rw [Int.natAbs_neg]; exact hd)
    simp only [h, if_true]
    apply evF_ret rfl
    refine st_else (eK (eV rfl) vL e1) ?_
    refine st_true (eK (eV rfl) vL e2) (st_asg (ev_neg (eV rfl)) (st_asg (ev_neg (eV rfl)) st_nil)) ?_
    refine st_asg (eF (eC (eV rfl) (eC (eV rfl) eN)) e3) ?_
    exact st_ret (ev_tup (eC (eB (eV rfl) (eV rfl) (fdiv_int g1 g2)) (eC (eB (eV rfl) (eV rfl) (fdiv_int g1 g2)) eN)))
  . have e2 : cmpD .lt (.int d) (.int 0) = some false := congrArg some (decide_eq_false h)
    obtain ⟨g1, g2⟩ := gpos n d h0 hd
    have e3 := gcd_ok (K := 3) (by decide) (a := n) (b := d) hn hd
    simp only [h, if_false]
    apply evF_ret rfl
    refine st_else (eK (eV rfl) vL e1) ?_
    refine st_else (eK (eV rfl) vL e2) ?_
    refine st_asg (eF (eC (eV rfl) (eC (eV rfl) eN)) e3) ?_
    exact st_ret (ev_tup (eC (eB (eV rfl) (eV rfl) (fdiv_int g1 g2)) (eC (eB (eV rfl) (eV rfl) (fdiv_int g1 g2)) eN)))
theorem frac_zero {K : Nat} (hK : 3 < K) (n : Int) : T9 K 3 [.int n, .int 0] = some (.exc 0) := by
  rw [t9 f9_3 rfl rfl (by decide) hK]
  have e1 : cmpD .eq (.int 0) (.int 0) = some true := by rw [cmp_eq_int]; rfl
  exact evF_exc rfl (st_trueX (eK (eV rfl) vL e1) st_raise (fun z => by cases z))
theorem Bd.divInt {k : Nat} {n d : Int} (hd : d ≠ 0) (h1 : n.natAbs < 2 ^ k) (h2 : d.natAbs < 2 ^ k) : Bd k (Rat.divInt n d) := by
  have hg : 0 < Int.gcd d n := Int.gcd_pos_of_ne_zero_left _ hd
  constructor
  . rw [Rat.num_divInt]
    refine Nat.lt_of_le_of_lt ?_ h1
    rw [Int.natAbs_ediv_of_dvd (Int.dvd_mul_of_dvd_right (Int.gcd_dvd_right d n)), Int.natAbs_mul, Int.natAbs_natCast]
    refine Nat.le_trans (Nat.div_le_self _ _) ?_
    rw [Int.natAbs_sign_of_ne_zero hd, Nat.one_mul]
    exact Nat.le_refl _
  . rw [Rat.den_divInt, if_neg hd]
    exact Nat.lt_of_le_of_lt (Nat.div_le_self _ _) h2
theorem Bd.mono {i j : Nat} (h : i ≤ j) {r : Rat} (x : Bd i r) : Bd j r := ⟨Nat.lt_of_lt_of_le x.1 (Nat.pow_le_pow_right (by decide) h), Nat.lt_of_lt_of_le x.2 (Nat.pow_le_pow_right (by decide) h)⟩
theorem Bd.neg {i : Nat} {r : Rat} (x : Bd i r) : Bd i (-r) := ⟨by rw [Rat.neg_num, Int.natAbs_neg]; exact x.1, by rw [Rat.neg_den]; exact x.2⟩
end Mine
end
section
set_option maxRecDepth 100000
namespace Mine
open PySem
theorem idx0 (r : Rat) : idxD (fq r) (.int 0) = some (.int r.num, 0) := rfl
theorem idx1 (r : Rat) : idxD (fq r) (.int 1) = some (.int r.den, 0) := rfl
theorem p_lim {k n : Nat} (hk : k ≤ 7999) (h : n < 2 ^ k) : n < lim := lim_gt (Nat.lt_of_lt_of_le h (Nat.pow_le_pow_right (by decide) hk))
theorem mul_lt {i j a b : Nat} (ha : a < 2 ^ i) (hb : b < 2 ^ j) : a * b < 2 ^ (i + j) := by
  rw [Nat.pow_add]
  exact Nat.mul_lt_mul'' ha hb
theorem imul_lt {i j : Nat} {a b : Int} (ha : a.natAbs < 2 ^ i) (hb : b.natAbs < 2 ^ j) : (a * b).natAbs < 2 ^ (i + j) := by
  rw [Int.natAbs_mul]; exact mul_lt ha hb
theorem iadd_lt {i : Nat} {a b : Int} (ha : a.natAbs < 2 ^ i) (hb : b.natAbs < 2 ^ i) : (a + b).natAbs < 2 ^ (i + 1) := by
  rw [Nat.pow_succ]
  have := Int.natAbs_add_le a b
  omega
theorem up_lt {i j n : Nat} (h : n < 2 ^ i) (hij : i ≤ j) : n < 2 ^ j := Nat.lt_of_lt_of_le h (Nat.pow_le_pow_right (by decide) hij)
theorem den_ne (r : Rat) : ((r.den : Nat) : Int) ≠ 0 := by have := r.den_nz; omega
theorem add_eq (a b : Rat) : a + b = Rat.divInt (a.num * b.den + b.num * a.den) (a.den * b.den) := by
  conv => lhs; rw [← Rat.num_divInt_den a, ← Rat.num_divInt_den b]
  rw [Rat.divInt_add_divInt _ _ (den_ne a) (den_ne b)]
theorem mul_eq (a b : Rat) : a * b = Rat.divInt (a.num * b.num) (a.den * b.den) := by
  conv => lhs; rw [← Rat.num_divInt_den a, ← Rat.num_divInt_den b]
  rw [Rat.divInt_mul_divInt]
theorem div_eq {a b : Rat} (hb : b ≠ 0) : a / b = Rat.divInt (a.num * b.den) (a.den * b.num) := by
  have hn : b.num ≠ 0 := fun h => hb (Rat.num_eq_zero.mp h)
  have ha : a = (a.num : Rat) / (a.den : Rat) := by
    have := Rat.num_divInt_den a; rw [Rat.divInt_eq_div] at this; exact this.symm
  have hb' : b = (b.num : Rat) / (b.den : Rat) := by
    have := Rat.num_divInt_den b; rw [Rat.divInt_eq_div] at this; exact this.symm
  have h1 : (a.den : Rat) ≠ 0 := by have := a.den_nz; intro z; exact this (by exact_mod_cast z)
  have h2 : (b.den : Rat) ≠ 0 := by have := b.den_nz; intro z; exact this (by exact_mod_cast z)
  have h3 : (b.num : Rat) ≠ 0 := by intro z; exact hn (by exact_mod_cast z)
  rw [Rat.divInt_eq_div]
  conv => lhs; rw [ha, hb']
  push_cast
  grind
theorem fadd_bd {i j : Nat} {a b : Rat} (ha : Bd i a) (hb : Bd j b) : (a.num * b.den + b.num * a.den).natAbs < 2 ^ (i + j + 1) ∧ (((a.den : Int) * b.den).natAbs < 2 ^ (i + j + 1)) := by
  have h1 := imul_lt (a := a.num) (b := (b.den : Int)) ha.1 (by simpa using hb.2)
  have h2 := imul_lt (a := b.num) (b := (a.den : Int)) hb.1 (by simpa using ha.2)
  have h3 := imul_lt (a := (a.den : Int)) (b := (b.den : Int)) (by simpa using ha.2) (by simpa using hb.2)
  rw [Nat.add_comm j i] at h2
  exact ⟨iadd_lt h1 h2, up_lt h3 (by omega)⟩
theorem Bd.add {i j : Nat} {a b : Rat} (ha : Bd i a) (hb : Bd j b) : Bd (i + j + 1) (a + b) := by
  rw [add_eq]
  obtain ⟨h1, h2⟩ := fadd_bd ha hb
  exact Bd.divInt (Int.mul_ne_zero (den_ne a) (den_ne b)) h1 h2
theorem Bd.mul {i j : Nat} {a b : Rat} (ha : Bd i a) (hb : Bd j b) : Bd (i + j) (a * b) := by
  rw [mul_eq]
  exact Bd.divInt (Int.mul_ne_zero (den_ne a) (den_ne b)) (imul_lt ha.1 hb.1) (imul_lt (by simpa using ha.2) (by simpa using hb.2))
theorem Bd.div {i j : Nat} {a b : Rat} (h0 : b ≠ 0) (ha : Bd i a) (hb : Bd j b) : Bd (i + j) (a / b) := by
  rw [div_eq h0]
  have hn : b.num ≠ 0 := fun h => h0 (Rat.num_eq_zero.mp h)
  exact Bd.divInt (Int.mul_ne_zero (den_ne a) hn) (imul_lt ha.1 (by simpa using hb.2)) (imul_lt (by simpa using ha.2) hb.1)
theorem fadd_ok {K : Nat} (hK : 4 < K) {a b : Rat} {i j : Nat} (hij : i + j + 1 ≤ 7999) (ha : Bd i a) (hb : Bd j b) : T9 K 4 [fq a, fq b] = some (.ret (fq (a + b)) 0) := by
  have hi : i ≤ 7999 := Nat.le_trans (Nat.le_trans (Nat.le_add_right i j) (Nat.le_succ _)) hij
  have hj : j ≤ 7999 := Nat.le_trans (Nat.le_trans (Nat.le_add_left j i) (Nat.le_succ _)) hij
  rw [t9 f9_4 rfl rfl (by decide) hK, add_eq]
  obtain ⟨h1, h2⟩ := fadd_bd ha hb
  have e3 := frac_ok (K := 4) (by decide) (Int.mul_ne_zero (den_ne a) (den_ne b)) (up_lt h1 hij) (up_lt h2 hij)
  have m1 := mul_int (a := a.num) (b := (b.den : Int)) (p_lim hi ha.1) (by rw [Int.natAbs_natCast]; exact p_lim hj hb.2)
  have m2 := mul_int (a := b.num) (b := (a.den : Int)) (p_lim hj hb.1) (by rw [Int.natAbs_natCast]; exact p_lim hi ha.2)
  have m3 := mul_int (a := (a.den : Int)) (b := (b.den : Int)) (by rw [Int.natAbs_natCast]; exact p_lim hi ha.2) (by rw [Int.natAbs_natCast]; exact p_lim hj hb.2)
  exact evF_ret rfl (st_ret (eF (eC (eB (eB (eI (eV rfl) vL (idx0 _)) (eI (eV rfl) vL (idx1 _)) m1) (eB (eI (eV rfl) vL (idx0 _)) (eI (eV rfl) vL (idx1 _)) m2) rfl) (eC (eB (eI (eV rfl) vL (idx1 _)) (eI (eV rfl) vL (idx1 _)) m3) eN)) e3))
theorem fneg_ok {K : Nat} (hK : 5 < K) (a : Rat) : T9 K 5 [fq a] = some (.ret (fq (-a)) 0) := by
  rw [t9 f9_5 rfl rfl (by decide) hK]
  refine evF_ret rfl (st_ret (ev_tup (eC (ev_neg (eI (eV rfl) vL (idx0 _))) (eC (eI (eV rfl) vL (idx1 _)) eN)))) |>.trans ?_
  unfold fq
  rw [Rat.neg_num, Rat.neg_den]
theorem fmul_ok {K : Nat} (hK : 7 < K) {a b : Rat} {i j : Nat} (hij : i + j ≤ 7999) (ha : Bd i a) (hb : Bd j b) : T9 K 7 [fq a, fq b] = some (.ret (fq (a * b)) 0) := by
  have hi : i ≤ 7999 := Nat.le_trans (Nat.le_add_right i j) hij
  have hj : j ≤ 7999 := Nat.le_trans (Nat.le_add_left j i) hij
  rw [t9 f9_7 rfl rfl (by decide) hK, mul_eq]
  have h1 := imul_lt (a := a.num) (b := b.num) ha.1 hb.1
  have h3 := imul_lt (a := (a.den : Int)) (b := (b.den : Int)) (by simpa using ha.2) (by simpa using hb.2)
  have e3 := frac_ok (K := 7) (by decide) (Int.mul_ne_zero (den_ne a) (den_ne b)) (up_lt h1 hij) (up_lt h3 hij)
  have m1 := mul_int (a := a.num) (b := b.num) (p_lim hi ha.1) (p_lim hj hb.1)
  have m3 := mul_int (a := (a.den : Int)) (b := (b.den : Int)) (by rw [Int.natAbs_natCast]; exact p_lim hi ha.2) (by rw [Int.natAbs_natCast]; exact p_lim hj hb.2)
  exact evF_ret rfl (st_ret (eF (eC (eB (eI (eV rfl) vL (idx0 _)) (eI (eV rfl) vL (idx0 _)) m1) (eC (eB (eI (eV rfl) vL (idx1 _)) (eI (eV rfl) vL (idx1 _)) m3) eN)) e3))
theorem fdiv_ok {K : Nat} (hK : 8 < K) {a b : Rat} {i j : Nat} (hij : i + j ≤ 7999) (h0 : b ≠ 0) (ha : Bd i a) (hb : Bd j b) : T9 K 8 [fq a, fq b] = some (.ret (fq (a / b)) 0) := by
  have hi : i ≤ 7999 := Nat.le_trans (Nat.le_add_right i j) hij
  have hj : j ≤ 7999 := Nat.le_trans (Nat.le_add_left j i) hij
  rw [t9 f9_8 rfl rfl (by decide) hK, div_eq h0]
  have hn : b.num ≠ 0 := fun h => h0 (Rat.num_eq_zero.mp h)
  have h1 := imul_lt (a := a.num) (b := (b.den : Int)) ha.1 (by simpa using hb.2)
  have h3 := imul_lt (a := (a.den : Int)) (b := b.num) (by simpa using ha.2) hb.1
  have e1 : cmpD .eq (.int b.num) (.int 0) = some false := (cmp_eq_int _ _).trans (congrArg some (decide_eq_false hn))
  have e3 := frac_ok (K := 8) (by decide) (Int.mul_ne_zero (den_ne a) hn) (up_lt h1 hij) (up_lt h3 hij)
  have m1 := mul_int (a := a.num) (b := (b.den : Int)) (p_lim hi ha.1) (by rw [Int.natAbs_natCast]; exact p_lim hj hb.2)
  have m3 := mul_int (a := (a.den : Int)) (b := b.num) (by rw [Int.natAbs_natCast]; exact p_lim hi ha.2) (p_lim hj hb.1)
  exact evF_ret rfl (st_else (eK (eI (eV rfl) vL (idx0 _)) vL e1) (st_ret (eF (eC (eB (eI (eV rfl) vL (idx0 _)) (eI (eV rfl) vL (idx1 _)) m1) (eC (eB (eI (eV rfl) vL (idx1 _)) (eI (eV rfl) vL (idx0 _)) m3) eN)) e3)))
theorem fdiv_zero {K : Nat} (hK : 8 < K) (a : Rat) : T9 K 8 [fq a, fq 0] = some (.exc 0) := by
  rw [t9 f9_8 rfl rfl (by decide) hK]
  have e1 : cmpD .eq (.int (0 : Rat).num) (.int 0) = some true := by rw [cmp_eq_int]; rfl
  exact evF_exc rfl (st_trueX (eK (eI (eV rfl) vL (idx0 _)) vL e1) st_raise (fun z => by cases z))
end Mine
end
section
set_option maxRecDepth 100000
namespace Mine
theorem lt3' : ∀ c, c < 3 -> c = 0 ∨ c = 1 ∨ c = 2 := by decide
theorem lt3 {c : Nat} (h : c < 3) : c = 0 ∨ c = 1 ∨ c = 2 := lt3' c h
noncomputable abbrev Mx := Nat -> Nat -> Rat
noncomputable def ssm : Nat -> (Nat -> Rat) -> Rat
  | 0, _ => 0
  | n + 1, f => ssm n f + f n
theorem ssm_add (f g : Nat -> Rat) : ∀ n, ssm n (fun c => f c + g c) = ssm n f + ssm n g
  | 0 => (Rat.add_zero 0).symm
  | n + 1 => by
    show ssm n (fun c => f c + g c) + (f n + g n) = (ssm n f + f n) + (ssm n g + g n)
    rw [ssm_add f g n]; grind
theorem ssm_mul (k : Rat) (f : Nat -> Rat) : ∀ n, ssm n (fun c => k * f c) = k * ssm n f
  | 0 => (Rat.mul_zero k).symm
  | n + 1 => by
    show ssm n (fun c => k * f c) + k * f n = k * (ssm n f + f n)
    rw [ssm_mul k f n]; grind
theorem ssm_congr {f g : Nat -> Rat} : ∀ n, (∀ c, c < n -> f c = g c) -> ssm n f = ssm n g
  | 0, _ => rfl
  | n + 1, h => by
    show ssm n f + f n = ssm n g + g n
    rw [ssm_congr n fun c hc => h c (Nat.lt_succ_of_lt hc), h n (Nat.lt_succ_self n)]
theorem ssm_zero : ∀ n, ssm n (fun ζ => 0) = 0
  | 0 => rfl
  | n + 1 => by
    show ssm n (fun ζ => 0) + 0 = 0
    rw [ssm_zero n]; exact Rat.add_zero 0
noncomputable def rwv (w : Nat) (m : Mx) (v : Nat -> Rat) (i : Nat) : Rat := ssm w fun c => m i c * v c
noncomputable def Ker (w : Nat) (m : Mx) (v : Nat -> Rat) : Prop := ∀ i, i < 3 -> rwv w m v i = 0
noncomputable def fsw (m : Mx) (a b : Nat) : Mx := fun i c => if i = a then m b c else if i = b then m a c else m i c
noncomputable def clr (g : Mx) (t c : Nat) : Mx := fun i j => if i = t then g t j / g t c else g i j - g i c * (g t j / g t c)
theorem ker_fsw {w : Nat} {m : Mx} {a b : Nat} (ha : a < 3) (hb : b < 3) {v : Nat -> Rat} : Ker w (fsw m a b) v ↔ Ker w m v := by
  have e : ∀ i, rwv w (fsw m a b) v i = if i = a then rwv w m v b else if i = b then rwv w m v a else rwv w m v i := fun i => by
    unfold rwv fsw
    split
    . rfl
    . split <;> rfl
  constructor
  . intro h i hi
    by_cases h1 : i = a
    . have := h b hb
      rw [e] at this
      by_cases h2 : b = a
      . subst h2; subst h1; simpa using this
      . simp only [h2, if_false, if_true] at this; rw [h1]; exact this
    . by_cases h2 : i = b
      . have := h a ha
        rw [e] at this
        simp only [if_true] at this
        rw [h2]; exact this
      . have := h i hi
        rw [e] at this
        simpa [h1, h2] using this
  . intro h i hi
    rw [e]
    split
    . exact h b hb
    . split
      . exact h a ha
      . exact h i hi
theorem rw_clr {w : Nat} {g : Mx} {t c : Nat} {v : Nat -> Rat} (i : Nat) : rwv w (clr g t c) v i = if i = t then rwv w g v t / g t c else rwv w g v i - g i c * (rwv w g v t / g t c) := by
  unfold rwv clr
  have e1 : ∀ k : Rat, ssm w (fun j => k * (g t j / g t c) * v j) = k * (ssm w (fun j => g t j * v j) / g t c) := fun k => by
    have : (fun j => k * (g t j / g t c) * v j) = fun j => (k / g t c) * (g t j * v j) := by funext j; grind
    rw [this, ssm_mul]; grind
  split
  . have := e1 1
    simp only [Rat.one_mul] at this
    exact this
  . have : (fun j => (g i j - g i c * (g t j / g t c)) * v j) = fun j => g i j * v j + (-(g i c)) * (g t j / g t c) * v j := by funext j; grind
    rw [this, ssm_add, e1]
    grind
theorem ker_clr {w : Nat} {g : Mx} {t c : Nat} (ht : t < 3) (h0 : g t c ≠ 0) {v : Nat -> Rat} : Ker w (clr g t c) v ↔ Ker w g v := by
  constructor
  . intro h i hi
    have h1 := h t ht
    rw [rw_clr, if_pos rfl] at h1
    have h2 : rwv w g v t = 0 := by grind
    by_cases hit : i = t
    . rw [hit]; exact h2
    . have h3 := h i hi
      rw [rw_clr, if_neg hit, h2] at h3
      grind
  . intro h i hi
    rw [rw_clr, h t ht, h i hi]
    split <;> grind
noncomputable def ffirst (m : Mx) (c : Nat) : Nat -> Nat -> Option Nat
  | _, 0 => none
  | s, d + 1 => if m s c = 0 then ffirst m c (s + 1) d else some s
theorem ffirst_some {m : Mx} {c : Nat} : ∀ {d s f : Nat}, ffirst m c s d = some f -> s ≤ f ∧ f < s + d ∧ m f c ≠ 0
  | 0, _, _, h => by simp [ffirst] at h
  | d + 1, s, f, h => by
    unfold ffirst at h
    split at h
    . obtain ⟨h1, h2, h3⟩ := ffirst_some h
      exact ⟨by first | assumption | decide | exact Nat.le_of_lt ‹_› | exact Nat.le_trans ‹_› (by decide) | exact Nat.lt_of_lt_of_le ‹_› (by decide) | omega, by first | assumption | decide | exact Nat.le_of_lt ‹_› | exact Nat.le_trans ‹_› (by decide) | exact Nat.lt_of_lt_of_le ‹_› (by decide) | omega, h3⟩
    . rename_i h0
      obtain rfl := Option.some.inj h
      exact ⟨Nat.le_refl _, by first | assumption | decide | exact Nat.le_of_lt ‹_› | exact Nat.le_trans ‹_› (by decide) | exact Nat.lt_of_lt_of_le ‹_› (by decide) | omega, h0⟩
theorem ffirst_none {m : Mx} {c : Nat} : ∀ {d s : Nat}, ffirst m c s d = none -> ∀ i, s ≤ i -> i < s + d -> m i c = 0
  | 0, _, _, i, h1, h2 => by first | assumption | decide | exact Nat.le_of_lt ‹_› | exact Nat.le_trans ‹_› (by decide) | exact Nat.lt_of_lt_of_le ‹_› (by decide) | omega
  | d + 1, s, h, i, h1, h2 => by
    unfold ffirst at h
    split at h
    . rename_i h0
      by_cases hi : i = s
      . rw [hi]; exact h0
      . exact ffirst_none h i (by first | assumption | decide | exact Nat.le_of_lt ‹_› | exact Nat.le_trans ‹_› (by decide) | exact Nat.lt_of_lt_of_le ‹_› (by decide) | omega) (by first | assumption | decide | exact Nat.le_of_lt ‹_› | exact Nat.le_trans ‹_› (by decide) | exact Nat.lt_of_lt_of_le ‹_› (by decide) | omega)
    . cases h
structure RS where
  m : Mx
  pv : List Nat
noncomputable def redS (c : Nat) (s : RS) : RS := match ffirst s.m c s.pv.length (3 - s.pv.length) with
  | none => s
  | some f => ⟨clr (fsw s.m s.pv.length f) s.pv.length c, s.pv ++ [c]⟩
noncomputable def redR : List Nat -> RS -> RS
  | [], s => s
  | c :: cs, s => redR cs (redS c s)
structure Rd (w : Nat) (M : Mx) (c : Nat) (s : RS) : Prop where
  len : s.pv.length ≤ 3
  lt : ∀ p ∈ s.pv, p < c
  inc : s.pv.Pairwise (· < ·)
  unit : ∀ r p, s.pv[r]? = some p -> ∀ i, i < 3 -> s.m i p = if i = r then 1 else 0
  zero : ∀ i, s.pv.length ≤ i -> i < 3 -> ∀ j, j < c -> s.m i j = 0
  lead : ∀ r p, s.pv[r]? = some p -> ∀ j, j < p -> s.m r j = 0
  ker : ∀ v, Ker w s.m v ↔ Ker w M v
theorem Rd.start (w : Nat) (M : Mx) : Rd w M 0 ⟨M, []⟩ :=
  ⟨by simp, by simp, by simp, by simp, fun ζ ζ ζ j hj => by first | assumption | decide | exact Nat.le_of_lt ‹_› | exact Nat.le_trans ‹_› (by decide) | exact Nat.lt_of_lt_of_le ‹_› (by decide) | omega, by simp, fun ζ => Iff.rfl⟩
theorem Rd.step {w : Nat} {M : Mx} {c : Nat} {s : RS} (h : Rd w M c s) : Rd w M (c + 1) (redS c s) := by
  unfold redS
  cases hf : ffirst s.m c s.pv.length (3 - s.pv.length) with
  | none =>
    have hz := ffirst_none hf
    have hl := h.len
    exact ⟨h.len, fun p hp => Nat.lt_succ_of_lt (h.lt p hp), h.inc, h.unit, fun i h1 h2 j hj => by
      by_cases e : j = c
      . rw [e]; exact hz i h1 (by first | assumption | decide | exact Nat.le_of_lt ‹_› | exact Nat.le_trans ‹_› (by decide) | exact Nat.lt_of_lt_of_le ‹_› (by decide) | omega)
      . exact h.zero i h1 h2 j (by first | assumption | decide | exact Nat.le_of_lt ‹_› | exact Nat.le_trans ‹_› (by decide) | exact Nat.lt_of_lt_of_le ‹_› (by decide) | omega), h.lead, h.ker⟩
  | some f =>
    obtain ⟨f1, f2, f3⟩ := ffirst_some hf
    have hl := h.len
    generalize ht : s.pv.length = t at *
    have htl : t < 3 := by first | assumption | decide | exact Nat.le_of_lt ‹_› | exact Nat.le_trans ‹_› (by decide) | exact Nat.lt_of_lt_of_le ‹_› (by decide) | omega
    have hfl : f < 3 := by first | assumption | decide | exact Nat.le_of_lt ‹_› | exact Nat.le_trans ‹_› (by decide) | exact Nat.lt_of_lt_of_le ‹_› (by decide) | omega
    -- the swapped matrix
    have gt : ∀ j, fsw s.m t f t j = s.m f j := fun j => by simp [fsw]
    have gz : ∀ i, t ≤ i -> i < 3 -> ∀ j, j < c -> fsw s.m t f i j = 0 := fun i h1 h2 j hj => by
      unfold fsw
      split
      . exact h.zero f (by first | assumption | decide | exact Nat.le_of_lt ‹_› | exact Nat.le_trans ‹_› (by decide) | exact Nat.lt_of_lt_of_le ‹_› (by decide) | omega) hfl j hj
      . split
        . exact h.zero t (by first | assumption | decide | exact Nat.le_of_lt ‹_› | exact Nat.le_trans ‹_› (by decide) | exact Nat.lt_of_lt_of_le ‹_› (by decide) | omega) htl j hj
        . exact h.zero i (by first | assumption | decide | exact Nat.le_of_lt ‹_› | exact Nat.le_trans ‹_› (by decide) | exact Nat.lt_of_lt_of_le ‹_› (by decide) | omega) h2 j hj
    have glt : ∀ i, i < t -> ∀ j, fsw s.m t f i j = s.m i j := fun i hi j => by
      unfold fsw
      rw [if_neg (by first | assumption | decide | exact Nat.le_of_lt ‹_› | exact Nat.le_trans ‹_› (by decide) | exact Nat.lt_of_lt_of_le ‹_› (by decide) | omega), if_neg (by first | assumption | decide | exact Nat.le_of_lt ‹_› | exact Nat.le_trans ‹_› (by decide) | exact Nat.lt_of_lt_of_le ‹_› (by decide) | omega)]
    have gp : fsw s.m t f t c ≠ 0 := by rw [gt]; exact f3
    have cz : ∀ i j, j < c -> clr (fsw s.m t f) t c i j = fsw s.m t f i j := fun i j hj => by
      unfold clr
      rw [gz t (Nat.le_refl _) htl j hj]
      split
      . rename_i e; rw [e, gz t (Nat.le_refl _) htl j hj]; grind
      . grind
    refine ⟨by simp [ht]; omega, fun p hp => ?_, ?_, fun r p hr i hi => ?_, fun i h1 h2 j hj => ?_, fun r p hr j hj => ?_, fun v => ?_⟩
    . rcases List.mem_append.mp hp with hp | hp
      . have := h.lt p hp; omega
      . simp at hp; omega
    . rw [List.pairwise_append]
      refine ⟨h.inc, by simp, fun a ha b hb => ?_⟩
      simp at hb
      have := h.lt a ha
      omega
    . simp only at hr ⊢
      by_cases hrt : r < t
      . rw [List.getElem?_append_left (by first | assumption | decide | exact Nat.le_of_lt ‹_› | exact Nat.le_trans ‹_› (by decide) | exact Nat.lt_of_lt_of_le ‹_› (by decide) | omega)] at hr
        have hpc := h.lt p (List.mem_of_getElem? hr)
        rw [cz i p hpc]
        by_cases hit : i < t
        . rw [glt i hit]; exact h.unit r p hr i hi
        . rw [gz i (by first | assumption | decide | exact Nat.le_of_lt ‹_› | exact Nat.le_trans ‹_› (by decide) | exact Nat.lt_of_lt_of_le ‹_› (by decide) | omega) hi p hpc, if_neg (by first | assumption | decide | exact Nat.le_of_lt ‹_› | exact Nat.le_trans ‹_› (by decide) | exact Nat.lt_of_lt_of_le ‹_› (by decide) | omega)]
      . have hrl : r < (s.pv ++ [c]).length := (List.getElem?_eq_some_iff.mp hr).1
        simp [ht] at hrl
        have hrt' : r = t := by first | assumption | decide | exact Nat.le_of_lt ‹_› | exact Nat.le_trans ‹_› (by decide) | exact Nat.lt_of_lt_of_le ‹_› (by decide) | omega
        rw [List.getElem?_append_right (by first | assumption | decide | exact Nat.le_of_lt ‹_› | exact Nat.le_trans ‹_› (by decide) | exact Nat.lt_of_lt_of_le ‹_› (by decide) | omega), ht, hrt'] at hr
        simp at hr
        subst hr
        rw [hrt']
        unfold clr
        split
        . grind
        . grind
    . simp only [List.length_append, ht, List.length_cons, List.length_nil] at h1 ⊢
      by_cases e : j = c
      . subst e
        unfold clr
        rw [if_neg (by first | assumption | decide | exact Nat.le_of_lt ‹_› | exact Nat.le_trans ‹_› (by decide) | exact Nat.lt_of_lt_of_le ‹_› (by decide) | omega)]
        grind
      . rw [cz i j (by first | assumption | decide | exact Nat.le_of_lt ‹_› | exact Nat.le_trans ‹_› (by decide) | exact Nat.lt_of_lt_of_le ‹_› (by decide) | omega)]
        exact gz i (by first | assumption | decide | exact Nat.le_of_lt ‹_› | exact Nat.le_trans ‹_› (by decide) | exact Nat.lt_of_lt_of_le ‹_› (by decide) | omega) h2 j (by first | assumption | decide | exact Nat.le_of_lt ‹_› | exact Nat.le_trans ‹_› (by decide) | exact Nat.lt_of_lt_of_le ‹_› (by decide) | omega)
    . simp only at hr ⊢
      by_cases hrt : r < t
      . rw [List.getElem?_append_left (by first | assumption | decide | exact Nat.le_of_lt ‹_› | exact Nat.le_trans ‹_› (by decide) | exact Nat.lt_of_lt_of_le ‹_› (by decide) | omega)] at hr
        have hpc := h.lt p (List.mem_of_getElem? hr)
        rw [cz r j (by first | assumption | decide | exact Nat.le_of_lt ‹_› | exact Nat.le_trans ‹_› (by decide) | exact Nat.lt_of_lt_of_le ‹_› (by decide) | omega), glt r hrt]
        exact h.lead r p hr j hj
      . have hrl : r < (s.pv ++ [c]).length := (List.getElem?_eq_some_iff.mp hr).1
        simp [ht] at hrl
        have hrt' : r = t := by first | assumption | decide | exact Nat.le_of_lt ‹_› | exact Nat.le_trans ‹_› (by decide) | exact Nat.lt_of_lt_of_le ‹_› (by decide) | omega
        rw [List.getElem?_append_right (by first | assumption | decide | exact Nat.le_of_lt ‹_› | exact Nat.le_trans ‹_› (by decide) | exact Nat.lt_of_lt_of_le ‹_› (by decide) | omega), ht, hrt'] at hr
        simp at hr
        subst hr
        rw [hrt', cz t j hj]
        exact gz t (Nat.le_refl _) htl j hj
    . rw [ker_clr htl gp, ker_fsw htl hfl]
      exact h.ker v
theorem Rd.run {w : Nat} {M : Mx} : ∀ {n c : Nat} {s : RS}, Rd w M c s -> Rd w M (c + n) (redR (List.range' c n) s)
  | 0, _, _, h => h
  | n + 1, c, s, h => by
    rw [List.range'_succ]
    have := Rd.run (n := n) h.step
    rw [show c + 1 + n = c + (n + 1) by first | assumption | decide | exact Nat.le_of_lt ‹_› | exact Nat.le_trans ‹_› (by decide) | exact Nat.lt_of_lt_of_le ‹_› (by decide) | omega] at this
    exact this
end Mine
end
section
set_option maxRecDepth 100000
namespace Mine
theorem pv1 : ∀ a, a < 3 -> [a] = [0] ∨ [a] = [1] ∨ [a] = [2] := by decide
theorem pv2 : ∀ a, a < 3 -> ∀ b, b < 3 -> a < b -> [a, b] = [0, 1] ∨ [a, b] = [0, 2] ∨ [a, b] = [1, 2] := by decide
theorem pv3 {a b c : Nat} (hb : b < 3) (hc : c < 3) (h1 : a < b) (h2 : b < c) : [a, b, c] = [0, 1, 2] := by
  rcases pv2 b hb c hc h2 with e | e | e
  . cases e; exact absurd h1 (Nat.not_lt_zero _)
  . cases e; exact absurd h1 (Nat.not_lt_zero _)
  . cases e
    cases a with
    | zero => rfl
    | succ a => exact absurd (Nat.lt_of_succ_lt_succ h1) (Nat.not_lt_zero _)
theorem pv_list : ∀ l : List Nat, l.length ≤ 3 -> (∀ p ∈ l, p < 3) -> l.Pairwise (· < ·) -> l = [] ∨ l = [0] ∨ l = [1] ∨ l = [2] ∨ l = [0, 1] ∨ l = [0, 2] ∨ l = [1, 2] ∨ l = [0, 1, 2]
  | [], _, _, _ => .inl rfl
  | [a], _, h2, _ => (pv1 a (h2 a (.head _))).elim (fun e => .inr (.inl e)) fun e => e.elim (fun e => .inr (.inr (.inl e))) fun e => .inr (.inr (.inr (.inl e)))
  | [a, b], _, h2, h3 => (pv2 a (h2 a (.head _)) b (h2 b (.tail _ (.head _))) ((List.pairwise_cons.mp h3).1 b (.head _))).elim (fun e => .inr (.inr (.inr (.inr (.inl e))))) fun e => e.elim (fun e => .inr (.inr (.inr (.inr (.inr (.inl e)))))) fun e => .inr (.inr (.inr (.inr (.inr (.inr (.inl e))))))
  | [a, b, c], _, h2, h3 => .inr (.inr (.inr (.inr (.inr (.inr (.inr (pv3 (h2 b (.tail _ (.head _))) (h2 c (.tail _ (.tail _ (.head _)))) ((List.pairwise_cons.mp h3).1 b (.head _)) ((List.pairwise_cons.mp (List.pairwise_cons.mp h3).2).1 c (.head _))))))))) 
  | _ :: _ :: _ :: _ :: _, h1, _, _ => absurd h1 (Nat.not_le.mpr (Nat.succ_lt_succ (Nat.succ_lt_succ (Nat.succ_lt_succ (Nat.succ_pos _)))))
theorem pv_cases {w : Nat} {M : Mx} {s : RS} (h : Rd w M 3 s) : s.pv = [] ∨ s.pv = [0] ∨ s.pv = [1] ∨ s.pv = [2] ∨ s.pv = [0, 1] ∨ s.pv = [0, 2] ∨ s.pv = [1, 2] ∨ s.pv = [0, 1, 2] := pv_list s.pv h.len h.lt h.inc
noncomputable def mv (P : Mx) (v : Nat -> Rat) (i : Nat) : Rat := P i 0 * v 0 + P i 1 * v 1 + P i 2 * v 2
theorem rw3 (m : Mx) (v : Nat -> Rat) (i : Nat) : rwv 3 m v i = mv m v i := by
  show 0 + m i 0 * v 0 + m i 1 * v 1 + m i 2 * v 2 = m i 0 * v 0 + m i 1 * v 1 + m i 2 * v 2
  rw [Rat.zero_add]
theorem ker3 {m : Mx} {v : Nat -> Rat} : Ker 3 m v ↔ mv m v 0 = 0 ∧ mv m v 1 = 0 ∧ mv m v 2 = 0 := by
  unfold Ker
  simp only [rw3]
  constructor
  . intro h; exact ⟨h 0 (by first | assumption | decide | exact Nat.le_of_lt ‹_› | exact Nat.le_trans ‹_› (by decide) | exact Nat.lt_of_lt_of_le ‹_› (by decide) | omega), h 1 (by first | assumption | decide | exact Nat.le_of_lt ‹_› | exact Nat.le_trans ‹_› (by decide) | exact Nat.lt_of_lt_of_le ‹_› (by decide) | omega), h 2 (by first | assumption | decide | exact Nat.le_of_lt ‹_› | exact Nat.le_trans ‹_› (by decide) | exact Nat.lt_of_lt_of_le ‹_› (by decide) | omega)⟩
  . rintro ⟨a, b, c⟩ i hi
    rcases lt3 hi with rfl | rfl | rfl <;> assumption
noncomputable def nv (s : RS) (f : Nat) : Nat -> Rat := fun j => if j = f then 1 else match s.pv.findIdx? (· == j) with
  | some r => -(s.m r f)
  | none => 0
noncomputable def ys (s : RS) (q : Nat) : Nat -> Rat := fun j => match s.pv.findIdx? (· == j) with
  | some r => s.m r q
  | none => 0
noncomputable def Free (s : RS) (f : Nat) : Prop := f < 3 ∧ f ∉ s.pv
noncomputable def phi (s : RS) (f : Nat) : Rat := if f ∈ s.pv then 0 else 1
theorem nv_self (s : RS) (f : Nat) : nv s f f = 1 := by simp [nv]
theorem mv_add (m : Mx) (u v : Nat -> Rat) (i : Nat) : mv m (fun j => u j + v j) i = mv m u i + mv m v i := by
  unfold mv; grind
theorem mv_one (m : Mx) {f : Nat} (hf : f < 3) (i : Nat) : mv m (fun j => if j = f then 1 else 0) i = m i f := by
  unfold mv
  obtain rfl | rfl | rfl := lt3 hf
  all_goals
    simp
    try grind
section
variable {w : Nat} {M : Mx} {s : RS} (h : Rd w M 3 s)
include h
theorem idx_at {j r : Nat} (e : s.pv.findIdx? (· == j) = some r) : s.pv[r]? = some j := by
  obtain ⟨hr, e2, _⟩ := List.findIdx?_eq_some_iff_getElem.mp e
  rw [List.getElem?_eq_getElem hr, eq_of_beq e2]
theorem idx_of {j r : Nat} (e : s.pv[r]? = some j) : s.pv.findIdx? (· == j) = some r := by
  obtain ⟨hr, e2⟩ := List.getElem?_eq_some_iff.mp e
  refine List.findIdx?_eq_some_iff_getElem.mpr ⟨hr, beq_iff_eq.mpr e2, fun k hk z => ?_⟩
  have := List.pairwise_iff_getElem.mp h.inc k r (Nat.lt_trans hk hr) hr hk
  rw [eq_of_beq z, e2] at this
  exact Nat.lt_irrefl _ this
theorem idx_no {j : Nat} (e : j ∉ s.pv) : s.pv.findIdx? (· == j) = none := List.findIdx?_eq_none_iff.mpr fun x hx => by
  rw [beq_eq_false_iff_ne]
  rintro rfl
  exact e hx
theorem col_sum (g : Nat -> Rat) {i : Nat} (hi : i < 3) : mv s.m (fun j => match s.pv.findIdx? (· == j) with | some r => g r | none => 0) i = if i < s.pv.length then g i else 0 := by
  have t : ∀ j, j < 3 -> s.m i j * (match s.pv.findIdx? (· == j) with | some r => g r | none => 0) = if s.pv[i]? = some j then g i else 0 := fun j hj => by
    cases e : s.pv.findIdx? (· == j) with
    | none =>
      rw [if_neg fun z => by rw [idx_of h z] at e; cases e]
      exact Rat.mul_zero _
    | some r =>
      show s.m i j * g r = _
      rw [h.unit r j (idx_at h e) i hi]
      by_cases er : i = r
      . rw [if_pos er, er, if_pos (idx_at h e), Rat.one_mul]
      . rw [if_neg er, Rat.zero_mul, if_neg fun z => er (Option.some.inj ((idx_of h z).symm.trans e))]
  unfold mv
  rw [t 0 (by decide), t 1 (by decide), t 2 (by decide)]
  by_cases hl : i < s.pv.length
  . rw [if_pos hl]
    have e := List.getElem?_eq_getElem hl
    have h3 := h.lt _ (List.getElem_mem hl)
    rw [e]
    generalize s.pv[i] = p at h3
    obtain rfl | rfl | rfl := lt3 h3
    all_goals
      simp
      try grind
  . rw [if_neg hl, List.getElem?_eq_none (Nat.le_of_not_lt hl)]
    simp
    try grind
theorem nv_split {f : Nat} (hf : Free s f) (j : Nat) : nv s f j = (if j = f then 1 else 0) + (match s.pv.findIdx? (· == j) with | some r => -(s.m r f) | none => 0) := by
  unfold nv
  by_cases e : j = f
  . rw [if_pos e, if_pos e, e, idx_no h hf.2]
    exact (Rat.add_zero _).symm
  . rw [if_neg e, if_neg e, Rat.zero_add]
theorem nv_ker {f : Nat} (hf : Free s f) : Ker 3 s.m (nv s f) := fun i hi => by
  rw [rw3, show nv s f = fun j => (if j = f then 1 else 0) + (match s.pv.findIdx? (· == j) with | some r => -(s.m r f) | none => 0) from funext (nv_split h hf), mv_add, mv_one _ hf.1, col_sum h (fun r => -(s.m r f)) hi]
  by_cases hl : i < s.pv.length
  . rw [if_pos hl]; exact Rat.add_neg_cancel _
  . rw [if_neg hl, h.zero i (Nat.le_of_not_lt hl) hi f hf.1]; exact Rat.add_zero _
theorem ker_free {v : Nat -> Rat} (hv : Ker 3 s.m v) : ∀ i, i < 3 -> v i = phi s 0 * v 0 * nv s 0 i + phi s 1 * v 1 * nv s 1 i + phi s 2 * v 2 * nv s 2 i := by
  intro i hi
  cases e : s.pv.findIdx? (· == i) with
  | none =>
    have hn : i ∉ s.pv := fun z => by
      obtain ⟨r, hr⟩ := List.getElem?_of_mem z
      rw [idx_of h hr] at e
      cases e
    have t : ∀ f, f < 3 -> phi s f * v f * nv s f i = if i = f then v i else 0 := fun f hf => by
      unfold nv phi
      rw [e]
      by_cases z : i = f
      . subst z
        rw [if_pos rfl, if_pos rfl, if_neg hn, Rat.one_mul, Rat.mul_one]
      . rw [if_neg z, if_neg z]
        exact Rat.mul_zero _
    rw [t 0 (by decide), t 1 (by decide), t 2 (by decide)]
    obtain rfl | rfl | rfl := lt3 hi
    all_goals
      simp
      try grind
  | some r =>
    have hr := idx_at h e
    have hr3 : r < 3 := Nat.lt_of_lt_of_le (List.getElem?_eq_some_iff.mp hr).1 h.len
    have hk := hv r hr3
    rw [rw3] at hk
    have t : ∀ f, f < 3 -> phi s f * v f * nv s f i = (if f = i then v i else 0) - s.m r f * v f := fun f hf => by
      unfold nv phi
      rw [e]
      by_cases z : f ∈ s.pv
      . obtain ⟨r', hr'⟩ := List.getElem?_of_mem z
        rw [if_pos z, h.unit r' f hr' r hr3, Rat.zero_mul, Rat.zero_mul]
        by_cases y : f = i
        . subst y
          have : r' = r := Option.some.inj ((idx_of h hr').symm.trans e)
          rw [if_pos rfl, if_pos this.symm]
          grind
        . rw [if_neg y, if_neg fun q => y (by rw [← q, hr] at hr'; exact (Option.some.inj hr').symm)]
          grind
      . have y : i ≠ f := fun q => z (q ▸ List.mem_of_getElem? hr)
        rw [if_neg z, if_neg y, if_neg (fun q => y q.symm)]
        show 1 * v f * -(s.m r f) = _
        grind
    rw [t 0 (by decide), t 1 (by decide), t 2 (by decide)]
    unfold mv at hk
    obtain rfl | rfl | rfl := lt3 hi
    all_goals
      simp
      grind
theorem nv_lead {f j : Nat} (hf : Free s f) (hj : f < j) (hj3 : j < 3) : nv s f j = 0 := by
  unfold nv
  rw [if_neg (Nat.ne_of_gt hj)]
  cases e : s.pv.findIdx? (· == j) with
  | none => rfl
  | some r =>
    show -(s.m r f) = 0
    rw [h.lead r j (idx_at h e) f hj]
    rfl
theorem nv_free {f g : Nat} (hg : Free s g) (hfg : g ≠ f) : nv s f g = 0 := by
  unfold nv
  rw [if_neg hfg, idx_no h hg.2]
theorem ys_free {q g : Nat} (hg : Free s g) : ys s q g = 0 := by
  unfold ys
  rw [idx_no h hg.2]
theorem ys_ok {q : Nat} (hq : ∀ i, s.pv.length ≤ i -> i < 3 -> s.m i q = 0) : ∀ i, i < 3 -> mv s.m (ys s q) i = s.m i q := fun i hi => by
  show mv s.m (fun j => match s.pv.findIdx? (· == j) with | some r => s.m r q | none => 0) i = _
  rw [col_sum h (fun r => s.m r q) hi]
  by_cases hl : i < s.pv.length
  . rw [if_pos hl]
  . rw [if_neg hl, hq i (Nat.le_of_not_lt hl) hi]
end
end Mine
end
section
set_option maxRecDepth 100000
namespace Mine
structure Inv3 (P Q : Mx) : Prop where
  pq : ∀ i k, i < 3 -> k < 3 -> P i 0 * Q 0 k + P i 1 * Q 1 k + P i 2 * Q 2 k = if i = k then 1 else 0
  qp : ∀ i k, i < 3 -> k < 3 -> Q i 0 * P 0 k + Q i 1 * P 1 k + Q i 2 * P 2 k = if i = k then 1 else 0
theorem Inv3.mv_qp {P Q : Mx} (h : Inv3 P Q) (v : Nat -> Rat) {i : Nat} (hi : i < 3) : mv Q (mv P v) i = v i := by
  have h0 := h.qp i 0 hi (by first | assumption | decide | exact Nat.le_of_lt ‹_› | exact Nat.le_trans ‹_› (by decide) | exact Nat.lt_of_lt_of_le ‹_› (by decide) | omega)
  have h1 := h.qp i 1 hi (by first | assumption | decide | exact Nat.le_of_lt ‹_› | exact Nat.le_trans ‹_› (by decide) | exact Nat.lt_of_lt_of_le ‹_› (by decide) | omega)
  have h2 := h.qp i 2 hi (by first | assumption | decide | exact Nat.le_of_lt ‹_› | exact Nat.le_trans ‹_› (by decide) | exact Nat.lt_of_lt_of_le ‹_› (by decide) | omega)
  have : i = 0 ∨ i = 1 ∨ i = 2 := by first | assumption | decide | exact Nat.le_of_lt ‹_› | exact Nat.le_trans ‹_› (by decide) | exact Nat.lt_of_lt_of_le ‹_› (by decide) | omega
  simp only [mv]
  rcases this with rfl | rfl | rfl <;> simp at h0 h1 h2 <;> grind
theorem Inv3.mv_pq {P Q : Mx} (h : Inv3 P Q) (v : Nat -> Rat) {i : Nat} (hi : i < 3) : mv P (mv Q v) i = v i := by
  have h0 := h.pq i 0 hi (by first | assumption | decide | exact Nat.le_of_lt ‹_› | exact Nat.le_trans ‹_› (by decide) | exact Nat.lt_of_lt_of_le ‹_› (by decide) | omega)
  have h1 := h.pq i 1 hi (by first | assumption | decide | exact Nat.le_of_lt ‹_› | exact Nat.le_trans ‹_› (by decide) | exact Nat.lt_of_lt_of_le ‹_› (by decide) | omega)
  have h2 := h.pq i 2 hi (by first | assumption | decide | exact Nat.le_of_lt ‹_› | exact Nat.le_trans ‹_› (by decide) | exact Nat.lt_of_lt_of_le ‹_› (by decide) | omega)
  have : i = 0 ∨ i = 1 ∨ i = 2 := by first | assumption | decide | exact Nat.le_of_lt ‹_› | exact Nat.le_trans ‹_› (by decide) | exact Nat.lt_of_lt_of_le ‹_› (by decide) | omega
  simp only [mv]
  rcases this with rfl | rfl | rfl <;> simp at h0 h1 h2 <;> grind
theorem mv_congr {P : Mx} {u v : Nat -> Rat} (h : ∀ i, i < 3 -> u i = v i) (i : Nat) : mv P u i = mv P v i := by
  simp only [mv, h 0 (by first | assumption | decide | exact Nat.le_of_lt ‹_› | exact Nat.le_trans ‹_› (by decide) | exact Nat.lt_of_lt_of_le ‹_› (by decide) | omega), h 1 (by first | assumption | decide | exact Nat.le_of_lt ‹_› | exact Nat.le_trans ‹_› (by decide) | exact Nat.lt_of_lt_of_le ‹_› (by decide) | omega), h 2 (by first | assumption | decide | exact Nat.le_of_lt ‹_› | exact Nat.le_trans ‹_› (by decide) | exact Nat.lt_of_lt_of_le ‹_› (by decide) | omega)]
noncomputable def Diag (P Q : Mx) (e : Nat -> Rat) (B : Mx) : Prop := ∀ i j, i < 3 -> j < 3 -> B i j = P i 0 * e 0 * Q 0 j + P i 1 * e 1 * Q 1 j + P i 2 * e 2 * Q 2 j
theorem Diag.app {P Q : Mx} {e : Nat -> Rat} {B : Mx} (h : Diag P Q e B) (v : Nat -> Rat) {i : Nat} (hi : i < 3) : mv B v i = mv P (fun k => e k * mv Q v k) i := by
  simp only [mv, h i 0 hi (by first | assumption | decide | exact Nat.le_of_lt ‹_› | exact Nat.le_trans ‹_› (by decide) | exact Nat.lt_of_lt_of_le ‹_› (by decide) | omega), h i 1 hi (by first | assumption | decide | exact Nat.le_of_lt ‹_› | exact Nat.le_trans ‹_› (by decide) | exact Nat.lt_of_lt_of_le ‹_› (by decide) | omega), h i 2 hi (by first | assumption | decide | exact Nat.le_of_lt ‹_› | exact Nat.le_trans ‹_› (by decide) | exact Nat.lt_of_lt_of_le ‹_› (by decide) | omega)]
  grind
theorem Diag.eq_iff {P Q : Mx} {e : Nat -> Rat} {B : Mx} (h : Diag P Q e B) (I : Inv3 P Q) {v c : Nat -> Rat} : (∀ i, i < 3 -> mv B v i = mv P c i) ↔ ∀ j, j < 3 -> e j * mv Q v j = c j := by
  constructor
  . intro q j hj
    have := mv_congr (P := Q) (u := fun i => mv B v i) (v := fun i => mv P c i) q j
    have e1 : mv Q (fun i => mv B v i) j = e j * mv Q v j := by
      rw [mv_congr (P := Q) (v := fun i => mv P (fun k => e k * mv Q v k) i) (fun i hi => h.app v hi) j]
      exact I.mv_qp _ hj
    rw [← e1, this]
    exact I.mv_qp c hj
  . intro q i hi
    rw [h.app v hi]
    exact mv_congr q i
theorem mv_zero (P : Mx) (i : Nat) : mv P (fun ζ => 0) i = 0 := by simp only [mv]; grind
section
variable {P Q : Mx} {e : Nat -> Rat} {B : Mx} {s : RS}
theorem Diag.ker (h : Diag P Q e B) (I : Inv3 P Q) {v : Nat -> Rat} : Ker 3 B v ↔ ∀ j, j < 3 -> e j * mv Q v j = 0 := by
  have := h.eq_iff I (v := v) (c := fun ζ => 0)
  rw [← this]
  unfold Ker
  simp only [rw3, mv_zero]
theorem null_solves (h : Diag P Q e B) (I : Inv3 P Q) (hs : Rd 3 B 3 s) {f : Nat} (hf : Free s f) : ∀ j, j < 3 -> e j * mv Q (nv s f) j = 0 :=
  (h.ker I).mp ((hs.ker _).mp (nv_ker hs hf))
noncomputable def zer (x : Rat) : Rat := if x = 0 then 1 else 0
theorem null_count (h : Diag P Q e B) (I : Inv3 P Q) (hs : Rd 3 B 3 s) : phi s 0 + phi s 1 + phi s 2 = zer (e 0) + zer (e 1) + zer (e 2) := by
  -- the column j of P is a null vector where e j = 0
  have col : ∀ j, j < 3 -> e j = 0 -> Ker 3 s.m (fun i => P i j) := fun j hj ej => by
    rw [hs.ker, h.ker I]
    intro k hk
    have := I.qp k j hk hj
    simp only [mv]
    by_cases hkj : k = j
    . subst hkj; rw [ej]; grind
    . rw [this, if_neg hkj]; grind
  have null : ∀ f, f < 3 -> ∀ j, j < 3 -> e j ≠ 0 -> phi s f * mv Q (nv s f) j = 0 := fun f hf j hj ej => by
    unfold phi
    split
    . grind
    . rename_i hp
      have := null_solves h I hs (f := f) ⟨hf, hp⟩ j hj
      grind
  have X : ∀ j, j < 3 -> phi s 0 * P 0 j * mv Q (nv s 0) j + phi s 1 * P 1 j * mv Q (nv s 1) j + phi s 2 * P 2 j * mv Q (nv s 2) j = zer (e j) := fun j hj => by
    unfold zer
    split
    . rename_i ej
      have k := ker_free hs (col j hj ej)
      have q := I.qp j j hj hj
      rw [if_pos rfl] at q
      have k0 := k 0 (by first | assumption | decide | exact Nat.le_of_lt ‹_› | exact Nat.le_trans ‹_› (by decide) | exact Nat.lt_of_lt_of_le ‹_› (by decide) | omega)
      have k1 := k 1 (by first | assumption | decide | exact Nat.le_of_lt ‹_› | exact Nat.le_trans ‹_› (by decide) | exact Nat.lt_of_lt_of_le ‹_› (by decide) | omega)
      have k2 := k 2 (by first | assumption | decide | exact Nat.le_of_lt ‹_› | exact Nat.le_trans ‹_› (by decide) | exact Nat.lt_of_lt_of_le ‹_› (by decide) | omega)
      simp only [mv]
      rw [k0, k1, k2] at q
      grind
    . rename_i ej
      have n0 := null 0 (by first | assumption | decide | exact Nat.le_of_lt ‹_› | exact Nat.le_trans ‹_› (by decide) | exact Nat.lt_of_lt_of_le ‹_› (by decide) | omega) j hj ej
      have n1 := null 1 (by first | assumption | decide | exact Nat.le_of_lt ‹_› | exact Nat.le_trans ‹_› (by decide) | exact Nat.lt_of_lt_of_le ‹_› (by decide) | omega) j hj ej
      have n2 := null 2 (by first | assumption | decide | exact Nat.le_of_lt ‹_› | exact Nat.le_trans ‹_› (by decide) | exact Nat.lt_of_lt_of_le ‹_› (by decide) | omega) j hj ej
      grind
  have x0 := X 0 (by first | assumption | decide | exact Nat.le_of_lt ‹_› | exact Nat.le_trans ‹_› (by decide) | exact Nat.lt_of_lt_of_le ‹_› (by decide) | omega)
  have x1 := X 1 (by first | assumption | decide | exact Nat.le_of_lt ‹_› | exact Nat.le_trans ‹_› (by decide) | exact Nat.lt_of_lt_of_le ‹_› (by decide) | omega)
  have x2 := X 2 (by first | assumption | decide | exact Nat.le_of_lt ‹_› | exact Nat.le_trans ‹_› (by decide) | exact Nat.lt_of_lt_of_le ‹_› (by decide) | omega)
  have t : ∀ f, f < 3 -> P f 0 * mv Q (nv s f) 0 + P f 1 * mv Q (nv s f) 1 + P f 2 * mv Q (nv s f) 2 = 1 := fun f hf => by
    have := I.mv_pq (nv s f) hf
    rw [nv_self] at this
    exact this
  have t0 := t 0 (by first | assumption | decide | exact Nat.le_of_lt ‹_› | exact Nat.le_trans ‹_› (by decide) | exact Nat.lt_of_lt_of_le ‹_› (by decide) | omega)
  have t1 := t 1 (by first | assumption | decide | exact Nat.le_of_lt ‹_› | exact Nat.le_trans ‹_› (by decide) | exact Nat.lt_of_lt_of_le ‹_› (by decide) | omega)
  have t2 := t 2 (by first | assumption | decide | exact Nat.le_of_lt ‹_› | exact Nat.le_trans ‹_› (by decide) | exact Nat.lt_of_lt_of_le ‹_› (by decide) | omega)
  grind
end
theorem rw4 (m : Mx) (v : Nat -> Rat) (i : Nat) : rwv 4 m v i = mv m v i + m i 3 * v 3 := by
  show 0 + m i 0 * v 0 + m i 1 * v 1 + m i 2 * v 2 + m i 3 * v 3 = m i 0 * v 0 + m i 1 * v 1 + m i 2 * v 2 + m i 3 * v 3
  rw [Rat.zero_add]
section
variable {P Q : Mx} {e c : Nat -> Rat} {M : Mx} {s : RS}
theorem sol_some (h : Diag P Q e M) (I : Inv3 P Q) (hx : ∀ i, i < 3 -> M i 3 = mv P c i) (hs : Rd 4 M 3 s) (hn : ffirst s.m 3 s.pv.length (3 - s.pv.length) = none) : ∀ j, j < 3 -> e j * mv Q (ys s 3) j = c j := by
  have hz := ffirst_none hn
  have hl := hs.len
  have y := ys_ok hs (q := 3) (fun i h1 h2 => hz i h1 (by first | assumption | decide | exact Nat.le_of_lt ‹_› | exact Nat.le_trans ‹_› (by decide) | exact Nat.lt_of_lt_of_le ‹_› (by decide) | omega))
  have k : Ker 4 s.m (fun j => if j = 3 then -1 else ys s 3 j) := fun i hi => by
    rw [rw4]
    have e1 : mv s.m (fun j => if j = 3 then -1 else ys s 3 j) i = mv s.m (ys s 3) i := mv_congr (fun i hi => by rw [if_neg (by first | assumption | decide | exact Nat.le_of_lt ‹_› | exact Nat.le_trans ‹_› (by decide) | exact Nat.lt_of_lt_of_le ‹_› (by decide) | omega)]) i
    rw [e1, y i hi]
    simp only [if_true]
    grind
  rw [hs.ker] at k
  refine (h.eq_iff I).mp fun i hi => ?_
  have k := k i hi
  rw [rw4] at k
  have e1 : mv M (fun j => if j = 3 then -1 else ys s 3 j) i = mv M (ys s 3) i := mv_congr (fun i hi => by rw [if_neg (by first | assumption | decide | exact Nat.le_of_lt ‹_› | exact Nat.le_trans ‹_› (by decide) | exact Nat.lt_of_lt_of_le ‹_› (by decide) | omega)]) i
  rw [e1] at k
  simp only [if_true] at k
  rw [hx i hi] at k
  grind
theorem sol_none (h : Diag P Q e M) (I : Inv3 P Q) (hx : ∀ i, i < 3 -> M i 3 = mv P c i) (hs : Rd 4 M 3 s) {r : Nat} (hn : ffirst s.m 3 s.pv.length (3 - s.pv.length) = some r) : ∃ j, j < 3 ∧ e j = 0 ∧ c j ≠ 0 := by
  obtain ⟨r1, r2, r3⟩ := ffirst_some hn
  have hl := hs.len
  refine Classical.byContradiction fun hc => ?_
  have hc : ∀ j, j < 3 -> e j = 0 -> c j = 0 := fun j hj ej => Classical.byContradiction fun q => hc ⟨j, hj, ej, q⟩
  -- a solution
  have sol : ∀ j, j < 3 -> e j * mv Q (mv P fun k => c k / e k) j = c j := fun j hj => by
    rw [I.mv_qp _ hj]
    by_cases ej : e j = 0
    . rw [hc j hj ej, ej]; grind
    . grind
  have k : Ker 4 M (fun j => if j = 3 then -1 else mv P (fun k => c k / e k) j) := fun i hi => by
    rw [rw4]
    have e1 : mv M (fun j => if j = 3 then -1 else mv P (fun k => c k / e k) j) i = mv M (mv P fun k => c k / e k) i := mv_congr (fun i hi => by rw [if_neg (by first | assumption | decide | exact Nat.le_of_lt ‹_› | exact Nat.le_trans ‹_› (by decide) | exact Nat.lt_of_lt_of_le ‹_› (by decide) | omega)]) i
    rw [e1, (h.eq_iff I).mpr sol i hi, hx i hi]
    simp only [if_true]
    grind
  rw [← hs.ker] at k
  have k := k r (by first | assumption | decide | exact Nat.le_of_lt ‹_› | exact Nat.le_trans ‹_› (by decide) | exact Nat.lt_of_lt_of_le ‹_› (by decide) | omega)
  rw [rw4] at k
  have z := hs.zero r r1 (by first | assumption | decide | exact Nat.le_of_lt ‹_› | exact Nat.le_trans ‹_› (by decide) | exact Nat.lt_of_lt_of_le ‹_› (by decide) | omega)
  simp only [mv, z 0 (by first | assumption | decide | exact Nat.le_of_lt ‹_› | exact Nat.le_trans ‹_› (by decide) | exact Nat.lt_of_lt_of_le ‹_› (by decide) | omega), z 1 (by first | assumption | decide | exact Nat.le_of_lt ‹_› | exact Nat.le_trans ‹_› (by decide) | exact Nat.lt_of_lt_of_le ‹_› (by decide) | omega), z 2 (by first | assumption | decide | exact Nat.le_of_lt ‹_› | exact Nat.le_trans ‹_› (by decide) | exact Nat.lt_of_lt_of_le ‹_› (by decide) | omega), if_true] at k
  grind
end
noncomputable def det3 (a : Mx) : Rat := a 0 0 * (a 1 1 * a 2 2 - a 1 2 * a 2 1) - a 0 1 * (a 1 0 * a 2 2 - a 1 2 * a 2 0) + a 0 2 * (a 1 0 * a 2 1 - a 1 1 * a 2 0)
theorem rw6 (m : Mx) (v : Nat -> Rat) (i : Nat) : rwv 6 m v i = mv m v i + (m i 3 * v 3 + m i 4 * v 4 + m i 5 * v 5) := by
  show 0 + m i 0 * v 0 + m i 1 * v 1 + m i 2 * v 2 + m i 3 * v 3 + m i 4 * v 4 + m i 5 * v 5 = m i 0 * v 0 + m i 1 * v 1 + m i 2 * v 2 + (m i 3 * v 3 + m i 4 * v 4 + m i 5 * v 5)
  rw [Rat.zero_add]; grind
section
variable {A : Mx} {s : RS}
theorem inv_pv (hs : Rd 6 A 3 s) (hs3 : Rd 3 A 3 s) {Y : Mx} (hY : ∀ i k, i < 3 -> k < 3 -> Y i 0 * A 0 k + Y i 1 * A 1 k + Y i 2 * A 2 k = if i = k then 1 else 0) : s.pv = [0, 1, 2] := by
  refine Classical.byContradiction fun hp => ?_
  have hf : ∃ f, Free s f := by
    rcases pv_cases hs with q | q | q | q | q | q | q | q
    . exact ⟨0, by first | assumption | decide | exact Nat.le_of_lt ‹_› | exact Nat.le_trans ‹_› (by decide) | exact Nat.lt_of_lt_of_le ‹_› (by decide) | omega, by rw [q]; decide⟩
    . exact ⟨1, by first | assumption | decide | exact Nat.le_of_lt ‹_› | exact Nat.le_trans ‹_› (by decide) | exact Nat.lt_of_lt_of_le ‹_› (by decide) | omega, by rw [q]; decide⟩
    . exact ⟨0, by first | assumption | decide | exact Nat.le_of_lt ‹_› | exact Nat.le_trans ‹_› (by decide) | exact Nat.lt_of_lt_of_le ‹_› (by decide) | omega, by rw [q]; decide⟩
    . exact ⟨0, by first | assumption | decide | exact Nat.le_of_lt ‹_› | exact Nat.le_trans ‹_› (by decide) | exact Nat.lt_of_lt_of_le ‹_› (by decide) | omega, by rw [q]; decide⟩
    . exact ⟨2, by first | assumption | decide | exact Nat.le_of_lt ‹_› | exact Nat.le_trans ‹_› (by decide) | exact Nat.lt_of_lt_of_le ‹_› (by decide) | omega, by rw [q]; decide⟩
    . exact ⟨1, by first | assumption | decide | exact Nat.le_of_lt ‹_› | exact Nat.le_trans ‹_› (by decide) | exact Nat.lt_of_lt_of_le ‹_› (by decide) | omega, by rw [q]; decide⟩
    . exact ⟨0, by first | assumption | decide | exact Nat.le_of_lt ‹_› | exact Nat.le_trans ‹_› (by decide) | exact Nat.lt_of_lt_of_le ‹_› (by decide) | omega, by rw [q]; decide⟩
    . exact (hp q).elim
  obtain ⟨f, hf⟩ := hf
  have k := nv_ker hs3 hf
  rw [hs3.ker, ker3] at k
  obtain ⟨k0, k1, k2⟩ := k
  have n := nv_self s f
  have y0 := hY f 0 hf.1 (by first | assumption | decide | exact Nat.le_of_lt ‹_› | exact Nat.le_trans ‹_› (by decide) | exact Nat.lt_of_lt_of_le ‹_› (by decide) | omega)
  have y1 := hY f 1 hf.1 (by first | assumption | decide | exact Nat.le_of_lt ‹_› | exact Nat.le_trans ‹_› (by decide) | exact Nat.lt_of_lt_of_le ‹_› (by decide) | omega)
  have y2 := hY f 2 hf.1 (by first | assumption | decide | exact Nat.le_of_lt ‹_› | exact Nat.le_trans ‹_› (by decide) | exact Nat.lt_of_lt_of_le ‹_› (by decide) | omega)
  simp only [mv] at k0 k1 k2
  have hf3 := lt3 hf.1
  rcases hf3 with rfl | rfl | rfl <;> simp at y0 y1 y2 <;> grind
theorem rw6x (m : Mx) (y : Nat -> Rat) {k : Nat} (hk : k < 3) (a : Nat) : rwv 6 m (fun j => if j < 3 then y j else if j = 3 + k then 1 else 0) a = mv m y a + m a (3 + k) := by
  rw [rw6]
  unfold mv
  obtain rfl | rfl | rfl := lt3 hk
  all_goals
    simp
    grind
theorem inv_ok (hs : Rd 6 A 3 s) (hI : ∀ i k, i < 3 -> k < 3 -> A i (3 + k) = if i = k then 1 else 0) (hp : s.pv = [0, 1, 2]) : ∀ i k, i < 3 -> k < 3 -> A i 0 * s.m 0 (3 + k) + A i 1 * s.m 1 (3 + k) + A i 2 * s.m 2 (3 + k) = if i = k then 1 else 0 := by
  intro i k hi hk
  have kk : Ker 6 s.m (fun j => if j < 3 then -(s.m j (3 + k)) else if j = 3 + k then 1 else 0) := fun a ha => by
    rw [rw6x _ (fun j => -(s.m j (3 + k))) hk a]
    unfold mv
    rw [hs.unit 0 0 (by rw [hp]; rfl) a ha, hs.unit 1 1 (by rw [hp]; rfl) a ha, hs.unit 2 2 (by rw [hp]; rfl) a ha]
    obtain rfl | rfl | rfl := lt3 ha
    all_goals
      simp
      grind
  rw [hs.ker] at kk
  have kk := kk i hi
  rw [rw6x _ (fun j => -(s.m j (3 + k))) hk, hI i k hi hk] at kk
  unfold mv at kk
  generalize (if i = k then (1 : Rat) else 0) = x at *
  grind
theorem det_mul (a b : Mx) : det3 (fun i k => a i 0 * b 0 k + a i 1 * b 1 k + a i 2 * b 2 k) = det3 a * det3 b := by
  simp only [det3]
  grind
theorem sing_pv (hs : Rd 6 A 3 s) (hI : ∀ i k, i < 3 -> k < 3 -> A i (3 + k) = if i = k then 1 else 0) (hd : det3 A = 0) : s.pv ≠ [0, 1, 2] := by
  intro hp
  have q := inv_ok hs hI hp
  have m := det_mul A (fun i k => s.m i (3 + k))
  rw [hd] at m
  have e : det3 (fun i k => A i 0 * s.m 0 (3 + k) + A i 1 * s.m 1 (3 + k) + A i 2 * s.m 2 (3 + k)) = 1 := by
    simp only [det3, q 0 0 (by first | assumption | decide | exact Nat.le_of_lt ‹_› | exact Nat.le_trans ‹_› (by decide) | exact Nat.lt_of_lt_of_le ‹_› (by decide) | omega) (by first | assumption | decide | exact Nat.le_of_lt ‹_› | exact Nat.le_trans ‹_› (by decide) | exact Nat.lt_of_lt_of_le ‹_› (by decide) | omega), q 0 1 (by first | assumption | decide | exact Nat.le_of_lt ‹_› | exact Nat.le_trans ‹_› (by decide) | exact Nat.lt_of_lt_of_le ‹_› (by decide) | omega) (by first | assumption | decide | exact Nat.le_of_lt ‹_› | exact Nat.le_trans ‹_› (by decide) | exact Nat.lt_of_lt_of_le ‹_› (by decide) | omega), q 0 2 (by first | assumption | decide | exact Nat.le_of_lt ‹_› | exact Nat.le_trans ‹_› (by decide) | exact Nat.lt_of_lt_of_le ‹_› (by decide) | omega) (by first | assumption | decide | exact Nat.le_of_lt ‹_› | exact Nat.le_trans ‹_› (by decide) | exact Nat.lt_of_lt_of_le ‹_› (by decide) | omega), q 1 0 (by first | assumption | decide | exact Nat.le_of_lt ‹_› | exact Nat.le_trans ‹_› (by decide) | exact Nat.lt_of_lt_of_le ‹_› (by decide) | omega) (by first | assumption | decide | exact Nat.le_of_lt ‹_› | exact Nat.le_trans ‹_› (by decide) | exact Nat.lt_of_lt_of_le ‹_› (by decide) | omega), q 1 1 (by first | assumption | decide | exact Nat.le_of_lt ‹_› | exact Nat.le_trans ‹_› (by decide) | exact Nat.lt_of_lt_of_le ‹_› (by decide) | omega) (by first | assumption | decide | exact Nat.le_of_lt ‹_› | exact Nat.le_trans ‹_› (by decide) | exact Nat.lt_of_lt_of_le ‹_› (by decide) | omega), q 1 2 (by first | assumption | decide | exact Nat.le_of_lt ‹_› | exact Nat.le_trans ‹_› (by decide) | exact Nat.lt_of_lt_of_le ‹_› (by decide) | omega) (by first | assumption | decide | exact Nat.le_of_lt ‹_› | exact Nat.le_trans ‹_› (by decide) | exact Nat.lt_of_lt_of_le ‹_› (by decide) | omega), q 2 0 (by first | assumption | decide | exact Nat.le_of_lt ‹_› | exact Nat.le_trans ‹_› (by decide) | exact Nat.lt_of_lt_of_le ‹_› (by decide) | omega) (by first | assumption | decide | exact Nat.le_of_lt ‹_› | exact Nat.le_trans ‹_› (by decide) | exact Nat.lt_of_lt_of_le ‹_› (by decide) | omega), q 2 1 (by first | assumption | decide | exact Nat.le_of_lt ‹_› | exact Nat.le_trans ‹_› (by decide) | exact Nat.lt_of_lt_of_le ‹_› (by decide) | omega) (by first | assumption | decide | exact Nat.le_of_lt ‹_› | exact Nat.le_trans ‹_› (by decide) | exact Nat.lt_of_lt_of_le ‹_› (by decide) | omega), q 2 2 (by first | assumption | decide | exact Nat.le_of_lt ‹_› | exact Nat.le_trans ‹_› (by decide) | exact Nat.lt_of_lt_of_le ‹_› (by decide) | omega) (by first | assumption | decide | exact Nat.le_of_lt ‹_› | exact Nat.le_trans ‹_› (by decide) | exact Nat.lt_of_lt_of_le ‹_› (by decide) | omega)]
    simp
    grind
  rw [e] at m
  grind
end
end Mine
end
section
set_option maxRecDepth 100000
namespace Mine
open PySem
theorem lenLim_ge {n : Nat} (h : n ≤ 1000) : n ≤ lenLim := Nat.le_trans h (by decide)
theorem okR_nat {n : Nat} (h : n ≤ 1000) : okR 0 (n : Int) = true := okR_small (by decide) (by rw [Int.natAbs_natCast]; exact Nat.le_trans h (by decide))
noncomputable abbrev tab (n : Nat) (f : Nat -> PyData) : PyData := .list ((List.range n).map f)
theorem range_map (w : Nat) : rangeL 0 (w : Int) = (List.range w).map fun (k : Nat) => PyData.int (k : Int) := by simp [rangeL]
theorem idx_ok {xs : List PyData} {k : Nat} {d : PyData} (hk : k < lenLim) (h : xs[k]? = some d) : idxD (.list xs) (.int (k : Int)) = some (d, 0) := by
  rw [idxD_list]
  rw [if_pos (by simp; exact hk)]
  simp [h]
theorem idxR {n i : Nat} {f : Nat -> PyData} (hn : n ≤ 1000) (hi : i < n) : idxD (tab n f) (.int (i : Int)) = some (f i, 0) := idx_ok (Nat.lt_of_lt_of_le hi (lenLim_ge hn)) (by rw [List.getElem?_map, List.getElem?_range hi]; rfl)
theorem lenR {n : Nat} {f : Nat -> PyData} (hn : n ≤ 1000) : bltD .len (tab n f) = some (.int (n : Int), 0) := by
  show (if ((List.range n).map f).length ≤ lenLim then some (PyData.int (((List.range n).map f).length : Nat), 0) else none) = _
  rw [List.length_map, List.length_range, if_pos (lenLim_ge hn)]
section
variable {Φ : Funs} {γ : Env'}
theorem mapM_tab {α : Type} {f : PyData -> Option (Option (PyData × Nat))} {F : α -> PyData} {g : α -> PyData} : ∀ xs : List α, (∀ c ∈ xs, ∃ l, f (F c) = some (some (g c, l))) -> ∃ rs, (xs.map F).mapM f = some rs ∧ (rs.filterMap id).map (·.1) = xs.map g
  | [], _ => ⟨[], rfl, rfl⟩
  | c :: xs, h => by
    obtain ⟨l, e⟩ := h c (.head _)
    obtain ⟨rs, e1, e2⟩ := mapM_tab xs fun y hy => h y (.tail _ hy)
    refine ⟨some (g c, l) :: rs, ?_, congrArg (g c :: ·) e2⟩
    rw [List.map_cons, List.mapM_cons, e, e1]
    rfl
theorem compX {elt : PE} {it : PI} {n k : Nat} {F : Nat -> PyData} {g : Nat -> PyData} (hi : evI Φ γ it = some ((List.range k).map F)) (h : ∀ c, c < k -> ∃ γ' l, bindC n (F c) γ = some γ' ∧ evE Φ γ' elt = some (g c, l)) :
    evE Φ γ (.comp elt n it .tt) = some (tab k g, 1) := by
  obtain ⟨rs, e1, e2⟩ := mapM_tab (f := fun d => (bindC n d γ).bind fun g => (evT Φ g .tt).bind fun b => if b then (evE Φ g elt).map some else some none) (F := F) (g := g) (List.range k) fun c hc => by
    obtain ⟨γ', l, q1, q2⟩ := h c (List.mem_range.mp hc)
    refine ⟨l, bnd q1 ?_⟩
    show (evE Φ γ' elt).map some = _
    rw [q2]; rfl
  rw [ev_comp hi e1]
  unfold mkL
  rw [e2]
theorem compR {elt b : PE} {n l : Nat} {g : Nat -> PyData} (hb : evE Φ γ b = some (.int (n : Int), l)) (hn : n ≤ 1000) (h : ∀ c : Nat, c < n -> ∃ l, evE Φ (.pl (.int (c : Int)) :: γ) elt = some (g c, l)) : evE Φ γ (.comp elt 1 (.r1 b) .tt) = some (tab n g, 1) :=
  compX (F := fun c => .int (c : Int)) ((ev_r1 hb (okR_nat hn)).trans (congrArg some (range_map n))) fun c hc => let ⟨l, e⟩ := h c hc; ⟨_, l, rfl, e⟩
theorem compL {elt a : PE} {n l : Nat} {f g : Nat -> PyData} (ha : evE Φ γ a = some (tab n f, l)) (hn : n ≤ 1000) (h : ∀ c : Nat, c < n -> ∃ l, evE Φ (.pl (f c) :: γ) elt = some (g c, l)) : evE Φ γ (.comp elt 1 (.of a) .tt) = some (tab n g, 1) :=
  compX (F := f) (ev_of ha rfl (by rw [List.length_map, List.length_range]; exact lenLim_ge hn)) fun c hc => let ⟨l, e⟩ := h c hc; ⟨_, l, rfl, e⟩
theorem zip_tab {n : Nat} {f f' : Nat -> PyData} : zipD ((List.range n).map f) ((List.range n).map f') = (List.range n).map fun c => .tuple [f c, f' c] := by
  unfold zipD
  rw [List.zipWith_map, List.zipWith_self]
theorem ev_zip {a b : PE} {n l l' : Nat} {f f' : Nat -> PyData} (ha : evE Φ γ a = some (tab n f, l)) (hb : evE Φ γ b = some (tab n f', l')) (hn : n ≤ 1000) : evI Φ γ (.zip a b) = some ((List.range n).map fun c => .tuple [f c, f' c]) := by
  refine bnd ha (bnd (x := some _) rfl (bnd hb (bnd (x := some _) rfl ?_)))
  rw [if_pos, zip_tab]
  rw [List.length_map, List.length_range, List.length_map, List.length_range]
  exact Bool.and_eq_true_iff.mpr ⟨decide_eq_true (lenLim_ge hn), decide_eq_true (lenLim_ge hn)⟩
theorem compZ {elt a b : PE} {n l l' : Nat} {f f' g : Nat -> PyData} (ha : evE Φ γ a = some (tab n f, l)) (hb : evE Φ γ b = some (tab n f', l')) (hn : n ≤ 1000) (h : ∀ c : Nat, c < n -> ∃ l, evE Φ (.pl (f c) :: .pl (f' c) :: γ) elt = some (g c, l)) :
    evE Φ γ (.comp elt 2 (.zip a b) .tt) = some (tab n g, 1) := compX (ev_zip ha hb hn) fun c hc => let ⟨l, e⟩ := h c hc; ⟨_, l, rfl, e⟩
end
noncomputable def rwD (w : Nat) (f : Nat -> Rat) : PyData := tab w fun c => fq (f c)
noncomputable def enc (w : Nat) (m : Mx) : PyData := tab 3 fun i => rwD w (m i)
theorem rwD_congr {w : Nat} {f g : Nat -> Rat} (h : ∀ c, c < w -> f c = g c) : rwD w f = rwD w g := congrArg PyData.list (List.map_congr_left fun c hc => by rw [h c (List.mem_range.mp hc)])
theorem enc_congr {w : Nat} {m m' : Mx} (h : ∀ i c, i < 3 -> c < w -> m i c = m' i c) : enc w m = enc w m' := congrArg PyData.list (List.map_congr_left fun i hi => rwD_congr fun c hc => h i c (List.mem_range.mp hi) hc)
noncomputable def BV (k w : Nat) (f : Nat -> Rat) : Prop := ∀ c, c < w -> Bd k (f c)
noncomputable def BM (k w : Nat) (m : Mx) : Prop := ∀ i, i < 3 -> BV k w (m i)
theorem fq0 : fq 0 = .tuple [.int 0, .int 1] := rfl
theorem fq1 : fq 1 = .tuple [.int 1, .int 1] := rfl
theorem copy_ok {K : Nat} (hK : 0 < K) {w : Nat} (hw : w ≤ 1000) (m : Mx) : T9 K 0 [enc w m] = some (.ret (enc w m) 1) := by
  rw [t9 f9_0 rfl rfl (by decide) hK]
  exact evF_ret rfl (st_ret (compL (f := fun i => rwD w (m i)) (eV rfl) (by decide) fun c ζ => ⟨_, ev_sl (eV rfl) (if_pos (by rw [List.length_map, List.length_range]; exact lenLim_ge hw))⟩))
theorem ident_ok {K : Nat} (hK : 11 < K) : T9 K 11 [.int 3] = some (.ret (enc 3 fun i j => if i = j then 1 else 0) 1) := by
  rw [t9 f9_11 rfl rfl (by decide) hK]
  refine evF_ret rfl (st_ret (compR (n := 3) (eV rfl) (by decide) fun i ζ => ⟨1, compR (n := 3) (eV rfl) (by decide) fun j ζ => ⟨0, ?_⟩⟩))
  have e : cmpD .eq (.int (i : Int)) (.int (j : Int)) = some (decide (i = j)) := (cmp_eq_int _ _).trans (congrArg some (decide_eq_decide.mpr Int.ofNat_inj))
  refine bnd (eK (eV rfl) (eV rfl) e) ?_
  by_cases h : i = j
  . rw [decide_eq_true h]
    exact congrArg (fun q => some (q, 0)) (show PyData.tuple [.int 1, .int 1] = fq (if i = j then 1 else 0) by rw [if_pos h]; rfl)
  . rw [decide_eq_false h]
    exact congrArg (fun q => some (q, 0)) (show PyData.tuple [.int 0, .int 1] = fq (if i = j then 1 else 0) by rw [if_neg h]; rfl)
theorem transp_ok {K : Nat} (hK : 12 < K) (m : Mx) : T9 K 12 [enc 3 m, .int 3] = some (.ret (enc 3 fun i j => m j i) 1) := by
  rw [t9 f9_12 rfl rfl (by decide) hK]
  exact evF_ret rfl (st_ret (compR (n := 3) (eV rfl) (by decide) fun j hj => ⟨1, compR (n := 3) (ev_blt (eV rfl) (lenR (by decide))) (by decide) fun i hi => ⟨0, eI (eI (eV rfl) (eV rfl) (idxR (by decide) hi)) (eV rfl) (idxR (by decide) hj)⟩⟩))
noncomputable def dt (u v : Nat -> Rat) : Rat := u 0 * v 0 + u 1 * v 1 + u 2 * v 2
theorem dt_bd {i j : Nat} {u v : Nat -> Rat} (hu : BV i 3 u) (hv : BV j 3 v) : Bd (3 * (i + j) + 2) (dt u v) :=
  ((((hu 0 (by decide)).mul (hv 0 (by decide))).add ((hu 1 (by decide)).mul (hv 1 (by decide)))).add ((hu 2 (by decide)).mul (hv 2 (by decide)))).mono (by omega)
theorem dot_ok {K : Nat} (hK : 13 < K) {u v : Nat -> Rat} {i j : Nat} (hij : 3 * (i + j) + 4 ≤ 7999) (hu : BV i 3 u) (hv : BV j 3 v) : T9 K 13 [rwD 3 u, rwD 3 v] = some (.ret (fq (dt u v)) 0) := by
  rw [t9 f9_13 rfl rfl (by decide) hK]
  have mu : ∀ c, c < 3 -> T9 13 7 [fq (u c), fq (v c)] = some (.ret (fq (u c * v c)) 0) ∧ Bd (i + j) (u c * v c) := fun c hc => ⟨fmul_ok (by decide) (by omega) (hu c hc) (hv c hc), (hu c hc).mul (hv c hc)⟩
  have b0 : Bd 1 0 := ⟨by decide, by decide⟩
  obtain ⟨m0, c0⟩ := mu 0 (by decide)
  obtain ⟨m1, c1⟩ := mu 1 (by decide)
  obtain ⟨m2, c2⟩ := mu 2 (by decide)
  have a0 := fadd_ok (K := 13) (by decide) (by omega) b0 c0
  rw [Rat.zero_add] at a0
  have a1 := fadd_ok (K := 13) (by decide) (by omega) c0 c1
  have a2 := fadd_ok (K := 13) (by decide) (by omega) (c0.add c1) c2
  have turn : ∀ {t r : Rat} {c : Nat} {sl : Slot}, c < 3 -> T9 13 7 [fq (u c), fq (v c)] = some (.ret (fq r) 0) -> T9 13 4 [fq t, fq r] = some (.ret (fq (t + r)) 0) ->
      evSs (T9 13) 40000 false [.pl (rwD 3 u), .pl (rwD 3 v), .pl (fq t), .pl (.int (c : Int))] (.cons (.asg 2 (.call 4 (.cons (.var 2) (.cons (.call 7 (.cons (.idx (.var 0) (.var 3)) (.cons (.idx (.var 1) (.var 3)) .nil))) .nil)))) .nil) = some (.next, [.pl (rwD 3 u), .pl (rwD 3 v), .pl (fq (t + r)), .pl (.int (c : Int))]) :=
    fun hc m a => st_asg (eF (eC (eV rfl) (eC (eF (eC (eI (eV rfl) (eV rfl) (idxR (by decide) hc)) (eC (eI (eV rfl) (eV rfl) (idxR (by decide) hc)) eN)) m) eN)) a) st_nil
  apply evF_ret rfl
  refine st_asg (ev_tup (eC vL (eC vL eN))) ?_
  refine st_for (γ' := [.pl (rwD 3 u), .pl (rwD 3 v), .pl (fq (dt u v)), .pl (.int 2)]) ((ev_r1 (ev_blt (eV rfl) (lenR (n := 3) (by decide))) (okR_nat (n := 3) (by decide))).trans (congrArg some (range_map 3))) ?_ (st_ret (eV rfl))
  refine fl_cons (turn (t := 0) (c := 0) (sl := .un) (by decide) m0 (by rw [Rat.zero_add]; exact a0)) ?_
  rw [Rat.zero_add]
  exact fl_cons (turn (c := 1) (sl := .un) (by decide) m1 a1) (fl_cons (turn (c := 2) (sl := .un) (by decide) m2 a2) fl_nil)
noncomputable def mm (a b : Mx) : Mx := fun i j => dt (a i) fun k => b k j
theorem mmul_ok {K : Nat} (hK : 14 < K) {a b : Mx} {i j : Nat} (hij : 3 * (i + j) + 4 ≤ 7999) (ha : BM i 3 a) (hb : BM j 3 b) : T9 K 14 [enc 3 a, enc 3 b, .int 3, .int 3] = some (.ret (enc 3 (mm a b)) 1) := by
  rw [t9 f9_14 rfl rfl (by decide) hK]
  apply evF_ret rfl
  refine st_asg (eF (eC (eV rfl) (eC (eV rfl) eN)) (transp_ok (by decide) b)) ?_
  refine st_ret (compR (n := 3) (ev_blt (eV rfl) (lenR (by decide))) (by decide) fun r hr => ⟨1, compR (n := 3) (eV rfl) (by decide) fun c hc => ⟨0, ?_⟩⟩)
  exact eF (eC (eI (eV rfl) (eV rfl) (idxR (by decide) hr)) (eC (eI (eV rfl) (eV rfl) (idxR (by decide) hc)) eN)) (dot_ok (by decide) hij (ha r hr) fun k hk => hb k hk c hc)
theorem mvec_ok {K : Nat} (hK : 15 < K) {a : Mx} {v : Nat -> Rat} {i j : Nat} (hij : 3 * (i + j) + 4 ≤ 7999) (ha : BM i 3 a) (hv : BV j 3 v) : T9 K 15 [enc 3 a, rwD 3 v] = some (.ret (rwD 3 fun i => dt (a i) v) 1) := by
  rw [t9 f9_15 rfl rfl (by decide) hK]
  exact evF_ret rfl (st_ret (compL (f := fun i => rwD 3 (a i)) (eV rfl) (by decide) fun r hr => ⟨0, eF (eC (eV rfl) (eC (eV rfl) eN)) (dot_ok (by decide) hij (ha r hr) hv)⟩))
theorem pos_ok {k n : Nat} (hn : n ≤ 1000) (h : k < n) : posD (.int (k : Int)) n = some k := by
  have hk : k < lenLim := Nat.lt_of_lt_of_le h (lenLim_ge hn)
  simp only [posD]
  rw [if_pos (by simp; exact ⟨hk, h⟩)]
  simp
theorem set_tab {n i : Nat} {f : Nat -> PyData} {d : PyData} (hi : i < n) : ((List.range n).map f).set i d = (List.range n).map fun k => if k = i then d else f k := by
  apply List.ext_getElem
  . rw [List.length_set, List.length_map, List.length_map]
  . intro k h1 h2
    rw [List.getElem_set, List.getElem_map, List.getElem_map, List.getElem_range]
    by_cases e : i = k
    . rw [if_pos e, if_pos e.symm]
    . rw [if_neg e, if_neg (Ne.symm e)]
noncomputable def upd (m : Mx) (i : Nat) (r : Nat -> Rat) : Mx := fun k => if k = i then r else m k
theorem set_enc {w i : Nat} {m : Mx} {r : Nat -> Rat} (hi : i < 3) : ((List.range 3).map fun k => rwD w (m k)).set i (rwD w r) = (List.range 3).map fun k => rwD w (upd m i r k) := by
  rw [set_tab hi]
  refine List.map_congr_left fun k ζ => ?_
  unfold upd
  by_cases h : k = i
  . rw [if_pos h, if_pos h]
  . rw [if_neg h, if_neg h]
theorem put_enc {γ : Env'} {s w i : Nat} {m : Mx} {r : Nat -> Rat} {l : Nat} (h : γ[s]? = some (.b1 ((List.range 3).map fun k => rwD w (m k)))) (hi : i < 3) : putS γ s (.int (i : Int)) (rwD w r, l) = some (γ.set s (.b1 ((List.range 3).map fun k => rwD w (upd m i r k)))) := by
  rw [put_b1 h (by rw [List.length_map, List.length_range]; exact pos_ok (by decide) hi), set_enc hi]
theorem swap_ok {K : Nat} (hK : 16 < K) {w : Nat} (hw : w ≤ 1000) (m : Mx) {i j : Nat} (hi : i < 3) (hj : j < 3) : T9 K 16 [enc w m, .int (i : Int), .int (j : Int)] = some (.ret (enc w (fsw m i j)) 1) := by
  rw [t9 f9_16 rfl rfl (by decide) hK]
  have sl : ∀ r : Nat -> Rat, slD (rwD w r) .none .none = some (rwD w r, 1) := fun r => if_pos (by rw [List.length_map, List.length_range]; exact lenLim_ge hw)
  have e : enc w (fsw m i j) = enc w (upd (upd m i (m j)) j (m i)) := enc_congr fun k c ζ ζ => by
    unfold fsw upd
    by_cases h1 : k = j
    . rw [if_pos h1]
      by_cases h2 : k = i
      . rw [if_pos h2, ← h1, ← h2, if_pos rfl]
      . rw [if_neg h2, if_pos h1]
    . rw [if_neg h1, if_neg h1]
      by_cases h2 : k = i
      . rw [if_pos h2, if_pos h2]
      . rw [if_neg h2, if_neg h2]
  rw [e]
  apply evF_ret rfl
  refine st_bnew (eF (eC (eV rfl) eN) (copy_ok (by decide) hw m)) rfl ?_
  refine st_put (ev_sl (eI (eV rfl) (eV rfl) (idxR (by decide) hj)) (sl _)) (eV rfl) (put_enc rfl hi) ?_
  refine st_put (ev_sl (eI (eV rfl) (eV rfl) (idxR (by decide) hi)) (sl _)) (eV rfl) (put_enc rfl hj) ?_
  exact st_retv rfl
theorem scale_ok {K : Nat} (hK : 17 < K) {w : Nat} (hw : w ≤ 1000) {m : Mx} {i : Nat} (hi : i < 3) {k : Rat} {a b : Nat} (hab : a + b ≤ 7999) (hk : Bd a k) (hm : BV b w (m i)) : T9 K 17 [enc w m, .int (i : Int), fq k] = some (.ret (enc w (upd m i fun c => k * m i c)) 1) := by
  rw [t9 f9_17 rfl rfl (by decide) hK]
  apply evF_ret rfl
  refine st_bnew (eF (eC (eV rfl) eN) (copy_ok (by decide) hw m)) rfl ?_
  refine st_put (r := (rwD w fun c => k * m i c, 1)) (compL (f := fun c => fq (m i c)) (eI (eV rfl) (eV rfl) (idxR (by decide) hi)) hw fun c hc => ⟨0, eF (eC (eV rfl) (eC (eV rfl) eN)) (fmul_ok (by decide) hab hk (hm c hc))⟩) (eV rfl) (put_enc rfl hi) ?_
  exact st_retv rfl
theorem rowadd_ok {K : Nat} (hK : 18 < K) {w : Nat} (hw : w ≤ 1000) {m : Mx} {i j : Nat} (hi : i < 3) (hj : j < 3) {k : Rat} {a b d : Nat} (hab : b + (a + d) + 1 ≤ 7999) (hk : Bd a k) (hmi : BV b w (m i)) (hmj : BV d w (m j)) :
    T9 K 18 [enc w m, .int (i : Int), .int (j : Int), fq k] = some (.ret (enc w (upd m i fun c => m i c + k * m j c)) 1) := by
  rw [t9 f9_18 rfl rfl (by decide) hK]
  apply evF_ret rfl
  refine st_bnew (eF (eC (eV rfl) eN) (copy_ok (by decide) hw m)) rfl ?_
  refine st_put (r := (rwD w fun c => m i c + k * m j c, 1)) (compR (n := w) (ev_blt (eI (eV rfl) (eV rfl) (idxR (by decide) hi)) (lenR hw)) hw fun c hc => ⟨0, ?_⟩) (eV rfl) (put_enc rfl hi) (st_retv rfl)
  exact eF (eC (eI (eI (eV rfl) (eV rfl) (idxR (by decide) hi)) (eV rfl) (idxR hw hc)) (eC (eF (eC (eV rfl) (eC (eI (eI (eV rfl) (eV rfl) (idxR (by decide) hj)) (eV rfl) (idxR hw hc)) eN)) (fmul_ok (by decide) (by omega) hk (hmj c hc))) eN)) (fadd_ok (by decide) hab (hmi c hc) (hk.mul (hmj c hc)))
end Mine
end
section
set_option maxRecDepth 100000
namespace Mine
open PySem
theorem fq_inj {a b : Rat} (h : fq a = fq b) : a = b := by
  simp only [fq, PyData.tuple.injEq, List.cons.injEq, PyData.int.injEq, and_true] at h
  exact Rat.ext h.1 (by exact_mod_cast h.2)
theorem eqv_fq (a b : Rat) : PyData.eqv (fq a) (fq b) = decide (a = b) := by
  have e : PyData.eqv (fq a) (fq b) = (PyData.eqv (.int a.num) (.int b.num) && (PyData.eqv (.int (a.den : Int)) (.int (b.den : Int)) && true)) := by
    simp only [fq, PyData.eqv, PyData.eqvAll]
  rw [e, eqv_int, eqv_int, Bool.and_true]
  apply Bool.eq_iff_iff.mpr
  simp only [Bool.and_eq_true, decide_eq_true_eq]
  constructor
  . rintro ⟨h1, h2⟩; exact Rat.ext h1 (by exact_mod_cast h2)
  . rintro rfl; exact ⟨rfl, rfl⟩
theorem cmp_ne_fq (a b : Rat) : cmpD .ne (fq a) (fq b) = some (!decide (a = b)) := congrArg (fun x => some (!x)) (eqv_fq a b)
theorem cmp_ne_fq0 (a : Rat) : cmpD .ne (fq a) (.tuple [.int 0, .int 1]) = some (!decide (a = 0)) := fq0 ▸ cmp_ne_fq a 0
theorem cmp_eq_nat (a b : Nat) : cmpD .eq (.int (a : Int)) (.int (b : Int)) = some (decide (a = b)) := (cmp_eq_int _ _).trans (congrArg some (decide_eq_decide.mpr Int.ofNat_inj))
theorem cmp_ne_nat (a b : Nat) : cmpD .ne (.int (a : Int)) (.int (b : Int)) = some (!decide (a = b)) := (cmp_ne_int _ _).trans (congrArg (fun x => some (!x)) (decide_eq_decide.mpr Int.ofNat_inj))
section
variable {Φ : Funs} {γ : Env'} {a b : PT}
theorem ev_and {r : Option Bool} (h : evT Φ γ a = some true) (h2 : evT Φ γ b = r) : evT Φ γ (.and a b) = r := bnd h h2
theorem ev_andF (h : evT Φ γ a = some false) : evT Φ γ (.and a b) = some false := bnd h rfl
theorem ev_and1 {q : Bool} (h : evT Φ γ a = some q) : evT Φ γ (.and a .tt) = some q := bnd h (by cases q <;> rfl)
end
theorem not_dec {p : Prop} [Decidable p] (h : p) : (!decide p) = false := by rw [decide_eq_true h]; rfl
theorem not_dec' {p : Prop} [Decidable p] (h : ¬ p) : (!decide p) = true := by rw [decide_eq_false h]; rfl
noncomputable def fint : Option Nat -> Int
  | some f => f
  | none => -1
theorem range_two (s d : Nat) : rangeL (s : Int) ((s + d : Nat) : Int) = (List.range' s d).map fun (k : Nat) => PyData.int (k : Int) := by
  unfold rangeL
  rw [List.range'_eq_map_range, List.map_map]
  have : (((s + d : Nat) : Int) - (s : Int)).toNat = d := by first | assumption | decide | exact Nat.le_of_lt ‹_› | exact Nat.le_trans ‹_› (by decide) | exact Nat.lt_of_lt_of_le ‹_› (by decide) | omega
  rw [this]
  apply List.map_congr_left
  intro k _
  simp
theorem at_enc {w : Nat} {m : Mx} {i c : Nat} (hw : w ≤ 1000) (hi : i < 3) (hc : c < w) : idxD (enc w m) (.int (i : Int)) = some (rwD w (m i), 0) ∧ idxD (rwD w (m i)) (.int (c : Int)) = some (fq (m i c), 0) := ⟨idxR (by decide) hi, idxR hw hc⟩
noncomputable def pvBody : PSs := (.cons (.ite (.cmp .ne (.idx (.idx (.var 0) (.var 4)) (.var 1)) (.var 3)) (.cons (.ret (.var 4))
  .nil) .nil)
  .nil)
theorem pivot_loop {Φ : Funs} {fu : Nat} {tp : Bool} {w : Nat} (hw : w ≤ 1000) {m : Mx} {c : Nat} (hc : c < w) (st : PyData) : ∀ (d s : Nat) (sl : Slot), s + d ≤ 3 ->
    ∃ sl', forL (fun g => evSs Φ fu tp g pvBody) [4] ((List.range' s d).map fun (k : Nat) => PyData.int (k : Int)) [.pl (enc w m), .pl (.int (c : Int)), .pl st, .pl (fq 0), sl] =
      some (match ffirst m c s d with | some f => (.ret (.int (f : Int)) 0) | none => .next, [.pl (enc w m), .pl (.int (c : Int)), .pl st, .pl (fq 0), sl'])
  | 0, s, sl, _ => ⟨sl, rfl⟩
  | d + 1, s, sl, hs => by
    obtain ⟨x1, x2⟩ := at_enc (m := m) hw (show s < 3 by first | assumption | decide | exact Nat.le_of_lt ‹_› | exact Nat.le_trans ‹_› (by decide) | exact Nat.lt_of_lt_of_le ‹_› (by decide) | omega) hc
    have t : evT Φ [.pl (enc w m), .pl (.int (c : Int)), .pl st, .pl (fq 0), .pl (.int (s : Int))] (.cmp .ne (.idx (.idx (.var 0) (.var 4)) (.var 1)) (.var 3)) = some (!decide (m s c = 0)) :=
      eK (eI (eI (eV rfl) (eV rfl) x1) (eV rfl) x2) (eV rfl) (cmp_ne_fq _ _)
    rw [List.range'_succ, List.map_cons]
    unfold ffirst
    by_cases h0 : m s c = 0
    . rw [if_pos h0]
      rw [decide_eq_true h0] at t
      obtain ⟨sl', e⟩ := pivot_loop hw hc st d (s + 1) (.pl (.int (s : Int))) (by first | assumption | decide | exact Nat.le_of_lt ‹_› | exact Nat.le_trans ‹_› (by decide) | exact Nat.lt_of_lt_of_le ‹_› (by decide) | omega)
      exact ⟨sl', fl_cons (st_else t st_nil) e⟩
    . rw [if_neg h0]
      rw [decide_eq_false h0] at t
      exact ⟨_, fl_ret (st_trueX t (st_ret (eV rfl)) nofun)⟩
theorem pivot_ok {K : Nat} (hK : 1 < K) {w : Nat} (hw : w ≤ 1000) (m : Mx) {c s : Nat} (hc : c < w) (hs : s ≤ 3) : T9 K 1 [enc w m, .int (c : Int), .int (s : Int), fq 0] = some (.ret (.int (fint (ffirst m c s (3 - s)))) 0) := by
  rw [t9 f9_1 rfl rfl (by decide) hK]
  have hs3 : s + (3 - s) = 3 := by first | assumption | decide | exact Nat.le_of_lt ‹_› | exact Nat.le_trans ‹_› (by decide) | exact Nat.lt_of_lt_of_le ‹_› (by decide) | omega
  have r2 := ev_r2 (Φ := T9 1) (γ := [.pl (enc w m), .pl (.int (c : Int)), .pl (.int (s : Int)), .pl (fq 0), .un]) (eV (i := 2) rfl) (ev_blt (eV (i := 0) rfl) (lenR (n := 3) (by decide))) (okR_small (by first | assumption | decide | exact Nat.le_of_lt ‹_› | exact Nat.le_trans ‹_› (by decide) | exact Nat.lt_of_lt_of_le ‹_› (by decide) | omega) (by decide)) (by exact lenLim_ge (by first | assumption | decide | exact Nat.le_of_lt ‹_› | exact Nat.le_trans ‹_› (by decide) | exact Nat.lt_of_lt_of_le ‹_› (by decide) | omega))
  have r3 : rangeL (s : Int) ((3 : Nat) : Int) = (List.range' s (3 - s)).map fun (k : Nat) => PyData.int (k : Int) := by have := range_two s (3 - s); rw [hs3] at this; exact this
  rw [r3] at r2
  obtain ⟨sl', e⟩ := pivot_loop (Φ := T9 1) (fu := 40000) (tp := false) hw (m := m) hc (.int (s : Int)) (3 - s) s .un (by first | assumption | decide | exact Nat.le_of_lt ‹_› | exact Nat.le_trans ‹_› (by decide) | exact Nat.lt_of_lt_of_le ‹_› (by decide) | omega)
  apply evF_ret rfl
  cases hf : ffirst m c s (3 - s) with
  | some f =>
    rw [hf] at e
    exact st_forX r2 e nofun
  | none =>
    rw [hf] at e
    exact st_for r2 e (st_ret (ev_neg vL))
noncomputable def mid (g : Mx) (t c k : Nat) : Mx := fun i j => if i = t then g t j / g t c else if i < k then g i j - g i c * (g t j / g t c) else g i j
theorem mid3 {w : Nat} {g : Mx} {t c : Nat} : enc w (mid g t c 3) = enc w (clr g t c) := enc_congr fun i j hi ζ => by
  unfold mid clr
  rw [if_pos hi]
noncomputable def rdInner : PSs := (.cons (.ite (.and (.cmp .ne (.var 7) (.var 4)) (.and (.cmp .ne (.idx (.idx (.var 2) (.var 7)) (.var 5)) (.tup (.cons (.lit (.int 0)) (.cons (.lit (.int 1)) .nil)))) .tt)) (.cons (.asg 2 (.call 18 (.cons (.var 2) (.cons (.var 7) (.cons (.var 4) (.cons (.call 5 (.cons (.idx (.idx (.var 2) (.var 7)) (.var 5)) .nil)) .nil))))))
  .nil) .nil)
  .nil)
noncomputable def rdEn (w : Nat) (M : PyData) (n : PyData) (m : Mx) (pv : List Nat) (t : Nat) (s5 s6 s7 : Slot) : Env' := [.pl M, .pl n, .pl (enc w m), .b1 (pv.map fun (p : Nat) => PyData.int (p : Int)), .pl (.int (t : Int)), s5, s6, s7]
theorem inner_turn {w : Nat} (hw : w ≤ 1000) {M n : PyData} {g : Mx} {pv : List Nat} {t c i : Nat} {s6 : Slot} (ht : t < 3) (hc : c < w) (hi : i < 3) (hp : g t c ≠ 0) {B : Nat} (hB : 4 * B + 1 ≤ 7999) (hg : BM B w g) :
    evSs (T9 19) 40000 false (rdEn w M n (mid g t c i) pv t (.pl (.int (c : Int))) s6 (.pl (.int (i : Int)))) rdInner = some (.next, rdEn w M n (mid g t c (i + 1)) pv t (.pl (.int (c : Int))) s6 (.pl (.int (i : Int)))) := by
  have skip : (i = t ∨ g i c = 0) -> enc w (mid g t c (i + 1)) = enc w (mid g t c i) := fun h => enc_congr fun r j ζ ζ => by
    unfold mid
    by_cases hr : r = t
    . rw [if_pos hr, if_pos hr]
    . rw [if_neg hr, if_neg hr]
      by_cases hri : r = i
      . subst hri
        rw [if_pos (Nat.lt_succ_self _), if_neg (Nat.lt_irrefl _)]
        rcases h with h | h
        . exact (hr h).elim
        . rw [h]; grind
      . by_cases h2 : r < i
        . rw [if_pos (Nat.lt_succ_of_lt h2), if_pos h2]
        . rw [if_neg (by first | assumption | decide | exact Nat.le_of_lt ‹_› | exact Nat.le_trans ‹_› (by decide) | exact Nat.lt_of_lt_of_le ‹_› (by decide) | omega), if_neg h2]
  obtain ⟨x1, x2⟩ := at_enc (m := mid g t c i) hw hi hc
  by_cases hit : i = t
  . rw [show rdEn w M n (mid g t c (i + 1)) pv t (.pl (.int (c : Int))) s6 (.pl (.int (i : Int))) = rdEn w M n (mid g t c i) pv t (.pl (.int (c : Int))) s6 (.pl (.int (i : Int))) by unfold rdEn; rw [skip (.inl hit)]]
    refine st_else (bnd (eK (eV rfl) (eV rfl) (cmp_ne_nat i t)) ?_) st_nil
    rw [decide_eq_true hit]; rfl
  . have gi : mid g t c i i c = g i c := by unfold mid; rw [if_neg hit, if_neg (Nat.lt_irrefl _)]
    have t1 : ∀ q : Bool, decide (g i c = 0) = q -> evT (T9 19) (rdEn w M n (mid g t c i) pv t (.pl (.int (c : Int))) s6 (.pl (.int (i : Int)))) (.and (.cmp .ne (.var 7) (.var 4)) (.and (.cmp .ne (.idx (.idx (.var 2) (.var 7)) (.var 5)) (.tup (.cons (.lit (.int 0)) (.cons (.lit (.int 1)) .nil)))) .tt)) = some (!q) := fun q hq => by
      have q1 := eK (Φ := T9 19) (γ := rdEn w M n (mid g t c i) pv t (.pl (.int (c : Int))) s6 (.pl (.int (i : Int)))) (eV (i := 7) rfl) (eV (i := 4) rfl) (cmp_ne_nat i t)
      rw [not_dec' hit] at q1
      have q2 := eK (Φ := T9 19) (γ := rdEn w M n (mid g t c i) pv t (.pl (.int (c : Int))) s6 (.pl (.int (i : Int)))) (eI (eI (eV (i := 2) rfl) (eV (i := 7) rfl) x1) (eV (i := 5) rfl) x2) (ev_tup (eC vL (eC vL eN))) (cmp_ne_fq0 _)
      rw [gi, hq] at q2
      exact ev_and q1 (ev_and1 q2)
    by_cases h0 : g i c = 0
    . rw [show rdEn w M n (mid g t c (i + 1)) pv t (.pl (.int (c : Int))) s6 (.pl (.int (i : Int))) = rdEn w M n (mid g t c i) pv t (.pl (.int (c : Int))) s6 (.pl (.int (i : Int))) by unfold rdEn; rw [skip (.inr h0)]]
      exact st_else (t1 true (decide_eq_true h0)) st_nil
    . have ng := fneg_ok (K := 19) (by decide) (g i c)
      have bi : BV B w (mid g t c i i) := fun j hj => by unfold mid; rw [if_neg hit, if_neg (Nat.lt_irrefl _)]; exact hg i hi j hj
      have bt : BV (B + B) w (mid g t c i t) := fun j hj => by unfold mid; rw [if_pos rfl]; exact (hg t ht j hj).div hp (hg t ht c hc)
      have ra := rowadd_ok (K := 19) (by decide) hw (m := mid g t c i) hi ht (k := -g i c) (by first | assumption | decide | exact Nat.le_of_lt ‹_› | exact Nat.le_trans ‹_› (by decide) | exact Nat.lt_of_lt_of_le ‹_› (by decide) | omega) (hg i hi c hc).neg bi bt
      have e : enc w (upd (mid g t c i) i fun j => mid g t c i i j + -g i c * mid g t c i t j) = enc w (mid g t c (i + 1)) := enc_congr fun r j ζ ζ => by
        unfold upd
        by_cases hr : r = i
        . rw [if_pos hr, hr]
          unfold mid
          rw [if_neg hit, if_neg (Nat.lt_irrefl _), if_pos rfl, if_neg hit, if_pos (Nat.lt_succ_self _)]
          grind
        . rw [if_neg hr]
          unfold mid
          by_cases h2 : r < i
          . rw [if_pos h2, if_pos (Nat.lt_succ_of_lt h2)]
          . rw [if_neg h2, if_neg (show ¬ r < i + 1 by first | assumption | decide | exact Nat.le_of_lt ‹_› | exact Nat.le_trans ‹_› (by decide) | exact Nat.lt_of_lt_of_le ‹_› (by decide) | omega)]
      rw [e] at ra
      refine st_true (t1 false (decide_eq_false h0)) (st_asg (eF (eC (eV rfl) (eC (eV rfl) (eC (eV rfl) (eC (eF (eC (eI (eI (eV rfl) (eV rfl) x1) (eV rfl) (gi ▸ x2)) eN) ng) eN)))) ra) st_nil) st_nil
end Mine
end
section
set_option maxRecDepth 100000
namespace Mine
open PySem
theorem fsw_bd {B w : Nat} {m : Mx} {a b : Nat} (ha : a < 3) (hb : b < 3) (h : BM B w m) : BM B w (fsw m a b) := fun i hi c hc => by
  unfold fsw
  by_cases h1 : i = a
  . rw [if_pos h1]; exact h b hb c hc
  . rw [if_neg h1]
    by_cases h2 : i = b
    . rw [if_pos h2]; exact h a ha c hc
    . rw [if_neg h2]; exact h i hi c hc
theorem clr_bd {B w : Nat} {g : Mx} {t c : Nat} (ht : t < 3) (hc : c < w) (hp : g t c ≠ 0) (h : BM B w g) : BM (4 * B + 1) w (clr g t c) := fun i hi j hj => by
  have bt := (h t ht j hj).div hp (h t ht c hc)
  unfold clr
  by_cases h1 : i = t
  . rw [if_pos h1]; exact bt.mono (by omega)
  . rw [if_neg h1, show g i j - g i c * (g t j / g t c) = g i j + -g i c * (g t j / g t c) by grind]
    exact ((h i hi j hj).add ((h i hi c hc).neg.mul bt)).mono (by omega)
noncomputable def rdBody : PSs := (.cons (.asg 6 (.call 1 (.cons (.var 2) (.cons (.var 5) (.cons (.var 4) (.cons (.tup (.cons (.lit (.int 0)) (.cons (.lit (.int 1)) .nil))) .nil))))))
  (.cons (.ite (.cmp .eq (.var 6) (.neg (.lit (.int 1)))) (.cons .cont
  .nil) .nil)
  (.cons (.ite (.cmp .ne (.var 6) (.var 4)) (.cons (.asg 2 (.call 16 (.cons (.var 2) (.cons (.var 4) (.cons (.var 6) .nil)))))
  .nil) .nil)
  (.cons (.asg 2 (.call 17 (.cons (.var 2) (.cons (.var 4) (.cons (.call 8 (.cons (.tup (.cons (.lit (.int 1)) (.cons (.lit (.int 1)) .nil))) (.cons (.idx (.idx (.var 2) (.var 4)) (.var 5)) .nil))) .nil)))))
  (.cons (.for_ [7] (.r1 (.blt .len (.var 2))) (.cons (.ite (.and (.cmp .ne (.var 7) (.var 4)) (.and (.cmp .ne (.idx (.idx (.var 2) (.var 7)) (.var 5)) (.tup (.cons (.lit (.int 0)) (.cons (.lit (.int 1)) .nil)))) .tt)) (.cons (.asg 2 (.call 18 (.cons (.var 2) (.cons (.var 7) (.cons (.var 4) (.cons (.call 5 (.cons (.idx (.idx (.var 2) (.var 7)) (.var 5)) .nil)) .nil))))))
  .nil) .nil)
  .nil))
  (.cons (.app 3 (.var 5))
  (.cons (.asg 4 (.bin .add (.var 4) (.lit (.int 1))))
  .nil)))))))
theorem red_turn {w : Nat} (hw : w ≤ 1000) {M n : PyData} {s : RS} {c : Nat} {s6 s7 : Slot} (ht : s.pv.length ≤ 3) (hc : c < w) {B : Nat} (hB : s.pv.length < 3 -> 4 * B + 1 ≤ 7999) (hm : BM B w s.m) :
    ∃ fl s6' s7', evSs (T9 19) 40000 false (rdEn w M n s.m s.pv s.pv.length (.pl (.int (c : Int))) s6 s7) rdBody = some (fl, rdEn w M n (redS c s).m (redS c s).pv (redS c s).pv.length (.pl (.int (c : Int))) s6' s7') ∧ (fl = .next ∨ fl = .cont) ∧
      ((redS c s).pv.length = s.pv.length ∧ BM B w (redS c s).m ∨ s.pv.length < 3 ∧ (redS c s).pv.length = s.pv.length + 1 ∧ BM (4 * B + 1) w (redS c s).m) := by
  have p := pivot_ok (K := 19) (by decide) hw s.m hc ht
  unfold redS
  cases hf : ffirst s.m c s.pv.length (3 - s.pv.length) with
  | none =>
    rw [hf] at p
    refine ⟨.cont, .pl (.int (-1)), s7, st_asg (eF (eC (eV rfl) (eC (eV rfl) (eC (eV rfl) (eC (ev_tup (eC vL (eC vL eN))) eN)))) p) (st_trueX (eK (eV rfl) (ev_neg vL) ((cmp_eq_int (-1) (-1)).trans rfl)) st_cont nofun), .inr rfl, .inl ⟨rfl, hm⟩⟩
  | some f =>
    rw [hf] at p
    obtain ⟨f1, f2, f3⟩ := ffirst_some hf
    have htl : s.pv.length < 3 := by omega
    have hfl : f < 3 := by omega
    have hB4 := hB htl
    clear hB
    generalize hte : s.pv.length = t at *
    have hg := fsw_bd htl hfl hm
    have gp : fsw s.m t f t c ≠ 0 := by
      have : fsw s.m t f t c = s.m f c := by unfold fsw; rw [if_pos rfl]
      rw [this]; exact f3
    have sc := scale_ok (K := 19) (by decide) hw (m := fsw s.m t f) htl (k := 1 / fsw s.m t f t c) (a := 1 + B) (b := B) (by omega) ((show Bd 1 1 from ⟨by decide, by decide⟩).div gp (hg t htl c hc)) (hg t htl)
    have fd := fdiv_ok (K := 19) (by decide) (a := 1) (i := 1) (j := B) (by omega) gp ⟨by decide, by decide⟩ (hg t htl c hc)
    have e0 : enc w (upd (fsw s.m t f) t fun j => 1 / fsw s.m t f t c * fsw s.m t f t j) = enc w (mid (fsw s.m t f) t c 0) := enc_congr fun r j ζ ζ => by
      unfold upd mid
      by_cases h1 : r = t
      . rw [if_pos h1, if_pos h1]; grind
      . rw [if_neg h1, if_neg h1, if_neg (Nat.not_lt_zero _)]
    rw [e0] at sc
    obtain ⟨x1, x2⟩ := at_enc (m := fsw s.m t f) hw htl hc
    -- behind the swap
    have rest : ∃ s7', evSs (T9 19) 40000 false (rdEn w M n (fsw s.m t f) s.pv t (.pl (.int (c : Int))) (.pl (.int (f : Int))) s7) (.cons (.asg 2 (.call 17 (.cons (.var 2) (.cons (.var 4) (.cons (.call 8 (.cons (.tup (.cons (.lit (.int 1)) (.cons (.lit (.int 1)) .nil))) (.cons (.idx (.idx (.var 2) (.var 4)) (.var 5)) .nil))) .nil)))))
        (.cons (.for_ [7] (.r1 (.blt .len (.var 2))) rdInner) (.cons (.app 3 (.var 5)) (.cons (.asg 4 (.bin .add (.var 4) (.lit (.int 1)))) .nil)))) =
        some (.next, rdEn w M n (clr (fsw s.m t f) t c) (s.pv ++ [c]) (t + 1) (.pl (.int (c : Int))) (.pl (.int (f : Int))) s7') := by
      refine ⟨.pl (.int 2), ?_⟩
      refine st_asg (eF (eC (eV rfl) (eC (eV rfl) (eC (eF (eC (ev_tup (eC vL (eC vL eN))) (eC (eI (eI (eV rfl) (eV rfl) x1) (eV rfl) x2) eN)) fd) eN))) sc) ?_
      refine st_for (γ' := rdEn w M n (mid (fsw s.m t f) t c 3) s.pv t (.pl (.int (c : Int))) (.pl (.int (f : Int))) (.pl (.int 2))) ((ev_r1 (ev_blt (eV rfl) (lenR (n := 3) (by decide))) (okR_nat (n := 3) (by decide))).trans (congrArg some (range_map 3))) ?_ ?_
      . exact fl_cons (inner_turn hw htl hc (i := 0) (by decide) gp hB4 hg) (fl_cons (inner_turn hw htl hc (i := 1) (by decide) gp hB4 hg) (fl_cons (inner_turn hw htl hc (i := 2) (by decide) gp hB4 hg) fl_nil))
      . have ea : (s.pv.map fun (p : Nat) => PyData.int (p : Int)) ++ [.int (c : Int)] = (s.pv ++ [c]).map fun (p : Nat) => PyData.int (p : Int) := by rw [List.map_append]; rfl
        refine st_app (r := (.int (c : Int), 0)) (eV rfl) (app_b1 (ds := s.pv.map fun (p : Nat) => PyData.int (p : Int)) rfl (by rw [List.length_map, hte]; exact lenLim_ge (by omega))) (st_asg (d := .int ((t + 1 : Nat) : Int)) (eB (eV rfl) vL rfl) ?_)
        rw [ea]
        show some (Flw.next, rdEn w M n (mid (fsw s.m t f) t c 3) (s.pv ++ [c]) (t + 1) _ _ _) = _
        unfold rdEn
        rw [mid3]
    obtain ⟨s7', rest⟩ := rest
    refine ⟨.next, .pl (.int (f : Int)), s7', ?_, .inl rfl, .inr ⟨htl, by rw [List.length_append, hte]; rfl, clr_bd htl hc gp hg⟩⟩
    refine st_asg (eF (eC (eV rfl) (eC (eV rfl) (eC (eV rfl) (eC (ev_tup (eC vL (eC vL eN))) eN)))) p) ?_
    refine st_else (eK (eV rfl) (ev_neg vL) ((cmp_eq_int (f : Int) (-1)).trans (congrArg some (decide_eq_false (by omega))))) ?_
    rw [show (s.pv ++ [c]).length = t + 1 by rw [List.length_append, hte]; rfl]
    by_cases hft : f = t
    . refine st_else ((eK (eV rfl) (eV rfl) (cmp_ne_nat f t)).trans (congrArg some (not_dec hft))) ?_
      have e1 : enc w s.m = enc w (fsw s.m t f) := enc_congr fun r j ζ ζ => by
        unfold fsw
        by_cases h1 : r = t
        . rw [if_pos h1, hft, h1]
        . rw [if_neg h1, if_neg (hft ▸ h1)]
      show evSs _ _ _ [.pl M, .pl n, .pl (enc w s.m), _, _, _, _, _] _ = _
      rw [e1]
      exact rest
    . have sw := swap_ok (K := 19) (by decide) hw s.m htl hfl
      exact st_true ((eK (eV rfl) (eV rfl) (cmp_ne_nat f t)).trans (congrArg some (not_dec' hft))) (st_asg (eF (eC (eV rfl) (eC (eV rfl) (eC (eV rfl) eN))) sw) st_nil) rest
noncomputable def bb (B : Nat) : Nat -> Nat
  | 0 => B
  | p + 1 => 4 * bb B p + 1
theorem bb_le (B p : Nat) (hp : p < 3) : 4 * bb B p + 1 ≤ 64 * B + 21 := by
  have : p = 0 ∨ p = 1 ∨ p = 2 := by omega
  rcases this with rfl | rfl | rfl <;> simp only [bb] <;> omega
theorem bb_le3 (B p : Nat) (hp : p ≤ 3) : bb B p ≤ 64 * B + 21 := by
  have : p = 0 ∨ p = 1 ∨ p = 2 ∨ p = 3 := by omega
  rcases this with rfl | rfl | rfl | rfl <;> simp only [bb] <;> omega
theorem red_loop {w : Nat} (hw : w ≤ 1000) {M n : PyData} {B : Nat} (hB : 64 * B + 21 ≤ 7999) : ∀ (k c : Nat) (s : RS) (s5 s6 s7 : Slot), c + k ≤ w -> s.pv.length ≤ 3 -> BM (bb B s.pv.length) w s.m ->
    ∃ s5' s6' s7', forL (fun g => evSs (T9 19) 40000 false g rdBody) [5] ((List.range' c k).map fun (k : Nat) => PyData.int (k : Int)) (rdEn w M n s.m s.pv s.pv.length s5 s6 s7) =
      some (.next, rdEn w M n (redR (List.range' c k) s).m (redR (List.range' c k) s).pv (redR (List.range' c k) s).pv.length s5' s6' s7') ∧ (redR (List.range' c k) s).pv.length ≤ 3 ∧ BM (bb B (redR (List.range' c k) s).pv.length) w (redR (List.range' c k) s).m
  | 0, c, s, s5, s6, s7, _, h1, h2 => ⟨s5, s6, s7, rfl, h1, h2⟩
  | k + 1, c, s, s5, s6, s7, hk, h1, h2 => by
    obtain ⟨fl, t6, t7, e, hfl, hb⟩ := red_turn hw (M := M) (n := n) (s := s) (c := c) (s6 := s6) (s7 := s7) h1 (by omega) (fun h => Nat.le_trans (bb_le B _ h) hB) h2
    have hs : (redS c s).pv.length ≤ 3 ∧ BM (bb B (redS c s).pv.length) w (redS c s).m := by
      rcases hb with ⟨a, b⟩ | ⟨a, b, d⟩
      . rw [a]; exact ⟨h1, b⟩
      . rw [b]; exact ⟨a, d⟩
    obtain ⟨u5, u6, u7, e', q⟩ := red_loop hw hB k (c + 1) (redS c s) (.pl (.int (c : Int))) t6 t7 (by omega) hs.1 hs.2
    rw [List.range'_succ, List.map_cons]
    refine ⟨u5, u6, u7, ?_, q⟩
    rcases hfl with rfl | rfl
    . exact fl_cons e e'
    . exact fl_cont e e'
noncomputable def redF (n : Nat) (M : Mx) : RS := redR (List.range' 0 n) ⟨M, []⟩
noncomputable def pvD (pv : List Nat) : PyData := .list (pv.map fun (p : Nat) => PyData.int (p : Int))
theorem reduced_ok {K : Nat} (hK : 19 < K) {w n : Nat} (hw : w ≤ 1000) (hn : n ≤ w) {M : Mx} {B : Nat} (hB : 64 * B + 21 ≤ 7999) (hM : BM B w M) :
    T9 K 19 [enc w M, .int (n : Int)] = some (.ret (.tuple [enc w (redF n M).m, pvD (redF n M).pv]) 0) ∧ BM (64 * B + 21) w (redF n M).m := by
  obtain ⟨s5, s6, s7, e, q1, q2⟩ := red_loop hw (M := enc w M) (n := .int (n : Int)) hB n 0 ⟨M, []⟩ .un .un .un (by omega) (Nat.zero_le _) hM
  refine ⟨?_, fun i hi c hc => (q2 i hi c hc).mono (bb_le3 B _ q1)⟩
  rw [t9 f9_19 rfl rfl (by decide) hK]
  apply evF_ret rfl
  refine st_asg (eF (eC (eV rfl) eN) (copy_ok (by decide) hw M)) ?_
  refine st_bnew (ev_lst eN) rfl ?_
  refine st_asg vL ?_
  refine st_for ((ev_r1 (eV rfl) (okR_nat (Nat.le_trans hn hw))).trans (congrArg some ((range_map n).trans (by rw [List.range_eq_range'])))) e ?_
  refine st_frz ?_
  exact st_ret (ev_tup (eC (eV rfl) (eC (eV rfl) eN)))
end Mine
end
section
set_option maxRecDepth 100000
namespace Mine
open PySem
theorem fsub_ok {K : Nat} (hK : 6 < K) {a b : Rat} {i j : Nat} (hij : i + j + 1 ≤ 7999) (ha : Bd i a) (hb : Bd j b) : T9 K 6 [fq a, fq b] = some (.ret (fq (a - b)) 0) := by
  rw [t9 f9_6 rfl rfl (by decide) hK, Rat.sub_eq_add_neg]
  have h1 := fneg_ok (K := 6) (by decide) b
  have h2 := fadd_ok (K := 6) (by decide) hij ha hb.neg
  exact evF_ret rfl (st_ret (eF (eC (eV rfl) (eC (eF (eC (eV rfl) eN) h1) eN)) h2))
theorem strI_len_le (i : Int) : (strI i).length ≤ (strI (i.natAbs : Int)).length + 1 := by
  cases i with
  | ofNat n => exact Nat.le_succ _
  | negSucc n =>
    have e : (strI (Int.negSucc n)).length = (Nat.toDigits 10 (n + 1)).length + 1 := by
      unfold strI
      rw [Str.ofString_eq_toList]
      show ((toString (Int.negSucc n)).toList.map Char.toNat).toArray.size = _
      have : toString (Int.negSucc n) = "-" ++ (n + 1).repr := rfl
      rw [this, String.toList_append, Nat.toList_repr]
      simp
    rw [e, show (Int.negSucc n).natAbs = n + 1 from rfl, strI_len]
    exact Nat.le_refl _
theorem strI_small {i : Int} {k : Nat} (hk : 0 < k) (h : i.natAbs < 2 ^ k) : (strI i).length ≤ k + 1 := by
  have h1 := strI_len_le i
  have h2 := len_le (n := i.natAbs) hk (Nat.lt_of_lt_of_le h (Nat.pow_le_pow_left (by decide) _))
  omega
noncomputable def txt (a : Rat) : Str := if a.den = 1 then strI a.num else strI a.num ++ ("/" : Str) ++ strI (a.den : Int)
theorem app_len (a b : Str) : (a ++ b).length = a.length + b.length := by
  show (a.cps ++ b.cps).size = _
  rw [Array.size_append]; rfl
theorem cat_ok {a b : Str} (h : a.length + b.length ≤ 1000) : binD .add (.str a) (.str b) = some (.str (a ++ b), 0) := by
  exact if_pos (Nat.le_trans h (by unfold lenLim; decide))
theorem ev_txt {Φ : Funs} {γ : Env'} {i : Nat} {a : Rat} (ha : Bd 100 a) (h : γ[i]? = some (.pl (fq a))) :
    evT Φ γ (.cmp .eq (.idx (.var i) (.lit (.int 1))) (.lit (.int 1))) = some (decide (a.den = 1)) ∧ evE Φ γ (.blt .str (.idx (.var i) (.lit (.int 0)))) = some (.str (strI a.num), 0) ∧
    evE Φ γ (.bin .add (.bin .add (.blt .str (.idx (.var i) (.lit (.int 0)))) (.lit (.str ("/" : Str)))) (.blt .str (.idx (.var i) (.lit (.int 1))))) = some (.str (strI a.num ++ ("/" : Str) ++ strI (a.den : Int)), 0) := by
  have s1 := str_int (a := a.num) (p_lim (by decide) ha.1)
  have s2 := str_int (a := (a.den : Int)) (by rw [Int.natAbs_natCast]; exact p_lim (by decide) ha.2)
  have l1 := strI_small (i := a.num) (k := 100) (by decide) ha.1
  have l2 := strI_small (i := (a.den : Int)) (k := 100) (by decide) (by rw [Int.natAbs_natCast]; exact ha.2)
  have ls : (("/" : Str)).length = 1 := by decide
  refine ⟨(eK (eI (eV h) vL (idx1 a)) vL (cmp_eq_int _ _)).trans (congrArg some (decide_eq_decide.mpr ?_)), ev_blt (eI (eV h) vL (idx0 a)) s1, ?_⟩
  . show ((a.den : Int) = ((1 : Nat) : Int)) ↔ _
    exact Int.ofNat_inj
  . exact eB (eB (ev_blt (eI (eV h) vL (idx0 a)) s1) vL (cat_ok (by first | assumption | decide | exact Nat.le_of_lt ‹_› | exact Nat.le_trans ‹_› (by decide) | exact Nat.lt_of_lt_of_le ‹_› (by decide) | omega))) (ev_blt (eI (eV h) vL (idx1 a)) s2) (cat_ok (by rw [app_len]; omega))
theorem ftext_ok {K : Nat} (hK : 9 < K) {a : Rat} (ha : Bd 100 a) : T9 K 9 [fq a] = some (.ret (.str (txt a)) 0) := by
  rw [t9 f9_9 rfl rfl (by decide) hK]
  obtain ⟨h1, h2, h3⟩ := ev_txt (Φ := T9 9) (γ := [.pl (fq a)]) (i := 0) ha rfl
  apply evF_ret rfl
  by_cases h : a.den = 1
  . rw [txt, if_pos h]
    rw [decide_eq_true h] at h1
    exact st_trueX h1 (st_ret h2) nofun
  . rw [txt, if_neg h]
    rw [decide_eq_false h] at h1
    exact st_else h1 (st_ret h3)
noncomputable def wBody : PSs := (.cons (.ite (.cmp .eq (.var 3) (.lit (.int 0))) (.cons .brk
  .nil) .nil)
  (.cons (.asgN [2, 3] (.tup (.cons (.var 3) (.cons (.bin .mod (.var 2) (.var 3)) .nil))))
  .nil))
section
variable {Φ : Funs} {fu : Nat} {tp : Bool}
theorem wl_next {t : Env' -> Option Bool} {body : Env' -> Option (Flw × Env')} {n : Nat} {γ γ₁ : Env'} {res : Flw × Env'} (ht : t γ = some true) (h : body γ = some (.next, γ₁)) (hr : whileL t body n γ₁ = some res) : whileL t body (n + 1) γ = some res := by
  exact (show ((t γ).bind fun c => if c then _ else _) = _ from bnd ht (bnd h hr))
theorem wl_brk {t : Env' -> Option Bool} {body : Env' -> Option (Flw × Env')} {n : Nat} {γ γ₁ : Env'} (ht : t γ = some true) (h : body γ = some (.brk, γ₁)) : whileL t body (n + 1) γ = some (.next, γ₁) := by
  exact (show ((t γ).bind fun c => if c then _ else _) = _ from bnd ht (bnd h rfl))
theorem w_turn {N D : PyData} {a b : Int} (h0 : b ≠ 0) (hb : b.natAbs < lim) : evSs Φ fu tp [.pl N, .pl D, .pl (.int a), .pl (.int b)] wBody = some (.next, [.pl N, .pl D, .pl (.int b), .pl (.int (a.fmod b))]) :=
  st_else ((eK (eV rfl) vL (cmp_eq_int b 0)).trans (congrArg some (decide_eq_false h0))) (st_asgN (ev_tup (eC (eV rfl) (eC (eB (eV rfl) (eV rfl) (mod_int h0 hb)) eN))) rfl st_nil)
theorem w_loop {N D : PyData} {s : Int} (hs : s = 1 ∨ s = -1) : ∀ (n A B k : Nat), B ≤ A -> A * B < 2 ^ k -> k ≤ n -> B < lim ->
    whileL (fun g => evT Φ g .tt) (fun g => evSs Φ fu tp g wBody) (n + 1) [.pl N, .pl D, .pl (.int (s * A)), .pl (.int (s * B))] = some (.next, [.pl N, .pl D, .pl (.int (s * (Nat.gcd A B : Nat))), .pl (.int 0)]) := by
  intro n
  have s0 : s ≠ 0 := by first | assumption | decide | exact Nat.le_of_lt ‹_› | exact Nat.le_trans ‹_› (by decide) | exact Nat.lt_of_lt_of_le ‹_› (by decide) | omega
  have key : ∀ n A B, B = 0 -> whileL (fun g => evT Φ g .tt) (fun g => evSs Φ fu tp g wBody) (n + 1) [.pl N, .pl D, .pl (.int (s * (A : Nat))), .pl (.int (s * (B : Nat)))] = some (.next, [.pl N, .pl D, .pl (.int (s * (Nat.gcd A B : Nat))), .pl (.int 0)]) := fun n A B hB => by
    subst hB
    rw [Nat.gcd_zero_right, show s * ((0 : Nat) : Int) = 0 from Int.mul_zero s]
    exact wl_brk rfl (st_trueX (eK (eV rfl) vL ((cmp_eq_int 0 0).trans rfl)) (ss_stop rfl nofun) nofun)
  induction n with
  | zero =>
    intro A B k h1 h2 h3 h4
    refine key 0 A B ?_
    obtain rfl : k = 0 := by first | assumption | decide | exact Nat.le_of_lt ‹_› | exact Nat.le_trans ‹_› (by decide) | exact Nat.lt_of_lt_of_le ‹_› (by decide) | omega
    have : A * B = 0 := by first | assumption | decide | exact Nat.le_of_lt ‹_› | exact Nat.le_trans ‹_› (by decide) | exact Nat.lt_of_lt_of_le ‹_› (by decide) | omega
    rcases Nat.mul_eq_zero.mp this with z | z
    . omega
    . exact z
  | succ n ih =>
    intro A B k h1 h2 h3 h4
    by_cases hB : B = 0
    . exact key _ A B hB
    . have hp : 0 < B := Nat.pos_of_ne_zero hB
      have hm := Nat.mod_lt A hp
      have h5 : 2 * (A % B) ≤ A := by
        have h6 := Nat.div_add_mod A B
        have h7 : 1 ≤ A / B := Nat.div_pos h1 hp
        have h8 : B * 1 ≤ B * (A / B) := Nat.mul_le_mul_left _ h7
        omega
      cases k with
      | zero =>
        have : 0 < A * B := Nat.mul_pos (by first | assumption | decide | exact Nat.le_of_lt ‹_› | exact Nat.le_trans ‹_› (by decide) | exact Nat.lt_of_lt_of_le ‹_› (by decide) | omega) hp
        rw [Nat.pow_zero] at h2
        omega
      | succ k =>
        have h9 : B * (A % B) < 2 ^ k := by
          have h10 : B * (2 * (A % B)) ≤ B * A := Nat.mul_le_mul_left _ h5
          have h11 : B * (2 * (A % B)) = 2 * (B * (A % B)) := by rw [Nat.mul_left_comm]
          rw [Nat.mul_comm B A] at h10
          rw [Nat.pow_succ] at h2
          omega
        have em : (s * (A : Int)).fmod (s * (B : Int)) = s * ((A % B : Nat) : Int) := by
          have e1 : (A : Int).fmod (B : Int) = ((A % B : Nat) : Int) := by rw [Int.fmod_eq_emod_of_nonneg _ (by first | assumption | decide | exact Nat.le_of_lt ‹_› | exact Nat.le_trans ‹_› (by decide) | exact Nat.lt_of_lt_of_le ‹_› (by decide) | omega)]; rfl
          rcases hs with rfl | rfl
          . rw [Int.one_mul, Int.one_mul, Int.one_mul, e1]
          . rw [Int.neg_one_mul, Int.neg_one_mul, Int.neg_one_mul, Int.neg_fmod_neg, e1]
        have hn : s * (B : Int) ≠ 0 := Int.mul_ne_zero s0 (by first | assumption | decide | exact Nat.le_of_lt ‹_› | exact Nat.le_trans ‹_› (by decide) | exact Nat.lt_of_lt_of_le ‹_› (by decide) | omega)
        have hl : (s * (B : Int)).natAbs < lim := by
          rw [Int.natAbs_mul, Int.natAbs_natCast]
          rcases hs with rfl | rfl
          . simpa using h4
          . simpa using h4
        have hg : Nat.gcd A B = Nat.gcd B (A % B) := by rw [Nat.gcd_comm A B, Nat.gcd_rec B A, Nat.gcd_comm]
        rw [hg]
        have t := w_turn (Φ := Φ) (fu := fu) (tp := tp) (N := N) (D := D) (a := s * A) hn hl
        rw [em] at t
        exact wl_next rfl t (ih B (A % B) k (Nat.le_of_lt hm) h9 (by first | assumption | decide | exact Nat.le_of_lt ‹_› | exact Nat.le_trans ‹_› (by decide) | exact Nat.lt_of_lt_of_le ‹_› (by decide) | omega) (Nat.lt_trans hm h4))
end
theorem low_ok {K : Nat} (hK : 24 < K) {n d : Int} (h0 : d ≠ 0) (hd : d.natAbs < 2 ^ 7999) : T9 K 24 [.int n, .int d] = some (.ret (fq (Rat.divInt n d)) 0) := by
  rw [t9 f9_24 rfl rfl (by decide) hK]
  have hdl := lim_gt hd
  obtain ⟨s, hs, hsd⟩ : ∃ s : Int, (s = 1 ∨ s = -1) ∧ d = s * (d.natAbs : Int) := by
    by_cases hp : 0 ≤ d
    . exact ⟨1, .inl rfl, by first | assumption | decide | exact Nat.le_of_lt ‹_› | exact Nat.le_trans ‹_› (by decide) | exact Nat.lt_of_lt_of_le ‹_› (by decide) | omega⟩
    . exact ⟨-1, .inr rfl, by first | assumption | decide | exact Nat.le_of_lt ‹_› | exact Nat.le_trans ‹_› (by decide) | exact Nat.lt_of_lt_of_le ‹_› (by decide) | omega⟩
  have h1 : 0 < d.natAbs := by first | assumption | decide | exact Nat.le_of_lt ‹_› | exact Nat.le_trans ‹_› (by decide) | exact Nat.lt_of_lt_of_le ‹_› (by decide) | omega
  obtain ⟨r, hr, hrl⟩ : ∃ r : Nat, n.fmod d = s * (r : Int) ∧ r < d.natAbs := by
    have hp : (0 : Int) < (d.natAbs : Int) := by first | assumption | decide | exact Nat.le_of_lt ‹_› | exact Nat.le_trans ‹_› (by decide) | exact Nat.lt_of_lt_of_le ‹_› (by decide) | omega
    rcases hs with rfl | rfl
    . rw [Int.one_mul] at hsd
      have a1 := Int.fmod_nonneg_of_pos n hp
      have a2 := Int.fmod_lt_of_pos n hp
      refine ⟨(n.fmod (d.natAbs : Int)).toNat, ?_, by first | assumption | decide | exact Nat.le_of_lt ‹_› | exact Nat.le_trans ‹_› (by decide) | exact Nat.lt_of_lt_of_le ‹_› (by decide) | omega⟩
      rw [hsd, Int.natAbs_natCast]; omega
    . rw [Int.neg_one_mul] at hsd
      have a1 := Int.fmod_nonneg_of_pos (-n) hp
      have a2 := Int.fmod_lt_of_pos (-n) hp
      refine ⟨((-n).fmod (d.natAbs : Int)).toNat, ?_, by first | assumption | decide | exact Nat.le_of_lt ‹_› | exact Nat.le_trans ‹_› (by decide) | exact Nat.lt_of_lt_of_le ‹_› (by decide) | omega⟩
      have a3 : n.fmod d = -((-n).fmod (d.natAbs : Int)) := by
        have a4 := Int.neg_fmod_neg (-n) (d.natAbs : Int)
        rw [Int.neg_neg, ← hsd] at a4
        exact a4
      rw [a3]; omega
  have w2 := w_loop (Φ := T9 24) (fu := 40000) (tp := false) (N := .int n) (D := .int d) hs 39998 d.natAbs r 15998 (Nat.le_of_lt hrl) (by
    have := mul_lt hd (Nat.lt_trans hrl hd)
    exact Nat.lt_of_lt_of_le this (Nat.pow_le_pow_right (by decide) (by decide))) (by decide) (Nat.lt_trans hrl hdl)
  have t := w_turn (Φ := T9 24) (fu := 40000) (tp := false) (N := .int n) (D := .int d) (a := n) h0 hdl
  rw [← hsd, ← hr] at w2
  have hgn : Nat.gcd d.natAbs r = Int.gcd n d := by
    have e1 : Int.gcd d (n.fmod d) = Int.gcd d n := by rw [Int.fmod_def, Int.gcd_sub_mul_left_right]
    rw [Int.gcd_comm n d, ← e1, hr]
    show _ = Nat.gcd d.natAbs (s * (r : Int)).natAbs
    rw [Int.natAbs_mul, Int.natAbs_natCast]
    rcases hs with rfl | rfl
    . rw [show (1 : Int).natAbs = 1 from rfl, Nat.one_mul]
    . rw [show (-1 : Int).natAbs = 1 from rfl, Nat.one_mul]
  rw [hgn] at w2
  have g0 : (Int.gcd n d : Nat) ≠ 0 := fun z => h0 (Int.gcd_eq_zero_iff.mp z).2
  have gl : (s * ((Int.gcd n d : Nat) : Int)).natAbs < lim := by
    have : Int.gcd n d ≤ d.natAbs := Nat.le_of_dvd h1 (Nat.gcd_dvd_right n.natAbs d.natAbs)
    rw [Int.natAbs_mul, Int.natAbs_natCast]
    rcases hs with rfl | rfl
    . simpa using Nat.lt_of_le_of_lt this hdl
    . simpa using Nat.lt_of_le_of_lt this hdl
  have gz : s * ((Int.gcd n d : Nat) : Int) ≠ 0 := Int.mul_ne_zero (by first | assumption | decide | exact Nat.le_of_lt ‹_› | exact Nat.le_trans ‹_› (by decide) | exact Nat.lt_of_lt_of_le ‹_› (by decide) | omega) (by first | assumption | decide | exact Nat.le_of_lt ‹_› | exact Nat.le_trans ‹_› (by decide) | exact Nat.lt_of_lt_of_le ‹_› (by decide) | omega)
  rw [fq_divInt h0]
  have e2 : ∀ x : Int, (if d < 0 then -x else x).fdiv ((Int.gcd (if d < 0 then -n else n) (if d < 0 then -d else d) : Nat) : Int) = x.fdiv (s * ((Int.gcd n d : Nat) : Int)) := fun x => by
    by_cases hn : d < 0
    . have : s = -1 := hs.resolve_left fun z => by rw [z, Int.one_mul] at hsd; omega
      subst this
      rw [if_pos hn, if_pos hn, if_pos hn, Int.neg_one_mul, ← Int.neg_fdiv_neg x, Int.neg_neg, Int.gcd_neg, Int.neg_gcd]
    . have : s = 1 := hs.resolve_right fun z => by rw [z, Int.neg_one_mul] at hsd; omega
      subst this
      rw [if_neg hn, if_neg hn, if_neg hn, Int.one_mul]
  rw [e2 n, e2 d]
  apply evF_ret rfl
  refine st_asg (eV rfl) (st_asg (eV rfl) (ss_next (γ' := [.pl (.int n), .pl (.int d), .pl (.int (s * ((Int.gcd n d : Nat) : Int))), .pl (.int 0)]) (wl_next rfl t w2) ?_))
  exact st_ret (ev_tup (eC (eB (eV rfl) (eV rfl) (fdiv_int gz gl)) (eC (eB (eV rfl) (eV rfl) (fdiv_int gz gl)) eN)))
end Mine
end
section
set_option maxRecDepth 100000
namespace Mine
open PySem
noncomputable abbrev pr (a b : Int) : PyData := .tuple [.int a, .int b]
theorem idxp0 (a b : Int) : idxD (pr a b) (.int 0) = some (.int a, 0) := rfl
theorem idxp1 (a b : Int) : idxD (pr a b) (.int 1) = some (.int b, 0) := rfl
theorem ilim {k : Nat} {a : Int} (hk : k ≤ 7999) (h : a.natAbs < 2 ^ k) : a.natAbs < lim := p_lim hk h
theorem mulk {i j : Nat} {a b : Int} (hi : i ≤ 7999) (hj : j ≤ 7999) (ha : a.natAbs < 2 ^ i) (hb : b.natAbs < 2 ^ j) : binD .mul (.int a) (.int b) = some (.int (a * b), 0) := mul_int (ilim hi ha) (ilim hj hb)
theorem fl2_cons {body : Env' -> Option (Flw × Env')} {i j : Nat} {d e : PyData} {ds : List PyData} {γ γ₁ : Env'} {res : Flw × Env'} (h : body ((γ.set i (.pl d)).set j (.pl e)) = some (.next, γ₁)) (hr : forL body [i, j] ds γ₁ = some res) : forL body [i, j] (.tuple [d, e] :: ds) γ = some res := bnd rfl (bnd h hr)
noncomputable def smBody : PSs := (.cons (.asgN [3, 4] (.tup (.cons (.bin .add (.bin .mul (.var 3) (.idx (.var 6) (.lit (.int 1)))) (.bin .mul (.bin .mul (.var 5) (.idx (.var 6) (.lit (.int 0)))) (.var 4))) (.cons (.bin .mul (.var 4) (.idx (.var 6) (.lit (.int 1)))) .nil))))
  .nil)
theorem sum_turn {Φ : Funs} {fu : Nat} {tp : Bool} {U V D : PyData} {n m u p q : Int} {a b c k : Nat} (ha : a ≤ 7999) (hb : b ≤ 7999) (hc : c + k ≤ 7999) (hn : n.natAbs < 2 ^ a) (hm : m.natAbs < 2 ^ b) (hu : u.natAbs < 2 ^ c) (hp : p.natAbs < 2 ^ k) (hq : q.natAbs < 2 ^ k) :
    evSs Φ fu tp [.pl U, .pl V, .pl D, .pl (.int n), .pl (.int m), .pl (.int u), .pl (pr p q)] smBody = some (.next, [.pl U, .pl V, .pl D, .pl (.int (n * q + u * p * m)), .pl (.int (m * q)), .pl (.int u), .pl (pr p q)]) :=
  st_asgN (ev_tup (eC (eB (eB (eV rfl) (eI (eV rfl) vL (idxp1 p q)) (mulk (by omega) (by omega) hn hq)) (eB (eB (eV rfl) (eI (eV rfl) vL (idxp0 p q)) (mulk (by omega) (by omega) hu hp)) (eV rfl) (mulk (by omega) (by omega) (imul_lt hu hp) hm)) rfl)
    (eC (eB (eV rfl) (eI (eV rfl) vL (idxp1 p q)) (mulk (by omega) (by omega) hm hq)) eN))) rfl st_nil
theorem divInt_div (a b : Int) : Rat.divInt a b = (a : Rat) / (b : Rat) := Rat.divInt_eq_div a b
theorem sum_id {A B C D u0 u1 u2 p0 p1 p2 : Rat} (a : A ≠ 0) (b : B ≠ 0) (c : C ≠ 0) (d : D ≠ 0) : ((u0 * p0 * B + u1 * p1 * A) * C + u2 * p2 * (A * B)) / (A * B * C * D) = (u0 * (p0 / A) + u1 * (p1 / B) + u2 * (p2 / C)) / D := by grind
noncomputable def sm3 (u : Nat -> Int) (r : Nat -> Rat) (d : Int) : Rat := ((u 0 : Rat) * r 0 + (u 1 : Rat) * r 1 + (u 2 : Rat) * r 2) / (d : Rat)
theorem sum_ok {K : Nat} (hK : 25 < K) {u p q : Nat -> Int} {d : Int} {c k e : Nat} (h : 3 * k + c + 3 ≤ 7999) (he : 3 * k + e ≤ 7999) (hu : ∀ j, j < 3 -> (u j).natAbs < 2 ^ c) (hp : ∀ j, j < 3 -> (p j).natAbs < 2 ^ k ∧ (q j).natAbs < 2 ^ k ∧ q j ≠ 0) (hd : d.natAbs < 2 ^ e) (hd0 : d ≠ 0) :
    T9 K 25 [tab 3 fun j => .int (u j), tab 3 fun j => pr (p j) (q j), .int d] = some (.ret (fq (sm3 u (fun j => Rat.divInt (p j) (q j)) d)) 0) := by
  rw [t9 f9_25 rfl rfl (by decide) hK]
  obtain ⟨p0, q0, z0⟩ := hp 0 (by decide)
  obtain ⟨p1, q1, z1⟩ := hp 1 (by decide)
  obtain ⟨p2, q2, z2⟩ := hp 2 (by decide)
  have u0 := hu 0 (by decide)
  have u1 := hu 1 (by decide)
  have u2 := hu 2 (by decide)
  have n1 : (0 * q 0 + u 0 * p 0 * 1).natAbs < 2 ^ (c + k) := by rw [Int.zero_mul, Int.zero_add, Int.mul_one]; exact imul_lt u0 p0
  have m1 : (1 * q 0).natAbs < 2 ^ k := by rw [Int.one_mul]; exact q0
  have n2 : ((0 * q 0 + u 0 * p 0 * 1) * q 1 + u 1 * p 1 * (1 * q 0)).natAbs < 2 ^ (c + k + k + 1) := iadd_lt (imul_lt n1 q1) (imul_lt (imul_lt u1 p1) m1)
  have m2 : (1 * q 0 * q 1).natAbs < 2 ^ (k + k) := imul_lt m1 q1
  have n3 : (((0 * q 0 + u 0 * p 0 * 1) * q 1 + u 1 * p 1 * (1 * q 0)) * q 2 + u 2 * p 2 * (1 * q 0 * q 1)).natAbs < 2 ^ (c + k + k + 1 + k + 1) := iadd_lt (imul_lt n2 q2) (up_lt (imul_lt (imul_lt u2 p2) m2) (by omega))
  have m3 : (1 * q 0 * q 1 * q 2).natAbs < 2 ^ (k + k + k) := imul_lt m2 q2
  have m4 : (1 * q 0 * q 1 * q 2 * d).natAbs < 2 ^ 7999 := up_lt (imul_lt m3 hd) (by omega)
  have z3 : 1 * q 0 * q 1 * q 2 * d ≠ 0 := Int.mul_ne_zero (Int.mul_ne_zero (Int.mul_ne_zero (by rw [Int.one_mul]; exact z0) z1) z2) hd0
  have lo := low_ok (K := 25) (by decide) (n := ((0 * q 0 + u 0 * p 0 * 1) * q 1 + u 1 * p 1 * (1 * q 0)) * q 2 + u 2 * p 2 * (1 * q 0 * q 1)) z3 m4
  have ev : Rat.divInt (((0 * q 0 + u 0 * p 0 * 1) * q 1 + u 1 * p 1 * (1 * q 0)) * q 2 + u 2 * p 2 * (1 * q 0 * q 1)) (1 * q 0 * q 1 * q 2 * d) = sm3 u (fun j => Rat.divInt (p j) (q j)) d := by
    unfold sm3
    dsimp only
    rw [divInt_div, divInt_div, divInt_div, divInt_div]
    simp only [Rat.intCast_add, Rat.intCast_mul, Int.zero_mul, Int.zero_add, Int.mul_one, Int.one_mul]
    exact sum_id (fun z => z0 (Rat.intCast_inj.mp z)) (fun z => z1 (Rat.intCast_inj.mp z)) (fun z => z2 (Rat.intCast_inj.mp z)) (fun z => hd0 (Rat.intCast_inj.mp z))
  rw [ev] at lo
  apply evF_ret rfl
  refine st_asg vL (st_asg vL ?_)
  refine st_for (γ' := [.pl (tab 3 fun j => .int (u j)), .pl (tab 3 fun j => pr (p j) (q j)), .pl (.int d), .pl (.int (((0 * q 0 + u 0 * p 0 * 1) * q 1 + u 1 * p 1 * (1 * q 0)) * q 2 + u 2 * p 2 * (1 * q 0 * q 1))), .pl (.int (1 * q 0 * q 1 * q 2)), .pl (.int (u 2)), .pl (pr (p 2) (q 2))])
    (ev_zip (eV rfl) (eV rfl) (by decide)) ?_ ?_
  . exact fl2_cons (sum_turn (a := 0) (b := 1) (by decide) (by decide) (by omega) (by decide) (by decide) u0 p0 q0) (fl2_cons (sum_turn (by omega) (by omega) (by omega) n1 m1 u1 p1 q1) (fl2_cons (sum_turn (by omega) (by omega) (by omega) n2 m2 u2 p2 q2) fl_nil))
  . exact st_ret (eF (eC (eV rfl) (eC (eB (eV rfl) (eV rfl) (mulk (by omega) (by omega) m3 hd)) eN)) lo)
end Mine
end
section
set_option maxRecDepth 100000
namespace Mine
open PySem
noncomputable def encI (P : Nat -> Nat -> Int) : PyData := tab 3 fun i => tab 3 fun j => .int (P i j)
noncomputable def castM (P : Nat -> Nat -> Int) : Mx := fun i j => ((P i j : Int) : Rat)
theorem fq_int (n : Int) : fq (n : Rat) = pr n 1 := rfl
theorem fints_ok {K : Nat} (hK : 10 < K) (P : Nat -> Nat -> Int) : T9 K 10 [encI P] = some (.ret (enc 3 (castM P)) 1) := by
  rw [t9 f9_10 rfl rfl (by decide) hK]
  exact evF_ret rfl (st_ret (compL (f := fun i => tab 3 fun j => .int (P i j)) (eV rfl) (by decide) fun i ζ => ⟨1, compL (f := fun j => .int (P i j)) (eV rfl) (by decide) fun j ζ => ⟨0, ev_tup (eC (eV rfl) (eC vL eN))⟩⟩))
noncomputable def nx (j : Nat) : Nat := (j + 1) % 3
noncomputable def ny (j : Nat) : Nat := (j + 2) % 3
theorem nx_lt (j : Nat) : nx j < 3 := Nat.mod_lt _ (by decide)
theorem ny_lt (j : Nat) : ny j < 3 := Nat.mod_lt _ (by decide)
theorem idx_nx {c : Nat} (h : c < 3) : idxD (.tuple [.int 1, .int 2, .int 0]) (.int (c : Int)) = some (.int (nx c : Nat), 0) := by rcases lt3 h with rfl | rfl | rfl <;> rfl
theorem idx_ny {c : Nat} (h : c < 3) : idxD (.tuple [.int 2, .int 0, .int 1]) (.int (c : Int)) = some (.int (ny c : Nat), 0) := by rcases lt3 h with rfl | rfl | rfl <;> rfl
noncomputable def adjI (P : Nat -> Nat -> Int) (j k : Nat) : Int := P (nx k) (nx j) * P (ny k) (ny j) - P (nx k) (ny j) * P (ny k) (nx j)
noncomputable def BI (c : Nat) (P : Nat -> Nat -> Int) : Prop := ∀ i j, i < 3 -> j < 3 -> (P i j).natAbs < 2 ^ c
theorem ev_lit3 {Φ : Funs} {γ : Env'} : evE Φ γ (.lit (.int 3)) = some (.int ((3 : Nat) : Int), 0) := rfl
theorem adj_ok {K : Nat} (hK : 26 < K) {P : Nat -> Nat -> Int} {c : Nat} (hc : c ≤ 7999) (hP : BI c P) : T9 K 26 [encI P] = some (.ret (encI (adjI P)) 1) := by
  rw [t9 f9_26 rfl rfl (by decide) hK]
  apply evF_ret rfl
  refine st_asg (ev_tup (eC vL (eC vL (eC vL eN)))) (st_asg (ev_tup (eC vL (eC vL (eC vL eN)))) ?_)
  refine st_ret (compR (n := 3) ev_lit3 (by decide) fun j hj => ⟨1, compR (n := 3) ev_lit3 (by decide) fun k hk => ⟨0, ?_⟩⟩)
  have rowI : ∀ i : Nat, i < 3 -> idxD (encI P) (.int (i : Int)) = some (tab 3 fun j => .int (P i j), 0) := fun i hi => idxR (by decide) hi
  have atI : ∀ i j : Nat, j < 3 -> idxD (tab 3 fun j => .int (P i j)) (.int (j : Int)) = some (.int (P i j), 0) := fun i j hj => idxR (by decide) hj
  refine eB (eB (eI (eI (eV rfl) (eI (eV rfl) (eV rfl) (idx_nx hk)) (rowI _ (nx_lt k))) (eI (eV rfl) (eV rfl) (idx_nx hj)) (atI _ _ (nx_lt j))) (eI (eI (eV rfl) (eI (eV rfl) (eV rfl) (idx_ny hk)) (rowI _ (ny_lt k))) (eI (eV rfl) (eV rfl) (idx_ny hj)) (atI _ _ (ny_lt j))) (mulk hc hc (hP _ _ (nx_lt k) (nx_lt j)) (hP _ _ (ny_lt k) (ny_lt j))))
    (eB (eI (eI (eV rfl) (eI (eV rfl) (eV rfl) (idx_nx hk)) (rowI _ (nx_lt k))) (eI (eV rfl) (eV rfl) (idx_ny hj)) (atI _ _ (ny_lt j))) (eI (eI (eV rfl) (eI (eV rfl) (eV rfl) (idx_ny hk)) (rowI _ (ny_lt k))) (eI (eV rfl) (eV rfl) (idx_nx hj)) (atI _ _ (nx_lt j))) (mulk hc hc (hP _ _ (nx_lt k) (ny_lt j)) (hP _ _ (ny_lt k) (nx_lt j)))) rfl
noncomputable def encP (p q : Nat -> Int) : PyData := tab 3 fun j => pr (p j) (q j)
noncomputable def BP (k : Nat) (p q : Nat -> Int) : Prop := ∀ j, j < 3 -> (p j).natAbs < 2 ^ k ∧ (q j).natAbs < 2 ^ k ∧ q j ≠ 0
noncomputable def val (p q : Nat -> Int) : Nat -> Rat := fun j => Rat.divInt (p j) (q j)
noncomputable def dueM (P A : Nat -> Nat -> Int) (d : Int) (r : Nat -> Rat) : Mx := fun i k => sm3 (fun j => P i j * A j k) r d
noncomputable def dueX (P : Nat -> Nat -> Int) (r : Nat -> Rat) : Nat -> Rat := fun i => sm3 (fun j => P i j) r 1
section
variable {P A : Nat -> Nat -> Int} {d : Int} {p q p' q' : Nat -> Int} {a b k e : Nat}
noncomputable def duIn : PSs := (.cons (.app 8 (.call 25 (.cons (.comp (.bin .mul (.idx (.var 8) (.var 0)) (.idx (.idx (.var 2) (.var 0)) (.var 10))) 1 (.r1 (.lit (.int 3))) .tt) (.cons (.var 3) (.cons (.var 2) .nil)))))
  .nil)
noncomputable def duOut : PSs := (.cons (.bnew 8 (.lst .nil))
  (.cons (.for_ [9] (.r1 (.lit (.int 3))) duIn)
  (.cons (.frz [8])
  (.cons (.app 5 (.var 8))
  (.cons (.app 6 (.call 25 (.cons (.var 7) (.cons (.var 4) (.cons (.lit (.int 1)) .nil)))))
  .nil)))))
theorem due_in (ha : BI a P) (hA : BI b A) (hp : BP k p q) (h : 3 * k + (a + b) + 3 ≤ 7999) (he : 3 * k + e ≤ 7999) (hd : d.natAbs < 2 ^ e) (hd0 : d ≠ 0) {i c : Nat} (hi : i < 3) (hc : c < 3) {T C : PyData} {s5 s6 : Slot} {l : List PyData} (hl : l.length ≤ 10) :
    evSs (T9 27) 40000 false [.pl T, .pl (encI A), .pl (.int d), .pl (encP p q), .pl C, s5, s6, .pl (tab 3 fun j => .int (P i j)), .b1 l, .pl (.int (c : Int))] duIn =
      some (.next, [.pl T, .pl (encI A), .pl (.int d), .pl (encP p q), .pl C, s5, s6, .pl (tab 3 fun j => .int (P i j)), .b1 (l ++ [fq (dueM P A d (val p q) i c)]), .pl (.int (c : Int))]) := by
  refine st_app (eF (eC (compR (g := fun j => .int (P i j * A j c)) (n := 3) ev_lit3 (by decide) fun j hj => ⟨0, ?_⟩) (eC (eV rfl) (eC (eV rfl) eN))) (sum_ok (by decide) (c := a + b) h he (fun j hj => imul_lt (ha i j hi hj) (hA j c hj hc)) hp hd hd0)) (app_b1 rfl (lenLim_ge (Nat.le_trans hl (by decide)))) st_nil
  exact eB (eI (eV rfl) (eV rfl) (idxR (by decide) hj)) (eI (eI (eV rfl) (eV rfl) (idxR (n := 3) (f := fun i => tab 3 fun j => .int (A i j)) (by decide) hj)) (eV rfl) (idxR (by decide) hc)) (mulk (by omega) (by omega) (ha i j hi hj) (hA j c hj hc))
theorem due_out (ha : BI a P) (hA : BI b A) (hp : BP k p q) (hp' : BP k p' q') (h : 3 * k + (a + b) + 3 ≤ 7999) (he : 3 * k + e ≤ 7999) (hd : d.natAbs < 2 ^ e) (hd0 : d ≠ 0) {i : Nat} (hi : i < 3) {T : PyData} {s8 s9 : Slot} {l l' : List PyData} (hl : l.length ≤ 10) (hl' : l'.length ≤ 10) :
    ∃ t8 t9, evSs (T9 27) 40000 false [.pl T, .pl (encI A), .pl (.int d), .pl (encP p q), .pl (encP p' q'), .b1 l, .b1 l', .pl (tab 3 fun j => .int (P i j)), s8, s9] duOut =
      some (.next, [.pl T, .pl (encI A), .pl (.int d), .pl (encP p q), .pl (encP p' q'), .b1 (l ++ [rwD 3 (dueM P A d (val p q) i)]), .b1 (l' ++ [fq (dueX P (val p' q') i)]), .pl (tab 3 fun j => .int (P i j)), t8, t9]) := by
  refine ⟨.pl (rwD 3 (dueM P A d (val p q) i)), .pl (.int 2), ?_⟩
  refine st_bnew (ev_lst eN) rfl ?_
  refine st_for (γ' := [.pl T, .pl (encI A), .pl (.int d), .pl (encP p q), .pl (encP p' q'), .b1 l, .b1 l', .pl (tab 3 fun j => .int (P i j)), .b1 [fq (dueM P A d (val p q) i 0), fq (dueM P A d (val p q) i 1), fq (dueM P A d (val p q) i 2)], .pl (.int 2)]) ((ev_r1 ev_lit3 (okR_nat (n := 3) (by decide))).trans (congrArg some (range_map 3))) ?_ ?_
  . exact fl_cons (due_in ha hA hp h he hd hd0 hi (c := 0) (by decide) (l := []) (by decide)) (fl_cons (due_in ha hA hp h he hd hd0 hi (c := 1) (by decide) (l := [_]) (Nat.le_add_left 1 9)) (fl_cons (due_in ha hA hp h he hd hd0 hi (c := 2) (by decide) (l := [_, _]) (Nat.le_add_left 2 8)) fl_nil))
  . refine st_frz (st_app (eV rfl) (app_b1 rfl (lenLim_ge (Nat.le_trans hl (by decide)))) ?_)
    exact st_app (eF (eC (eV rfl) (eC (eV rfl) (eC vL eN))) (sum_ok (by decide) (c := a) (e := 1) (by omega) (by omega) (fun j hj => ha i j hi hj) hp' (by decide) (by decide))) (app_b1 rfl (lenLim_ge (Nat.le_trans hl' (by decide)))) st_nil
theorem due_ok {K : Nat} (hK : 27 < K) (ha : BI a P) (hA : BI b A) (hp : BP k p q) (hp' : BP k p' q') (h : 3 * k + (a + b) + 3 ≤ 7999) (he : 3 * k + e ≤ 7999) (hd : d.natAbs < 2 ^ e) (hd0 : d ≠ 0) :
    T9 K 27 [encI P, encI A, .int d, encP p q, encP p' q'] = some (.ret (.tuple [enc 3 (dueM P A d (val p q)), rwD 3 (dueX P (val p' q'))]) 0) := by
  rw [t9 f9_27 rfl rfl (by decide) hK]
  obtain ⟨t8, t9, e0⟩ := due_out ha hA hp hp' h he hd hd0 (i := 0) (by decide) (T := encI P) (s8 := .un) (s9 := .un) (l := []) (l' := []) (by decide) (by decide)
  obtain ⟨u8, u9, e1⟩ := due_out ha hA hp hp' h he hd hd0 (i := 1) (by decide) (T := encI P) (s8 := t8) (s9 := t9) (l := [rwD 3 (dueM P A d (val p q) 0)]) (l' := [fq (dueX P (val p' q') 0)]) (Nat.le_add_left 1 9) (Nat.le_add_left 1 9)
  obtain ⟨v8, v9, e2⟩ := due_out ha hA hp hp' h he hd hd0 (i := 2) (by decide) (T := encI P) (s8 := u8) (s9 := u9) (l := [rwD 3 (dueM P A d (val p q) 0), rwD 3 (dueM P A d (val p q) 1)]) (l' := [fq (dueX P (val p' q') 0), fq (dueX P (val p' q') 1)]) (Nat.le_add_left 2 8) (Nat.le_add_left 2 8)
  apply evF_ret rfl
  refine st_bnew (ev_lst eN) rfl (st_bnew (ev_lst eN) rfl ?_)
  refine st_for (ev_of (eV rfl) rfl (lenLim_ge (Nat.le_add_left 3 997))) (fl_cons e0 (fl_cons e1 (fl_cons e2 fl_nil))) ?_
  exact st_frz (st_ret (ev_tup (eC (eV rfl) (eC (eV rfl) eN))))
end
noncomputable def lesM (m : Mx) (k : Rat) : Mx := fun i j => m i j - k * (if i = j then 1 else 0)
theorem les_ok {K : Nat} (hK : 28 < K) {m : Mx} {k : Rat} {a b : Nat} (h : a + (b + 1) + 1 ≤ 7999) (hm : BM a 3 m) (hk : Bd b k) : T9 K 28 [enc 3 m, fq k] = some (.ret (enc 3 (lesM m k)) 1) := by
  rw [t9 f9_28 rfl rfl (by decide) hK]
  refine evF_ret rfl (st_ret (compZ (f := fun i => rwD 3 (m i)) (f' := fun i => rwD 3 (fun j => if i = j then 1 else 0)) (eV rfl) (eF (eC vL eN) (ident_ok (by decide))) (by decide) fun i hi => ⟨1, compZ (f := fun j => fq (m i j)) (f' := fun j => fq (if i = j then 1 else 0)) (eV rfl) (eV rfl) (by decide) fun j hj => ⟨0, ?_⟩⟩))
  have b1 : Bd 1 (if i = j then (1 : Rat) else 0) := by
    by_cases e : i = j
    . rw [if_pos e]; exact ⟨by decide, by decide⟩
    . rw [if_neg e]; exact ⟨by decide, by decide⟩
  exact eF (eC (eV rfl) (eC (eF (eC (eV rfl) (eC (eV rfl) eN)) (fmul_ok (by decide) (by omega) hk b1)) eN)) (fsub_ok (by decide) (by omega) (hm i hi j hj) (hk.mul b1))
end Mine
end
section
set_option maxRecDepth 100000
namespace Mine
open PySem
noncomputable def elm (g : Mx) (c k : Nat) : Mx := fun i j => if c < i ∧ i < k then g i j + -(g i c / g c c) * g c j else g i j
theorem elm_bd {B : Nat} {g : Mx} {c k : Nat} (hc : c < 3) (h0 : g c c ≠ 0) (h : BM B 3 g) : BM (4 * B + 1) 3 (elm g c k) := fun i hi j hj => by
  unfold elm
  by_cases e : c < i ∧ i < k
  . rw [if_pos e]
    exact ((h i hi j hj).add ((((h i hi c hc).div h0 (h c hc c hc)).neg).mul (h c hc j hj))).mono (by first | assumption | decide | exact Nat.le_of_lt ‹_› | exact Nat.le_trans ‹_› (by decide) | exact Nat.lt_of_lt_of_le ‹_› (by decide) | omega)
  . rw [if_neg e]; exact (h i hi j hj).mono (by first | assumption | decide | exact Nat.le_of_lt ‹_› | exact Nat.le_trans ‹_› (by decide) | exact Nat.lt_of_lt_of_le ‹_› (by decide) | omega)
noncomputable def deIn : PSs := (.cons (.ite (.cmp .ne (.idx (.idx (.var 2) (.var 6)) (.var 4)) (.tup (.cons (.lit (.int 0)) (.cons (.lit (.int 1)) .nil)))) (.cons (.asg 2 (.call 18 (.cons (.var 2) (.cons (.var 6) (.cons (.var 4) (.cons (.call 5 (.cons (.call 8 (.cons (.idx (.idx (.var 2) (.var 6)) (.var 4)) (.cons (.idx (.idx (.var 2) (.var 4)) (.var 4)) .nil))) .nil)) .nil))))))
  .nil) .nil)
  .nil)
noncomputable def deBody : PSs := (.cons (.asg 5 (.call 1 (.cons (.var 2) (.cons (.var 4) (.cons (.var 4) (.cons (.tup (.cons (.lit (.int 0)) (.cons (.lit (.int 1)) .nil))) .nil))))))
  (.cons (.ite (.cmp .eq (.var 5) (.neg (.lit (.int 1)))) (.cons (.ret (.tup (.cons (.lit (.int 0)) (.cons (.lit (.int 1)) .nil))))
  .nil) .nil)
  (.cons (.ite (.cmp .ne (.var 5) (.var 4)) (.cons (.asg 2 (.call 16 (.cons (.var 2) (.cons (.var 4) (.cons (.var 5) .nil)))))
  (.cons (.asg 3 (.call 5 (.cons (.var 3) .nil)))
  .nil)) .nil)
  (.cons (.for_ [6] (.r2 (.bin .add (.var 4) (.lit (.int 1))) (.var 1)) deIn)
  .nil))))
noncomputable def deE (M : PyData) (a : Mx) (s : Rat) (s4 s5 s6 : Slot) : Env' := [.pl M, .pl (.int 3), .pl (enc 3 a), .pl (fq s), s4, s5, s6, .un]
theorem de_in {M : PyData} {g : Mx} {s : Rat} {c i B : Nat} {s5 : Slot} (hc : c < 3) (hi : i < 3) (hci : c < i) (h0 : g c c ≠ 0) (hB : 4 * B + 1 ≤ 7999) (hg : BM B 3 g) :
    evSs (T9 20) 40000 false (deE M (elm g c i) s (.pl (.int (c : Int))) s5 (.pl (.int (i : Int)))) deIn = some (.next, deE M (elm g c (i + 1)) s (.pl (.int (c : Int))) s5 (.pl (.int (i : Int)))) := by
  have gi : ∀ j, elm g c i i j = g i j := fun j => if_neg fun z => Nat.lt_irrefl _ z.2
  have gc : ∀ j, elm g c i c j = g c j := fun j => if_neg fun z => Nat.lt_irrefl _ z.1
  obtain ⟨x1, x2⟩ := at_enc (m := elm g c i) (w := 3) (by decide) hi hc
  obtain ⟨x3, x4⟩ := at_enc (m := elm g c i) (w := 3) (by decide) hc hc
  rw [gi] at x2
  rw [gc] at x4
  have t1 := eK (Φ := T9 20) (γ := deE M (elm g c i) s (.pl (.int (c : Int))) s5 (.pl (.int (i : Int)))) (eI (eI (eV (i := 2) rfl) (eV (i := 6) rfl) x1) (eV (i := 4) rfl) x2) (ev_tup (eC vL (eC vL eN))) (cmp_ne_fq0 _)
  have up : ∀ r j, elm g c (i + 1) r j = if r = i then g i j + -(g i c / g c c) * g c j else elm g c i r j := fun r j => by
    by_cases hr : r = i
    . subst hr
      rw [if_pos rfl]
      exact if_pos ⟨hci, Nat.lt_succ_self _⟩
    . rw [if_neg hr]
      unfold elm
      by_cases h1 : c < r ∧ r < i
      . rw [if_pos h1, if_pos ⟨h1.1, Nat.lt_succ_of_lt h1.2⟩]
      . rw [if_neg h1, if_neg fun z => h1 ⟨z.1, by first | assumption | decide | exact Nat.le_of_lt ‹_› | exact Nat.le_trans ‹_› (by decide) | exact Nat.lt_of_lt_of_le ‹_› (by decide) | omega⟩]
  by_cases hz : g i c = 0
  . rw [not_dec hz] at t1
    have e : enc 3 (elm g c i) = enc 3 (elm g c (i + 1)) := enc_congr fun r j ζ ζ => by
      rw [up]
      by_cases hr : r = i
      . rw [if_pos hr, hr, gi, hz]; grind
      . rw [if_neg hr]
    refine (st_else t1 st_nil).trans ?_
    unfold deE
    rw [e]
  . rw [not_dec' hz] at t1
    have fd := fdiv_ok (K := 20) (by decide) (by first | assumption | decide | exact Nat.le_of_lt ‹_› | exact Nat.le_trans ‹_› (by decide) | exact Nat.lt_of_lt_of_le ‹_› (by decide) | omega) h0 (hg i hi c hc) (hg c hc c hc)
    have fn := fneg_ok (K := 20) (by decide) (g i c / g c c)
    have ra := rowadd_ok (K := 20) (by decide) (w := 3) (by decide) (m := elm g c i) hi hc (k := -(g i c / g c c)) (b := B) (d := B) (by first | assumption | decide | exact Nat.le_of_lt ‹_› | exact Nat.le_trans ‹_› (by decide) | exact Nat.lt_of_lt_of_le ‹_› (by decide) | omega) ((hg i hi c hc).div h0 (hg c hc c hc)).neg (fun j hj => by rw [gi]; exact hg i hi j hj) (fun j hj => by rw [gc]; exact hg c hc j hj)
    have e : enc 3 (upd (elm g c i) i fun j => elm g c i i j + -(g i c / g c c) * elm g c i c j) = enc 3 (elm g c (i + 1)) := enc_congr fun r j ζ ζ => by
      rw [up]
      unfold upd
      by_cases hr : r = i
      . rw [if_pos hr, if_pos hr, gi, gc]
      . rw [if_neg hr, if_neg hr]
    rw [e] at ra
    exact st_true t1 (st_asg (eF (eC (eV rfl) (eC (eV rfl) (eC (eV rfl) (eC (eF (eC (eF (eC (eI (eI (eV rfl) (eV rfl) x1) (eV rfl) x2) (eC (eI (eI (eV rfl) (eV rfl) x3) (eV rfl) x4) eN)) fd) eN) fn) eN)))) ra) st_nil) st_nil
noncomputable def deS (c : Nat) (a : Mx) (s : Rat) : Option (Mx × Rat) := (ffirst a c c (3 - c)).map fun f => (elm (fsw a c f) c 3, if f = c then s else -s)
theorem fsw_self (m : Mx) (c : Nat) : fsw m c c = m := by
  funext i j
  unfold fsw
  by_cases h : i = c
  . rw [if_pos h, h]
  . rw [if_neg h, if_neg h]
theorem de_turn {M : PyData} {a : Mx} {s : Rat} {c B : Nat} {s5 s6 : Slot} (hc : c < 3) (hB : 4 * B + 1 ≤ 7999) (hg : BM B 3 a) :
    match deS c a s with
    | none => ∃ γ', evSs (T9 20) 40000 false (deE M a s (.pl (.int (c : Int))) s5 s6) deBody = some (.ret (fq 0) 0, γ')
    | some r => BM (4 * B + 1) 3 r.1 ∧ ∃ t5 t6, evSs (T9 20) 40000 false (deE M a s (.pl (.int (c : Int))) s5 s6) deBody = some (.next, deE M r.1 r.2 (.pl (.int (c : Int))) t5 t6) := by
  have p := pivot_ok (K := 20) (by decide) (w := 3) (by decide) a hc (Nat.le_of_lt hc)
  unfold deS
  cases hf : ffirst a c c (3 - c) with
  | none =>
    rw [hf] at p
    exact ⟨_, st_asg (eF (eC (eV rfl) (eC (eV rfl) (eC (eV rfl) (eC (ev_tup (eC vL (eC vL eN))) eN)))) p) (st_trueX (eK (eV rfl) (ev_neg vL) ((cmp_eq_int (-1) (-1)).trans rfl)) (st_ret (ev_tup (eC vL (eC vL eN)))) nofun)⟩
  | some f =>
    rw [hf] at p
    obtain ⟨f1, f2, f3⟩ := ffirst_some hf
    have hfl : f < 3 := by first | assumption | decide | exact Nat.le_of_lt ‹_› | exact Nat.le_trans ‹_› (by decide) | exact Nat.lt_of_lt_of_le ‹_› (by decide) | omega
    have hg' := fsw_bd hc hfl hg
    have gp : fsw a c f c c ≠ 0 := by
      have : fsw a c f c c = a f c := if_pos rfl
      rw [this]; exact f3
    dsimp only [Option.map]
    refine ⟨elm_bd hc gp hg', ?_⟩
    have hs3 : c + 1 + (2 - c) = 3 := by first | assumption | decide | exact Nat.le_of_lt ‹_› | exact Nat.le_trans ‹_› (by decide) | exact Nat.lt_of_lt_of_le ‹_› (by decide) | omega
    have rest : ∀ s : Rat, ∃ t6, evSs (T9 20) 40000 false (deE M (fsw a c f) s (.pl (.int (c : Int))) (.pl (.int (f : Int))) s6) (.cons (.for_ [6] (.r2 (.bin .add (.var 4) (.lit (.int 1))) (.var 1)) deIn) .nil) = some (.next, deE M (elm (fsw a c f) c 3) s (.pl (.int (c : Int))) (.pl (.int (f : Int))) t6) := fun s => by
      have r2 := ev_r2 (Φ := T9 20) (γ := deE M (fsw a c f) s (.pl (.int (c : Int))) (.pl (.int (f : Int))) s6) (i := ((c + 1 : Nat) : Int)) (j := ((3 : Nat) : Int)) (eB (o := .add) (eV (i := 4) rfl) (vL (d := .int 1)) rfl) (eV (i := 1) rfl) (okR_small (by first | assumption | decide | exact Nat.le_of_lt ‹_› | exact Nat.le_trans ‹_› (by decide) | exact Nat.lt_of_lt_of_le ‹_› (by decide) | omega) (by decide)) (by exact lenLim_ge (by first | assumption | decide | exact Nat.le_of_lt ‹_› | exact Nat.le_trans ‹_› (by decide) | exact Nat.lt_of_lt_of_le ‹_› (by decide) | omega))
      have r3 : rangeL ((c + 1 : Nat) : Int) ((3 : Nat) : Int) = (List.range' (c + 1) (2 - c)).map fun (k : Nat) => PyData.int (k : Int) := by have := range_two (c + 1) (2 - c); rw [hs3] at this; exact this
      rw [r3] at r2
      have e0 : deE M (fsw a c f) s (.pl (.int (c : Int))) (.pl (.int (f : Int))) s6 = deE M (elm (fsw a c f) c (c + 1)) s (.pl (.int (c : Int))) (.pl (.int (f : Int))) s6 := by
        have : elm (fsw a c f) c (c + 1) = fsw a c f := by funext i j; exact if_neg fun z => by first | assumption | decide | exact Nat.le_of_lt ‹_› | exact Nat.le_trans ‹_› (by decide) | exact Nat.lt_of_lt_of_le ‹_› (by decide) | omega
        rw [this]
      have f1 : ∀ (i : Nat) (s6 : Slot), i < 3 -> c < i -> ∀ res, forL (fun g => evSs (T9 20) 40000 false g deIn) [6] ((List.range' (i + 1) (2 - i)).map fun (k : Nat) => PyData.int (k : Int)) (deE M (elm (fsw a c f) c (i + 1)) s (.pl (.int (c : Int))) (.pl (.int (f : Int))) (.pl (.int (i : Int)))) = some res ->
          forL (fun g => evSs (T9 20) 40000 false g deIn) [6] ((List.range' i (2 - i + 1)).map fun (k : Nat) => PyData.int (k : Int)) (deE M (elm (fsw a c f) c i) s (.pl (.int (c : Int))) (.pl (.int (f : Int))) s6) = some res := fun i s6 h1 h2 res hr => by
        rw [List.range'_succ, List.map_cons]
        exact fl_cons (de_in hc h1 h2 gp hB hg') hr
      rw [e0] at r2 ⊢
      rcases lt3 hc with rfl | rfl | rfl
      . exact ⟨.pl (.int 2), st_for r2 (f1 1 s6 (by decide) (by decide) _ (f1 2 _ (by decide) (by decide) _ fl_nil)) st_nil⟩
      . exact ⟨.pl (.int 2), st_for r2 (f1 2 s6 (by decide) (by decide) _ fl_nil) st_nil⟩
      . exact ⟨s6, st_for r2 fl_nil st_nil⟩
    have c1 := eK (Φ := T9 20) (γ := deE M a s (.pl (.int (c : Int))) (.pl (.int (f : Int))) s6) (eV (i := 5) rfl) (ev_neg (vL (d := .int 1))) ((cmp_eq_int (f : Int) (-1)).trans (congrArg some (decide_eq_false (by first | assumption | decide | exact Nat.le_of_lt ‹_› | exact Nat.le_trans ‹_› (by decide) | exact Nat.lt_of_lt_of_le ‹_› (by decide) | omega))))
    by_cases hft : f = c
    . rw [if_pos hft]
      obtain ⟨t6, rest⟩ := rest s
      refine ⟨.pl (.int (f : Int)), t6, st_asg (eF (eC (eV rfl) (eC (eV rfl) (eC (eV rfl) (eC (ev_tup (eC vL (eC vL eN))) eN)))) p) (st_else c1 ?_)⟩
      refine st_else ((eK (eV rfl) (eV rfl) (cmp_ne_nat f c)).trans (congrArg some (not_dec hft))) ?_
      have e : deE M a s (.pl (.int (c : Int))) (.pl (.int (f : Int))) s6 = deE M (fsw a c f) s (.pl (.int (c : Int))) (.pl (.int (f : Int))) s6 := by rw [hft, fsw_self]
      rw [← e] at rest
      exact rest
    . rw [if_neg hft]
      obtain ⟨t6, rest⟩ := rest (-s)
      refine ⟨.pl (.int (f : Int)), t6, st_asg (eF (eC (eV rfl) (eC (eV rfl) (eC (eV rfl) (eC (ev_tup (eC vL (eC vL eN))) eN)))) p) (st_else c1 ?_)⟩
      exact st_true ((eK (eV rfl) (eV rfl) (cmp_ne_nat f c)).trans (congrArg some (not_dec' hft))) (st_asg (eF (eC (eV rfl) (eC (eV rfl) (eC (eV rfl) eN))) (swap_ok (by decide) (by decide) a hc hfl)) (st_asg (eF (eC (eV rfl) eN) (fneg_ok (by decide) s)) st_nil)) rest
theorem det_sw (m : Mx) {c f : Nat} (hc : c < 3) (hf : f < 3) (h : c ≠ f) : det3 (fsw m c f) = -det3 m := by
  rcases lt3 hc with rfl | rfl | rfl <;> rcases lt3 hf with rfl | rfl | rfl <;> first | exact (h rfl).elim | (simp [det3, fsw]; grind)
theorem det_elm (g : Mx) {c : Nat} (hc : c < 3) : det3 (elm g c 3) = det3 g := by
  rcases lt3 hc with rfl | rfl | rfl <;> (simp [det3, elm]; try grind)
theorem ffirst_col {m : Mx} {c s : Nat} (hs : s ≤ 3) (h : ffirst m c s (3 - s) = none) : ∀ i, s ≤ i -> i < 3 -> m i c = 0 := fun i h1 h2 => ffirst_none h i h1 (by first | assumption | decide | exact Nat.le_of_lt ‹_› | exact Nat.le_trans ‹_› (by decide) | exact Nat.lt_of_lt_of_le ‹_› (by decide) | omega)
noncomputable def Low (c : Nat) (a : Mx) : Prop := ∀ i j, j < c -> j < i -> i < 3 -> a i j = 0
theorem de_step {c : Nat} {a : Mx} {s : Rat} (hc : c < 3) (hl : Low c a) : match deS c a s with
    | none => det3 a = 0
    | some r => r.2 * det3 r.1 = s * det3 a ∧ Low (c + 1) r.1 ∧ (r.2 = s ∨ r.2 = -s) := by
  unfold deS
  cases hf : ffirst a c c (3 - c) with
  | none =>
    have h := ffirst_col (Nat.le_of_lt hc) hf
    dsimp only [Option.map]
    unfold det3
    rcases lt3 hc with rfl | rfl | rfl
    . rw [h 0 (by decide) (by decide), h 1 (by decide) (by decide), h 2 (by decide) (by decide)]; grind
    . rw [h 1 (by decide) (by decide), h 2 (by decide) (by decide), hl 1 0 (by decide) (by decide) (by decide), hl 2 0 (by decide) (by decide) (by decide)]; grind
    . rw [h 2 (by decide) (by decide), hl 1 0 (by decide) (by decide) (by decide), hl 2 0 (by decide) (by decide) (by decide), hl 2 1 (by decide) (by decide) (by decide)]; grind
  | some f =>
    obtain ⟨f1, f2, f3⟩ := ffirst_some hf
    have hfl : f < 3 := by first | assumption | decide | exact Nat.le_of_lt ‹_› | exact Nat.le_trans ‹_› (by decide) | exact Nat.lt_of_lt_of_le ‹_› (by decide) | omega
    dsimp only [Option.map]
    rw [det_elm _ hc]
    have gp : fsw a c f c c ≠ 0 := by
      have : fsw a c f c c = a f c := if_pos rfl
      rw [this]; exact f3
    have lg : Low c (fsw a c f) := fun i j h1 h2 h3 => by
      unfold fsw
      by_cases e1 : i = c
      . rw [if_pos e1]; exact hl f j h1 (by first | assumption | decide | exact Nat.le_of_lt ‹_› | exact Nat.le_trans ‹_› (by decide) | exact Nat.lt_of_lt_of_le ‹_› (by decide) | omega) hfl
      . rw [if_neg e1]
        by_cases e2 : i = f
        . rw [if_pos e2]; exact hl c j h1 h1 hc
        . rw [if_neg e2]; exact hl i j h1 h2 h3
    have le : Low (c + 1) (elm (fsw a c f) c 3) := fun i j h1 h2 h3 => by
      unfold elm
      by_cases e1 : c < i ∧ i < 3
      . rw [if_pos e1]
        by_cases e2 : j = c
        . subst e2
          generalize fsw a j f i j = x at *
          generalize fsw a j f j j = y at *
          grind
        . rw [lg i j (by first | assumption | decide | exact Nat.le_of_lt ‹_› | exact Nat.le_trans ‹_› (by decide) | exact Nat.lt_of_lt_of_le ‹_› (by decide) | omega) h2 h3, lg c j (by first | assumption | decide | exact Nat.le_of_lt ‹_› | exact Nat.le_trans ‹_› (by decide) | exact Nat.lt_of_lt_of_le ‹_› (by decide) | omega) (by first | assumption | decide | exact Nat.le_of_lt ‹_› | exact Nat.le_trans ‹_› (by decide) | exact Nat.lt_of_lt_of_le ‹_› (by decide) | omega) hc]; grind
      . rw [if_neg e1]; exact lg i j (by first | assumption | decide | exact Nat.le_of_lt ‹_› | exact Nat.le_trans ‹_› (by decide) | exact Nat.lt_of_lt_of_le ‹_› (by decide) | omega) h2 h3
    by_cases e : f = c
    . rw [if_pos e, e, fsw_self]
      rw [e, fsw_self] at le
      exact ⟨rfl, le, .inl rfl⟩
    . rw [if_neg e, det_sw a hc hfl (Ne.symm e)]
      exact ⟨by grind, le, .inr rfl⟩
theorem de_last {a : Mx} {s : Rat} {r : Mx × Rat} (h : deS 2 a s = some r) : r = (a, s) := by
  obtain ⟨f, hf, rfl⟩ := Option.map_eq_some_iff.mp h
  obtain ⟨f1, f2, _⟩ := ffirst_some hf
  obtain rfl : f = 2 := by first | assumption | decide | exact Nat.le_of_lt ‹_› | exact Nat.le_trans ‹_› (by decide) | exact Nat.lt_of_lt_of_le ‹_› (by decide) | omega
  rw [fsw_self, if_pos rfl, show elm a 2 3 = a from by funext i j; exact if_neg fun z => by first | assumption | decide | exact Nat.le_of_lt ‹_› | exact Nat.le_trans ‹_› (by decide) | exact Nat.lt_of_lt_of_le ‹_› (by decide) | omega]
theorem Low.det {a : Mx} (h : Low 3 a) : det3 a = a 0 0 * a 1 1 * a 2 2 := by
  unfold det3
  rw [h 1 0 (by decide) (by decide) (by decide), h 2 0 (by decide) (by decide) (by decide), h 2 1 (by decide) (by decide) (by decide)]
  grind
theorem det_ok {K : Nat} (hK : 20 < K) {m : Mx} {B : Nat} (hB : 64 * B + 21 ≤ 7999) (hm : BM B 3 m) : T9 K 20 [enc 3 m] = some (.ret (fq (det3 m)) 0) := by
  rw [t9 f9_20 rfl rfl (by decide) hK]
  have r3 := (ev_r1 (Φ := T9 20) (γ := deE (enc 3 m) m 1 .un .un .un) (eV (i := 1) rfl) (okR_nat (n := 3) (by decide))).trans (congrArg some (range_map 3))
  have pre : ∀ {d γ'}, (evSs (T9 20) 40000 false (deE (enc 3 m) m 1 .un .un .un) (.cons (.for_ [4] (.r1 (.var 1)) deBody) (.cons (.asg 7 (.var 3)) (.cons (.for_ [6] (.r1 (.var 1)) (.cons (.asg 7 (.call 7 (.cons (.var 7) (.cons (.idx (.idx (.var 2) (.var 6)) (.var 6)) .nil)))) .nil)) (.cons (.ret (.var 7)) .nil)))) = some (.ret d 0, γ')) -> evF (T9 20) 40000 false f9_20 [enc 3 m] = some (.ret d 0) := fun h => by
    apply evF_ret rfl
    exact st_asg (ev_blt (eV rfl) (lenR (n := 3) (by decide))) (st_asg (eF (eC (eV rfl) eN) (copy_ok (by decide) (by decide) m)) (st_asg (ev_tup (eC vL (eC vL eN))) h))
  have t0 := de_turn (M := enc 3 m) (a := m) (s := 1) (c := 0) (s5 := .un) (s6 := .un) (by decide) (by first | assumption | decide | exact Nat.le_of_lt ‹_› | exact Nat.le_trans ‹_› (by decide) | exact Nat.lt_of_lt_of_le ‹_› (by decide) | omega) hm
  have d0 := de_step (c := 0) (a := m) (s := 1) (by decide) (fun i j h => absurd h (Nat.not_lt_zero j))
  cases h0 : deS 0 m 1 with
  | none =>
    rw [h0] at t0 d0
    obtain ⟨γ', t0⟩ := t0
    rw [show det3 m = 0 from d0]
    exact pre (st_forX r3 (fl_ret t0) nofun)
  | some r0 =>
    rw [h0] at t0 d0
    obtain ⟨b0, u5, u6, t0⟩ := t0
    obtain ⟨e0, l0, s0⟩ := d0
    have t1 := de_turn (M := enc 3 m) (a := r0.1) (s := r0.2) (c := 1) (s5 := u5) (s6 := u6) (by decide) (by first | assumption | decide | exact Nat.le_of_lt ‹_› | exact Nat.le_trans ‹_› (by decide) | exact Nat.lt_of_lt_of_le ‹_› (by decide) | omega) b0
    have d1 := de_step (c := 1) (a := r0.1) (s := r0.2) (by decide) l0
    cases h1 : deS 1 r0.1 r0.2 with
    | none =>
      rw [h1] at t1 d1
      obtain ⟨γ', t1⟩ := t1
      have d1 : det3 r0.1 = 0 := d1
      rw [show det3 m = 0 by rw [d1] at e0; grind]
      exact pre (st_forX r3 (fl_cons t0 (fl_ret t1)) nofun)
    | some r1 =>
      rw [h1] at t1 d1
      obtain ⟨b1, v5, v6, t1⟩ := t1
      obtain ⟨e1, l1, s1⟩ := d1
      have t2 := de_turn (M := enc 3 m) (a := r1.1) (s := r1.2) (c := 2) (s5 := v5) (s6 := v6) (by decide) (by first | assumption | decide | exact Nat.le_of_lt ‹_› | exact Nat.le_trans ‹_› (by decide) | exact Nat.lt_of_lt_of_le ‹_› (by decide) | omega) b1
      have d2 := de_step (c := 2) (a := r1.1) (s := r1.2) (by decide) l1
      cases h2 : deS 2 r1.1 r1.2 with
      | none =>
        rw [h2] at t2 d2
        obtain ⟨γ', t2⟩ := t2
        have d2 : det3 r1.1 = 0 := d2
        rw [show det3 m = 0 by rw [d2] at e1; grind]
        exact pre (st_forX r3 (fl_cons t0 (fl_cons t1 (fl_ret t2))) nofun)
      | some r2 =>
        rw [h2] at t2 d2
        obtain ⟨_, w5, w6, t2⟩ := t2
        obtain ⟨e2, l2, s2⟩ := d2
        have er : r2 = r1 := de_last h2
        subst er
        have bs : Bd 1 r2.2 := by
          have b1 : Bd 1 (1 : Rat) := ⟨by decide, by decide⟩
          rcases s1 with z | z <;> rcases s0 with y | y <;> rw [z, y] <;> first | exact b1 | exact b1.neg | exact b1.neg.neg
        have hb : 4 * (4 * B + 1) + 1 ≤ 2000 := by first | assumption | decide | exact Nat.le_of_lt ‹_› | exact Nat.le_trans ‹_› (by decide) | exact Nat.lt_of_lt_of_le ‹_› (by decide) | omega
        generalize 4 * (4 * B + 1) + 1 = D at b1 hb
        have m0 := fmul_ok (K := 20) (by decide) (by first | assumption | decide | exact Nat.le_of_lt ‹_› | exact Nat.le_trans ‹_› (by decide) | exact Nat.lt_of_lt_of_le ‹_› (by decide) | omega) bs (b1 0 (by decide) 0 (by decide))
        have m1 := fmul_ok (K := 20) (by decide) (by first | assumption | decide | exact Nat.le_of_lt ‹_› | exact Nat.le_trans ‹_› (by decide) | exact Nat.lt_of_lt_of_le ‹_› (by decide) | omega) (bs.mul (b1 0 (by decide) 0 (by decide))) (b1 1 (by decide) 1 (by decide))
        have m2 := fmul_ok (K := 20) (by decide) (by first | assumption | decide | exact Nat.le_of_lt ‹_› | exact Nat.le_trans ‹_› (by decide) | exact Nat.lt_of_lt_of_le ‹_› (by decide) | omega) ((bs.mul (b1 0 (by decide) 0 (by decide))).mul (b1 1 (by decide) 1 (by decide))) (b1 2 (by decide) 2 (by decide))
        have ev : det3 m = r2.2 * r2.1 0 0 * r2.1 1 1 * r2.1 2 2 := by
          have := l2.det
          grind
        rw [ev]
        have turn : ∀ {t : Rat} {c : Nat} {sl : Slot}, c < 3 -> T9 20 7 [fq t, fq (r2.1 c c)] = some (.ret (fq (t * r2.1 c c)) 0) ->
            evSs (T9 20) 40000 false [.pl (enc 3 m), .pl (.int 3), .pl (enc 3 r2.1), .pl (fq r2.2), .pl (.int 2), w5, .pl (.int (c : Int)), .pl (fq t)] (.cons (.asg 7 (.call 7 (.cons (.var 7) (.cons (.idx (.idx (.var 2) (.var 6)) (.var 6)) .nil)))) .nil) = some (.next, [.pl (enc 3 m), .pl (.int 3), .pl (enc 3 r2.1), .pl (fq r2.2), .pl (.int 2), w5, .pl (.int (c : Int)), .pl (fq (t * r2.1 c c))]) := fun hc hm => by
          obtain ⟨x1, x2⟩ := at_enc (m := r2.1) (w := 3) (by decide) hc hc
          exact st_asg (eF (eC (eV rfl) (eC (eI (eI (eV rfl) (eV rfl) x1) (eV rfl) x2) eN)) hm) st_nil
        refine pre (st_for r3 (fl_cons t0 (fl_cons t1 (fl_cons t2 fl_nil))) (st_asg (eV rfl) (st_for (γ' := [.pl (enc 3 m), .pl (.int 3), .pl (enc 3 r2.1), .pl (fq r2.2), .pl (.int 2), w5, .pl (.int 2), .pl (fq (r2.2 * r2.1 0 0 * r2.1 1 1 * r2.1 2 2))]) ((ev_r1 (eV rfl) (okR_nat (n := 3) (by decide))).trans (congrArg some (range_map 3))) ?_ (st_ret (eV rfl)))))
        exact fl_cons (turn (c := 0) (sl := .un) (by decide) m0) (fl_cons (turn (c := 1) (sl := .un) (by decide) m1) (fl_cons (turn (c := 2) (sl := .un) (by decide) m2) fl_nil))
end Mine
end
section
set_option maxRecDepth 100000
namespace Mine
open PySem
noncomputable def Sh (k : Nat) (d : PyData) : Prop := d.canLay0 = true ∧ d.depth ≤ k
theorem Sh.shaped {k : Nat} {d : PyData} (h : Sh k d) (hk : k ≤ 64) : SeqAt.shaped d = true := by
  unfold SeqAt.shaped
  rw [h.1, Bool.true_and]
  exact decide_eq_true (Nat.le_trans h.2 hk)
theorem sh_all {k : Nat} : ∀ {xs : List PyData}, (∀ x ∈ xs, Sh k x) -> PyData.canLayAll0 xs = true ∧ PyData.depthAll xs ≤ k
  | [], _ => ⟨rfl, Nat.zero_le _⟩
  | x :: xs, h => by
    obtain ⟨h1, h2⟩ := sh_all fun y hy => h y (.tail _ hy)
    obtain ⟨h3, h4⟩ := h x (.head _)
    refine ⟨by simp [PyData.canLayAll0, h1, h3], ?_⟩
    simp only [PyData.depthAll]
    omega
theorem Sh.list {k : Nat} {xs : List PyData} (h : ∀ x ∈ xs, Sh k x) : Sh (k + 1) (.list xs) := by
  obtain ⟨h1, h2⟩ := sh_all h
  exact ⟨by simp [PyData.canLay0, h1], by simp only [PyData.depth]; omega⟩
theorem Sh.tuple {k : Nat} {xs : List PyData} (h : ∀ x ∈ xs, Sh k x) : Sh (k + 1) (.tuple xs) := by
  obtain ⟨h1, h2⟩ := sh_all h
  exact ⟨by simp [PyData.canLay0, h1], by simp only [PyData.depth]; omega⟩
theorem Sh.int (i : Int) : Sh 0 (.int i) := ⟨rfl, Nat.le_refl _⟩
theorem Sh.mono {i j : Nat} (h : i ≤ j) {d : PyData} (x : Sh i d) : Sh j d := ⟨x.1, Nat.le_trans x.2 h⟩
theorem Sh.fq (q : Rat) : Sh 1 (fq q) := Sh.tuple fun x hx => by
  simp only [List.mem_cons, List.not_mem_nil, or_false] at hx
  rcases hx with rfl | rfl <;> exact Sh.int _
theorem strOk_ofString (s : String) : PyData.strOk (Str.ofString s) = true := by
  rw [Str.ofString_eq_toList]
  unfold PyData.strOk
  rw [Array.all_eq_true]
  intro i hi
  simp only [List.size_toArray, List.length_map] at hi
  simp only [List.getElem_toArray, List.getElem_map, decide_eq_true_eq]
  have := (s.toList[i]).valid
  have h2 : (s.toList[i]).toNat < 0x110000 := by
    rcases this with h | h
    . exact Nat.lt_trans h (by decide)
    . exact h.2
  exact h2
theorem strOk_app {a b : Str} (ha : PyData.strOk a = true) (hb : PyData.strOk b = true) : PyData.strOk (a ++ b) = true := by
  show (a.cps ++ b.cps).all _ = true
  rw [Array.all_append]
  unfold PyData.strOk at ha hb
  rw [ha, hb]; rfl
theorem Sh.txt (q : Rat) : Sh 0 (.str (txt q)) := by
  refine ⟨?_, Nat.le_refl _⟩
  show PyData.strOk _ = true
  unfold Mine.txt
  split
  . exact strOk_ofString _
  . exact strOk_app (strOk_app (strOk_ofString _) (strOk_ofString _)) (strOk_ofString _)
theorem ne_self {k : Nat} {d : PyData} (h : Sh k d) (hk : k ≤ 64) : cmpD .ne d d = some false := by
  refine (if_pos (by rw [h.shaped hk]; rfl)).trans ?_
  rw [SeqAt.eqv_refl d h.1]; rfl
theorem Sh.tab {k n : Nat} {f : Nat -> PyData} (h : ∀ i, i < n -> Sh k (f i)) : Sh (k + 1) (tab n f) := Sh.list fun x hx => by
  obtain ⟨i, hi, rfl⟩ := List.mem_map.mp hx
  exact h i (List.mem_range.mp hi)
theorem Sh.rwD (w : Nat) (f : Nat -> Rat) : Sh 2 (rwD w f) := Sh.tab fun i ζ => Sh.fq _
theorem Sh.enc (w : Nat) (m : Mx) : Sh 3 (enc w m) := Sh.tab fun i ζ => Sh.rwD w _
theorem Sh.pr (a b : Int) : Sh 1 (pr a b) := Sh.tuple fun x hx => by
  simp only [List.mem_cons, List.not_mem_nil, or_false] at hx
  rcases hx with rfl | rfl <;> exact Sh.int _
theorem Sh.two {k : Nat} {a b : PyData} (ha : Sh k a) (hb : Sh k b) : Sh (k + 1) (.tuple [a, b]) := Sh.tuple fun x hx => by
  simp only [List.mem_cons, List.not_mem_nil, or_false] at hx
  rcases hx with rfl | rfl <;> assumption
theorem Sh.encP (p q : Nat -> Int) : Sh 2 (encP p q) := Sh.tab fun i ζ => Sh.pr _ _
theorem Sh.pv (l : List Nat) : Sh 1 (pvD l) := Sh.list fun x hx => by
  obtain ⟨q, _, rfl⟩ := List.mem_map.mp hx
  exact Sh.int _
noncomputable def aug6 (m : Mx) : Mx := fun i c => if c < 3 then m i c else if i = c - 3 then 1 else 0
noncomputable def aug4 (m : Mx) (b : Nat -> Rat) : Mx := fun i c => if c < 3 then m i c else b i
theorem intsD_nats : ∀ l : List Nat, intsD (l.map fun (p : Nat) => PyData.int (p : Int)) = some (l.map fun (p : Nat) => (p : Int))
  | [] => rfl
  | p :: l => bnd (intsD_nats l) rfl
theorem in_pv (l : List Nat) (hl : l.length ≤ 1000) (c : Nat) : cmpD .isin (.int (c : Int)) (pvD l) = some (decide (c ∈ l)) := by
  refine bnd (intsD_nats l) ?_
  show (if (l.map fun (p : Nat) => (p : Int)).length ≤ lenLim then some ((l.map fun (p : Nat) => (p : Int)).contains (c : Int)) else none) = _
  rw [if_pos (by rw [List.length_map]; exact lenLim_ge hl)]
  refine congrArg some ?_
  rw [Bool.eq_iff_iff, List.contains_iff_mem, decide_eq_true_iff, List.mem_map]
  exact ⟨fun ⟨a, h, e⟩ => Int.ofNat_inj.mp e ▸ h, fun h => ⟨c, h, rfl⟩⟩
theorem eqv_nats : ∀ l l' : List Nat, PyData.eqvAll (l.map fun (p : Nat) => PyData.int (p : Int)) (l'.map fun (p : Nat) => PyData.int (p : Int)) = decide (l = l')
  | [], [] => rfl
  | [], _ :: _ => rfl
  | _ :: _, [] => rfl
  | a :: l, b :: l' => by
    show (PyData.eqv (.int (a : Int)) (.int (b : Int)) && PyData.eqvAll _ _) = _
    rw [eqv_int, eqv_nats l l', Bool.eq_iff_iff]
    simp only [Bool.and_eq_true, decide_eq_true_eq, List.cons.injEq, Int.ofNat_inj]
theorem ne_pv (l l' : List Nat) : cmpD .ne (pvD l) (pvD l') = some (!decide (l = l')) := by
  refine (if_pos (by rw [(Sh.pv l).shaped (by decide), (Sh.pv l').shaped (by decide)]; rfl)).trans ?_
  exact congrArg (fun x => some (!x)) (eqv_nats l l')
theorem redS_pv (c : Nat) (s : RS) : (redS c s).pv = s.pv ∨ (redS c s).pv = s.pv ++ [c] := by
  unfold redS
  cases ffirst s.m c s.pv.length (3 - s.pv.length) with
  | none => exact .inl rfl
  | some f => exact .inr rfl
theorem redS_full {c : Nat} {s : RS} (h : s.pv.length = 3) : redS c s = s := by
  unfold redS
  rw [h]
  rfl
theorem redF_rd (w : Nat) (M : Mx) : Rd w M 3 (redF 3 M) := by
  have := (Rd.start w M).run (n := 3)
  exact this
theorem redF6 (M : Mx) : ((redF 6 M).pv = [0, 1, 2] ↔ (redF 3 M).pv = [0, 1, 2]) ∧ ((redF 3 M).pv = [0, 1, 2] -> redF 6 M = redF 3 M) := by
  have e : redF 6 M = redS 5 (redS 4 (redS 3 (redF 3 M))) := rfl
  have h2 : (redF 3 M).pv = [0, 1, 2] -> redF 6 M = redF 3 M := fun h => by
    have hl : (redF 3 M).pv.length = 3 := by rw [h]; rfl
    rw [e, redS_full (c := 3) hl, redS_full (c := 4) hl, redS_full (c := 5) hl]
  refine ⟨⟨fun h => ?_, fun h => (h2 h).symm ▸ h⟩, h2⟩
  rw [e] at h
  have k : ∀ (c : Nat) (s : RS), 3 ≤ c -> (redS c s).pv = [0, 1, 2] -> s.pv = [0, 1, 2] := fun c s hc q => by
    rcases redS_pv c s with z | z
    . rw [← z]; exact q
    . rw [z] at q
      have : c ∈ [0, 1, 2] := q ▸ List.mem_append_right _ (List.mem_singleton_self c)
      simp at this
      omega
  exact k 3 _ (by decide) (k 4 _ (by decide) (k 5 _ (by decide) h))
theorem ev_slI {Φ : Funs} {γ : Env'} {a b : PE} {x : PyData} {l l' : Nat} {k : Int} {r : PyData × Nat} (h : evE Φ γ a = some (x, l)) (h1 : evE Φ γ b = some (.int k, l')) (h2 : slD x (.int k) .none = some r) : evE Φ γ (.sl a b (.lit .none)) = some r := bnd h (bnd h1 (bnd (x := some (PyData.none, 0)) rfl h2))
theorem sl_drop3 (r : Nat -> Rat) : slD (rwD 6 r) (.int 3) .none = some (rwD 3 fun c => r (3 + c), 1) := rfl
theorem app6 (m : Mx) (i : Nat) : binD .add (rwD 3 (m i)) (rwD 3 fun j => if i = j then 1 else 0) = some (rwD 6 (aug6 m i), 1) := rfl
theorem aug6_bd {B : Nat} {m : Mx} (h : BM B 3 m) (hB : 1 ≤ B) : BM B 6 (aug6 m) := fun i hi c hc => by
  have b1 : ∀ x : Rat, x = 0 ∨ x = 1 -> Bd B x := fun x hx => by
    refine Bd.mono hB ?_
    rcases hx with rfl | rfl <;> exact ⟨by decide, by decide⟩
  unfold aug6
  by_cases h3 : c < 3
  . rw [if_pos h3]; exact h i hi c h3
  . rw [if_neg h3]
    by_cases h4 : i = c - 3
    . rw [if_pos h4]; exact b1 1 (.inr rfl)
    . rw [if_neg h4]; exact b1 0 (.inl rfl)
theorem inverse_ok {K : Nat} (hK : 21 < K) {m : Mx} {B : Nat} (hB : 64 * B + 21 ≤ 7999) (h1 : 1 ≤ B) (hm : BM B 3 m) :
    T9 K 21 [enc 3 m] = some (if (redF 3 (aug6 m)).pv = [0, 1, 2] then .ret (enc 3 fun i c => (redF 3 (aug6 m)).m i (3 + c)) 1 else .exc 1) := by
  rw [t9 f9_21 rfl rfl (by decide) hK]
  obtain ⟨rd, _⟩ := reduced_ok (K := 21) (by decide) (w := 6) (n := 6) (by decide) (by decide) (M := aug6 m) hB (aug6_bd hm h1)
  obtain ⟨k1, k2⟩ := redF6 (aug6 m)
  have c1 : evE (T9 21) [.pl (enc 3 m), .pl (.int 3), .pl (enc 3 fun i j => if i = j then 1 else 0), .un, .un] (.comp (.bin .add (.idx (.var 1) (.var 0)) (.idx (.var 3) (.var 0))) 1 (.r1 (.var 1)) .tt) = some (enc 6 (aug6 m), 1) :=
    compR (n := 3) (g := fun i => rwD 6 (aug6 m i)) (eV rfl) (by decide) fun i hi => ⟨1, eB (eI (eV rfl) (eV rfl) (idxR (n := 3) (f := fun i => rwD 3 (m i)) (by decide) hi)) (eI (eV rfl) (eV rfl) (idxR (n := 3) (f := fun i => rwD 3 fun j => if i = j then 1 else 0) (by decide) hi)) (app6 m i)⟩
  have lr : ∀ γ : Env', γ[1]? = some (.pl (.int 3)) -> evE (T9 21) γ (.lrange (.r1 (.var 1))) = some (pvD [0, 1, 2], 1) := fun γ hγ => ev_lrange ((ev_r1 (eV hγ) (okR_nat (n := 3) (by decide))).trans rfl)
  have ne := ne_pv (redF 6 (aug6 m)).pv [0, 1, 2]
  by_cases h : (redF 3 (aug6 m)).pv = [0, 1, 2]
  . rw [if_pos h]
    rw [not_dec (k1.mpr h)] at ne
    apply evF_ret rfl
    refine st_asg (ev_blt (eV rfl) (lenR (n := 3) (by decide))) (st_asg (eF (eC (eV rfl) eN) (ident_ok (by decide))) ?_)
    refine st_asgN (eF (eC c1 (eC (eB (eV rfl) (eV rfl) rfl) eN)) rd) rfl ?_
    refine st_else (eK (eV rfl) (lr _ rfl) ne) ?_
    rw [k2 h]
    exact st_ret (compL (n := 3) (f := fun i => rwD 6 ((redF 3 (aug6 m)).m i)) (eV rfl) (by decide) fun i hi => ⟨1, ev_slI (eV rfl) (eV rfl) (sl_drop3 _)⟩)
  . rw [if_neg h]
    rw [not_dec' fun z => h (k1.mp z)] at ne
    apply evF_exc rfl
    refine st_asg (ev_blt (eV rfl) (lenR (n := 3) (by decide))) (st_asg (eF (eC (eV rfl) eN) (ident_ok (by decide))) ?_)
    refine st_asgN (eF (eC c1 (eC (eB (eV rfl) (eV rfl) rfl) eN)) rd) rfl ?_
    exact st_trueX (eK (eV rfl) (lr _ rfl) ne) st_raise nofun
noncomputable def fill (g : Nat -> Rat) : (Nat -> Rat) -> Nat -> List Nat -> Nat -> Rat
  | f, _, [] => f
  | f, r, p :: ps => fill g (fun j => if j = p then g r else f j) (r + 1) ps
theorem put_rw {γ : Env'} {s : Nat} {f : Nat -> Rat} {x : Rat} {p l : Nat} (h : γ[s]? = some (.b1 ((List.range 3).map fun j => fq (f j)))) (hp : p < 3) : putS γ s (.int (p : Int)) (fq x, l) = some (γ.set s (.b1 ((List.range 3).map fun j => fq (if j = p then x else f j)))) := by
  rw [put_b1 h (pos_ok (n := 3) (by decide) hp), set_tab hp]
  refine congrArg (fun z => some (γ.set s (.b1 z))) (List.map_congr_left fun j ζ => ?_)
  by_cases e : j = p
  . rw [if_pos e, if_pos e]
  . rw [if_neg e, if_neg e]
theorem fill_loop {body : Env' -> Option (Flw × Env')} {i s : Nat} {mk : Slot -> Slot -> Env'} {g : Nat -> Rat}
    (hset : ∀ a b d, (mk a b).set i d = mk d b) : ∀ (ps : List Nat) (r : Nat) (f : Nat -> Rat) (a : Slot), (∀ p ∈ ps, p < 3) ->
    (∀ (r' p : Nat) (f : Nat -> Rat), r ≤ r' -> ps[r' - r]? = some p -> p < 3 -> body (mk (.pl (.int (r' : Int))) (.b1 ((List.range 3).map fun j => fq (f j)))) = some (.next, mk (.pl (.int (r' : Int))) (.b1 ((List.range 3).map fun j => fq (if j = p then g r' else f j))))) ->
    ∃ a', forL body [i] ((List.range' r ps.length).map fun (k : Nat) => PyData.int (k : Int)) (mk a (.b1 ((List.range 3).map fun j => fq (f j)))) = some (.next, mk a' (.b1 ((List.range 3).map fun j => fq (fill g f r ps j))))
  | [], r, f, a, _, _ => ⟨a, rfl⟩
  | p :: ps, r, f, a, h, hb => by
    obtain ⟨a', e⟩ := fill_loop (s := s) hset ps (r + 1) (fun j => if j = p then g r else f j) (.pl (.int (r : Int))) (fun q hq => h q (.tail _ hq)) fun r' q f' h1 h2 h3 => hb r' q f' (by first | assumption | decide | exact Nat.le_of_lt ‹_› | exact Nat.le_trans ‹_› (by decide) | exact Nat.lt_of_lt_of_le ‹_› (by decide) | omega) (by
      rw [show r' - r = (r' - (r + 1)) + 1 by first | assumption | decide | exact Nat.le_of_lt ‹_› | exact Nat.le_trans ‹_› (by decide) | exact Nat.lt_of_lt_of_le ‹_› (by decide) | omega]; exact h2) h3
    refine ⟨a', ?_⟩
    rw [List.length_cons, List.range'_succ, List.map_cons]
    refine fl_cons ?_ e
    rw [hset]
    exact hb r p f (Nat.le_refl _) (by rw [Nat.sub_self]; rfl) (h p (.head _))
theorem rep3 : binD .mul (.list [.tuple [.int 0, .int 1]]) (.int 3) = some (.list ((List.range 3).map fun j => fq ((fun ζ => 0) j)), 1) := rfl
theorem pv_lt {w : Nat} {M : Mx} {c : Nat} {s : RS} (h : Rd w M c s) (hc : c ≤ 3) : ∀ p ∈ s.pv, p < 3 := fun p hp => Nat.lt_of_lt_of_le (h.lt p hp) hc
theorem idx_pv {l : List Nat} {r p : Nat} (hl : l.length ≤ 3) (h : l[r]? = some p) : idxD (pvD l) (.int (r : Int)) = some (.int (p : Int), 0) := by
  have hr := (List.getElem?_eq_some_iff.mp h).1
  exact idx_ok (Nat.lt_of_lt_of_le hr (lenLim_ge (by first | assumption | decide | exact Nat.le_of_lt ‹_› | exact Nat.le_trans ‹_› (by decide) | exact Nat.lt_of_lt_of_le ‹_› (by decide) | omega))) (by rw [List.getElem?_map, h]; rfl)
theorem len_pv {l : List Nat} (hl : l.length ≤ 3) : bltD .len (pvD l) = some (.int (l.length : Nat), 0) := by
  show (if (l.map fun (p : Nat) => PyData.int (p : Int)).length ≤ lenLim then _ else _) = _
  rw [List.length_map, if_pos (lenLim_ge (by first | assumption | decide | exact Nat.le_of_lt ‹_› | exact Nat.le_trans ‹_› (by decide) | exact Nat.lt_of_lt_of_le ‹_› (by decide) | omega))]
theorem fill_ys {w : Nat} {M : Mx} {s : RS} (h : Rd w M 3 s) (q : Nat) {j : Nat} (hj : j < 3) : fill (fun r => s.m r q) (fun ζ => 0) 0 s.pv j = ys s q j := by
  unfold ys
  rcases pv_cases h with e | e | e | e | e | e | e | e <;> rw [e] <;> rcases lt3 hj with rfl | rfl | rfl <;> rfl
theorem fill_nv {w : Nat} {M : Mx} {s : RS} (h : Rd w M 3 s) {f j : Nat} (hf : f < 3) (hfp : f ∉ s.pv) (hj : j < 3) : fill (fun r => -(s.m r f)) (fun j => if j = f then 1 else 0) 0 s.pv j = nv s f j := by
  unfold nv
  rcases pv_cases h with e | e | e | e | e | e | e | e <;> rw [e] at hfp ⊢ <;> rcases lt3 hf with rfl | rfl | rfl <;> first | exact (hfp (by decide)).elim | (rcases lt3 hj with rfl | rfl | rfl <;> rfl)
theorem app4 (m : Mx) (b : Nat -> Rat) (i : Nat) : binD .add (rwD 3 (m i)) (.list [fq (b i)]) = some (rwD 4 (aug4 m b i), 1) := rfl
theorem aug4_bd {B : Nat} {m : Mx} {b : Nat -> Rat} (h : BM B 3 m) (hb : BV B 3 b) : BM B 4 (aug4 m b) := fun i hi c hc => by
  unfold aug4
  by_cases h3 : c < 3
  . rw [if_pos h3]; exact h i hi c h3
  . rw [if_neg h3]; exact hb i hi
theorem redF4 (M : Mx) : (3 ∈ (redF 4 M).pv ↔ ffirst (redF 3 M).m 3 (redF 3 M).pv.length (3 - (redF 3 M).pv.length) ≠ none) ∧ (ffirst (redF 3 M).m 3 (redF 3 M).pv.length (3 - (redF 3 M).pv.length) = none -> redF 4 M = redF 3 M) := by
  have e : redF 4 M = redS 3 (redF 3 M) := rfl
  have hn : 3 ∉ (redF 3 M).pv := fun z => Nat.lt_irrefl _ ((redF_rd 3 M).lt 3 z)
  rw [e]
  unfold redS
  cases ffirst (redF 3 M).m 3 (redF 3 M).pv.length (3 - (redF 3 M).pv.length) with
  | none => exact ⟨⟨fun z => (hn z).elim, fun z => (z rfl).elim⟩, fun ζ => rfl⟩
  | some f => exact ⟨⟨nofun, fun ζ => List.mem_append_right _ (List.mem_singleton_self 3)⟩, nofun⟩
theorem redF_len4 (M : Mx) : (redF 4 M).pv.length ≤ 1000 := by
  have h := (redF_rd 3 M).len
  have e : redF 4 M = redS 3 (redF 3 M) := rfl
  rw [e]
  rcases redS_pv 3 (redF 3 M) with z | z <;> rw [z]
  . omega
  . rw [List.length_append]; show _ + 1 ≤ 1000; omega
noncomputable def soBody : PSs := (.cons (.put 5 (.idx (.var 4) (.var 6)) (.idx (.idx (.var 3) (.var 6)) (.var 1)))
  .nil)
theorem sol_ok {K : Nat} (hK : 22 < K) {m : Mx} {b : Nat -> Rat} {B : Nat} (hB : 64 * B + 21 ≤ 7999) (hm : BM B 3 m) (hb : BV B 3 b) :
    ∃ l, T9 K 22 [enc 3 m, .int 3, rwD 3 b] = some (.ret (if ffirst (redF 3 (aug4 m b)).m 3 (redF 3 (aug4 m b)).pv.length (3 - (redF 3 (aug4 m b)).pv.length) = none then rwD 3 (ys (redF 3 (aug4 m b)) 3) else .none) l) := by
  rw [t9 f9_22 rfl rfl (by decide) hK]
  obtain ⟨rd, _⟩ := reduced_ok (K := 22) (by decide) (w := 4) (n := 4) (by decide) (by decide) (M := aug4 m b) hB (aug4_bd hm hb)
  obtain ⟨k1, k2⟩ := redF4 (aug4 m b)
  have hR := redF_rd 4 (aug4 m b)
  have c1 : evE (T9 22) [.pl (enc 3 m), .pl (.int 3), .pl (rwD 3 b), .un, .un, .un, .un] (.comp (.bin .add (.idx (.var 1) (.var 0)) (.lst (.cons (.idx (.var 3) (.var 0)) .nil))) 1 (.r1 (.blt .len (.var 0))) .tt) = some (enc 4 (aug4 m b), 1) :=
    compR (n := 3) (g := fun i => rwD 4 (aug4 m b i)) (ev_blt (eV rfl) (lenR (by decide))) (by decide) fun i hi => ⟨1, eB (eI (eV rfl) (eV rfl) (idxR (n := 3) (f := fun i => rwD 3 (m i)) (by decide) hi)) (ev_lst (eC (eI (eV rfl) (eV rfl) (idxR (by decide) hi)) eN)) (app4 m b i)⟩
  have ip := in_pv _ (redF_len4 (aug4 m b)) 3
  generalize hs4 : redF 4 (aug4 m b) = s4 at *
  generalize hs : redF 3 (aug4 m b) = s at *
  by_cases h : ffirst s.m 3 s.pv.length (3 - s.pv.length) = none
  . rw [if_pos h]
    obtain rfl := k2 h
    rw [decide_eq_false fun z => k1.mp z h] at ip
    obtain ⟨a', lp⟩ := fill_loop (body := fun g => evSs (T9 22) 40000 false g soBody) (i := 6) (s := 5) (mk := fun a x => [.pl (enc 3 m), .pl (.int 3), .pl (rwD 3 b), .pl (enc 4 s4.m), .pl (pvD s4.pv), x, a]) (g := fun r => s4.m r 3) (fun ζ ζ ζ => rfl) s4.pv 0 (fun ζ => 0) .un (pv_lt hR (Nat.le_refl _)) fun r p f ζ hp hp3 => by
        have hr := (List.getElem?_eq_some_iff.mp hp).1
        obtain ⟨x1, x2⟩ := at_enc (m := s4.m) (w := 4) (i := r) (c := 3) (by decide) (by have := hR.len; omega) (by decide)
        exact st_put (eI (eI (eV rfl) (eV rfl) x1) (eV rfl) x2) (eI (eV rfl) (eV rfl) (idx_pv hR.len hp)) (put_rw rfl hp3) st_nil
    refine ⟨1, ?_⟩
    rw [show rwD 3 (ys s4 3) = rwD 3 (fill (fun r => s4.m r 3) (fun ζ => 0) 0 s4.pv) from rwD_congr fun j hj => (fill_ys hR 3 hj).symm]
    apply evF_ret rfl
    refine st_asgN (eF (eC c1 (eC (eB (eV rfl) vL rfl) eN)) rd) rfl (st_else (eK (eV rfl) (eV rfl) ip) ?_)
    refine st_bnew (eB (ev_lst (eC (ev_tup (eC vL (eC vL eN))) eN)) (eV rfl) rep3) rfl ?_
    refine st_for ((ev_r1 (ev_blt (eV rfl) (len_pv hR.len)) (okR_nat (by have := hR.len; omega))).trans (congrArg some ((range_map _).trans (by rw [List.range_eq_range'])))) lp ?_
    exact st_retv rfl
  . rw [if_neg h]
    rw [decide_eq_true (k1.mpr h)] at ip
    refine ⟨0, ?_⟩
    apply evF_ret rfl
    exact st_asgN (eF (eC c1 (eC (eB (eV rfl) vL rfl) eN)) rd) rfl (st_trueX (eK (eV rfl) (eV rfl) ip) (st_ret vL) nofun)
end Mine
end
section
set_option maxRecDepth 100000
namespace Mine
open PySem
noncomputable def frees (s : RS) : List Nat := (List.range 3).filter fun f => decide (f ∉ s.pv)
noncomputable def nuIn : PSs := (.cons (.put 6 (.idx (.var 3) (.var 7)) (.call 5 (.cons (.idx (.idx (.var 2) (.var 7)) (.var 5)) .nil)))
  .nil)
noncomputable def nuBody : PSs := (.cons (.ite (.cmp .isin (.var 5) (.var 3)) (.cons .cont
  .nil) .nil)
  (.cons (.bnew 6 (.bin .mul (.lst (.cons (.tup (.cons (.lit (.int 0)) (.cons (.lit (.int 1)) .nil))) .nil)) (.var 1)))
  (.cons (.put 6 (.var 5) (.tup (.cons (.lit (.int 1)) (.cons (.lit (.int 1)) .nil))))
  (.cons (.for_ [7] (.r1 (.blt .len (.var 3))) nuIn)
  (.cons (.frz [6])
  (.cons (.app 4 (.var 6))
  .nil))))))
theorem nu_turn {M : PyData} {s : RS} {M' : Mx} (hR : Rd 3 M' 3 s) {f : Nat} (hf : f < 3) {l : List PyData} (hl : l.length ≤ 10) (s6 s7 : Slot) :
    ∃ fl t6 t7, evSs (T9 23) 40000 false [.pl M, .pl (.int 3), .pl (enc 3 s.m), .pl (pvD s.pv), .b1 l, .pl (.int (f : Int)), s6, s7] nuBody = some (fl, [.pl M, .pl (.int 3), .pl (enc 3 s.m), .pl (pvD s.pv), .b1 (if f ∈ s.pv then l else l ++ [rwD 3 (nv s f)]), .pl (.int (f : Int)), t6, t7]) ∧ (fl = .next ∨ fl = .cont) := by
  have ip := in_pv s.pv (by have := hR.len; omega) f
  by_cases h : f ∈ s.pv
  . rw [decide_eq_true h] at ip
    rw [if_pos h]
    exact ⟨.cont, s6, s7, st_trueX (eK (eV rfl) (eV rfl) ip) st_cont nofun, .inr rfl⟩
  . rw [decide_eq_false h] at ip
    rw [if_neg h]
    obtain ⟨a', lp⟩ := fill_loop (body := fun g => evSs (T9 23) 40000 false g nuIn) (i := 7) (s := 6) (mk := fun a x => [.pl M, .pl (.int 3), .pl (enc 3 s.m), .pl (pvD s.pv), .b1 l, .pl (.int (f : Int)), x, a]) (g := fun r => -(s.m r f)) (fun ζ ζ ζ => rfl) s.pv 0 (fun j => if j = f then 1 else 0) s7 (pv_lt hR (Nat.le_refl _)) fun r p g ζ hp hp3 => by
        have hr := (List.getElem?_eq_some_iff.mp hp).1
        obtain ⟨x1, x2⟩ := at_enc (m := s.m) (w := 3) (i := r) (c := f) (by decide) (by have := hR.len; omega) hf
        exact st_put (eF (eC (eI (eI (eV rfl) (eV rfl) x1) (eV rfl) x2) eN) (fneg_ok (by decide) _)) (eI (eV rfl) (eV rfl) (idx_pv hR.len hp)) (put_rw rfl hp3) st_nil
    rw [show rwD 3 (nv s f) = rwD 3 (fill (fun r => -(s.m r f)) (fun j => if j = f then 1 else 0) 0 s.pv) from rwD_congr fun j hj => (fill_nv hR hf h hj).symm]
    refine ⟨.next, .pl (rwD 3 (fill (fun r => -(s.m r f)) (fun j => if j = f then 1 else 0) 0 s.pv)), a', ?_, .inl rfl⟩
    refine st_else (eK (eV rfl) (eV rfl) ip) (st_bnew (eB (ev_lst (eC (ev_tup (eC vL (eC vL eN))) eN)) (eV rfl) rep3) rfl ?_)
    refine st_put (r := (fq 1, 0)) (ev_tup (eC vL (eC vL eN))) (eV rfl) (put_rw rfl hf) ?_
    refine st_for ((ev_r1 (ev_blt (eV rfl) (len_pv hR.len)) (okR_nat (by have := hR.len; omega))).trans (congrArg some ((range_map _).trans (by rw [List.range_eq_range'])))) lp ?_
    exact st_frz (st_app (eV rfl) (app_b1 rfl (lenLim_ge (Nat.le_trans hl (by decide)))) st_nil)
theorem null_ok {K : Nat} (hK : 23 < K) {m : Mx} {B : Nat} (hB : 64 * B + 21 ≤ 7999) (hm : BM B 3 m) :
    ∃ l, T9 K 23 [enc 3 m, .int 3] = some (.ret (.list ((frees (redF 3 m)).map fun f => rwD 3 (nv (redF 3 m) f))) l) := by
  rw [t9 f9_23 rfl rfl (by decide) hK]
  obtain ⟨rd, _⟩ := reduced_ok (K := 23) (by decide) (w := 3) (n := 3) (by decide) (by decide) (M := m) hB hm
  have hR := redF_rd 3 m
  generalize redF 3 m = s at *
  obtain ⟨f0, t6, t7, e0, g0⟩ := nu_turn (M := enc 3 m) hR (f := 0) (by decide) (l := []) (Nat.zero_le _) .un .un
  have l0 : (if 0 ∈ s.pv then [] else [] ++ [rwD 3 (nv s 0)]).length ≤ 1 := by split <;> simp
  obtain ⟨f1, u6, u7, e1, g1⟩ := nu_turn (M := enc 3 m) hR (f := 1) (by decide) (l := if 0 ∈ s.pv then [] else [] ++ [rwD 3 (nv s 0)]) (Nat.le_trans l0 (by decide)) t6 t7
  have l1 : (if 1 ∈ s.pv then (if 0 ∈ s.pv then [] else [] ++ [rwD 3 (nv s 0)]) else (if 0 ∈ s.pv then [] else [] ++ [rwD 3 (nv s 0)]) ++ [rwD 3 (nv s 1)]).length ≤ 2 := by
    split
    . omega
    . rw [List.length_append]; show _ + 1 ≤ 2; omega
  obtain ⟨f2, v6, v7, e2, g2⟩ := nu_turn (M := enc 3 m) hR (f := 2) (by decide) (l := if 1 ∈ s.pv then (if 0 ∈ s.pv then [] else [] ++ [rwD 3 (nv s 0)]) else (if 0 ∈ s.pv then [] else [] ++ [rwD 3 (nv s 0)]) ++ [rwD 3 (nv s 1)]) (Nat.le_trans l1 (by decide)) u6 u7
  have ef : (if 2 ∈ s.pv then (if 1 ∈ s.pv then (if 0 ∈ s.pv then [] else [] ++ [rwD 3 (nv s 0)]) else (if 0 ∈ s.pv then [] else [] ++ [rwD 3 (nv s 0)]) ++ [rwD 3 (nv s 1)]) else (if 1 ∈ s.pv then (if 0 ∈ s.pv then [] else [] ++ [rwD 3 (nv s 0)]) else (if 0 ∈ s.pv then [] else [] ++ [rwD 3 (nv s 0)]) ++ [rwD 3 (nv s 1)]) ++ [rwD 3 (nv s 2)]) = (frees s).map fun f => rwD 3 (nv s f) := by
    unfold frees
    rw [show List.range 3 = [0, 1, 2] from rfl]
    by_cases a0 : 0 ∈ s.pv <;> by_cases a1 : 1 ∈ s.pv <;> by_cases a2 : 2 ∈ s.pv <;> simp [a0, a1, a2]
  rw [ef] at e2
  refine ⟨1, ?_⟩
  apply evF_ret rfl
  refine st_asgN (eF (eC (eV rfl) (eC (eV rfl) eN)) rd) rfl (st_bnew (ev_lst eN) rfl ?_)
  have go : ∀ {fl : Flw} {i : Nat} {d : PyData} {ds : List PyData} {γ γ₁ : Env'} {res : Flw × Env'}, evSs (T9 23) 40000 false (γ.set i (.pl d)) nuBody = some (fl, γ₁) -> (fl = .next ∨ fl = .cont) -> forL (fun g => evSs (T9 23) 40000 false g nuBody) [i] ds γ₁ = some res -> forL (fun g => evSs (T9 23) 40000 false g nuBody) [i] (d :: ds) γ = some res := fun h hf hr => by
    rcases hf with rfl | rfl
    . exact fl_cons h hr
    . exact fl_cont h hr
  refine st_for ((ev_r1 (eV rfl) (okR_nat (n := 3) (by decide))).trans (congrArg some (range_map 3))) (go e0 g0 (go e1 g1 (go e2 g2 fl_nil))) ?_
  exact st_retv rfl
end Mine
end
section
set_option maxRecDepth 100000
namespace Mine
open PySem
structure Tb (P A : Nat -> Nat -> Int) (d : Int) : Prop where
  bp : BI 2 P
  ba : BI 4 A
  bd : d.natAbs < 2 ^ 6
  nz : d ≠ 0
  pa : ∀ i k, i < 3 -> k < 3 -> P i 0 * A 0 k + P i 1 * A 1 k + P i 2 * A 2 k = if i = k then d else 0
  ap : ∀ i k, i < 3 -> k < 3 -> A i 0 * P 0 k + A i 1 * P 1 k + A i 2 * P 2 k = if i = k then d else 0
noncomputable def detI (P : Nat -> Nat -> Int) : Int := P 0 0 * adjI P 0 0 + P 0 1 * adjI P 1 0 + P 0 2 * adjI P 2 0
theorem adj_bd {P : Nat -> Nat -> Int} (h : ∀ i j, i < 3 -> j < 3 -> (P i j).natAbs ≤ 2) {j k : Nat} : (adjI P j k).natAbs ≤ 8 := by
  unfold adjI
  have m : ∀ x y : Int, x.natAbs ≤ 2 -> y.natAbs ≤ 2 -> (x * y).natAbs ≤ 4 := fun x y hx hy => by rw [Int.natAbs_mul]; exact Nat.mul_le_mul hx hy
  have h1 := m _ _ (h _ _ (nx_lt k) (nx_lt j)) (h _ _ (ny_lt k) (ny_lt j))
  have h2 := m _ _ (h _ _ (nx_lt k) (ny_lt j)) (h _ _ (ny_lt k) (nx_lt j))
  exact Nat.le_trans (Int.natAbs_sub_le _ _) (Nat.add_le_add h1 h2)
theorem Tb.of {P : Nat -> Nat -> Int} (h : ∀ i j, i < 3 -> j < 3 -> (P i j).natAbs ≤ 2) (h0 : detI P ≠ 0) : Tb P (adjI P) (detI P) where
  bp := fun i j hi hj => Nat.lt_of_le_of_lt (h i j hi hj) (by decide)
  ba := fun i j ζ ζ => Nat.lt_of_le_of_lt (adj_bd h) (by decide)
  bd := by
    have m : ∀ x y : Int, x.natAbs ≤ 2 -> y.natAbs ≤ 8 -> (x * y).natAbs ≤ 16 := fun x y hx hy => by rw [Int.natAbs_mul]; exact Nat.mul_le_mul hx hy
    have h1 := m _ _ (h 0 0 (by decide) (by decide)) (adj_bd h (j := 0) (k := 0))
    have h2 := m _ _ (h 0 1 (by decide) (by decide)) (adj_bd h (j := 1) (k := 0))
    have h3 := m _ _ (h 0 2 (by decide) (by decide)) (adj_bd h (j := 2) (k := 0))
    exact Nat.lt_of_le_of_lt (Int.natAbs_add_le _ _) (Nat.lt_of_le_of_lt (Nat.add_le_add (Nat.le_trans (Int.natAbs_add_le _ _) (Nat.add_le_add h1 h2)) h3) (by decide))
  nz := h0
  pa := fun i k hi hk => by
    rcases lt3 hi with rfl | rfl | rfl <;> rcases lt3 hk with rfl | rfl | rfl <;> simp [adjI, detI, nx, ny] <;> grind
  ap := fun i k hi hk => by
    rcases lt3 hi with rfl | rfl | rfl <;> rcases lt3 hk with rfl | rfl | rfl <;> simp [adjI, detI, nx, ny] <;> grind
noncomputable def qM (A : Nat -> Nat -> Int) (d : Int) : Mx := fun j k => ((A j k : Int) : Rat) / (d : Rat)
theorem inv_gen {M Y : Mx} (yl : ∀ i k, i < 3 -> k < 3 -> mm Y M i k = if i = k then 1 else 0) : (redF 3 (aug6 M)).pv = [0, 1, 2] ∧ enc 3 (fun i c => (redF 3 (aug6 M)).m i (3 + c)) = enc 3 Y := by
  have hp := inv_pv (redF_rd 6 (aug6 M)) (redF_rd 3 _) (Y := Y) (fun i k hi hk => by
    have := yl i k hi hk
    unfold aug6
    rw [if_pos hk, if_pos hk, if_pos hk]
    exact this)
  have q := inv_ok (redF_rd 6 (aug6 M)) (fun i k hi hk => by
    unfold aug6
    rw [if_neg (by omega), show 3 + k - 3 = k by omega]) hp
  refine ⟨hp, enc_congr fun i c hi hc => ?_⟩
  have q' : ∀ l, l < 3 -> M l 0 * (redF 3 (aug6 M)).m 0 (3 + c) + M l 1 * (redF 3 (aug6 M)).m 1 (3 + c) + M l 2 * (redF 3 (aug6 M)).m 2 (3 + c) = if l = c then 1 else 0 := fun l hl => q l c hl hc
  have y0 := yl i 0 hi (by decide)
  have y1 := yl i 1 hi (by decide)
  have y2 := yl i 2 hi (by decide)
  have q0 := q' 0 (by decide)
  have q1 := q' 1 (by decide)
  have q2 := q' 2 (by decide)
  unfold mm dt at y0 y1 y2
  generalize (redF 3 (aug6 M)).m = R at *
  clear q q' yl hp
  have e : R i (3 + c) = (if i = 0 then 1 else 0) * R 0 (3 + c) + (if i = 1 then 1 else 0) * R 1 (3 + c) + (if i = 2 then 1 else 0) * R 2 (3 + c) := by
    rcases lt3 hi with rfl | rfl | rfl <;> simp <;> grind
  have f : Y i c = Y i 0 * (if 0 = c then 1 else 0) + Y i 1 * (if 1 = c then 1 else 0) + Y i 2 * (if 2 = c then 1 else 0) := by
    rcases lt3 hc with rfl | rfl | rfl <;> simp <;> grind
  rw [e, f, ← y0, ← y1, ← y2, ← q0, ← q1, ← q2]
  clear e f y0 y1 y2 q0 q1 q2
  grind
section
variable {P A : Nat -> Nat -> Int} {d : Int}
theorem inv_id {x0 x1 x2 y0 y1 y2 D e : Rat} (hD : D ≠ 0) (h : x0 * y0 + x1 * y1 + x2 * y2 = e * D) : x0 * (y0 / D) + x1 * (y1 / D) + x2 * (y2 / D) = e := by grind
theorem inv_id' {x0 x1 x2 y0 y1 y2 D e : Rat} (hD : D ≠ 0) (h : x0 * y0 + x1 * y1 + x2 * y2 = e * D) : x0 / D * y0 + x1 / D * y1 + x2 / D * y2 = e := by grind
theorem Tb.inv (T : Tb P A d) : Inv3 (castM P) (qM A d) := by
  have hd : (d : Rat) ≠ 0 := fun z => T.nz (Rat.intCast_inj.mp z)
  have key : ∀ (X Y : Nat -> Nat -> Int) (i k : Nat), X i 0 * Y 0 k + X i 1 * Y 1 k + X i 2 * Y 2 k = (if i = k then d else 0) -> ((X i 0 : Int) : Rat) * ((Y 0 k : Int) : Rat) + ((X i 1 : Int) : Rat) * ((Y 1 k : Int) : Rat) + ((X i 2 : Int) : Rat) * ((Y 2 k : Int) : Rat) = (if i = k then 1 else 0) * (d : Rat) := fun X Y i k h => by
    rw [← Rat.intCast_mul, ← Rat.intCast_mul, ← Rat.intCast_mul, ← Rat.intCast_add, ← Rat.intCast_add, h]
    by_cases e : i = k
    . rw [if_pos e, if_pos e, Rat.one_mul]
    . rw [if_neg e, if_neg e, Rat.zero_mul]; rfl
  exact ⟨fun i k hi hk => inv_id hd (key P A i k (T.pa i k hi hk)), fun i k hi hk => inv_id' hd (key A P i k (T.ap i k hi hk))⟩
theorem dueM_diag (T : Tb P A d) (r : Nat -> Rat) : Diag (castM P) (qM A d) r (dueM P A d r) := fun i j hi hj => by
  unfold dueM sm3 castM qM
  simp only [Rat.intCast_mul]
  grind
theorem dueX_mv (r : Nat -> Rat) (i : Nat) : dueX P r i = mv (castM P) r i := by
  unfold dueX sm3 castM mv
  have : ((1 : Int) : Rat) = 1 := rfl
  rw [this]
  grind
theorem dueM_congr {r r' : Nat -> Rat} (h : ∀ j, j < 3 -> r j = r' j) : dueM P A d r = dueM P A d r' := by
  funext i k
  unfold dueM sm3
  rw [h 0 (by decide), h 1 (by decide), h 2 (by decide)]
theorem dueX_congr {r r' : Nat -> Rat} (h : ∀ j, j < 3 -> r j = r' j) : dueX P r = dueX P r' := by
  funext i
  unfold dueX sm3
  rw [h 0 (by decide), h 1 (by decide), h 2 (by decide)]
theorem due_vec (T : Tb P A d) (r c : Nat -> Rat) {i : Nat} (hi : i < 3) : dt (dueM P A d r i) (dueX P c) = dueX P (fun j => c j * r j) i := by
  have e : dt (dueM P A d r i) (dueX P c) = mv (dueM P A d r) (mv (castM P) c) i := by
    unfold dt mv
    rw [dueX_mv, dueX_mv, dueX_mv]
    rfl
  rw [e, (dueM_diag T r).app _ hi, dueX_mv]
  exact mv_congr (fun k hk => by rw [T.inv.mv_qp c hk, Rat.mul_comm]) i
theorem due_less (T : Tb P A d) (r : Nat -> Rat) (k : Rat) {i j : Nat} (hi : i < 3) (hj : j < 3) : lesM (dueM P A d r) k i j = dueM P A d (fun l => r l - k) i j := by
  unfold lesM
  rw [dueM_diag T r i j hi hj, dueM_diag T _ i j hi hj, ← T.inv.pq i j hi hj]
  grind
theorem due_mul (T : Tb P A d) (r r' : Nat -> Rat) {i j : Nat} (hi : i < 3) (hj : j < 3) : mm (dueM P A d r) (dueM P A d r') i j = dueM P A d (fun l => r l * r' l) i j := by
  have e : mm (dueM P A d r) (dueM P A d r') i j = mv (dueM P A d r) (fun k => dueM P A d r' k j) i := rfl
  have e2 : ∀ k, k < 3 -> dueM P A d r' k j = mv (castM P) (fun l => r' l * qM A d l j) k := fun k hk => by
    rw [dueM_diag T r' k j hk hj]
    unfold mv
    grind
  rw [e, mv_congr e2, (dueM_diag T r).app _ hi, dueM_diag T _ i j hi hj]
  rw [mv_congr (v := fun l => r l * (r' l * qM A d l j)) (fun k hk => by rw [T.inv.mv_qp _ hk])]
  unfold mv
  grind
theorem due_inv (T : Tb P A d) (r : Nat -> Rat) (h : ∀ j, j < 3 -> r j ≠ 0) : (redF 3 (aug6 (dueM P A d r))).pv = [0, 1, 2] ∧ enc 3 (fun i c => (redF 3 (aug6 (dueM P A d r))).m i (3 + c)) = enc 3 (dueM P A d fun j => 1 / r j) := inv_gen fun i k hi hk => by
  rw [due_mul T _ _ hi hk, dueM_diag T _ i k hi hk, ← T.inv.pq i k hi hk]
  have h0 := h 0 (by decide)
  have h1 := h 1 (by decide)
  have h2 := h 2 (by decide)
  grind
theorem due_sing (T : Tb P A d) (r : Nat -> Rat) (h : ∃ j, j < 3 ∧ r j = 0) : (redF 3 (aug6 (dueM P A d r))).pv ≠ [0, 1, 2] := by
  refine sing_pv (redF_rd 6 _) (fun i k hi hk => by
    unfold aug6
    rw [if_neg (by omega), show 3 + k - 3 = k by omega]) ?_
  have e : det3 (aug6 (dueM P A d r)) = det3 (fun i k => castM P i 0 * (r 0 * qM A d 0 k) + castM P i 1 * (r 1 * qM A d 1 k) + castM P i 2 * (r 2 * qM A d 2 k)) := by
    have g : ∀ i k, i < 3 -> k < 3 -> aug6 (dueM P A d r) i k = castM P i 0 * (r 0 * qM A d 0 k) + castM P i 1 * (r 1 * qM A d 1 k) + castM P i 2 * (r 2 * qM A d 2 k) := fun i k hi hk => by
      unfold aug6
      rw [if_pos hk, dueM_diag T r i k hi hk]
      grind
    unfold det3
    simp only [g 0 0 (by decide) (by decide), g 0 1 (by decide) (by decide), g 0 2 (by decide) (by decide), g 1 0 (by decide) (by decide), g 1 1 (by decide) (by decide), g 1 2 (by decide) (by decide), g 2 0 (by decide) (by decide), g 2 1 (by decide) (by decide), g 2 2 (by decide) (by decide)]
  rw [e, det_mul (castM P) (fun j k => r j * qM A d j k)]
  have : det3 (fun j k => r j * qM A d j k) = r 0 * r 1 * r 2 * det3 (qM A d) := by
    unfold det3
    grind
  rw [this]
  obtain ⟨j, hj, h0⟩ := h
  rcases lt3 hj with rfl | rfl | rfl <;> rw [h0] <;> grind
end
end Mine
end
section
set_option maxRecDepth 100000
namespace Mine
open PySem PySem.NumText PySem.StrLaws
theorem cps_strI (n : Nat) : (strI (n : Int)).cps.toList = (Nat.toDigits 10 n).map Char.toNat := PySem.W.KIN.signs_num n
theorem toDigits_len_ge' (n : Nat) : 1 ≤ (Nat.toDigits 10 n).length := by
  have h := lt_len n
  rw [strI_len] at h
  rcases Nat.eq_zero_or_pos (Nat.toDigits 10 n).length with z | z
  . rw [z] at h
    obtain rfl : n = 0 := by first | assumption | decide | exact Nat.le_of_lt ‹_› | exact Nat.le_trans ‹_› (by decide) | exact Nat.lt_of_lt_of_le ‹_› (by decide) | omega
    exact absurd z (by decide)
  . exact z
theorem digs (n : Nat) : AllDigits ((Nat.toDigits 10 n).map Char.toNat) ∧ (Nat.toDigits 10 n).map Char.toNat ≠ [] := by
  refine ⟨fun c hc => ?_, fun e => ?_⟩
  . obtain ⟨ch, hch, e⟩ := List.mem_map.mp hc
    have r := PyProof.Rows.digit_range (Nat.isDigit_of_mem_toDigits (by decide) (by decide) hch)
    rw [← e]
    exact r
  . have h := toDigits_len_ge' n
    rw [List.map_eq_nil_iff.mp e] at h
    exact absurd h (by decide)
theorem cps_neg (n : Nat) : (strI (Int.negSucc n)).cps.toList = 45 :: (Nat.toDigits 10 (n + 1)).map Char.toNat := by
  unfold strI
  rw [Str.ofString_eq_toList]
  have : toString (Int.negSucc n) = "-" ++ (n + 1).repr := rfl
  show ((toString (Int.negSucc n)).toList.map Char.toNat).toArray.toList = _
  rw [this, String.toList_append, Nat.toList_repr]
  simp
theorem int_back {i : Int} (h : (strI i).length ≤ 640) : bltD .int (.str (strI i)) = some (.int i, 0) := by
  refine (if_pos h).trans (bnd (a := i) ?_ rfl)
  cases i with
  | ofNat n =>
    have e := intText_digits (x := strI (n : Int)) (by rw [cps_strI]; exact (digs n).1) (by rw [cps_strI]; exact (digs n).2) (Nat.le_trans h (by decide))
    rw [cps_strI, PySem.W.KIN.val_back] at e
    exact e
  | negSucc n =>
    have e := intText_neg (cps_neg n) (digs (n + 1)).1 (digs (n + 1)).2 (Nat.le_trans h (by decide))
    rw [PySem.W.KIN.val_back] at e
    exact e
theorem no_slash (i : Int) : 47 ∉ (strI i).cps.toList := fun h => by
  cases i with
  | ofNat n =>
    have h : 47 ∈ (strI (n : Int)).cps.toList := h
    rw [cps_strI] at h
    have := (digs n).1 47 h
    omega
  | negSucc n =>
    rw [cps_neg] at h
    rcases List.mem_cons.mp h with h | h
    . omega
    . have := (digs (n + 1)).1 47 h
      omega
noncomputable def cuts : Nat -> List Nat -> List Nat
  | _, [] => []
  | a, c :: cs => if c = 47 then a :: cuts (a + 1) cs else cuts (a + 1) cs
theorem cuts_no : ∀ (l : List Nat) (a : Nat), 47 ∉ l -> cuts a l = []
  | [], _, _ => rfl
  | c :: l, a, h => by
    show (if c = 47 then a :: cuts (a + 1) l else cuts (a + 1) l) = _
    rw [if_neg (show ¬ c = 47 from fun z => h (by rw [z]; exact .head _))]
    exact cuts_no l (a + 1) fun z => h (.tail _ z)
theorem cuts_app : ∀ (l l' : List Nat) (a : Nat), cuts a (l ++ l') = cuts a l ++ cuts (a + l.length) l'
  | [], l', a => rfl
  | c :: l, l', a => by
    have ih := cuts_app l l' (a + 1)
    rw [List.cons_append]
    show (if c = 47 then a :: cuts (a + 1) (l ++ l') else cuts (a + 1) (l ++ l')) = (if c = 47 then a :: cuts (a + 1) l else cuts (a + 1) l) ++ _
    rw [ih, List.length_cons, show a + 1 + l.length = a + (l.length + 1) by first | assumption | decide | exact Nat.le_of_lt ‹_› | exact Nat.le_trans ‹_› (by decide) | exact Nat.lt_of_lt_of_le ‹_› (by decide) | omega]
    by_cases h : c = 47
    . rw [if_pos h, if_pos h]; rfl
    . rw [if_neg h, if_neg h]
theorem occ1 (x : Str) (L : Nat) : ∀ (l pre : List Nat) (st : Array Nat × Nat), x.cps.toList = pre ++ l -> st.2 ≤ pre.length -> st.1.size + l.length < L ->
    (forIn (List.range' pre.length (l.length + 1)) st (occBody x ⟨#[47]⟩ x.length L)).run.fst.toList = st.1.toList ++ cuts pre.length l
  | [], pre, st, hx, h1, h2 => by
    have hn : x.cps.toList[pre.length]? = none := by rw [hx, List.append_nil]; exact List.getElem?_eq_none (Nat.le_refl _)
    show (forIn [pre.length] st (occBody x ⟨#[47]⟩ x.length L)).run.fst.toList = _
    rw [List.forIn_cons]
    unfold occBody
    rw [if_neg fun z => by
      have := (subAt_one x 47 pre.length).mp ⟨z.1.2, z.2⟩
      rw [hn] at this
      cases this]
    exact (List.append_nil _).symm
  | c :: l, pre, st, hx, h1, h2 => by
    have hc : x.cps.toList[pre.length]? = some c := by rw [hx, List.getElem?_append_right (Nat.le_refl _), Nat.sub_self]; rfl
    rw [List.length_cons, List.range'_succ, List.forIn_cons]
    unfold cuts
    unfold occBody
    rw [List.length_cons] at h2
    have e : pre.length + 1 = (pre ++ [c]).length := by rw [List.length_append]; rfl
    have hx' : x.cps.toList = (pre ++ [c]) ++ l := by rw [hx, List.append_assoc]; rfl
    by_cases h : c = 47
    . have hs := (subAt_one x 47 pre.length).mpr (h ▸ hc)
      rw [if_pos ⟨⟨⟨by first | assumption | decide | exact Nat.le_of_lt ‹_› | exact Nat.le_trans ‹_› (by decide) | exact Nat.lt_of_lt_of_le ‹_› (by decide) | omega, h1⟩, hs.1⟩, hs.2⟩, if_pos h]
      have ih := occ1 x L l (pre ++ [c]) (st.1.push pre.length, pre.length + 1) hx' (Nat.le_of_eq e) (by show (st.1.push _).size + _ < _; rw [Array.size_push]; omega)
      rw [← e] at ih
      refine Eq.trans ih ?_
      show (st.1.push pre.length).toList ++ _ = _
      rw [Array.toList_push, List.append_assoc]
      rfl
    . rw [if_neg (fun z => h (by
        have := (subAt_one x 47 pre.length).mp ⟨z.1.2, z.2⟩
        rw [hc] at this
        obtain rfl := Option.some.inj this
        rfl)), if_neg h]
      have ih := occ1 x L l (pre ++ [c]) (st.1, st.2) hx' (by rw [← e]; exact Nat.le_succ_of_le h1) (by show st.1.size + _ < _; omega)
      rw [← e] at ih
      exact ih
theorem occ_cuts (x : Str) : Builtin.Str.occurrences x ⟨#[47]⟩ 0 x.length (x.length + 1) = cuts 0 x.cps.toList := by
  rw [occ_eq]
  have hl : x.cps.toList.length = x.length := Array.length_toList
  have := occ1 x (x.length + 1) x.cps.toList [] (#[], 0) rfl (Nat.le_refl _) (by rw [hl]; show 0 + _ < _; omega)
  rw [hl] at this
  exact this
theorem strKind_ge (x : Str) : 1 ≤ Builtin.Str.strKind x := by
  unfold Builtin.Str.strKind
  split
  . decide
  . split <;> decide
theorem split_eq (x : Str) (hne : x.length ≠ 0) (hc : cuts 0 x.cps.toList ≠ []) : Txt.split x ("/" : Str) = partsFrom x 1 0 (cuts 0 x.cps.toList) := by
  have e : (("/" : Str)) = ⟨#[47]⟩ := by decide
  rw [e]
  unfold Txt.split
  rw [if_neg (by
    have h1 := strKind_ge x
    have h2 : Builtin.Str.strKind ⟨#[47]⟩ = 1 := by kernel_rfl
    rw [h2]
    simp only [Bool.or_eq_true, decide_eq_true_eq, not_or, Nat.not_lt]
    exact ⟨Nat.pos_of_ne_zero hne, h1⟩), occ_cuts, if_neg (by
    cases h : cuts 0 x.cps.toList with
    | nil => exact (hc h).elim
    | cons a b => exact Bool.false_ne_true)]
  exact partsBetween_eq x _ 1
theorem str_ext {x y : Str} (h : x.cps.toList = y.cps.toList) : x = y := Str.ext' (Array.toList_inj.mp h)
theorem strI_one : strI 1 = ("1" : Str) := by decide
theorem parts_ok (a : Rat) : ∃ rest, Txt.split (txt a ++ ("/1" : Str)) ("/" : Str) = strI a.num :: strI (a.den : Int) :: rest ∧ rest.length ≤ 1 := by
  obtain ⟨T, hT, hx⟩ : ∃ T : List Nat, (T = [] ∨ T = [47, 49]) ∧ (txt a ++ ("/1" : Str)).cps.toList = (strI a.num).cps.toList ++ 47 :: ((strI (a.den : Int)).cps.toList ++ T) := by
    have e1 : (("/1" : Str)).cps.toList = [47, 49] := by decide
    have e2 : (("/" : Str)).cps.toList = [47] := by decide
    rw [PyProof.Rows.cps_toList_append, e1]
    unfold txt
    by_cases h : a.den = 1
    . refine ⟨[], .inl rfl, ?_⟩
      rw [if_pos h, h, show ((1 : Nat) : Int) = 1 from rfl, strI_one]
      rfl
    . refine ⟨[47, 49], .inr rfl, ?_⟩
      rw [if_neg h, PyProof.Rows.cps_toList_append, PyProof.Rows.cps_toList_append, e2]
      simp
  generalize txt a ++ ("/1" : Str) = x at hx
  have nA := no_slash a.num
  have nB := no_slash (a.den : Int)
  have hl : x.cps.toList.length = x.length := Array.length_toList
  have ct : cuts 0 x.cps.toList = (strI a.num).cps.toList.length :: cuts ((strI a.num).cps.toList.length + 1 + (strI (a.den : Int)).cps.toList.length) T := by
    rw [hx, cuts_app, cuts_no _ _ nA, List.nil_append, Nat.zero_add]
    show (if 47 = 47 then _ :: cuts _ (_ ++ T) else _) = _
    rw [if_pos rfl, cuts_app, cuts_no _ _ nB, List.nil_append]
  have hne : x.length ≠ 0 := by
    rw [← hl, hx, List.length_append, List.length_cons]
    omega
  rw [split_eq x hne (by rw [ct]; exact nofun), ct]
  have p1 : Builtin.Str.strSub x 0 (strI a.num).cps.toList.length = strI a.num := str_ext (by
    rw [strSub_toList, hx, List.drop_zero, Nat.sub_zero, List.take_left' rfl])
  have p2 : Builtin.Str.strSub x ((strI a.num).cps.toList.length + 1) ((strI a.num).cps.toList.length + 1 + (strI (a.den : Int)).cps.toList.length) = strI (a.den : Int) := str_ext (by
    rw [strSub_toList, hx, show (strI a.num).cps.toList ++ 47 :: ((strI (a.den : Int)).cps.toList ++ T) = ((strI a.num).cps.toList ++ [47]) ++ ((strI (a.den : Int)).cps.toList ++ T) by simp, List.drop_left' (by rw [List.length_append]; rfl), Nat.add_sub_cancel_left, List.take_left' rfl])
  rcases hT with rfl | rfl
  . refine ⟨[], ?_, Nat.zero_le _⟩
    show Builtin.Str.strSub x 0 _ :: [Builtin.Str.strSub x (_ + 1) x.length] = _
    rw [p1]
    have : x.length = (strI a.num).cps.toList.length + 1 + (strI (a.den : Int)).cps.toList.length := by
      rw [← hl, hx]
      simp
      omega
    rw [this, p2]
  . refine ⟨[Builtin.Str.strSub x ((strI a.num).cps.toList.length + 1 + (strI (a.den : Int)).cps.toList.length + 1) x.length], ?_, Nat.le_refl _⟩
    show Builtin.Str.strSub x 0 _ :: Builtin.Str.strSub x (_ + 1) _ :: _ = _
    rw [p1, p2]
    rfl
end Mine
end
section
set_option maxRecDepth 100000
namespace Mine
open PySem
theorem lt6' : ∀ k, k < 6 -> k = 0 ∨ k = 1 ∨ k = 2 ∨ k = 3 ∨ k = 4 ∨ k = 5 := by decide
theorem lt6 {k : Nat} (h : k < 6) : k = 0 ∨ k = 1 ∨ k = 2 ∨ k = 3 ∨ k = 4 ∨ k = 5 := lt6' k h
structure St4 where
  p : Nat -> Int
  q : Nat -> Int
  c : Nat -> Int
  e : Nat -> Int
noncomputable def mdl (kd : Nat) (k : Int) (s : St4) : St4 × Bool := match kd with
  | 0 => (⟨s.p, s.q, fun j => s.c j * s.p j, fun j => s.e j * s.q j⟩, false)
  | 1 => if s.p 0 = 0 ∨ s.p 1 = 0 ∨ s.p 2 = 0 then (s, true) else (⟨s.q, s.p, s.c, s.e⟩, false)
  | 2 => (⟨fun j => s.p j - k * s.q j, s.q, s.c, s.e⟩, false)
  | 3 => (⟨fun j => s.p j * s.p j, fun j => s.q j * s.q j, s.c, s.e⟩, false)
  | 4 => (⟨s.p, s.q, fun j => if (j : Int) = k.fmod 3 then s.c j + k * s.e j else s.c j, s.e⟩, false)
  | _ => if k = 0 then (s, true) else (⟨s.p, s.q, s.c, fun j => s.e j * k⟩, false)
structure Gd4 (w : Nat) (s : St4) : Prop where
  d : BP w s.p s.q
  c : BP w s.c s.e
theorem BP.mono {i j : Nat} (h : i ≤ j) {p q : Nat -> Int} (x : BP i p q) : BP j p q := fun l hl => let ⟨a, b, c⟩ := x l hl; ⟨up_lt a h, up_lt b h, c⟩
theorem Gd4.mono {i j : Nat} (h : i ≤ j) {s : St4} (x : Gd4 i s) : Gd4 j s := ⟨x.d.mono h, x.c.mono h⟩
theorem k_lt {k : Int} (hk : k.natAbs ≤ 2) : k.natAbs < 2 ^ 2 := Nat.lt_of_le_of_lt hk (by decide)
theorem lin_lt {w : Nat} (hw : 2 ≤ w) {a b k : Int} (ha : a.natAbs < 2 ^ w) (hb : b.natAbs < 2 ^ w) (hk : k.natAbs ≤ 2) : (a + k * b).natAbs < 2 ^ (2 * w) ∧ (a - k * b).natAbs < 2 ^ (2 * w) := by
  have h1 : (k * b).natAbs < 2 ^ (w + 1) := by
    rw [Int.natAbs_mul, Nat.pow_succ, Nat.mul_comm]
    exact Nat.lt_of_le_of_lt (Nat.mul_le_mul_left _ hk) (Nat.mul_lt_mul_of_pos_right hb (by decide))
  have h2 : w + 1 + 1 ≤ 2 * w := by rw [Nat.two_mul]; exact Nat.add_le_add_left hw w
  have ha := up_lt ha (Nat.le_succ w)
  refine ⟨up_lt (iadd_lt ha h1) h2, ?_⟩
  rw [Int.sub_eq_add_neg]
  exact up_lt (iadd_lt ha (by rw [Int.natAbs_neg]; exact h1)) h2
theorem mdl_bd {w kd : Nat} {k : Int} {s : St4} (hw : 2 ≤ w) (hk : k.natAbs ≤ 2) (h : Gd4 w s) : Gd4 (2 * w) (mdl kd k s).1 := by
  have h2 := h.mono (show w ≤ 2 * w by omega)
  have tw : w + w = 2 * w := by omega
  unfold mdl
  match kd with
  | 0 => exact ⟨h2.d, fun j hj => let ⟨a, b, z⟩ := h.d j hj; let ⟨a', b', z'⟩ := h.c j hj; ⟨tw ▸ imul_lt a' a, tw ▸ imul_lt b' b, Int.mul_ne_zero z' z⟩⟩
  | 1 =>
    show Gd4 (2 * w) (if s.p 0 = 0 ∨ s.p 1 = 0 ∨ s.p 2 = 0 then (s, true) else (⟨s.q, s.p, s.c, s.e⟩, false)).1
    split
    . exact h2
    . rename_i hn
      refine ⟨fun j hj => ⟨(h2.d j hj).2.1, (h2.d j hj).1, fun z => hn ?_⟩, h2.c⟩
      rcases lt3 hj with rfl | rfl | rfl
      . exact .inl z
      . exact .inr (.inl z)
      . exact .inr (.inr z)
  | 2 => exact ⟨fun j hj => let ⟨a, b, z⟩ := h.d j hj; ⟨(lin_lt hw a b hk).2, (h2.d j hj).2⟩, h2.c⟩
  | 3 => exact ⟨fun j hj => let ⟨a, b, z⟩ := h.d j hj; ⟨tw ▸ imul_lt a a, tw ▸ imul_lt b b, Int.mul_ne_zero z z⟩, h2.c⟩
  | 4 =>
    refine ⟨h2.d, fun j hj => ⟨?_, (h2.c j hj).2⟩⟩
    show (if (j : Int) = k.fmod 3 then s.c j + k * s.e j else s.c j).natAbs < _
    split
    . exact (lin_lt hw (h.c j hj).1 (h.c j hj).2.1 hk).1
    . exact (h2.c j hj).1
  | n + 5 =>
    show Gd4 (2 * w) (if k = 0 then (s, true) else (⟨s.p, s.q, s.c, fun j => s.e j * k⟩, false)).1
    split
    . exact h2
    . rename_i hn
      exact ⟨h2.d, fun j hj => ⟨(h2.c j hj).1, up_lt (imul_lt (h.c j hj).2.1 (k_lt hk)) (by omega), Int.mul_ne_zero (h.c j hj).2.2 hn⟩⟩
section
variable {Φ : Funs} {γ : Env'}
theorem ev_enum {a : PE} {l : Nat} {f : Nat -> PyData} (ha : evE Φ γ a = some (tab 3 f, l)) : evI Φ γ (.enum a) = some ((List.range 3).map fun j => .tuple [.int (j : Int), f j]) := bnd ha rfl
theorem compE {elt a : PE} {l : Nat} {f g : Nat -> PyData} (ha : evE Φ γ a = some (tab 3 f, l)) (h : ∀ c : Nat, c < 3 -> ∃ l, evE Φ (.pl (.int (c : Int)) :: .pl (f c) :: γ) elt = some (g c, l)) : evE Φ γ (.comp elt 2 (.enum a) .tt) = some (tab 3 g, 1) :=
  compX (ev_enum ha) fun c hc => let ⟨l, e⟩ := h c hc; ⟨_, l, rfl, e⟩
end
theorem cmpT {a b : Int} (h : a = b) : cmpD .eq (.int a) (.int b) = some true := (cmp_eq_int a b).trans (congrArg some (decide_eq_true h))
theorem cmpF {a b : Int} (h : a ≠ b) : cmpD .eq (.int a) (.int b) = some false := (cmp_eq_int a b).trans (congrArg some (decide_eq_false h))
theorem in_firsts {p : Nat -> Int} : cmpD .isin (.int 0) (tab 3 fun j => .int (p j)) = some (decide (p 0 = 0 ∨ p 1 = 0 ∨ p 2 = 0)) := by
  show (if [p 0, p 1, p 2].length ≤ lenLim then some ([p 0, p 1, p 2].contains 0) else none) = _
  refine (if_pos (lenLim_ge (Nat.le_add_left 3 997))).trans (congrArg some ?_)
  rw [Bool.eq_iff_iff, List.contains_iff_mem, decide_eq_true_iff]
  simp only [List.mem_cons, List.not_mem_nil, or_false]
  constructor
  . rintro (h | h | h)
    . exact .inl h.symm
    . exact .inr (.inl h.symm)
    . exact .inr (.inr h.symm)
  . rintro (h | h | h)
    . exact .inl h.symm
    . exact .inr (.inl h.symm)
    . exact .inr (.inr h.symm)
theorem mod3 (k : Int) : binD .mod (.int k) (.int 3) = some (.int (k.fmod 3), 0) := mod_int (by decide) (lim_gt (Nat.lt_of_lt_of_le (show 3 < 2 ^ 2 by decide) (Nat.pow_le_pow_right (by decide) (by decide))))
theorem model_ok {K : Nat} (hK : 30 < K) {w kd : Nat} {k : Int} {s : St4} (hw : w + 2 ≤ 7999) (hk : k.natAbs ≤ 2) (hkd : kd < 6) (h : Gd4 w s) :
    T9 K 30 [.int (kd : Int), .int k, encP s.p s.q, encP s.c s.e] = some (.ret (.tuple [encP (mdl kd k s).1.p (mdl kd k s).1.q, encP (mdl kd k s).1.c (mdl kd k s).1.e, .bool (mdl kd k s).2]) 0) := by
  rw [t9 f9_30 rfl rfl (by decide) hK]
  have w1 : w ≤ 7999 := by omega
  have kl := k_lt hk
  obtain rfl | rfl | rfl | rfl | rfl | rfl := lt6 hkd
  . apply evF_ret rfl
    refine st_trueX (eK (eV rfl) vL (cmpT rfl)) (st_ret (ev_tup (eC (eV rfl) (eC (compZ (f := fun j => pr (s.c j) (s.e j)) (f' := fun j => pr (s.p j) (s.q j)) (eV rfl) (eV rfl) (by decide) fun j hj => ⟨0, ?_⟩) (eC vL eN))))) nofun
    exact ev_tup (eC (eB (eI (eV rfl) vL (idxp0 _ _)) (eI (eV rfl) vL (idxp0 _ _)) (mulk w1 w1 (h.c j hj).1 (h.d j hj).1)) (eC (eB (eI (eV rfl) vL (idxp1 _ _)) (eI (eV rfl) vL (idxp1 _ _)) (mulk w1 w1 (h.c j hj).2.1 (h.d j hj).2.1)) eN))
  . have t1 := eK (Φ := T9 30) (γ := [.pl (.int 1), .pl (.int k), .pl (encP s.p s.q), .pl (encP s.c s.e)]) (vL (d := .int 0)) (compL (g := fun j => .int (s.p j)) (f := fun j => pr (s.p j) (s.q j)) (eV (i := 2) rfl) (by decide) fun j hj => ⟨0, eI (eV (i := 0) rfl) vL (idxp0 _ _)⟩) in_firsts
    unfold mdl
    by_cases hz : s.p 0 = 0 ∨ s.p 1 = 0 ∨ s.p 2 = 0
    . rw [decide_eq_true hz] at t1
      rw [if_pos hz]
      apply evF_ret rfl
      exact st_else (eK (eV rfl) vL (cmpF (by decide))) (st_trueX (eK (eV rfl) vL (cmpT rfl)) (st_trueX t1 (st_ret (ev_tup (eC (eV rfl) (eC (eV rfl) (eC vL eN))))) nofun) nofun)
    . rw [decide_eq_false hz] at t1
      rw [if_neg hz]
      apply evF_ret rfl
      exact st_else (eK (eV rfl) vL (cmpF (by decide))) (st_trueX (eK (eV rfl) vL (cmpT rfl)) (st_else t1 (st_ret (ev_tup (eC (compL (f := fun j => pr (s.p j) (s.q j)) (eV rfl) (by decide) fun j hj => ⟨0, ev_tup (eC (eI (eV rfl) vL (idxp1 _ _)) (eC (eI (eV rfl) vL (idxp0 _ _)) eN))⟩) (eC (eV rfl) (eC vL eN)))))) nofun)
  . apply evF_ret rfl
    refine st_else (eK (eV rfl) vL (cmpF (by decide))) (st_else (eK (eV rfl) vL (cmpF (by decide))) (st_trueX (eK (eV rfl) vL (cmpT rfl)) (st_ret (ev_tup (eC (compL (f := fun j => pr (s.p j) (s.q j)) (eV rfl) (by decide) fun j hj => ⟨0, ?_⟩) (eC (eV rfl) (eC vL eN))))) nofun))
    exact ev_tup (eC (eB (eI (eV rfl) vL (idxp0 _ _)) (eB (eV rfl) (eI (eV rfl) vL (idxp1 _ _)) (mulk (by decide) w1 kl (h.d j hj).2.1)) rfl) (eC (eI (eV rfl) vL (idxp1 _ _)) eN))
  . apply evF_ret rfl
    refine st_else (eK (eV rfl) vL (cmpF (by decide))) (st_else (eK (eV rfl) vL (cmpF (by decide))) (st_else (eK (eV rfl) vL (cmpF (by decide))) (st_trueX (eK (eV rfl) vL (cmpT rfl)) (st_ret (ev_tup (eC (compL (f := fun j => pr (s.p j) (s.q j)) (eV rfl) (by decide) fun j hj => ⟨0, ?_⟩) (eC (eV rfl) (eC vL eN))))) nofun)))
    exact ev_tup (eC (eB (eI (eV rfl) vL (idxp0 _ _)) (eI (eV rfl) vL (idxp0 _ _)) (mulk w1 w1 (h.d j hj).1 (h.d j hj).1)) (eC (eB (eI (eV rfl) vL (idxp1 _ _)) (eI (eV rfl) vL (idxp1 _ _)) (mulk w1 w1 (h.d j hj).2.1 (h.d j hj).2.1)) eN))
  . apply evF_ret rfl
    refine st_else (eK (eV rfl) vL (cmpF (by decide))) (st_else (eK (eV rfl) vL (cmpF (by decide))) (st_else (eK (eV rfl) vL (cmpF (by decide))) (st_else (eK (eV rfl) vL (cmpF (by decide))) (st_trueX (eK (eV rfl) vL (cmpT rfl)) (st_ret (ev_tup (eC (eV rfl) (eC (compE (f := fun j => pr (s.c j) (s.e j)) (g := fun j => pr (if (j : Int) = k.fmod 3 then s.c j + k * s.e j else s.c j) (s.e j)) (eV rfl) fun j hj => ⟨0, ?_⟩) (eC vL eN))))) nofun))))
    refine bnd (eK (eV rfl) (eB (eV rfl) vL (mod3 k)) (cmp_eq_int _ _)) ?_
    by_cases e : (j : Int) = k.fmod 3
    . rw [decide_eq_true e, if_pos e]
      exact ev_tup (eC (eB (eI (eV rfl) vL (idxp0 _ _)) (eB (eV rfl) (eI (eV rfl) vL (idxp1 _ _)) (mulk (by decide) w1 kl (h.c j hj).2.1)) rfl) (eC (eI (eV rfl) vL (idxp1 _ _)) eN))
    . rw [decide_eq_false e, if_neg e]
      exact (show evE (T9 30) [.pl (.int (j : Int)), .pl (pr (s.c j) (s.e j)), .pl (.int 4), .pl (.int k), .pl (encP s.p s.q), .pl (encP s.c s.e)] (.var 1) = _ from eV rfl)
  . unfold mdl
    by_cases hz : k = 0
    . rw [if_pos hz]
      apply evF_ret rfl
      exact st_else (eK (eV rfl) vL (cmpF (by decide))) (st_else (eK (eV rfl) vL (cmpF (by decide))) (st_else (eK (eV rfl) vL (cmpF (by decide))) (st_else (eK (eV rfl) vL (cmpF (by decide))) (st_else (eK (eV rfl) vL (cmpF (by decide))) (st_trueX (eK (eV rfl) vL (cmpT hz)) (st_ret (ev_tup (eC (eV rfl) (eC (eV rfl) (eC vL eN))))) nofun)))))
    . rw [if_neg hz]
      apply evF_ret rfl
      exact st_else (eK (eV rfl) vL (cmpF (by decide))) (st_else (eK (eV rfl) vL (cmpF (by decide))) (st_else (eK (eV rfl) vL (cmpF (by decide))) (st_else (eK (eV rfl) vL (cmpF (by decide))) (st_else (eK (eV rfl) vL (cmpF (by decide))) (st_else (eK (eV rfl) vL (cmpF hz)) (st_ret (ev_tup (eC (eV rfl) (eC (compL (f := fun j => pr (s.c j) (s.e j)) (eV rfl) (by decide) fun j hj => ⟨0, ev_tup (eC (eI (eV rfl) vL (idxp0 _ _)) (eC (eB (eI (eV rfl) vL (idxp1 _ _)) (eV rfl) (mulk w1 (by decide) (h.c j hj).2.1 kl)) eN))⟩) (eC vL eN))))))))))
end Mine
end
section
set_option maxRecDepth 100000
namespace Mine
open PySem
theorem tower_atW {j : Nat} {f : PFun} (hf : fs9[j]? = some f) (hw : f.wk = true) : ∀ {k : Nat}, j < k -> k ≤ 1000 -> ∀ args, T9 k (1000 + j) args = evF (T9 j) 40000 true f args
  | k + 1, h, h2, args => by
    show (match fs9[k]? with | some f => if f.wk then (if 1000 + j = 1000 + k then evF (tower fs9 40000 k) 40000 true f args else tower fs9 40000 k (1000 + j) args) else if 1000 + j = k then evF (tower fs9 40000 k) 40000 false f args else tower fs9 40000 k (1000 + j) args | none => tower fs9 40000 k (1000 + j) args) = _
    rcases Nat.lt_succ_iff_lt_or_eq.mp h with e | e
    . have ih := tower_atW hf hw e (Nat.le_of_succ_le h2) args
      rw [← ih]
      cases fs9[k]? with
      | none => rfl
      | some f' =>
        show (if f'.wk then _ else _) = _
        rw [if_neg (show ¬ 1000 + j = 1000 + k by first | assumption | decide | exact Nat.le_of_lt ‹_› | exact Nat.le_trans ‹_› (by decide) | exact Nat.lt_of_lt_of_le ‹_› (by decide) | omega), if_neg (show ¬ 1000 + j = k by first | assumption | decide | exact Nat.le_of_lt ‹_› | exact Nat.le_trans ‹_› (by decide) | exact Nat.lt_of_lt_of_le ‹_› (by decide) | omega)]
        exact ite_self _
    . subst e
      rw [hf]
      show (if f.wk then _ else _) = _
      rw [hw, if_pos rfl, if_pos rfl]
      rfl
section
variable {Φ : Funs} {fu : Nat} {tp : Bool} {γ γ' : Env'} {res : Flw × Env'} {rest : PSs}
theorem st_tryM {i f n c y : Nat} {as : PEs} {it : PI} {d : PyData} {xs ds : List PyData} (h : evI Φ γ it = some xs) (h2 : tryL (fun d => (bindC n d γ).bind fun g => (evEs Φ g as).bind fun vs => Φ f vs) xs = some (.inl ds)) (hr : evSs Φ fu tp (γ.set i (.pl (.list ds))) rest = some res) : evSs Φ fu tp γ (.cons (.tryM i f as n it c y d) rest) = some res := ss_next (bnd h (bnd h2 rfl)) hr
theorem st_tryMX {i f n c y : Nat} {as : PEs} {it : PI} {d : PyData} {xs : List PyData} (h : evI Φ γ it = some xs) (h2 : tryL (fun d => (bindC n d γ).bind fun g => (evEs Φ g as).bind fun vs => Φ f vs) xs = some (.inr c)) (htp : tp = true) (hr : evSs Φ fu tp (γ.set y (.pl d)) rest = some res) : evSs Φ fu tp γ (.cons (.tryM i f as n it c y d) rest) = some res := by
  subst htp
  refine ss_next (bnd h (bnd h2 ?_)) hr
  show (if (true && c == c) then _ else _) = _
  rw [beq_self_eq_true]
  rfl
theorem tl_cons {F : PyData -> Option Out} {d v : PyData} {l : Nat} {ds vs : List PyData} (h : F d = some (.ret v l)) (hr : tryL F ds = some (.inl vs)) : tryL F (d :: ds) = some (.inl (v :: vs)) := bnd h (bnd hr rfl)
theorem tl_exc {F : PyData -> Option Out} {d : PyData} {c : Nat} {ds : List PyData} (h : F d = some (.exc c)) : tryL F (d :: ds) = some (.inr c) := bnd h rfl
theorem st_asgW {i f : Nat} {as : PEs} {xs : List PyData} {v : PyData} {l : Nat} (h : evEs Φ γ as = some xs) (h2 : Φ (1000 + f) xs = some (.ret v l)) (htp : tp = true) (hr : evSs Φ fu tp (γ.set i (.pl v)) rest = some res) : evSs Φ fu tp γ (.cons (.asgW i f as) rest) = some res := by
  subst htp
  exact ss_next (bnd h (bnd h2 rfl)) hr
end
theorem Bd.cast {k : Nat} (hk : 1 ≤ k) {n : Int} (h : n.natAbs < 2 ^ k) : Bd k (n : Rat) := ⟨h, Nat.lt_of_lt_of_le (show 1 < 2 ^ 1 by decide) (Nat.pow_le_pow_right (by decide) hk)⟩
theorem sm3_bd {u : Nat -> Int} {r : Nat -> Rat} {d : Int} {a w e : Nat} (ha : 1 ≤ a) (he : 1 ≤ e) (hu : ∀ j, j < 3 -> (u j).natAbs < 2 ^ a) (hr : BV w 3 r) (hd : d.natAbs < 2 ^ e) (hd0 : d ≠ 0) : Bd (3 * w + 3 * a + 2 + e) (sm3 u r d) := by
  unfold sm3
  have m : ∀ j, j < 3 -> Bd (a + w) (((u j : Int) : Rat) * r j) := fun j hj => (Bd.cast ha (hu j hj)).mul (hr j hj)
  have s := ((m 0 (by decide)).add (m 1 (by decide))).add (m 2 (by decide))
  exact (s.div (fun z => hd0 (Rat.intCast_inj.mp z)) (Bd.cast he hd)).mono (by first | assumption | decide | exact Nat.le_of_lt ‹_› | exact Nat.le_trans ‹_› (by decide) | exact Nat.lt_of_lt_of_le ‹_› (by decide) | omega)
theorem val_bd {w : Nat} {p q : Nat -> Int} (h : BP w p q) : BV w 3 (val p q) := fun j hj => let ⟨a, b, z⟩ := h j hj; Bd.divInt z a b
section
variable {P A : Nat -> Nat -> Int} {d : Int}
theorem dueM_bd (T : Tb P A d) {w : Nat} {r : Nat -> Rat} (hr : BV w 3 r) : BM (3 * w + 26) 3 (dueM P A d r) := fun i hi k hk =>
  (sm3_bd (a := 6) (e := 6) (by decide) (by decide) (fun j hj => imul_lt (T.bp i j hi hj) (T.ba j k hj hk)) hr T.bd T.nz).mono (by first | assumption | decide | exact Nat.le_of_lt ‹_› | exact Nat.le_trans ‹_› (by decide) | exact Nat.lt_of_lt_of_le ‹_› (by decide) | omega)
theorem dueX_bd (T : Tb P A d) {w : Nat} {r : Nat -> Rat} (hr : BV w 3 r) : BV (3 * w + 9) 3 (dueX P r) := fun i hi =>
  (sm3_bd (a := 2) (e := 1) (by decide) (by decide) (fun j hj => T.bp i j hi hj) hr (by decide) (by decide)).mono (by first | assumption | decide | exact Nat.le_of_lt ‹_› | exact Nat.le_trans ‹_› (by decide) | exact Nat.lt_of_lt_of_le ‹_› (by decide) | omega)
theorem castM_bd (T : Tb P A d) : BM 2 3 (castM P) := fun i hi j hj => Bd.cast (by decide) (T.bp i j hi hj)
end
theorem val_mul {p q p' q' : Nat -> Int} (j : Nat) : val (fun j => p j * p' j) (fun j => q j * q' j) j = val p q j * val p' q' j := (Rat.divInt_mul_divInt _ _).symm
theorem val_sub {p q : Nat -> Int} {k : Int} {j : Nat} (h : q j ≠ 0) : val (fun j => p j - k * q j) q j = val p q j - (k : Rat) := by
  unfold val
  have hq : ((q j : Int) : Rat) ≠ 0 := fun z => h (Rat.intCast_inj.mp z)
  rw [divInt_div, divInt_div, Rat.intCast_sub, Rat.intCast_mul]
  grind
theorem val_add {p q : Nat -> Int} {k : Int} {j : Nat} (h : q j ≠ 0) : Rat.divInt (p j + k * q j) (q j) = val p q j + (k : Rat) := by
  unfold val
  have hq : ((q j : Int) : Rat) ≠ 0 := fun z => h (Rat.intCast_inj.mp z)
  rw [divInt_div, divInt_div, Rat.intCast_add, Rat.intCast_mul]
  grind
theorem val_inv {p q : Nat -> Int} (j : Nat) : val q p j = 1 / val p q j := by
  unfold val
  rw [divInt_div, divInt_div]
  grind
theorem val_scale {p q : Nat -> Int} {k : Int} (j : Nat) : val p (fun j => q j * k) j = val p q j / (k : Rat) := by
  unfold val
  rw [divInt_div, divInt_div, Rat.intCast_mul]
  grind
theorem val_zero {p q : Nat -> Int} {j : Nat} (h : q j ≠ 0) : val p q j = 0 ↔ p j = 0 := by
  unfold val
  have hq : ((q j : Int) : Rat) ≠ 0 := fun z => h (Rat.intCast_inj.mp z)
  rw [divInt_div]
  constructor
  . intro hz
    have : ((p j : Int) : Rat) = ((0 : Int) : Rat) := by
      show ((p j : Int) : Rat) = 0
      grind
    exact Rat.intCast_inj.mp this
  . intro hz
    rw [hz]
    show (0 : Rat) / _ = 0
    grind
section
variable {P A : Nat -> Nat -> Int} {d : Int} {s : St4}
noncomputable abbrev mach (P A : Nat -> Nat -> Int) (d : Int) (s : St4) : PyData := enc 3 (dueM P A d (val s.p s.q))
noncomputable abbrev stat (P : Nat -> Nat -> Int) (s : St4) : PyData := rwD 3 (dueX P (val s.c s.e))
theorem dueX_div (T : Tb P A d) (c : Nat -> Rat) (k : Rat) (i : Nat) : dueX P (fun j => c j / k) i = dueX P c i / k := by
  rw [dueX_mv, dueX_mv]
  unfold mv
  grind
theorem frac_x {x : Rat} {k : Int} : Rat.divInt x.num (k * (x.den : Int)) = x / (k : Rat) := by
  have e : x = (x.num : Rat) / ((x.den : Int) : Rat) := (Rat.num_divInt_den x).symm.trans (divInt_div _ _)
  rw [divInt_div, Rat.intCast_mul]
  generalize ((x.num : Int) : Rat) = a at *
  generalize (((x.den : Nat) : Int) : Rat) = b at *
  rw [e]
  grind
theorem run5 {x : Nat -> Rat} (hx : BV 100 3 x) {k : Int} (hk : k.natAbs ≤ 2) {a p : PyData} :
    ∃ γ', evSs (T9 29) 40000 true [.pl (.int 5), .pl (.int k), .pl a, .pl (rwD 3 x), .pl p, .pl (.bool false), .un] (.cons (.asg 6 (.comp (.mth .split (.bin .add (.call 9 (.cons (.var 0) .nil)) (.lit (.str ("/1" : Str)))) (.lit (.str ("/" : Str)))) 1 (.of (.var 3)) .tt))
      (.cons (.tryM 3 3 (.cons (.blt .int (.idx (.var 0) (.lit (.int 0)))) (.cons (.bin .mul (.var 2) (.blt .int (.idx (.var 0) (.lit (.int 1))))) .nil)) 1 (.of (.var 6)) 0 5 (.bool true)) .nil)) = some (.next, γ') ∧ γ'[2]? = some (.pl a) ∧ γ'[3]? = some (.pl (rwD 3 (fun i => if k = 0 then x i else x i / (k : Rat)))) ∧ γ'[5]? = some (.pl (.bool (decide (k = 0)))) := by
  have hl : ∀ j, j < 3 -> (txt (x j)).length ≤ 203 := fun j hj => by
    have l1 := strI_small (i := (x j).num) (k := 100) (by decide) (hx j hj).1
    have l2 := strI_small (i := ((x j).den : Int)) (k := 100) (by decide) (by rw [Int.natAbs_natCast]; exact (hx j hj).2)
    have ls : (("/" : Str)).length = 1 := by decide
    unfold txt
    split
    . omega
    . rw [app_len, app_len]; omega
  have ls : (("/1" : Str)).length = 2 := by decide
  have sp : ∀ j, j < 3 -> mthD .split (.str (txt (x j) ++ ("/1" : Str))) (.str ("/" : Str)) = some (.list ((Txt.split (txt (x j) ++ ("/1" : Str)) ("/" : Str)).map .str), 1) := fun j hj => by
    obtain ⟨rest, e, hr⟩ := parts_ok (x j)
    refine if_pos ?_
    have h := hl j hj
    rw [e, app_len, ls]
    have : (("/" : Str)).length = 1 := by decide
    rw [this]
    simp only [Bool.and_eq_true, decide_eq_true_eq]
    exact ⟨⟨by decide, lenLim_ge (by first | assumption | decide | exact Nat.le_of_lt ‹_› | exact Nat.le_trans ‹_› (by decide) | exact Nat.lt_of_lt_of_le ‹_› (by decide) | omega)⟩, lenLim_ge (by rw [List.length_cons, List.length_cons]; omega)⟩
  have cp := compL (Φ := T9 29) (γ := [.pl (.int 5), .pl (.int k), .pl a, .pl (rwD 3 x), .pl p, .pl (.bool false), .un]) (elt := .mth .split (.bin .add (.call 9 (.cons (.var 0) .nil)) (.lit (.str ("/1" : Str)))) (.lit (.str ("/" : Str)))) (a := .var 3) (n := 3) (f := fun j => fq (x j)) (g := fun j => .list ((Txt.split (txt (x j) ++ ("/1" : Str)) ("/" : Str)).map .str)) (eV rfl) (by decide) fun j hj => ⟨1, ev_mth (eB (eF (eC (eV rfl) eN) (ftext_ok (by decide) (hx j hj))) vL (cat_ok (by have := hl j hj; omega))) vL (sp j hj)⟩
  have arg : ∀ j, j < 3 -> ∀ γ : Env', evEs (T9 29) (.pl (.list ((Txt.split (txt (x j) ++ ("/1" : Str)) ("/" : Str)).map .str)) :: .pl (.int 5) :: .pl (.int k) :: γ) (.cons (.blt .int (.idx (.var 0) (.lit (.int 0)))) (.cons (.bin .mul (.var 2) (.blt .int (.idx (.var 0) (.lit (.int 1))))) .nil)) = some [.int (x j).num, .int (k * ((x j).den : Int))] := fun j hj γ => by
    obtain ⟨rest, e, hr⟩ := parts_ok (x j)
    rw [e]
    have l1 := strI_small (i := (x j).num) (k := 100) (by decide) (hx j hj).1
    have l2 := strI_small (i := ((x j).den : Int)) (k := 100) (by decide) (by rw [Int.natAbs_natCast]; exact (hx j hj).2)
    exact eC (ev_blt (eI (eV rfl) vL rfl) (int_back (by first | assumption | decide | exact Nat.le_of_lt ‹_› | exact Nat.le_trans ‹_› (by decide) | exact Nat.lt_of_lt_of_le ‹_› (by decide) | omega))) (eC (eB (eV rfl) (ev_blt (eI (eV rfl) vL rfl) (int_back (by first | assumption | decide | exact Nat.le_of_lt ‹_› | exact Nat.le_trans ‹_› (by decide) | exact Nat.lt_of_lt_of_le ‹_› (by decide) | omega))) (mulk (i := 2) (j := 100) (by decide) (by decide) (k_lt hk) (by rw [Int.natAbs_natCast]; exact (hx j hj).2))) eN)
  by_cases hz : k = 0
  . refine ⟨_, st_asg cp (st_tryMX (ev_of (eV rfl) rfl (lenLim_ge (Nat.le_add_left 3 997))) (tl_exc (bnd rfl (bnd (arg 0 (by decide) _) ?_))) rfl st_nil), rfl, ?_, ?_⟩
    . rw [hz, Int.zero_mul]
      exact frac_zero (by decide) _
    . rw [show (fun i => if k = 0 then x i else x i / (k : Rat)) = x from funext fun i => if_pos hz]
      rfl
    . rw [decide_eq_true hz]
      rfl
  . have fr : ∀ j, j < 3 -> T9 29 3 [.int (x j).num, .int (k * ((x j).den : Int))] = some (.ret (fq (x j / (k : Rat))) 0) := fun j hj => by
      have := frac_ok (K := 29) (by decide) (n := (x j).num) (d := k * ((x j).den : Int)) (Int.mul_ne_zero hz (den_ne _)) (up_lt (hx j hj).1 (by decide)) (up_lt (imul_lt (k_lt hk) (show ((x j).den : Int).natAbs < 2 ^ 100 by rw [Int.natAbs_natCast]; exact (hx j hj).2)) (by decide))
      rw [frac_x] at this
      exact this
    refine ⟨_, st_asg cp (st_tryM (ds := [fq (x 0 / (k : Rat)), fq (x 1 / (k : Rat)), fq (x 2 / (k : Rat))]) (ev_of (eV rfl) rfl (lenLim_ge (Nat.le_add_left 3 997))) (tl_cons (bnd rfl (bnd (arg 0 (by decide) _) (fr 0 (by decide)))) (tl_cons (bnd rfl (bnd (arg 1 (by decide) _) (fr 1 (by decide)))) (tl_cons (bnd rfl (bnd (arg 2 (by decide) _) (fr 2 (by decide)))) rfl))) st_nil), rfl, ?_, ?_⟩
    . rw [show (fun i => if k = 0 then x i else x i / (k : Rat)) = fun i => x i / (k : Rat) from funext fun i => if_neg hz]
      rfl
    . rw [decide_eq_false hz]
      rfl
end
end Mine
end
section
set_option maxRecDepth 100000
namespace Mine
open PySem
section
variable {P A : Nat -> Nat -> Int} {d : Int} {s : St4}
theorem st_if {Φ : Funs} {fu : Nat} {tp : Bool} {γ γ' : Env'} {t : PT} {a b rest : PSs} {res : Flw × Env'} (h : evT Φ γ t = some false) (hb : evSs Φ fu tp γ b = some (.next, γ')) (hr : evSs Φ fu tp γ' rest = some res) : evSs Φ fu tp γ (.cons (.ite t a b) rest) = some res := st_false h hb hr
theorem idx_mod {k : Int} {f : Nat -> PyData} : idxD (tab 3 f) (.int (k.fmod 3)) = some (f (k.fmod 3).toNat, 0) := by
  have h1 := Int.fmod_nonneg_of_pos k (show (0 : Int) < 3 by decide)
  have h2 := Int.fmod_lt_of_pos k (show (0 : Int) < 3 by decide)
  have e : k.fmod 3 = (((k.fmod 3).toNat : Nat) : Int) := by omega
  have := idxR (n := 3) (f := f) (i := (k.fmod 3).toNat) (by decide) (by omega)
  rw [← e] at this
  exact this
theorem dueX_col (T : Tb P A d) {c : Nat -> Rat} {k : Int} {i : Nat} (hi : i < 3) : dueX P c i + (k : Rat) * castM P i (k.fmod 3).toNat = dueX P (fun j => if (j : Int) = k.fmod 3 then c j + (k : Rat) else c j) i := by
  have h1 := Int.fmod_nonneg_of_pos k (show (0 : Int) < 3 by decide)
  have h2 := Int.fmod_lt_of_pos k (show (0 : Int) < 3 by decide)
  rw [dueX_mv, dueX_mv]
  unfold mv
  obtain e | e | e : k.fmod 3 = 0 ∨ k.fmod 3 = 1 ∨ k.fmod 3 = 2 := by omega
  all_goals
    rw [e]
    simp
    grind
theorem run_ok {K : Nat} (hK : 29 < K) (hK2 : K ≤ 1000) (T : Tb P A d) {w kd : Nat} {k : Int} (hw : w ≤ 16) (hk : k.natAbs ≤ 2) (hkd : kd < 6) (h : Gd4 w s) :
    T9 K (1000 + 29) [.int (kd : Int), .int k, mach P A d s, stat P s, enc 3 (castM P)] = some (.ret (.tuple [mach P A d (mdl kd k s).1, stat P (mdl kd k s).1, .bool (mdl kd k s).2]) 0) := by
  rw [tower_atW (j := 29) rfl rfl hK hK2]
  have bM := dueM_bd T (val_bd h.d)
  have bX := dueX_bd T (val_bd h.c)
  have bP := castM_bd T
  have out : ∀ {γ : Env'} {a x : PyData} {r : Bool}, γ[2]? = some (.pl a) -> γ[3]? = some (.pl x) -> γ[5]? = some (.pl (.bool r)) -> evSs (T9 29) 40000 true γ (.cons (.ret (.tup (.cons (.var 2) (.cons (.var 3) (.cons (.var 5) .nil))))) .nil) = some (.ret (.tuple [a, x, .bool r]) 0, γ) := fun h1 h2 h3 => st_ret (ev_tup (eC (eV h1) (eC (eV h2) (eC (eV h3) eN))))
  obtain rfl | rfl | rfl | rfl | rfl | rfl := lt6 hkd
  . have e : rwD 3 (fun i => dt (dueM P A d (val s.p s.q) i) (dueX P (val s.c s.e))) = stat P (mdl 0 k s).1 := rwD_congr fun i hi => by
      rw [due_vec T _ _ hi]
      exact congrFun (dueX_congr fun j hj => (val_mul j).symm) i
    have mv := mvec_ok (K := 29) (by decide) (by omega) bM bX
    rw [e] at mv
    apply evF_ret rfl
    exact st_asg vL (st_true (eK (eV rfl) vL (cmpT rfl)) (st_asg (eF (eC (eV rfl) (eC (eV rfl) eN)) mv) st_nil) (out rfl rfl rfl))
  . have iv := inverse_ok (K := 29) (by decide) (by omega) (by omega) bM
    unfold mdl
    by_cases hz : s.p 0 = 0 ∨ s.p 1 = 0 ∨ s.p 2 = 0
    . rw [if_neg (due_sing T _ (by
        rcases hz with z | z | z
        . exact ⟨0, by decide, (val_zero (h.d 0 (by decide)).2.2).mpr z⟩
        . exact ⟨1, by decide, (val_zero (h.d 1 (by decide)).2.2).mpr z⟩
        . exact ⟨2, by decide, (val_zero (h.d 2 (by decide)).2.2).mpr z⟩))] at iv
      rw [if_pos hz]
      apply evF_ret rfl
      exact st_asg vL (st_if (eK (eV rfl) vL (cmpF (by decide))) (st_true (eK (eV rfl) vL (cmpT rfl)) (st_tryX (eC (eV rfl) eN) iv rfl st_nil) st_nil) (out rfl rfl rfl))
    . have hn : ∀ j, j < 3 -> val s.p s.q j ≠ 0 := fun j hj z => hz (by
        have := (val_zero (h.d j hj).2.2).mp z
        rcases lt3 hj with rfl | rfl | rfl
        . exact .inl this
        . exact .inr (.inl this)
        . exact .inr (.inr this))
      obtain ⟨q1, q2⟩ := due_inv T _ hn
      rw [if_pos q1, q2, show (dueM P A d fun j => 1 / val s.p s.q j) = dueM P A d (val s.q s.p) from dueM_congr fun j ζ => (val_inv j).symm] at iv
      rw [if_neg hz]
      apply evF_ret rfl
      exact st_asg vL (st_if (eK (eV rfl) vL (cmpF (by decide))) (st_true (eK (eV rfl) vL (cmpT rfl)) (st_try (eC (eV rfl) eN) iv st_nil) st_nil) (out rfl rfl rfl))
  . have le := les_ok (K := 29) (by decide) (k := (k : Rat)) (b := 2) (by omega) bM (Bd.cast (by decide) (k_lt hk))
    rw [show enc 3 (lesM (dueM P A d (val s.p s.q)) (k : Rat)) = mach P A d (mdl 2 k s).1 from enc_congr fun i j hi hj => by
      rw [due_less T _ _ hi hj]
      exact congrFun (congrFun (dueM_congr fun l hl => (val_sub (h.d l hl).2.2).symm) i) j] at le
    apply evF_ret rfl
    exact st_asg vL (st_if (eK (eV rfl) vL (cmpF (by decide))) (st_if (eK (eV rfl) vL (cmpF (by decide))) (st_true (eK (eV rfl) vL (cmpT rfl)) (st_asg (eF (eC (eV rfl) (eC (ev_tup (eC (eV rfl) (eC vL eN))) eN)) le) st_nil) st_nil) st_nil) (out rfl rfl rfl))
  . have mu := mmul_ok (K := 29) (by decide) (by omega) bM bM
    rw [show enc 3 (mm (dueM P A d (val s.p s.q)) (dueM P A d (val s.p s.q))) = mach P A d (mdl 3 k s).1 from enc_congr fun i j hi hj => by
      rw [due_mul T _ _ hi hj]
      exact congrFun (congrFun (dueM_congr fun l hl => (val_mul l).symm) i) j] at mu
    apply evF_ret rfl
    exact st_asg vL (st_if (eK (eV rfl) vL (cmpF (by decide))) (st_if (eK (eV rfl) vL (cmpF (by decide))) (st_if (eK (eV rfl) vL (cmpF (by decide))) (st_true (eK (eV rfl) vL (cmpT rfl)) (st_asg (eF (eC (eV rfl) (eC (eV rfl) (eC vL (eC vL eN)))) mu) st_nil) st_nil) st_nil) st_nil) (out rfl rfl rfl))
  . have e : (rwD 3 fun i => dueX P (val s.c s.e) i + (k : Rat) * castM P i (k.fmod 3).toNat) = stat P (mdl 4 k s).1 := rwD_congr fun i hi => by
      rw [dueX_col T hi]
      refine congrFun (dueX_congr fun j hj => ?_) i
      show _ = Rat.divInt (if (j : Int) = k.fmod 3 then s.c j + k * s.e j else s.c j) (s.e j)
      by_cases e : (j : Int) = k.fmod 3
      . rw [if_pos e, if_pos e, val_add (h.c j hj).2.2]
      . rw [if_neg e, if_neg e]; rfl
    have tr := transp_ok (K := 29) (by decide) (castM P)
    have m3 : (k.fmod 3).toNat < 3 := by
      have h1 := Int.fmod_nonneg_of_pos k (show (0 : Int) < 3 by decide)
      have h2 := Int.fmod_lt_of_pos k (show (0 : Int) < 3 by decide)
      omega
    have cz : evE (T9 29) [.pl (.int 4), .pl (.int k), .pl (mach P A d s), .pl (stat P s), .pl (enc 3 (castM P)), .pl (.bool false), .un] (.comp (.call 4 (.cons (.var 0) (.cons (.call 7 (.cons (.tup (.cons (.var 3) (.cons (.lit (.int 1)) .nil))) (.cons (.var 1) .nil))) .nil))) 2 (.zip (.var 3) (.idx (.call 12 (.cons (.var 4) (.cons (.lit (.int 3)) .nil))) (.bin .mod (.var 1) (.lit (.int 3))))) .tt) = some (stat P (mdl 4 k s).1, 1) := by
      rw [← e]
      refine compZ (f := fun i => fq (dueX P (val s.c s.e) i)) (f' := fun i => fq (castM P i (k.fmod 3).toNat)) (eV rfl) (eI (eF (eC (eV rfl) (eC vL eN)) tr) (eB (eV rfl) vL (mod3 k)) (idx_mod (f := fun j => rwD 3 fun i => castM P i j))) (by decide) fun i hi => ⟨0, ?_⟩
      have b1 := Bd.cast (k := 2) (by decide) (k_lt hk)
      exact eF (eC (eV rfl) (eC (eF (eC (ev_tup (eC (eV rfl) (eC vL eN))) (eC (eV rfl) eN)) (fmul_ok (a := (k : Rat)) (by decide) (by decide) b1 (bP i hi _ m3))) eN)) (fadd_ok (by decide) (by omega) (bX i hi) (b1.mul (bP i hi _ m3)))
    apply evF_ret rfl
    exact st_asg vL (st_if (eK (eV rfl) vL (cmpF (by decide))) (st_if (eK (eV rfl) vL (cmpF (by decide))) (st_if (eK (eV rfl) vL (cmpF (by decide))) (st_if (eK (eV rfl) vL (cmpF (by decide))) (st_true (eK (eV rfl) vL (cmpT rfl)) (st_asg cz st_nil) st_nil) st_nil) st_nil) st_nil) (out rfl rfl rfl))
  . obtain ⟨γ', e1, e2, e3, e4⟩ := run5 (x := dueX P (val s.c s.e)) (fun i hi => (bX i hi).mono (by omega)) hk (a := mach P A d s) (p := enc 3 (castM P))
    have e : rwD 3 (fun i => if k = 0 then dueX P (val s.c s.e) i else dueX P (val s.c s.e) i / (k : Rat)) = stat P (mdl 5 k s).1 ∧ mach P A d s = mach P A d (mdl 5 k s).1 ∧ decide (k = 0) = (mdl 5 k s).2 := by
      unfold mdl
      by_cases hz : k = 0
      . rw [if_pos hz, decide_eq_true hz]
        exact ⟨rwD_congr fun i ζ => if_pos hz, rfl, rfl⟩
      . rw [if_neg hz, decide_eq_false hz]
        refine ⟨rwD_congr fun i ζ => ?_, rfl, rfl⟩
        rw [if_neg hz, ← dueX_div T]
        exact congrFun (dueX_congr fun j ζ => (val_scale j).symm) i
    rw [e.1] at e3
    rw [e.2.1] at e2
    rw [e.2.2] at e4
    apply evF_ret rfl
    exact st_asg vL (st_if (eK (eV rfl) vL (cmpF (by decide))) (st_if (eK (eV rfl) vL (cmpF (by decide))) (st_if (eK (eV rfl) vL (cmpF (by decide))) (st_if (eK (eV rfl) vL (cmpF (by decide))) (st_if (eK (eV rfl) vL (cmpF (by decide))) e1 st_nil) st_nil) st_nil) st_nil) (out e2 e3 e4))
end
end Mine
end
section
set_option maxRecDepth 100000
namespace Mine
open PySem
theorem num_den (r : Rat) : Rat.divInt r.num (r.den : Int) = r := Rat.num_divInt_den r
section
variable {A : Nat -> Nat -> Int} {d : Int} {p q c e : Nat -> Int} {v : Nat -> Rat}
noncomputable def svBody : PSs := (.cons (.ite (.cmp .ne (.idx (.var 4) (.var 5)) (.call 24 (.cons (.idx (.idx (.var 4) (.var 5)) (.lit (.int 0))) (.cons (.idx (.idx (.var 4) (.var 5)) (.lit (.int 1))) .nil)))) (.cons (.ret (.lit (.bool false)))
  .nil) .nil)
  (.cons (.ite (.cmp .ne (.idx (.idx (.var 2) (.var 5)) (.lit (.int 0))) (.lit (.int 0))) (.cons (.ite (.cmp .ne (.call 25 (.cons (.idx (.var 0) (.var 5)) (.cons (.var 4) (.cons (.var 1) .nil)))) (.call 24 (.cons (.bin .mul (.idx (.idx (.var 3) (.var 5)) (.lit (.int 0))) (.idx (.idx (.var 2) (.var 5)) (.lit (.int 1)))) (.cons (.bin .mul (.idx (.idx (.var 3) (.var 5)) (.lit (.int 1))) (.idx (.idx (.var 2) (.var 5)) (.lit (.int 0)))) .nil)))) (.cons (.ret (.lit (.bool false)))
  .nil) .nil)
  .nil) .nil)
  .nil))
theorem ne_fq_self (a : Rat) : cmpD .ne (fq a) (fq a) = some false := (cmp_ne_fq a a).trans (congrArg some (not_dec rfl))
theorem sv_turn {b w k ee : Nat} (hA : BI b A) (hd : d.natAbs < 2 ^ ee) (hd0 : d ≠ 0) (hp : BP w p q) (hc : BP w c e) (hv : BV k 3 v) (h1 : 3 * k + b + 3 ≤ 7999) (h2 : 3 * k + ee ≤ 7999) (h3 : 2 * w ≤ 7999) {j : Nat} (hj : j < 3) (hS : p j ≠ 0 -> sm3 (A j) v d = Rat.divInt (c j * q j) (e j * p j)) :
    evSs (T9 31) 40000 false [.pl (encI A), .pl (.int d), .pl (encP p q), .pl (encP c e), .pl (rwD 3 v), .pl (.int (j : Int))] svBody = some (.next, [.pl (encI A), .pl (.int d), .pl (encP p q), .pl (encP c e), .pl (rwD 3 v), .pl (.int (j : Int))]) := by
  have i1 := idxR (n := 3) (f := fun j => fq (v j)) (by decide) hj
  have lo := low_ok (K := 31) (by decide) (n := (v j).num) (d := ((v j).den : Int)) (den_ne _) (by rw [Int.natAbs_natCast]; exact up_lt (hv j hj).2 (by first | assumption | decide | exact Nat.le_of_lt ‹_› | exact Nat.le_trans ‹_› (by decide) | exact Nat.lt_of_lt_of_le ‹_› (by decide) | omega))
  rw [num_den] at lo
  have ip := idxR (n := 3) (f := fun j => pr (p j) (q j)) (by decide) hj
  have ic := idxR (n := 3) (f := fun j => pr (c j) (e j)) (by decide) hj
  refine st_else (eK (eI (eV rfl) (eV rfl) i1) (eF (eC (eI (eI (eV rfl) (eV rfl) i1) vL (idx0 _)) (eC (eI (eI (eV rfl) (eV rfl) i1) vL (idx1 _)) eN)) lo) (ne_fq_self _)) ?_
  have t : evT (T9 31) [.pl (encI A), .pl (.int d), .pl (encP p q), .pl (encP c e), .pl (rwD 3 v), .pl (.int (j : Int))] (.cmp .ne (.idx (.idx (.var 2) (.var 5)) (.lit (.int 0))) (.lit (.int 0))) = some (!decide (p j = 0)) := eK (eI (eI (eV rfl) (eV rfl) ip) vL (idxp0 _ _)) vL (cmp_ne_int _ _)
  by_cases hz : p j = 0
  . rw [not_dec hz] at t
    exact st_else t st_nil
  . rw [not_dec' hz] at t
    obtain ⟨p1, q1, z1⟩ := hp j hj
    obtain ⟨c1, e1, z2⟩ := hc j hj
    have su := sum_ok (K := 31) (by decide) (u := A j) (p := fun j => (v j).num) (q := fun j => ((v j).den : Int)) (d := d) h1 h2 (fun l hl => hA j l hj hl) (fun l hl => ⟨(hv l hl).1, by rw [Int.natAbs_natCast]; exact (hv l hl).2, den_ne _⟩) hd hd0
    rw [show (fun j => Rat.divInt (v j).num ((v j).den : Int)) = v from funext fun j => num_den _, hS hz] at su
    have l2 := low_ok (K := 31) (by decide) (n := c j * q j) (d := e j * p j) (Int.mul_ne_zero z2 hz) (up_lt (imul_lt e1 p1) (by first | assumption | decide | exact Nat.le_of_lt ‹_› | exact Nat.le_trans ‹_› (by decide) | exact Nat.lt_of_lt_of_le ‹_› (by decide) | omega))
    refine st_true t (st_else (eK (eF (eC (eI (eV rfl) (eV rfl) (idxR (n := 3) (f := fun i => tab 3 fun j => .int (A i j)) (by decide) hj)) (eC (eV rfl) (eC (eV rfl) eN))) su) (eF (eC (eB (eI (eI (eV rfl) (eV rfl) ic) vL (idxp0 _ _)) (eI (eI (eV rfl) (eV rfl) ip) vL (idxp1 _ _)) (mulk (by first | assumption | decide | exact Nat.le_of_lt ‹_› | exact Nat.le_trans ‹_› (by decide) | exact Nat.lt_of_lt_of_le ‹_› (by decide) | omega) (by first | assumption | decide | exact Nat.le_of_lt ‹_› | exact Nat.le_trans ‹_› (by decide) | exact Nat.lt_of_lt_of_le ‹_› (by decide) | omega) c1 q1)) (eC (eB (eI (eI (eV rfl) (eV rfl) ic) vL (idxp1 _ _)) (eI (eI (eV rfl) (eV rfl) ip) vL (idxp0 _ _)) (mulk (by first | assumption | decide | exact Nat.le_of_lt ‹_› | exact Nat.le_trans ‹_› (by decide) | exact Nat.lt_of_lt_of_le ‹_› (by decide) | omega) (by first | assumption | decide | exact Nat.le_of_lt ‹_› | exact Nat.le_trans ‹_› (by decide) | exact Nat.lt_of_lt_of_le ‹_› (by decide) | omega) e1 p1)) eN)) l2) (ne_fq_self _)) st_nil) st_nil
theorem solves_ok {K : Nat} (hK : 31 < K) {b w k ee : Nat} (hA : BI b A) (hd : d.natAbs < 2 ^ ee) (hd0 : d ≠ 0) (hp : BP w p q) (hc : BP w c e) (hv : BV k 3 v) (h1 : 3 * k + b + 3 ≤ 7999) (h2 : 3 * k + ee ≤ 7999) (h3 : 2 * w ≤ 7999) (hS : ∀ j, j < 3 -> p j ≠ 0 -> sm3 (A j) v d = Rat.divInt (c j * q j) (e j * p j)) :
    T9 K 31 [encI A, .int d, encP p q, encP c e, rwD 3 v] = some (.ret (.bool true) 0) := by
  rw [t9 f9_31 rfl rfl (by decide) hK]
  apply evF_ret rfl
  refine st_else (eK (ev_blt (eV rfl) (lenR (n := 3) (by decide))) vL ((cmp_ne_int _ _).trans rfl)) ?_
  refine st_for ((ev_r1 ev_lit3 (okR_nat (n := 3) (by decide))).trans (congrArg some (range_map 3))) (fl_cons (sv_turn hA hd hd0 hp hc hv h1 h2 h3 (j := 0) (by decide) (hS 0 (by decide))) (fl_cons (sv_turn hA hd hd0 hp hc hv h1 h2 h3 (j := 1) (by decide) (hS 1 (by decide))) (fl_cons (sv_turn hA hd hd0 hp hc hv h1 h2 h3 (j := 2) (by decide) (hS 2 (by decide))) fl_nil))) ?_
  exact st_ret vL
end
theorem redS_bd {w c B : Nat} {s : RS} (hc : c < w) (hl : s.pv.length ≤ 3) (h : BM (bb B s.pv.length) w s.m) : (redS c s).pv.length ≤ 3 ∧ BM (bb B (redS c s).pv.length) w (redS c s).m := by
  unfold redS
  cases hf : ffirst s.m c s.pv.length (3 - s.pv.length) with
  | none => exact ⟨hl, h⟩
  | some f =>
    obtain ⟨f1, f2, f3⟩ := ffirst_some hf
    have ht : s.pv.length < 3 := by first | assumption | decide | exact Nat.le_of_lt ‹_› | exact Nat.le_trans ‹_› (by decide) | exact Nat.lt_of_lt_of_le ‹_› (by decide) | omega
    have hfl : f < 3 := by first | assumption | decide | exact Nat.le_of_lt ‹_› | exact Nat.le_trans ‹_› (by decide) | exact Nat.lt_of_lt_of_le ‹_› (by decide) | omega
    have gp : fsw s.m s.pv.length f s.pv.length c ≠ 0 := by
      have : fsw s.m s.pv.length f s.pv.length c = s.m f c := if_pos rfl
      rw [this]; exact f3
    show (s.pv ++ [c]).length ≤ 3 ∧ BM (bb B (s.pv ++ [c]).length) w _
    rw [List.length_append]
    exact ⟨ht, clr_bd ht hc gp (fsw_bd ht hfl h)⟩
theorem redF_bd {w B : Nat} {M : Mx} (hw : 3 ≤ w) (h : BM B w M) : BM (bb B (redF 3 M).pv.length) w (redF 3 M).m := by
  have e : redF 3 M = redS 2 (redS 1 (redS 0 ⟨M, []⟩)) := rfl
  rw [e]
  have a := redS_bd (w := w) (c := 0) (B := B) (s := ⟨M, []⟩) (by first | assumption | decide | exact Nat.le_of_lt ‹_› | exact Nat.le_trans ‹_› (by decide) | exact Nat.lt_of_lt_of_le ‹_› (by decide) | omega) (Nat.zero_le _) h
  have b := redS_bd (w := w) (c := 1) (by first | assumption | decide | exact Nat.le_of_lt ‹_› | exact Nat.le_trans ‹_› (by decide) | exact Nat.lt_of_lt_of_le ‹_› (by decide) | omega) a.1 a.2
  exact (redS_bd (w := w) (c := 2) (by first | assumption | decide | exact Nat.le_of_lt ‹_› | exact Nat.le_trans ‹_› (by decide) | exact Nat.lt_of_lt_of_le ‹_› (by decide) | omega) b.1 b.2).2
theorem bb2 {B p : Nat} (hp : p ≤ 2) : bb B p ≤ 16 * B + 5 := by
  have : p = 0 ∨ p = 1 ∨ p = 2 := by first | assumption | decide | exact Nat.le_of_lt ‹_› | exact Nat.le_trans ‹_› (by decide) | exact Nat.lt_of_lt_of_le ‹_› (by decide) | omega
  rcases this with rfl | rfl | rfl <;> simp only [bb] <;> omega
theorem free_len {w : Nat} {M : Mx} {s : RS} (h : Rd w M 3 s) {f : Nat} (hf : Free s f) : s.pv.length ≤ 2 := by
  obtain ⟨hf3, hfp⟩ := hf
  rcases pv_cases h with e | e | e | e | e | e | e | e <;> rw [e] at hfp ⊢ <;> first | exact Nat.le_of_ble_eq_true rfl | (rcases lt3 hf3 with rfl | rfl | rfl <;> exact (hfp (by decide)).elim)
theorem Bd01 {k : Nat} (hk : 1 ≤ k) : Bd k 0 ∧ Bd k 1 := ⟨Bd.mono hk ⟨by decide, by decide⟩, Bd.mono hk ⟨by decide, by decide⟩⟩
theorem idx_lt {w : Nat} {M : Mx} {s : RS} (h : Rd w M 3 s) {j r : Nat} (e : s.pv.findIdx? (· == j) = some r) : r < s.pv.length := by
  obtain ⟨hr, _⟩ := List.findIdx?_eq_some_iff_getElem.mp e
  exact hr
theorem nv_bd {B : Nat} {M : Mx} {f : Nat} (h : BM B 3 M) (hf : Free (redF 3 M) f) : BV (16 * B + 5) 3 (nv (redF 3 M) f) := fun j hj => by
  have hR := redF_rd 3 M
  have hb := redF_bd (w := 3) (by decide) h
  have hl := free_len hR hf
  obtain ⟨b0, b1⟩ := Bd01 (k := 16 * B + 5) (by first | assumption | decide | exact Nat.le_of_lt ‹_› | exact Nat.le_trans ‹_› (by decide) | exact Nat.lt_of_lt_of_le ‹_› (by decide) | omega)
  unfold nv
  by_cases e : j = f
  . rw [if_pos e]; exact b1
  . rw [if_neg e]
    cases q : (redF 3 M).pv.findIdx? (· == j) with
    | none => exact b0
    | some r => exact ((hb r (by have := idx_lt hR q; omega) f hf.1).mono (bb2 hl)).neg
theorem ys_bd {B : Nat} {M : Mx} (h : BM B 4 M) (hl : (redF 3 M).pv.length ≤ 2) : BV (16 * B + 5) 3 (ys (redF 3 M) 3) := fun j hj => by
  have hR := redF_rd 3 M
  have hb := redF_bd (w := 4) (by decide) h
  obtain ⟨b0, b1⟩ := Bd01 (k := 16 * B + 5) (by first | assumption | decide | exact Nat.le_of_lt ‹_› | exact Nat.le_trans ‹_› (by decide) | exact Nat.lt_of_lt_of_le ‹_› (by decide) | omega)
  unfold ys
  cases q : (redF 3 M).pv.findIdx? (· == j) with
  | none => exact b0
  | some r => exact (hb r (by have := idx_lt hR q; omega) 3 (by decide)).mono (bb2 hl)
end Mine
end
section
set_option maxRecDepth 100000
namespace Mine
open PySem
noncomputable def Agr (s s' : RS) : Prop := s.pv = s'.pv ∧ ∀ i j, j < 3 -> s.m i j = s'.m i j
theorem ffirst_agr {m m' : Mx} {c : Nat} (h : ∀ i, m i c = m' i c) : ∀ (d s : Nat), ffirst m c s d = ffirst m' c s d
  | 0, _ => rfl
  | d + 1, s => by
    unfold ffirst
    rw [h s, ffirst_agr h d (s + 1)]
theorem Agr.step {s s' : RS} (h : Agr s s') {c : Nat} (hc : c < 3) : Agr (redS c s) (redS c s') := by
  obtain ⟨h1, h2⟩ := h
  unfold redS
  rw [← h1, ffirst_agr (m := s'.m) (m' := s.m) (fun i => (h2 i c hc).symm)]
  cases ffirst s.m c s.pv.length (3 - s.pv.length) with
  | none => exact ⟨h1, h2⟩
  | some f =>
    refine ⟨rfl, fun i j hj => ?_⟩
    have e : ∀ i j, j < 3 -> fsw s.m s.pv.length f i j = fsw s'.m s.pv.length f i j := fun i j hj => by
      unfold fsw
      rw [h2 _ j hj, h2 _ j hj, h2 _ j hj]
    show clr _ _ _ i j = clr _ _ _ i j
    unfold clr
    rw [e _ j hj, e _ j hj, e _ c hc, e _ c hc]
theorem redF_aug (M : Mx) (x : Nat -> Rat) : (redF 3 (aug4 M x)).pv = (redF 3 M).pv := by
  have a0 : Agr ⟨aug4 M x, []⟩ ⟨M, []⟩ := ⟨rfl, fun i j hj => if_pos hj⟩
  exact (((a0.step (c := 0) (by decide)).step (c := 1) (by decide)).step (c := 2) (by decide)).1
section
variable {P A : Nat -> Nat -> Int} {d : Int}
theorem sm3_mv (u : Nat -> Int) (r : Nat -> Rat) (A' : Nat -> Nat -> Int) (j : Nat) (h : u = A' j) : sm3 u r d = mv (qM A' d) r j := by
  subst h
  unfold sm3 mv qM
  grind
theorem les_diag (T : Tb P A d) (r : Nat -> Rat) (l : Rat) : Diag (castM P) (qM A d) (fun j => r j - l) (lesM (dueM P A d r) l) := fun i j hi hj => by
  rw [due_less T r l hi hj]
  exact dueM_diag T _ i j hi hj
theorem aug_diag (T : Tb P A d) (r : Nat -> Rat) (l : Rat) (x : Nat -> Rat) : Diag (castM P) (qM A d) (fun j => r j - l) (aug4 (lesM (dueM P A d r) l) x) := fun i j hi hj => by
  rw [show aug4 (lesM (dueM P A d r) l) x i j = lesM (dueM P A d r) l i j from if_pos hj]
  exact les_diag T r l i j hi hj
theorem null_pass (T : Tb P A d) (r : Nat -> Rat) (l : Rat) {f : Nat} (hf : Free (redF 3 (lesM (dueM P A d r) l)) f) {j : Nat} (hj : j < 3) (h0 : r j - l ≠ 0) : sm3 (A j) (nv (redF 3 (lesM (dueM P A d r) l)) f) d = 0 := by
  have h := null_solves (les_diag T r l) T.inv (redF_rd 3 _) hf j hj
  rw [sm3_mv _ _ A j rfl]
  rcases Rat.mul_eq_zero.mp h with z | z
  . exact (h0 z).elim
  . exact z
theorem sol_pass (T : Tb P A d) (r c : Nat -> Rat) (l : Rat) (hn : ffirst (redF 3 (aug4 (lesM (dueM P A d r) l) (dueX P c))).m 3 (redF 3 (aug4 (lesM (dueM P A d r) l) (dueX P c))).pv.length (3 - (redF 3 (aug4 (lesM (dueM P A d r) l) (dueX P c))).pv.length) = none) :
    ∀ j, j < 3 -> (r j - l) * sm3 (A j) (ys (redF 3 (aug4 (lesM (dueM P A d r) l) (dueX P c))) 3) d = c j := fun j hj => by
  have h := sol_some (aug_diag T r l (dueX P c)) T.inv (c := c) (fun i hi => (if_neg (by decide)).trans (dueX_mv c i)) (redF_rd 4 _) hn j hj
  rw [sm3_mv _ _ A j rfl]
  exact h
theorem sol_fail (T : Tb P A d) (r c : Nat -> Rat) (l : Rat) (hn : ffirst (redF 3 (aug4 (lesM (dueM P A d r) l) (dueX P c))).m 3 (redF 3 (aug4 (lesM (dueM P A d r) l) (dueX P c))).pv.length (3 - (redF 3 (aug4 (lesM (dueM P A d r) l) (dueX P c))).pv.length) ≠ none) :
    ∃ j, j < 3 ∧ r j - l = 0 ∧ c j ≠ 0 := by
  obtain ⟨k, hk⟩ := Option.ne_none_iff_exists'.mp hn
  exact sol_none (aug_diag T r l (dueX P c)) T.inv (c := c) (fun i hi => (if_neg (by decide)).trans (dueX_mv c i)) (redF_rd 4 _) hk
theorem phi_nat (s : RS) (f : Nat) : phi s f = ((if f ∈ s.pv then 0 else 1 : Nat) : Rat) := by
  unfold phi
  by_cases h : f ∈ s.pv
  . rw [if_pos h, if_pos h]; rfl
  . rw [if_neg h, if_neg h]; rfl
theorem zer_nat (x : Rat) : zer x = ((if x = 0 then 1 else 0 : Nat) : Rat) := by
  unfold zer
  by_cases h : x = 0
  . rw [if_pos h, if_pos h]; rfl
  . rw [if_neg h, if_neg h]; rfl
theorem frees_len (s : RS) : (frees s).length = (if 0 ∈ s.pv then 0 else 1) + (if 1 ∈ s.pv then 0 else 1) + (if 2 ∈ s.pv then 0 else 1) := by
  unfold frees
  rw [show List.range 3 = [0, 1, 2] from rfl]
  by_cases a0 : 0 ∈ s.pv <;> by_cases a1 : 1 ∈ s.pv <;> by_cases a2 : 2 ∈ s.pv <;> simp [a0, a1, a2]
theorem count_free (T : Tb P A d) (r : Nat -> Rat) (l : Rat) : (frees (redF 3 (lesM (dueM P A d r) l))).length = (if r 0 - l = 0 then 1 else 0) + (if r 1 - l = 0 then 1 else 0) + (if r 2 - l = 0 then 1 else 0) := by
  have h := null_count (les_diag T r l) T.inv (redF_rd 3 _)
  rw [phi_nat, phi_nat, phi_nat, zer_nat, zer_nat, zer_nat, ← Rat.natCast_add, ← Rat.natCast_add, ← Rat.natCast_add, ← Rat.natCast_add] at h
  rw [frees_len]
  exact Rat.natCast_inj.mp h
theorem sol_bd (T : Tb P A d) {r c : Nat -> Rat} {l : Rat} {B a b : Nat} (hM : BM B 3 (lesM (dueM P A d r) l)) (hx : BV B 3 (dueX P c)) (hr : ∀ j, j < 3 -> Bd a (r j - l)) (hc : BV b 3 c) (hab : 3 * (a + b) + 9 ≤ 16 * B + 5)
    (hn : ffirst (redF 3 (aug4 (lesM (dueM P A d r) l) (dueX P c))).m 3 (redF 3 (aug4 (lesM (dueM P A d r) l) (dueX P c))).pv.length (3 - (redF 3 (aug4 (lesM (dueM P A d r) l) (dueX P c))).pv.length) = none) :
    BV (16 * B + 5) 3 (ys (redF 3 (aug4 (lesM (dueM P A d r) l) (dueX P c))) 3) := by
  by_cases h2 : (redF 3 (aug4 (lesM (dueM P A d r) l) (dueX P c))).pv.length ≤ 2
  . exact ys_bd (aug4_bd hM hx) h2
  . have h3 : (redF 3 (lesM (dueM P A d r) l)).pv = [0, 1, 2] := by
      rw [redF_aug] at h2
      rcases pv_cases (redF_rd 3 (lesM (dueM P A d r) l)) with e | e | e | e | e | e | e | e <;> first | exact e | exact (h2 (by rw [e]; decide)).elim
    have cn := count_free T r l
    rw [frees_len, h3] at cn
    have z : ∀ j, j < 3 -> r j - l ≠ 0 := fun j hj e => by
      have : (0 : Nat) = (if r 0 - l = 0 then 1 else 0) + (if r 1 - l = 0 then 1 else 0) + (if r 2 - l = 0 then 1 else 0) := cn
      rcases lt3 hj with rfl | rfl | rfl
      . rw [if_pos e] at this; omega
      . rw [if_pos e] at this; omega
      . rw [if_pos e] at this; omega
    have sp := sol_pass T r c l hn
    generalize ys (redF 3 (aug4 (lesM (dueM P A d r) l) (dueX P c))) 3 = y at *
    have ey : ∀ i, i < 3 -> y i = dueX P (fun j => c j / (r j - l)) i := fun i hi => by
      rw [dueX_mv, ← T.inv.mv_pq y hi]
      refine mv_congr (fun j hj => ?_) i
      have h1 := sp j hj
      rw [sm3_mv _ _ A j rfl] at h1
      have h0 := z j hj
      generalize r j - l = e at *
      grind
    intro i hi
    rw [ey i hi]
    exact (dueX_bd T (w := b + a) (fun j hj => (hc j hj).div (z j hj) (hr j hj)) i hi).mono (by omega)
theorem det_less (T : Tb P A d) (r : Nat -> Rat) (l : Rat) : det3 (lesM (dueM P A d r) l) = (r 0 - l) * (r 1 - l) * (r 2 - l) := by
  have g : ∀ i k, i < 3 -> k < 3 -> lesM (dueM P A d r) l i k = castM P i 0 * ((r 0 - l) * qM A d 0 k) + castM P i 1 * ((r 1 - l) * qM A d 1 k) + castM P i 2 * ((r 2 - l) * qM A d 2 k) := fun i k hi hk => by
    rw [les_diag T r l i k hi hk]
    grind
  have e : det3 (lesM (dueM P A d r) l) = det3 (fun i k => castM P i 0 * ((r 0 - l) * qM A d 0 k) + castM P i 1 * ((r 1 - l) * qM A d 1 k) + castM P i 2 * ((r 2 - l) * qM A d 2 k)) := by
    unfold det3
    simp only [g 0 0 (by decide) (by decide), g 0 1 (by decide) (by decide), g 0 2 (by decide) (by decide), g 1 0 (by decide) (by decide), g 1 1 (by decide) (by decide), g 1 2 (by decide) (by decide), g 2 0 (by decide) (by decide), g 2 1 (by decide) (by decide), g 2 2 (by decide) (by decide)]
  rw [e, det_mul (castM P) (fun j k => (r j - l) * qM A d j k)]
  have h1 : det3 (fun j k => (r j - l) * qM A d j k) = (r 0 - l) * (r 1 - l) * (r 2 - l) * det3 (qM A d) := by
    unfold det3
    grind
  have h2 : det3 (castM P) * det3 (qM A d) = 1 := by
    rw [← det_mul]
    have q := T.inv.pq
    unfold det3
    simp only [q 0 0 (by decide) (by decide), q 0 1 (by decide) (by decide), q 0 2 (by decide) (by decide), q 1 0 (by decide) (by decide), q 1 1 (by decide) (by decide), q 1 2 (by decide) (by decide), q 2 0 (by decide) (by decide), q 2 1 (by decide) (by decide), q 2 2 (by decide) (by decide)]
    simp
    grind
  rw [h1]
  generalize det3 (castM P) = x at *
  generalize det3 (qM A d) = y at *
  generalize (r 0 - l) * (r 1 - l) * (r 2 - l) = u at *
  grind
end
end Mine
end
section
set_option maxRecDepth 100000
namespace Mine
open PySem
noncomputable def w9_40 : PSs := .nil
noncomputable def w9_39 : PSs := .cons (.ret (.lit (.bool true))) w9_40
noncomputable def w9_38 : PSs := .cons (.ite (.not (.allInts (.var 29))) (.cons (.ret (.lit (.bool false))) .nil) .nil) w9_39
noncomputable def w9_37 : PSs := .cons (.ite (.or (.cmp .ne (.tup (.cons (.var 12) (.cons (.var 14) .nil))) (.var 15)) (.or (.cmp .ne (.tup (.cons (.var 23) (.cons (.var 14) .nil))) (.call 27 (.cons (.var 3) (.cons (.var 8) (.cons (.var 9) (.cons (.var 22) (.cons (.var 6) .nil))))))) (.or (.cmp .ne (.var 10) (.var 4)) .ff))) (.cons (.ret (.lit (.bool false))) .nil) .nil) w9_38
noncomputable def w9_36 : PSs := .cons (.ite (.cmp .ne (.comp (.call 9 (.cons (.var 0) .nil)) 1 (.of (.var 14)) .tt) (.comp (.ite (.cmp .eq (.idx (.var 0) (.lit (.int 1))) (.lit (.int 1))) (.blt .str (.idx (.var 0) (.lit (.int 0)))) (.bin .add (.bin .add (.blt .str (.idx (.var 0) (.lit (.int 0)))) (.lit (.str ("/" : Str)))) (.blt .str (.idx (.var 0) (.lit (.int 1)))))) 1 (.of (.idx (.var 15) (.lit (.int 1)))) .tt)) (.cons (.ret (.lit (.bool false))) .nil) .nil) w9_37
noncomputable def w9_35 : PSs := .cons (.ite (.cmp .ne (.var 25) (.call 24 (.cons (.bin .mul (.bin .mul (.idx (.idx (.var 22) (.lit (.int 0))) (.lit (.int 0))) (.idx (.idx (.var 22) (.lit (.int 1))) (.lit (.int 0)))) (.idx (.idx (.var 22) (.lit (.int 2))) (.lit (.int 0)))) (.cons (.bin .mul (.bin .mul (.idx (.idx (.var 22) (.lit (.int 0))) (.lit (.int 1))) (.idx (.idx (.var 22) (.lit (.int 1))) (.lit (.int 1)))) (.idx (.idx (.var 22) (.lit (.int 2))) (.lit (.int 1)))) .nil)))) (.cons (.ret (.lit (.bool false))) .nil) .nil) w9_36
noncomputable def w9_34 : PSs := .cons (.ite (.isNotNone (.var 26)) (.cons (.asg 29 (.bin .add (.var 29) (.lst (.cons (.var 26) .nil)))) (.cons (.ite (.or (.cmp .ne (.comp (.idx (.var 27) (.var 0)) 1 (.of (.var 27)) .tt) (.comp (.tup (.cons (.lit (.int 0)) (.cons (.lit (.int 1)) .nil))) 1 (.of (.var 27)) .tt)) (.or (.not (.val (.call 31 (.cons (.var 8) (.cons (.var 9) (.cons (.var 22) (.cons (.var 6) (.cons (.var 26) .nil)))))))) .ff)) (.cons (.ret (.lit (.bool false))) .nil) .nil) .nil)) .nil) w9_35
noncomputable def w9_33 : PSs := .cons (.asg 29 (.bin .add (.bin .add (.bin .add (.var 12) (.var 23)) (.var 24)) (.lst (.cons (.var 14) (.cons (.lst (.cons (.var 25) .nil)) .nil))))) w9_34
noncomputable def w9_32 : PSs := .cons (.ite (.cmp .ne (.tst (.isNone (.var 26))) (.tst (.anyZ (.var 22) (.var 6)))) (.cons (.ret (.lit (.bool false))) .nil) .nil) w9_33
noncomputable def lsBody : PSs := (.cons (.ite (.not (.val (.call 31 (.cons (.var 8) (.cons (.var 9) (.cons (.var 22) (.cons (.lst (.cons (.tup (.cons (.lit (.int 0)) (.cons (.lit (.int 1)) .nil))) (.cons (.tup (.cons (.lit (.int 0)) (.cons (.lit (.int 1)) .nil))) (.cons (.tup (.cons (.lit (.int 0)) (.cons (.lit (.int 1)) .nil))) .nil)))) (.cons (.var 28) .nil)))))))) (.cons (.ret (.lit (.bool false))) .nil) .nil) .nil)
noncomputable def w9_31 : PSs := .cons (.for_ [28] (.of (.var 24)) lsBody) w9_32
noncomputable def w9_30 : PSs := .cons (.ite (.cmp .ne (.comp (.comp (.idx (.var 1) (.var 0)) 1 (.of (.var 28)) .tt) 1 (.of (.var 24)) .tt) (.comp (.comp (.ite (.cmp .eq (.var 1) (.var 0)) (.tup (.cons (.lit (.int 1)) (.cons (.lit (.int 1)) .nil))) (.tup (.cons (.lit (.int 0)) (.cons (.lit (.int 1)) .nil)))) 1 (.of (.var 28)) .tt) 1 (.of (.var 27)) .tt)) (.cons (.ret (.lit (.bool false))) .nil) .nil) w9_31
noncomputable def w9_29 : PSs := .cons (.ite (.or (.cmp .ne (.blt .len (.var 24)) (.mth .count (.comp (.idx (.var 0) (.lit (.int 0))) 1 (.of (.var 22)) .tt) (.lit (.int 0)))) (.or (.cmp .ne (.var 27) (.blt .sortedSet (.var 27))) .ff)) (.cons (.ret (.lit (.bool false))) .nil) .nil) w9_30
noncomputable def w9_28 : PSs := .cons (.asg 27 (.comp (.blt .max (.bin .add (.lst (.cons (.neg (.lit (.int 1))) .nil)) (.comp (.var 0) 1 (.r1 (.lit (.int 3))) (.cmp .ne (.idx (.var 1) (.var 0)) (.tup (.cons (.lit (.int 0)) (.cons (.lit (.int 1)) .nil))))))) 1 (.of (.var 24)) .tt)) w9_29
noncomputable def w9_27 : PSs := .cons (.asg 26 (.call 22 (.cons (.var 23) (.cons (.lit (.int 3)) (.cons (.var 14) .nil))))) w9_28
noncomputable def w9_26 : PSs := .cons (.asg 25 (.call 20 (.cons (.var 23) .nil))) w9_27
noncomputable def w9_25 : PSs := .cons (.asg 24 (.call 23 (.cons (.var 23) (.cons (.lit (.int 3)) .nil)))) w9_26
noncomputable def w9_24 : PSs := .cons (.asg 23 (.call 28 (.cons (.var 12) (.cons (.var 21) .nil)))) w9_25
noncomputable def w9_23 : PSs := .cons (.asg 22 (.comp (.tup (.cons (.bin .sub (.bin .mul (.idx (.var 0) (.lit (.int 0))) (.idx (.var 22) (.lit (.int 1)))) (.bin .mul (.idx (.var 22) (.lit (.int 0))) (.idx (.var 0) (.lit (.int 1))))) (.cons (.bin .mul (.idx (.var 0) (.lit (.int 1))) (.idx (.var 22) (.lit (.int 1)))) .nil))) 1 (.of (.var 5)) .tt)) w9_24
noncomputable def w9_22 : PSs := .cons (.asg 21 (.call 24 (.cons (.bin .add (.idx (.var 20) (.lit (.int 0))) (.bin .mul (.bin .mod (.idx (.var 0) (.lit (.int 22))) (.lit (.int 2))) (.idx (.var 20) (.lit (.int 1))))) (.cons (.idx (.var 20) (.lit (.int 1))) .nil)))) w9_23
noncomputable def w9_21 : PSs := .cons (.asg 20 (.idx (.var 5) (.bin .mod (.idx (.var 0) (.lit (.int 21))) (.lit (.int 3))))) w9_22
noncomputable def ddBody : PSs := (.cons (.asgW 18 29 (.cons (.var 16) (.cons (.var 17) (.cons (.var 12) (.cons (.var 14) (.cons (.var 10) .nil)))))) (.cons (.asgN [5, 6, 19] (.call 30 (.cons (.var 16) (.cons (.var 17) (.cons (.var 5) (.cons (.var 6) .nil)))))) (.cons (.ite (.or (.cmp .ne (.tup (.cons (.var 12) (.cons (.var 14) .nil))) (.var 15)) (.or (.cmp .ne (.idx (.var 18) (.lit (.int 2))) (.var 19)) .ff)) (.cons (.ret (.lit (.bool false))) .nil) .nil) (.cons (.asg 12 (.idx (.var 18) (.lit (.int 0)))) (.cons (.asg 14 (.idx (.var 18) (.lit (.int 1)))) (.cons (.asg 15 (.call 27 (.cons (.var 3) (.cons (.var 8) (.cons (.var 9) (.cons (.var 5) (.cons (.var 6) .nil))))))) (.cons (.ite (.cmp .ne (.tup (.cons (.var 12) (.cons (.var 14) .nil))) (.var 15)) (.cons (.ret (.lit (.bool false))) .nil) .nil) .nil)))))))
noncomputable def w9_20 : PSs := .cons (.for_ [16, 17] (.of (.var 7)) ddBody) w9_21
noncomputable def w9_19 : PSs := .cons (.ite (.or (.cmp .ne (.var 13) (.var 6)) (.or (.cmp .ne (.tup (.cons (.var 12) (.cons (.var 14) .nil))) (.var 15)) .ff)) (.cons (.ret (.lit (.bool false))) .nil) .nil) w9_20
noncomputable def w9_18 : PSs := .cons (.asg 15 (.call 27 (.cons (.var 3) (.cons (.var 8) (.cons (.var 9) (.cons (.var 5) (.cons (.var 6) .nil))))))) w9_19
noncomputable def w9_17 : PSs := .cons (.asg 14 (.call 15 (.cons (.var 10) (.cons (.var 13) .nil)))) w9_18
noncomputable def w9_16 : PSs := .cons (.asg 13 (.sl (.var 6) (.lit .none) (.lit .none))) w9_17
noncomputable def w9_15 : PSs := .cons (.asg 12 (.call 14 (.cons (.call 10 (.cons (.comp (.comp (.bin .mul (.var 0) (.idx (.var 1) (.lit (.int 0)))) 2 (.zip (.var 0) (.var 6)) .tt) 1 (.of (.var 3)) .tt) .nil)) (.cons (.var 11) (.cons (.lit (.int 3)) (.cons (.lit (.int 3)) .nil)))))) w9_16
noncomputable def w9_14 : PSs := .cons (.ite (.isNone (.var 11)) (.cons (.ret (.lit (.bool true))) .nil) .nil) w9_15
noncomputable def w9_13 : PSs := .cons (.ite (.or (.cmp .ne (.tst (.isNone (.var 11))) (.tst (.cmp .eq (.var 9) (.lit (.int 0))))) (.or (.cmp .ne (.var 10) (.var 4)) .ff)) (.cons (.ret (.lit (.bool false))) .nil) .nil) w9_14
noncomputable def w9_12 : PSs := .cons (.tryC 11 21 (.cons (.var 10) .nil) 1 11 .none) w9_13
noncomputable def w9_11 : PSs := .cons (.asg 11 (.lit .none)) w9_12
noncomputable def w9_10 : PSs := .cons (.asg 10 (.call 10 (.cons (.var 3) .nil))) w9_11
noncomputable def w9_9 : PSs := .cons (.asg 9 (.bin .add (.bin .add (.bin .mul (.idx (.var 1) (.lit (.int 0))) (.idx (.idx (.var 8) (.lit (.int 0))) (.lit (.int 0)))) (.bin .mul (.idx (.var 1) (.lit (.int 1))) (.idx (.idx (.var 8) (.lit (.int 1))) (.lit (.int 0))))) (.bin .mul (.idx (.var 1) (.lit (.int 2))) (.idx (.idx (.var 8) (.lit (.int 2))) (.lit (.int 0)))))) w9_10
noncomputable def w9_8 : PSs := .cons (.asg 8 (.call 26 (.cons (.var 3) .nil))) w9_9
noncomputable def w9_7 : PSs := .cons (.asg 7 (.lst (.cons (.tup (.cons (.bin .mod (.idx (.var 0) (.lit (.int 15))) (.lit (.int 6))) (.cons (.bin .sub (.bin .mod (.idx (.var 0) (.lit (.int 16))) (.lit (.int 5))) (.lit (.int 2))) .nil))) (.cons (.tup (.cons (.bin .mod (.idx (.var 0) (.lit (.int 17))) (.lit (.int 6))) (.cons (.bin .sub (.bin .mod (.idx (.var 0) (.lit (.int 18))) (.lit (.int 5))) (.lit (.int 2))) .nil))) (.cons (.tup (.cons (.bin .mod (.idx (.var 0) (.lit (.int 19))) (.lit (.int 6))) (.cons (.bin .sub (.bin .mod (.idx (.var 0) (.lit (.int 20))) (.lit (.int 5))) (.lit (.int 2))) .nil))) .nil))))) w9_8
noncomputable def w9_6 : PSs := .cons (.asg 6 (.lst (.cons (.tup (.cons (.bin .sub (.bin .mod (.idx (.var 0) (.lit (.int 12))) (.lit (.int 5))) (.lit (.int 2))) (.cons (.lit (.int 1)) .nil))) (.cons (.tup (.cons (.bin .sub (.bin .mod (.idx (.var 0) (.lit (.int 13))) (.lit (.int 5))) (.lit (.int 2))) (.cons (.lit (.int 1)) .nil))) (.cons (.tup (.cons (.bin .sub (.bin .mod (.idx (.var 0) (.lit (.int 14))) (.lit (.int 5))) (.lit (.int 2))) (.cons (.lit (.int 1)) .nil))) .nil))))) w9_7
noncomputable def w9_5 : PSs := .cons (.asg 5 (.lst (.cons (.tup (.cons (.bin .sub (.bin .mod (.idx (.var 0) (.lit (.int 9))) (.lit (.int 6))) (.lit (.int 2))) (.cons (.lit (.int 1)) .nil))) (.cons (.tup (.cons (.bin .sub (.bin .mod (.idx (.var 0) (.lit (.int 10))) (.lit (.int 6))) (.lit (.int 2))) (.cons (.lit (.int 1)) .nil))) (.cons (.tup (.cons (.bin .sub (.bin .mod (.idx (.var 0) (.lit (.int 11))) (.lit (.int 6))) (.lit (.int 2))) (.cons (.lit (.int 1)) .nil))) .nil))))) w9_6
noncomputable def w9_4 : PSs := .cons (.asg 4 (.comp (.comp (.tup (.cons (.var 0) (.cons (.lit (.int 1)) .nil))) 1 (.of (.var 0)) .tt) 1 (.of (.var 3)) .tt)) w9_5
noncomputable def w9_3 : PSs := .cons (.asg 3 (.lst (.cons (.var 1) (.cons (.var 2) (.cons (.lst (.cons (.bin .sub (.bin .mod (.idx (.var 0) (.lit (.int 6))) (.lit (.int 4))) (.lit (.int 1))) (.cons (.bin .sub (.bin .mod (.idx (.var 0) (.lit (.int 7))) (.lit (.int 4))) (.lit (.int 1))) (.cons (.bin .sub (.bin .mod (.bin .add (.idx (.var 0) (.lit (.int 8))) (.lit (.int 2))) (.lit (.int 4))) (.lit (.int 1))) .nil)))) .nil))))) w9_4
noncomputable def w9_2 : PSs := .cons (.asg 2 (.lst (.cons (.bin .sub (.bin .mod (.idx (.var 0) (.lit (.int 3))) (.lit (.int 4))) (.lit (.int 1))) (.cons (.bin .sub (.bin .mod (.bin .add (.idx (.var 0) (.lit (.int 4))) (.lit (.int 2))) (.lit (.int 4))) (.lit (.int 1))) (.cons (.bin .sub (.bin .mod (.idx (.var 0) (.lit (.int 5))) (.lit (.int 4))) (.lit (.int 1))) .nil))))) w9_3
noncomputable def w9_1 : PSs := .cons (.asg 1 (.lst (.cons (.bin .sub (.bin .mod (.bin .add (.idx (.var 0) (.lit (.int 0))) (.lit (.int 2))) (.lit (.int 4))) (.lit (.int 1))) (.cons (.bin .sub (.bin .mod (.idx (.var 0) (.lit (.int 1))) (.lit (.int 4))) (.lit (.int 1))) (.cons (.bin .sub (.bin .mod (.idx (.var 0) (.lit (.int 2))) (.lit (.int 4))) (.lit (.int 1))) .nil))))) w9_2
noncomputable def w9_0 : PSs := .cons (.ite (.cmp .lt (.blt .len (.var 0)) (.lit (.int 23))) (.cons (.ret (.lit (.bool true))) .nil) .nil) w9_1
theorem w9_eq : b9_32 = w9_0 := rfl
noncomputable abbrev Dn (γ : Env') (ss : PSs) : Prop := ∃ γ', evSs (T9 32) 40000 true γ ss = some (.ret (.bool true) 0, γ')
section
variable {γ γ' : Env'} {rest a b : PSs} {t : PT}
theorem Dn.asg {i l : Nat} {e : PE} {d : PyData} (h : evE (T9 32) γ e = some (d, l)) (hr : Dn (γ.set i (.pl d)) rest) : Dn γ (.cons (.asg i e) rest) := let ⟨g, q⟩ := hr; ⟨g, st_asg h q⟩
theorem Dn.els (h : evT (T9 32) γ t = some false) (hr : Dn γ rest) : Dn γ (.cons (.ite t a .nil) rest) := let ⟨g, q⟩ := hr; ⟨g, st_else h q⟩
theorem Dn.yes (h : evT (T9 32) γ t = some true) (hr : Dn γ a) : Dn γ (.cons (.ite t a b) rest) := let ⟨g, q⟩ := hr; ⟨g, st_trueX h q nofun⟩
theorem Dn.thn (h : evT (T9 32) γ t = some true) (ha : evSs (T9 32) 40000 true γ a = some (.next, γ')) (hr : Dn γ' rest) : Dn γ (.cons (.ite t a b) rest) := let ⟨g, q⟩ := hr; ⟨g, st_true h ha q⟩
theorem Dn.fr {is : List Nat} {it : PI} {body : PSs} {xs : List PyData} (h : evI (T9 32) γ it = some xs) (hf : forL (fun g => evSs (T9 32) 40000 true g body) is xs γ = some (.next, γ')) (hr : Dn γ' rest) : Dn γ (.cons (.for_ is it body) rest) := let ⟨g, q⟩ := hr; ⟨g, st_for h hf q⟩
theorem Dn.done : Dn γ (.cons (.ret (.lit (.bool true))) rest) := ⟨_, st_ret vL⟩
theorem Dn.tryO {i f c y l : Nat} {as : PEs} {d v : PyData} {xs : List PyData} (h : evEs (T9 32) γ as = some xs) (h2 : T9 32 f xs = some (.ret v l)) (hr : Dn (γ.set i (.pl v)) rest) : Dn γ (.cons (.tryC i f as c y d) rest) := let ⟨g, q⟩ := hr; ⟨g, st_try h h2 q⟩
theorem Dn.tryX {i f c y : Nat} {as : PEs} {d : PyData} {xs : List PyData} (h : evEs (T9 32) γ as = some xs) (h2 : T9 32 f xs = some (.exc c)) (hr : Dn (γ.set y (.pl d)) rest) : Dn γ (.cons (.tryC i f as c y d) rest) := let ⟨g, q⟩ := hr; ⟨g, st_tryX h h2 rfl q⟩
end
section
variable {Φ : Funs} {γ : Env'}
theorem ev_or {a b : PT} {r : Option Bool} (h : evT Φ γ a = some false) (h2 : evT Φ γ b = r) : evT Φ γ (.or a b) = r := bnd h h2
theorem ev_or1 {a : PT} (h : evT Φ γ a = some false) : evT Φ γ (.or a .ff) = some false := bnd h rfl
theorem ev_tst {t : PT} {b : Bool} (h : evT Φ γ t = some b) : evE Φ γ (.tst t) = some (.bool b, 0) := bnd h rfl
theorem ev_isNone {a : PE} {d : PyData} {l : Nat} {b : Bool} (h : evE Φ γ a = some (d, l)) (hb : isNoD d = b) : evT Φ γ (.isNone a) = some b := bnd h (congrArg some hb)
theorem ev_isNotT {a : PE} {d : PyData} {l : Nat} (h : evE Φ γ a = some (d, l)) (hb : isNoD d = false) : evT Φ γ (.isNotNone a) = some true := bnd h (congrArg (fun x => some (!x)) hb)
theorem ev_isNotF {a : PE} {d : PyData} {l : Nat} (h : evE Φ γ a = some (d, l)) (hb : isNoD d = true) : evT Φ γ (.isNotNone a) = some false := bnd h (congrArg (fun x => some (!x)) hb)
theorem ev_notT {a : PE} {l : Nat} (h : evE Φ γ a = some (.bool true, l)) : evT Φ γ (.not (.val a)) = some false := ev_notval h
theorem ev_iteT {t : PT} {a b : PE} {r : Option (PyData × Nat)} (h : evT Φ γ t = some true) (ha : evE Φ γ a = r) : evE Φ γ (.ite t a b) = r := bnd h ha
theorem ev_iteF {t : PT} {a b : PE} {r : Option (PyData × Nat)} (h : evT Φ γ t = some false) (hb : evE Φ γ b = r) : evE Φ γ (.ite t a b) = r := bnd h hb
theorem ev_notAll {a : PE} {d : PyData} {l : Nat} (h : evE Φ γ a = some (d, l)) (hd : allI3 d = true) : evT Φ γ (.not (.allInts a)) = some false := by
  have : evT Φ γ (.allInts a) = some true := bnd h (if_pos hd)
  exact bnd this rfl
theorem compG {α : Type} {elt a : PE} {l : Nat} {xs : List α} {F g : α -> PyData} (ha : evE Φ γ a = some (.list (xs.map F), l)) (hn : xs.length ≤ 1000) (h : ∀ c ∈ xs, ∃ l, evE Φ (.pl (F c) :: γ) elt = some (g c, l)) : evE Φ γ (.comp elt 1 (.of a) .tt) = some (.list (xs.map g), 1) := by
  obtain ⟨rs, e1, e2⟩ := mapM_tab (f := fun d => (bindC 1 d γ).bind fun g => (evT Φ g .tt).bind fun b => if b then (evE Φ g elt).map some else some none) (F := F) (g := g) xs fun c hc => by
    obtain ⟨l, q⟩ := h c hc
    refine ⟨l, bnd rfl ?_⟩
    show (evE Φ (.pl (F c) :: γ) elt).map some = _
    rw [q]; rfl
  rw [ev_comp (ev_of ha rfl (by rw [List.length_map]; exact lenLim_ge hn)) e1]
  unfold mkL
  rw [e2]
theorem mapM_flt {f : PyData -> Option (Option (PyData × Nat))} {F : Nat -> PyData} {b : Nat -> Bool} : ∀ xs : List Nat, (∀ c ∈ xs, f (F c) = some (if b c then some (F c, 0) else none)) -> ∃ rs, (xs.map F).mapM f = some rs ∧ (rs.filterMap id).map (·.1) = (xs.filter b).map F
  | [], _ => ⟨[], rfl, rfl⟩
  | c :: xs, h => by
    have e := h c (.head _)
    obtain ⟨rs, e1, e2⟩ := mapM_flt xs fun y hy => h y (.tail _ hy)
    refine ⟨(if b c then some (F c, 0) else none) :: rs, ?_, ?_⟩
    . rw [List.map_cons, List.mapM_cons, e, e1]
      rfl
    . cases hb : b c with
      | true => rw [List.filter_cons_of_pos hb]; exact congrArg (F c :: ·) e2
      | false => rw [List.filter_cons_of_neg (by rw [hb]; exact Bool.false_ne_true)]; exact e2
end
theorem add_list {a b : List PyData} (h : a.length + b.length ≤ 1000) : binD .add (.list a) (.list b) = some (.list (a ++ b), 1) := if_pos (lenLim_ge h)
theorem Sh.bool (b : Bool) : Sh 0 (.bool b) := ⟨rfl, Nat.le_refl _⟩
theorem Sh.pair (m : Mx) (x : Nat -> Rat) : Sh 4 (.tuple [Mine.enc 3 m, Mine.rwD 3 x]) := Sh.two (Sh.enc 3 m) ((Sh.rwD 3 x).mono (by decide))
theorem allI2_rw (w : Nat) (f : Nat -> Rat) : allI2 (rwD w f) = true := List.all_eq_true.mpr fun x hx => by
  obtain ⟨c, _, rfl⟩ := List.mem_map.mp hx
  rfl
theorem all_enc (m : Mx) : ((List.range 3).map fun i => rwD 3 (m i)).all allI2 = true := List.all_eq_true.mpr fun x hx => by
  obtain ⟨c, _, rfl⟩ := List.mem_map.mp hx
  exact allI2_rw _ _
theorem look_loop {body : Env' -> Option (Flw × Env')} {i : Nat} {mk : Slot -> Env'} (hset : ∀ a d, (mk a).set i d = mk d) : ∀ (xs : List PyData) (a : Slot), (∀ x ∈ xs, body (mk (.pl x)) = some (.next, mk (.pl x))) -> ∃ a', forL body [i] xs (mk a) = some (.next, mk a')
  | [], a, _ => ⟨a, rfl⟩
  | x :: xs, a, h => by
    obtain ⟨a', e⟩ := look_loop hset xs (.pl x) fun y hy => h y (.tail _ hy)
    exact ⟨a', fl_cons (by rw [hset]; exact h x (.head _)) e⟩
noncomputable def esP (s : St4) (l : Rat) : Nat -> Int := fun j => s.p j * (l.den : Int) - l.num * s.q j
noncomputable def esQ (s : St4) (l : Rat) : Nat -> Int := fun j => s.q j * (l.den : Int)
theorem es_bd {s : St4} {l : Rat} (hs : Gd4 16 s) (hl : Bd 17 l) : BP 34 (esP s l) (esQ s l) := fun j hj => by
  obtain ⟨a, b, z⟩ := hs.d j hj
  have hd : ((l.den : Nat) : Int).natAbs < 2 ^ 17 := by rw [Int.natAbs_natCast]; exact hl.2
  have h1 := imul_lt a hd
  have h2 := imul_lt hl.1 b
  have h3 := imul_lt b hd
  refine ⟨?_, up_lt h3 (by decide), Int.mul_ne_zero z (den_ne l)⟩
  have h4 : (-(l.num * s.q j)).natAbs < 2 ^ (16 + 17) := by rw [Int.natAbs_neg]; exact up_lt h2 (by decide)
  have := iadd_lt h1 h4
  unfold esP
  rw [Int.sub_eq_add_neg]
  exact this
theorem es_val {s : St4} {l : Rat} {j : Nat} (h : s.q j ≠ 0) : val (esP s l) (esQ s l) j = val s.p s.q j - l := by
  have hq : ((s.q j : Int) : Rat) ≠ 0 := fun z => h (Rat.intCast_inj.mp z)
  have hd : (((l.den : Nat) : Int) : Rat) ≠ 0 := fun z => den_ne l (Rat.intCast_inj.mp z)
  have e : l = (l.num : Rat) / (((l.den : Nat) : Int) : Rat) := (num_den l).symm.trans (divInt_div _ _)
  unfold val esP esQ
  rw [divInt_div, divInt_div, Rat.intCast_sub, Rat.intCast_mul, Rat.intCast_mul, Rat.intCast_mul]
  generalize ((l.num : Int) : Rat) = a at *
  generalize (((l.den : Nat) : Int) : Rat) = b at *
  generalize ((s.q j : Int) : Rat) = c at *
  generalize ((s.p j : Int) : Rat) = f at *
  rw [e]
  grind
noncomputable def E9 (is : List Int) (P A : Nat -> Nat -> Int) (d : Int) (dd col : PyData) (s : St4) (s16 s17 s18 s19 : Slot) (tl : List Slot) : Env' :=
  .pl (.list (is.map .int)) :: .pl (tab 3 fun j => .int (P 0 j)) :: .pl (tab 3 fun j => .int (P 1 j)) :: .pl (encI P) :: .pl (enc 3 (castM P)) :: .pl (encP s.p s.q) :: .pl (encP s.c s.e) :: .pl dd :: .pl (encI A) :: .pl (.int d) ::
  .pl (enc 3 (castM P)) :: .pl (enc 3 (qM A d)) :: .pl (mach P A d s) :: .pl col :: .pl (stat P s) :: .pl (.tuple [mach P A d s, stat P s]) :: s16 :: s17 :: s18 :: s19 :: tl
noncomputable abbrev lsM (P A : Nat -> Nat -> Int) (d : Int) (s : St4) (l : Rat) : Mx := lesM (dueM P A d (val s.p s.q)) l
section
variable {is : List Int} {P A : Nat -> Nat -> Int} {d : Int} {dd col : PyData} {s : St4} {s16 s17 s18 s19 : Slot} {l : Rat}
theorem lsM_due (T : Tb P A d) (hs : Gd4 16 s) : enc 3 (dueM P A d (val (esP s l) (esQ s l))) = enc 3 (lsM P A d s l) := enc_congr fun i j hi hj => by
  show _ = lesM (dueM P A d (val s.p s.q)) l i j
  rw [due_less T _ _ hi hj]
  exact congrFun (congrFun (dueM_congr fun k hk => es_val (hs.d k hk).2.2) i) j
theorem size_ok (T : Tb P A d) (hs : Gd4 16 s) (hl : Bd 17 l) : T9 32 24 [.int (esP s l 0 * esP s l 1 * esP s l 2), .int (esQ s l 0 * esQ s l 1 * esQ s l 2)] = some (.ret (fq (det3 (lsM P A d s l))) 0) := by
  have b := es_bd hs hl
  obtain ⟨_, b0, z0⟩ := b 0 (by decide)
  obtain ⟨_, b1, z1⟩ := b 1 (by decide)
  obtain ⟨_, b2, z2⟩ := b 2 (by decide)
  have := low_ok (K := 32) (by decide) (n := esP s l 0 * esP s l 1 * esP s l 2) (d := esQ s l 0 * esQ s l 1 * esQ s l 2) (Int.mul_ne_zero (Int.mul_ne_zero z0 z1) z2) (up_lt (imul_lt (imul_lt b0 b1) b2) (by decide))
  rw [this, ← Rat.divInt_mul_divInt, ← Rat.divInt_mul_divInt, det_less T]
  have e : ∀ j, j < 3 -> Rat.divInt (esP s l j) (esQ s l j) = val s.p s.q j - l := fun j hj => es_val (hs.d j hj).2.2
  rw [e 0 (by decide), e 1 (by decide), e 2 (by decide)]
theorem stat_bd (T : Tb P A d) (hs : Gd4 16 s) : BV 57 3 (dueX P (val s.c s.e)) := dueX_bd (w := 16) T (val_bd hs.c)
theorem phG (T : Tb P A d) (hs : Gd4 16 s) (hl : Bd 17 l) {s20 s21 s24 s26 s27 s28 : Slot} {sn : PyData} (hsn : allI3 sn = true) :
    Dn (E9 is P A d dd col s s16 s17 s18 s19 [s20, s21, .pl (encP (esP s l) (esQ s l)), .pl (enc 3 (lsM P A d s l)), s24, .pl (fq (det3 (lsM P A d s l))), s26, s27, s28, .pl sn]) w9_35 := by
  have b := es_bd hs hl
  obtain ⟨a0, b0, z0⟩ := b 0 (by decide)
  obtain ⟨a1, b1, z1⟩ := b 1 (by decide)
  obtain ⟨a2, b2, z2⟩ := b 2 (by decide)
  have i0 : idxD (encP (esP s l) (esQ s l)) (.int 0) = some (pr (esP s l 0) (esQ s l 0), 0) := idxR (n := 3) (i := 0) (f := fun j => pr (esP s l j) (esQ s l j)) (by decide) (by decide)
  have i1 : idxD (encP (esP s l) (esQ s l)) (.int 1) = some (pr (esP s l 1) (esQ s l 1), 0) := idxR (n := 3) (i := 1) (f := fun j => pr (esP s l j) (esQ s l j)) (by decide) (by decide)
  have i2 : idxD (encP (esP s l) (esQ s l)) (.int 2) = some (pr (esP s l 2) (esQ s l 2), 0) := idxR (n := 3) (i := 2) (f := fun j => pr (esP s l j) (esQ s l j)) (by decide) (by decide)
  refine Dn.els (eK (eV rfl) (eF (eC (eB (eB (eI (eI (eV rfl) vL i0) vL (idxp0 _ _)) (eI (eI (eV rfl) vL i1) vL (idxp0 _ _)) (mulk (by decide) (by decide) a0 a1)) (eI (eI (eV rfl) vL i2) vL (idxp0 _ _)) (mulk (by decide) (by decide) (imul_lt a0 a1) a2))
    (eC (eB (eB (eI (eI (eV rfl) vL i0) vL (idxp1 _ _)) (eI (eI (eV rfl) vL i1) vL (idxp1 _ _)) (mulk (by decide) (by decide) b0 b1)) (eI (eI (eV rfl) vL i2) vL (idxp1 _ _)) (mulk (by decide) (by decide) (imul_lt b0 b1) b2)) eN)) (size_ok T hs hl)) (ne_fq_self _)) ?_
  have bx := stat_bd T hs
  have bx' : ∀ j, j < 3 -> Bd 100 (dueX P (val s.c s.e) j) := fun j hj => (bx j hj).mono (by decide)
  refine Dn.els (eK (compL (n := 3) (f := fun j => fq (dueX P (val s.c s.e) j)) (g := fun j => .str (txt (dueX P (val s.c s.e) j))) (eV rfl) (by decide) fun j hj => ⟨0, eF (eC (eV rfl) eN) (ftext_ok (by decide) (bx' j hj))⟩)
    (compL (n := 3) (f := fun j => fq (dueX P (val s.c s.e) j)) (g := fun j => .str (txt (dueX P (val s.c s.e) j))) (eI (eV rfl) vL rfl) (by decide) fun j hj => ⟨0, ?_⟩) (ne_self (Sh.tab fun i ζ => Sh.txt _) (by decide))) ?_
  . obtain ⟨t1, t2, t3⟩ := ev_txt (Φ := T9 32) (γ := .pl (fq (dueX P (val s.c s.e) j)) :: E9 is P A d dd col s s16 s17 s18 s19 [s20, s21, .pl (encP (esP s l) (esQ s l)), .pl (enc 3 (lsM P A d s l)), s24, .pl (fq (det3 (lsM P A d s l))), s26, s27, s28, .pl sn]) (i := 0) (bx' j hj) rfl
    show _ = some (PyData.str (if _ then _ else _), 0)
    by_cases e : (dueX P (val s.c s.e) j).den = 1
    . rw [decide_eq_true e] at t1
      rw [if_pos e]
      exact ev_iteT t1 t2
    . rw [decide_eq_false e] at t1
      rw [if_neg e]
      exact ev_iteF t1 t3
  have du := due_ok (K := 32) (by decide) T.bp T.ba b (hs.c.mono (show 16 ≤ 34 by decide)) (by decide) (by decide) T.bd T.nz
  rw [lsM_due T hs] at du
  refine Dn.els (ev_or (eK (ev_tup (eC (eV rfl) (eC (eV rfl) eN))) (eV rfl) (ne_self (Sh.pair _ _) (by decide))) (ev_or (eK (ev_tup (eC (eV rfl) (eC (eV rfl) eN))) (eF (eC (eV rfl) (eC (eV rfl) (eC (eV rfl) (eC (eV rfl) (eC (eV rfl) eN))))) du) (ne_self (Sh.pair _ _) (by decide))) (ev_or1 (eK (eV rfl) (eV rfl) (ne_self (Sh.enc 3 _) (by decide)))))) ?_
  exact Dn.els (ev_notAll (eV rfl) hsn) Dn.done
end
end Mine
end
section
set_option maxRecDepth 100000
namespace Mine
open PySem
noncomputable def rowsD (m : Mx) : List PyData := (List.range 3).map fun i => rwD 3 (m i)
noncomputable def nbas (s : RS) : List PyData := (frees s).map fun f => rwD 3 (nv s f)
theorem frees_le (s : RS) : (frees s).length ≤ 3 := by
  have := List.length_filter_le (fun f => decide (f ∉ s.pv)) (List.range 3)
  rw [List.length_range] at this
  exact this
theorem frees_mem {s : RS} {f : Nat} (h : f ∈ frees s) : Free s f := by
  obtain ⟨h1, h2⟩ := List.mem_filter.mp h
  exact ⟨List.mem_range.mp h1, of_decide_eq_true h2⟩
theorem nbas_len (s : RS) : (nbas s).length = (frees s).length := List.length_map _
theorem rowsD_len (m : Mx) : (rowsD m).length = 3 := by unfold rowsD; rw [List.length_map, List.length_range]
noncomputable def seenL (m m' : Mx) (bs : List PyData) (x : Nat -> Rat) (z : Rat) : List PyData := ((rowsD m ++ rowsD m') ++ bs) ++ [rwD 3 x, .list [fq z]]
theorem seenL_len {m m' : Mx} {bs : List PyData} {x : Nat -> Rat} {z : Rat} : (seenL m m' bs x z).length = bs.length + 8 := by
  unfold seenL
  rw [List.length_append, List.length_append, List.length_append, rowsD_len, rowsD_len]
  show 3 + 3 + bs.length + 2 = _
  omega
theorem seenL_all {m m' : Mx} {s : RS} {x : Nat -> Rat} {z : Rat} : (seenL m m' (nbas s) x z).all allI2 = true := by
  unfold seenL
  rw [List.all_append, List.all_append, List.all_append]
  have h1 : (nbas s).all allI2 = true := List.all_eq_true.mpr fun y hy => by
    obtain ⟨c, _, rfl⟩ := List.mem_map.mp hy
    exact allI2_rw _ _
  have h2 : [rwD 3 x, PyData.list [fq z]].all allI2 = true := by
    show (allI2 (rwD 3 x) && true) = true
    rw [allI2_rw]
    rfl
  rw [h1, h2, show (rowsD m).all allI2 = true from all_enc m, show (rowsD m').all allI2 = true from all_enc m']
  rfl
theorem ev_seen {Φ : Funs} {γ : Env'} {m m' : Mx} {bs : List PyData} {x : Nat -> Rat} {z : Rat} (hb : bs.length ≤ 3) (h12 : γ[12]? = some (.pl (enc 3 m))) (h23 : γ[23]? = some (.pl (enc 3 m'))) (h24 : γ[24]? = some (.pl (.list bs))) (h14 : γ[14]? = some (.pl (rwD 3 x))) (h25 : γ[25]? = some (.pl (fq z))) :
    evE Φ γ (.bin .add (.bin .add (.bin .add (.var 12) (.var 23)) (.var 24)) (.lst (.cons (.var 14) (.cons (.lst (.cons (.var 25) .nil)) .nil)))) = some (.list (seenL m m' bs x z), 1) := by
  have l1 : (rowsD m ++ rowsD m').length = 6 := by rw [List.length_append, rowsD_len, rowsD_len]
  have l2 : ((rowsD m ++ rowsD m') ++ bs).length ≤ 9 := by rw [List.length_append, l1]; omega
  exact eB (eB (eB (eV h12) (eV h23) (add_list (a := rowsD m) (b := rowsD m') (by rw [rowsD_len, rowsD_len]; decide))) (eV h24) (add_list (by omega))) (ev_lst (eC (eV h14) (eC (ev_lst (eC (eV h25) eN)) eN))) (add_list (by show _ + 2 ≤ _; omega))
theorem firsts_P (p q : Nat -> Int) : firsts (encP p q) = some [p 0, p 1, p 2] := by
  show (if 3 ≤ lenLim then some [p 0, p 1, p 2] else none) = _
  exact if_pos (lenLim_ge (by decide))
theorem ev_any {Φ : Funs} {γ : Env'} {a b : PE} {la lb : Nat} {p q c e : Nat -> Int} (ha : evE Φ γ a = some (encP p q, la)) (hb : evE Φ γ b = some (encP c e, lb)) : evT Φ γ (.anyZ a b) = some (([p 0, p 1, p 2].zip [c 0, c 1, c 2]).any anyP) := bnd ha (bnd hb (bnd (firsts_P p q) (bnd (firsts_P c e) rfl)))
theorem any_iff (p c : Nat -> Int) : ([p 0, p 1, p 2].zip [c 0, c 1, c 2]).any anyP = true ↔ ∃ j, j < 3 ∧ p j = 0 ∧ c j ≠ 0 := by
  have h : ∀ j, anyP (p j, c j) = true ↔ p j = 0 ∧ c j ≠ 0 := fun j => by
    show (p j == 0 && c j != 0) = true ↔ _
    rw [Bool.and_eq_true, beq_iff_eq, bne_iff_ne]
  show (anyP (p 0, c 0) || (anyP (p 1, c 1) || (anyP (p 2, c 2) || false))) = true ↔ _
  rw [Bool.or_eq_true, Bool.or_eq_true, Bool.or_eq_true, h, h, h]
  constructor
  . rintro (z | z | z | z)
    . exact ⟨0, by decide, z⟩
    . exact ⟨1, by decide, z⟩
    . exact ⟨2, by decide, z⟩
    . cases z
  . rintro ⟨j, hj, z⟩
    rcases lt3 hj with rfl | rfl | rfl
    . exact .inl z
    . exact .inr (.inl z)
    . exact .inr (.inr (.inl z))
theorem div_id {x p q c e : Rat} (hp : p ≠ 0) (hq : q ≠ 0) (he : e ≠ 0) (h : p / q * x = c / e) : x = c * q / (e * p) := by
  have : x = (p / q * x) * (q / p) := by grind
  rw [this, h]
  grind
section
variable {is : List Int} {P A : Nat -> Nat -> Int} {d : Int} {dd col : PyData} {s : St4} {s16 s17 s18 s19 : Slot} {l : Rat}
theorem lsM_bd (T : Tb P A d) (hs : Gd4 16 s) (hl : Bd 17 l) : BM 93 3 (lsM P A d s l) := fun i hi j hj => by
  have b1 := dueM_bd T (val_bd hs.d) i hi j hj
  have b2 : Bd 1 (if i = j then (1 : Rat) else 0) := by
    by_cases e : i = j
    . rw [if_pos e]; exact (Bd01 (by decide)).2
    . rw [if_neg e]; exact (Bd01 (by decide)).1
  show Bd 93 (_ - l * _)
  rw [Rat.sub_eq_add_neg]
  exact b1.add (hl.mul b2).neg
theorem es_zero (hs : Gd4 16 s) (hl : Bd 17 l) {j : Nat} (hj : j < 3) : val s.p s.q j - l = 0 ↔ esP s l j = 0 := by
  rw [← es_val (hs.d j hj).2.2]
  exact val_zero (es_bd hs hl j hj).2.2
noncomputable abbrev augM (P A : Nat -> Nat -> Int) (d : Int) (s : St4) (l : Rat) : Mx := aug4 (lsM P A d s l) (dueX P (val s.c s.e))
theorem sol_num (T : Tb P A d) (hs : Gd4 16 s) (hl : Bd 17 l) (hn : ffirst (redF 3 (augM P A d s l)).m 3 (redF 3 (augM P A d s l)).pv.length (3 - (redF 3 (augM P A d s l)).pv.length) = none) {j : Nat} (hj : j < 3) (h0 : esP s l j ≠ 0) :
    sm3 (A j) (ys (redF 3 (augM P A d s l)) 3) d = Rat.divInt (s.c j * esQ s l j) (s.e j * esP s l j) := by
  have sp := sol_pass T (val s.p s.q) (val s.c s.e) l hn j hj
  rw [← es_val (hs.d j hj).2.2] at sp
  have n1 : ((esP s l j : Int) : Rat) ≠ 0 := fun z => h0 (Rat.intCast_inj.mp z)
  have n2 : ((esQ s l j : Int) : Rat) ≠ 0 := fun z => (es_bd hs hl j hj).2.2 (Rat.intCast_inj.mp z)
  have n3 : ((s.e j : Int) : Rat) ≠ 0 := fun z => (hs.c j hj).2.2 (Rat.intCast_inj.mp z)
  unfold val at sp
  rw [divInt_div, divInt_div] at sp
  rw [divInt_div, Rat.intCast_mul, Rat.intCast_mul]
  exact div_id n1 n2 n3 sp
theorem phF (T : Tb P A d) (hs : Gd4 16 s) (hl : Bd 17 l) {s20 s21 s28 s29 : Slot} :
    Dn (E9 is P A d dd col s s16 s17 s18 s19 [s20, s21, .pl (encP (esP s l) (esQ s l)), .pl (enc 3 (lsM P A d s l)), .pl (.list (nbas (redF 3 (lsM P A d s l)))), .pl (fq (det3 (lsM P A d s l))), .pl (if ffirst (redF 3 (augM P A d s l)).m 3 (redF 3 (augM P A d s l)).pv.length (3 - (redF 3 (augM P A d s l)).pv.length) = none then rwD 3 (ys (redF 3 (augM P A d s l)) 3) else .none), .pl (pvD (frees (redF 3 (lsM P A d s l)))), s28, s29]) w9_32 := by
  have bM := lsM_bd T hs hl
  have eb := es_bd hs hl
  have nl : (nbas (redF 3 (lsM P A d s l))).length ≤ 3 := by rw [nbas_len]; exact frees_le _
  by_cases hn : ffirst (redF 3 (augM P A d s l)).m 3 (redF 3 (augM P A d s l)).pv.length (3 - (redF 3 (augM P A d s l)).pv.length) = none
  . rw [if_pos hn]
    have hany : ([esP s l 0, esP s l 1, esP s l 2].zip [s.c 0, s.c 1, s.c 2]).any anyP = false := by
      rw [Bool.eq_false_iff]
      intro z
      obtain ⟨j, hj, z1, z2⟩ := (any_iff _ _).mp z
      have sp := sol_pass T (val s.p s.q) (val s.c s.e) l hn j hj
      rw [(es_zero hs hl hj).mpr z1, Rat.zero_mul] at sp
      exact z2 ((val_zero (hs.c j hj).2.2).mp sp.symm)
    have by_ : BV (16 * 93 + 5) 3 (ys (redF 3 (augM P A d s l)) 3) := sol_bd T (a := 34) (b := 16) bM (fun j hj => (stat_bd T hs j hj).mono (by decide)) (fun j hj => by
      rw [← es_val (hs.d j hj).2.2]
      exact val_bd eb j hj) (val_bd hs.c) (by decide) hn
    have so := solves_ok (K := 32) (by decide) T.ba T.bd T.nz eb (hs.c.mono (show 16 ≤ 34 by decide)) by_ (by decide) (by decide) (by decide) fun j hj h0 => sol_num T hs hl hn hj h0
    refine Dn.els (eK (ev_tst (ev_isNone (eV rfl) rfl)) (ev_tst ((ev_any (eV rfl) (eV rfl)).trans (congrArg some hany))) (ne_self (Sh.bool false) (by decide))) ?_
    refine Dn.asg (ev_seen nl rfl rfl rfl rfl rfl) ?_
    refine Dn.thn (ev_isNotT (eV rfl) rfl) (st_asg (eB (eV rfl) (ev_lst (eC (eV rfl) eN)) (add_list (by rw [seenL_len]; show _ + 1 ≤ _; omega))) (st_else (ev_or (eK (compG (xs := frees (redF 3 (lsM P A d s l))) (F := fun (p : Nat) => PyData.int (p : Int)) (g := fun ζ => fq 0) (eV rfl) (Nat.le_trans (frees_le _) (by decide)) fun g hg => ⟨0, ?_⟩)
      (compG (xs := frees (redF 3 (lsM P A d s l))) (F := fun (p : Nat) => PyData.int (p : Int)) (g := fun ζ => fq 0) (eV rfl) (Nat.le_trans (frees_le _) (by decide)) fun g hg => ⟨0, ev_tup (eC vL (eC vL eN))⟩) (ne_self (Sh.list fun x hx => ?_) (show 2 ≤ 64 by decide))) (ev_or1 (ev_notT (eF (eC (eV rfl) (eC (eV rfl) (eC (eV rfl) (eC (eV rfl) (eC (eV rfl) eN))))) so)))) st_nil)) ?_
    . have hf := frees_mem hg
      have hz : ys (redF 3 (augM P A d s l)) 3 g = 0 := ys_free (redF_rd 4 (augM P A d s l)) ⟨hf.1, by rw [redF_aug]; exact hf.2⟩
      have i1 := idxR (n := 3) (f := fun j => fq (ys (redF 3 (augM P A d s l)) 3 j)) (by decide) hf.1
      simp only [hz] at i1
      exact eI (eV rfl) (eV rfl) i1
    . obtain ⟨_, _, rfl⟩ := List.mem_map.mp hx
      exact Sh.fq _
    . refine phG T hs hl ?_
      show List.all (seenL _ _ _ _ _ ++ [rwD 3 _]) allI2 = true
      rw [List.all_append, seenL_all]
      show (true && (allI2 (rwD 3 _) && true)) = true
      rw [allI2_rw]
      rfl
  . rw [if_neg hn]
    have hany : ([esP s l 0, esP s l 1, esP s l 2].zip [s.c 0, s.c 1, s.c 2]).any anyP = true := by
      obtain ⟨j, hj, z1, z2⟩ := sol_fail T (val s.p s.q) (val s.c s.e) l hn
      exact (any_iff _ _).mpr ⟨j, hj, (es_zero hs hl hj).mp z1, fun z => z2 ((val_zero (hs.c j hj).2.2).mpr z)⟩
    refine Dn.els (eK (ev_tst (ev_isNone (eV rfl) rfl)) (ev_tst ((ev_any (eV rfl) (eV rfl)).trans (congrArg some hany))) (ne_self (Sh.bool true) (by decide))) ?_
    refine Dn.asg (ev_seen nl rfl rfl rfl rfl rfl) ?_
    refine Dn.els (ev_isNotF (eV rfl) rfl) ?_
    refine phG T hs hl ?_
    exact (show List.all (seenL _ _ _ _ _) allI2 = true from seenL_all)
end
end Mine
end
section
set_option maxRecDepth 100000
namespace Mine
open PySem
theorem max_flt {g : Nat -> Bool} {f : Nat} (hf : f < 3) (h1 : g f = true) (h0 : ∀ j, f < j -> j < 3 -> g j = false) : bltD .max (.list ([PyData.int (-1)] ++ ((List.range 3).filter g).map fun (k : Nat) => PyData.int (k : Int))) = some (.int (f : Int), 0) := by
  have e : (List.range 3).filter g = (if g 0 then [0] else []) ++ ((if g 1 then [1] else []) ++ (if g 2 then [2] else [])) := by
    show List.filter g [0, 1, 2] = _
    rw [List.filter_cons, List.filter_cons, List.filter_cons, List.filter_nil]
    cases g 0 <;> cases g 1 <;> cases g 2 <;> rfl
  rw [e]
  rcases lt3 hf with rfl | rfl | rfl
  . rw [h1, h0 1 (by decide) (by decide), h0 2 (by decide) (by decide)]
    rfl
  . rw [h1, h0 2 (by decide) (by decide)]
    cases g 0 <;> rfl
  . rw [h1]
    cases g 0 <;> cases g 1 <;> rfl
section
variable {Φ : Funs} {γ : Env'}
theorem lead_ok {v : Nat -> Rat} {f : Nat} (hf : f < 3) (h1 : v f ≠ 0) (h0 : ∀ j, f < j -> j < 3 -> v j = 0) :
    evE Φ (.pl (rwD 3 v) :: γ) (.blt .max (.bin .add (.lst (.cons (.neg (.lit (.int 1))) .nil)) (.comp (.var 0) 1 (.r1 (.lit (.int 3))) (.cmp .ne (.idx (.var 1) (.var 0)) (.tup (.cons (.lit (.int 0)) (.cons (.lit (.int 1)) .nil))))))) = some (.int (f : Int), 0) := by
  obtain ⟨rs, e1, e2⟩ := mapM_flt (f := fun d => (bindC 1 d (.pl (rwD 3 v) :: γ)).bind fun g => (evT Φ g (.cmp .ne (.idx (.var 1) (.var 0)) (.tup (.cons (.lit (.int 0)) (.cons (.lit (.int 1)) .nil))))).bind fun b => if b then (evE Φ g (.var 0)).map some else some none) (F := fun (k : Nat) => PyData.int (k : Int)) (b := fun i => !decide (v i = 0)) (List.range 3) fun c hc => by
    have t : evT Φ (.pl (.int (c : Int)) :: .pl (rwD 3 v) :: γ) (.cmp .ne (.idx (.var 1) (.var 0)) (.tup (.cons (.lit (.int 0)) (.cons (.lit (.int 1)) .nil)))) = some (!decide (v c = 0)) := eK (eI (eV rfl) (eV rfl) (idxR (n := 3) (f := fun j => fq (v j)) (by decide) (List.mem_range.mp hc))) (ev_tup (eC vL (eC vL eN))) (cmp_ne_fq0 _)
    refine bnd rfl (bnd t ?_)
    show (if (!decide (v c = 0)) = true then _ else _) = some (if (!decide (v c = 0)) = true then _ else _)
    cases (!decide (v c = 0)) <;> rfl
  have c := ev_comp (Φ := Φ) (γ := .pl (rwD 3 v) :: γ) ((ev_r1 ev_lit3 (okR_nat (n := 3) (by decide))).trans (congrArg some (range_map 3))) e1
  unfold mkL at c
  rw [e2] at c
  refine ev_blt (eB (ev_lst (eC (ev_neg vL) eN)) c (add_list ?_)) (max_flt hf (not_dec' h1) fun j a b => not_dec (h0 j a b))
  rw [List.length_map]
  have := List.length_filter_le (fun i => !decide (v i = 0)) (List.range 3)
  rw [List.length_range] at this
  show 1 + _ ≤ _
  omega
end
theorem len_list {xs : List PyData} (h : xs.length ≤ 1000) : bltD .len (.list xs) = some (.int (xs.length : Nat), 0) := if_pos (lenLim_ge h)
theorem count3 (p : Nat -> Int) : mthD .count (tab 3 fun j => .int (p j)) (.int 0) = some (.int (((if p 0 = 0 then 1 else 0) + (if p 1 = 0 then 1 else 0) + (if p 2 = 0 then 1 else 0) : Nat) : Int), 0) := by
  show (if [p 0, p 1, p 2].length ≤ lenLim then some (PyData.int ([p 0, p 1, p 2].count 0 : Nat), 0) else none) = _
  refine (if_pos (lenLim_ge (Nat.le_add_left 3 997))).trans ?_
  have : [p 0, p 1, p 2].count 0 = (if p 0 = 0 then 1 else 0) + (if p 1 = 0 then 1 else 0) + (if p 2 = 0 then 1 else 0) := by
    rw [List.count_cons, List.count_cons, List.count_cons, List.count_nil]
    simp only [beq_iff_eq]
    omega
  rw [this]
theorem rise_ok {w : Nat} {M : Mx} {s : RS} (h : Rd w M 3 s) : rise3.contains ((frees s).map fun (p : Nat) => (p : Int)) = true := by
  unfold frees
  rcases pv_cases h with e | e | e | e | e | e | e | e <;> rw [e] <;> decide
theorem sorted_ok {w : Nat} {M : Mx} {s : RS} (h : Rd w M 3 s) : bltD .sortedSet (pvD (frees s)) = some (pvD (frees s), 1) := bnd (intsD_nats (frees s)) (if_pos (rise_ok h))
theorem nv_eq {w : Nat} {M : Mx} {s : RS} (h : Rd w M 3 s) {f g : Nat} (hg : Free s g) : nv s f g = if f = g then 1 else 0 := by
  by_cases e : f = g
  . rw [if_pos e, e]; exact nv_self s g
  . rw [if_neg e]; exact nv_free h hg (fun z => e z.symm)
section
variable {is : List Int} {P A : Nat -> Nat -> Int} {d : Int} {dd col : PyData} {s : St4} {s16 s17 s18 s19 : Slot} {l : Rat}
theorem num_ok (T : Tb P A d) (hs : Gd4 16 s) (hl : Bd 17 l) : (nbas (redF 3 (lsM P A d s l))).length = (if esP s l 0 = 0 then 1 else 0) + (if esP s l 1 = 0 then 1 else 0) + (if esP s l 2 = 0 then 1 else 0) := by
  rw [nbas_len, count_free T]
  simp only [es_zero hs hl (show 0 < 3 by decide), es_zero hs hl (show 1 < 3 by decide), es_zero hs hl (show 2 < 3 by decide)]
theorem phE (T : Tb P A d) (hs : Gd4 16 s) (hl : Bd 17 l) {s20 s21 s27 s28 s29 : Slot} :
    Dn (E9 is P A d dd col s s16 s17 s18 s19 [s20, s21, .pl (encP (esP s l) (esQ s l)), .pl (enc 3 (lsM P A d s l)), .pl (.list (nbas (redF 3 (lsM P A d s l)))), .pl (fq (det3 (lsM P A d s l))), .pl (if ffirst (redF 3 (augM P A d s l)).m 3 (redF 3 (augM P A d s l)).pv.length (3 - (redF 3 (augM P A d s l)).pv.length) = none then rwD 3 (ys (redF 3 (augM P A d s l)) 3) else .none), s27, s28, s29]) w9_28 := by
  have hR := redF_rd 3 (lsM P A d s l)
  have eb := es_bd hs hl
  have bM := lsM_bd T hs hl
  have nl : (nbas (redF 3 (lsM P A d s l))).length ≤ 1000 := by rw [nbas_len]; exact Nat.le_trans (frees_le _) (by decide)
  have fl : (frees (redF 3 (lsM P A d s l))).length ≤ 1000 := Nat.le_trans (frees_le _) (by decide)
  have nu := num_ok T hs hl
  have np := fun f hf j hj h0 => null_pass T (val s.p s.q) l (f := f) hf (j := j) hj h0
  have nb := fun f hf => nv_bd (f := f) bM hf
  have phF' := @phF is P A d dd col s s16 s17 s18 s19 l T hs hl s20 s21
  generalize (if ffirst (redF 3 (augM P A d s l)).m 3 (redF 3 (augM P A d s l)).pv.length (3 - (redF 3 (augM P A d s l)).pv.length) = none then rwD 3 (ys (redF 3 (augM P A d s l)) 3) else .none) = y at *
  refine Dn.asg (compG (xs := frees (redF 3 (lsM P A d s l))) (F := fun f => rwD 3 (nv (redF 3 (lsM P A d s l)) f)) (g := fun (p : Nat) => PyData.int (p : Int)) (eV rfl) fl fun f hf => ⟨0, lead_ok (frees_mem hf).1 (by rw [nv_self]; decide) fun j h1 h2 => nv_lead hR (frees_mem hf) h1 h2⟩) ?_
  refine Dn.els (ev_or (eK (ev_blt (eV rfl) (len_list nl)) (ev_mth (compL (n := 3) (f := fun j => pr (esP s l j) (esQ s l j)) (g := fun j => .int (esP s l j)) (eV rfl) (by decide) fun j hj => ⟨0, eI (eV rfl) vL (idxp0 _ _)⟩) vL (count3 _)) ((cmp_ne_int _ _).trans (congrArg some (not_dec (congrArg Nat.cast nu))))) (ev_or1 (eK (eV rfl) (ev_blt (eV rfl) (sorted_ok hR)) (ne_self (Sh.pv _) (by decide))))) ?_
  refine Dn.els (eK (compG (xs := frees (redF 3 (lsM P A d s l))) (F := fun f => rwD 3 (nv (redF 3 (lsM P A d s l)) f)) (g := fun f => .list ((frees (redF 3 (lsM P A d s l))).map fun g => fq (if f = g then 1 else 0))) (eV rfl) fl fun f hf => ⟨1, compG (xs := frees (redF 3 (lsM P A d s l))) (F := fun (p : Nat) => PyData.int (p : Int)) (eV rfl) fl fun g hg => ⟨0, ?_⟩⟩)
    (compG (xs := frees (redF 3 (lsM P A d s l))) (F := fun (p : Nat) => PyData.int (p : Int)) (g := fun f => .list ((frees (redF 3 (lsM P A d s l))).map fun g => fq (if f = g then 1 else 0))) (eV rfl) fl fun f hf => ⟨1, compG (xs := frees (redF 3 (lsM P A d s l))) (F := fun (p : Nat) => PyData.int (p : Int)) (eV rfl) fl fun g hg => ⟨0, ?_⟩⟩) (ne_self (Sh.list fun x hx => ?_) (show 3 ≤ 64 by decide))) ?_
  . have i1 := idxR (n := 3) (f := fun j => fq (nv (redF 3 (lsM P A d s l)) f j)) (by decide) (frees_mem hg).1
    simp only [nv_eq hR (frees_mem hg)] at i1
    exact eI (eV rfl) (eV rfl) i1
  . by_cases e : f = g
    . rw [if_pos e]
      exact ev_iteT (eK (eV rfl) (eV rfl) ((cmp_eq_nat f g).trans (congrArg some (decide_eq_true e)))) (ev_tup (eC vL (eC vL eN)))
    . rw [if_neg e]
      exact ev_iteF (eK (eV rfl) (eV rfl) ((cmp_eq_nat f g).trans (congrArg some (decide_eq_false e)))) (ev_tup (eC vL (eC vL eN)))
  . obtain ⟨f, _, rfl⟩ := List.mem_map.mp hx
    exact Sh.list fun x hx => by
      obtain ⟨g, _, rfl⟩ := List.mem_map.mp hx
      exact Sh.fq _
  obtain ⟨a', lp⟩ := look_loop (body := fun g => evSs (T9 32) 40000 true g lsBody) (i := 28) (mk := fun a => E9 is P A d dd col s s16 s17 s18 s19 [s20, s21, .pl (encP (esP s l) (esQ s l)), .pl (enc 3 (lsM P A d s l)), .pl (.list (nbas (redF 3 (lsM P A d s l)))), .pl (fq (det3 (lsM P A d s l))), .pl y, .pl (pvD (frees (redF 3 (lsM P A d s l)))), a, s29]) (fun ζ ζ => rfl) (nbas (redF 3 (lsM P A d s l))) s28 fun x hx => by
    obtain ⟨f, hf, rfl⟩ := List.mem_map.mp hx
    have hf := frees_mem hf
    have so := solves_ok (K := 32) (by decide) T.ba T.bd T.nz eb (c := fun ζ => 0) (e := fun ζ => 1) (fun j hj => ⟨show (0 : Int).natAbs < 2 ^ 34 by decide, show (1 : Int).natAbs < 2 ^ 34 by decide, show (1 : Int) ≠ 0 by decide⟩) (nb f hf) (by decide) (by decide) (by decide) fun j hj h0 => by
      show _ = Rat.divInt (0 * esQ s l j) (1 * esP s l j)
      rw [np f hf j hj fun z => h0 ((es_zero hs hl hj).mp z), Int.zero_mul, Rat.zero_divInt]
    have z3 : evE (T9 32) (E9 is P A d dd col s s16 s17 s18 s19 [s20, s21, .pl (encP (esP s l) (esQ s l)), .pl (enc 3 (lsM P A d s l)), .pl (.list (nbas (redF 3 (lsM P A d s l)))), .pl (fq (det3 (lsM P A d s l))), .pl y, .pl (pvD (frees (redF 3 (lsM P A d s l)))), .pl (rwD 3 (nv (redF 3 (lsM P A d s l)) f)), s29]) (.lst (.cons (.tup (.cons (.lit (.int 0)) (.cons (.lit (.int 1)) .nil))) (.cons (.tup (.cons (.lit (.int 0)) (.cons (.lit (.int 1)) .nil))) (.cons (.tup (.cons (.lit (.int 0)) (.cons (.lit (.int 1)) .nil))) .nil)))) = some (encP (fun ζ => 0) (fun ζ => 1), 1) := rfl
    exact st_else (ev_notT (eF (eC (eV rfl) (eC (eV rfl) (eC (eV rfl) (eC z3 (eC (eV rfl) eN))))) so)) st_nil
  exact Dn.fr (ev_of (eV rfl) rfl (lenLim_ge nl)) lp phF'
noncomputable def lamR (s : St4) (j : Nat) (m : Int) : Rat := Rat.divInt (s.p j + m * s.q j) (s.q j)
theorem lam_n {s : St4} (hs : Gd4 16 s) {j : Nat} (hj : j < 3) {m : Int} (hm : m = 0 ∨ m = 1) : (s.p j + m * s.q j).natAbs < 2 ^ 17 := by
  obtain ⟨a, b, z⟩ := hs.d j hj
  rcases hm with rfl | rfl
  . rw [Int.zero_mul, Int.add_zero]
    exact up_lt a (by decide)
  . rw [Int.one_mul]
    exact iadd_lt a b
theorem lam_bd {s : St4} (hs : Gd4 16 s) {j : Nat} (hj : j < 3) {m : Int} (hm : m = 0 ∨ m = 1) : Bd 17 (lamR s j m) := Bd.divInt (hs.d j hj).2.2 (lam_n hs hj hm) (up_lt (hs.d j hj).2.1 (by decide))
theorem ev_scr {Φ : Funs} {γ : Env'} {k : Nat} (hk : k < is.length) (hk2 : k ≤ 1000) (h : γ[0]? = some (.pl (.list (is.map .int)))) : evE Φ γ (.idx (.var 0) (.lit (.int (k : Int)))) = some (.int (is.getD k 0), 0) :=
  eI (eV h) vL (idx_ok (Nat.lt_of_le_of_lt hk2 (by decide)) (by rw [List.getElem?_map, List.getD_eq_getElem?_getD, List.getElem?_eq_getElem hk]; rfl))
theorem modk {a m : Int} (h0 : m ≠ 0) (hm : m.natAbs < 2 ^ 10) : binD .mod (.int a) (.int m) = some (.int (a.fmod m), 0) := mod_int h0 (ilim (by decide) hm)
theorem fmod2 (a : Int) : a.fmod 2 = 0 ∨ a.fmod 2 = 1 := by
  have h1 := Int.fmod_nonneg_of_pos a (show (0 : Int) < 2 by decide)
  have h2 := Int.fmod_lt_of_pos a (show (0 : Int) < 2 by decide)
  omega
theorem phD (T : Tb P A d) (hs : Gd4 16 s) (hi : 23 ≤ is.length) : Dn (E9 is P A d dd col s s16 s17 s18 s19 [.un, .un, .un, .un, .un, .un, .un, .un, .un, .un]) w9_21 := by
  have m3 : ((is.getD 21 0).fmod 3).toNat < 3 := by
    have h1 := Int.fmod_nonneg_of_pos (is.getD 21 0) (show (0 : Int) < 3 by decide)
    have h2 := Int.fmod_lt_of_pos (is.getD 21 0) (show (0 : Int) < 3 by decide)
    omega
  have m2 := fmod2 (is.getD 22 0)
  have ix := idx_mod (k := is.getD 21 0) (f := fun j => pr (s.p j) (s.q j))
  refine Dn.asg (eI (eV rfl) (eB (ev_scr (k := 21) (by first | assumption | decide | exact Nat.le_of_lt ‹_› | exact Nat.le_trans ‹_› (by decide) | exact Nat.lt_of_lt_of_le ‹_› (by decide) | omega) (by decide) rfl) vL (mod3 _)) ix) ?_
  generalize ((is.getD 21 0).fmod 3).toNat = j at *
  have m2b : ((is.getD 22 0).fmod 2).natAbs < 2 ^ 1 := by rcases m2 with e | e <;> rw [e] <;> decide
  obtain ⟨a, b, z⟩ := hs.d j m3
  have lo := low_ok (K := 32) (by decide) (n := s.p j + (is.getD 22 0).fmod 2 * s.q j) (d := s.q j) z (up_lt b (by decide))
  refine Dn.asg (eF (eC (eB (eI (eV rfl) vL (idxp0 _ _)) (eB (eB (ev_scr (k := 22) (by first | assumption | decide | exact Nat.le_of_lt ‹_› | exact Nat.le_trans ‹_› (by decide) | exact Nat.lt_of_lt_of_le ‹_› (by decide) | omega) (by decide) rfl) vL (modk (by decide) (by decide))) (eI (eV rfl) vL (idxp1 _ _)) (mulk (by decide) (by decide) m2b b)) rfl) (eC (eI (eV rfl) vL (idxp1 _ _)) eN)) lo) ?_
  have hl := lam_bd hs m3 m2
  show Dn (List.set _ 21 (.pl (fq (lamR s j ((is.getD 22 0).fmod 2))))) _
  generalize lamR s j ((is.getD 22 0).fmod 2) = l at *
  have hld : ((l.den : Nat) : Int).natAbs < 2 ^ 17 := by rw [Int.natAbs_natCast]; exact hl.2
  refine Dn.asg (compL (n := 3) (f := fun j => pr (s.p j) (s.q j)) (g := fun j => pr (esP s l j) (esQ s l j)) (eV rfl) (by decide) fun k hk => ⟨0, ev_tup (eC (eB (eB (eI (eV rfl) vL (idxp0 _ _)) (eI (eV rfl) vL (idx1 _)) (mulk (by decide) (by decide) (hs.d k hk).1 hld)) (eB (eI (eV rfl) vL (idx0 _)) (eI (eV rfl) vL (idxp1 _ _)) (mulk (by decide) (by decide) hl.1 (hs.d k hk).2.1)) rfl) (eC (eB (eI (eV rfl) vL (idxp1 _ _)) (eI (eV rfl) vL (idx1 _)) (mulk (by decide) (by decide) (hs.d k hk).2.1 hld)) eN))⟩) ?_
  have bm := dueM_bd T (val_bd hs.d)
  refine Dn.asg (eF (eC (eV rfl) (eC (eV rfl) eN)) (les_ok (K := 32) (by decide) (by decide) bm hl)) ?_
  have bM := lsM_bd T hs hl
  obtain ⟨l1, nu⟩ := null_ok (K := 32) (by decide) (by decide) bM
  refine Dn.asg (eF (eC (eV rfl) (eC vL eN)) nu) ?_
  refine Dn.asg (eF (eC (eV rfl) eN) (det_ok (K := 32) (by decide) (by decide) bM)) ?_
  obtain ⟨l2, so⟩ := sol_ok (K := 32) (by decide) (by decide) bM (fun j hj => (stat_bd T hs j hj).mono (by decide))
  refine Dn.asg (eF (eC (eV rfl) (eC vL (eC (eV rfl) eN))) so) ?_
  exact phE T hs hl
end
end Mine
end
section
set_option maxRecDepth 100000
namespace Mine
open PySem
section
variable {is : List Int} {P A : Nat -> Nat -> Int} {d : Int} {dd col : PyData} {s : St4}
theorem deed_turn (T : Tb P A d) {w kd : Nat} {k : Int} (hw : w ≤ 8) (hw2 : 2 ≤ w) (hk : k.natAbs ≤ 2) (hkd : kd < 6) (h : Gd4 w s) (s18 s19 : Slot) (tl : List Slot) :
    ∃ t18 t19, evSs (T9 32) 40000 true (E9 is P A d dd col s (.pl (.int (kd : Int))) (.pl (.int k)) s18 s19 tl) ddBody = some (.next, E9 is P A d dd col (mdl kd k s).1 (.pl (.int (kd : Int))) (.pl (.int k)) t18 t19 tl) := by
  have ru := run_ok (K := 32) (by decide) (by decide) T (show w ≤ 16 by first | assumption | decide | exact Nat.le_of_lt ‹_› | exact Nat.le_trans ‹_› (by decide) | exact Nat.lt_of_lt_of_le ‹_› (by decide) | omega) hk hkd h
  have mo := model_ok (K := 32) (by decide) (by first | assumption | decide | exact Nat.le_of_lt ‹_› | exact Nat.le_trans ‹_› (by decide) | exact Nat.lt_of_lt_of_le ‹_› (by decide) | omega) hk hkd h
  have hb := mdl_bd (kd := kd) hw2 hk h
  have du := due_ok (K := 32) (by decide) T.bp T.ba hb.d hb.c (by first | assumption | decide | exact Nat.le_of_lt ‹_› | exact Nat.le_trans ‹_› (by decide) | exact Nat.lt_of_lt_of_le ‹_› (by decide) | omega) (by first | assumption | decide | exact Nat.le_of_lt ‹_› | exact Nat.le_trans ‹_› (by decide) | exact Nat.lt_of_lt_of_le ‹_› (by decide) | omega) T.bd T.nz
  generalize mdl kd k s = r at *
  refine ⟨.pl (.tuple [mach P A d r.1, stat P r.1, .bool r.2]), .pl (.bool r.2), ?_⟩
  refine st_asgW (eC (eV rfl) (eC (eV rfl) (eC (eV rfl) (eC (eV rfl) (eC (eV rfl) eN))))) ru rfl ?_
  refine st_asgN (eF (eC (eV rfl) (eC (eV rfl) (eC (eV rfl) (eC (eV rfl) eN)))) mo) rfl ?_
  refine st_else (ev_or (eK (ev_tup (eC (eV rfl) (eC (eV rfl) eN))) (eV rfl) (ne_self (Sh.pair _ _) (by decide))) (ev_or1 (eK (eI (eV rfl) vL rfl) (eV rfl) (ne_self (Sh.bool _) (by decide))))) ?_
  refine st_asg (eI (eV rfl) vL rfl) (st_asg (eI (eV rfl) vL rfl) (st_asg (eF (eC (eV rfl) (eC (eV rfl) (eC (eV rfl) (eC (eV rfl) (eC (eV rfl) eN))))) du) ?_))
  exact st_else (eK (ev_tup (eC (eV rfl) (eC (eV rfl) eN))) (eV rfl) (ne_self (Sh.pair _ _) (by decide))) st_nil
theorem phC (T : Tb P A d) (h : Gd4 2 s) (hi : 23 ≤ is.length) {a0 a1 a2 k0 k1 k2 : Int} (h0 : 0 ≤ a0 ∧ a0 < 6) (h1 : 0 ≤ a1 ∧ a1 < 6) (h2 : 0 ≤ a2 ∧ a2 < 6) (g0 : k0.natAbs ≤ 2) (g1 : k1.natAbs ≤ 2) (g2 : k2.natAbs ≤ 2) :
    Dn (E9 is P A d (.list [pr a0 k0, pr a1 k1, pr a2 k2]) col s .un .un .un .un [.un, .un, .un, .un, .un, .un, .un, .un, .un, .un]) w9_20 := by
  obtain ⟨c0, rfl⟩ := Int.eq_ofNat_of_zero_le h0.1
  obtain ⟨c1, rfl⟩ := Int.eq_ofNat_of_zero_le h1.1
  obtain ⟨c2, rfl⟩ := Int.eq_ofNat_of_zero_le h2.1
  obtain ⟨t18, t19, e0⟩ := deed_turn (is := is) (dd := .list [pr c0 k0, pr c1 k1, pr c2 k2]) (col := col) T (by decide) (by decide) g0 (show c0 < 6 by first | assumption | decide | exact Nat.le_of_lt ‹_› | exact Nat.le_trans ‹_› (by decide) | exact Nat.lt_of_lt_of_le ‹_› (by decide) | omega) h .un .un [.un, .un, .un, .un, .un, .un, .un, .un, .un, .un]
  have b1 := mdl_bd (kd := c0) (by decide) g0 h
  generalize (mdl c0 k0 s).1 = r1 at *
  obtain ⟨u18, u19, e1⟩ := deed_turn (is := is) (dd := .list [pr c0 k0, pr c1 k1, pr c2 k2]) (col := col) T (by decide) (by decide) g1 (show c1 < 6 by first | assumption | decide | exact Nat.le_of_lt ‹_› | exact Nat.le_trans ‹_› (by decide) | exact Nat.lt_of_lt_of_le ‹_› (by decide) | omega) b1 t18 t19 [.un, .un, .un, .un, .un, .un, .un, .un, .un, .un]
  have b2 := mdl_bd (kd := c1) (by decide) g1 b1
  generalize (mdl c1 k1 r1).1 = r2 at *
  obtain ⟨v18, v19, e2⟩ := deed_turn (is := is) (dd := .list [pr c0 k0, pr c1 k1, pr c2 k2]) (col := col) T (by decide) (by decide) g2 (show c2 < 6 by first | assumption | decide | exact Nat.le_of_lt ‹_› | exact Nat.le_trans ‹_› (by decide) | exact Nat.lt_of_lt_of_le ‹_› (by decide) | omega) b2 u18 u19 [.un, .un, .un, .un, .un, .un, .un, .un, .un, .un]
  have b3 := mdl_bd (kd := c2) (by decide) g2 b2
  generalize (mdl c2 k2 r2).1 = r3 at *
  exact Dn.fr (ev_of (xs := [pr c0 k0, pr c1 k1, pr c2 k2]) (eV rfl) rfl (lenLim_ge (Nat.le_add_left 3 997))) (fl2_cons e0 (fl2_cons e1 (fl2_cons e2 fl_nil))) (phD T b3 hi)
noncomputable def s0 (p c : Nat -> Int) : St4 := ⟨p, fun ζ => 1, c, fun ζ => 1⟩
theorem val_one (p : Nat -> Int) : val p (fun ζ => 1) = fun j => ((p j : Int) : Rat) := funext fun j => by
  unfold val
  rw [divInt_div]
  show ((p j : Int) : Rat) / 1 = _
  grind
theorem first_a (T : Tb P A d) (p c : Nat -> Int) : enc 3 (mm (castM fun i j => P i j * p j) (qM A d)) = mach P A d (s0 p c) := enc_congr fun i k hi hk => by
  show _ = dueM P A d (val p (fun ζ => 1)) i k
  rw [val_one]
  unfold mm dt dueM sm3 castM qM
  simp only [Rat.intCast_mul]
  grind
theorem first_x (p c : Nat -> Int) : (rwD 3 fun i => dt (castM P i) fun j => ((c j : Int) : Rat)) = stat P (s0 p c) := rwD_congr fun i hi => by
  show _ = dueX P (val c (fun ζ => 1)) i
  rw [val_one, dueX_mv]
  rfl
theorem qM_bd (T : Tb P A d) : BM 10 3 (qM A d) := fun i hi j hj => (Bd.cast (k := 4) (by decide) (T.ba i j hi hj)).div (fun z => T.nz (Rat.intCast_inj.mp z)) (Bd.cast (k := 6) (by decide) T.bd)
theorem sl_all {xs : List PyData} (h : xs.length ≤ 1000) : slD (.list xs) .none .none = some (.list xs, 1) := by
  show (if xs.length ≤ lenLim then some (PyData.list xs, 1) else none) = _
  exact if_pos (lenLim_ge h)
theorem phB (T : Tb P A d) {p c : Nat -> Int} (hp : ∀ j, j < 3 -> (p j).natAbs < 2 ^ 2) (hc : ∀ j, j < 3 -> (c j).natAbs < 2 ^ 2) (hi : 23 ≤ is.length) {a0 a1 a2 k0 k1 k2 : Int} (h0 : 0 ≤ a0 ∧ a0 < 6) (h1 : 0 ≤ a1 ∧ a1 < 6) (h2 : 0 ≤ a2 ∧ a2 < 6) (g0 : k0.natAbs ≤ 2) (g1 : k1.natAbs ≤ 2) (g2 : k2.natAbs ≤ 2) :
    Dn [.pl (.list (is.map .int)), .pl (tab 3 fun j => .int (P 0 j)), .pl (tab 3 fun j => .int (P 1 j)), .pl (encI P), .pl (enc 3 (castM P)), .pl (encP p fun ζ => 1), .pl (encP c fun ζ => 1), .pl (.list [pr a0 k0, pr a1 k1, pr a2 k2]), .pl (encI A), .pl (.int d), .pl (enc 3 (castM P)), .pl (enc 3 (qM A d)),
      .un, .un, .un, .un, .un, .un, .un, .un, .un, .un, .un, .un, .un, .un, .un, .un, .un, .un] w9_15 := by
  have bp : BP 2 p fun ζ => 1 := fun j hj => ⟨hp j hj, show (1 : Int).natAbs < 2 ^ 2 by decide, show (1 : Int) ≠ 0 by decide⟩
  have bc : BP 2 c fun ζ => 1 := fun j hj => ⟨hc j hj, show (1 : Int).natAbs < 2 ^ 2 by decide, show (1 : Int) ≠ 0 by decide⟩
  have mu := mmul_ok (K := 32) (by decide) (by decide) (a := castM fun i j => P i j * p j) (i := 4) (fun i hi j hj => Bd.cast (by decide) (imul_lt (T.bp i j hi hj) (hp j hj))) (qM_bd T)
  rw [first_a T p c] at mu
  refine Dn.asg (eF (eC (eF (eC (compL (n := 3) (f := fun i => tab 3 fun j => .int (P i j)) (g := fun i => tab 3 fun j => .int (P i j * p j)) (eV rfl) (by decide) fun i hi => ⟨1, compZ (n := 3) (f := fun j => .int (P i j)) (f' := fun j => pr (p j) 1) (eV rfl) (eV rfl) (by decide) fun j hj => ⟨0, eB (eV rfl) (eI (eV rfl) vL (idxp0 _ _)) (mulk (by decide) (by decide) (T.bp i j hi hj) (hp j hj))⟩⟩) eN) (fints_ok (by decide) fun i j => P i j * p j)) (eC (eV rfl) (eC vL (eC vL eN)))) mu) ?_
  refine Dn.asg (ev_sl (eV rfl) (sl_all (Nat.le_add_left 3 997))) ?_
  have mv := mvec_ok (K := 32) (by decide) (by decide) (castM_bd T) (v := fun j => ((c j : Int) : Rat)) (j := 2) (fun j hj => Bd.cast (by decide) (hc j hj))
  rw [first_x p c] at mv
  refine Dn.asg (eF (eC (eV rfl) (eC (eV rfl) eN)) mv) ?_
  refine Dn.asg (eF (eC (eV rfl) (eC (eV rfl) (eC (eV rfl) (eC (eV rfl) (eC (eV rfl) eN))))) (due_ok (K := 32) (by decide) T.bp T.ba bp bc (by decide) (by decide) T.bd T.nz)) ?_
  refine Dn.els (ev_or (eK (eV rfl) (eV rfl) (ne_self (Sh.encP _ _) (by decide))) (ev_or1 (eK (ev_tup (eC (eV rfl) (eC (eV rfl) eN))) (eV rfl) (ne_self (Sh.pair _ _) (by decide))))) ?_
  exact phC (col := encP c fun ζ => 1) (s := s0 p c) T ⟨bp, bc⟩ hi h0 h1 h2 g0 g1 g2
end
end Mine
end
section
set_option maxRecDepth 100000
namespace Mine
open PySem
theorem tab_sing {P : Nat -> Nat -> Int} (h : detI P = 0) : (redF 3 (aug6 (castM P))).pv ≠ [0, 1, 2] := by
  refine sing_pv (redF_rd 6 _) (fun i k hi hk => by
    unfold aug6
    rw [if_neg (by omega), show 3 + k - 3 = k by omega]) ?_
  have e : det3 (aug6 (castM P)) = ((detI P : Int) : Rat) := by
    have g : ∀ i k, k < 3 -> aug6 (castM P) i k = castM P i k := fun i k hk => if_pos hk
    unfold det3
    simp only [g _ 0 (by decide), g _ 1 (by decide), g _ 2 (by decide)]
    unfold castM detI adjI nx ny
    simp only [Rat.intCast_add, Rat.intCast_sub, Rat.intCast_mul, Nat.zero_add, Nat.reduceAdd, Nat.reduceMod]
    grind
  rw [e, h]
  rfl
noncomputable def pz (is : List Int) : Nat -> Nat -> Int := fun i j => if i = j then (is.getD (3 * i + j) 0 + 2).fmod 4 - 1 else (is.getD (3 * i + j) 0).fmod 4 - 1
theorem fm {a m : Int} (hm : 0 < m) : 0 ≤ a.fmod m ∧ a.fmod m < m := ⟨Int.fmod_nonneg_of_pos a hm, Int.fmod_lt_of_pos a hm⟩
theorem pz_bd (is : List Int) (i j : Nat) : (pz is i j).natAbs ≤ 2 := by
  unfold pz
  split
  . have := fm (a := is.getD (3 * i + j) 0 + 2) (show (0 : Int) < 4 by decide)
    omega
  . have := fm (a := is.getD (3 * i + j) 0) (show (0 : Int) < 4 by decide)
    omega
section
variable {is : List Int} {γ : Env'}
theorem ev_md {k : Nat} {m : Int} (h : γ[0]? = some (.pl (.list (is.map .int)))) (hk : k < is.length) (hk2 : k ≤ 1000) (h0 : m ≠ 0) (hm : m.natAbs < 2 ^ 10) : evE (T9 32) γ (.bin .mod (.idx (.var 0) (.lit (.int (k : Int)))) (.lit (.int m))) = some (.int ((is.getD k 0).fmod m), 0) := eB (ev_scr hk hk2 h) vL (modk h0 hm)
theorem ev_ms {k : Nat} {m t : Int} (h : γ[0]? = some (.pl (.list (is.map .int)))) (hk : k < is.length) (hk2 : k ≤ 1000) (h0 : m ≠ 0) (hm : m.natAbs < 2 ^ 10) : evE (T9 32) γ (.bin .sub (.bin .mod (.idx (.var 0) (.lit (.int (k : Int)))) (.lit (.int m))) (.lit (.int t))) = some (.int ((is.getD k 0).fmod m - t), 0) := eB (ev_md h hk hk2 h0 hm) vL rfl
theorem ev_ma {k : Nat} {m t u : Int} (h : γ[0]? = some (.pl (.list (is.map .int)))) (hk : k < is.length) (hk2 : k ≤ 1000) (h0 : m ≠ 0) (hm : m.natAbs < 2 ^ 10) : evE (T9 32) γ (.bin .sub (.bin .mod (.bin .add (.idx (.var 0) (.lit (.int (k : Int)))) (.lit (.int u))) (.lit (.int m))) (.lit (.int t))) = some (.int ((is.getD k 0 + u).fmod m - t), 0) := eB (eB (eB (ev_scr hk hk2 h) vL rfl) vL (modk h0 hm)) vL rfl
end
section
variable {is : List Int}
theorem phA2 {P : Nat -> Nat -> Int} {p c : Nat -> Int} (hP : ∀ i j, i < 3 -> j < 3 -> (P i j).natAbs ≤ 2) (hp : ∀ j, j < 3 -> (p j).natAbs < 2 ^ 2) (hc : ∀ j, j < 3 -> (c j).natAbs < 2 ^ 2) (hi : 23 ≤ is.length) {a0 a1 a2 k0 k1 k2 : Int} (h0 : 0 ≤ a0 ∧ a0 < 6) (h1 : 0 ≤ a1 ∧ a1 < 6) (h2 : 0 ≤ a2 ∧ a2 < 6) (g0 : k0.natAbs ≤ 2) (g1 : k1.natAbs ≤ 2) (g2 : k2.natAbs ≤ 2) :
    Dn [.pl (.list (is.map .int)), .pl (tab 3 fun j => .int (P 0 j)), .pl (tab 3 fun j => .int (P 1 j)), .pl (encI P), .pl (enc 3 (castM P)), .pl (encP p fun ζ => 1), .pl (encP c fun ζ => 1), .pl (.list [pr a0 k0, pr a1 k1, pr a2 k2]), .un, .un, .un, .un,
      .un, .un, .un, .un, .un, .un, .un, .un, .un, .un, .un, .un, .un, .un, .un, .un, .un, .un] w9_8 := by
  have bP : BI 2 P := fun i j hi hj => Nat.lt_of_le_of_lt (hP i j hi hj) (by decide)
  have bA : BI 4 (adjI P) := fun i j ζ ζ => Nat.lt_of_le_of_lt (adj_bd hP) (by decide)
  have iv := inverse_ok (K := 32) (m := castM P) (B := 2) (by decide) (by decide) (by decide) (fun i hi j hj => Bd.cast (by decide) (bP i j hi hj))
  have r0 := fun (j : Nat) (hj : j < 3) => idxR (n := 3) (f := fun j => PyData.int (P 0 j)) (by decide) hj
  have rA := fun (i : Nat) (hi : i < 3) => idxR (n := 3) (f := fun i => tab 3 fun j => PyData.int (adjI P i j)) (by decide) hi
  have rB := fun (i j : Nat) (hj : j < 3) => idxR (n := 3) (f := fun j => PyData.int (adjI P i j)) (by decide) hj
  refine Dn.asg (eF (eC (eV rfl) eN) (adj_ok (by decide) (by decide) bP)) ?_
  refine Dn.asg (d := .int (detI P)) (eB (eB (eB (eI (eV rfl) vL (r0 0 (by decide))) (eI (eI (eV rfl) vL (rA 0 (by decide))) vL (rB 0 0 (by decide))) (mulk (by decide) (by decide) (bP 0 0 (by decide) (by decide)) (bA 0 0 (by decide) (by decide)))) (eB (eI (eV rfl) vL (r0 1 (by decide))) (eI (eI (eV rfl) vL (rA 1 (by decide))) vL (rB 1 0 (by decide))) (mulk (by decide) (by decide) (bP 0 1 (by decide) (by decide)) (bA 1 0 (by decide) (by decide)))) rfl) (eB (eI (eV rfl) vL (r0 2 (by decide))) (eI (eI (eV rfl) vL (rA 2 (by decide))) vL (rB 2 0 (by decide))) (mulk (by decide) (by decide) (bP 0 2 (by decide) (by decide)) (bA 2 0 (by decide) (by decide)))) rfl) ?_
  refine Dn.asg (eF (eC (eV rfl) eN) (fints_ok (by decide) P)) ?_
  refine Dn.asg vL ?_
  by_cases hd : detI P = 0
  . rw [if_neg (tab_sing hd)] at iv
    refine Dn.tryX (eC (eV rfl) eN) iv ?_
    refine Dn.els (ev_or (eK (ev_tst (ev_isNone (eV rfl) rfl)) (ev_tst (eK (eV rfl) vL (cmpT hd))) (ne_self (Sh.bool true) (by decide))) (ev_or1 (eK (eV rfl) (eV rfl) (ne_self (Sh.enc 3 _) (by decide))))) ?_
    exact Dn.yes (ev_isNone (eV rfl) rfl) Dn.done
  . have T := Tb.of hP hd
    obtain ⟨q1, q2⟩ := inv_gen (M := castM P) (Y := qM (adjI P) (detI P)) fun i k hi hk => T.inv.qp i k hi hk
    rw [if_pos q1, q2] at iv
    refine Dn.tryO (eC (eV rfl) eN) iv ?_
    refine Dn.els (ev_or (eK (ev_tst (ev_isNone (eV rfl) rfl)) (ev_tst (eK (eV rfl) vL (cmpF hd))) (ne_self (Sh.bool false) (by decide))) (ev_or1 (eK (eV rfl) (eV rfl) (ne_self (Sh.enc 3 _) (by decide))))) ?_
    refine Dn.els (ev_isNone (eV rfl) rfl) ?_
    exact phB T hp hc hi h0 h1 h2 g0 g1 g2
theorem small2 {a : Int} : (a.fmod 5 - 2).natAbs ≤ 2 := by
  have := fm (a := a) (show (0 : Int) < 5 by decide)
  omega
theorem small3 {a : Int} : (a.fmod 6 - 2).natAbs < 2 ^ 2 := by
  have := fm (a := a) (show (0 : Int) < 6 by decide)
  show _ < 4
  omega
theorem phA (hi : 23 ≤ is.length) (hi2 : is.length ≤ 63) :
    Dn [.pl (.list (is.map .int)), .un, .un, .un, .un, .un, .un, .un, .un, .un, .un, .un, .un, .un, .un, .un, .un, .un, .un, .un, .un, .un, .un, .un, .un, .un, .un, .un, .un, .un] w9_0 := by
  refine Dn.els (eK (ev_blt (eV rfl) (len_list (by rw [List.length_map]; omega))) vL (congrArg some (decide_eq_false (by rw [List.length_map]; omega)))) ?_
  have L : ∀ k, k < 23 -> k < is.length := fun k hk => by omega
  refine Dn.asg (d := tab 3 fun j => .int (pz is 0 j)) (ev_lst (eC (ev_ma (k := 0) rfl (L _ (by decide)) (by decide) (by decide) (by decide)) (eC (ev_ms (k := 1) rfl (L _ (by decide)) (by decide) (by decide) (by decide)) (eC (ev_ms (k := 2) rfl (L _ (by decide)) (by decide) (by decide) (by decide)) eN)))) ?_
  refine Dn.asg (d := tab 3 fun j => .int (pz is 1 j)) (ev_lst (eC (ev_ms (k := 3) rfl (L _ (by decide)) (by decide) (by decide) (by decide)) (eC (ev_ma (k := 4) rfl (L _ (by decide)) (by decide) (by decide) (by decide)) (eC (ev_ms (k := 5) rfl (L _ (by decide)) (by decide) (by decide) (by decide)) eN)))) ?_
  refine Dn.asg (d := encI (pz is)) (ev_lst (eC (eV rfl) (eC (eV rfl) (eC (ev_lst (eC (ev_ms (k := 6) rfl (L _ (by decide)) (by decide) (by decide) (by decide)) (eC (ev_ms (k := 7) rfl (L _ (by decide)) (by decide) (by decide) (by decide)) (eC (ev_ma (k := 8) rfl (L _ (by decide)) (by decide) (by decide) (by decide)) eN)))) eN)))) ?_
  refine Dn.asg (d := enc 3 (castM (pz is))) (compL (n := 3) (f := fun i => tab 3 fun j => .int (pz is i j)) (eV rfl) (by decide) fun i ζ => ⟨1, compL (n := 3) (f := fun j => .int (pz is i j)) (eV rfl) (by decide) fun j ζ => ⟨0, ev_tup (eC (eV rfl) (eC vL eN))⟩⟩) ?_
  refine Dn.asg (d := encP (fun j => (is.getD (9 + j) 0).fmod 6 - 2) fun ζ => 1) (ev_lst (eC (ev_tup (eC (ev_ms (k := 9) rfl (L _ (by decide)) (by decide) (by decide) (by decide)) (eC vL eN))) (eC (ev_tup (eC (ev_ms (k := 10) rfl (L _ (by decide)) (by decide) (by decide) (by decide)) (eC vL eN))) (eC (ev_tup (eC (ev_ms (k := 11) rfl (L _ (by decide)) (by decide) (by decide) (by decide)) (eC vL eN))) eN)))) ?_
  refine Dn.asg (d := encP (fun j => (is.getD (12 + j) 0).fmod 5 - 2) fun ζ => 1) (ev_lst (eC (ev_tup (eC (ev_ms (k := 12) rfl (L _ (by decide)) (by decide) (by decide) (by decide)) (eC vL eN))) (eC (ev_tup (eC (ev_ms (k := 13) rfl (L _ (by decide)) (by decide) (by decide) (by decide)) (eC vL eN))) (eC (ev_tup (eC (ev_ms (k := 14) rfl (L _ (by decide)) (by decide) (by decide) (by decide)) (eC vL eN))) eN)))) ?_
  refine Dn.asg (ev_lst (eC (ev_tup (eC (ev_md (k := 15) rfl (L _ (by decide)) (by decide) (by decide) (by decide)) (eC (ev_ms (k := 16) rfl (L _ (by decide)) (by decide) (by decide) (by decide)) eN))) (eC (ev_tup (eC (ev_md (k := 17) rfl (L _ (by decide)) (by decide) (by decide) (by decide)) (eC (ev_ms (k := 18) rfl (L _ (by decide)) (by decide) (by decide) (by decide)) eN))) (eC (ev_tup (eC (ev_md (k := 19) rfl (L _ (by decide)) (by decide) (by decide) (by decide)) (eC (ev_ms (k := 20) rfl (L _ (by decide)) (by decide) (by decide) (by decide)) eN))) eN)))) ?_
  exact phA2 (P := pz is) (fun i j ζ ζ => pz_bd is i j) (fun j ζ => small3) (fun j ζ => Nat.lt_of_le_of_lt small2 (by decide)) hi (fm (by decide)) (fm (by decide)) (fm (by decide)) small2 small2 small2
end
theorem pure9 (is : List Int) (h : is.length ≤ 63) : ∃ l, evF (tower fs9 40000 32) 40000 true f9_32 [.list (is.map .int)] = some (.ret (.bool true) l) := by
  suffices hd : Dn [.pl (.list (is.map .int)), .un, .un, .un, .un, .un, .un, .un, .un, .un, .un, .un, .un, .un, .un, .un, .un, .un, .un, .un, .un, .un, .un, .un, .un, .un, .un, .un, .un, .un] w9_0 by
    obtain ⟨g, e⟩ := hd
    exact ⟨0, evF_ret rfl e⟩
  by_cases hi : 23 ≤ is.length
  . exact phA hi h
  . exact Dn.yes (eK (ev_blt (eV rfl) (len_list (by rw [List.length_map]; omega))) vL (congrArg some (decide_eq_true (by rw [List.length_map]; omega)))) Dn.done
end Mine
end
open PySem PySem.W PyProof.Rows
theorem PySem.Challenge.cw_sx_vpivot_9_holds : PySem.Challenge.rw_sx_vpivot_9.Holds :=
  Mine.x9 Mine.pure9
