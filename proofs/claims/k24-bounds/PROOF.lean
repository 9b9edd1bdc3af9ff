import PyProof.Rows.All
import HandS.ForMost
import HandS.Defaults
import HandS.MakeKwOnly
import HandS.Property
import HandS.IsInst
import HandS.StrMore
import HandS.Style
import HandS.TupAny
import HandS.Zip
import HandS.ClsMeth
import HandS.More
import KE.GoesEnum
import KE.KStateDown
import HandS.WordsExc
import HandS.Head0
import HandS.Head1
import HandS.Head2
import HandS.HeadEnd
import HandS.HeadHook1
import HandS.HeadHook2
import HandS.HeadHook3
import PyProof.TableCode
import PySem.Challenge.RW_surenear_k24_whole_bounds_are_safe
/-! K24Ir: a small language over data trees and its evaluator (core Lean alone). -/
set_option linter.all false
namespace K24
/-- data trees -/
inductive D where
  | non
  | bl (b : Bool)
  | int (i : Int)
  | str (l : List Nat)
  | tup (xs : List D)
  | lst (xs : List D)
  | scr (ns : List Int)
  | ins (c : Nat) (fs : List (Nat × D))
  deriving Inhabited
/-- what a slot holds: a reference to a mutable object, or data -/
inductive AV where
  | ref (n : Nat)
  | d (x : D)
/-- a mutable object -/
inductive AO where
  | lst (xs : List D)
  | ins (c : Nat) (fs : List (Nat × D))
  | dead
abbrev Hs := List AO
abbrev Sl := List (Option AV)
inductive BOp where | add | sub | mul | fdiv | mod | pow
inductive COp where | eq | ne | lt | le | gt | ge | isin | nin
  deriving DecidableEq
inductive Blt where | len | int | tuple | list | min2 | max2 | minl | maxl
  deriving DecidableEq
/-- a target: a name, a tuple of names -/
inductive Tg where
  | one (i : Nat)
  | many (is : List Nat)
mutual
inductive IE where
  | bad
  | var (i : Nat)
  | lit (d : D)
  | glob (g : Nat)
  | bin (op : BOp) (a b : IE)
  | neg (a : IE)
  | not (a : IE)
  | and (a b : IE)
  | or (a b : IE)
  | ite (c a b : IE)
  | cmp (op : COp) (a b : IE)
  | chain (o1 o2 : COp) (a b c : IE)
  | isN (a : IE)
  | notN (a : IE)
  | notT (a : IE)
  | call (d : Nat) (as : IL)
  | make (c : Nat) (as : IL)
  | make0 (c : Nat)
  | meth (o : IE) (m : Nat) (as : IL)
  | attr (o : IE) (f : Nat)
  | prop (o : IE) (f : Nat)
  | blt (b : Blt) (as : IL)
  | isin (a : IE) (one : Bool) (cs : List Nat)
  | sw (a b c : IE)
  | dget (t : Nat) (a : IE)
  | dnin (t : Nat) (a : IE)
  | idx (a i : IE)
  | sl (a : IE) (lo hi : IO)
  | tup (as : IL)
  | lst (as : IL)
  | comp (e : IE) (tg : Tg) (it : II) (c : IO)
inductive IL where
  | nil
  | cons (a : IE) (r : IL)
inductive IO where
  | no
  | yes (e : IE)
inductive II where
  | val (e : IE)
  | rng (e : IE)
  | zip2 (a b : IE)
  | zip3 (a b c : IE)
end
mutual
inductive IS where
  | never
  | set (i : Nat) (e : IE)
  | newl (i : Nat) (as : IL)
  | newo (i : Nat) (c : Nat) (as : IL)
  | seta (i f : Nat) (e : IE)
  | seti (i : Nat) (k e : IE)
  | sett (is : List Nat) (e : IE)
  | app (i : Nat) (e : IE)
  | expr (e : IE)
  | base (i d : Nat) (as : IL)
  | ret (e : IE)
  | ite (c : IE) (a b : IB)
  | whl (c : IE) (b : IB)
  | loop (tg : Tg) (it : II) (b : IB)
inductive IB where
  | nil
  | cons (s : IS) (r : IB)
end
/-- a def: parameters, slots, body -/
structure DefI where
  np : Nat
  ns : Nat
  body : IB
/-- a class: __init__, methods, properties (by name), attributes that are set -/
structure ClsI where
  init : Option Nat
  meths : List (Nat × Nat)
  props : List (Nat × Nat)
  flds : List Nat
structure Prog where
  defs : List DefI
  cls : List ClsI
  globs : List D
  dicts : List (List (List Nat × D))
  /-- the classes that isinstance asks for -/
  conds : List Nat

/-! ### values -/
def bnd {α β : Type} (x : Option α) (f : α → Option β) : Option β := match x with
  | some a => f a
  | none => none
def toD : AV → Option D
  | .d x => some x
  | .ref _ => none
/-- the data that may be read -/
def look (h : Hs) : AV → Option D
  | .d x => some x
  | .ref n => match h[n]? with
    | some (.lst xs) => some (.lst xs)
    | _ => none
def frz (h : Hs) : AV → Option (D × Hs)
  | .d x => some (x, h)
  | .ref n => match h[n]? with
    | some (.lst xs) => some (.lst xs, h.set n .dead)
    | _ => none
def frzs (h : Hs) : List AV → Option (List D × Hs)
  | [] => some ([], h)
  | v :: vs => bnd (frz h v) fun p => bnd (frzs p.2 vs) fun q => some (p.1 :: q.1, q.2)
def toDs : List AV → Option (List D)
  | [] => some []
  | v :: vs => bnd (toD v) fun x => bnd (toDs vs) fun xs => some (x :: xs)
def line : Nat := 16777216
def mulOk (a b : Int) : Bool := Nat.blt a.natAbs 18446744073709551616 || Nat.blt b.natAbs 18446744073709551616
def bin (op : BOp) (x y : D) : Option D := match op with
  | .add => (match x with
    | .int a => (match y with | .int b => some (.int (a + b)) | _ => none)
    | .str a => (match y with | .str b => (match Nat.ble (a.length + b.length) line with | true => some (.str (a ++ b)) | false => none) | _ => none)
    | .lst a => (match y with | .lst b => (match Nat.ble (a.length + b.length) line with | true => some (.lst (a ++ b)) | false => none) | _ => none)
    | _ => none)
  | .sub => (match x with | .int a => (match y with | .int b => some (.int (a - b)) | _ => none) | _ => none)
  | .mul => (match x with | .int a => (match y with | .int b => (match mulOk a b with | true => some (.int (a * b)) | false => none) | _ => none) | _ => none)
  | .fdiv => (match x with | .int a => (match y with | .int b => (match decide (b ≠ 0) && Nat.blt b.natAbs 1073741824 with | true => some (.int (a.fdiv b)) | false => none) | _ => none) | _ => none)
  | .mod => (match x with | .int a => (match y with | .int b => (match decide (b ≠ 0) with | true => some (.int (a.fmod b)) | false => none) | _ => none) | _ => none)
  | .pow => (match x with | .int a => (match y with | .int b => (match decide (0 ≤ b) && (decide (b ≤ 1000000) && Nat.blt a.natAbs 18446744073709551616) with | true => some (.int (a ^ b.toNat)) | false => none) | _ => none) | _ => none)
def eqD (x y : D) : Option Bool := match x with
  | .non => (match y with | .non => some true | .bl _ => some false | .int _ => some false | .str _ => some false | _ => none)
  | .bl a => (match y with | .non => some false | .bl b => some (decide (a = b)) | .str _ => some false | _ => none)
  | .int a => (match y with | .non => some false | .int b => some (decide (a = b)) | .str _ => some false | _ => none)
  | .str a => (match y with | .non => some false | .bl _ => some false | .int _ => some false | .str b => some (decide (a = b)) | _ => none)
  | _ => none
/-- words that lie in order: by their signs -/
def ltL : List Nat → List Nat → Bool
  | _, [] => false
  | [], _ :: _ => true
  | a :: as, b :: bs => Nat.blt a b || (Nat.beq a b && ltL as bs)
def isStr : D → Bool
  | .str _ => true
  | _ => false
def eqS (x : List Nat) : D → Bool
  | .str y => decide (y = x)
  | _ => false
def inD (x y : D) : Option Bool := match x with
  | .str a => (match y with
    | .lst ys => (match ys.all isStr with | true => some (ys.any (eqS a)) | false => none)
    | .tup ys => (match ys.all isStr with | true => some (ys.any (eqS a)) | false => none)
    | _ => none)
  | _ => none
def ordD (f : Int → Int → Bool) (g : List Nat → List Nat → Bool) (x y : D) : Option Bool := match x with
  | .int a => (match y with | .int b => some (f a b) | _ => none)
  | .str a => (match y with | .str b => some (g a b) | _ => none)
  | _ => none
def cmpD (op : COp) (x y : D) : Option Bool := match op with
  | .eq => eqD x y
  | .ne => bnd (eqD x y) fun b => some (!b)
  | .lt => ordD (fun a b => decide (a < b)) (fun a b => ltL a b) x y
  | .le => ordD (fun a b => decide (a ≤ b)) (fun a b => !ltL b a) x y
  | .gt => ordD (fun a b => decide (b < a)) (fun a b => ltL b a) x y
  | .ge => ordD (fun a b => decide (b ≤ a)) (fun a b => !ltL a b) x y
  | .isin => inD x y
  | .nin => bnd (inD x y) fun b => some (!b)
/-- a place in a sequence of n -/
def ixI (n : Nat) (i : Int) : Option Nat := if 0 ≤ i then (if i < n then some i.toNat else none) else if -(n : Int) ≤ i then some (i + n).toNat else none
def atD (x : D) (i : Int) : Option D := match x with
  | .lst xs => bnd (ixI xs.length i) fun j => xs[j]?
  | .tup xs => bnd (ixI xs.length i) fun j => xs[j]?
  | .str l => (match Nat.ble l.length line with | true => bnd (ixI l.length i) fun j => bnd l[j]? fun c => some (.str [c]) | false => none)
  | _ => none
def sIx (n d : Nat) : Option Int → Nat
  | none => d
  | some v => if v < 0 then (v + (n : Int)).toNat else min v.toNat n
def cut {α : Type} (xs : List α) (lo hi : Option Int) : List α := (xs.drop (sIx xs.length 0 lo)).take (sIx xs.length xs.length hi - sIx xs.length 0 lo)
def slD (x : D) (lo hi : Option Int) : Option D := match x with
  | .lst xs => some (.lst (cut xs lo hi))
  | .tup xs => some (.tup (cut xs lo hi))
  | .str l => (match Nat.ble l.length line with | true => some (.str (cut l lo hi)) | false => none)
  | _ => none
def intsD : List D → Option (List Int)
  | [] => some []
  | .int i :: r => bnd (intsD r) fun l => some (i :: l)
  | _ :: _ => none
def leastL : Int → List Int → Int
  | m, [] => m
  | m, x :: r => leastL (if x < m then x else m) r
def mostL : Int → List Int → Int
  | m, [] => m
  | m, x :: r => mostL (if x > m then x else m) r
def lenD : D → Option Nat
  | .lst xs => some xs.length
  | .tup xs => some xs.length
  | .str l => (match Nat.ble l.length line with | true => some l.length | false => none)
  | _ => none
/-- the texts of numbers that are met -/
def intL (l : List Nat) : Option Int := match decide (l = [50]) with
  | true => some 2
  | false => match decide (l = [49]) with
    | true => some 1
    | false => match decide (l = [45, 49]) with
      | true => some (-1)
      | false => none
def blt1 (b : Blt) (x : D) : Option D := match b with
  | .len => bnd (lenD x) fun n => some (.int n)
  | .int => (match x with | .int i => some (.int i) | .bl k => some (.int (if k then 1 else 0)) | .str l => bnd (intL l) fun i => some (.int i) | _ => none)
  | .tuple => (match x with | .lst xs => some (.tup xs) | .tup xs => some (.tup xs) | _ => none)
  | .list => (match x with | .lst xs => some (.lst xs) | .tup xs => some (.lst xs) | .scr ns => some (.lst (ns.map .int)) | _ => none)
  | .minl => (match x with | .lst xs => bnd (intsD xs) fun l => (match l with | [] => none | m :: r => some (.int (leastL m r))) | _ => none)
  | .maxl => (match x with | .lst xs => bnd (intsD xs) fun l => (match l with | [] => none | m :: r => some (.int (mostL m r))) | _ => none)
  | _ => none
def blt2 (b : Blt) (x y : D) : Option D := match x with
  | .int i => (match y with
    | .int j => (match b with
      | .min2 => some (.int (if j < i then j else i))
      | .max2 => some (.int (if j > i then j else i))
      | _ => none)
    | _ => none)
  | _ => none
def bltN (b : Blt) (xs : List D) : Option D := match xs with
  | [x] => blt1 b x
  | [x, y] => blt2 b x y
  | _ => none
/-- is it one of the class: 0 bool, 1 str, 2 int, 3 + c own -/
def isI (T : Prog) (x : D) (c : Nat) : Option Bool := match x with
  | .bl _ => (match c with | 0 => some true | 1 => some false | 2 => some true | _ => none)
  | .int _ => (match c with | 0 => some false | 1 => some false | 2 => some true | _ => none)
  | .str _ => (match c with | 0 => some false | 1 => some true | 2 => some false | _ => none)
  | .ins k _ => (match c with
    | c + 3 => (match T.conds.contains k && T.conds.contains c with | true => some (Nat.beq k c) | false => none)
    | _ => none)
  | _ => none
def isA (T : Prog) (x : D) : List Nat → Option Bool
  | [] => some false
  | c :: cs => bnd (isI T x c) fun b => match b with | true => some true | false => isA T x cs
def swD (a b : List Nat) (i : Int) : Option Bool := match decide (0 ≤ i) with
  | true => some (Nat.ble (i.toNat + b.length) a.length && decide ((a.drop i.toNat).take b.length = b))
  | false => none
def putF (f : Nat) (v : D) : List (Nat × D) → List (Nat × D)
  | [] => [(f, v)]
  | (g, x) :: r => match Nat.beq g f with | true => (g, v) :: r | false => (g, x) :: putF f v r
def getF (f : Nat) : List (Nat × D) → Option D
  | [] => none
  | (g, x) :: r => match Nat.beq g f with | true => some x | false => getF f r
/-- an instance, pure or mutable -/
def insOf (h : Hs) : AV → Option (Nat × List (Nat × D))
  | .d (.ins c fs) => some (c, fs)
  | .ref n => (match h[n]? with | some (.ins c fs) => some (c, fs) | _ => none)
  | _ => none
def look2 (m : Nat) : List (Nat × Nat) → Option Nat
  | [] => none
  | (g, x) :: r => match Nat.beq g m with | true => some x | false => look2 m r
def lookS (m : List Nat) : List (List Nat × D) → Option D
  | [] => none
  | (g, x) :: r => match decide (g = m) with | true => some x | false => lookS m r
def setAll : List Nat → List D → Sl → Sl
  | i :: is, x :: xs, s => setAll is xs (s.set i (some (.d x)))
  | _, _, s => s
def setT (tg : Tg) (x : D) (s : Sl) : Option Sl := match tg with
  | .one i => some (s.set i (some (.d x)))
  | .many is => (match x with
    | .tup ds => (match Nat.beq ds.length is.length with | true => some (setAll is ds s) | false => none)
    | _ => none)
def Tg.slots : Tg → List Nat
  | .one i => [i]
  | .many is => is
def wipeS (s : Sl) : List Nat → Sl
  | [] => s
  | i :: is => (wipeS s is).set i none
def zipD : List D → List D → List D
  | x :: xs, y :: ys => .tup [x, y] :: zipD xs ys
  | _, _ => []
def zipD3 : List D → List D → List D → List D
  | x :: xs, y :: ys, z :: zs => .tup [x, y, z] :: zipD3 xs ys zs
  | _, _, _ => []
def itemsD : D → Option (List D)
  | .lst xs => some xs
  | .tup xs => some xs
  | .str l => (match Nat.ble l.length line with | true => some (l.map fun c => .str [c]) | false => none)
  | _ => none
def tupD : D → Option (List D)
  | .tup xs => some xs
  | _ => none
def rangeD (n : Nat) : List D := (List.range n).map fun (i : Nat) => D.int (i : Int)
def rngD : D → Option (List D)
  | .int i => (match Nat.ble i.natAbs line with | true => some (rangeD i.toNat) | false => none)
  | _ => none
/-- [e for x in xs if t] by the turn -/
def compL (f : D → Hs → Option (Option D × Hs)) : List D → Hs → Option (List D × Hs)
  | [], h => some ([], h)
  | x :: xs, h => bnd (f x h) fun p => bnd (compL f xs p.2) fun q => some (match p.1 with | some y => y :: q.1 | none => q.1, q.2)
abbrev CallT := Nat → List AV → Hs → Option (D × Hs)
/-- a new instance -/
def mkI (T : Prog) (call : CallT) (c : Nat) (vs : List AV) (h : Hs) : Option Hs :=
  bnd (T.cls[c]?) fun ci => bnd ci.init fun d => bnd (call d (.ref h.length :: vs) (h ++ [.ins c []])) fun p => match p.1 with
    | .non => some p.2
    | _ => none
def lookAll (h : Hs) : List AV → Option (List D)
  | [] => some []
  | v :: vs => bnd (look h v) fun x => bnd (lookAll h vs) fun xs => some (x :: xs)
def boolD : D → Option Bool
  | .bl b => some b
  | _ => none

section
variable (T : Prog) (call : CallT)
mutual
def ev : IE → Sl → Hs → Option (AV × Hs)
  | .bad, _, _ => none
  | .var i, s, h => (match s[i]? with | some (some v) => some (v, h) | _ => none)
  | .lit d, _, h => some (.d d, h)
  | .glob g, _, h => bnd (T.globs[g]?) fun d => some (.d d, h)
  | .bin op a b, s, h => bnd (ev a s h) fun p => bnd (toD p.1) fun x => bnd (ev b s p.2) fun q => bnd (toD q.1) fun y => bnd (bin op x y) fun z => some (.d z, q.2)
  | .neg a, s, h => bnd (ev a s h) fun p => (match p.1 with | .d (.int i) => some (.d (.int (-i)), p.2) | _ => none)
  | .not a, s, h => bnd (ev a s h) fun p => (match p.1 with | .d (.bl b) => some (.d (.bl (!b)), p.2) | _ => none)
  | .and a b, s, h => bnd (ev a s h) fun p => (match p.1 with | .d (.bl true) => ev b s p.2 | .d (.bl false) => some (.d (.bl false), p.2) | _ => none)
  | .or a b, s, h => bnd (ev a s h) fun p => (match p.1 with | .d (.bl true) => some (.d (.bl true), p.2) | .d (.bl false) => ev b s p.2 | _ => none)
  | .ite c a b, s, h => bnd (ev c s h) fun p => (match p.1 with | .d (.bl true) => ev a s p.2 | .d (.bl false) => ev b s p.2 | _ => none)
  | .cmp op a b, s, h => bnd (ev a s h) fun p => bnd (toD p.1) fun x => bnd (ev b s p.2) fun q => bnd (look q.2 q.1) fun y => bnd (cmpD op x y) fun z => some (.d (.bl z), q.2)
  | .chain o1 o2 a b c, s, h => bnd (ev a s h) fun p => bnd (toD p.1) fun x => bnd (ev b s p.2) fun q => bnd (toD q.1) fun y => bnd (cmpD o1 x y) fun z => (match z with
    | true => bnd (ev c s q.2) fun r => bnd (toD r.1) fun u => bnd (cmpD o2 y u) fun w => some (.d (.bl w), r.2)
    | false => some (.d (.bl false), q.2))
  | .isN a, s, h => bnd (ev a s h) fun p => (match p.1 with | .d .non => some (.d (.bl true), p.2) | _ => some (.d (.bl false), p.2))
  | .notN a, s, h => bnd (ev a s h) fun p => (match p.1 with | .d .non => some (.d (.bl false), p.2) | _ => some (.d (.bl true), p.2))
  | .notT a, s, h => bnd (ev a s h) fun p => (match p.1 with | .d (.bl b) => some (.d (.bl (!b)), p.2) | _ => none)
  | .call d as, s, h => bnd (evs as s h) fun p => bnd (call d p.1 p.2) fun q => some (.d q.1, q.2)
  | .make c as, s, h => bnd (evs as s h) fun p => bnd (mkI T call c p.1 p.2) fun h' => (match h'[p.2.length]? with
    | some (.ins k fs) => some (.d (.ins k fs), h'.take p.2.length)
    | _ => none)
  | .make0 c, _, h => some (.d (.ins c []), h)
  | .meth o m as, s, h => bnd (ev o s h) fun p => bnd (insOf p.2 p.1) fun q => bnd (T.cls[q.1]?) fun ci => bnd (look2 m ci.meths) fun d => bnd (evs as s p.2) fun r => bnd (call d (p.1 :: r.1) r.2) fun z => some (.d z.1, z.2)
  | .attr o f, s, h => bnd (ev o s h) fun p => bnd (insOf p.2 p.1) fun q => bnd (getF f q.2) fun x => some (.d x, p.2)
  | .prop o m, s, h => bnd (ev o s h) fun p => bnd (insOf p.2 p.1) fun q => bnd (T.cls[q.1]?) fun ci => bnd (look2 m ci.props) fun d => bnd (call d [p.1] p.2) fun z => some (.d z.1, z.2)
  | .blt b as, s, h => bnd (evs as s h) fun p => bnd (lookAll p.2 p.1) fun xs => bnd (bltN b xs) fun x => some (.d x, p.2)
  | .isin a _ cs, s, h => bnd (ev a s h) fun p => bnd (toD p.1) fun x => bnd (isA T x cs) fun b => some (.d (.bl b), p.2)
  | .sw a b c, s, h => bnd (ev a s h) fun p => bnd (ev b s p.2) fun q => bnd (ev c s q.2) fun r => (match p.1, q.1, r.1 with
    | .d (.str x), .d (.str y), .d (.int i) => bnd (swD x y i) fun k => some (.d (.bl k), r.2)
    | _, _, _ => none)
  | .dget t a, s, h => bnd (ev a s h) fun p => (match p.1 with | .d (.str x) => bnd (T.dicts[t]?) fun kvs => bnd (lookS x kvs) fun v => some (.d v, p.2) | _ => none)
  | .dnin t a, s, h => bnd (ev a s h) fun p => (match p.1 with | .d (.str x) => bnd (T.dicts[t]?) fun kvs => bnd (lookS x kvs) fun _ => some (.d (.bl false), p.2) | _ => none)
  | .idx a i, s, h => bnd (ev a s h) fun p => bnd (ev i s p.2) fun q => bnd (look q.2 p.1) fun x => (match q.1 with | .d (.int k) => bnd (atD x k) fun v => some (.d v, q.2) | _ => none)
  | .sl a lo hi, s, h => bnd (ev a s h) fun p => bnd (toD p.1) fun x => bnd (evo lo s p.2) fun q => bnd (evo hi s q.2) fun r => bnd (slD x q.1 r.1) fun v => some (.d v, r.2)
  | .tup as, s, h => bnd (evs as s h) fun p => bnd (frzs p.2 p.1) fun q => (match Nat.ble q.1.length 1000 with | true => some (.d (.tup q.1), q.2) | false => none)
  | .lst as, s, h => bnd (evs as s h) fun p => bnd (toDs p.1) fun q => (match Nat.ble q.length 1000 with | true => some (.d (.lst q), p.2) | false => none)
  | .comp e tg it c, s, h => bnd (evi it s h) fun p => bnd (compL (fun x h => bnd (setT tg x (wipeS s tg.slots)) fun s' => bnd (evc c s' h) fun t => match t.1 with
      | true => bnd (ev e s' t.2) fun q => bnd (toD q.1) fun y => some (some y, q.2)
      | false => some (none, t.2)) p.1 p.2) fun q => some (.d (.lst q.1), q.2)
def evs : IL → Sl → Hs → Option (List AV × Hs)
  | .nil, _, h => some ([], h)
  | .cons a r, s, h => bnd (ev a s h) fun p => bnd (evs r s p.2) fun q => some (p.1 :: q.1, q.2)
def evo : IO → Sl → Hs → Option (Option Int × Hs)
  | .no, _, h => some (none, h)
  | .yes e, s, h => bnd (ev e s h) fun p => (match p.1 with | .d (.int i) => some (some i, p.2) | _ => none)
def evc : IO → Sl → Hs → Option (Bool × Hs)
  | .no, _, h => some (true, h)
  | .yes e, s, h => bnd (ev e s h) fun p => (match p.1 with | .d (.bl b) => some (b, p.2) | _ => none)
def evi : II → Sl → Hs → Option (List D × Hs)
  | .val e, s, h => bnd (ev e s h) fun p => bnd (toD p.1) fun x => bnd (itemsD x) fun xs => some (xs, p.2)
  | .rng e, s, h => bnd (ev e s h) fun p => bnd (toD p.1) fun x => bnd (rngD x) fun xs => some (xs, p.2)
  | .zip2 a b, s, h => bnd (ev a s h) fun p => bnd (toD p.1) fun x => bnd (tupD x) fun xs => bnd (ev b s p.2) fun q => bnd (toD q.1) fun y => bnd (tupD y) fun ys => some (zipD xs ys, q.2)
  | .zip3 a b c, s, h => bnd (ev a s h) fun p => bnd (toD p.1) fun x => bnd (tupD x) fun xs => bnd (ev b s p.2) fun q => bnd (toD q.1) fun y => bnd (tupD y) fun ys => bnd (ev c s q.2) fun r => bnd (toD r.1) fun z => bnd (tupD z) fun zs => some (zipD3 xs ys zs, r.2)
end
/-! ### statements -/
/-- how a statement ends -/
inductive Fl where
  | nx (s : Sl) (h : Hs)
  | rt (x : D) (h : Hs)
def forL (f : D → Sl → Hs → Option Fl) : List D → Sl → Hs → Option Fl
  | [], s, h => some (.nx s h)
  | x :: xs, s, h => bnd (f x s h) fun r => match r with
    | .nx s' h' => forL f xs s' h'
    | .rt v h' => some (.rt v h')
def whlL (c : Sl → Hs → Option (Bool × Hs)) (f : Sl → Hs → Option Fl) : Nat → Sl → Hs → Option Fl
  | 0, _, _ => none
  | n + 1, s, h => bnd (c s h) fun p => match p.1 with
    | false => some (.nx s p.2)
    | true => bnd (f s p.2) fun r => match r with
      | .nx s' h' => whlL c f n s' h'
      | .rt v h' => some (.rt v h')
def fuelW : Nat := 400
def evb (e : IE) (s : Sl) (h : Hs) : Option (Bool × Hs) := bnd (ev T call e s h) fun p => bnd (toD p.1) fun x => bnd (boolD x) fun b => some (b, p.2)
def refOf (s : Sl) (i : Nat) : Option Nat := match s[i]? with
  | some (some (.ref n)) => some n
  | _ => none
def isL (h : Hs) (n : Nat) : Option Unit := match h[n]? with
  | some (.lst _) => some ()
  | _ => none
mutual
def ex : IS → Sl → Hs → Option Fl
  | .never, _, _ => none
  | .set i e, s, h => bnd (ev T call e s h) fun p => some (.nx (s.set i (some p.1)) p.2)
  | .newl i as, s, h => bnd (evs T call as s h) fun p => bnd (toDs p.1) fun xs => (match Nat.ble xs.length 1000 with | true => some (.nx (s.set i (some (.ref p.2.length))) (p.2 ++ [.lst xs])) | false => none)
  | .newo i c as, s, h => bnd (evs T call as s h) fun p => bnd (mkI T call c p.1 p.2) fun h' => some (.nx (s.set i (some (.ref p.2.length))) h')
  | .seta i f e, s, h => bnd (ev T call e s h) fun p => bnd (toD p.1) fun x => bnd (refOf s i) fun n => (match p.2[n]? with
    | some (.ins c fs) => bnd (T.cls[c]?) fun ci => (match ci.flds.contains f && Nat.ble fs.length 900 with | true => some (.nx s (p.2.set n (.ins c (putF f x fs)))) | false => none)
    | _ => none)
  | .seti i k e, s, h => bnd (ev T call e s h) fun p => bnd (toD p.1) fun x => bnd (refOf s i) fun n => bnd (ev T call k s p.2) fun q => (match q.1, q.2[n]? with
    | .d (.int j), some (.lst xs) => bnd (ixI xs.length j) fun m => some (.nx s (q.2.set n (.lst (xs.set m x))))
    | _, _ => none)
  | .sett is e, s, h => bnd (ev T call e s h) fun p => bnd (toD p.1) fun x => bnd (setT (.many is) x s) fun s' => some (.nx s' p.2)
  | .app i e, s, h => bnd (refOf s i) fun n => bnd (isL h n) fun _ => bnd (ev T call e s h) fun p => bnd (toD p.1) fun x => (match p.2[n]? with
    | some (.lst xs) => (match Nat.blt xs.length line with | true => some (.nx s (p.2.set n (.lst (xs ++ [x])))) | false => none)
    | _ => none)
  | .expr e, s, h => bnd (ev T call e s h) fun p => some (.nx s p.2)
  | .base _ d as, s, h => bnd (evs T call as s h) fun p => bnd (call d p.1 p.2) fun q => some (.nx s q.2)
  | .ret e, s, h => bnd (ev T call e s h) fun p => bnd (frz p.2 p.1) fun q => some (.rt q.1 q.2)
  | .ite c a b, s, h => bnd (evb T call c s h) fun p => (match p.1 with | true => exs a s p.2 | false => exs b s p.2)
  | .whl c b, s, h => whlL (fun s h => evb T call c s h) (fun s h => exs b s h) fuelW s h
  | .loop tg it b, s, h => bnd (evi T call it s h) fun p => forL (fun x s h => bnd (setT tg x s) fun s' => exs b s' h) p.1 s p.2
def exs : IB → Sl → Hs → Option Fl
  | .nil, s, h => some (.nx s h)
  | .cons a r, s, h => bnd (ex a s h) fun f => match f with
    | .nx s' h' => exs r s' h'
    | .rt v h' => some (.rt v h')
end
def runB (I : DefI) (vs : List AV) (h : Hs) : Option (D × Hs) := match Nat.beq vs.length I.np with
  | false => none
  | true => bnd (exs T call I.body (vs.map some ++ List.replicate (I.ns - I.np) none) h) fun f => match f with
    | .rt v h' => some (v, h'.take h.length)
    | .nx _ h' => some (.non, h'.take h.length)
end
def callF (T : Prog) : Nat → CallT
  | 0, _, _, _ => none
  | n + 1, d, vs, h => bnd (T.defs[d]?) fun I => runB T (callF T n) I vs h
end K24
/-! K24Prg: the program in the small language; printed by gen.py. -/
set_option linter.all false
set_option maxRecDepth 100000
namespace K24
/-- 0 same_value(a, b): 0 a 1 b -/
def b_same_value : IB := (.cons (.ret (.and (.cmp .eq (.isin (.var 0) true [0]) (.isin (.var 1) true [0])) (.and (.cmp .eq (.isin (.var 0) true [1]) (.isin (.var 1) true [1])) (.cmp .eq (.var 0) (.var 1))))) .nil)
/-- 1 compare(sign, a, b): 0 sign 1 a 2 b -/
def b_compare : IB := (.cons (.ite (.cmp .eq (.var 0) (.lit (.str [61]))) (.cons (.ret (.cmp .eq (.var 1) (.var 2))) .nil) .nil) (.cons (.ite (.cmp .eq (.var 0) (.lit (.str [33, 61]))) (.cons (.ret (.cmp .ne (.var 1) (.var 2))) .nil) .nil) (.cons (.ite (.cmp .eq (.var 0) (.lit (.str [60]))) (.cons (.ret (.cmp .lt (.var 1) (.var 2))) .nil) .nil) (.cons (.ite (.cmp .eq (.var 0) (.lit (.str [60, 61]))) (.cons (.ret (.cmp .le (.var 1) (.var 2))) .nil) .nil) (.cons (.ite (.cmp .eq (.var 0) (.lit (.str [62]))) (.cons (.ret (.cmp .lt (.var 2) (.var 1))) .nil) .nil) (.cons (.ret (.cmp .le (.var 2) (.var 1))) .nil))))))
/-- 2 root(number): 0 number 1 low 2 high 3 middle -/
def b_root : IB := (.cons (.set 1 (.lit (.int 0))) (.cons (.set 2 (.lit (.int 1))) (.cons (.whl (.cmp .le (.bin .mul (.var 2) (.var 2)) (.var 0)) (.cons (.set 2 (.bin .mul (.var 2) (.lit (.int 2)))) .nil)) (.cons (.whl (.cmp .gt (.bin .sub (.var 2) (.var 1)) (.lit (.int 1))) (.cons (.set 3 (.bin .fdiv (.bin .add (.var 1) (.var 2)) (.lit (.int 2)))) (.cons (.ite (.cmp .le (.bin .mul (.var 3) (.var 3)) (.var 0)) (.cons (.set 1 (.var 3)) .nil) (.cons (.set 2 (.var 3)) .nil)) .nil))) (.cons (.ret (.var 1)) .nil)))))
/-- 3 inner(a, b): 0 a 1 b 2 total 3 x 4 y -/
def b_inner : IB := (.cons (.set 2 (.lit (.int 0))) (.cons (.loop (.many [3, 4]) (.zip2 (.var 0) (.var 1)) (.cons (.set 2 (.bin .add (.var 2) (.bin .mul (.var 3) (.var 4)))) .nil)) (.cons (.ret (.var 2)) .nil)))
/-- 4 distance(a, b): 0 a 1 b 2 total 3 x 4 y -/
def b_distance : IB := (.cons (.set 2 (.lit (.int 0))) (.cons (.loop (.many [3, 4]) (.zip2 (.var 0) (.var 1)) (.cons (.set 2 (.bin .add (.var 2) (.bin .mul (.bin .sub (.var 3) (.var 4)) (.bin .sub (.var 3) (.var 4))))) .nil)) (.cons (.ret (.var 2)) .nil)))
/-- 5 differing(a, b): 0 a 1 b 2 total 3 x 4 y -/
def b_differing : IB := (.cons (.set 2 (.lit (.int 0))) (.cons (.loop (.many [3, 4]) (.zip2 (.var 0) (.var 1)) (.cons (.ite (.cmp .ne (.var 3) (.var 4)) (.cons (.set 2 (.bin .add (.var 2) (.lit (.int 1)))) .nil) .nil) .nil)) (.cons (.ret (.var 2)) .nil)))
/-- 6 norm(a): 0 a -/
def b_norm : IB := (.cons (.ret (.call 3 (.cons (.var 0) (.cons (.var 0) .nil)))) .nil)
/-- 7 gap(far, near): 0 far 1 near -/
def b_gap : IB := (.cons (.ite (.cmp .ge (.var 1) (.var 0)) (.cons (.ret (.lit (.int 0))) .nil) .nil) (.cons (.ret (.bin .sub (.bin .add (.var 0) (.var 1)) (.call 2 (.cons (.bin .mul (.bin .mul (.lit (.int 4)) (.var 0)) (.var 1)) .nil)))) .nil))
/-- 8 split(d, e, f): 0 d 1 e 2 f -/
def b_split : IB := (.cons (.ite (.or (.cmp .ge (.var 1) (.var 0)) (.cmp .eq (.var 2) (.lit (.int 0)))) (.cons (.ret (.lit (.int 0))) .nil) .nil) (.cons (.ret (.neg (.bin .fdiv (.neg (.bin .mul (.bin .sub (.var 0) (.var 1)) (.bin .sub (.var 0) (.var 1)))) (.bin .mul (.lit (.int 4)) (.var 2))))) .nil))
/-- 9 is_letter(sign): 0 sign -/
def b_is_letter : IB := (.cons (.ret (.or (.chain .le .le (.lit (.str [97])) (.var 0) (.lit (.str [122]))) (.or (.chain .le .le (.lit (.str [65])) (.var 0) (.lit (.str [90]))) (.cmp .eq (.var 0) (.lit (.str [95])))))) .nil)
/-- 10 is_digit(sign): 0 sign -/
def b_is_digit : IB := (.cons (.ret (.chain .le .le (.lit (.str [48])) (.var 0) (.lit (.str [57])))) .nil)
/-- 11 is_field_name(name): 0 name 1 sign -/
def b_is_field_name : IB := (.cons (.ite (.or (.cmp .eq (.var 0) (.lit (.str []))) (.or (.not (.call 9 (.cons (.idx (.var 0) (.lit (.int 0))) .nil))) (.cmp .isin (.var 0) (.glob 2)))) (.cons (.ret (.lit (.bl false))) .nil) .nil) (.cons (.loop (.one 1) (.val (.var 0)) (.cons (.ite (.and (.not (.call 9 (.cons (.var 1) .nil))) (.not (.call 10 (.cons (.var 1) .nil)))) (.cons (.ret (.lit (.bl false))) .nil) .nil) .nil)) (.cons (.ret (.lit (.bl true))) .nil)))
/-- 12 kind_of_value(worth): 0 worth -/
def b_kind_of_value : IB := (.cons (.ite (.isin (.var 0) true [0]) (.cons (.ret (.lit (.str [102, 108, 97, 103]))) .nil) .nil) (.cons (.ite (.isin (.var 0) true [1]) (.cons (.ret (.lit (.str [116, 101, 120, 116]))) .nil) .nil) (.cons (.ret (.lit (.str [105, 110, 116, 101, 103, 101, 114]))) .nil)))
/-- 13 end_of_word(text, start): 0 text 1 start 2 end -/
def b_end_of_word : IB := (.cons (.set 2 (.var 1)) (.cons (.whl (.and (.cmp .lt (.var 2) (.blt .len (.cons (.var 0) .nil))) (.or (.call 9 (.cons (.idx (.var 0) (.var 2)) .nil)) (.call 10 (.cons (.idx (.var 0) (.var 2)) .nil)))) (.cons (.set 2 (.bin .add (.var 2) (.lit (.int 1)))) .nil)) (.cons (.ret (.var 2)) .nil)))
/-- 14 end_of_digits(text, start): 0 text 1 start 2 end -/
def b_end_of_digits : IB := (.cons (.set 2 (.var 1)) (.cons (.whl (.and (.cmp .lt (.var 2) (.blt .len (.cons (.var 0) .nil))) (.call 10 (.cons (.idx (.var 0) (.var 2)) .nil))) (.cons (.set 2 (.bin .add (.var 2) (.lit (.int 1)))) .nil)) (.cons (.ret (.var 2)) .nil)))
/-- 15 read_integer(text, start): 0 text 1 start 2 first 3 end -/
def b_read_integer : IB := (.cons (.set 2 (.ite (.cmp .eq (.idx (.var 0) (.var 1)) (.lit (.str [45]))) (.bin .add (.var 1) (.lit (.int 1))) (.var 1))) (.cons (.set 3 (.call 14 (.cons (.var 0) (.cons (.var 2) .nil)))) (.cons (.ite (.cmp .eq (.var 3) (.var 2)) (.cons .never .nil) .nil) (.cons (.ite (.and (.cmp .eq (.idx (.var 0) (.var 2)) (.lit (.str [48]))) (.or (.cmp .gt (.var 3) (.bin .add (.var 2) (.lit (.int 1)))) (.cmp .gt (.var 2) (.var 1)))) (.cons .never .nil) .nil) (.cons (.ret (.tup (.cons (.make 9 (.cons (.lit (.str [105, 110, 116, 101, 103, 101, 114])) (.cons (.blt .int (.cons (.sl (.var 0) (.yes (.var 1)) (.yes (.var 3))) .nil)) (.cons (.var 1) .nil)))) (.cons (.var 3) .nil)))) .nil)))))
/-- 16 read_quoted(text, start): 0 text 1 start 2 value 3 at -/
def b_read_quoted : IB := (.cons (.set 2 (.lit (.str []))) (.cons (.set 3 (.bin .add (.var 1) (.lit (.int 1)))) (.cons (.whl (.and (.cmp .lt (.var 3) (.blt .len (.cons (.var 0) .nil))) (.cmp .ne (.idx (.var 0) (.var 3)) (.lit (.str [34])))) (.cons (.ite (.cmp .eq (.idx (.var 0) (.var 3)) (.lit (.str [92]))) (.cons (.set 3 (.bin .add (.var 3) (.lit (.int 1)))) (.cons (.ite (.or (.cmp .eq (.var 3) (.blt .len (.cons (.var 0) .nil))) (.cmp .nin (.idx (.var 0) (.var 3)) (.lit (.str [34, 92])))) (.cons .never .nil) .nil) .nil)) .nil) (.cons (.set 2 (.bin .add (.var 2) (.idx (.var 0) (.var 3)))) (.cons (.set 3 (.bin .add (.var 3) (.lit (.int 1)))) .nil)))) (.cons (.ite (.cmp .eq (.var 3) (.blt .len (.cons (.var 0) .nil))) (.cons .never .nil) .nil) (.cons (.ret (.tup (.cons (.make 9 (.cons (.lit (.str [116, 101, 120, 116])) (.cons (.var 2) (.cons (.var 1) .nil)))) (.cons (.bin .add (.var 3) (.lit (.int 1))) .nil)))) .nil)))))
/-- 17 read_sign(text, start): 0 text 1 start 2 sign -/
def b_read_sign : IB := (.cons (.loop (.one 2) (.val (.glob 3)) (.cons (.ite (.sw (.var 0) (.var 2) (.var 1)) (.cons (.ret (.tup (.cons (.make 9 (.cons (.lit (.str [115, 105, 103, 110])) (.cons (.var 2) (.cons (.var 1) .nil)))) (.cons (.bin .add (.var 1) (.blt .len (.cons (.var 2) .nil))) .nil)))) .nil) .nil) .nil)) (.cons .never .nil))
/-- 18 read_token(text, start): 0 text 1 start 2 end -/
def b_read_token : IB := (.cons (.ite (.call 9 (.cons (.idx (.var 0) (.var 1)) .nil)) (.cons (.set 2 (.call 13 (.cons (.var 0) (.cons (.var 1) .nil)))) (.cons (.ret (.tup (.cons (.make 9 (.cons (.lit (.str [119, 111, 114, 100])) (.cons (.sl (.var 0) (.yes (.var 1)) (.yes (.var 2))) (.cons (.var 1) .nil)))) (.cons (.var 2) .nil)))) .nil)) .nil) (.cons (.ite (.or (.call 10 (.cons (.idx (.var 0) (.var 1)) .nil)) (.cmp .eq (.idx (.var 0) (.var 1)) (.lit (.str [45])))) (.cons (.ret (.call 15 (.cons (.var 0) (.cons (.var 1) .nil)))) .nil) .nil) (.cons (.ite (.cmp .eq (.idx (.var 0) (.var 1)) (.lit (.str [34]))) (.cons (.ret (.call 16 (.cons (.var 0) (.cons (.var 1) .nil)))) .nil) .nil) (.cons (.ret (.call 17 (.cons (.var 0) (.cons (.var 1) .nil)))) .nil))))
/-- 19 read_tokens(text): 0 text 1 tokens 2 at 3 token -/
def b_read_tokens : IB := (.cons (.newl 1 .nil) (.cons (.set 2 (.lit (.int 0))) (.cons (.whl (.cmp .lt (.var 2) (.blt .len (.cons (.var 0) .nil))) (.cons (.ite (.cmp .eq (.idx (.var 0) (.var 2)) (.lit (.str [32]))) (.cons (.set 2 (.bin .add (.var 2) (.lit (.int 1)))) .nil) (.cons (.sett [3, 2] (.call 18 (.cons (.var 0) (.cons (.var 2) .nil)))) (.cons (.app 1 (.var 3)) .nil))) .nil)) (.cons (.ret (.var 1)) .nil))))
/-- 20 read_filter(schema, text): 0 schema 1 text 2 reader 3 condition -/
def b_read_filter : IB := (.cons (.newo 2 10 (.cons (.var 0) (.cons (.var 1) .nil))) (.cons (.set 3 (.meth (.var 2) 48 .nil)) (.cons (.ite (.cmp .lt (.attr (.var 2) 18) (.blt .len (.cons (.attr (.var 2) 17) .nil))) (.cons .never .nil) .nil) (.cons (.ret (.var 3)) .nil))))
/-- 21 check_query(schema, query): 0 schema 1 query 2 words 3 word 4 weight -/
def b_check_query : IB := (.cons (.ite (.or (.not (.meth (.var 0) 42 (.cons (.attr (.var 1) 1) .nil))) (.or (.cmp .lt (.attr (.var 1) 24) (.lit (.int 0))) (.cmp .lt (.attr (.var 1) 26) (.lit (.int 1))))) (.cons .never .nil) .nil) (.cons (.newl 2 .nil) (.cons (.loop (.many [3, 4]) (.val (.attr (.var 1) 3)) (.cons (.ite (.or (.cmp .lt (.var 4) (.lit (.int 0))) (.cmp .isin (.var 3) (.var 2))) (.cons .never .nil) .nil) (.cons (.app 2 (.var 3)) .nil))) .nil)))
/-- 22 outcomes_of(condition, facts): 0 condition 1 facts 2 passing 3 failing 4 fact 5 told -/
def b_outcomes_of : IB := (.cons (.set 2 (.lit (.bl true))) (.cons (.set 3 (.lit (.bl true))) (.cons (.loop (.one 4) (.val (.var 1)) (.cons (.set 5 (.meth (.var 4) 61 (.cons (.var 0) .nil))) (.cons (.ite (.notN (.var 5)) (.cons (.set 2 (.and (.var 2) (.idx (.var 5) (.lit (.int 0))))) (.cons (.set 3 (.and (.var 3) (.idx (.var 5) (.lit (.int 1))))) .nil)) .nil) .nil))) (.cons (.ret (.tup (.cons (.var 2) (.cons (.var 3) .nil)))) .nil))))
/-- 23 can_pass(condition, facts): 0 condition 1 facts 2 passing 3 failing 4 first 5 second -/
def b_can_pass : IB := (.cons (.ite (.isin (.var 0) true [4]) (.cons (.ret (.tup (.cons (.lit (.bl true)) (.cons (.lit (.bl false)) .nil)))) .nil) .nil) (.cons (.ite (.isin (.var 0) true [10]) (.cons (.sett [2, 3] (.call 23 (.cons (.attr (.var 0) 8) (.cons (.var 1) .nil)))) (.cons (.ret (.tup (.cons (.var 3) (.cons (.var 2) .nil)))) .nil)) .nil) (.cons (.ite (.isin (.var 0) true [8]) (.cons (.set 4 (.call 23 (.cons (.attr (.var 0) 8) (.cons (.var 1) .nil)))) (.cons (.set 5 (.call 23 (.cons (.attr (.var 0) 9) (.cons (.var 1) .nil)))) (.cons (.ret (.tup (.cons (.and (.idx (.var 4) (.lit (.int 0))) (.idx (.var 5) (.lit (.int 0)))) (.cons (.or (.idx (.var 4) (.lit (.int 1))) (.idx (.var 5) (.lit (.int 1)))) .nil)))) .nil))) .nil) (.cons (.ite (.isin (.var 0) true [9]) (.cons (.set 4 (.call 23 (.cons (.attr (.var 0) 8) (.cons (.var 1) .nil)))) (.cons (.set 5 (.call 23 (.cons (.attr (.var 0) 9) (.cons (.var 1) .nil)))) (.cons (.ret (.tup (.cons (.or (.idx (.var 4) (.lit (.int 0))) (.idx (.var 5) (.lit (.int 0)))) (.cons (.and (.idx (.var 4) (.lit (.int 1))) (.idx (.var 5) (.lit (.int 1)))) .nil)))) .nil))) .nil) (.cons (.ret (.call 22 (.cons (.var 0) (.cons (.var 1) .nil)))) .nil)))))
/-- 24 least_far(question, facts): 0 question 1 facts 2 q 3 products 4 told 5 fact 6 product -/
def b_least_far : IB := (.cons (.set 2 (.attr (.attr (.var 0) 20) 1)) (.cons (.ite (.cmp .eq (.attr (.attr (.var 0) 15) 12) (.lit (.str [100, 111, 116]))) (.cons (.set 3 (.comp (.meth (.var 5) 58 (.cons (.var 2) .nil)) (.one 5) (.val (.var 1)) .no)) (.cons (.set 4 (.comp (.var 6) (.one 6) (.val (.var 3)) (.yes (.notN (.var 6))))) (.cons (.ret (.ite (.cmp .gt (.blt .len (.cons (.var 4) .nil)) (.lit (.int 0))) (.neg (.blt .minl (.cons (.var 4) .nil))) (.lit .non))) .nil))) .nil) (.cons (.ite (.cmp .eq (.attr (.attr (.var 0) 15) 12) (.lit (.str [98, 105, 116, 115]))) (.cons (.ret (.blt .maxl (.cons (.bin .add (.lst (.cons (.lit (.int 0)) .nil)) (.comp (.meth (.var 5) 57 (.cons (.var 2) .nil)) (.one 5) (.val (.var 1)) .no)) .nil))) .nil) .nil) (.cons (.ret (.blt .maxl (.cons (.bin .add (.lst (.cons (.lit (.int 0)) .nil)) (.comp (.meth (.var 5) 56 (.cons (.var 2) .nil)) (.one 5) (.val (.var 1)) .no)) .nil))) .nil))))
/-- 25 most_count(word, facts): 0 word 1 facts 2 most 3 fact 4 told -/
def b_most_count : IB := (.cons (.set 2 (.glob 6)) (.cons (.loop (.one 3) (.val (.var 1)) (.cons (.set 4 (.meth (.var 3) 59 (.cons (.var 0) .nil))) (.cons (.ite (.notN (.var 4)) (.cons (.set 2 (.blt .min2 (.cons (.var 2) (.cons (.var 4) .nil)))) .nil) .nil) .nil))) (.cons (.ret (.var 2)) .nil)))
/-- 26 least_cost(question, facts): 0 question 1 facts 2 total 3 far 4 word 5 weight -/
def b_least_cost : IB := (.cons (.set 2 (.lit (.int 0))) (.cons (.ite (.cmp .ne (.attr (.attr (.var 0) 20) 24) (.lit (.int 0))) (.cons (.set 3 (.call 24 (.cons (.var 0) (.cons (.var 1) .nil)))) (.cons (.ite (.isN (.var 3)) (.cons (.ret (.lit .non)) .nil) .nil) (.cons (.set 2 (.bin .mul (.attr (.attr (.var 0) 20) 24) (.var 3))) .nil))) .nil) (.cons (.loop (.many [4, 5]) (.val (.attr (.attr (.var 0) 20) 3)) (.cons (.set 2 (.bin .sub (.var 2) (.bin .mul (.var 5) (.call 25 (.cons (.var 4) (.cons (.var 1) .nil)))))) .nil)) (.cons (.ret (.var 2)) .nil))))
/-- 27 least_name(facts): 0 facts 1 least 2 fact 3 told -/
def b_least_name : IB := (.cons (.set 1 (.lit (.str []))) (.cons (.loop (.one 2) (.val (.var 0)) (.cons (.set 3 (.meth (.var 2) 60 .nil)) (.cons (.ite (.and (.notN (.var 3)) (.cmp .gt (.var 3) (.var 1))) (.cons (.set 1 (.var 3)) .nil) .nil) .nil))) (.cons (.ret (.var 1)) .nil)))
/-- 28 bound_of(question, facts): 0 question 1 facts -/
def b_bound_of : IB := (.cons (.ret (.make 12 (.cons (.call 26 (.cons (.var 0) (.cons (.var 1) .nil))) (.cons (.call 27 (.cons (.var 1) .nil)) (.cons (.idx (.call 23 (.cons (.attr (.var 0) 21) (.cons (.var 1) .nil))) (.lit (.int 0))) .nil))))) .nil)
/-- 29 satisfies(condition, worth): 0 condition 1 worth -/
def b_satisfies : IB := (.cons (.ite (.isin (.var 0) true [7]) (.cons (.ret (.call 31 (.cons (.var 1) (.cons (.attr (.var 0) 7) .nil)))) .nil) .nil) (.cons (.ite (.not (.call 30 (.cons (.var 1) (.cons (.attr (.var 0) 6) .nil)))) (.cons (.ret (.cmp .eq (.attr (.var 0) 5) (.lit (.str [33, 61])))) .nil) .nil) (.cons (.ret (.call 1 (.cons (.attr (.var 0) 5) (.cons (.var 1) (.cons (.attr (.var 0) 6) .nil))))) .nil)))
/-- 30 same_kind(a, b): 0 a 1 b -/
def b_same_kind : IB := (.cons (.ret (.and (.cmp .eq (.isin (.var 0) true [0]) (.isin (.var 1) true [0])) (.cmp .eq (.isin (.var 0) true [1]) (.isin (.var 1) true [1])))) .nil)
/-- 31 is_one_of(worth, choices): 0 worth 1 choices 2 choice -/
def b_is_one_of : IB := (.cons (.loop (.one 2) (.val (.var 1)) (.cons (.ite (.call 0 (.cons (.var 0) (.cons (.var 2) .nil))) (.cons (.ret (.lit (.bl true))) .nil) .nil) .nil)) (.cons (.ret (.lit (.bl false))) .nil))
/-- 32 is_integer(worth): 0 worth -/
def b_is_integer : IB := (.cons (.ret (.and (.isin (.var 0) true [2]) (.not (.isin (.var 0) true [0])))) .nil)
/-- 33 range_passes(sign, low, high, worth): 0 sign 1 low 2 high 3 worth -/
def b_range_passes : IB := (.cons (.ite (.cmp .eq (.var 0) (.lit (.str [61]))) (.cons (.ret (.chain .le .le (.var 1) (.var 3) (.var 2))) .nil) .nil) (.cons (.ite (.cmp .eq (.var 0) (.lit (.str [33, 61]))) (.cons (.ret (.not (.and (.cmp .eq (.var 1) (.var 3)) (.cmp .eq (.var 3) (.var 2))))) .nil) .nil) (.cons (.ite (.cmp .eq (.var 0) (.lit (.str [60]))) (.cons (.ret (.cmp .lt (.var 1) (.var 3))) .nil) .nil) (.cons (.ite (.cmp .eq (.var 0) (.lit (.str [60, 61]))) (.cons (.ret (.cmp .le (.var 1) (.var 3))) .nil) .nil) (.cons (.ite (.cmp .eq (.var 0) (.lit (.str [62]))) (.cons (.ret (.cmp .lt (.var 3) (.var 2))) .nil) .nil) (.cons (.ret (.cmp .le (.var 3) (.var 2))) .nil))))))
/-- 34 is_about(condition, field): 0 condition 1 field -/
def b_is_about : IB := (.cons (.ret (.and (.isin (.var 0) false [5, 6, 7]) (.cmp .eq (.attr (.var 0) 4) (.var 1)))) .nil)
/-- 35 _law_row(_law_script, _law_k): 0 _law_script 1 _law_k 2 _law_cell 3 _law_a 4 _law_b 5 _law_c -/
def b_law_row : IB := (.cons (.set 2 (.lit (.int 0))) (.cons (.ite (.cmp .lt (.var 1) (.blt .len (.cons (.var 0) .nil))) (.cons (.set 2 (.idx (.var 0) (.var 1))) .nil) .nil) (.cons (.ite (.cmp .lt (.var 2) (.lit (.int 0))) (.cons (.set 2 (.bin .sub (.bin .mul (.neg (.lit (.int 2))) (.var 2)) (.lit (.int 1)))) .nil) .nil) (.cons (.ite (.cmp .lt (.var 2) (.bin .pow (.lit (.int 10)) (.lit (.int 9)))) (.cons (.set 3 (.bin .mod (.blt .int (.cons (.bin .add (.bin .add (.bin .mul (.var 2) (.lit (.int 48271))) (.bin .mul (.var 1) (.lit (.int 69621)))) (.lit (.int 11))) .nil)) (.lit (.int 2147483647)))) (.cons (.set 4 (.bin .mod (.blt .int (.cons (.bin .add (.bin .add (.bin .add (.bin .mul (.var 3) (.lit (.int 16807))) (.bin .mul (.var 2) (.lit (.int 7)))) (.var 1)) (.lit (.int 5))) .nil)) (.lit (.int 2147483629)))) (.cons (.set 5 (.bin .mod (.blt .int (.cons (.bin .add (.bin .add (.bin .mul (.var 4) (.lit (.int 39373))) (.bin .mul (.var 3) (.var 4))) (.lit (.int 3))) .nil)) (.lit (.int 2147483587)))) (.cons (.set 2 (.bin .add (.bin .add (.var 3) (.bin .mul (.var 4) (.lit (.int 2147483647)))) (.bin .mul (.var 5) (.bin .pow (.lit (.int 2147483647)) (.lit (.int 2)))))) .nil)))) .nil) (.cons (.ret (.var 2)) .nil)))))
/-- 36 _law_next(_law_state, _law_many): 0 _law_state 1 _law_many 2 _law_drawn -/
def b_law_next : IB := (.cons (.ite (.cmp .lt (.idx (.var 0) (.lit (.int 2))) (.var 1)) (.cons (.seti 0 (.lit (.int 2)) (.call 35 (.cons (.idx (.var 0) (.lit (.int 0))) (.cons (.idx (.var 0) (.lit (.int 1))) .nil)))) (.cons (.seti 0 (.lit (.int 1)) (.bin .add (.idx (.var 0) (.lit (.int 1))) (.lit (.int 1)))) .nil)) .nil) (.cons (.set 2 (.bin .mod (.blt .int (.cons (.idx (.var 0) (.lit (.int 2))) .nil)) (.var 1))) (.cons (.seti 0 (.lit (.int 2)) (.bin .fdiv (.idx (.var 0) (.lit (.int 2))) (.var 1))) (.cons (.ret (.var 2)) .nil))))
/-- 37 _law_vector(_law_state, _law_size): 0 _law_state 1 _law_size 2 _law_spread 3 _law_k -/
def b_law_vector : IB := (.cons (.set 2 (.idx (.lst (.cons (.lit (.int 2)) (.cons (.lit (.int 6)) (.cons (.lit (.int 300)) .nil)))) (.call 36 (.cons (.var 0) (.cons (.lit (.int 3)) .nil))))) (.cons (.ret (.comp (.bin .sub (.call 36 (.cons (.var 0) (.cons (.bin .add (.bin .mul (.lit (.int 2)) (.var 2)) (.lit (.int 1))) .nil))) (.var 2)) (.one 3) (.rng (.var 1)) .no)) .nil))
/-- 38 _law_distance(_law_a, _law_b): 0 _law_a 1 _law_b 2 _law_total 3 _law_k -/
def b_law_distance : IB := (.cons (.set 2 (.lit (.int 0))) (.cons (.loop (.one 3) (.rng (.blt .len (.cons (.var 0) .nil))) (.cons (.set 2 (.bin .add (.var 2) (.bin .mul (.bin .sub (.idx (.var 0) (.var 3)) (.idx (.var 1) (.var 3))) (.bin .sub (.idx (.var 0) (.var 3)) (.idx (.var 1) (.var 3)))))) .nil)) (.cons (.ret (.var 2)) .nil)))
/-- 39 _law_inner(_law_a, _law_b): 0 _law_a 1 _law_b 2 _law_total 3 _law_k -/
def b_law_inner : IB := (.cons (.set 2 (.lit (.int 0))) (.cons (.loop (.one 3) (.rng (.blt .len (.cons (.var 0) .nil))) (.cons (.set 2 (.bin .add (.var 2) (.bin .mul (.idx (.var 0) (.var 3)) (.idx (.var 1) (.var 3))))) .nil)) (.cons (.ret (.var 2)) .nil)))
/-- 40 _law_differing(_law_a, _law_b): 0 _law_a 1 _law_b 2 _law_k -/
def b_law_differing : IB := (.cons (.ret (.blt .len (.cons (.comp (.var 2) (.one 2) (.rng (.blt .len (.cons (.var 0) .nil))) (.yes (.cmp .ne (.idx (.var 0) (.var 2)) (.idx (.var 1) (.var 2))))) .nil))) .nil)
/-- 41 _law_made(_law_fact): 0 _law_fact 1 _law_start 2 _law_centre 3 _law_radius -/
def b_law_made : IB := (.cons (.ite (.cmp .eq (.idx (.var 0) (.lit (.int 0))) (.lit (.str [112, 97, 114, 116, 115]))) (.cons (.ret (.make 19 (.cons (.comp (.make 18 (.cons (.var 1) (.cons (.blt .list (.cons (.var 2) .nil)) (.cons (.var 3) .nil)))) (.many [1, 2, 3]) (.val (.idx (.var 0) (.lit (.int 1)))) .no) .nil))) .nil) .nil) (.cons (.ite (.cmp .eq (.idx (.var 0) (.lit (.int 0))) (.lit (.str [99, 101, 108, 108]))) (.cons (.ret (.make 20 (.cons (.blt .list (.cons (.idx (.var 0) (.lit (.int 1))) .nil)) (.cons (.blt .list (.cons (.idx (.var 0) (.lit (.int 2))) .nil)) .nil)))) .nil) .nil) (.cons (.ite (.cmp .eq (.idx (.var 0) (.lit (.int 0))) (.lit (.str [98, 111, 120]))) (.cons (.ret (.make 21 (.cons (.blt .list (.cons (.idx (.var 0) (.lit (.int 1))) .nil)) (.cons (.blt .list (.cons (.idx (.var 0) (.lit (.int 2))) .nil)) .nil)))) .nil) .nil) (.cons (.ite (.cmp .eq (.idx (.var 0) (.lit (.int 0))) (.lit (.str [110, 111, 114, 109, 115]))) (.cons (.ret (.make 22 (.cons (.idx (.var 0) (.lit (.int 1))) (.cons (.idx (.var 0) (.lit (.int 2))) .nil)))) .nil) .nil) (.cons (.ite (.cmp .eq (.idx (.var 0) (.lit (.int 0))) (.lit (.str [100, 105, 102, 102, 101, 114]))) (.cons (.ret (.make 23 (.cons (.blt .list (.cons (.idx (.var 0) (.lit (.int 1))) .nil)) (.cons (.idx (.var 0) (.lit (.int 2))) .nil)))) .nil) .nil) (.cons (.ite (.cmp .eq (.idx (.var 0) (.lit (.int 0))) (.lit (.str [114, 97, 110, 103, 101]))) (.cons (.ret (.make 14 (.cons (.idx (.var 0) (.lit (.int 1))) (.cons (.idx (.var 0) (.lit (.int 2))) (.cons (.idx (.var 0) (.lit (.int 3))) (.cons (.idx (.var 0) (.lit (.int 4))) .nil)))))) .nil) .nil) (.cons (.ite (.cmp .eq (.idx (.var 0) (.lit (.int 0))) (.lit (.str [118, 97, 108, 117, 101, 115]))) (.cons (.ret (.make 15 (.cons (.idx (.var 0) (.lit (.int 1))) (.cons (.blt .list (.cons (.idx (.var 0) (.lit (.int 2))) .nil)) (.cons (.idx (.var 0) (.lit (.int 3))) .nil))))) .nil) .nil) (.cons (.ite (.cmp .eq (.idx (.var 0) (.lit (.int 0))) (.lit (.str [99, 111, 117, 110, 116, 115]))) (.cons (.ret (.make 16 (.cons (.blt .list (.cons (.idx (.var 0) (.lit (.int 1))) .nil)) .nil))) .nil) .nil) (.cons (.ret (.make 17 (.cons (.idx (.var 0) (.lit (.int 1))) (.cons (.idx (.var 0) (.lit (.int 2))) .nil)))) .nil)))))))))
/-- 42 _law_true_parts(_law_state, _law_vector_here, _law_others): 0 _law_state 1 _law_vector_here 2 _law_others 3 _law_parts 4 _law_place 5 _law_k 6 _law_long 7 _law_centre 8 _law_radius 9 _law_other 10 _law_number -/
def b_law_true_parts : IB := (.cons (.newl 3 .nil) (.cons (.set 4 (.lit (.int 0))) (.cons (.loop (.one 5) (.rng (.lit (.int 3))) (.cons (.set 6 (.blt .min2 (.cons (.bin .sub (.blt .len (.cons (.var 1) .nil)) (.var 4)) (.cons (.call 36 (.cons (.var 0) (.cons (.lit (.int 3)) .nil))) .nil)))) (.cons (.ite (.cmp .eq (.var 5) (.lit (.int 2))) (.cons (.set 6 (.bin .sub (.blt .len (.cons (.var 1) .nil)) (.var 4))) .nil) .nil) (.cons (.set 7 (.comp (.bin .sub (.bin .add (.var 10) (.call 36 (.cons (.var 0) (.cons (.lit (.int 7)) .nil)))) (.lit (.int 3))) (.one 10) (.val (.sl (.var 1) (.yes (.var 4)) (.yes (.bin .add (.var 4) (.var 6))))) .no)) (.cons (.set 8 (.lit (.int 0))) (.cons (.loop (.one 9) (.val (.bin .add (.lst (.cons (.var 1) .nil)) (.var 2))) (.cons (.set 8 (.blt .max2 (.cons (.var 8) (.cons (.call 38 (.cons (.var 7) (.cons (.sl (.var 9) (.yes (.var 4)) (.yes (.bin .add (.var 4) (.var 6)))) .nil))) .nil)))) .nil)) (.cons (.app 3 (.tup (.cons (.var 4) (.cons (.var 7) (.cons (.bin .add (.var 8) (.call 36 (.cons (.var 0) (.cons (.lit (.int 3)) .nil)))) .nil))))) (.cons (.set 4 (.bin .add (.bin .add (.var 4) (.var 6)) (.idx (.lst (.cons (.lit (.int 0)) (.cons (.lit (.int 0)) (.cons (.lit (.int 0)) (.cons (.lit (.int 1)) .nil))))) (.call 36 (.cons (.var 0) (.cons (.lit (.int 4)) .nil)))))) (.cons (.ite (.cmp .gt (.var 4) (.blt .len (.cons (.var 1) .nil))) (.cons (.set 4 (.blt .len (.cons (.var 1) .nil))) .nil) .nil) .nil))))))))) (.cons (.ret (.tup (.cons (.lit (.str [112, 97, 114, 116, 115])) (.cons (.var 3) .nil)))) .nil))))
/-- 43 _law_true_fact(_law_state, _law_vectors): 0 _law_state 1 _law_vectors 2 _law_kind 3 _law_first 4 _law_near 5 _law_rival 6 _law_vector_here 7 _law_low 8 _law_high 9 _law_squares 10 _law_centre 11 _law_number 12 _law_k -/
def b_law_true_fact : IB := (.cons (.set 2 (.call 36 (.cons (.var 0) (.cons (.lit (.int 5)) .nil)))) (.cons (.set 3 (.idx (.var 1) (.lit (.int 0)))) (.cons (.ite (.cmp .eq (.var 2) (.lit (.int 0))) (.cons (.ret (.call 42 (.cons (.var 0) (.cons (.var 3) (.cons (.sl (.var 1) (.yes (.lit (.int 1))) .no) .nil))))) .nil) .nil) (.cons (.ite (.cmp .eq (.var 2) (.lit (.int 1))) (.cons (.set 4 (.comp (.bin .sub (.bin .add (.var 11) (.call 36 (.cons (.var 0) (.cons (.lit (.int 5)) .nil)))) (.lit (.int 2))) (.one 11) (.val (.var 3)) .no)) (.cons (.set 5 (.call 37 (.cons (.var 0) (.cons (.blt .len (.cons (.var 3) .nil)) .nil)))) (.cons (.loop (.one 6) (.val (.var 1)) (.cons (.ite (.cmp .gt (.call 38 (.cons (.var 6) (.cons (.var 4) .nil))) (.call 38 (.cons (.var 6) (.cons (.var 5) .nil)))) (.cons (.ret (.tup (.cons (.lit (.str [99, 101, 108, 108])) (.cons (.var 4) (.cons (.blt .list (.cons (.var 4) .nil)) .nil))))) .nil) .nil) .nil)) (.cons (.ret (.tup (.cons (.lit (.str [99, 101, 108, 108])) (.cons (.var 4) (.cons (.var 5) .nil))))) .nil)))) .nil) (.cons (.ite (.cmp .eq (.var 2) (.lit (.int 2))) (.cons (.set 7 (.comp (.bin .sub (.blt .minl (.cons (.comp (.idx (.var 6) (.var 12)) (.one 6) (.val (.var 1)) .no) .nil)) (.call 36 (.cons (.var 0) (.cons (.lit (.int 2)) .nil)))) (.one 12) (.rng (.blt .len (.cons (.var 3) .nil))) .no)) (.cons (.set 8 (.comp (.bin .add (.blt .maxl (.cons (.comp (.idx (.var 6) (.var 12)) (.one 6) (.val (.var 1)) .no) .nil)) (.call 36 (.cons (.var 0) (.cons (.lit (.int 2)) .nil)))) (.one 12) (.rng (.blt .len (.cons (.var 3) .nil))) .no)) (.cons (.ret (.tup (.cons (.lit (.str [98, 111, 120])) (.cons (.var 7) (.cons (.var 8) .nil))))) .nil))) .nil) (.cons (.ite (.cmp .eq (.var 2) (.lit (.int 3))) (.cons (.set 9 (.comp (.call 39 (.cons (.var 6) (.cons (.var 6) .nil))) (.one 6) (.val (.var 1)) .no)) (.cons (.ret (.tup (.cons (.lit (.str [110, 111, 114, 109, 115])) (.cons (.blt .max2 (.cons (.lit (.int 0)) (.cons (.bin .sub (.blt .minl (.cons (.var 9) .nil)) (.call 36 (.cons (.var 0) (.cons (.lit (.int 3)) .nil)))) .nil))) (.cons (.bin .add (.blt .maxl (.cons (.var 9) .nil)) (.call 36 (.cons (.var 0) (.cons (.lit (.int 3)) .nil)))) .nil))))) .nil)) .nil) (.cons (.set 10 (.comp (.bin .add (.var 11) (.idx (.lst (.cons (.lit (.int 0)) (.cons (.lit (.int 0)) (.cons (.lit (.int 1)) .nil)))) (.call 36 (.cons (.var 0) (.cons (.lit (.int 3)) .nil))))) (.one 11) (.val (.var 3)) .no)) (.cons (.ret (.tup (.cons (.lit (.str [100, 105, 102, 102, 101, 114])) (.cons (.var 10) (.cons (.bin .add (.blt .maxl (.cons (.comp (.call 40 (.cons (.var 10) (.cons (.var 6) .nil))) (.one 6) (.val (.var 1)) .no) .nil)) (.call 36 (.cons (.var 0) (.cons (.lit (.int 2)) .nil)))) .nil))))) .nil))))))))
/-- 44 _law_true_range(_law_state, _law_pairs): 0 _law_state 1 _law_pairs 2 _law_worths 3 _law_lack 4 _law_worth 5 _law_name -/
def b_law_true_range : IB := (.cons (.set 2 (.comp (.var 4) (.many [5, 4]) (.val (.var 1)) (.yes (.cmp .eq (.var 5) (.lit (.str [110])))))) (.cons (.set 3 (.idx (.lst (.cons (.lit (.str [115, 111, 109, 101])) (.cons (.idx (.lst (.cons (.lit (.str [110, 111, 98, 111, 100, 121])) (.cons (.lit (.str [97, 108, 108])) .nil))) (.blt .int (.cons (.cmp .eq (.blt .len (.cons (.var 2) .nil)) (.lit (.int 0))) .nil))) .nil))) (.call 36 (.cons (.var 0) (.cons (.lit (.int 2)) .nil))))) (.cons (.set 4 (.idx (.bin .add (.var 2) (.lst (.cons (.lit (.int 0)) .nil))) (.lit (.int 0)))) (.cons (.ret (.tup (.cons (.lit (.str [114, 97, 110, 103, 101])) (.cons (.lit (.str [110])) (.cons (.bin .sub (.var 4) (.call 36 (.cons (.var 0) (.cons (.lit (.int 2)) .nil)))) (.cons (.bin .add (.var 4) (.call 36 (.cons (.var 0) (.cons (.lit (.int 3)) .nil)))) (.cons (.var 3) .nil))))))) .nil))))
/-- 45 _law_true_content(_law_state, _law_name, _law_pairs, _law_words): 0 _law_state 1 _law_name 2 _law_pairs 3 _law_words 4 _law_kind 5 _law_worths 6 _law_lack 7 _law_counts 8 _law_field 9 _law_worth 10 _law_word 11 _law_count -/
def b_law_true_content : IB := (.cons (.set 4 (.call 36 (.cons (.var 0) (.cons (.lit (.int 4)) .nil)))) (.cons (.ite (.cmp .eq (.var 4) (.lit (.int 0))) (.cons (.ret (.call 44 (.cons (.var 0) (.cons (.var 2) .nil)))) .nil) .nil) (.cons (.ite (.cmp .eq (.var 4) (.lit (.int 1))) (.cons (.set 5 (.comp (.var 9) (.many [8, 9]) (.val (.var 2)) (.yes (.cmp .eq (.var 8) (.lit (.str [116])))))) (.cons (.set 6 (.idx (.lst (.cons (.lit (.str [115, 111, 109, 101])) (.cons (.idx (.lst (.cons (.lit (.str [110, 111, 98, 111, 100, 121])) (.cons (.lit (.str [97, 108, 108])) .nil))) (.blt .int (.cons (.cmp .eq (.blt .len (.cons (.var 5) .nil)) (.lit (.int 0))) .nil))) .nil))) (.call 36 (.cons (.var 0) (.cons (.lit (.int 2)) .nil))))) (.cons (.ret (.tup (.cons (.lit (.str [118, 97, 108, 117, 101, 115])) (.cons (.lit (.str [116])) (.cons (.bin .add (.var 5) (.sl (.lst (.cons (.lit (.str [97, 115, 104])) .nil)) .no (.yes (.call 36 (.cons (.var 0) (.cons (.lit (.int 2)) .nil)))))) (.cons (.var 6) .nil)))))) .nil))) .nil) (.cons (.ite (.cmp .eq (.var 4) (.lit (.int 2))) (.cons (.set 7 (.comp (.tup (.cons (.var 10) (.cons (.bin .add (.var 11) (.call 36 (.cons (.var 0) (.cons (.lit (.int 2)) .nil)))) .nil))) (.many [10, 11]) (.val (.var 3)) .no)) (.cons (.ret (.tup (.cons (.lit (.str [99, 111, 117, 110, 116, 115])) (.cons (.bin .add (.var 7) (.sl (.lst (.cons (.tup (.cons (.lit (.str [122, 101, 98, 114, 97])) (.cons (.lit (.int 3)) .nil))) .nil)) .no (.yes (.call 36 (.cons (.var 0) (.cons (.lit (.int 2)) .nil)))))) .nil)))) .nil)) .nil) (.cons (.ret (.tup (.cons (.lit (.str [110, 97, 109, 101, 115])) (.cons (.idx (.lst (.cons (.var 1) (.cons (.lit (.str [])) (.cons (.sl (.var 1) .no (.yes (.lit (.int 1)))) .nil)))) (.call 36 (.cons (.var 0) (.cons (.lit (.int 3)) .nil)))) (.cons (.idx (.lst (.cons (.var 1) (.cons (.bin .add (.var 1) (.lit (.str [122]))) (.cons (.lit (.str [122, 122, 122])) .nil)))) (.call 36 (.cons (.var 0) (.cons (.lit (.int 3)) .nil)))) .nil))))) .nil)))))
/-- 46 _law_true_facts(_law_state, _law_thing_here, _law_many): 0 _law_state 1 _law_thing_here 2 _law_many 3 _law_facts 4 _law_k -/
def b_law_true_facts : IB := (.cons (.newl 3 .nil) (.cons (.loop (.one 4) (.rng (.var 2)) (.cons (.ite (.cmp .eq (.call 36 (.cons (.var 0) (.cons (.lit (.int 2)) .nil))) (.lit (.int 0))) (.cons (.app 3 (.call 43 (.cons (.var 0) (.cons (.lst (.cons (.idx (.var 1) (.lit (.int 1))) .nil)) .nil)))) .nil) (.cons (.app 3 (.call 45 (.cons (.var 0) (.cons (.idx (.var 1) (.lit (.int 0))) (.cons (.idx (.var 1) (.lit (.int 2))) (.cons (.idx (.var 1) (.lit (.int 3))) .nil)))))) .nil)) .nil)) (.cons (.ret (.var 3)) .nil)))
/-- 47 _law_schema_of(_law_state): 0 _law_state 1 _law_measure -/
def b_law_schema_of : IB := (.cons (.set 1 (.idx (.lst (.cons (.lit (.str [115, 113, 117, 97, 114, 101])) (.cons (.lit (.str [100, 111, 116])) (.cons (.lit (.str [98, 105, 116, 115])) .nil)))) (.call 36 (.cons (.var 0) (.cons (.lit (.int 3)) .nil))))) (.cons (.ret (.tup (.cons (.bin .add (.lit (.int 1)) (.call 36 (.cons (.var 0) (.cons (.lit (.int 4)) .nil)))) (.cons (.idx (.lst (.cons (.lit (.str [115, 109, 97, 108, 108])) (.cons (.lit (.str [98, 105, 116])) .nil))) (.blt .int (.cons (.cmp .eq (.var 1) (.lit (.str [98, 105, 116, 115]))) .nil))) (.cons (.var 1) (.cons (.lst (.cons (.tup (.cons (.lit (.str [110])) (.cons (.lit (.str [105, 110, 116, 101, 103, 101, 114])) .nil))) (.cons (.tup (.cons (.lit (.str [116])) (.cons (.lit (.str [116, 101, 120, 116])) .nil))) .nil))) .nil)))))) .nil))
/-- 48 _law_thing(_law_state, _law_drawn): 0 _law_state 1 _law_drawn 2 _law_vector_here 3 _law_k 4 _law_pairs 5 _law_words 6 _law_word -/
def b_law_thing : IB := (.cons (.newl 2 .nil) (.cons (.loop (.one 3) (.rng (.idx (.var 1) (.lit (.int 0)))) (.cons (.app 2 (.bin .sub (.call 36 (.cons (.var 0) (.cons (.idx (.lst (.cons (.lit (.int 9)) (.cons (.lit (.int 2)) .nil))) (.blt .int (.cons (.cmp .eq (.idx (.var 1) (.lit (.int 1))) (.lit (.str [98, 105, 116]))) .nil))) .nil))) (.idx (.lst (.cons (.lit (.int 4)) (.cons (.lit (.int 0)) .nil))) (.blt .int (.cons (.cmp .eq (.idx (.var 1) (.lit (.int 1))) (.lit (.str [98, 105, 116]))) .nil))))) .nil)) (.cons (.newl 4 .nil) (.cons (.ite (.cmp .gt (.call 36 (.cons (.var 0) (.cons (.lit (.int 3)) .nil))) (.lit (.int 0))) (.cons (.app 4 (.tup (.cons (.lit (.str [110])) (.cons (.bin .sub (.call 36 (.cons (.var 0) (.cons (.lit (.int 9)) .nil))) (.lit (.int 4))) .nil)))) .nil) .nil) (.cons (.ite (.cmp .gt (.call 36 (.cons (.var 0) (.cons (.lit (.int 3)) .nil))) (.lit (.int 0))) (.cons (.app 4 (.tup (.cons (.lit (.str [116])) (.cons (.idx (.lst (.cons (.lit (.str [114, 101, 100])) (.cons (.lit (.str [97, 115, 104])) (.cons (.lit (.str [])) .nil)))) (.call 36 (.cons (.var 0) (.cons (.lit (.int 3)) .nil)))) .nil)))) .nil) .nil) (.cons (.newl 5 .nil) (.cons (.loop (.one 6) (.val (.lst (.cons (.lit (.str [97, 110, 116])) (.cons (.lit (.str [98, 101, 101])) (.cons (.lit (.str [99, 111, 119])) .nil))))) (.cons (.ite (.cmp .eq (.call 36 (.cons (.var 0) (.cons (.lit (.int 2)) .nil))) (.lit (.int 0))) (.cons (.app 5 (.tup (.cons (.var 6) (.cons (.bin .add (.lit (.int 1)) (.call 36 (.cons (.var 0) (.cons (.lit (.int 20)) .nil)))) .nil)))) .nil) .nil) .nil)) (.cons (.ret (.tup (.cons (.idx (.lst (.cons (.lit (.str [97])) (.cons (.lit (.str [98])) (.cons (.lit (.str [98, 97])) (.cons (.lit (.str [99])) .nil))))) (.call 36 (.cons (.var 0) (.cons (.lit (.int 4)) .nil)))) (.cons (.var 2) (.cons (.var 4) (.cons (.var 5) .nil)))))) .nil))))))))
/-- 49 _law_text_of(_law_state): 0 _law_state 1 _law_parts 2 _law_text -/
def b_law_text_of : IB := (.cons (.newl 1 (.cons (.lit (.str [101, 118, 101, 114, 121])) (.cons (.lit (.str [104, 97, 115, 32, 110])) (.cons (.lit (.str [110, 32, 60, 32, 50])) (.cons (.lit (.str [110, 32, 33, 61, 32, 45, 49])) (.cons (.lit (.str [116, 32, 61, 32, 34, 114, 101, 100, 34])) (.cons (.lit (.str [116, 32, 105, 110, 32, 91, 34, 34, 44, 32, 34, 97, 115, 104, 34, 93])) (.cons (.lit (.str [110, 111, 116, 32, 110, 32, 62, 61, 32, 49])) (.cons (.lit (.str [110, 111, 116, 32, 104, 97, 115, 32, 116])) .nil))))))))) (.cons (.set 2 (.idx (.var 1) (.call 36 (.cons (.var 0) (.cons (.lit (.int 8)) .nil))))) (.cons (.ite (.cmp .eq (.call 36 (.cons (.var 0) (.cons (.lit (.int 2)) .nil))) (.lit (.int 0))) (.cons (.set 2 (.bin .add (.bin .add (.bin .add (.bin .add (.lit (.str [40])) (.var 2)) (.lit (.str [41, 32]))) (.idx (.lst (.cons (.lit (.str [97, 110, 100, 32])) (.cons (.lit (.str [111, 114, 32])) .nil))) (.call 36 (.cons (.var 0) (.cons (.lit (.int 2)) .nil))))) (.idx (.var 1) (.call 36 (.cons (.var 0) (.cons (.lit (.int 8)) .nil)))))) .nil) .nil) (.cons (.ret (.var 2)) .nil))))
/-- 50 _law_question(_law_state, _law_drawn): 0 _law_state 1 _law_drawn 2 _law_thing_here 3 _law_words 4 _law_near 5 _law_schema 6 _law_word 7 _law_count -/
def b_law_question : IB := (.cons (.set 2 (.call 48 (.cons (.var 0) (.cons (.var 1) .nil)))) (.cons (.set 3 (.comp (.tup (.cons (.var 6) (.cons (.bin .mul (.call 36 (.cons (.var 0) (.cons (.lit (.int 3)) .nil))) (.call 36 (.cons (.var 0) (.cons (.lit (.int 50)) .nil)))) .nil))) (.many [6, 7]) (.val (.idx (.var 2) (.lit (.int 3)))) .no)) (.cons (.set 4 (.idx (.lst (.cons (.lit (.int 0)) (.cons (.lit (.int 1)) (.cons (.lit (.int 7)) .nil)))) (.call 36 (.cons (.var 0) (.cons (.lit (.int 3)) .nil))))) (.cons (.set 5 (.make 8 (.cons (.idx (.var 1) (.lit (.int 0))) (.cons (.idx (.var 1) (.lit (.int 1))) (.cons (.idx (.var 1) (.lit (.int 2))) (.cons (.idx (.var 1) (.lit (.int 3))) .nil)))))) (.cons (.ret (.make 11 (.cons (.var 5) (.cons (.make 13 (.cons (.idx (.var 2) (.lit (.int 1))) (.cons (.var 4) (.cons (.var 3) (.cons (.call 49 (.cons (.var 0) .nil)) (.cons (.lit (.int 2)) .nil)))))) .nil)))) .nil)))))
/-- 51 law(_law_script): 0 _law_script 1 _law_state 2 _law_turn 3 _law_drawn 4 _law_question_here 5 _law_thing_here 6 _law_record 7 _law_facts 8 _law_fact 9 _law_bound -/
def b_law : IB := (.cons (.newl 1 (.cons (.blt .list (.cons (.var 0) .nil)) (.cons (.lit (.int 0)) (.cons (.lit (.int 0)) .nil)))) (.cons (.loop (.one 2) (.rng (.lit (.int 4))) (.cons (.set 3 (.call 47 (.cons (.var 1) .nil))) (.cons (.set 4 (.call 50 (.cons (.var 1) (.cons (.var 3) .nil)))) (.cons (.set 5 (.call 48 (.cons (.var 1) (.cons (.var 3) .nil)))) (.cons (.set 6 (.make 0 (.cons (.idx (.var 5) (.lit (.int 0))) (.cons (.idx (.var 5) (.lit (.int 1))) (.cons (.idx (.var 5) (.lit (.int 2))) (.cons (.idx (.var 5) (.lit (.int 3))) .nil)))))) (.cons (.set 7 (.comp (.call 41 (.cons (.var 8) .nil)) (.one 8) (.val (.call 46 (.cons (.var 1) (.cons (.var 5) (.cons (.call 36 (.cons (.var 1) (.cons (.lit (.int 7)) .nil))) .nil))))) .no)) (.cons (.loop (.one 8) (.val (.var 7)) (.cons (.ite (.not (.meth (.var 8) 55 (.cons (.var 6) .nil))) (.cons (.ret (.lit (.bl false))) .nil) .nil) .nil)) (.cons (.set 9 (.call 28 (.cons (.var 4) (.cons (.var 7) .nil)))) (.cons (.ite (.and (.notN (.attr (.var 9) 22)) (.cmp .gt (.attr (.var 9) 22) (.meth (.var 4) 54 (.cons (.var 6) .nil)))) (.cons (.ret (.lit (.bl false))) .nil) .nil) (.cons (.ite (.or (.cmp .gt (.attr (.var 9) 0) (.attr (.var 6) 0)) (.and (.meth (.var 4) 37 (.cons (.var 6) .nil)) (.notT (.attr (.var 9) 23)))) (.cons (.ret (.lit (.bl false))) .nil) .nil) .nil)))))))))) (.cons (.ret (.lit (.bl true))) .nil)))
/-- 52 Record.__init__(self, name, vector, fields, words): 0 self 1 name 2 vector 3 fields 4 words 5 field 6 worth 7 word 8 count -/
def b_Record_init : IB := (.cons (.seta 0 0 (.var 1)) (.cons (.seta 0 1 (.blt .tuple (.cons (.var 2) .nil))) (.cons (.seta 0 2 (.blt .tuple (.cons (.comp (.tup (.cons (.var 5) (.cons (.var 6) .nil))) (.many [5, 6]) (.val (.var 3)) .no) .nil))) (.cons (.seta 0 3 (.blt .tuple (.cons (.comp (.tup (.cons (.var 7) (.cons (.var 8) .nil))) (.many [7, 8]) (.val (.var 4)) .no) .nil))) .nil))))
/-- 53 Record.value(self, name): 0 self 1 name 2 field 3 worth -/
def b_Record_value : IB := (.cons (.loop (.many [2, 3]) (.val (.attr (.var 0) 2)) (.cons (.ite (.cmp .eq (.var 2) (.var 1)) (.cons (.ret (.var 3)) .nil) .nil) .nil)) (.cons (.ret (.lit .non)) .nil))
/-- 54 Record.count_of(self, word): 0 self 1 word 2 other 3 count -/
def b_Record_count_of : IB := (.cons (.loop (.many [2, 3]) (.val (.attr (.var 0) 3)) (.cons (.ite (.cmp .eq (.var 2) (.var 1)) (.cons (.ret (.var 3)) .nil) .nil) .nil)) (.cons (.ret (.lit (.int 0))) .nil))
/-- 55 Every.passes(self, record): 0 self 1 record -/
def b_Every_passes : IB := (.cons (.ret (.lit (.bl true))) .nil)
/-- 56 Has.__init__(self, field): 0 self 1 field -/
def b_Has_init : IB := (.cons (.seta 0 4 (.var 1)) .nil)
/-- 57 Has.passes(self, record): 0 self 1 record -/
def b_Has_passes : IB := (.cons (.ret (.notN (.meth (.var 1) 35 (.cons (.attr (.var 0) 4) .nil)))) .nil)
/-- 58 Compare.__init__(self, field, sign, value): 0 self 1 field 2 sign 3 value -/
def b_Compare_init : IB := (.cons (.seta 0 4 (.var 1)) (.cons (.seta 0 5 (.var 2)) (.cons (.seta 0 6 (.var 3)) .nil)))
/-- 59 Compare.passes(self, record): 0 self 1 record 2 worth -/
def b_Compare_passes : IB := (.cons (.set 2 (.meth (.var 1) 35 (.cons (.attr (.var 0) 4) .nil))) (.cons (.ret (.and (.notN (.var 2)) (.call 1 (.cons (.attr (.var 0) 5) (.cons (.var 2) (.cons (.attr (.var 0) 6) .nil)))))) .nil))
/-- 60 OneOf.__init__(self, field, choices): 0 self 1 field 2 choices -/
def b_OneOf_init : IB := (.cons (.seta 0 4 (.var 1)) (.cons (.seta 0 7 (.blt .tuple (.cons (.var 2) .nil))) .nil))
/-- 61 OneOf.passes(self, record): 0 self 1 record 2 worth 3 choice -/
def b_OneOf_passes : IB := (.cons (.set 2 (.meth (.var 1) 35 (.cons (.attr (.var 0) 4) .nil))) (.cons (.loop (.one 3) (.val (.attr (.var 0) 7)) (.cons (.ite (.and (.notN (.var 2)) (.call 0 (.cons (.var 2) (.cons (.var 3) .nil)))) (.cons (.ret (.lit (.bl true))) .nil) .nil) .nil)) (.cons (.ret (.lit (.bl false))) .nil)))
/-- 62 Both.__init__(self, a, b): 0 self 1 a 2 b -/
def b_Both_init : IB := (.cons (.seta 0 8 (.var 1)) (.cons (.seta 0 9 (.var 2)) .nil))
/-- 63 Both.passes(self, record): 0 self 1 record -/
def b_Both_passes : IB := (.cons (.ret (.and (.meth (.attr (.var 0) 8) 37 (.cons (.var 1) .nil)) (.meth (.attr (.var 0) 9) 37 (.cons (.var 1) .nil)))) .nil)
/-- 64 Either.__init__(self, a, b): 0 self 1 a 2 b -/
def b_Either_init : IB := (.cons (.seta 0 8 (.var 1)) (.cons (.seta 0 9 (.var 2)) .nil))
/-- 65 Either.passes(self, record): 0 self 1 record -/
def b_Either_passes : IB := (.cons (.ret (.or (.meth (.attr (.var 0) 8) 37 (.cons (.var 1) .nil)) (.meth (.attr (.var 0) 9) 37 (.cons (.var 1) .nil)))) .nil)
/-- 66 Negation.__init__(self, a): 0 self 1 a -/
def b_Negation_init : IB := (.cons (.seta 0 8 (.var 1)) .nil)
/-- 67 Negation.passes(self, record): 0 self 1 record -/
def b_Negation_passes : IB := (.cons (.ret (.not (.meth (.attr (.var 0) 8) 37 (.cons (.var 1) .nil)))) .nil)
/-- 68 Schema.__init__(self, size, width, measure, fields): 0 self 1 size 2 width 3 measure 4 fields 5 names 6 name 7 kind -/
def b_Schema_init : IB := (.cons (.ite (.or (.cmp .lt (.var 1) (.lit (.int 1))) (.or (.dnin 0 (.var 2)) (.cmp .nin (.var 3) (.glob 0)))) (.cons .never .nil) .nil) (.cons (.ite (.and (.cmp .eq (.var 3) (.lit (.str [98, 105, 116, 115]))) (.cmp .ne (.var 2) (.lit (.str [98, 105, 116])))) (.cons .never .nil) .nil) (.cons (.newl 5 .nil) (.cons (.loop (.many [6, 7]) (.val (.var 4)) (.cons (.ite (.or (.cmp .nin (.var 7) (.glob 1)) (.or (.not (.call 11 (.cons (.var 6) .nil))) (.cmp .isin (.var 6) (.var 5)))) (.cons .never .nil) .nil) (.cons (.app 5 (.var 6)) .nil))) (.cons (.seta 0 10 (.var 1)) (.cons (.seta 0 11 (.var 2)) (.cons (.seta 0 12 (.var 3)) (.cons (.seta 0 2 (.blt .tuple (.cons (.comp (.tup (.cons (.var 6) (.cons (.var 7) .nil))) (.many [6, 7]) (.val (.var 4)) .no) .nil))) .nil))))))))
/-- 69 Schema.least(self): 0 self -/
def b_Schema_least : IB := (.cons (.ret (.idx (.dget 0 (.attr (.var 0) 11)) (.lit (.int 0)))) .nil)
/-- 70 Schema.greatest(self): 0 self -/
def b_Schema_greatest : IB := (.cons (.ret (.idx (.dget 0 (.attr (.var 0) 11)) (.lit (.int 1)))) .nil)
/-- 71 Schema.kind_of(self, name): 0 self 1 name 2 field 3 kind -/
def b_Schema_kind_of : IB := (.cons (.loop (.many [2, 3]) (.val (.attr (.var 0) 2)) (.cons (.ite (.cmp .eq (.var 2) (.var 1)) (.cons (.ret (.var 3)) .nil) .nil) .nil)) (.cons (.ret (.lit .non)) .nil))
/-- 72 Schema.far(self, a, b): 0 self 1 a 2 b -/
def b_Schema_far : IB := (.cons (.ite (.cmp .eq (.attr (.var 0) 12) (.lit (.str [115, 113, 117, 97, 114, 101]))) (.cons (.ret (.call 4 (.cons (.var 1) (.cons (.var 2) .nil)))) .nil) .nil) (.cons (.ite (.cmp .eq (.attr (.var 0) 12) (.lit (.str [100, 111, 116]))) (.cons (.ret (.neg (.call 3 (.cons (.var 1) (.cons (.var 2) .nil))))) .nil) .nil) (.cons (.ret (.call 5 (.cons (.var 1) (.cons (.var 2) .nil)))) .nil)))
/-- 73 Schema.has_vector(self, vector): 0 self 1 vector 2 number -/
def b_Schema_has_vector : IB := (.cons (.ite (.cmp .ne (.blt .len (.cons (.var 1) .nil)) (.attr (.var 0) 10)) (.cons (.ret (.lit (.bl false))) .nil) .nil) (.cons (.loop (.one 2) (.val (.var 1)) (.cons (.ite (.or (.cmp .lt (.var 2) (.prop (.var 0) 38)) (.cmp .gt (.var 2) (.prop (.var 0) 39))) (.cons (.ret (.lit (.bl false))) .nil) .nil) .nil)) (.cons (.ret (.lit (.bl true))) .nil)))
/-- 74 Token.__init__(self, kind, value, place): 0 self 1 kind 2 value 3 place -/
def b_Token_init : IB := (.cons (.seta 0 13 (.var 1)) (.cons (.seta 0 6 (.var 2)) (.cons (.seta 0 14 (.var 3)) .nil)))
/-- 75 Reader.__init__(self, schema, text): 0 self 1 schema 2 text -/
def b_Reader_init : IB := (.cons (.seta 0 15 (.var 1)) (.cons (.seta 0 16 (.blt .len (.cons (.var 2) .nil))) (.cons (.seta 0 17 (.call 19 (.cons (.var 2) .nil))) (.cons (.seta 0 18 (.lit (.int 0))) (.cons (.seta 0 19 (.lit (.int 0))) .nil)))))
/-- 76 Reader.place(self): 0 self -/
def b_Reader_place : IB := (.cons (.ite (.cmp .lt (.attr (.var 0) 18) (.blt .len (.cons (.attr (.var 0) 17) .nil))) (.cons (.ret (.attr (.idx (.attr (.var 0) 17) (.attr (.var 0) 18)) 14)) .nil) .nil) (.cons (.ret (.attr (.var 0) 16)) .nil))
/-- 77 Reader.sees(self, kind, value): 0 self 1 kind 2 value -/
def b_Reader_sees : IB := (.cons (.ite (.cmp .eq (.attr (.var 0) 18) (.blt .len (.cons (.attr (.var 0) 17) .nil))) (.cons (.ret (.lit (.bl false))) .nil) .nil) (.cons (.ret (.and (.cmp .eq (.attr (.idx (.attr (.var 0) 17) (.attr (.var 0) 18)) 13) (.var 1)) (.cmp .eq (.attr (.idx (.attr (.var 0) 17) (.attr (.var 0) 18)) 6) (.var 2)))) .nil))
/-- 78 Reader.word(self): 0 self -/
def b_Reader_word : IB := (.cons (.ite (.or (.cmp .eq (.attr (.var 0) 18) (.blt .len (.cons (.attr (.var 0) 17) .nil))) (.cmp .ne (.attr (.idx (.attr (.var 0) 17) (.attr (.var 0) 18)) 13) (.lit (.str [119, 111, 114, 100])))) (.cons (.ret (.lit .non)) .nil) .nil) (.cons (.ret (.attr (.idx (.attr (.var 0) 17) (.attr (.var 0) 18)) 6)) .nil))
/-- 79 Reader.skip(self, kind, value): 0 self 1 kind 2 value -/
def b_Reader_skip : IB := (.cons (.ite (.meth (.var 0) 44 (.cons (.var 1) (.cons (.var 2) .nil))) (.cons (.seta 0 18 (.bin .add (.attr (.var 0) 18) (.lit (.int 1)))) (.cons (.ret (.lit (.bl true))) .nil)) .nil) (.cons (.ret (.lit (.bl false))) .nil))
/-- 80 Reader.open_part(self): 0 self -/
def b_Reader_open_part : IB := (.cons (.ite (.cmp .eq (.attr (.var 0) 19) (.glob 5)) (.cons .never .nil) .nil) (.cons (.seta 0 19 (.bin .add (.attr (.var 0) 19) (.lit (.int 1)))) (.cons (.seta 0 18 (.bin .add (.attr (.var 0) 18) (.lit (.int 1)))) .nil)))
/-- 81 Reader.whole(self): 0 self 1 condition -/
def b_Reader_whole : IB := (.cons (.set 1 (.meth (.var 0) 49 .nil)) (.cons (.whl (.meth (.var 0) 46 (.cons (.lit (.str [119, 111, 114, 100])) (.cons (.lit (.str [111, 114])) .nil))) (.cons (.set 1 (.make 6 (.cons (.var 1) (.cons (.meth (.var 0) 49 .nil) .nil)))) .nil)) (.cons (.ret (.var 1)) .nil)))
/-- 82 Reader.conditions(self): 0 self 1 condition -/
def b_Reader_conditions : IB := (.cons (.set 1 (.meth (.var 0) 50 .nil)) (.cons (.whl (.meth (.var 0) 46 (.cons (.lit (.str [119, 111, 114, 100])) (.cons (.lit (.str [97, 110, 100])) .nil))) (.cons (.set 1 (.make 5 (.cons (.var 1) (.cons (.meth (.var 0) 50 .nil) .nil)))) .nil)) (.cons (.ret (.var 1)) .nil)))
/-- 83 Reader.condition(self): 0 self 1 condition -/
def b_Reader_condition : IB := (.cons (.ite (.meth (.var 0) 44 (.cons (.lit (.str [119, 111, 114, 100])) (.cons (.lit (.str [110, 111, 116])) .nil))) (.cons (.expr (.meth (.var 0) 47 .nil)) (.cons (.set 1 (.make 7 (.cons (.meth (.var 0) 50 .nil) .nil))) (.cons (.seta 0 19 (.bin .sub (.attr (.var 0) 19) (.lit (.int 1)))) (.cons (.ret (.var 1)) .nil)))) .nil) (.cons (.ite (.meth (.var 0) 44 (.cons (.lit (.str [115, 105, 103, 110])) (.cons (.lit (.str [40])) .nil))) (.cons (.expr (.meth (.var 0) 47 .nil)) (.cons (.set 1 (.meth (.var 0) 48 .nil)) (.cons (.ite (.not (.meth (.var 0) 46 (.cons (.lit (.str [115, 105, 103, 110])) (.cons (.lit (.str [41])) .nil)))) (.cons .never .nil) .nil) (.cons (.seta 0 19 (.bin .sub (.attr (.var 0) 19) (.lit (.int 1)))) (.cons (.ret (.var 1)) .nil))))) .nil) (.cons (.ite (.isN (.meth (.var 0) 45 .nil)) (.cons .never .nil) .nil) (.cons (.ite (.meth (.var 0) 46 (.cons (.lit (.str [119, 111, 114, 100])) (.cons (.lit (.str [101, 118, 101, 114, 121])) .nil))) (.cons (.ret (.make0 1)) .nil) .nil) (.cons (.ite (.meth (.var 0) 46 (.cons (.lit (.str [119, 111, 114, 100])) (.cons (.lit (.str [104, 97, 115])) .nil))) (.cons (.ite (.isN (.meth (.var 0) 45 .nil)) (.cons .never .nil) .nil) (.cons (.ret (.make 2 (.cons (.meth (.var 0) 51 .nil) .nil))) .nil)) .nil) (.cons (.ret (.meth (.var 0) 52 (.cons (.meth (.var 0) 51 .nil) .nil))) .nil))))))
/-- 84 Reader.field(self): 0 self 1 name -/
def b_Reader_field : IB := (.cons (.set 1 (.meth (.var 0) 45 .nil)) (.cons (.ite (.isN (.meth (.attr (.var 0) 15) 40 (.cons (.var 1) .nil))) (.cons .never .nil) .nil) (.cons (.seta 0 18 (.bin .add (.attr (.var 0) 18) (.lit (.int 1)))) (.cons (.ret (.var 1)) .nil))))
/-- 85 Reader.about(self, name): 0 self 1 name 2 sign -/
def b_Reader_about : IB := (.cons (.ite (.meth (.var 0) 44 (.cons (.lit (.str [119, 111, 114, 100])) (.cons (.lit (.str [105, 110])) .nil))) (.cons (.ret (.meth (.var 0) 53 (.cons (.var 1) .nil))) .nil) .nil) (.cons (.loop (.one 2) (.val (.glob 4)) (.cons (.ite (.meth (.var 0) 46 (.cons (.lit (.str [115, 105, 103, 110])) (.cons (.var 2) .nil))) (.cons (.ret (.make 3 (.cons (.var 1) (.cons (.var 2) (.cons (.meth (.var 0) 35 (.cons (.var 1) .nil)) .nil))))) .nil) .nil) .nil)) (.cons .never .nil)))
/-- 86 Reader.choice(self, name): 0 self 1 name 2 start 3 values -/
def b_Reader_choice : IB := (.cons (.set 2 (.meth (.var 0) 43 .nil)) (.cons (.seta 0 18 (.bin .add (.attr (.var 0) 18) (.lit (.int 1)))) (.cons (.ite (.not (.meth (.var 0) 46 (.cons (.lit (.str [115, 105, 103, 110])) (.cons (.lit (.str [91])) .nil)))) (.cons .never .nil) .nil) (.cons (.newl 3 (.cons (.meth (.var 0) 35 (.cons (.var 1) .nil)) .nil)) (.cons (.whl (.meth (.var 0) 46 (.cons (.lit (.str [115, 105, 103, 110])) (.cons (.lit (.str [44])) .nil))) (.cons (.app 3 (.meth (.var 0) 35 (.cons (.var 1) .nil))) .nil)) (.cons (.ite (.not (.meth (.var 0) 46 (.cons (.lit (.str [115, 105, 103, 110])) (.cons (.lit (.str [93])) .nil)))) (.cons .never .nil) .nil) (.cons (.ret (.make 4 (.cons (.var 1) (.cons (.var 3) .nil)))) .nil)))))))
/-- 87 Reader.value(self, name): 0 self 1 name 2 token 3 worth -/
def b_Reader_value : IB := (.cons (.ite (.cmp .eq (.attr (.var 0) 18) (.blt .len (.cons (.attr (.var 0) 17) .nil))) (.cons .never .nil) .nil) (.cons (.set 2 (.idx (.attr (.var 0) 17) (.attr (.var 0) 18))) (.cons (.set 3 (.attr (.var 2) 6)) (.cons (.ite (.and (.cmp .eq (.attr (.var 2) 13) (.lit (.str [119, 111, 114, 100]))) (.cmp .isin (.var 3) (.tup (.cons (.lit (.str [116, 114, 117, 101])) (.cons (.lit (.str [102, 97, 108, 115, 101])) .nil))))) (.cons (.set 3 (.cmp .eq (.var 3) (.lit (.str [116, 114, 117, 101])))) .nil) (.cons (.ite (.cmp .isin (.attr (.var 2) 13) (.tup (.cons (.lit (.str [119, 111, 114, 100])) (.cons (.lit (.str [115, 105, 103, 110])) .nil)))) (.cons .never .nil) .nil) .nil)) (.cons (.ite (.cmp .ne (.call 12 (.cons (.var 3) .nil)) (.meth (.attr (.var 0) 15) 40 (.cons (.var 1) .nil))) (.cons .never .nil) .nil) (.cons (.seta 0 18 (.bin .add (.attr (.var 0) 18) (.lit (.int 1)))) (.cons (.ret (.var 3)) .nil)))))))
/-- 88 Question.__init__(self, schema, query): 0 self 1 schema 2 query -/
def b_Question_init : IB := (.cons (.expr (.call 21 (.cons (.var 1) (.cons (.var 2) .nil)))) (.cons (.seta 0 15 (.var 1)) (.cons (.seta 0 20 (.var 2)) (.cons (.seta 0 21 (.call 20 (.cons (.var 1) (.cons (.attr (.var 2) 25) .nil)))) .nil))))
/-- 89 Question.passes(self, record): 0 self 1 record -/
def b_Question_passes : IB := (.cons (.ret (.meth (.attr (.var 0) 21) 37 (.cons (.var 1) .nil))) .nil)
/-- 90 Question.cost(self, record): 0 self 1 record 2 total 3 word 4 weight -/
def b_Question_cost : IB := (.cons (.set 2 (.bin .mul (.attr (.attr (.var 0) 20) 24) (.meth (.attr (.var 0) 15) 41 (.cons (.attr (.attr (.var 0) 20) 1) (.cons (.attr (.var 1) 1) .nil))))) (.cons (.loop (.many [3, 4]) (.val (.attr (.attr (.var 0) 20) 3)) (.cons (.set 2 (.bin .sub (.var 2) (.bin .mul (.var 4) (.blt .min2 (.cons (.glob 6) (.cons (.meth (.var 1) 36 (.cons (.var 3) .nil)) .nil)))))) .nil)) (.cons (.ret (.var 2)) .nil)))
/-- 91 Bound.__init__(self, cost, name, can): 0 self 1 cost 2 name 3 can -/
def b_Bound_init : IB := (.cons (.seta 0 22 (.var 1)) (.cons (.seta 0 0 (.var 2)) (.cons (.seta 0 23 (.var 3)) .nil)))
/-- 92 Query.__init__(self, vector, near, words, text, most): 0 self 1 vector 2 near 3 words 4 text 5 most 6 word 7 weight -/
def b_Query_init : IB := (.cons (.seta 0 1 (.blt .tuple (.cons (.var 1) .nil))) (.cons (.seta 0 24 (.var 2)) (.cons (.seta 0 3 (.blt .tuple (.cons (.comp (.tup (.cons (.var 6) (.cons (.var 7) .nil))) (.many [6, 7]) (.val (.var 3)) .no) .nil))) (.cons (.seta 0 25 (.var 4)) (.cons (.seta 0 26 (.var 5)) .nil)))))
/-- 93 Fact.holds(self, record): 0 self 1 record -/
def b_Fact_holds : IB := (.cons (.ret (.lit (.bl true))) .nil)
/-- 94 Fact.least_distance(self, q): 0 self 1 q -/
def b_Fact_least_distance : IB := (.cons (.ret (.lit (.int 0))) .nil)
/-- 95 Fact.least_differing(self, q): 0 self 1 q -/
def b_Fact_least_differing : IB := (.cons (.ret (.meth (.var 0) 56 (.cons (.var 1) .nil))) .nil)
/-- 96 Fact.most_product(self, q): 0 self 1 q -/
def b_Fact_most_product : IB := (.cons (.ret (.lit .non)) .nil)
/-- 97 Fact.count_bound(self, word): 0 self 1 word -/
def b_Fact_count_bound : IB := (.cons (.ret (.lit .non)) .nil)
/-- 98 Fact.name_bound(self): 0 self -/
def b_Fact_name_bound : IB := (.cons (.ret (.lit .non)) .nil)
/-- 99 Fact.outcomes(self, condition): 0 self 1 condition -/
def b_Fact_outcomes : IB := (.cons (.ret (.lit .non)) .nil)
/-- 100 FieldFact.__init__(self, field, lack): 0 self 1 field 2 lack -/
def b_FieldFact_init : IB := (.cons (.seta 0 4 (.var 1)) (.cons (.seta 0 29 (.var 2)) .nil))
/-- 101 FieldFact.outcomes_of_present(self, condition): 0 self 1 condition -/
def b_FieldFact_outcomes_of_present : IB := (.cons (.ret (.tup (.cons (.lit (.bl true)) (.cons (.lit (.bl true)) .nil)))) .nil)
/-- 102 FieldFact.field_outcomes(self, condition): 0 self 1 condition 2 passing 3 failing -/
def b_FieldFact_field_outcomes : IB := (.cons (.ite (.not (.call 34 (.cons (.var 1) (.cons (.attr (.var 0) 4) .nil)))) (.cons (.ret (.lit .non)) .nil) .nil) (.cons (.ite (.cmp .eq (.attr (.var 0) 29) (.lit (.str [97, 108, 108]))) (.cons (.ret (.tup (.cons (.lit (.bl false)) (.cons (.lit (.bl true)) .nil)))) .nil) .nil) (.cons (.ite (.isin (.var 1) true [5]) (.cons (.ret (.tup (.cons (.lit (.bl true)) (.cons (.cmp .eq (.attr (.var 0) 29) (.lit (.str [115, 111, 109, 101]))) .nil)))) .nil) .nil) (.cons (.sett [2, 3] (.meth (.var 0) 62 (.cons (.var 1) .nil))) (.cons (.ret (.tup (.cons (.var 2) (.cons (.or (.var 3) (.cmp .eq (.attr (.var 0) 29) (.lit (.str [115, 111, 109, 101])))) .nil)))) .nil)))))
/-- 103 Range.__init__(self, field, low, high, lack): 0 self 1 field 2 low 3 high 4 lack -/
def b_Range_init : IB := (.cons (.base 24 100 (.cons (.var 0) (.cons (.var 1) (.cons (.var 4) .nil)))) (.cons (.seta 0 27 (.var 2)) (.cons (.seta 0 28 (.var 3)) .nil)))
/-- 104 Range.holds(self, record): 0 self 1 record 2 worth -/
def b_Range_holds : IB := (.cons (.set 2 (.meth (.var 1) 35 (.cons (.attr (.var 0) 4) .nil))) (.cons (.ite (.isN (.var 2)) (.cons (.ret (.cmp .ne (.attr (.var 0) 29) (.lit (.str [110, 111, 98, 111, 100, 121])))) .nil) .nil) (.cons (.ret (.and (.cmp .ne (.attr (.var 0) 29) (.lit (.str [97, 108, 108]))) (.and (.call 32 (.cons (.var 2) .nil)) (.chain .le .le (.attr (.var 0) 27) (.var 2) (.attr (.var 0) 28))))) .nil)))
/-- 105 Range.outcomes(self, condition): 0 self 1 condition -/
def b_Range_outcomes : IB := (.cons (.ret (.meth (.var 0) 63 (.cons (.var 1) .nil))) .nil)
/-- 106 Range.outcomes_of_present(self, condition): 0 self 1 condition 2 inside 3 passing 4 choice -/
def b_Range_outcomes_of_present : IB := (.cons (.ite (.isin (.var 1) true [7]) (.cons (.set 2 (.comp (.var 4) (.one 4) (.val (.attr (.var 1) 7)) (.yes (.and (.call 32 (.cons (.var 4) .nil)) (.chain .le .le (.attr (.var 0) 27) (.var 4) (.attr (.var 0) 28)))))) (.cons (.ret (.tup (.cons (.cmp .gt (.blt .len (.cons (.var 2) .nil)) (.lit (.int 0))) (.cons (.lit (.bl true)) .nil)))) .nil)) .nil) (.cons (.ite (.not (.call 32 (.cons (.attr (.var 1) 6) .nil))) (.cons (.ret (.tup (.cons (.lit (.bl false)) (.cons (.lit (.bl true)) .nil)))) .nil) .nil) (.cons (.set 3 (.call 33 (.cons (.attr (.var 1) 5) (.cons (.attr (.var 0) 27) (.cons (.attr (.var 0) 28) (.cons (.attr (.var 1) 6) .nil)))))) (.cons (.ret (.tup (.cons (.var 3) (.cons (.call 33 (.cons (.dget 1 (.attr (.var 1) 5)) (.cons (.attr (.var 0) 27) (.cons (.attr (.var 0) 28) (.cons (.attr (.var 1) 6) .nil))))) .nil)))) .nil))))
/-- 107 Values.__init__(self, field, choices, lack): 0 self 1 field 2 choices 3 lack -/
def b_Values_init : IB := (.cons (.base 24 100 (.cons (.var 0) (.cons (.var 1) (.cons (.var 3) .nil)))) (.cons (.seta 0 7 (.blt .tuple (.cons (.var 2) .nil))) .nil))
/-- 108 Values.holds(self, record): 0 self 1 record 2 worth -/
def b_Values_holds : IB := (.cons (.set 2 (.meth (.var 1) 35 (.cons (.attr (.var 0) 4) .nil))) (.cons (.ite (.isN (.var 2)) (.cons (.ret (.cmp .ne (.attr (.var 0) 29) (.lit (.str [110, 111, 98, 111, 100, 121])))) .nil) .nil) (.cons (.ret (.and (.cmp .ne (.attr (.var 0) 29) (.lit (.str [97, 108, 108]))) (.call 31 (.cons (.var 2) (.cons (.attr (.var 0) 7) .nil))))) .nil)))
/-- 109 Values.outcomes(self, condition): 0 self 1 condition -/
def b_Values_outcomes : IB := (.cons (.ret (.meth (.var 0) 63 (.cons (.var 1) .nil))) .nil)
/-- 110 Values.outcomes_of_present(self, condition): 0 self 1 condition 2 satisfying 3 choice -/
def b_Values_outcomes_of_present : IB := (.cons (.set 2 (.comp (.var 3) (.one 3) (.val (.attr (.var 0) 7)) (.yes (.call 29 (.cons (.var 1) (.cons (.var 3) .nil)))))) (.cons (.ret (.tup (.cons (.cmp .gt (.blt .len (.cons (.var 2) .nil)) (.lit (.int 0))) (.cons (.cmp .lt (.blt .len (.cons (.var 2) .nil)) (.blt .len (.cons (.attr (.var 0) 7) .nil))) .nil)))) .nil))
/-- 111 Counts.__init__(self, words): 0 self 1 words 2 word 3 count -/
def b_Counts_init : IB := (.cons (.seta 0 3 (.blt .tuple (.cons (.comp (.tup (.cons (.var 2) (.cons (.var 3) .nil))) (.many [2, 3]) (.val (.var 1)) .no) .nil))) .nil)
/-- 112 Counts.count_bound(self, word): 0 self 1 word 2 most 3 other 4 count -/
def b_Counts_count_bound : IB := (.cons (.set 2 (.lit (.int 0))) (.cons (.loop (.many [3, 4]) (.val (.attr (.var 0) 3)) (.cons (.ite (.cmp .eq (.var 3) (.var 1)) (.cons (.set 2 (.blt .max2 (.cons (.var 2) (.cons (.var 4) .nil)))) .nil) .nil) .nil)) (.cons (.ret (.var 2)) .nil)))
/-- 113 Counts.names_word(self, word): 0 self 1 word 2 other 3 _ -/
def b_Counts_names_word : IB := (.cons (.loop (.many [2, 3]) (.val (.attr (.var 0) 3)) (.cons (.ite (.cmp .eq (.var 2) (.var 1)) (.cons (.ret (.lit (.bl true))) .nil) .nil) .nil)) (.cons (.ret (.lit (.bl false))) .nil))
/-- 114 Counts.holds(self, record): 0 self 1 record 2 word 3 count -/
def b_Counts_holds : IB := (.cons (.loop (.many [2, 3]) (.val (.attr (.var 1) 3)) (.cons (.ite (.or (.not (.meth (.var 0) 64 (.cons (.var 2) .nil))) (.cmp .gt (.var 3) (.meth (.var 0) 59 (.cons (.var 2) .nil)))) (.cons (.ret (.lit (.bl false))) .nil) .nil) .nil)) (.cons (.ret (.lit (.bl true))) .nil))
/-- 115 Names.__init__(self, low, high): 0 self 1 low 2 high -/
def b_Names_init : IB := (.cons (.seta 0 27 (.var 1)) (.cons (.seta 0 28 (.var 2)) .nil))
/-- 116 Names.name_bound(self): 0 self -/
def b_Names_name_bound : IB := (.cons (.ret (.attr (.var 0) 27)) .nil)
/-- 117 Names.holds(self, record): 0 self 1 record -/
def b_Names_holds : IB := (.cons (.ret (.chain .le .le (.attr (.var 0) 27) (.attr (.var 1) 0) (.attr (.var 0) 28))) .nil)
/-- 118 Part.__init__(self, start, centre, radius): 0 self 1 start 2 centre 3 radius -/
def b_Part_init : IB := (.cons (.seta 0 30 (.var 1)) (.cons (.seta 0 31 (.blt .tuple (.cons (.var 2) .nil))) (.cons (.seta 0 32 (.var 3)) .nil)))
/-- 119 Part.after(self): 0 self -/
def b_Part_after : IB := (.cons (.ret (.bin .add (.attr (.var 0) 30) (.blt .len (.cons (.attr (.var 0) 31) .nil)))) .nil)
/-- 120 Part.cut(self, vector): 0 self 1 vector -/
def b_Part_cut : IB := (.cons (.ret (.sl (.var 1) (.yes (.attr (.var 0) 30)) (.yes (.prop (.var 0) 65)))) .nil)
/-- 121 Parts.__init__(self, parts): 0 self 1 parts -/
def b_Parts_init : IB := (.cons (.seta 0 33 (.blt .tuple (.cons (.var 1) .nil))) .nil)
/-- 122 Parts.fits(self, q): 0 self 1 q 2 part -/
def b_Parts_fits : IB := (.cons (.loop (.one 2) (.val (.attr (.var 0) 33)) (.cons (.ite (.or (.cmp .lt (.attr (.var 2) 30) (.lit (.int 0))) (.cmp .gt (.prop (.var 2) 65) (.blt .len (.cons (.var 1) .nil)))) (.cons (.ret (.lit (.bl false))) .nil) .nil) .nil)) (.cons (.ret (.lit (.bl true))) .nil))
/-- 123 Parts.holds(self, record): 0 self 1 record 2 part -/
def b_Parts_holds : IB := (.cons (.ite (.not (.meth (.var 0) 67 (.cons (.attr (.var 1) 1) .nil))) (.cons (.ret (.lit (.bl false))) .nil) .nil) (.cons (.loop (.one 2) (.val (.attr (.var 0) 33)) (.cons (.ite (.cmp .gt (.call 4 (.cons (.attr (.var 2) 31) (.cons (.meth (.var 2) 66 (.cons (.attr (.var 1) 1) .nil)) .nil))) (.attr (.var 2) 32)) (.cons (.ret (.lit (.bl false))) .nil) .nil) .nil)) (.cons (.ret (.lit (.bl true))) .nil)))
/-- 124 Parts.apart(self): 0 self 1 end 2 part -/
def b_Parts_apart : IB := (.cons (.set 1 (.lit (.int 0))) (.cons (.loop (.one 2) (.val (.attr (.var 0) 33)) (.cons (.ite (.cmp .lt (.attr (.var 2) 30) (.var 1)) (.cons (.ret (.lit (.bl false))) .nil) .nil) (.cons (.set 1 (.prop (.var 2) 65)) .nil))) (.cons (.ret (.lit (.bl true))) .nil)))
/-- 125 Parts.covers(self, size): 0 self 1 size 2 end 3 part -/
def b_Parts_covers : IB := (.cons (.set 2 (.lit (.int 0))) (.cons (.loop (.one 3) (.val (.attr (.var 0) 33)) (.cons (.ite (.cmp .ne (.attr (.var 3) 30) (.var 2)) (.cons (.ret (.lit (.bl false))) .nil) .nil) (.cons (.set 2 (.prop (.var 3) 65)) .nil))) (.cons (.ret (.cmp .eq (.var 2) (.var 1))) .nil)))
/-- 126 Parts.least_distance(self, q): 0 self 1 q 2 total 3 part -/
def b_Parts_least_distance : IB := (.cons (.set 2 (.lit (.int 0))) (.cons (.ite (.and (.meth (.var 0) 67 (.cons (.var 1) .nil)) (.meth (.var 0) 68 .nil)) (.cons (.loop (.one 3) (.val (.attr (.var 0) 33)) (.cons (.set 2 (.bin .add (.var 2) (.call 7 (.cons (.call 4 (.cons (.attr (.var 3) 31) (.cons (.meth (.var 3) 66 (.cons (.var 1) .nil)) .nil))) (.cons (.attr (.var 3) 32) .nil))))) .nil)) .nil) .nil) (.cons (.ret (.var 2)) .nil)))
/-- 127 Parts.most_product(self, q): 0 self 1 q 2 total 3 part -/
def b_Parts_most_product : IB := (.cons (.ite (.or (.not (.meth (.var 0) 67 (.cons (.var 1) .nil))) (.not (.meth (.var 0) 69 (.cons (.blt .len (.cons (.var 1) .nil)) .nil)))) (.cons (.ret (.lit .non)) .nil) .nil) (.cons (.set 2 (.lit (.int 0))) (.cons (.loop (.one 3) (.val (.attr (.var 0) 33)) (.cons (.set 2 (.bin .add (.bin .add (.var 2) (.call 3 (.cons (.attr (.var 3) 31) (.cons (.meth (.var 3) 66 (.cons (.var 1) .nil)) .nil)))) (.call 2 (.cons (.bin .mul (.call 6 (.cons (.meth (.var 3) 66 (.cons (.var 1) .nil)) .nil)) (.attr (.var 3) 32)) .nil)))) .nil)) (.cons (.ret (.var 2)) .nil))))
/-- 128 Cell.__init__(self, near, rival): 0 self 1 near 2 rival -/
def b_Cell_init : IB := (.cons (.seta 0 24 (.blt .tuple (.cons (.var 1) .nil))) (.cons (.seta 0 34 (.blt .tuple (.cons (.var 2) .nil))) .nil))
/-- 129 Cell.fits(self, q): 0 self 1 q -/
def b_Cell_fits : IB := (.cons (.ret (.and (.cmp .eq (.blt .len (.cons (.attr (.var 0) 24) .nil)) (.blt .len (.cons (.var 1) .nil))) (.cmp .eq (.blt .len (.cons (.attr (.var 0) 34) .nil)) (.blt .len (.cons (.var 1) .nil))))) .nil)
/-- 130 Cell.holds(self, record): 0 self 1 record 2 vector -/
def b_Cell_holds : IB := (.cons (.set 2 (.attr (.var 1) 1)) (.cons (.ret (.and (.meth (.var 0) 67 (.cons (.var 2) .nil)) (.cmp .le (.call 4 (.cons (.var 2) (.cons (.attr (.var 0) 24) .nil))) (.call 4 (.cons (.var 2) (.cons (.attr (.var 0) 34) .nil)))))) .nil))
/-- 131 Cell.least_distance(self, q): 0 self 1 q -/
def b_Cell_least_distance : IB := (.cons (.ite (.not (.meth (.var 0) 67 (.cons (.var 1) .nil))) (.cons (.ret (.lit (.int 0))) .nil) .nil) (.cons (.ret (.call 8 (.cons (.call 4 (.cons (.var 1) (.cons (.attr (.var 0) 24) .nil))) (.cons (.call 4 (.cons (.var 1) (.cons (.attr (.var 0) 34) .nil))) (.cons (.call 4 (.cons (.attr (.var 0) 24) (.cons (.attr (.var 0) 34) .nil))) .nil))))) .nil))
/-- 132 Box.__init__(self, low, high): 0 self 1 low 2 high -/
def b_Box_init : IB := (.cons (.seta 0 27 (.blt .tuple (.cons (.var 1) .nil))) (.cons (.seta 0 28 (.blt .tuple (.cons (.var 2) .nil))) .nil))
/-- 133 Box.fits(self, q): 0 self 1 q -/
def b_Box_fits : IB := (.cons (.ret (.and (.cmp .eq (.blt .len (.cons (.attr (.var 0) 27) .nil)) (.blt .len (.cons (.var 1) .nil))) (.cmp .eq (.blt .len (.cons (.attr (.var 0) 28) .nil)) (.blt .len (.cons (.var 1) .nil))))) .nil)
/-- 134 Box.holds(self, record): 0 self 1 record 2 number 3 low 4 high -/
def b_Box_holds : IB := (.cons (.ite (.not (.meth (.var 0) 67 (.cons (.attr (.var 1) 1) .nil))) (.cons (.ret (.lit (.bl false))) .nil) .nil) (.cons (.loop (.many [2, 3, 4]) (.zip3 (.attr (.var 1) 1) (.attr (.var 0) 27) (.attr (.var 0) 28)) (.cons (.ite (.or (.cmp .lt (.var 2) (.var 3)) (.cmp .gt (.var 2) (.var 4))) (.cons (.ret (.lit (.bl false))) .nil) .nil) .nil)) (.cons (.ret (.lit (.bl true))) .nil)))
/-- 135 Box.least_distance(self, q): 0 self 1 q 2 total 3 number 4 low 5 high -/
def b_Box_least_distance : IB := (.cons (.set 2 (.lit (.int 0))) (.cons (.ite (.meth (.var 0) 67 (.cons (.var 1) .nil)) (.cons (.loop (.many [3, 4, 5]) (.zip3 (.var 1) (.attr (.var 0) 27) (.attr (.var 0) 28)) (.cons (.ite (.cmp .lt (.var 3) (.var 4)) (.cons (.set 2 (.bin .add (.var 2) (.bin .mul (.bin .sub (.var 4) (.var 3)) (.bin .sub (.var 4) (.var 3))))) .nil) (.cons (.ite (.cmp .gt (.var 3) (.var 5)) (.cons (.set 2 (.bin .add (.var 2) (.bin .mul (.bin .sub (.var 3) (.var 5)) (.bin .sub (.var 3) (.var 5))))) .nil) .nil) .nil)) .nil)) .nil) .nil) (.cons (.ret (.var 2)) .nil)))
/-- 136 Box.most_product(self, q): 0 self 1 q 2 total 3 number 4 low 5 high -/
def b_Box_most_product : IB := (.cons (.ite (.not (.meth (.var 0) 67 (.cons (.var 1) .nil))) (.cons (.ret (.lit .non)) .nil) .nil) (.cons (.set 2 (.lit (.int 0))) (.cons (.loop (.many [3, 4, 5]) (.zip3 (.var 1) (.attr (.var 0) 27) (.attr (.var 0) 28)) (.cons (.set 2 (.bin .add (.var 2) (.blt .max2 (.cons (.bin .mul (.var 4) (.var 3)) (.cons (.bin .mul (.var 5) (.var 3)) .nil))))) .nil)) (.cons (.ret (.var 2)) .nil))))
/-- 137 Norms.__init__(self, low, high): 0 self 1 low 2 high -/
def b_Norms_init : IB := (.cons (.seta 0 27 (.var 1)) (.cons (.seta 0 28 (.var 2)) .nil))
/-- 138 Norms.holds(self, record): 0 self 1 record -/
def b_Norms_holds : IB := (.cons (.ret (.chain .le .le (.attr (.var 0) 27) (.call 6 (.cons (.attr (.var 1) 1) .nil)) (.attr (.var 0) 28))) .nil)
/-- 139 Norms.least_distance(self, q): 0 self 1 q 2 length -/
def b_Norms_least_distance : IB := (.cons (.set 2 (.call 6 (.cons (.var 1) .nil))) (.cons (.ite (.cmp .lt (.attr (.var 0) 28) (.var 2)) (.cons (.ret (.call 7 (.cons (.var 2) (.cons (.attr (.var 0) 28) .nil)))) .nil) .nil) (.cons (.ite (.cmp .lt (.var 2) (.attr (.var 0) 27)) (.cons (.ret (.call 7 (.cons (.attr (.var 0) 27) (.cons (.var 2) .nil)))) .nil) .nil) (.cons (.ret (.lit (.int 0))) .nil))))
/-- 140 Norms.most_product(self, q): 0 self 1 q -/
def b_Norms_most_product : IB := (.cons (.ret (.call 2 (.cons (.bin .mul (.call 6 (.cons (.var 1) .nil)) (.attr (.var 0) 28)) .nil))) .nil)
/-- 141 Differ.__init__(self, centre, most): 0 self 1 centre 2 most -/
def b_Differ_init : IB := (.cons (.seta 0 31 (.blt .tuple (.cons (.var 1) .nil))) (.cons (.seta 0 26 (.var 2)) .nil))
/-- 142 Differ.holds(self, record): 0 self 1 record 2 same_size -/
def b_Differ_holds : IB := (.cons (.set 2 (.cmp .eq (.blt .len (.cons (.attr (.var 0) 31) .nil)) (.blt .len (.cons (.attr (.var 1) 1) .nil)))) (.cons (.ret (.and (.var 2) (.cmp .le (.call 5 (.cons (.attr (.var 0) 31) (.cons (.attr (.var 1) 1) .nil))) (.attr (.var 0) 26)))) .nil))
/-- 143 Differ.least_differing(self, q): 0 self 1 q -/
def b_Differ_least_differing : IB := (.cons (.ite (.cmp .ne (.blt .len (.cons (.attr (.var 0) 31) .nil)) (.blt .len (.cons (.var 1) .nil))) (.cons (.ret (.lit (.int 0))) .nil) .nil) (.cons (.ret (.blt .max2 (.cons (.lit (.int 0)) (.cons (.bin .sub (.call 5 (.cons (.attr (.var 0) 31) (.cons (.var 1) .nil))) (.attr (.var 0) 26)) .nil)))) .nil))
def defsT : List DefI := [⟨2, 2, b_same_value⟩,
  ⟨3, 3, b_compare⟩,
  ⟨1, 4, b_root⟩,
  ⟨2, 5, b_inner⟩,
  ⟨2, 5, b_distance⟩,
  ⟨2, 5, b_differing⟩,
  ⟨1, 1, b_norm⟩,
  ⟨2, 2, b_gap⟩,
  ⟨3, 3, b_split⟩,
  ⟨1, 1, b_is_letter⟩,
  ⟨1, 1, b_is_digit⟩,
  ⟨1, 2, b_is_field_name⟩,
  ⟨1, 1, b_kind_of_value⟩,
  ⟨2, 3, b_end_of_word⟩,
  ⟨2, 3, b_end_of_digits⟩,
  ⟨2, 4, b_read_integer⟩,
  ⟨2, 4, b_read_quoted⟩,
  ⟨2, 3, b_read_sign⟩,
  ⟨2, 3, b_read_token⟩,
  ⟨1, 4, b_read_tokens⟩,
  ⟨2, 4, b_read_filter⟩,
  ⟨2, 5, b_check_query⟩,
  ⟨2, 6, b_outcomes_of⟩,
  ⟨2, 6, b_can_pass⟩,
  ⟨2, 7, b_least_far⟩,
  ⟨2, 5, b_most_count⟩,
  ⟨2, 6, b_least_cost⟩,
  ⟨1, 4, b_least_name⟩,
  ⟨2, 2, b_bound_of⟩,
  ⟨2, 2, b_satisfies⟩,
  ⟨2, 2, b_same_kind⟩,
  ⟨2, 3, b_is_one_of⟩,
  ⟨1, 1, b_is_integer⟩,
  ⟨4, 4, b_range_passes⟩,
  ⟨2, 2, b_is_about⟩,
  ⟨2, 6, b_law_row⟩,
  ⟨2, 3, b_law_next⟩,
  ⟨2, 4, b_law_vector⟩,
  ⟨2, 4, b_law_distance⟩,
  ⟨2, 4, b_law_inner⟩,
  ⟨2, 3, b_law_differing⟩,
  ⟨1, 4, b_law_made⟩,
  ⟨3, 11, b_law_true_parts⟩,
  ⟨2, 13, b_law_true_fact⟩,
  ⟨2, 6, b_law_true_range⟩,
  ⟨4, 12, b_law_true_content⟩,
  ⟨3, 5, b_law_true_facts⟩,
  ⟨1, 2, b_law_schema_of⟩,
  ⟨2, 7, b_law_thing⟩,
  ⟨1, 3, b_law_text_of⟩,
  ⟨2, 8, b_law_question⟩,
  ⟨1, 10, b_law⟩,
  ⟨5, 9, b_Record_init⟩,
  ⟨2, 4, b_Record_value⟩,
  ⟨2, 4, b_Record_count_of⟩,
  ⟨2, 2, b_Every_passes⟩,
  ⟨2, 2, b_Has_init⟩,
  ⟨2, 2, b_Has_passes⟩,
  ⟨4, 4, b_Compare_init⟩,
  ⟨2, 3, b_Compare_passes⟩,
  ⟨3, 3, b_OneOf_init⟩,
  ⟨2, 4, b_OneOf_passes⟩,
  ⟨3, 3, b_Both_init⟩,
  ⟨2, 2, b_Both_passes⟩,
  ⟨3, 3, b_Either_init⟩,
  ⟨2, 2, b_Either_passes⟩,
  ⟨2, 2, b_Negation_init⟩,
  ⟨2, 2, b_Negation_passes⟩,
  ⟨5, 8, b_Schema_init⟩,
  ⟨1, 1, b_Schema_least⟩,
  ⟨1, 1, b_Schema_greatest⟩,
  ⟨2, 4, b_Schema_kind_of⟩,
  ⟨3, 3, b_Schema_far⟩,
  ⟨2, 3, b_Schema_has_vector⟩,
  ⟨4, 4, b_Token_init⟩,
  ⟨3, 3, b_Reader_init⟩,
  ⟨1, 1, b_Reader_place⟩,
  ⟨3, 3, b_Reader_sees⟩,
  ⟨1, 1, b_Reader_word⟩,
  ⟨3, 3, b_Reader_skip⟩,
  ⟨1, 1, b_Reader_open_part⟩,
  ⟨1, 2, b_Reader_whole⟩,
  ⟨1, 2, b_Reader_conditions⟩,
  ⟨1, 2, b_Reader_condition⟩,
  ⟨1, 2, b_Reader_field⟩,
  ⟨2, 3, b_Reader_about⟩,
  ⟨2, 4, b_Reader_choice⟩,
  ⟨2, 4, b_Reader_value⟩,
  ⟨3, 3, b_Question_init⟩,
  ⟨2, 2, b_Question_passes⟩,
  ⟨2, 5, b_Question_cost⟩,
  ⟨4, 4, b_Bound_init⟩,
  ⟨6, 8, b_Query_init⟩,
  ⟨2, 2, b_Fact_holds⟩,
  ⟨2, 2, b_Fact_least_distance⟩,
  ⟨2, 2, b_Fact_least_differing⟩,
  ⟨2, 2, b_Fact_most_product⟩,
  ⟨2, 2, b_Fact_count_bound⟩,
  ⟨1, 1, b_Fact_name_bound⟩,
  ⟨2, 2, b_Fact_outcomes⟩,
  ⟨3, 3, b_FieldFact_init⟩,
  ⟨2, 2, b_FieldFact_outcomes_of_present⟩,
  ⟨2, 4, b_FieldFact_field_outcomes⟩,
  ⟨5, 5, b_Range_init⟩,
  ⟨2, 3, b_Range_holds⟩,
  ⟨2, 2, b_Range_outcomes⟩,
  ⟨2, 5, b_Range_outcomes_of_present⟩,
  ⟨4, 4, b_Values_init⟩,
  ⟨2, 3, b_Values_holds⟩,
  ⟨2, 2, b_Values_outcomes⟩,
  ⟨2, 4, b_Values_outcomes_of_present⟩,
  ⟨2, 4, b_Counts_init⟩,
  ⟨2, 5, b_Counts_count_bound⟩,
  ⟨2, 4, b_Counts_names_word⟩,
  ⟨2, 4, b_Counts_holds⟩,
  ⟨3, 3, b_Names_init⟩,
  ⟨1, 1, b_Names_name_bound⟩,
  ⟨2, 2, b_Names_holds⟩,
  ⟨4, 4, b_Part_init⟩,
  ⟨1, 1, b_Part_after⟩,
  ⟨2, 2, b_Part_cut⟩,
  ⟨2, 2, b_Parts_init⟩,
  ⟨2, 3, b_Parts_fits⟩,
  ⟨2, 3, b_Parts_holds⟩,
  ⟨1, 3, b_Parts_apart⟩,
  ⟨2, 4, b_Parts_covers⟩,
  ⟨2, 4, b_Parts_least_distance⟩,
  ⟨2, 4, b_Parts_most_product⟩,
  ⟨3, 3, b_Cell_init⟩,
  ⟨2, 2, b_Cell_fits⟩,
  ⟨2, 3, b_Cell_holds⟩,
  ⟨2, 2, b_Cell_least_distance⟩,
  ⟨3, 3, b_Box_init⟩,
  ⟨2, 2, b_Box_fits⟩,
  ⟨2, 5, b_Box_holds⟩,
  ⟨2, 6, b_Box_least_distance⟩,
  ⟨2, 6, b_Box_most_product⟩,
  ⟨3, 3, b_Norms_init⟩,
  ⟨2, 2, b_Norms_holds⟩,
  ⟨2, 3, b_Norms_least_distance⟩,
  ⟨2, 2, b_Norms_most_product⟩,
  ⟨3, 3, b_Differ_init⟩,
  ⟨2, 3, b_Differ_holds⟩,
  ⟨2, 2, b_Differ_least_differing⟩]
def clsT : List ClsI := [/- 0 Record -/ ⟨some 52, [(35, 53), (36, 54)], [], [0, 1, 2, 3]⟩,
  /- 1 Every -/ ⟨none, [(37, 55)], [], []⟩,
  /- 2 Has -/ ⟨some 56, [(37, 57)], [], [4]⟩,
  /- 3 Compare -/ ⟨some 58, [(37, 59)], [], [4, 5, 6]⟩,
  /- 4 OneOf -/ ⟨some 60, [(37, 61)], [], [4, 7]⟩,
  /- 5 Both -/ ⟨some 62, [(37, 63)], [], [8, 9]⟩,
  /- 6 Either -/ ⟨some 64, [(37, 65)], [], [8, 9]⟩,
  /- 7 Negation -/ ⟨some 66, [(37, 67)], [], [8]⟩,
  /- 8 Schema -/ ⟨some 68, [(40, 71), (41, 72), (42, 73)], [(38, 69), (39, 70)], [10, 11, 12, 2]⟩,
  /- 9 Token -/ ⟨some 74, [], [], [13, 6, 14]⟩,
  /- 10 Reader -/ ⟨some 75, [(43, 76), (44, 77), (45, 78), (46, 79), (47, 80), (48, 81), (49, 82), (50, 83), (51, 84), (52, 85), (53, 86), (35, 87)], [], [15, 16, 17, 18, 19]⟩,
  /- 11 Question -/ ⟨some 88, [(37, 89), (54, 90)], [], [15, 20, 21]⟩,
  /- 12 Bound -/ ⟨some 91, [], [], [22, 0, 23]⟩,
  /- 13 Query -/ ⟨some 92, [], [], [1, 24, 3, 25, 26]⟩,
  /- 14 Range -/ ⟨some 103, [(55, 104), (61, 105), (62, 106), (63, 102), (56, 94), (57, 95), (58, 96), (59, 97), (60, 98)], [], [27, 28, 4, 29]⟩,
  /- 15 Values -/ ⟨some 107, [(55, 108), (61, 109), (62, 110), (63, 102), (56, 94), (57, 95), (58, 96), (59, 97), (60, 98)], [], [7, 4, 29]⟩,
  /- 16 Counts -/ ⟨some 111, [(59, 112), (64, 113), (55, 114), (56, 94), (57, 95), (58, 96), (60, 98), (61, 99)], [], [3]⟩,
  /- 17 Names -/ ⟨some 115, [(60, 116), (55, 117), (56, 94), (57, 95), (58, 96), (59, 97), (61, 99)], [], [27, 28]⟩,
  /- 18 Part -/ ⟨some 118, [(66, 120)], [(65, 119)], [30, 31, 32]⟩,
  /- 19 Parts -/ ⟨some 121, [(67, 122), (55, 123), (68, 124), (69, 125), (56, 126), (58, 127), (57, 95), (59, 97), (60, 98), (61, 99)], [], [33]⟩,
  /- 20 Cell -/ ⟨some 128, [(67, 129), (55, 130), (56, 131), (57, 95), (58, 96), (59, 97), (60, 98), (61, 99)], [], [24, 34]⟩,
  /- 21 Box -/ ⟨some 132, [(67, 133), (55, 134), (56, 135), (58, 136), (57, 95), (59, 97), (60, 98), (61, 99)], [], [27, 28]⟩,
  /- 22 Norms -/ ⟨some 137, [(55, 138), (56, 139), (58, 140), (57, 95), (59, 97), (60, 98), (61, 99)], [], [27, 28]⟩,
  /- 23 Differ -/ ⟨some 141, [(55, 142), (57, 143), (56, 94), (58, 96), (59, 97), (60, 98), (61, 99)], [], [31, 26]⟩,
  /- 24 FieldFact -/ ⟨some 100, [(62, 101), (63, 102), (55, 93), (56, 94), (57, 95), (58, 96), (59, 97), (60, 98), (61, 99)], [], [4, 29]⟩]
def globsT : List D := [(.tup [(.str [115, 113, 117, 97, 114, 101]), (.str [100, 111, 116]), (.str [98, 105, 116, 115])]), (.tup [(.str [105, 110, 116, 101, 103, 101, 114]), (.str [116, 101, 120, 116]), (.str [102, 108, 97, 103])]), (.tup [(.str [101, 118, 101, 114, 121]), (.str [104, 97, 115]), (.str [105, 110]), (.str [97, 110, 100]), (.str [111, 114]), (.str [110, 111, 116]), (.str [116, 114, 117, 101]), (.str [102, 97, 108, 115, 101])]), (.tup [(.str [33, 61]), (.str [60, 61]), (.str [62, 61]), (.str [40]), (.str [41]), (.str [91]), (.str [93]), (.str [44]), (.str [61]), (.str [60]), (.str [62])]), (.tup [(.str [61]), (.str [33, 61]), (.str [60]), (.str [60, 61]), (.str [62]), (.str [62, 61])]), (.int 40), (.int 15)]
def dictsT : List (List (List Nat × D)) := [[([98, 105, 116], (.tup [(.int 0), (.int 1)])), ([115, 109, 97, 108, 108], (.tup [(.int (-128)), (.int 127)])), ([119, 105, 100, 101], (.tup [(.int (-32768)), (.int 32767)]))], [([61], (.str [33, 61])), ([33, 61], (.str [61])), ([60], (.str [62, 61])), ([60, 61], (.str [62])), ([62], (.str [60, 61])), ([62, 61], (.str [60]))]]
def prog : Prog := ⟨defsT, clsT, globsT, dictsT, [1, 2, 3, 4, 5, 6, 7]⟩
/-! fields: 0 name, 1 vector, 2 fields, 3 words, 4 field, 5 sign, 6 value, 7 choices, 8 a, 9 b, 10 size, 11 width, 12 measure, 13 kind, 14 place, 15 schema, 16 stop, 17 tokens, 18 at, 19 depth, 20 query, 21 condition, 22 cost, 23 can, 24 near, 25 text, 26 most, 27 low, 28 high, 29 lack, 30 start, 31 centre, 32 radius, 33 parts, 34 rival -/
/-! methods: 35 value, 36 count_of, 37 passes, 38 least, 39 greatest, 40 kind_of, 41 far, 42 has_vector, 43 place, 44 sees, 45 word, 46 skip, 47 open_part, 48 whole, 49 conditions, 50 condition, 51 field, 52 about, 53 choice, 54 cost, 55 holds, 56 least_distance, 57 least_differing, 58 most_product, 59 count_bound, 60 name_bound, 61 outcomes, 62 outcomes_of_present, 63 field_outcomes, 64 names_word, 65 after, 66 cut, 67 fits, 68 apart, 69 covers -/
end K24
/-! K24H0: what is looked at when the top has run; put together by split.py. -/
set_option Elab.async false
set_option linter.all false
set_option maxRecDepth 100000
set_option maxHeartbeats 4000000
namespace K24
open PySem L2
/-- the text's names: of attributes, classes, defs (those of the top), constants, tables; parameters in order, those by keyword alone -/
structure Nms where
  anm : Nat → Str
  cnm : Nat → Str
  dnm : Nat → Option Str
  gnm : Nat → Str
  tnm : Nat → Str
  ps : Nat → List Str
  ks : Nat → List Str
def top (i : Nat) : Stmt := PySem.Challenge.pw_surenear_k24_whole_bounds_are_safe.main.body.getD i (.Pass ⟨0, 0, 0, 0⟩)
def anmL : List Str := [(Str.ofString "name"), (Str.ofString "vector"), (Str.ofString "fields"), (Str.ofString "words"), (Str.ofString "field"), (Str.ofString "sign"), (Str.ofString "value"), (Str.ofString "choices"), (Str.ofString "a"), (Str.ofString "b"), (Str.ofString "size"), (Str.ofString "width"), (Str.ofString "measure"), (Str.ofString "kind"), (Str.ofString "place"), (Str.ofString "schema"), (Str.ofString "stop"), (Str.ofString "tokens"), (Str.ofString "at"), (Str.ofString "depth"), (Str.ofString "query"), (Str.ofString "condition"), (Str.ofString "cost"), (Str.ofString "can"), (Str.ofString "near"), (Str.ofString "text"), (Str.ofString "most"), (Str.ofString "low"), (Str.ofString "high"), (Str.ofString "lack"), (Str.ofString "start"), (Str.ofString "centre"), (Str.ofString "radius"), (Str.ofString "parts"), (Str.ofString "rival"), (Str.ofString "value"), (Str.ofString "count_of"), (Str.ofString "passes"), (Str.ofString "least"), (Str.ofString "greatest"), (Str.ofString "kind_of"), (Str.ofString "far"), (Str.ofString "has_vector"), (Str.ofString "place"), (Str.ofString "sees"), (Str.ofString "word"), (Str.ofString "skip"), (Str.ofString "open_part"), (Str.ofString "whole"), (Str.ofString "conditions"), (Str.ofString "condition"), (Str.ofString "field"), (Str.ofString "about"), (Str.ofString "choice"), (Str.ofString "cost"), (Str.ofString "holds"), (Str.ofString "least_distance"), (Str.ofString "least_differing"), (Str.ofString "most_product"), (Str.ofString "count_bound"), (Str.ofString "name_bound"), (Str.ofString "outcomes"), (Str.ofString "outcomes_of_present"), (Str.ofString "field_outcomes"), (Str.ofString "names_word"), (Str.ofString "after"), (Str.ofString "cut"), (Str.ofString "fits"), (Str.ofString "apart"), (Str.ofString "covers")]
def cnmL : List Str := [(Str.ofString "Record"), (Str.ofString "Every"), (Str.ofString "Has"), (Str.ofString "Compare"), (Str.ofString "OneOf"), (Str.ofString "Both"), (Str.ofString "Either"), (Str.ofString "Negation"), (Str.ofString "Schema"), (Str.ofString "Token"), (Str.ofString "Reader"), (Str.ofString "Question"), (Str.ofString "Bound"), (Str.ofString "Query"), (Str.ofString "Range"), (Str.ofString "Values"), (Str.ofString "Counts"), (Str.ofString "Names"), (Str.ofString "Part"), (Str.ofString "Parts"), (Str.ofString "Cell"), (Str.ofString "Box"), (Str.ofString "Norms"), (Str.ofString "Differ"), (Str.ofString "FieldFact")]
def dnmL : List (Option Str) := [some (Str.ofString "same_value"), some (Str.ofString "compare"), some (Str.ofString "root"), some (Str.ofString "inner"), some (Str.ofString "distance"), some (Str.ofString "differing"), some (Str.ofString "norm"), some (Str.ofString "gap"), some (Str.ofString "split"), some (Str.ofString "is_letter"), some (Str.ofString "is_digit"), some (Str.ofString "is_field_name"), some (Str.ofString "kind_of_value"), some (Str.ofString "end_of_word"), some (Str.ofString "end_of_digits"), some (Str.ofString "read_integer"), some (Str.ofString "read_quoted"), some (Str.ofString "read_sign"), some (Str.ofString "read_token"), some (Str.ofString "read_tokens"), some (Str.ofString "read_filter"), some (Str.ofString "check_query"), some (Str.ofString "outcomes_of"), some (Str.ofString "can_pass"), some (Str.ofString "least_far"), some (Str.ofString "most_count"), some (Str.ofString "least_cost"), some (Str.ofString "least_name"), some (Str.ofString "bound_of"), some (Str.ofString "satisfies"), some (Str.ofString "same_kind"), some (Str.ofString "is_one_of"), some (Str.ofString "is_integer"), some (Str.ofString "range_passes"), some (Str.ofString "is_about"), some (Str.ofString "_law_row"), some (Str.ofString "_law_next"), some (Str.ofString "_law_vector"), some (Str.ofString "_law_distance"), some (Str.ofString "_law_inner"), some (Str.ofString "_law_differing"), some (Str.ofString "_law_made"), some (Str.ofString "_law_true_parts"), some (Str.ofString "_law_true_fact"), some (Str.ofString "_law_true_range"), some (Str.ofString "_law_true_content"), some (Str.ofString "_law_true_facts"), some (Str.ofString "_law_schema_of"), some (Str.ofString "_law_thing"), some (Str.ofString "_law_text_of"), some (Str.ofString "_law_question"), some (Str.ofString "law"), none, none, none, none, none, none, none, none, none, none, none, none, none, none, none, none, none, none, none, none, none, none, none, none, none, none, none, none, none, none, none, none, none, none, none, none, none, none, none, none, none, none, none, none, none, none, none, none, none, none, none, none, none, none, none, none, none, none, none, none, none, none, none, none, none, none, none, none, none, none, none, none, none, none, none, none, none, none, none, none, none, none, none, none, none, none, none, none, none, none, none, none]
def gnmL : List Str := [(Str.ofString "MEASURES"), (Str.ofString "KINDS"), (Str.ofString "WORDS"), (Str.ofString "SIGNS"), (Str.ofString "COMPARISONS"), (Str.ofString "MOST_OPEN"), (Str.ofString "MOST_COUNT")]
def tnmL : List Str := [(Str.ofString "RANGES"), (Str.ofString "OPPOSITES")]
def psL : List (List Str) := [[(Str.ofString "a"), (Str.ofString "b")], [(Str.ofString "sign"), (Str.ofString "a"), (Str.ofString "b")], [(Str.ofString "number")], [(Str.ofString "a"), (Str.ofString "b")], [(Str.ofString "a"), (Str.ofString "b")], [(Str.ofString "a"), (Str.ofString "b")], [(Str.ofString "a")], [(Str.ofString "far"), (Str.ofString "near")], [(Str.ofString "d"), (Str.ofString "e"), (Str.ofString "f")], [(Str.ofString "sign")], [(Str.ofString "sign")], [(Str.ofString "name")], [(Str.ofString "worth")], [(Str.ofString "text"), (Str.ofString "start")], [(Str.ofString "text"), (Str.ofString "start")], [(Str.ofString "text"), (Str.ofString "start")], [(Str.ofString "text"), (Str.ofString "start")], [(Str.ofString "text"), (Str.ofString "start")], [(Str.ofString "text"), (Str.ofString "start")], [(Str.ofString "text")], [(Str.ofString "schema"), (Str.ofString "text")], [(Str.ofString "schema"), (Str.ofString "query")], [(Str.ofString "condition"), (Str.ofString "facts")], [(Str.ofString "condition"), (Str.ofString "facts")], [(Str.ofString "question"), (Str.ofString "facts")], [(Str.ofString "word"), (Str.ofString "facts")], [(Str.ofString "question"), (Str.ofString "facts")], [(Str.ofString "facts")], [(Str.ofString "question"), (Str.ofString "facts")], [(Str.ofString "condition"), (Str.ofString "worth")], [(Str.ofString "a"), (Str.ofString "b")], [(Str.ofString "worth"), (Str.ofString "choices")], [(Str.ofString "worth")], [(Str.ofString "sign"), (Str.ofString "low"), (Str.ofString "high"), (Str.ofString "worth")], [(Str.ofString "condition"), (Str.ofString "field")], [(Str.ofString "_law_script"), (Str.ofString "_law_k")], [(Str.ofString "_law_state"), (Str.ofString "_law_many")], [(Str.ofString "_law_state"), (Str.ofString "_law_size")], [(Str.ofString "_law_a"), (Str.ofString "_law_b")], [(Str.ofString "_law_a"), (Str.ofString "_law_b")], [(Str.ofString "_law_a"), (Str.ofString "_law_b")], [(Str.ofString "_law_fact")], [(Str.ofString "_law_state"), (Str.ofString "_law_vector_here"), (Str.ofString "_law_others")], [(Str.ofString "_law_state"), (Str.ofString "_law_vectors")], [(Str.ofString "_law_state"), (Str.ofString "_law_pairs")], [(Str.ofString "_law_state"), (Str.ofString "_law_name"), (Str.ofString "_law_pairs"), (Str.ofString "_law_words")], [(Str.ofString "_law_state"), (Str.ofString "_law_thing_here"), (Str.ofString "_law_many")], [(Str.ofString "_law_state")], [(Str.ofString "_law_state"), (Str.ofString "_law_drawn")], [(Str.ofString "_law_state")], [(Str.ofString "_law_state"), (Str.ofString "_law_drawn")], [(Str.ofString "_law_script")], [(Str.ofString "self"), (Str.ofString "name"), (Str.ofString "vector"), (Str.ofString "fields"), (Str.ofString "words")], [(Str.ofString "self"), (Str.ofString "name")], [(Str.ofString "self"), (Str.ofString "word")], [(Str.ofString "self"), (Str.ofString "record")], [(Str.ofString "self"), (Str.ofString "field")], [(Str.ofString "self"), (Str.ofString "record")], [(Str.ofString "self"), (Str.ofString "field"), (Str.ofString "sign"), (Str.ofString "value")], [(Str.ofString "self"), (Str.ofString "record")], [(Str.ofString "self"), (Str.ofString "field"), (Str.ofString "choices")], [(Str.ofString "self"), (Str.ofString "record")], [(Str.ofString "self"), (Str.ofString "a"), (Str.ofString "b")], [(Str.ofString "self"), (Str.ofString "record")], [(Str.ofString "self"), (Str.ofString "a"), (Str.ofString "b")], [(Str.ofString "self"), (Str.ofString "record")], [(Str.ofString "self"), (Str.ofString "a")], [(Str.ofString "self"), (Str.ofString "record")], [(Str.ofString "self"), (Str.ofString "size"), (Str.ofString "width"), (Str.ofString "measure"), (Str.ofString "fields")], [(Str.ofString "self")], [(Str.ofString "self")], [(Str.ofString "self"), (Str.ofString "name")], [(Str.ofString "self"), (Str.ofString "a"), (Str.ofString "b")], [(Str.ofString "self"), (Str.ofString "vector")], [(Str.ofString "self"), (Str.ofString "kind"), (Str.ofString "value"), (Str.ofString "place")], [(Str.ofString "self"), (Str.ofString "schema"), (Str.ofString "text")], [(Str.ofString "self")], [(Str.ofString "self"), (Str.ofString "kind"), (Str.ofString "value")], [(Str.ofString "self")], [(Str.ofString "self"), (Str.ofString "kind"), (Str.ofString "value")], [(Str.ofString "self")], [(Str.ofString "self")], [(Str.ofString "self")], [(Str.ofString "self")], [(Str.ofString "self")], [(Str.ofString "self"), (Str.ofString "name")], [(Str.ofString "self"), (Str.ofString "name")], [(Str.ofString "self"), (Str.ofString "name")], [(Str.ofString "self"), (Str.ofString "schema"), (Str.ofString "query")], [(Str.ofString "self"), (Str.ofString "record")], [(Str.ofString "self"), (Str.ofString "record")], [(Str.ofString "self"), (Str.ofString "cost"), (Str.ofString "name"), (Str.ofString "can")], [(Str.ofString "self"), (Str.ofString "vector"), (Str.ofString "near"), (Str.ofString "words"), (Str.ofString "text"), (Str.ofString "most")], [(Str.ofString "self"), (Str.ofString "record")], [(Str.ofString "self"), (Str.ofString "q")], [(Str.ofString "self"), (Str.ofString "q")], [(Str.ofString "self"), (Str.ofString "q")], [(Str.ofString "self"), (Str.ofString "word")], [(Str.ofString "self")], [(Str.ofString "self"), (Str.ofString "condition")], [(Str.ofString "self"), (Str.ofString "field"), (Str.ofString "lack")], [(Str.ofString "self"), (Str.ofString "condition")], [(Str.ofString "self"), (Str.ofString "condition")], [(Str.ofString "self"), (Str.ofString "field"), (Str.ofString "low"), (Str.ofString "high"), (Str.ofString "lack")], [(Str.ofString "self"), (Str.ofString "record")], [(Str.ofString "self"), (Str.ofString "condition")], [(Str.ofString "self"), (Str.ofString "condition")], [(Str.ofString "self"), (Str.ofString "field"), (Str.ofString "choices"), (Str.ofString "lack")], [(Str.ofString "self"), (Str.ofString "record")], [(Str.ofString "self"), (Str.ofString "condition")], [(Str.ofString "self"), (Str.ofString "condition")], [(Str.ofString "self"), (Str.ofString "words")], [(Str.ofString "self"), (Str.ofString "word")], [(Str.ofString "self"), (Str.ofString "word")], [(Str.ofString "self"), (Str.ofString "record")], [(Str.ofString "self"), (Str.ofString "low"), (Str.ofString "high")], [(Str.ofString "self")], [(Str.ofString "self"), (Str.ofString "record")], [(Str.ofString "self"), (Str.ofString "start"), (Str.ofString "centre"), (Str.ofString "radius")], [(Str.ofString "self")], [(Str.ofString "self"), (Str.ofString "vector")], [(Str.ofString "self"), (Str.ofString "parts")], [(Str.ofString "self"), (Str.ofString "q")], [(Str.ofString "self"), (Str.ofString "record")], [(Str.ofString "self")], [(Str.ofString "self"), (Str.ofString "size")], [(Str.ofString "self"), (Str.ofString "q")], [(Str.ofString "self"), (Str.ofString "q")], [(Str.ofString "self"), (Str.ofString "near"), (Str.ofString "rival")], [(Str.ofString "self"), (Str.ofString "q")], [(Str.ofString "self"), (Str.ofString "record")], [(Str.ofString "self"), (Str.ofString "q")], [(Str.ofString "self"), (Str.ofString "low"), (Str.ofString "high")], [(Str.ofString "self"), (Str.ofString "q")], [(Str.ofString "self"), (Str.ofString "record")], [(Str.ofString "self"), (Str.ofString "q")], [(Str.ofString "self"), (Str.ofString "q")], [(Str.ofString "self"), (Str.ofString "low"), (Str.ofString "high")], [(Str.ofString "self"), (Str.ofString "record")], [(Str.ofString "self"), (Str.ofString "q")], [(Str.ofString "self"), (Str.ofString "q")], [(Str.ofString "self"), (Str.ofString "centre"), (Str.ofString "most")], [(Str.ofString "self"), (Str.ofString "record")], [(Str.ofString "self"), (Str.ofString "q")]]
def ksL : List (List Str) := [[], [], [], [], [], [], [], [], [], [], [], [], [], [], [], [], [], [], [], [], [], [], [], [], [], [], [], [], [], [], [], [], [], [], [], [], [], [], [], [], [], [], [], [], [], [], [], [], [], [], [], [], [(Str.ofString "fields"), (Str.ofString "words")], [], [], [], [], [], [], [], [], [], [], [], [], [], [], [], [(Str.ofString "width"), (Str.ofString "measure"), (Str.ofString "fields")], [], [], [], [], [], [], [], [], [], [], [], [], [], [], [], [], [], [], [], [], [], [], [], [(Str.ofString "near"), (Str.ofString "words"), (Str.ofString "text"), (Str.ofString "most")], [], [], [], [], [], [], [], [], [], [], [(Str.ofString "lack")], [], [], [], [(Str.ofString "lack")], [], [], [], [], [], [], [], [], [], [], [], [], [], [], [], [], [], [], [], [], [], [], [], [], [], [], [], [], [], [], [], [], [], [], [], []]
def nmL : List (List Str) := [[(Str.ofString "a"), (Str.ofString "b")],
  [(Str.ofString "sign"), (Str.ofString "a"), (Str.ofString "b")],
  [(Str.ofString "number"), (Str.ofString "low"), (Str.ofString "high"), (Str.ofString "middle")],
  [(Str.ofString "a"), (Str.ofString "b"), (Str.ofString "total"), (Str.ofString "x"), (Str.ofString "y")],
  [(Str.ofString "a"), (Str.ofString "b"), (Str.ofString "total"), (Str.ofString "x"), (Str.ofString "y")],
  [(Str.ofString "a"), (Str.ofString "b"), (Str.ofString "total"), (Str.ofString "x"), (Str.ofString "y")],
  [(Str.ofString "a")],
  [(Str.ofString "far"), (Str.ofString "near")],
  [(Str.ofString "d"), (Str.ofString "e"), (Str.ofString "f")],
  [(Str.ofString "sign")],
  [(Str.ofString "sign")],
  [(Str.ofString "name"), (Str.ofString "sign")],
  [(Str.ofString "worth")],
  [(Str.ofString "text"), (Str.ofString "start"), (Str.ofString "end")],
  [(Str.ofString "text"), (Str.ofString "start"), (Str.ofString "end")],
  [(Str.ofString "text"), (Str.ofString "start"), (Str.ofString "first"), (Str.ofString "end")],
  [(Str.ofString "text"), (Str.ofString "start"), (Str.ofString "value"), (Str.ofString "at")],
  [(Str.ofString "text"), (Str.ofString "start"), (Str.ofString "sign")],
  [(Str.ofString "text"), (Str.ofString "start"), (Str.ofString "end")],
  [(Str.ofString "text"), (Str.ofString "tokens"), (Str.ofString "at"), (Str.ofString "token")],
  [(Str.ofString "schema"), (Str.ofString "text"), (Str.ofString "reader"), (Str.ofString "condition")],
  [(Str.ofString "schema"), (Str.ofString "query"), (Str.ofString "words"), (Str.ofString "word"), (Str.ofString "weight")],
  [(Str.ofString "condition"), (Str.ofString "facts"), (Str.ofString "passing"), (Str.ofString "failing"), (Str.ofString "fact"), (Str.ofString "told")],
  [(Str.ofString "condition"), (Str.ofString "facts"), (Str.ofString "passing"), (Str.ofString "failing"), (Str.ofString "first"), (Str.ofString "second")],
  [(Str.ofString "question"), (Str.ofString "facts"), (Str.ofString "q"), (Str.ofString "products"), (Str.ofString "told"), (Str.ofString "fact"), (Str.ofString "product")],
  [(Str.ofString "word"), (Str.ofString "facts"), (Str.ofString "most"), (Str.ofString "fact"), (Str.ofString "told")],
  [(Str.ofString "question"), (Str.ofString "facts"), (Str.ofString "total"), (Str.ofString "far"), (Str.ofString "word"), (Str.ofString "weight")],
  [(Str.ofString "facts"), (Str.ofString "least"), (Str.ofString "fact"), (Str.ofString "told")],
  [(Str.ofString "question"), (Str.ofString "facts")],
  [(Str.ofString "condition"), (Str.ofString "worth")],
  [(Str.ofString "a"), (Str.ofString "b")],
  [(Str.ofString "worth"), (Str.ofString "choices"), (Str.ofString "choice")],
  [(Str.ofString "worth")],
  [(Str.ofString "sign"), (Str.ofString "low"), (Str.ofString "high"), (Str.ofString "worth")],
  [(Str.ofString "condition"), (Str.ofString "field")],
  [(Str.ofString "_law_script"), (Str.ofString "_law_k"), (Str.ofString "_law_cell"), (Str.ofString "_law_a"), (Str.ofString "_law_b"), (Str.ofString "_law_c")],
  [(Str.ofString "_law_state"), (Str.ofString "_law_many"), (Str.ofString "_law_drawn")],
  [(Str.ofString "_law_state"), (Str.ofString "_law_size"), (Str.ofString "_law_spread"), (Str.ofString "_law_k")],
  [(Str.ofString "_law_a"), (Str.ofString "_law_b"), (Str.ofString "_law_total"), (Str.ofString "_law_k")],
  [(Str.ofString "_law_a"), (Str.ofString "_law_b"), (Str.ofString "_law_total"), (Str.ofString "_law_k")],
  [(Str.ofString "_law_a"), (Str.ofString "_law_b"), (Str.ofString "_law_k")],
  [(Str.ofString "_law_fact"), (Str.ofString "_law_start"), (Str.ofString "_law_centre"), (Str.ofString "_law_radius")],
  [(Str.ofString "_law_state"), (Str.ofString "_law_vector_here"), (Str.ofString "_law_others"), (Str.ofString "_law_parts"), (Str.ofString "_law_place"), (Str.ofString "_law_k"), (Str.ofString "_law_long"), (Str.ofString "_law_centre"), (Str.ofString "_law_radius"), (Str.ofString "_law_other"), (Str.ofString "_law_number")],
  [(Str.ofString "_law_state"), (Str.ofString "_law_vectors"), (Str.ofString "_law_kind"), (Str.ofString "_law_first"), (Str.ofString "_law_near"), (Str.ofString "_law_rival"), (Str.ofString "_law_vector_here"), (Str.ofString "_law_low"), (Str.ofString "_law_high"), (Str.ofString "_law_squares"), (Str.ofString "_law_centre"), (Str.ofString "_law_number"), (Str.ofString "_law_k")],
  [(Str.ofString "_law_state"), (Str.ofString "_law_pairs"), (Str.ofString "_law_worths"), (Str.ofString "_law_lack"), (Str.ofString "_law_worth"), (Str.ofString "_law_name")],
  [(Str.ofString "_law_state"), (Str.ofString "_law_name"), (Str.ofString "_law_pairs"), (Str.ofString "_law_words"), (Str.ofString "_law_kind"), (Str.ofString "_law_worths"), (Str.ofString "_law_lack"), (Str.ofString "_law_counts"), (Str.ofString "_law_field"), (Str.ofString "_law_worth"), (Str.ofString "_law_word"), (Str.ofString "_law_count")],
  [(Str.ofString "_law_state"), (Str.ofString "_law_thing_here"), (Str.ofString "_law_many"), (Str.ofString "_law_facts"), (Str.ofString "_law_k")],
  [(Str.ofString "_law_state"), (Str.ofString "_law_measure")],
  [(Str.ofString "_law_state"), (Str.ofString "_law_drawn"), (Str.ofString "_law_vector_here"), (Str.ofString "_law_k"), (Str.ofString "_law_pairs"), (Str.ofString "_law_words"), (Str.ofString "_law_word")],
  [(Str.ofString "_law_state"), (Str.ofString "_law_parts"), (Str.ofString "_law_text")],
  [(Str.ofString "_law_state"), (Str.ofString "_law_drawn"), (Str.ofString "_law_thing_here"), (Str.ofString "_law_words"), (Str.ofString "_law_near"), (Str.ofString "_law_schema"), (Str.ofString "_law_word"), (Str.ofString "_law_count")],
  [(Str.ofString "_law_script"), (Str.ofString "_law_state"), (Str.ofString "_law_turn"), (Str.ofString "_law_drawn"), (Str.ofString "_law_question_here"), (Str.ofString "_law_thing_here"), (Str.ofString "_law_record"), (Str.ofString "_law_facts"), (Str.ofString "_law_fact"), (Str.ofString "_law_bound")],
  [(Str.ofString "self"), (Str.ofString "name"), (Str.ofString "vector"), (Str.ofString "fields"), (Str.ofString "words"), (Str.ofString "field"), (Str.ofString "worth"), (Str.ofString "word"), (Str.ofString "count")],
  [(Str.ofString "self"), (Str.ofString "name"), (Str.ofString "field"), (Str.ofString "worth")],
  [(Str.ofString "self"), (Str.ofString "word"), (Str.ofString "other"), (Str.ofString "count")],
  [(Str.ofString "self"), (Str.ofString "record")],
  [(Str.ofString "self"), (Str.ofString "field")],
  [(Str.ofString "self"), (Str.ofString "record")],
  [(Str.ofString "self"), (Str.ofString "field"), (Str.ofString "sign"), (Str.ofString "value")],
  [(Str.ofString "self"), (Str.ofString "record"), (Str.ofString "worth")],
  [(Str.ofString "self"), (Str.ofString "field"), (Str.ofString "choices")],
  [(Str.ofString "self"), (Str.ofString "record"), (Str.ofString "worth"), (Str.ofString "choice")],
  [(Str.ofString "self"), (Str.ofString "a"), (Str.ofString "b")],
  [(Str.ofString "self"), (Str.ofString "record")],
  [(Str.ofString "self"), (Str.ofString "a"), (Str.ofString "b")],
  [(Str.ofString "self"), (Str.ofString "record")],
  [(Str.ofString "self"), (Str.ofString "a")],
  [(Str.ofString "self"), (Str.ofString "record")],
  [(Str.ofString "self"), (Str.ofString "size"), (Str.ofString "width"), (Str.ofString "measure"), (Str.ofString "fields"), (Str.ofString "names"), (Str.ofString "name"), (Str.ofString "kind")],
  [(Str.ofString "self")],
  [(Str.ofString "self")],
  [(Str.ofString "self"), (Str.ofString "name"), (Str.ofString "field"), (Str.ofString "kind")],
  [(Str.ofString "self"), (Str.ofString "a"), (Str.ofString "b")],
  [(Str.ofString "self"), (Str.ofString "vector"), (Str.ofString "number")],
  [(Str.ofString "self"), (Str.ofString "kind"), (Str.ofString "value"), (Str.ofString "place")],
  [(Str.ofString "self"), (Str.ofString "schema"), (Str.ofString "text")],
  [(Str.ofString "self")],
  [(Str.ofString "self"), (Str.ofString "kind"), (Str.ofString "value")],
  [(Str.ofString "self")],
  [(Str.ofString "self"), (Str.ofString "kind"), (Str.ofString "value")],
  [(Str.ofString "self")],
  [(Str.ofString "self"), (Str.ofString "condition")],
  [(Str.ofString "self"), (Str.ofString "condition")],
  [(Str.ofString "self"), (Str.ofString "condition")],
  [(Str.ofString "self"), (Str.ofString "name")],
  [(Str.ofString "self"), (Str.ofString "name"), (Str.ofString "sign")],
  [(Str.ofString "self"), (Str.ofString "name"), (Str.ofString "start"), (Str.ofString "values")],
  [(Str.ofString "self"), (Str.ofString "name"), (Str.ofString "token"), (Str.ofString "worth")],
  [(Str.ofString "self"), (Str.ofString "schema"), (Str.ofString "query")],
  [(Str.ofString "self"), (Str.ofString "record")],
  [(Str.ofString "self"), (Str.ofString "record"), (Str.ofString "total"), (Str.ofString "word"), (Str.ofString "weight")],
  [(Str.ofString "self"), (Str.ofString "cost"), (Str.ofString "name"), (Str.ofString "can")],
  [(Str.ofString "self"), (Str.ofString "vector"), (Str.ofString "near"), (Str.ofString "words"), (Str.ofString "text"), (Str.ofString "most"), (Str.ofString "word"), (Str.ofString "weight")],
  [(Str.ofString "self"), (Str.ofString "record")],
  [(Str.ofString "self"), (Str.ofString "q")],
  [(Str.ofString "self"), (Str.ofString "q")],
  [(Str.ofString "self"), (Str.ofString "q")],
  [(Str.ofString "self"), (Str.ofString "word")],
  [(Str.ofString "self")],
  [(Str.ofString "self"), (Str.ofString "condition")],
  [(Str.ofString "self"), (Str.ofString "field"), (Str.ofString "lack")],
  [(Str.ofString "self"), (Str.ofString "condition")],
  [(Str.ofString "self"), (Str.ofString "condition"), (Str.ofString "passing"), (Str.ofString "failing")],
  [(Str.ofString "self"), (Str.ofString "field"), (Str.ofString "low"), (Str.ofString "high"), (Str.ofString "lack")],
  [(Str.ofString "self"), (Str.ofString "record"), (Str.ofString "worth")],
  [(Str.ofString "self"), (Str.ofString "condition")],
  [(Str.ofString "self"), (Str.ofString "condition"), (Str.ofString "inside"), (Str.ofString "passing"), (Str.ofString "choice")],
  [(Str.ofString "self"), (Str.ofString "field"), (Str.ofString "choices"), (Str.ofString "lack")],
  [(Str.ofString "self"), (Str.ofString "record"), (Str.ofString "worth")],
  [(Str.ofString "self"), (Str.ofString "condition")],
  [(Str.ofString "self"), (Str.ofString "condition"), (Str.ofString "satisfying"), (Str.ofString "choice")],
  [(Str.ofString "self"), (Str.ofString "words"), (Str.ofString "word"), (Str.ofString "count")],
  [(Str.ofString "self"), (Str.ofString "word"), (Str.ofString "most"), (Str.ofString "other"), (Str.ofString "count")],
  [(Str.ofString "self"), (Str.ofString "word"), (Str.ofString "other"), (Str.ofString "_")],
  [(Str.ofString "self"), (Str.ofString "record"), (Str.ofString "word"), (Str.ofString "count")],
  [(Str.ofString "self"), (Str.ofString "low"), (Str.ofString "high")],
  [(Str.ofString "self")],
  [(Str.ofString "self"), (Str.ofString "record")],
  [(Str.ofString "self"), (Str.ofString "start"), (Str.ofString "centre"), (Str.ofString "radius")],
  [(Str.ofString "self")],
  [(Str.ofString "self"), (Str.ofString "vector")],
  [(Str.ofString "self"), (Str.ofString "parts")],
  [(Str.ofString "self"), (Str.ofString "q"), (Str.ofString "part")],
  [(Str.ofString "self"), (Str.ofString "record"), (Str.ofString "part")],
  [(Str.ofString "self"), (Str.ofString "end"), (Str.ofString "part")],
  [(Str.ofString "self"), (Str.ofString "size"), (Str.ofString "end"), (Str.ofString "part")],
  [(Str.ofString "self"), (Str.ofString "q"), (Str.ofString "total"), (Str.ofString "part")],
  [(Str.ofString "self"), (Str.ofString "q"), (Str.ofString "total"), (Str.ofString "part")],
  [(Str.ofString "self"), (Str.ofString "near"), (Str.ofString "rival")],
  [(Str.ofString "self"), (Str.ofString "q")],
  [(Str.ofString "self"), (Str.ofString "record"), (Str.ofString "vector")],
  [(Str.ofString "self"), (Str.ofString "q")],
  [(Str.ofString "self"), (Str.ofString "low"), (Str.ofString "high")],
  [(Str.ofString "self"), (Str.ofString "q")],
  [(Str.ofString "self"), (Str.ofString "record"), (Str.ofString "number"), (Str.ofString "low"), (Str.ofString "high")],
  [(Str.ofString "self"), (Str.ofString "q"), (Str.ofString "total"), (Str.ofString "number"), (Str.ofString "low"), (Str.ofString "high")],
  [(Str.ofString "self"), (Str.ofString "q"), (Str.ofString "total"), (Str.ofString "number"), (Str.ofString "low"), (Str.ofString "high")],
  [(Str.ofString "self"), (Str.ofString "low"), (Str.ofString "high")],
  [(Str.ofString "self"), (Str.ofString "record")],
  [(Str.ofString "self"), (Str.ofString "q"), (Str.ofString "length")],
  [(Str.ofString "self"), (Str.ofString "q")],
  [(Str.ofString "self"), (Str.ofString "centre"), (Str.ofString "most")],
  [(Str.ofString "self"), (Str.ofString "record"), (Str.ofString "same_size")],
  [(Str.ofString "self"), (Str.ofString "q")]]
def nms : Nms := ⟨fun i => anmL.getD i "", fun i => cnmL.getD i "", fun i => dnmL.getD i none, fun i => gnmL.getD i "", fun i => tnmL.getD i "", fun i => psL.getD i [], fun i => ksL.getD i []⟩
def stL : List Stmt := [top 9, top 13, top 27, top 28, top 29, top 30, top 31, top 32, top 33, top 39, top 40, top 41, top 42, top 48, top 49, top 50, top 51, top 52, top 53, top 54, top 59, top 62, top 66, top 67, top 68, top 69, top 70, top 71, top 72, top 78, top 79, top 80, top 81, top 82, top 84, top 98, top 99, top 100, top 101, top 102, top 103, top 104, top 105, top 106, top 107, top 108, top 109, top 110, top 111, top 112, top 113, top 114, inClass (top 11) 0, inClass (top 11) 1, inClass (top 11) 2, inClass (top 17) 0, inClass (top 18) 0, inClass (top 18) 1, inClass (top 19) 0, inClass (top 19) 1, inClass (top 20) 0, inClass (top 20) 1, inClass (top 21) 0, inClass (top 21) 1, inClass (top 22) 0, inClass (top 22) 1, inClass (top 23) 0, inClass (top 23) 1, inClass (top 44) 0, inClass (top 44) 1, inClass (top 44) 2, inClass (top 44) 3, inClass (top 44) 4, inClass (top 44) 5, inClass (top 47) 0, inClass (top 58) 0, inClass (top 58) 2, inClass (top 58) 3, inClass (top 58) 4, inClass (top 58) 5, inClass (top 58) 6, inClass (top 58) 7, inClass (top 58) 8, inClass (top 58) 9, inClass (top 58) 10, inClass (top 58) 11, inClass (top 58) 12, inClass (top 58) 13, inClass (top 63) 0, inClass (top 63) 1, inClass (top 63) 2, inClass (top 65) 0, inClass (top 74) 0, inClass (top 76) 0, inClass (top 76) 1, inClass (top 76) 2, inClass (top 76) 3, inClass (top 76) 4, inClass (top 76) 5, inClass (top 76) 6, inClass (top 85) 0, inClass (top 85) 1, inClass (top 85) 2, inClass (top 86) 0, inClass (top 86) 1, inClass (top 86) 2, inClass (top 86) 3, inClass (top 87) 0, inClass (top 87) 1, inClass (top 87) 2, inClass (top 87) 3, inClass (top 88) 0, inClass (top 88) 1, inClass (top 88) 2, inClass (top 88) 3, inClass (top 89) 0, inClass (top 89) 1, inClass (top 89) 2, inClass (top 91) 0, inClass (top 91) 1, inClass (top 91) 2, inClass (top 92) 0, inClass (top 92) 1, inClass (top 92) 2, inClass (top 92) 3, inClass (top 92) 4, inClass (top 92) 5, inClass (top 92) 6, inClass (top 93) 0, inClass (top 93) 1, inClass (top 93) 2, inClass (top 93) 3, inClass (top 94) 0, inClass (top 94) 1, inClass (top 94) 2, inClass (top 94) 3, inClass (top 94) 4, inClass (top 95) 0, inClass (top 95) 1, inClass (top 95) 2, inClass (top 95) 3, inClass (top 96) 0, inClass (top 96) 1, inClass (top 96) 2]
def stT (d : Nat) : Stmt := stL.getD d (.Pass ⟨0, 0, 0, 0⟩)
inductive At where | top (x : Str) | meth (C m : Str) | prop (C m : Str)
def atL : List (At × Str × Str) := [(.top (Str.ofString "same_value"), (Str.ofString "same_value"), (Str.ofString "same_value")),
  (.top (Str.ofString "compare"), (Str.ofString "compare"), (Str.ofString "compare")),
  (.top (Str.ofString "root"), (Str.ofString "root"), (Str.ofString "root")),
  (.top (Str.ofString "inner"), (Str.ofString "inner"), (Str.ofString "inner")),
  (.top (Str.ofString "distance"), (Str.ofString "distance"), (Str.ofString "distance")),
  (.top (Str.ofString "differing"), (Str.ofString "differing"), (Str.ofString "differing")),
  (.top (Str.ofString "norm"), (Str.ofString "norm"), (Str.ofString "norm")),
  (.top (Str.ofString "gap"), (Str.ofString "gap"), (Str.ofString "gap")),
  (.top (Str.ofString "split"), (Str.ofString "split"), (Str.ofString "split")),
  (.top (Str.ofString "is_letter"), (Str.ofString "is_letter"), (Str.ofString "is_letter")),
  (.top (Str.ofString "is_digit"), (Str.ofString "is_digit"), (Str.ofString "is_digit")),
  (.top (Str.ofString "is_field_name"), (Str.ofString "is_field_name"), (Str.ofString "is_field_name")),
  (.top (Str.ofString "kind_of_value"), (Str.ofString "kind_of_value"), (Str.ofString "kind_of_value")),
  (.top (Str.ofString "end_of_word"), (Str.ofString "end_of_word"), (Str.ofString "end_of_word")),
  (.top (Str.ofString "end_of_digits"), (Str.ofString "end_of_digits"), (Str.ofString "end_of_digits")),
  (.top (Str.ofString "read_integer"), (Str.ofString "read_integer"), (Str.ofString "read_integer")),
  (.top (Str.ofString "read_quoted"), (Str.ofString "read_quoted"), (Str.ofString "read_quoted")),
  (.top (Str.ofString "read_sign"), (Str.ofString "read_sign"), (Str.ofString "read_sign")),
  (.top (Str.ofString "read_token"), (Str.ofString "read_token"), (Str.ofString "read_token")),
  (.top (Str.ofString "read_tokens"), (Str.ofString "read_tokens"), (Str.ofString "read_tokens")),
  (.top (Str.ofString "read_filter"), (Str.ofString "read_filter"), (Str.ofString "read_filter")),
  (.top (Str.ofString "check_query"), (Str.ofString "check_query"), (Str.ofString "check_query")),
  (.top (Str.ofString "outcomes_of"), (Str.ofString "outcomes_of"), (Str.ofString "outcomes_of")),
  (.top (Str.ofString "can_pass"), (Str.ofString "can_pass"), (Str.ofString "can_pass")),
  (.top (Str.ofString "least_far"), (Str.ofString "least_far"), (Str.ofString "least_far")),
  (.top (Str.ofString "most_count"), (Str.ofString "most_count"), (Str.ofString "most_count")),
  (.top (Str.ofString "least_cost"), (Str.ofString "least_cost"), (Str.ofString "least_cost")),
  (.top (Str.ofString "least_name"), (Str.ofString "least_name"), (Str.ofString "least_name")),
  (.top (Str.ofString "bound_of"), (Str.ofString "bound_of"), (Str.ofString "bound_of")),
  (.top (Str.ofString "satisfies"), (Str.ofString "satisfies"), (Str.ofString "satisfies")),
  (.top (Str.ofString "same_kind"), (Str.ofString "same_kind"), (Str.ofString "same_kind")),
  (.top (Str.ofString "is_one_of"), (Str.ofString "is_one_of"), (Str.ofString "is_one_of")),
  (.top (Str.ofString "is_integer"), (Str.ofString "is_integer"), (Str.ofString "is_integer")),
  (.top (Str.ofString "range_passes"), (Str.ofString "range_passes"), (Str.ofString "range_passes")),
  (.top (Str.ofString "is_about"), (Str.ofString "is_about"), (Str.ofString "is_about")),
  (.top (Str.ofString "_law_row"), (Str.ofString "_law_row"), (Str.ofString "_law_row")),
  (.top (Str.ofString "_law_next"), (Str.ofString "_law_next"), (Str.ofString "_law_next")),
  (.top (Str.ofString "_law_vector"), (Str.ofString "_law_vector"), (Str.ofString "_law_vector")),
  (.top (Str.ofString "_law_distance"), (Str.ofString "_law_distance"), (Str.ofString "_law_distance")),
  (.top (Str.ofString "_law_inner"), (Str.ofString "_law_inner"), (Str.ofString "_law_inner")),
  (.top (Str.ofString "_law_differing"), (Str.ofString "_law_differing"), (Str.ofString "_law_differing")),
  (.top (Str.ofString "_law_made"), (Str.ofString "_law_made"), (Str.ofString "_law_made")),
  (.top (Str.ofString "_law_true_parts"), (Str.ofString "_law_true_parts"), (Str.ofString "_law_true_parts")),
  (.top (Str.ofString "_law_true_fact"), (Str.ofString "_law_true_fact"), (Str.ofString "_law_true_fact")),
  (.top (Str.ofString "_law_true_range"), (Str.ofString "_law_true_range"), (Str.ofString "_law_true_range")),
  (.top (Str.ofString "_law_true_content"), (Str.ofString "_law_true_content"), (Str.ofString "_law_true_content")),
  (.top (Str.ofString "_law_true_facts"), (Str.ofString "_law_true_facts"), (Str.ofString "_law_true_facts")),
  (.top (Str.ofString "_law_schema_of"), (Str.ofString "_law_schema_of"), (Str.ofString "_law_schema_of")),
  (.top (Str.ofString "_law_thing"), (Str.ofString "_law_thing"), (Str.ofString "_law_thing")),
  (.top (Str.ofString "_law_text_of"), (Str.ofString "_law_text_of"), (Str.ofString "_law_text_of")),
  (.top (Str.ofString "_law_question"), (Str.ofString "_law_question"), (Str.ofString "_law_question")),
  (.top (Str.ofString "law"), (Str.ofString "law"), (Str.ofString "law")),
  (.meth (Str.ofString "Record") (Str.ofString "__init__"), (Str.ofString "__init__"), (Str.ofString "Record.__init__")),
  (.meth (Str.ofString "Record") (Str.ofString "value"), (Str.ofString "value"), (Str.ofString "Record.value")),
  (.meth (Str.ofString "Record") (Str.ofString "count_of"), (Str.ofString "count_of"), (Str.ofString "Record.count_of")),
  (.meth (Str.ofString "Every") (Str.ofString "passes"), (Str.ofString "passes"), (Str.ofString "Every.passes")),
  (.meth (Str.ofString "Has") (Str.ofString "__init__"), (Str.ofString "__init__"), (Str.ofString "Has.__init__")),
  (.meth (Str.ofString "Has") (Str.ofString "passes"), (Str.ofString "passes"), (Str.ofString "Has.passes")),
  (.meth (Str.ofString "Compare") (Str.ofString "__init__"), (Str.ofString "__init__"), (Str.ofString "Compare.__init__")),
  (.meth (Str.ofString "Compare") (Str.ofString "passes"), (Str.ofString "passes"), (Str.ofString "Compare.passes")),
  (.meth (Str.ofString "OneOf") (Str.ofString "__init__"), (Str.ofString "__init__"), (Str.ofString "OneOf.__init__")),
  (.meth (Str.ofString "OneOf") (Str.ofString "passes"), (Str.ofString "passes"), (Str.ofString "OneOf.passes")),
  (.meth (Str.ofString "Both") (Str.ofString "__init__"), (Str.ofString "__init__"), (Str.ofString "Both.__init__")),
  (.meth (Str.ofString "Both") (Str.ofString "passes"), (Str.ofString "passes"), (Str.ofString "Both.passes")),
  (.meth (Str.ofString "Either") (Str.ofString "__init__"), (Str.ofString "__init__"), (Str.ofString "Either.__init__")),
  (.meth (Str.ofString "Either") (Str.ofString "passes"), (Str.ofString "passes"), (Str.ofString "Either.passes")),
  (.meth (Str.ofString "Negation") (Str.ofString "__init__"), (Str.ofString "__init__"), (Str.ofString "Negation.__init__")),
  (.meth (Str.ofString "Negation") (Str.ofString "passes"), (Str.ofString "passes"), (Str.ofString "Negation.passes")),
  (.meth (Str.ofString "Schema") (Str.ofString "__init__"), (Str.ofString "__init__"), (Str.ofString "Schema.__init__")),
  (.prop (Str.ofString "Schema") (Str.ofString "least"), (Str.ofString "least"), (Str.ofString "Schema.least")),
  (.prop (Str.ofString "Schema") (Str.ofString "greatest"), (Str.ofString "greatest"), (Str.ofString "Schema.greatest")),
  (.meth (Str.ofString "Schema") (Str.ofString "kind_of"), (Str.ofString "kind_of"), (Str.ofString "Schema.kind_of")),
  (.meth (Str.ofString "Schema") (Str.ofString "far"), (Str.ofString "far"), (Str.ofString "Schema.far")),
  (.meth (Str.ofString "Schema") (Str.ofString "has_vector"), (Str.ofString "has_vector"), (Str.ofString "Schema.has_vector")),
  (.meth (Str.ofString "Token") (Str.ofString "__init__"), (Str.ofString "__init__"), (Str.ofString "Token.__init__")),
  (.meth (Str.ofString "Reader") (Str.ofString "__init__"), (Str.ofString "__init__"), (Str.ofString "Reader.__init__")),
  (.meth (Str.ofString "Reader") (Str.ofString "place"), (Str.ofString "place"), (Str.ofString "Reader.place")),
  (.meth (Str.ofString "Reader") (Str.ofString "sees"), (Str.ofString "sees"), (Str.ofString "Reader.sees")),
  (.meth (Str.ofString "Reader") (Str.ofString "word"), (Str.ofString "word"), (Str.ofString "Reader.word")),
  (.meth (Str.ofString "Reader") (Str.ofString "skip"), (Str.ofString "skip"), (Str.ofString "Reader.skip")),
  (.meth (Str.ofString "Reader") (Str.ofString "open_part"), (Str.ofString "open_part"), (Str.ofString "Reader.open_part")),
  (.meth (Str.ofString "Reader") (Str.ofString "whole"), (Str.ofString "whole"), (Str.ofString "Reader.whole")),
  (.meth (Str.ofString "Reader") (Str.ofString "conditions"), (Str.ofString "conditions"), (Str.ofString "Reader.conditions")),
  (.meth (Str.ofString "Reader") (Str.ofString "condition"), (Str.ofString "condition"), (Str.ofString "Reader.condition")),
  (.meth (Str.ofString "Reader") (Str.ofString "field"), (Str.ofString "field"), (Str.ofString "Reader.field")),
  (.meth (Str.ofString "Reader") (Str.ofString "about"), (Str.ofString "about"), (Str.ofString "Reader.about")),
  (.meth (Str.ofString "Reader") (Str.ofString "choice"), (Str.ofString "choice"), (Str.ofString "Reader.choice")),
  (.meth (Str.ofString "Reader") (Str.ofString "value"), (Str.ofString "value"), (Str.ofString "Reader.value")),
  (.meth (Str.ofString "Question") (Str.ofString "__init__"), (Str.ofString "__init__"), (Str.ofString "Question.__init__")),
  (.meth (Str.ofString "Question") (Str.ofString "passes"), (Str.ofString "passes"), (Str.ofString "Question.passes")),
  (.meth (Str.ofString "Question") (Str.ofString "cost"), (Str.ofString "cost"), (Str.ofString "Question.cost")),
  (.meth (Str.ofString "Bound") (Str.ofString "__init__"), (Str.ofString "__init__"), (Str.ofString "Bound.__init__")),
  (.meth (Str.ofString "Query") (Str.ofString "__init__"), (Str.ofString "__init__"), (Str.ofString "Query.__init__")),
  (.meth (Str.ofString "Fact") (Str.ofString "holds"), (Str.ofString "holds"), (Str.ofString "Fact.holds")),
  (.meth (Str.ofString "Fact") (Str.ofString "least_distance"), (Str.ofString "least_distance"), (Str.ofString "Fact.least_distance")),
  (.meth (Str.ofString "Fact") (Str.ofString "least_differing"), (Str.ofString "least_differing"), (Str.ofString "Fact.least_differing")),
  (.meth (Str.ofString "Fact") (Str.ofString "most_product"), (Str.ofString "most_product"), (Str.ofString "Fact.most_product")),
  (.meth (Str.ofString "Fact") (Str.ofString "count_bound"), (Str.ofString "count_bound"), (Str.ofString "Fact.count_bound")),
  (.meth (Str.ofString "Fact") (Str.ofString "name_bound"), (Str.ofString "name_bound"), (Str.ofString "Fact.name_bound")),
  (.meth (Str.ofString "Fact") (Str.ofString "outcomes"), (Str.ofString "outcomes"), (Str.ofString "Fact.outcomes")),
  (.meth (Str.ofString "FieldFact") (Str.ofString "__init__"), (Str.ofString "__init__"), (Str.ofString "FieldFact.__init__")),
  (.meth (Str.ofString "FieldFact") (Str.ofString "outcomes_of_present"), (Str.ofString "outcomes_of_present"), (Str.ofString "FieldFact.outcomes_of_present")),
  (.meth (Str.ofString "FieldFact") (Str.ofString "field_outcomes"), (Str.ofString "field_outcomes"), (Str.ofString "FieldFact.field_outcomes")),
  (.meth (Str.ofString "Range") (Str.ofString "__init__"), (Str.ofString "__init__"), (Str.ofString "Range.__init__")),
  (.meth (Str.ofString "Range") (Str.ofString "holds"), (Str.ofString "holds"), (Str.ofString "Range.holds")),
  (.meth (Str.ofString "Range") (Str.ofString "outcomes"), (Str.ofString "outcomes"), (Str.ofString "Range.outcomes")),
  (.meth (Str.ofString "Range") (Str.ofString "outcomes_of_present"), (Str.ofString "outcomes_of_present"), (Str.ofString "Range.outcomes_of_present")),
  (.meth (Str.ofString "Values") (Str.ofString "__init__"), (Str.ofString "__init__"), (Str.ofString "Values.__init__")),
  (.meth (Str.ofString "Values") (Str.ofString "holds"), (Str.ofString "holds"), (Str.ofString "Values.holds")),
  (.meth (Str.ofString "Values") (Str.ofString "outcomes"), (Str.ofString "outcomes"), (Str.ofString "Values.outcomes")),
  (.meth (Str.ofString "Values") (Str.ofString "outcomes_of_present"), (Str.ofString "outcomes_of_present"), (Str.ofString "Values.outcomes_of_present")),
  (.meth (Str.ofString "Counts") (Str.ofString "__init__"), (Str.ofString "__init__"), (Str.ofString "Counts.__init__")),
  (.meth (Str.ofString "Counts") (Str.ofString "count_bound"), (Str.ofString "count_bound"), (Str.ofString "Counts.count_bound")),
  (.meth (Str.ofString "Counts") (Str.ofString "names_word"), (Str.ofString "names_word"), (Str.ofString "Counts.names_word")),
  (.meth (Str.ofString "Counts") (Str.ofString "holds"), (Str.ofString "holds"), (Str.ofString "Counts.holds")),
  (.meth (Str.ofString "Names") (Str.ofString "__init__"), (Str.ofString "__init__"), (Str.ofString "Names.__init__")),
  (.meth (Str.ofString "Names") (Str.ofString "name_bound"), (Str.ofString "name_bound"), (Str.ofString "Names.name_bound")),
  (.meth (Str.ofString "Names") (Str.ofString "holds"), (Str.ofString "holds"), (Str.ofString "Names.holds")),
  (.meth (Str.ofString "Part") (Str.ofString "__init__"), (Str.ofString "__init__"), (Str.ofString "Part.__init__")),
  (.prop (Str.ofString "Part") (Str.ofString "after"), (Str.ofString "after"), (Str.ofString "Part.after")),
  (.meth (Str.ofString "Part") (Str.ofString "cut"), (Str.ofString "cut"), (Str.ofString "Part.cut")),
  (.meth (Str.ofString "Parts") (Str.ofString "__init__"), (Str.ofString "__init__"), (Str.ofString "Parts.__init__")),
  (.meth (Str.ofString "Parts") (Str.ofString "fits"), (Str.ofString "fits"), (Str.ofString "Parts.fits")),
  (.meth (Str.ofString "Parts") (Str.ofString "holds"), (Str.ofString "holds"), (Str.ofString "Parts.holds")),
  (.meth (Str.ofString "Parts") (Str.ofString "apart"), (Str.ofString "apart"), (Str.ofString "Parts.apart")),
  (.meth (Str.ofString "Parts") (Str.ofString "covers"), (Str.ofString "covers"), (Str.ofString "Parts.covers")),
  (.meth (Str.ofString "Parts") (Str.ofString "least_distance"), (Str.ofString "least_distance"), (Str.ofString "Parts.least_distance")),
  (.meth (Str.ofString "Parts") (Str.ofString "most_product"), (Str.ofString "most_product"), (Str.ofString "Parts.most_product")),
  (.meth (Str.ofString "Cell") (Str.ofString "__init__"), (Str.ofString "__init__"), (Str.ofString "Cell.__init__")),
  (.meth (Str.ofString "Cell") (Str.ofString "fits"), (Str.ofString "fits"), (Str.ofString "Cell.fits")),
  (.meth (Str.ofString "Cell") (Str.ofString "holds"), (Str.ofString "holds"), (Str.ofString "Cell.holds")),
  (.meth (Str.ofString "Cell") (Str.ofString "least_distance"), (Str.ofString "least_distance"), (Str.ofString "Cell.least_distance")),
  (.meth (Str.ofString "Box") (Str.ofString "__init__"), (Str.ofString "__init__"), (Str.ofString "Box.__init__")),
  (.meth (Str.ofString "Box") (Str.ofString "fits"), (Str.ofString "fits"), (Str.ofString "Box.fits")),
  (.meth (Str.ofString "Box") (Str.ofString "holds"), (Str.ofString "holds"), (Str.ofString "Box.holds")),
  (.meth (Str.ofString "Box") (Str.ofString "least_distance"), (Str.ofString "least_distance"), (Str.ofString "Box.least_distance")),
  (.meth (Str.ofString "Box") (Str.ofString "most_product"), (Str.ofString "most_product"), (Str.ofString "Box.most_product")),
  (.meth (Str.ofString "Norms") (Str.ofString "__init__"), (Str.ofString "__init__"), (Str.ofString "Norms.__init__")),
  (.meth (Str.ofString "Norms") (Str.ofString "holds"), (Str.ofString "holds"), (Str.ofString "Norms.holds")),
  (.meth (Str.ofString "Norms") (Str.ofString "least_distance"), (Str.ofString "least_distance"), (Str.ofString "Norms.least_distance")),
  (.meth (Str.ofString "Norms") (Str.ofString "most_product"), (Str.ofString "most_product"), (Str.ofString "Norms.most_product")),
  (.meth (Str.ofString "Differ") (Str.ofString "__init__"), (Str.ofString "__init__"), (Str.ofString "Differ.__init__")),
  (.meth (Str.ofString "Differ") (Str.ofString "holds"), (Str.ofString "holds"), (Str.ofString "Differ.holds")),
  (.meth (Str.ofString "Differ") (Str.ofString "least_differing"), (Str.ofString "least_differing"), (Str.ofString "Differ.least_differing"))]
end K24
namespace K24
open PySem PySem.Spec PyProof.Rows L2 ClX RZ
open He (eqO ba relB FnW keysIn dicW)
def entG (g : Addr → Option Obj) (a : Nat) (x : Str) : Nat := match g a with
  | some ⟨_, _, .dict es _, _⟩ => (match es.toList.find? (·.key.isStr x) with
    | some e => (match e.val with
      | .ref b => b
      | _ => 0)
    | none => 0)
  | _ => 0
def nsG (g : Addr → Option Obj) (a : Nat) : Nat := match g a with
  | some ⟨_, _, .cls cd, _⟩ => cd.ns
  | _ => 0
def prG (g : Addr → Option Obj) (a : Nat) : Nat := match g a with
  | some ⟨_, _, .fields vs, _⟩ => (match vs.toList with
    | .ref b :: _ => b
    | _ => 0)
  | _ => 0
def cdG (g : Addr → Option Obj) (a : Nat) : Nat := match g a with
  | some ⟨_, _, .func fd, _⟩ => (match fd.code with
    | .ref b => b
    | _ => 0)
  | _ => 0
/-- a property's record -/
def recG (g : Addr → Option Obj) : At → Nat
  | .prop C m => entG g (nsG g (entG g mainGlobals C)) m
  | _ => 0
def adrG (g : Addr → Option Obj) : At → Nat
  | .top x => entG g mainGlobals x
  | .meth C m => entG g (nsG g (entG g mainGlobals C)) m
  | .prop C m => prG g (entG g (nsG g (entG g mainGlobals C)) m)
def kidsG (g : Addr → Option Obj) (a : Nat) : List Nat := match g a with
  | some ⟨_, _, .dict es _, _⟩ => es.toList.flatMap fun e => He.refV e.val
  | _ => []
def frL {β : Type} : List Nat → (List Nat → β) → β
  | [], k => k []
  | a :: r, k => HandSHeadRun.frNat a fun a => frL r fun r => k (a :: r)
def frP {β : Type} (g : Addr → Option Obj) : List Nat → (PySem.W.Frag → β) → β
  | [], k => k []
  | a :: r, k => match g a with
    | none => frP g r k
    | some ⟨c, d, dt, sl⟩ => HandSHeadRun.frNat a fun a => frP g r fun K => k ((a, ⟨c, d, dt, sl⟩) :: K)
def whD (d : Nat) : At × Str × Str := atL.getD d (.top "", "", "")
def fnG (g : Addr → Option Obj) (a : Nat) : FnW := match g a with
  | some ⟨_, _, .func fd, _⟩ => some (fd.name, fd.qualname, fd.params, fd.body, fd.scope, fd.globals, fd.closure, fd.builtins)
  | _ => none
def fnVal (p : At × Str × Str) (d : Nat) : FnW := some (p.2.1, p.2.2, defArgs (stT d), .stmts (defBody (stT d)), defScope (stT d), mainGlobals, [], builtinsNs)
def fnVals : Nat → List (At × Str × Str) → List FnW
  | _, [] => []
  | n, p :: r => fnVal p n :: fnVals (n + 1) r
/-- its code's name, no defaults -/
def fnB (g : Addr → Option Obj) (a : Nat) (q : Str) : Bool := match g a with
  | some ⟨_, _, .func fd, _⟩ => (match fd.defaults with
    | .none => (match fd.code with
      | .ref c => (match g c with
        | some ⟨_, _, .fields vs, _⟩ => (match vs.toList with
          | _ :: .str n _ :: _ => decide (n = q)
          | _ => false)
        | _ => false)
      | _ => false)
    | _ => false)
  | _ => false
def fnAll (g : Addr → Option Obj) : List Nat → List (At × Str × Str) → Bool
  | [], [] => true
  | a :: as, p :: r => fnB g a p.2.2 && fnAll g as r
  | _, _ => false
/-- its code's name, where it has no defaults -/
def fnC (g : Addr → Option Obj) (a : Nat) : Option Str := match g a with
  | some ⟨_, _, .func fd, _⟩ => (match fd.defaults with
    | .none => (match fd.code with
      | .ref c => (match g c with
        | some ⟨_, _, .fields vs, _⟩ => (match vs.toList with
          | _ :: .str n _ :: _ => some n
          | _ => none)
        | _ => none)
      | _ => none)
    | _ => none)
  | _ => none
def cfB (r : Option PySem.W.CFound) (f : Addr) : Bool := match r with
  | some (.val (.ref a)) => decide (a = f)
  | _ => false
def mkB (K : PySem.W.Frag) (C f : Addr) : Bool := PySem.W.makesIn K C && (eqO (PySem.W.findIn K (.ref C) "__init__") (some (some (.ref f))) && (PySem.W.isFn K (.ref f) && (PySem.W.keepIn K (.ref C) && (PySem.W.keepIn K (.ref f) &&
  (PySem.W.readsIn K C (.type "type") && (eqO (PySem.W.specialIn K (.ref C) "__getattribute__") (some (some (.builtin "type.__getattribute__"))) && cfB (PySem.W.findCls K (.ref C) (.type "type") "__init__") f))))))
def mk0B (K : PySem.W.Frag) (C : Addr) : Bool := PySem.W.makesIn K C && (eqO (PySem.W.findIn K (.ref C) "__init__") (some (some (.builtin "object.__init__"))) && PySem.W.keepIn K (.ref C))
def methB (K : PySem.W.Frag) (C : Addr) (m : Str) (f : Addr) : Bool := eqO (PySem.W.findIn K (.ref C) m) (some (some (.ref f))) && (PySem.W.isFn K (.ref f) && PySem.W.keepIn K (.ref f))
def propB (K : PySem.W.Frag) (C : Addr) (m : Str) (f : Addr) : Bool := match PySem.W.findIn K (.ref C) m with
  | some (some (.ref p)) => eqO (PySem.W.specialIn K (.ref p) "__get__") (some (some (.builtin "property.__get__"))) && (decide (PySem.W.takesIn K (.ref p) = some true) && (match PySem.W.recIn K p "property" with
    | some (.ref g :: _) => decide (g = f)
    | _ => false))
  | _ => false
def plB (K : PySem.W.Frag) (C : Addr) : Bool := PySem.W.plainGet K C Str.empty && (PySem.W.hasDictIn K C && (PySem.W.plainOver K C && eqO (PySem.W.findIn K (.ref C) "__setattr__") (some (some (.builtin "object.__setattr__")))))
def clsB (K : PySem.W.Frag) (fas : List Nat) (x : Str) (C : Nat) (ci : ClsI) : Bool := eqO (PySem.W.nsIn K mainGlobals x) (some (some (.ref C))) && (plB K C && ((match ci.init with
    | some d => mkB K C (fas.getD d 0)
    | none => mk0B K C) &&
  ((ci.flds.all fun f => eqO (PySem.W.findIn K (.ref C) (nms.anm f)) (some none)) && ((ci.meths.all fun p => methB K C (nms.anm p.1) (fas.getD p.2 0)) && ci.props.all fun p => propB K C (nms.anm p.1) (fas.getD p.2 0)))))
def clsAll (K : PySem.W.Frag) (fas : List Nat) : List Str → List Nat → List ClsI → Bool
  | [], [], [] => true
  | x :: xs, C :: Cs, ci :: r => clsB K fas x C ci && clsAll K fas xs Cs r
  | _, _, _ => false
def flatB (x : D) (u : Value) : Bool := match x with
  | .int i => (match u with | .int j _ => decide (j = i) | _ => false)
  | .str l => (match u with | .str y _ => decide (y = ⟨l.toArray⟩) | _ => false)
  | _ => false
def flatAll : List D → List Value → Bool
  | [], [] => true
  | d :: ds, u :: us => flatB d u && flatAll ds us
  | _, _ => false
def dB (K : PySem.W.Frag) (x : D) (u : Value) : Bool := match x with
  | .tup ds => (match u with
    | .ref a => (match K.lookup a with
      | some ⟨.type c, _, .seq its _, _⟩ => decide (c = "tuple") && (decide (its.size ≤ sizeLine) && flatAll ds its.toList)
      | _ => false)
    | _ => false)
  | x => flatB x u
def nsB (K : PySem.W.Frag) (a : Addr) (k : Str) (x : D) : Bool := match PySem.W.nsIn K a k with
  | some (some u) => dB K x u
  | _ => false
def globAll (K : PySem.W.Frag) : List Str → List D → Bool
  | [], [] => true
  | x :: xs, v :: r => nsB K mainGlobals x v && globAll K xs r
  | _, _ => false
def dictAll (K : PySem.W.Frag) : List Str → List Nat → List (List (List Nat × D)) → Bool
  | [], [], [] => true
  | x :: xs, a :: as, kvs :: r => (eqO (PySem.W.nsIn K mainGlobals x) (some (some (.ref a))) && kvs.all fun q => nsB K a ⟨q.1.toArray⟩ q.2) && dictAll K xs as r
  | _, _, _ => false
def topAll (K : PySem.W.Frag) : List (Option Str) → List Nat → Bool
  | [], [] => true
  | none :: r, _ :: as => topAll K r as
  | some x :: r, a :: as => eqO (PySem.W.nsIn K mainGlobals x) (some (some (.ref a))) && topAll K r as
  | _, _ => false
def isB (K : PySem.W.Frag) (C : Nat) : Bool := eqO (PySem.W.findIn K (.ref C) "__class__") (some (some (.builtin "object.__class__"))) && (eqO (PySem.W.specialIn K (.builtin "object.__class__") "__get__") (some (some (.builtin "getset_descriptor.__get__"))) &&
  (decide (PySem.W.takesIn K (.builtin "object.__class__") = some true) && decide (PySem.W.mroIn K C (.type "object") = some true)))
def kitB (K : PySem.W.Frag) (cas : List Nat) : Bool := prog.conds.all fun k => prog.conds.all fun c => decide (PySem.W.kitOne K (.ref (cas.getD k 0)) (.ref (cas.getD c 0)) = some (Nat.beq k c))
def freeL : List Str := ["len", "int", "tuple", "list", "min", "max", "isinstance", "range", "zip", "bool", "str"]
def okB (K : PySem.W.Frag) (cas fas das : List Nat) : Bool := clsAll K fas cnmL cas prog.cls && (globAll K gnmL prog.globs && (dictAll K tnmL das prog.dicts && (topAll K dnmL fas && ((prog.conds.all fun k => isB K (cas.getD k 0)) && (kitB K cas && freeL.all fun x => eqO (PySem.W.nsIn K mainGlobals x) (some none))))))
abbrev AlK : Type := Bool × List FnW × List (Option (List (Option (Str × Int))))
def dkeys (kvs : List (List Nat × D)) : List Str := kvs.map fun q => ⟨q.1.toArray⟩
def lisK (cas xs ns ts das fas ps cds : List Nat) : List Nat := mainGlobals :: (cas ++ (xs ++ (ns ++ (PySem.cStatics :: (das ++ (ts ++ (fas ++ (ps ++ cds))))))))
def addK {β : Type} (g : Addr → Option Obj) (k : List Nat → List Nat → List Nat → List Nat → β) : β :=
  frL (cnmL.map (entG g mainGlobals)) fun cas => frL [entG g mainGlobals "Fact", entG g mainGlobals "Condition"] fun xs => frL ((cas ++ xs).map (nsG g)) fun ns => frL (tnmL.map (entG g mainGlobals)) fun das => frL (gnmL.map (entG g mainGlobals) ++ das.flatMap (kidsG g)) fun ts =>
    frL (atL.map fun p => adrG g p.1) fun fas => frL (atL.map fun p => recG g p.1) fun ps => frL (fas.map (cdG g)) fun cds => k cas fas das (lisK cas xs ns ts das fas (ps.filter fun a => !Nat.beq a 0) cds)
end K24
namespace K24
open PySem PySem.Spec PyProof.Rows L2
open HandSHeadRun PySem.W
abbrev R : PySem.W.OpenRow := PySem.W.OpenLaw.row PySem.Challenge.rw_surenear_k24_whole_bounds_are_safe
def looseL : List PySem.Str := (R.prog.main.scope.names.map (·.1)).filter (fun x => x != ("law" : PySem.Str))
abbrev qV : Program := PySem.W.view R.prog [114]
noncomputable def zR (os : OsState) (w : World) : Option SharedT := endF (stepQ (denQ tabQ) R.prog w) 20000 R.prog w os
noncomputable def fA (w : World) (s : SharedT) := (looksF R.prog (boot_heap w.params) s.abs, seenQ qV looseL (importedModules R.prog.main.body) (fun s => xlAt qV [] s && recOk R.toRowW.records s) s.abs)
noncomputable def fB (s : SharedT) : Bool := addK (getT s) fun cas fas das as => frP (getT s) as fun K => okB K cas fas das
noncomputable def fC (s : SharedT) := addK (getT s) fun cas fas das as => frP (getT s) as fun K => (fas.map (fnC (getT s)), fas.map (fnG (getT s)), das.map fun a => He.dicW K a)
def vC (w : World) := (atL.map fun p => some p.2.2, fnVals 0 atL, prog.dicts.map fun kvs => some (He.keysIn w.params (dkeys kvs)))
def RA (os : OsState) (w : World) : Prop := (zR os w).map (fA w) = some (true, openGood qV looseL)
def RB (os : OsState) (w : World) : Prop := (zR os w).map fB = some true
def RC (os : OsState) (w : World) : Prop := (zR os w).map fC = some (vC w)
end K24
/-! K24Run: the top, run by the kernel. -/
set_option Elab.async false
set_option linter.all false
set_option maxRecDepth 100000
set_option maxHeartbeats 0
namespace K24
open PySem PySem.Spec PyProof.Rows L2
open HandSHeadRun PySem.W
theorem topA0 (os : OsState) (w : World) : RA os (w.withFollow "special-get-raises" false) := by
  unfold RA
  kernel_rfl
theorem topA1 (os : OsState) (w : World) : RA os (w.withFollow "special-get-raises" true) := by
  unfold RA
  kernel_rfl
theorem topB0 (os : OsState) (w : World) : RB os (w.withFollow "special-get-raises" false) := by
  unfold RB
  kernel_rfl
theorem topB1 (os : OsState) (w : World) : RB os (w.withFollow "special-get-raises" true) := by
  unfold RB
  kernel_rfl
theorem topC0 (os : OsState) (w : World) : RC os (w.withFollow "special-get-raises" false) := by
  unfold RC
  kernel_rfl
theorem topC1 (os : OsState) (w : World) : RC os (w.withFollow "special-get-raises" true) := by
  unfold RC
  kernel_rfl
theorem topA (os : OsState) (w : World) : RA os w := byRow2 "special-get-raises" (fun w => topA0 os w) (fun w => topA1 os w) w
theorem topB (os : OsState) (w : World) : RB os w := byRow2 "special-get-raises" (fun w => topB0 os w) (fun w => topB1 os w) w
theorem topC (os : OsState) (w : World) : RC os w := byRow2 "special-get-raises" (fun w => topC0 os w) (fun w => topC1 os w) w
end K24
/-! K24Rel: how data trees and abstract objects stand in HandS's abstract heap. -/
set_option Elab.async false
set_option linter.all false
set_option maxRecDepth 100000
namespace K24
open PySem L2

/-- where the text's classes and defs stand -/
structure Lay where
  cadr : Nat → Addr
  fadr : Nat → Addr
  ffd : Nat → FuncData
  M : Nms
  T : Prog
abbrev Lay.anm (L : Lay) : Nat → Str := L.M.anm
def Lay.flds (L : Lay) (c : Nat) : List Nat := match L.T.cls[c]? with
  | some ci => ci.flds
  | none => []

section
variable (K : PySem.W.Frag) (L : Lay)
mutual
inductive Rep (Hf : Hp) : D → V → Prop
  | non : Rep Hf .non .non
  | bl (b : Bool) : Rep Hf (.bl b) (.bl b)
  | int (i : Int) : Rep Hf (.int i) (.int i)
  | str (l : List Nat) : Rep Hf (.str l) (.str ⟨l.toArray⟩)
  | tup {a : Addr} {ds : List D} {vs : List V} (h : SqT K Hf a vs) (hl : vs.length ≤ sizeLine) (r : Reps Hf ds vs) : Rep Hf (.tup ds) (.ref a)
  | lst {a : Addr} {ds : List D} {vs : List V} (h : Hf a = some (.lst vs)) (hl : vs.length ≤ sizeLine) (r : Reps Hf ds vs) : Rep Hf (.lst ds) (.ref a)
  | scr {a : Addr} {ns : List Int} (h : SqL K Hf a (ns.map V.int)) (hl : ns.length ≤ sizeLine) : Rep Hf (.scr ns) (.ref a)
  | ins {a dx : Addr} {c : Nat} {fs : List (Nat × D)} {gs : List (Str × V)} (h : Hf a = some (.ins (L.cadr c) dx gs)) (r : RepF Hf c fs gs) : Rep Hf (.ins c fs) (.ref a)
inductive Reps (Hf : Hp) : List D → List V → Prop
  | nil : Reps Hf [] []
  | cons {d : D} {v : V} {ds : List D} {vs : List V} (h : Rep Hf d v) (t : Reps Hf ds vs) : Reps Hf (d :: ds) (v :: vs)
inductive RepF (Hf : Hp) : Nat → List (Nat × D) → List (Str × V) → Prop
  | nil {c : Nat} : RepF Hf c [] []
  | cons {c f : Nat} {d : D} {v : V} {fs : List (Nat × D)} {gs : List (Str × V)} (hf : f ∈ L.flds c) (h : Rep Hf d v) (t : RepF Hf c fs gs) : RepF Hf c ((f, d) :: fs) ((L.anm f, v) :: gs)
end
end
section
variable {K : PySem.W.Frag} {L : Lay}
theorem SqT.mono {H H' : Hp} {a : Addr} {xs : List V} (e : Same H H') (h : SqT K H a xs) : SqT K H' a xs := by
  rcases h with (h | ⟨o, h⟩) | h
  · exact .inl (.inl (e _ _ h))
  · exact .inl (.inr ⟨o, e _ _ h⟩)
  · exact .inr h
mutual
theorem Rep.mono {Hf Hg : Hp} (e : Same Hf Hg) : ∀ {d : D} {v : V}, Rep K L Hf d v → Rep K L Hg d v
  | _, _, .non => .non
  | _, _, .bl b => .bl b
  | _, _, .int i => .int i
  | _, _, .str l => .str l
  | _, _, .tup h hl r => .tup (SqT.mono e h) hl (Reps.mono e r)
  | _, _, .lst h hl r => .lst (e _ _ h) hl (Reps.mono e r)
  | _, _, .scr h hl => .scr (Same.seq e h) hl
  | _, _, .ins h r => .ins (e _ _ h) (RepF.mono e r)
theorem Reps.mono {Hf Hg : Hp} (e : Same Hf Hg) : ∀ {ds : List D} {vs : List V}, Reps K L Hf ds vs → Reps K L Hg ds vs
  | _, _, .nil => .nil
  | _, _, .cons h t => .cons (Rep.mono e h) (Reps.mono e t)
theorem RepF.mono {Hf Hg : Hp} (e : Same Hf Hg) : ∀ {c : Nat} {fs : List (Nat × D)} {gs : List (Str × V)}, RepF K L Hf c fs gs → RepF K L Hg c fs gs
  | _, _, _, .nil => .nil
  | _, _, _, .cons hf h t => .cons hf (Rep.mono e h) (RepF.mono e t)
end
theorem Reps.length {Hf : Hp} : ∀ {ds : List D} {vs : List V}, Reps K L Hf ds vs → ds.length = vs.length
  | _, _, .nil => rfl
  | _, _, .cons _ t => by rw [List.length_cons, List.length_cons, Reps.length t]
theorem Reps.get {Hf : Hp} : ∀ {ds : List D} {vs : List V} {i : Nat} {d : D}, Reps K L Hf ds vs → ds[i]? = some d → ∃ v, vs[i]? = some v ∧ Rep K L Hf d v
  | _, _, _, _, .nil, e => by simp at e
  | _, _, 0, _, .cons h _, e => by simp at e; subst e; exact ⟨_, rfl, h⟩
  | _, _, i + 1, d, .cons _ t, e => by
    obtain ⟨v, h1, h2⟩ := Reps.get (i := i) (d := d) t (by simpa using e)
    exact ⟨v, by simpa using h1, h2⟩
theorem Reps.get' {Hf : Hp} : ∀ {ds : List D} {vs : List V} {i : Nat} {v : V}, Reps K L Hf ds vs → vs[i]? = some v → ∃ d, ds[i]? = some d ∧ Rep K L Hf d v
  | _, _, _, _, .nil, e => by simp at e
  | _, _, 0, _, .cons h _, e => by simp at e; subst e; exact ⟨_, rfl, h⟩
  | _, _, i + 1, v, .cons _ t, e => by
    obtain ⟨d, h1, h2⟩ := Reps.get' (i := i) (v := v) t (by simpa using e)
    exact ⟨d, by simpa using h1, h2⟩
theorem Reps.append {Hf : Hp} : ∀ {ds : List D} {vs : List V} {es : List D} {ws : List V}, Reps K L Hf ds vs → Reps K L Hf es ws → Reps K L Hf (ds ++ es) (vs ++ ws)
  | _, _, _, _, .nil, s => s
  | _, _, _, _, .cons h t, s => .cons h (Reps.append t s)
theorem Reps.drop {Hf : Hp} : ∀ {ds : List D} {vs : List V} (n : Nat), Reps K L Hf ds vs → Reps K L Hf (ds.drop n) (vs.drop n)
  | _, _, 0, r => r
  | _, _, _ + 1, .nil => .nil
  | _, _, n + 1, .cons _ t => Reps.drop n t
theorem Reps.take {Hf : Hp} : ∀ {ds : List D} {vs : List V} (n : Nat), Reps K L Hf ds vs → Reps K L Hf (ds.take n) (vs.take n)
  | _, _, 0, _ => .nil
  | _, _, _ + 1, .nil => .nil
  | _, _, n + 1, .cons h t => .cons h (Reps.take n t)
theorem Reps.set {Hf : Hp} {d : D} {v : V} (h : Rep K L Hf d v) : ∀ {ds : List D} {vs : List V} (n : Nat), Reps K L Hf ds vs → Reps K L Hf (ds.set n d) (vs.set n v)
  | _, _, _, .nil => .nil
  | _, _, 0, .cons _ t => .cons h t
  | _, _, n + 1, .cons h' t => .cons h' (Reps.set h n t)
theorem Reps.ints {Hf : Hp} : ∀ {ns : List Int}, Reps K L Hf (ns.map D.int) (ns.map V.int)
  | [] => .nil
  | n :: ns => .cons (.int n) Reps.ints
theorem Reps.of_ints {Hf : Hp} : ∀ {ds : List D} {vs : List V} {ns : List Int}, Reps K L Hf ds vs → intsD ds = some ns → vs = ns.map V.int
  | _, _, ns, .nil, e => by cases e; rfl
  | .int i :: ds, _, ns, .cons h t, e => by
    cases h
    have e1 : bnd (intsD ds) (fun l => some (i :: l)) = some ns := e
    cases q : intsD ds with
    | none => rw [q] at e1; cases e1
    | some l =>
      rw [q] at e1
      have e2 : i :: l = ns := Option.some.inj e1
      rw [← e2, List.map_cons, Reps.of_ints t q]
  | .non :: _, _, _, .cons _ _, e => by cases e
  | .bl _ :: _, _, _, .cons _ _, e => by cases e
  | .str _ :: _, _, _, .cons _ _, e => by cases e
  | .tup _ :: _, _, _, .cons _ _, e => by cases e
  | .lst _ :: _, _, _, .cons _ _, e => by cases e
  | .scr _ :: _, _, _, .cons _ _, e => by cases e
  | .ins _ _ :: _, _, _, .cons _ _, e => by cases e

/-! ### the state -/
/-- a mutable object at an address -/
def OR (K : PySem.W.Frag) (L : Lay) (Hf H : Hp) (o : AO) (a : Addr) : Prop := match o with
  | .lst ds => Hf a = none ∧ ∃ vs, H a = some (.lst vs) ∧ vs.length ≤ sizeLine ∧ Reps K L Hf ds vs
  | .ins c fs => Hf a = none ∧ ∃ dx gs, H a = some (.ins (L.cadr c) dx gs) ∧ RepF K L Hf c fs gs
  | .dead => True
/-- Fr: objects that others hold; Hf: what never changes any more; rho: where the mutable objects stand -/
structure Rel (K : PySem.W.Frag) (L : Lay) (Fr Hf : Hp) (rho : List Addr) (h : Hs) (H : Hp) : Prop where
  same : Same Hf H
  fr : ∀ a o, Fr a = some o → H a = some o ∧ Hf a = none ∧ a ∉ rho
  len : rho.length = h.length
  nd : rho.Nodup
  there : ∀ a ∈ rho, H a ≠ none
  obj : ∀ (n : Nat) (o : AO) (a : Addr), h[n]? = some o → rho[n]? = some a → OR K L Hf H o a
/-- a slot's value -/
inductive RepA (K : PySem.W.Frag) (L : Lay) (Hf : Hp) (rho : List Addr) : AV → V → Prop
  | ref {n : Nat} {a : Addr} (h : rho[n]? = some a) : RepA K L Hf rho (.ref n) (.ref a)
  | d {x : D} {v : V} (h : Rep K L Hf x v) : RepA K L Hf rho (.d x) v
inductive RepAs (K : PySem.W.Frag) (L : Lay) (Hf : Hp) (rho : List Addr) : List AV → List V → Prop
  | nil : RepAs K L Hf rho [] []
  | cons {a : AV} {v : V} {as : List AV} {vs : List V} (h : RepA K L Hf rho a v) (t : RepAs K L Hf rho as vs) : RepAs K L Hf rho (a :: as) (v :: vs)
/-- the slots that are known -/
def RepS (K : PySem.W.Frag) (L : Lay) (Hf : Hp) (rho : List Addr) (s : Sl) (σ : L2.St) : Prop := s.length = σ.length ∧ ∀ (i : Nat) (v : AV), s[i]? = some (some v) → ∃ x, σ[i]? = some (some x) ∧ RepA K L Hf rho v x
theorem pre_get {rho rho' : List Addr} {n : Nat} {a : Addr} (p : rho <+: rho') (h : rho[n]? = some a) : rho'[n]? = some a := by
  obtain ⟨t, rfl⟩ := p
  rw [List.getElem?_append_left (List.getElem?_eq_some_iff.mp h).1]
  exact h
theorem RepA.mono {Hf Hg : Hp} {rho rho' : List Addr} (e : Same Hf Hg) (p : rho <+: rho') {v : AV} {x : V} (h : RepA K L Hf rho v x) : RepA K L Hg rho' v x := by
  cases h with
  | ref h => exact .ref (pre_get p h)
  | d h => exact .d (h.mono e)
theorem RepAs.mono {Hf Hg : Hp} {rho rho' : List Addr} (e : Same Hf Hg) (p : rho <+: rho') : ∀ {v : List AV} {x : List V}, RepAs K L Hf rho v x → RepAs K L Hg rho' v x
  | _, _, .nil => .nil
  | _, _, .cons h t => .cons (h.mono e p) (RepAs.mono e p t)
theorem RepAs.length {Hf : Hp} {rho : List Addr} : ∀ {v : List AV} {x : List V}, RepAs K L Hf rho v x → v.length = x.length
  | _, _, .nil => rfl
  | _, _, .cons _ t => by rw [List.length_cons, List.length_cons, RepAs.length t]
theorem RepS.mono {Hf Hg : Hp} {rho rho' : List Addr} (e : Same Hf Hg) (p : rho <+: rho') {s : Sl} {σ : L2.St} (h : RepS K L Hf rho s σ) : RepS K L Hg rho' s σ :=
  ⟨h.1, fun i v q => let ⟨x, h1, h2⟩ := h.2 i v q; ⟨x, h1, h2.mono e p⟩⟩
theorem RepS.set {Hf : Hp} {rho : List Addr} {s : Sl} {σ : L2.St} (h : RepS K L Hf rho s σ) (i : Nat) {v : AV} {x : V} (r : RepA K L Hf rho v x) : RepS K L Hf rho (s.set i (some v)) (σ.set i (some x)) := by
  refine ⟨by rw [List.length_set, List.length_set]; exact h.1, fun j w e => ?_⟩
  by_cases hj : i = j
  · subst hj
    by_cases hl : i < s.length
    · rw [List.getElem?_set_self hl] at e
      cases e
      exact ⟨x, List.getElem?_set_self (by rw [← h.1]; exact hl), r⟩
    · rw [List.getElem?_eq_none (by rw [List.length_set]; omega)] at e
      cases e
  · rw [List.getElem?_set_ne hj] at e
    obtain ⟨y, h1, h2⟩ := h.2 j w e
    exact ⟨y, by rw [List.getElem?_set_ne hj]; exact h1, h2⟩
theorem RepS.wipe {Hf : Hp} {rho : List Addr} {s : Sl} {σ : L2.St} (h : RepS K L Hf rho s σ) : ∀ is : List Nat, RepS K L Hf rho (wipeS s is) (L2.wipe σ is)
  | [] => h
  | i :: is => by
    have ih := RepS.wipe h is
    refine ⟨by show ((wipeS s is).set i none).length = ((L2.wipe σ is).set i none).length; rw [List.length_set, List.length_set]; exact ih.1, fun j w e => ?_⟩
    have e2 : ((wipeS s is).set i none)[j]? = some (some w) := e
    by_cases hj : i = j
    · subst hj
      by_cases hl : i < (wipeS s is).length
      · rw [List.getElem?_set_self hl] at e2
        cases e2
      · rw [List.getElem?_eq_none (by rw [List.length_set]; omega)] at e2
        cases e2
    · rw [List.getElem?_set_ne hj] at e2
      obtain ⟨y, h1, h2⟩ := ih.2 j w e2
      exact ⟨y, by show ((L2.wipe σ is).set i none)[j]? = _; rw [List.getElem?_set_ne hj]; exact h1, h2⟩

/-! ### how the state moves -/
theorem nm {a p : Addr} {l : List Addr} (h : p ∉ l) (m : a ∈ l) : a ≠ p := fun z => h (by rw [← z]; exact m)
section
variable {Fr Hf H : Hp} {rho : List Addr} {h : Hs}
theorem Rel.there' (R : Rel K L Fr Hf rho h H) {p : Addr} (hp : H p = none) : p ∉ rho := fun m => R.there p m hp
theorem Rel.hf_none (R : Rel K L Fr Hf rho h H) {p : Addr} (hp : H p = none) : Hf p = none := R.same.free hp
theorem Rel.fr_none (R : Rel K L Fr Hf rho h H) {p : Addr} (hp : H p = none) : Fr p = none := by
  cases q : Fr p with
  | none => rfl
  | some o => have := (R.fr p o q).1; rw [hp] at this; cases this
theorem OR.ext {Hf Hg H H' : Hp} {o : AO} {a : Addr} (x : OR K L Hf H o a) (hl : o ≠ .dead → Hf a = none → Hg a = none) (e : Same Hf Hg) (k : ∀ u, H a = some u → H' a = some u) : OR K L Hg H' o a := by
  cases o with
  | lst ds =>
    obtain ⟨h0, vs, h1, h2, h3⟩ := x
    exact ⟨hl (by intro z; cases z) h0, vs, k _ h1, h2, h3.mono e⟩
  | ins c fs =>
    obtain ⟨h0, dx, gs, h1, h2⟩ := x
    exact ⟨hl (by intro z; cases z) h0, dx, gs, k _ h1, h2.mono e⟩
  | dead => trivial
theorem upd_keep {H : Hp} {p : Addr} {o : HO} (hp : H p = none) : Same H (upd H p o) := fun b u e => by rw [upd_ne (ne_of_none e hp)]; exact e
/-- a new object that nobody knows -/
theorem Rel.alloc (R : Rel K L Fr Hf rho h H) {p : Addr} {o : HO} (hp : H p = none) : Rel K L Fr Hf rho h (upd H p o) := by
  have k := upd_keep (o := o) hp
  refine ⟨R.same.trans k, fun a u e => ?_, R.len, R.nd, fun a m => ?_, fun n u a e1 e2 => (R.obj n u a e1 e2).ext (fun _ z => z) (Same.refl _) fun u q => k _ _ q⟩
  · obtain ⟨h1, h2, h3⟩ := R.fr a u e
    exact ⟨k _ _ h1, h2, h3⟩
  · rw [upd_ne (nm (R.there' hp) m)]
    exact R.there a m
/-- a new object that never changes -/
theorem Rel.allocF (R : Rel K L Fr Hf rho h H) {p : Addr} {o : HO} (hp : H p = none) : Same Hf (upd Hf p o) ∧ Rel K L Fr (upd Hf p o) rho h (upd H p o) := by
  have k := upd_keep (o := o) hp
  have kf := upd_keep (o := o) (R.hf_none hp)
  have np := R.there' hp
  refine ⟨kf, fun b u e => ?_, fun a u e => ?_, R.len, R.nd, fun a m => ?_, fun n u a e1 e2 => (R.obj n u a e1 e2).ext (fun _ z => ?_) kf fun u q => k _ _ q⟩
  · by_cases hb : b = p
    · subst hb; rw [upd_same] at e; rw [upd_same]; exact e
    · rw [upd_ne hb] at e; rw [upd_ne hb]; exact R.same _ _ e
  · obtain ⟨h1, h2, h3⟩ := R.fr a u e
    exact ⟨k _ _ h1, by rw [upd_ne (ne_of_none h1 hp)]; exact h2, h3⟩
  · rw [upd_ne (nm np m)]
    exact R.there a m
  · rw [upd_ne (nm np (List.mem_of_getElem? e2))]
    exact z
/-- a new mutable object -/
theorem Rel.push (R : Rel K L Fr Hf rho h H) {p : Addr} {o : HO} {ao : AO} (hp : H p = none) (new : OR K L Hf (upd H p o) ao p) : Rel K L Fr Hf (rho ++ [p]) (h ++ [ao]) (upd H p o) := by
  have k := upd_keep (o := o) hp
  have np := R.there' hp
  refine ⟨R.same.trans k, fun a u e => ?_, by simp [R.len], ?_, fun a m => ?_, fun n u a e1 e2 => ?_⟩
  · obtain ⟨h1, h2, h3⟩ := R.fr a u e
    refine ⟨k _ _ h1, h2, fun m => ?_⟩
    rcases List.mem_append.mp m with m | m
    · exact h3 m
    · rw [List.mem_singleton.mp m, hp] at h1; cases h1
  · rw [List.nodup_append]
    refine ⟨R.nd, by simp, fun a ha b hb => ?_⟩
    rw [List.mem_singleton.mp hb]
    exact nm np ha
  · rcases List.mem_append.mp m with m | m
    · rw [upd_ne (nm np m)]
      exact R.there a m
    · rw [List.mem_singleton.mp m, upd_same]
      exact fun z => nomatch z
  · by_cases hn : n < h.length
    · rw [List.getElem?_append_left hn] at e1
      rw [List.getElem?_append_left (by rw [R.len]; exact hn)] at e2
      exact (R.obj n u a e1 e2).ext (fun _ z => z) (Same.refl _) fun u q => k _ _ q
    · have hn2 : n = h.length := by
        have := (List.getElem?_eq_some_iff.mp e1).1
        simp at this
        omega
      subst hn2
      rw [List.getElem?_append_right (Nat.le_refl _)] at e1
      rw [List.getElem?_append_right (by rw [R.len]; exact Nat.le_refl _)] at e2
      simp at e1
      simp [R.len] at e2
      subst e1 e2
      exact new
/-- a mutable object is written -/
theorem Rel.write (R : Rel K L Fr Hf rho h H) {n : Nat} {a : Addr} {o : HO} {ao : AO} (ha : rho[n]? = some a) (hf : Hf a = none) (new : OR K L Hf (upd H a o) ao a) : Rel K L Fr Hf rho (h.set n ao) (upd H a o) := by
  have ma : a ∈ rho := List.mem_of_getElem? ha
  refine ⟨fun b u e => ?_, fun b u e => ?_, by rw [List.length_set]; exact R.len, R.nd, fun b m => ?_, fun m u b e1 e2 => ?_⟩
  · rw [upd_ne (ne_of_none e hf)]; exact R.same _ _ e
  · obtain ⟨h1, h2, h3⟩ := R.fr b u e
    exact ⟨by rw [upd_ne (nm h3 ma).symm]; exact h1, h2, h3⟩
  · by_cases hb : b = a
    · subst hb; rw [upd_same]; exact fun z => nomatch z
    · rw [upd_ne hb]; exact R.there b m
  · by_cases hm : n = m
    · subst hm
      rw [ha] at e2; cases e2
      have hl : n < h.length := by
        have := (List.getElem?_eq_some_iff.mp ha).1
        rw [← R.len]; exact this
      rw [List.getElem?_set_self hl] at e1
      cases e1
      exact new
    · rw [List.getElem?_set_ne hm] at e1
      have hb : b ≠ a := fun z => hm (by subst z; exact nd_ix R.nd ha e2)
      exact (R.obj m u b e1 e2).ext (fun _ z => z) (Same.refl _) fun u q => by rw [upd_ne hb]; exact q
/-- a mutable list becomes one that never changes -/
theorem Rel.freeze (R : Rel K L Fr Hf rho h H) {n : Nat} {a : Addr} {ds : List D} (ha : rho[n]? = some a) (hn : h[n]? = some (.lst ds)) :
    ∃ vs, Same Hf (upd Hf a (.lst vs)) ∧ Rel K L Fr (upd Hf a (.lst vs)) rho (h.set n .dead) H ∧ Rep K L (upd Hf a (.lst vs)) (.lst ds) (.ref a) := by
  obtain ⟨h0, vs, h1, h2, h3⟩ := (show OR K L Hf H (.lst ds) a from R.obj n _ a hn ha)
  have ma : a ∈ rho := List.mem_of_getElem? ha
  have kf := upd_keep (o := .lst vs) h0
  refine ⟨vs, kf, ⟨fun b u e => ?_, fun b u e => ?_, by rw [List.length_set]; exact R.len, R.nd, R.there, fun m u b e1 e2 => ?_⟩, .lst upd_same h2 (h3.mono kf)⟩
  · by_cases hb : b = a
    · subst hb; rw [upd_same] at e; rw [h1]; exact e
    · rw [upd_ne hb] at e; exact R.same _ _ e
  · obtain ⟨k1, k2, k3⟩ := R.fr b u e
    exact ⟨k1, by rw [upd_ne (nm k3 ma).symm]; exact k2, k3⟩
  · by_cases hm : n = m
    · subst hm
      rw [List.getElem?_set_self (List.getElem?_eq_some_iff.mp hn).1] at e1
      cases e1
      trivial
    · rw [List.getElem?_set_ne hm] at e1
      have hb : b ≠ a := fun z => hm (by subst z; exact nd_ix R.nd ha e2)
      exact (R.obj m u b e1 e2).ext (fun _ z => by rw [upd_ne hb]; exact z) kf fun u q => q
/-- the last objects are let go -/
theorem Rel.take {t : List Addr} (R : Rel K L Fr Hf (rho ++ t) h H) : Rel K L Fr Hf rho (h.take rho.length) H := by
  refine ⟨R.same, fun a u e => ?_, ?_, (List.nodup_append.mp R.nd).1, fun a m => R.there a (List.mem_append_left _ m), fun n u a e1 e2 => ?_⟩
  · obtain ⟨k1, k2, k3⟩ := R.fr a u e
    exact ⟨k1, k2, fun m => k3 (List.mem_append_left _ m)⟩
  · have := R.len
    rw [List.length_append] at this
    rw [List.length_take]; omega
  · have hl := (List.getElem?_eq_some_iff.mp e2).1
    rw [List.getElem?_take_of_lt hl] at e1
    exact R.obj n u a e1 (by rw [List.getElem?_append_left hl]; exact e2)
/-- the last object, an instance, never changes any more -/
theorem Rel.seal {p : Addr} {c : Nat} {fs : List (Nat × D)} (R : Rel K L Fr Hf (rho ++ [p]) h H) (hn : h[rho.length]? = some (.ins c fs)) :
    ∃ Hg, Same Hf Hg ∧ Rel K L Fr Hg rho (h.take rho.length) H ∧ Rep K L Hg (.ins c fs) (.ref p) := by
  have hp : (rho ++ [p])[rho.length]? = some p := by simp
  obtain ⟨h0, dx, gs, h1, h2⟩ := (show OR K L Hf H (.ins c fs) p from R.obj _ _ p hn hp)
  have kf := upd_keep (o := .ins (L.cadr c) dx gs) h0
  have R2 := R.take
  have np : p ∉ rho := fun m => by
    have := (List.nodup_append.mp R.nd).2.2 p m p (by simp)
    exact this rfl
  refine ⟨_, kf, ⟨fun b u e => ?_, fun b u e => ?_, R2.len, R2.nd, R2.there, fun m u b e1 e2 => (R2.obj m u b e1 e2).ext (fun _ z => by rw [upd_ne (nm np (List.mem_of_getElem? e2))]; exact z) kf fun u q => q⟩, .ins upd_same (h2.mono kf)⟩
  · by_cases hb : b = p
    · subst hb; rw [upd_same] at e; rw [h1]; exact e
    · rw [upd_ne hb] at e; exact R.same _ _ e
  · obtain ⟨k1, k2, k3⟩ := R.fr b u e
    exact ⟨k1, by rw [upd_ne (nm k3 (by simp)).symm]; exact k2, fun m => k3 (List.mem_append_left _ m)⟩
/-- a comprehension's own list: held by the frame, written there, then it never changes any more -/
theorem Rel.frame (R : Rel K L Fr Hf rho h H) {p : Addr} {o : HO} (hp : H p = none) : Rel K L (upd Fr p o) Hf rho h (upd H p o) := by
  have R2 := R.alloc (o := o) hp
  refine ⟨R2.same, fun a u e => ?_, R2.len, R2.nd, R2.there, R2.obj⟩
  by_cases hb : a = p
  · subst hb
    rw [upd_same] at e
    cases e
    exact ⟨upd_same, R.hf_none hp, R.there' hp⟩
  · rw [upd_ne hb] at e
    exact R2.fr a u e
theorem Rel.framed {p : Addr} {o o' : HO} (R : Rel K L (upd Fr p o) Hf rho h H) : Rel K L (upd Fr p o') Hf rho h (upd H p o') := by
  obtain ⟨h1, h2, h3⟩ := R.fr p o upd_same
  refine ⟨fun b u e => ?_, fun a u e => ?_, R.len, R.nd, fun a m => ?_, fun n u a e1 e2 => (R.obj n u a e1 e2).ext (fun _ z => z) (Same.refl _) fun u q => ?_⟩
  · rw [upd_ne (ne_of_none e h2)]; exact R.same _ _ e
  · by_cases hb : a = p
    · subst hb
      rw [upd_same] at e
      cases e
      exact ⟨upd_same, h2, h3⟩
    · rw [upd_ne hb] at e
      obtain ⟨k1, k2, k3⟩ := R.fr a u (by rw [upd_ne hb]; exact e)
      exact ⟨by rw [upd_ne hb]; exact k1, k2, k3⟩
  · rw [upd_ne (nm h3 m)]; exact R.there a m
  · rw [upd_ne (nm h3 (List.mem_of_getElem? e2))]; exact q
theorem Rel.unframe {p : Addr} {o : HO} (R : Rel K L (upd Fr p o) Hf rho h H) (hp : Fr p = none) : Same Hf (upd Hf p o) ∧ Rel K L Fr (upd Hf p o) rho h H := by
  obtain ⟨h1, h2, h3⟩ := R.fr p o upd_same
  have kf := upd_keep (o := o) h2
  refine ⟨kf, fun b u e => ?_, fun a u e => ?_, R.len, R.nd, R.there, fun n u a e1 e2 => (R.obj n u a e1 e2).ext (fun _ z => ?_) kf fun u q => q⟩
  · by_cases hb : b = p
    · subst hb; rw [upd_same] at e; rw [h1]; exact e
    · rw [upd_ne hb] at e; exact R.same _ _ e
  · have hb : a ≠ p := ne_of_none e hp
    obtain ⟨k1, k2, k3⟩ := R.fr a u (by rw [upd_ne hb]; exact e)
    exact ⟨k1, by rw [upd_ne hb]; exact k2, k3⟩
  · rw [upd_ne (nm h3 (List.mem_of_getElem? e2))]; exact z
end
end
end K24
/-! K24Snd1: rules over HandS's judgements that the soundness of the small language needs: weakenings, facts of the syntax, calls by the object's own class. -/
set_option Elab.async false
set_option linter.all false
set_option maxRecDepth 100000
namespace K24
open PySem PySem.Spec PyProof.Rows L2 ClX RZ
section
variable {X : Cx}
theorem PE.imp {e : Expr} {t u : TE} (h : PE X e t) (k : ∀ σ H Q, u σ H Q → t σ H Q) : PE X e u := ⟨fun pins s σ H Q I hu => h.run pins s σ H Q I (k σ H Q hu)⟩
theorem PT.imp {e : Expr} {t u : TT} (h : PT X e t) (k : ∀ σ H Q, u σ H Q → t σ H Q) : PT X e u := ⟨fun pins s σ H Q I hu => h.run pins s σ H Q I (k σ H Q hu)⟩
theorem PW.imp {e : Expr} {t u : TT} (h : PW X e t) (k : ∀ σ H Q, u σ H Q → t σ H Q) : PW X e u := ⟨fun wh pins s σ H Q I hu => h.run wh pins s σ H Q I (k σ H Q hu)⟩
theorem PA.imp {e : List Expr} {t u : TA} (h : PA X e t) (k : ∀ σ H Q, u σ H Q → t σ H Q) : PA X e u := ⟨fun pos pins s σ H Q I hu => h.run pos pins s σ H Q I (k σ H Q hu)⟩
theorem PK.imp {e : List Keyword} {t u : TA} (h : PK X e t) (k : ∀ σ H Q, u σ H Q → t σ H Q) : PK X e u := ⟨fun pos pins s σ H Q I hu => h.run pos pins s σ H Q I (k σ H Q hu)⟩
theorem PO.imp {e : Option Expr} {t u : TO} (h : PO X e t) (k : ∀ σ H Q, u σ H Q → t σ H Q) : PO X e u := ⟨fun pins s σ H Q I hu => h.run pins s σ H Q I (k σ H Q hu)⟩
theorem PTs.imp {e : List Expr} {t u : TT} (h : PTs X e t) (k : ∀ σ H Q, u σ H Q → t σ H Q) : PTs X e u := ⟨fun pins s σ H Q I hu => h.run pins s σ H Q I (k σ H Q hu)⟩
theorem PI.imp {tg e : Expr} {t u : TI} (h : PI X tg e t) (k : ∀ σ H R, u σ H R → t σ H R) : PI X tg e u := ⟨fun pins s σ H R I hu => h.run pins s σ H R I (k σ H R hu)⟩
theorem PG.imp {e : Expr} {t u : TG} (h : PG X e t) (k : ∀ v σ H Q, u v σ H Q → t v σ H Q) : PG X e u := ⟨fun pins s σ H v w Q I r hu => h.run pins s σ H v w Q I r (k v σ H Q hu)⟩
theorem PS.imp {e : Stmt} {t u : TS} (h : PS X e t) (k : ∀ D σ H, u D σ H → t D σ H) : PS X e u := ⟨fun pins s σ H D I hu => h.run pins s σ H D I (k D σ H hu)⟩
theorem PSs.imp {e : List Stmt} {t u : TS} (h : PSs X e t) (k : ∀ D σ H, u D σ H → t D σ H) : PSs X e u := ⟨fun pins s σ H D I hu => h.run pins s σ H D I (k D σ H hu)⟩
end
/-! ### the syntax -/
def notStar : Expr → Bool
  | .Starred _ _ => false
  | _ => true
def notSet : Expr → Bool
  | .Set _ _ _ => false
  | _ => true
def notSlice : Expr → Bool
  | .Slice _ _ _ _ => false
  | _ => true
def notComp : Expr → Bool
  | .ListComp _ _ _ _ => false
  | .SetComp _ _ _ _ => false
  | .DictComp _ _ _ _ _ => false
  | _ => true
/-- a test that is its value's truth -/
def plainT : Expr → Bool
  | .UnaryOp _ _ _ => false
  | .BoolOp _ _ _ => false
  | .IfExp _ _ _ _ => false
  | .Compare _ _ _ _ => false
  | _ => true
/-- an object that is no call -/
def plainO : Expr → Bool
  | .Call _ _ _ _ => false
  | _ => true
def notTup : Expr → Bool
  | .Tuple _ _ _ => false
  | _ => true
theorem star_cons {e : Expr} {es : List Expr} {env : Env} (h : notStar e = true) : starEach (e :: es) env = (false, eval e env) :: starEach es env := by
  cases e <;> first | rfl | cases h
theorem star_any {pos : Pos} {env : Env} : ∀ {es : List Expr}, es.all notStar = true → (backTo pos (starEach es env)).any (·.1) = false
  | [], _ => rfl
  | e :: es, h => by
    rw [List.all_cons, Bool.and_eq_true] at h
    rw [star_cons h.1]
    show (false || (backTo pos (starEach es env)).any (·.1)) = false
    rw [star_any h.2]
    rfl
theorem star_all {pos : Pos} {env : Env} : ∀ {es : List Expr}, es.all notStar = true → (backTo pos (starEach es env)).all (fun x => !x.1) = true
  | [], _ => rfl
  | e :: es, h => by
    rw [List.all_cons, Bool.and_eq_true] at h
    rw [star_cons h.1]
    show (!false && (backTo pos (starEach es env)).all (fun x => !x.1)) = true
    rw [star_all h.2]
    rfl
theorem folded_pure {e : Expr} {env : Env} (h : notSet e = true) (x : Value) : foldedSetIterable e env x = pure x := by
  cases e <;> first | rfl | cases h
theorem swaps_no {e : Expr} {t : Option Expr} {l : Nat} {env : Env} (h : notComp e = true) : swapsWith e t l env = pure false := by
  cases e <;> first | rfl | cases h
theorem swaps_attr {e o : Expr} {a : Str} {p : Pos} {l : Nat} {env : Env} : swapsWith e (some (.Attribute o a p)) l env = pure false := by
  cases e <;> rfl
theorem swaps_sub {e o i : Expr} {p : Pos} {l : Nat} {env : Env} : swapsWith e (some (.Subscript o i p)) l env = pure false := by
  cases e <;> rfl
theorem swaps_tup {e : Expr} {ts : List Expr} {k : Nat} {p : Pos} {l : Nat} {env : Env} : swapsWith e (some (.Tuple ts k p)) l env = pure false := by
  cases e <;> rfl
theorem swapped_sub {e o i : Expr} {p : Pos} {env : Env} : swappedStores [.Subscript o i p] e env = pure none := by
  cases e <;> rfl
theorem swapped_tup {e : Expr} {ts : List Expr} {k : Nat} {p : Pos} {env : Env} (h : notTup e = true) : swappedStores [.Tuple ts k p] e env = pure none := by
  cases e <;> first | rfl | cases h
theorem attr_base {o : Expr} {a : Str} {env : Env} {w : Sem Value} (h : plainO o = true) : attributeBase o a env w = w := by
  cases o <;> first | rfl | cases h
theorem test_plain {e : Expr} {env : Env} (h : plainT e = true) (whole : Sem Value) : isTrue e env whole = (do let v ← whole; standAt e.pos; holding [v] (truthy v)) := by
  cases e <;> first | rfl | cases h
theorem ix_plain {b : Expr} (h : notSlice b = true) : PlainIx b := by
  intro o i
  cases b <;> first | rfl | cases h
theorem mark_no {op : CmpOp} {b : Expr} (h : notSet b = true) : behindInMarks op b = false := by
  cases b <;> first | rfl | cases h
theorem marks_no {o1 o2 : CmpOp} {b c : Expr} (h : notSet c = true) : lastMarks [o1, o2] [b, c] = false := by
  show behindInMarks o2 c = false
  exact mark_no h
/-- the tree of a method call -/
theorem meth_tree {o : Expr} {m : Str} {apos pos : Pos} {args : List Expr} {env : Env} (ho : plainO o = true) (hs : args.all notStar = true) (hl : args.length < 30) (hp : (apos.endLine == pos.line) = true) :
    eval (.Call (.Attribute o m apos) args [] pos) env = (do
      let ov ← eval o env
      standAt apos.atName
      let (f, first) ← holding [ov] (getMethod ov m (do return (← importBound o env).getD true))
      callWith pos f first (backTo pos (starEach args env)) (backToKw pos (keywordEach [] env))) := by
  have hf : methodCallForm (args.length + 0) (backTo pos (starEach args env)) (backToKw pos (keywordEach [] env)) = true := by
    show ((backTo pos (starEach args env)).all (fun x => !x.1) && true && decide (args.length + 0 + 0 < 30)) = true
    rw [star_all hs, decide_eq_true (by omega)]
    rfl
  show (do
    let ov ← attributeBase o m env (eval o env)
    standAt apos.atName
    methodCall o m apos pos env ov (args.length + 0) (backTo pos (starEach args env)) (backToKw pos (keywordEach [] env))) = _
  rw [attr_base ho]
  unfold methodCall calleeOf methodCallPos
  rw [hf, hp]
  rfl

/-! ### calls by the object's own class -/
section
variable {X : Cx} {o e : Expr} {es : List Expr} {m : Str} {ta : TE} {t : TA} {pos apos : Pos} {k : Nat}
/-- o.m(..), whatever o's class -/
def tMethD (X : Cx) (k : Nat) (m : Str) (ta : TE) (t : TA) : TE := fun σ H Q => ta σ H fun x H1 => ∃ (a C dx : Addr) (fs : List (Str × V)) (g : Addr) (fd : FuncData) (ps : List Str) (sp : Sp), x = .ref a ∧ H1 a = some (.ins C dx fs) ∧ Cls X.K C ∧ Meth X.K C m g ∧ fs.lookup m = none ∧
  FnOk X.prog X.w X.K X.mg X.base CX0 k g fd ps sp ∧ Binds X.K fd ps [] ∧ t σ H1 fun vs H2 => sp (x :: vs) H2 Q E0
/-- .. where the object is not an instance that never moves, but one by the arguments' end -/
theorem pe_methD (he : PE X o ta) (ha : PA X (e :: es) t) (ho : plainO o = true) (hs : (e :: es).all notStar = true) (hl : (e :: es).length < 30) (hp : (apos.endLine == pos.line) = true) (hr : Room k X.A) :
    PE X (.Call (.Attribute o m apos) (e :: es) [] pos) (tMethD X k m ta t) := by
  refine ⟨fun pins s σ H Q I h => ?_⟩
  refine PySem.W.methodCall_KW (pl := do return (← importBound o X.env).getD true) (thn (he.run pins s σ H _ I h) fun u s1 ⟨x, H1, I1, rx, a, C, dx, fs, g, fd, ps, sp, ex, ea, c, k, l, F, hb, q⟩ => ?_) (meth_tree ho hs hl hp)
  subst ex
  obtain rfl : u = Value.ref a := rx
  refine getmeth_ok I1 ea c k l ?_
  rw [List.all_cons, Bool.and_eq_true] at hs
  refine PySem.W.callWith_K (first := [.ref a]) (h₀ := X.base) I.ok.mod.kin k.kp (thn (ha.run pos pins s1 σ H1 _ I1 q) fun us s2 ⟨vs, H2, I2, r, q2⟩ => ⟨I2.kIn, ?_⟩) (star_cons hs.1) (star_any hs.2)
  exact run_fn (us := .ref a :: us) (vs := .ref a :: vs) (dvs := []) (ds := []) F hr hb .nil pass0 I2 (.cons rfl r) (by rw [List.append_nil]; exact q2)
theorem pe_methD0 (he : PE X o ta) (ho : plainO o = true) (hp : (apos.endLine == pos.line) = true) (hr : Room k X.A) :
    PE X (.Call (.Attribute o m apos) [] [] pos) (tMethD X k m ta tNil) := by
  refine ⟨fun pins s σ H Q I h => ?_⟩
  refine PySem.W.methodCall_KW (pl := do return (← importBound o X.env).getD true) (thn (he.run pins s σ H _ I h) fun u s1 ⟨x, H1, I1, rx, a, C, dx, fs, g, fd, ps, sp, ex, ea, c, k, l, F, hb, q⟩ => ?_) (meth_tree ho rfl (by decide) hp)
  subst ex
  obtain rfl : u = Value.ref a := rx
  refine getmeth_ok I1 ea c k l ?_
  exact PySem.W.callWith_K0 (first := [.ref a]) I1.kIn k.kp (run_fn (us := [.ref a]) (vs := [.ref a]) (dvs := []) (ds := []) F hr hb .nil pass0 I1 (.cons rfl .nil) q)
/-- o.m, a property, whatever o's class -/
def tPropD (X : Cx) (k : Nat) (m : Str) (ta : TE) : TE := fun σ H Q => ta σ H fun x H1 => ∃ (a C dx : Addr) (fs : List (Str × V)) (p g : Addr) (fd : FuncData) (ps : List Str) (sp : Sp), x = .ref a ∧ H1 a = some (.ins C dx fs) ∧ Cls X.K C ∧ PropOf X.K C m p g ∧
  FnOk X.prog X.w X.K X.mg X.base CX0 k g fd ps sp ∧ Binds X.K fd ps [] ∧ sp [.ref a] H1 Q E0
theorem pe_propD (he : PE X o ta) (ho : plainO o = true) (hr : Room (k + 1) X.A) : PE X (.Attribute o m pos) (tPropD X k m ta) := by
  refine ⟨fun pins s σ H Q I h => ?_⟩
  refine attr_of (attr_base ho) (thn (he.run pins s σ H _ I h) fun u s1 ⟨x, H1, I1, rx, a, C, dx, fs, p, g, fd, ps, sp, ex, ea, c, hp, F, hb, q⟩ => ?_)
  subst ex
  obtain rfl : u = Value.ref a := rx
  exact getprop_ok (dvs := []) (ds := []) I1 ea c hp F hr hb .nil pass0 q
/-- C.m(..), C a class, m a plain def of it -/
def tBaseD (X : Cx) (k : Nat) (C : Addr) (sp : Sp) (t : TA) : TE := fun σ H Q => t σ H fun vs H1 => sp vs H1 Q E0
theorem pe_baseD {C g : Addr} {mc : Value} {x : Str} {xp : Pos} {fd : FuncData} {ps : List Str} {sp : Sp} (hg : Gl X x) (hm : X.mg x = some (.ref C)) (hdb : (x == ("__debug__" : Str)) = false) (r : CRead X.K C mc) (c : CVal X.K C mc m (.ref g) (.ref g)) (hk : PySem.W.keepIn X.K (.ref g) = true)
    (F : FnOk X.prog X.w X.K X.mg X.base CX0 k g fd ps sp) (hb : Binds X.K fd ps []) (ha : PA X (e :: es) t) (hs : (e :: es).all notStar = true) (hl : (e :: es).length < 30) (hp : (apos.endLine == pos.line) = true) (hr : Room k X.A) :
    PE X (.Call (.Attribute (.Name x xp) m apos) (e :: es) [] pos) (tBaseD X k C sp t) := by
  refine ⟨fun pins s σ H Q I h => ?_⟩
  refine PySem.W.methodCall_KW (pl := do return (← importBound (.Name x xp) X.env).getD true) (ld_glob I hg hm ?_ hdb) (meth_tree rfl hs hl hp)
  refine PySem.W.method_cls I.kIn r.ga (getcval_ok I r c fun s1 I1 => ?_)
  rw [List.all_cons, Bool.and_eq_true] at hs
  refine PySem.W.callWith_K (first := []) (h₀ := X.base) I.ok.mod.kin hk (thn (ha.run pos pins s1 σ H _ I1 h) fun us s2 ⟨vs, H2, I2, r, q2⟩ => ⟨I2.kIn, ?_⟩) (star_cons hs.1) (star_any hs.2)
  exact run_fn (us := us) (vs := vs) (dvs := []) (ds := []) F hr hb .nil pass0 I2 r (by rw [List.append_nil]; exact q2)
/-- what a class without an __init__ of its own must have to be made -/
structure Mk0 (K : PySem.W.Frag) (C : Addr) : Prop where
  makes : PySem.W.makesIn K C = true
  init : PySem.W.findIn K (.ref C) "__init__" = some (some (.builtin "object.__init__"))
  kp : PySem.W.keepIn K (.ref C) = true
def tMake0 (C : Addr) : TE := fun σ H Q => ∀ x dx, H x = none → H dx = none → dx ≠ x → Q (.ref x) (upd (upd H dx (.own x)) x (.ins C dx []))
theorem pe_makeO {C : Addr} {x : Str} {p : Pos} (M : Mk0 X.K C) (hg : Gl X x) (hm : X.mg x = some (.ref C)) (hdb : (x == ("__debug__" : Str)) = false) : PE X (.Call (.Name x p) [] [] pos) (tMake0 C) := by
  refine ⟨fun pins s σ H Q I h => ?_⟩
  refine wpAny_Call_Name_kw (ld_glob I hg hm ?_ hdb)
  refine PySem.W.callWith_K0 I.kIn M.kp (wpAny_call ?_)
  have I2 := Inv.made (C := C) I
  have hq := h (s.heap.objs.size + 1) s.heap.objs.size (I.hok.fresh (Nat.le_succ _)) (I.hok.fresh (Nat.le_refl _)) (Nat.ne_of_lt (Nat.lt_succ_self _))
  have Y := PySem.W.makes_of (M := model X.prog X.w) I.kIn M.makes
  have obj : ((s.heap.push PySem.W.emptyDict).push (PySem.W.instObj C s.heap.objs.size)).get? (s.heap.objs.size + 1) = some (PySem.W.instObj C s.heap.objs.size) := by
    have := Heap.get?_push_size (s.heap.push PySem.W.emptyDict) (o := PySem.W.instObj C s.heap.objs.size) rfl
    rwa [Heap.size_push] at this
  refine make_map0 I.kIn M.makes M.init (fun self => PySem.W.Looks.of_pure (PySem.W.oi_bind self)) ?_
  have t1 : PySem.W.Looks (model X.prog X.w) ((s.heap.push PySem.W.emptyDict).push (PySem.W.instObj C s.heap.objs.size)) (typeOf (.ref (s.heap.objs.size + 1))) (.ref C) := (PySem.W.Looks.ld obj).andThen .now
  have t2 : PySem.W.Looks (model X.prog X.w) ((s.heap.push PySem.W.emptyDict).push (PySem.W.instObj C s.heap.objs.size)) (isInstance (.ref (s.heap.objs.size + 1)) (.type "object")) true := t1.andThen (Y.top.keeps fun b o e => Heap.get?_push_of_some _ (Heap.get?_push_of_some _ e))
  refine codeAny_call_builtin PySem.W.oi_plain PySem.W.entry_oi (@PySem.W.check_slot (model X.prog X.w) _ _ _ "object.__init__" "object" "__init__" (.ref (s.heap.objs.size + 1)) [] [] _ PySem.W.oi_kind PySem.W.oi_split t2 (PySem.W.oi_args (.ref (s.heap.objs.size + 1))) ?_)
  rw [PySem.W.oi_run]
  exact wpAny_pure (And.intro rfl ⟨V.ref (s.heap.objs.size + 1), _, I2, rfl, hq⟩)
end

/-! ### what is walked -/
section
variable {X : Cx} {tg : Expr}
/-- a list, a tuple, a text -/
def iSeq (K : PySem.W.Frag) (tl : TE) : TI := fun σ H R => tl σ H fun x H1 => (∃ a, x = .ref a ∧ (∃ xs, SqL K H1 a xs) ∧ R (Itl K a) H1) ∨ (∃ a, x = .ref a ∧ (∃ xs, SqT K H1 a xs) ∧ R (Itt K a) H1) ∨ (∃ z : Str, x = .str z ∧ R (Its z) H1)
theorem pi_seq {l : Expr} {tl : TE} (hl : PE X l tl) : PI X tg l (iSeq X.K tl) := by
  refine ⟨fun pins s σ H R I h => ?_⟩
  refine thn (hl.run pins s σ H _ I h) fun v s1 ⟨x, H1, I1, r1, q1⟩ => ?_
  rcases q1 with ⟨a, e, hx, q⟩ | ⟨a, e, hx, q⟩ | ⟨z, e, q⟩
  · have p := pi_list (X := X) (tg := tg) (l := .Name "x" ⟨0, 0, 0, 0⟩) (tl := fun _ H Q => Q x H)
    subst e
    cases r1
    obtain ⟨xs, hq⟩ := hx
    obtain ⟨its, rv, p, hz⟩ := I1.list hq
    refine wpAny_pyIter_list p.isList ?_
    refine ⟨s1.heap.objs.size, [s1.heap.objs.size], _, _, H1, rfl, I1.kept (t' := s1.toks) fun b o e => Heap.get?_push_of_some _ e, turn_list a _, ⟨_, Heap.get?_push_size _ rfl, rfl, rfl⟩, fun b hb => ?_, q⟩
    have e : b = s1.heap.objs.size := by simpa using hb
    subst e
    exact I1.fpOk (Nat.le_refl _) (I1.hok.fresh (Nat.le_refl _))
  · subst e
    cases r1
    obtain ⟨xs, hq⟩ := hx
    obtain ⟨its, rv, p, hz⟩ := I1.tuple hq
    refine wpAny_pyIter_tuple (show s1.heap.IsTuple a its.toArray from p) ?_
    refine ⟨s1.heap.objs.size, [s1.heap.objs.size], _, _, H1, rfl, I1.kept (t' := s1.toks) fun b o e => Heap.get?_push_of_some _ e, turn_tuple a _, ⟨_, Heap.get?_push_size _ rfl, rfl, rfl⟩, fun b hb => ?_, q⟩
    have e : b = s1.heap.objs.size := by simpa using hb
    subst e
    exact I1.fpOk (Nat.le_refl _) (I1.hok.fresh (Nat.le_refl _))
  · subst e
    obtain ⟨t, rfl⟩ := r1
    cases ha : z.cps.all (· < 128)
    · exact wpAny_pyIter_wide ha (pi_one (tk := s1.toks) I1 _ (turn_str _ z t "str_iterator" (.inr rfl)) ⟨_, Heap.get?_push_size _ rfl, rfl, rfl⟩ q)
    · exact wpAny_pyIter_ascii ha (pi_one (tk := s1.toks) I1 _ (turn_str _ z t "str_ascii_iterator" (.inl rfl)) ⟨_, Heap.get?_push_size _ rfl, rfl, rfl⟩ q)
end
end K24
/-! K24Zip: for a, b, c in zip(t, u, v), the three tuples. -/
set_option Elab.async false
set_option linter.all false
set_option maxRecDepth 100000
namespace K24
open PySem PySem.Spec PyProof.Rows L2 ClX RZ
theorem offN (N k j : Nat) (h : k ≠ j) : N + k ≠ N + j := by omega
theorem offZ (N j : Nat) (h : 0 < j) : N ≠ N + j := by omega
theorem ltK (N n k : Nat) (hk : k ≤ 5) (h : N + 5 < n) : N + k < n := by omega
theorem ltZ (N n : Nat) (h : N + 5 < n) : N < n := by omega
def Itz3 (K : PySem.W.Frag) (a b c : Addr) : It :=
  ⟨fun i H => ∃ (xs ys zs : List V) (x y z : V), SqT K H a xs ∧ SqT K H b ys ∧ SqT K H c zs ∧ xs[i]? = some x ∧ ys[i]? = some y ∧ zs[i]? = some z,
    fun i H v H' => ∃ T x y z, v = .ref T ∧ H T = none ∧ H' = upd H T (.tup [x, y, z]) ∧ (∀ xs, SqT K H a xs → xs[i]? = some x) ∧ (∀ ys, SqT K H b ys → ys[i]? = some y) ∧ ∀ zs, SqT K H c zs → zs[i]? = some z,
    fun i H => ∃ xs ys zs : List V, SqT K H a xs ∧ SqT K H b ys ∧ SqT K H c zs ∧ i ≤ xs.length ∧ i ≤ ys.length ∧ i ≤ zs.length ∧ (i = xs.length ∨ i = ys.length ∨ i = zs.length)⟩
theorem turn_zip3 {P : Program} {w : World} {K : PySem.W.Frag} {elts : List Expr} {kk : Nat} {tpos : Pos} {a b c N : Addr} (ha : a < N) (hb : b < N) (hc : c < N) :
    Turn P w K (.Tuple elts kk tpos) (Itz3 K a b c) [N + 5, N + 3, N + 4, N, N + 1, N + 2] (N + 5)
      (fun i h => IsZip h (N + 5) (N + 3) (N + 4) .none ∧ IsTupOf3 h (N + 3) (.ref N) (.ref (N + 1)) (.ref (N + 2)) ∧ (∃ x y z, IsTupOf3 h (N + 4) x y z) ∧ h.IsTupleIter N a i ∧ h.IsTupleIter (N + 1) b i ∧ h.IsTupleIter (N + 2) c i) where
  mem := by simp
  obj := fun i h st d hd => by
    obtain ⟨hz, hTI, ⟨x, y, z, hTO⟩, ⟨o1, e1, _, d1⟩, ⟨o2, e2, _, d2⟩, ⟨o3, e3, _, d3⟩⟩ := st
    have e' : d = N + 5 ∨ d = N + 3 ∨ d = N + 4 ∨ d = N ∨ d = N + 1 ∨ d = N + 2 := by simpa using hd
    rcases e' with q | q | q | q | q | q
    · rw [q]; exact ⟨_, hz, fun v q => nomatch q⟩
    · rw [q]; exact ⟨_, hTI, fun v q => nomatch q⟩
    · rw [q]; exact ⟨_, hTO, fun v q => nomatch q⟩
    · rw [q]; exact ⟨o1, e1, fun v q => by rw [d1] at q; cases q⟩
    · rw [q]; exact ⟨o2, e2, fun v q => by rw [d2] at q; cases q⟩
    · rw [q]; exact ⟨o3, e3, fun v q => by rw [d3] at q; cases q⟩
  keep := fun i h h' st k => by
    obtain ⟨hz, hTI, ⟨x, y, z, hTO⟩, h1, h2, h3⟩ := st
    exact ⟨k _ (by simp) _ hz, k _ (by simp) _ hTI, ⟨x, y, z, k _ (by simp) _ hTO⟩, h1.at fun o q => k N (by simp) o q, h2.at fun o q => k (N + 1) (by simp) o q, h3.at fun o q => k (N + 2) (by simp) o q⟩
  item := by
    intro X hP hw hK hcm i pins s σ H E I hf st hg
    subst hP hw hK
    obtain ⟨hz, hTI, ⟨x0, y0, z0, hTO⟩, h1, h2, h3⟩ := st
    obtain ⟨xs, ys, zs, x, y, z, hqx, hqy, hqz, hx, hy, hzz⟩ := hg
    obtain ⟨its, rv, p, _⟩ := I.tuple hqx
    obtain ⟨its2, rv2, p2, _⟩ := I.tuple hqy
    obtain ⟨its3, rv3, p3, _⟩ := I.tuple hqz
    obtain ⟨u, hu, ru⟩ := rv.get hx
    obtain ⟨u2, hu2, ru2⟩ := rv2.get hy
    obtain ⟨u3, hu3, ru3⟩ := rv3.get hzz
    have hzl : N + 5 < s.heap.objs.size := Heap.lt_size hz
    have hh : X.A.in1.handled = none := I.ok.hd hcm
    have S := zip_sep3 (N := N) (fp1 := [a]) (fp2 := [b]) (fp3 := [c]) (by simpa using ha) (by simpa using hb) (by simpa using hc)
    refine wpAny_pyNext_zipD3_item S (Draws.tuple hh N a (Nat.ne_of_lt ha) its.toArray) (Draws.tuple hh (N + 1) b (Nat.ne_of_lt (Nat.lt_succ_of_lt hb)) its2.toArray) (Draws.tuple hh (N + 2) c (Nat.ne_of_lt (Nat.lt_succ_of_lt (Nat.lt_succ_of_lt hc))) its3.toArray)
      hz hTI hTO ⟨h1, p⟩ ⟨h2, p2⟩ ⟨h3, p3⟩ ?_ ?_ ?_ fun v1 v2 v3 h' tk q1 q2 q3 z' TO' s1 s2 s3 hT hsz hk => ?_
    · simpa using (List.getElem?_eq_some_iff.mp hu).1
    · simpa using (List.getElem?_eq_some_iff.mp hu2).1
    · simpa using (List.getElem?_eq_some_iff.mp hu3).1
    have e1 : v1 = u := by
      have q1 : its.toArray[i]? = some v1 := q1
      simp at q1
      rw [hu] at q1
      exact (Option.some.inj q1).symm
    have e2 : v2 = u2 := by
      have q2 : its2.toArray[i]? = some v2 := q2
      simp at q2
      rw [hu2] at q2
      exact (Option.some.inj q2).symm
    have e3 : v3 = u3 := by
      have q3 : its3.toArray[i]? = some v3 := q3
      simp at q3
      rw [hu3] at q3
      exact (Option.some.inj q3).symm
    subst e1 e2 e3
    refine ⟨_, rfl, wpAny_letOwnedTupleGo_zip (s := { s with heap := h', toks := tk }) z' fun h'' z'' sb => ?_⟩
    have hT2 : h''.get? s.heap.objs.size = some { cls := .type "tuple", data := .seq #[v1, v2, v3] } := (sb.2 _ (Nat.ne_of_gt hzl)).trans hT
    have new : ObjOk X.prog X.w (upd H s.heap.objs.size (.tup [x, y, z])) h'' s.heap.objs.size (.tup [x, y, z]) :=
      ⟨by show 3 ≤ sizeLine; decide, [v1, v2, v3], .cons ru (.cons ru2 (.cons ru3 .nil)), ⟨_, hT2, rfl, _, rfl⟩⟩
    have I1 : Inv X pins σ (upd H s.heap.objs.size (.tup [x, y, z])) { s with heap := h'', toks := tk } :=
      I.turnedNew (t' := tk) (ch := [N + 5, N + 3, N + 4, N, N + 1, N + 2]) (fun c o hb q => (sb.2 c (fun q' => hb (by simp [q']))).trans (hk c o (fun q' => hb (by simp [q'])) (fun q' => hb (by simp [q'])) (fun q' => hb (by simp [q'])) (fun q' => hb (by simp [q'])) (fun q' => hb (by simp [q'])) q)) hf (Nat.le_refl _) new
    have nz : ∀ k, k < 5 → N + k ≠ N + 5 := fun k hk => offN N k 5 (Nat.ne_of_lt hk)
    have n0 : N ≠ N + 5 := offZ N 5 (by decide)
    refine ⟨.ref s.heap.objs.size, _, I1, rfl, ⟨_, x, y, z, rfl, I.hok.fresh (Nat.le_refl _), rfl, fun l hl => by rw [I.tuple_inj hl hqx]; exact hx, fun l hl => by rw [I.tuple_inj hl hqy]; exact hy, fun l hl => by rw [I.tuple_inj hl hqz]; exact hzz⟩, ⟨z'', ?_, ⟨v1, v2, v3, ?_⟩, ?_, ?_, ?_⟩, fun d hdm => ?_⟩
    · exact (sb.2 _ (nz 3 (by decide))).trans (hk _ _ (nz 3 (by decide)) (offN N 3 4 (by decide)) (offZ N 3 (by decide)).symm (offN N 3 1 (by decide)) (offN N 3 2 (by decide)) hTI)
    · exact (sb.2 _ (nz 4 (by decide))).trans TO'
    · exact s1.1.at fun o q => (sb.2 _ n0).trans q
    · exact s2.1.at fun o q => (sb.2 _ (nz 1 (by decide))).trans q
    · exact s3.1.at fun o q => (sb.2 _ (nz 2 (by decide))).trans q
    · have hlt : d < s.heap.objs.size := by
        have e' : d = N + 5 ∨ d = N + 3 ∨ d = N + 4 ∨ d = N ∨ d = N + 1 ∨ d = N + 2 := by simpa using hdm
        rcases e' with q | q | q | q | q | q
        · rw [q]; exact hzl
        · rw [q]; exact ltK N _ 3 (by decide) hzl
        · rw [q]; exact ltK N _ 4 (by decide) hzl
        · rw [q]; exact ltZ N _ hzl
        · rw [q]; exact ltK N _ 1 (by decide) hzl
        · rw [q]; exact ltK N _ 2 (by decide) hzl
      rw [upd_ne (Nat.ne_of_lt hlt)]
      exact (hf d hdm).1
  done := by
    intro X hP hw hK hcm i pins s σ H E I hf st hg
    subst hP hw hK
    obtain ⟨hz, hTI, ⟨x0, y0, z0, hTO⟩, h1, h2, h3⟩ := st
    obtain ⟨xs, ys, zs, hqx, hqy, hqz, l1, l2, l3, hend⟩ := hg
    obtain ⟨its, rv, p, _⟩ := I.tuple hqx
    obtain ⟨its2, rv2, p2, _⟩ := I.tuple hqy
    obtain ⟨its3, rv3, p3, _⟩ := I.tuple hqz
    have m1 := rv.length
    have m2 := rv2.length
    have m3 := rv3.length
    have hh : X.A.in1.handled = none := I.ok.hd hcm
    have S := zip_sep3 (N := N) (fp1 := [a]) (fp2 := [b]) (fp3 := [c]) (by simpa using ha) (by simpa using hb) (by simpa using hc)
    refine wpAny_pyNext_zipD3_end S (Draws.tuple hh N a (Nat.ne_of_lt ha) its.toArray) (Draws.tuple hh (N + 1) b (Nat.ne_of_lt (Nat.lt_succ_of_lt hb)) its2.toArray) (Draws.tuple hh (N + 2) c (Nat.ne_of_lt (Nat.lt_succ_of_lt (Nat.lt_succ_of_lt hc))) its3.toArray)
      hz hTI hTO ⟨h1, p⟩ ⟨h2, p2⟩ ⟨h3, p3⟩ ?_ ?_ ?_ ?_ fun h' tk hk => ⟨rfl, I.turnedL (t' := tk) (ch := [N + 5, N + 3, N + 4, N, N + 1, N + 2]) (fun c o hb q =>
      hk c o (fun q' => hb (by simp [q'])) (fun q' => hb (by simp [q'])) (fun q' => hb (by simp [q'])) (fun q' => hb (by simp [q'])) (fun q' => hb (by simp [q'])) q) hf⟩
    · simp; omega
    · simp; omega
    · simp; omega
    · simp; omega
  self := fun A i s Q E st h => wpAny_pyIter_zip st.1 h
def iZip3 (K : PySem.W.Frag) (ta : TA) : TI := fun σ H R => ta σ H fun vs H1 => ∃ a b c xs ys zs, vs = [.ref a, .ref b, .ref c] ∧ SqT K H1 a xs ∧ SqT K H1 b ys ∧ SqT K H1 c zs ∧ R (Itz3 K a b c) H1
theorem pi_zip3 {X : Cx} {e e2 e3 : Expr} {ta : TA} {p pos tpos : Pos} {elts : List Expr} {kk : Nat} (hg : Gl X "zip") (hm : X.mg "zip" = none) (ha : PA X [e, e2, e3] ta)
    (hs : starEach [e, e2, e3] X.env = (false, eval e X.env) :: starEach [e2, e3] X.env) (hpl : (backTo pos (starEach [e2, e3] X.env)).any (·.1) = false) :
    PI X (.Tuple elts kk tpos) (.Call (.Name "zip" p) [e, e2, e3] [] pos) (iZip3 X.K ta) := by
  refine ⟨fun pins s σ H R I h => ?_⟩
  refine Call_ (ld_blt I hg hm PyProof.Rows.boot_zip (PyProof.Rows.callWith_type1 (thn (ha.run pos pins s σ H _ I h) fun us s1 ⟨vs, H1, I1, r1, q1⟩ => ?_) hs hpl))
  obtain ⟨a, b, c, xs, ys, zs, ex, hqx, hqy, hqz, q⟩ := q1
  subst ex
  obtain ⟨u1, u2, u3, rfl, r1, r2, r3⟩ : ∃ u1 u2 u3, us = [u1, u2, u3] ∧ RelV (.ref a) u1 ∧ RelV (.ref b) u2 ∧ RelV (.ref c) u3 := by
    cases r1 with
    | cons r rr => cases rr with
      | cons r' rr => cases rr with
        | cons r'' rr => cases rr; exact ⟨_, _, _, rfl, r, r', r''⟩
  cases r1
  cases r2
  cases r3
  have fresh6 : ∀ d, d ∈ [s1.heap.objs.size + 5, s1.heap.objs.size + 3, s1.heap.objs.size + 4, s1.heap.objs.size, s1.heap.objs.size + 1, s1.heap.objs.size + 2] → FpOk X pins H1 d := fun d hdm => by
    have e' : d = s1.heap.objs.size + 5 ∨ d = s1.heap.objs.size + 3 ∨ d = s1.heap.objs.size + 4 ∨ d = s1.heap.objs.size ∨ d = s1.heap.objs.size + 1 ∨ d = s1.heap.objs.size + 2 := by simpa using hdm
    have hle : s1.heap.objs.size ≤ d := by
      rcases e' with z | z | z | z | z | z <;> (rw [z]; first | exact Nat.le_refl _ | exact Nat.le_add_right _ _)
    exact I1.fpOk hle (I1.hok.fresh hle)
  obtain ⟨its, rv, p1, _⟩ := I1.tuple hqx
  obtain ⟨its2, rv2, p2, _⟩ := I1.tuple hqy
  obtain ⟨its3, rv3, p3, _⟩ := I1.tuple hqz
  refine zip_begins3 (begins_tuple a its.toArray) (begins_tuple b its2.toArray) (begins_tuple c its3.toArray) p1 p2 p3 fun h' hz hTI hTO h1 h2 h3 hsz hk => wpAny_pyIter_zip hz ?_
  have I2 : Inv X pins σ H1 { s1 with heap := h' } := I1.kept (t' := s1.toks) hk
  exact ⟨s1.heap.objs.size + 5, [s1.heap.objs.size + 5, s1.heap.objs.size + 3, s1.heap.objs.size + 4, s1.heap.objs.size, s1.heap.objs.size + 1, s1.heap.objs.size + 2], _, _, H1, rfl, I2, turn_zip3 p1.lt p2.lt p3.lt, ⟨hz, hTI, ⟨_, _, _, hTO⟩, ⟨_, h1, rfl, rfl⟩, ⟨_, h2, rfl, rfl⟩, ⟨_, h3, rfl, rfl⟩⟩, fresh6, q⟩
end K24
/-! K24Chk: does a text of the program stand for a term of the small language? The kernel reckons it. -/
set_option Elab.async false
set_option linter.all false
set_option maxRecDepth 100000
namespace K24
open PySem PySem.Spec PyProof.Rows L2 ClX RZ
/-- what of a body's surroundings the check looks at -/
structure Cc where
  N : List Str
  sc : Scope
  fn : Str → Bool
def visB (sc : Scope) (x : Str) : Bool := match sc.names.lookup x with
  | some .local => true
  | some .cell => true
  | some .free => true
  | _ => false
def locB (c : Cc) (x : Str) : Bool := match c.sc.names.lookup x with
  | some .local => true
  | some .cell => c.fn x
  | _ => false
def isLocal (sc : Scope) (x : Str) : Bool := match sc.names.lookup x with
  | some .local => true
  | _ => false
def glB (sc : Scope) (x : Str) : Bool := match sc.names.lookup x with
  | some .globalImplicit => true
  | _ => false
def nameAt (c : Cc) (i : Nat) (x : Str) : Bool := decide (c.N[i]? = some x)
def bopOk : BOp → Operator → Bool
  | .add, .Add => true
  | .sub, .Sub => true
  | .mul, .Mult => true
  | .fdiv, .FloorDiv => true
  | .mod, .Mod => true
  | .pow, .Pow => true
  | _, _ => false
def copOk : COp → CmpOp → Bool
  | .eq, .Eq => true
  | .ne, .NotEq => true
  | .lt, .Lt => true
  | .le, .LtE => true
  | .gt, .Gt => true
  | .ge, .GtE => true
  | .isin, .In => true
  | .nin, .NotIn => true
  | _, _ => false
def litOk : D → Const → Bool
  | .non, .none => true
  | .bl b, .bool b' => b == b'
  | .int i, .int j => decide (i = j)
  | .str l, .str s => decide (s = ⟨l.toArray⟩)
  | _, _ => false
/-- a test: no a if t else b, no minus -/
def tstB : Expr → Bool
  | .IfExp _ _ _ _ => false
  | .UnaryOp op _ _ => (match op with
    | .Not => true
    | _ => false)
  | _ => true
def bltName : Blt → String
  | .len => "len"
  | .int => "int"
  | .tuple => "tuple"
  | .list => "list"
  | .min2 => "min"
  | .max2 => "max"
  | .minl => "min"
  | .maxl => "max"
def bltN2 : Blt → Nat
  | .min2 => 2
  | .max2 => 2
  | _ => 1
/-- the class of isinstance: 0 bool, 1 str, 2 int, 3 + c own -/
def isiName (M : Nms) (T : Prog) (sc : Scope) (k : Nat) (e : Expr) : Bool := match e with
  | .Name x _ => glB sc x && (match k with
    | 0 => decide (x = "bool")
    | 1 => decide (x = "str")
    | 2 => decide (x = "int")
    | k + 3 => decide (x = M.cnm k) && (T.cls[k]?).isSome)
  | _ => false
def isiAll (M : Nms) (T : Prog) (sc : Scope) : List Nat → List Expr → Bool
  | [], [] => true
  | k :: ks, e :: es => notStar e && (isiName M T sc k e && isiAll M T sc ks es)
  | _, _ => false
def isiB (M : Nms) (T : Prog) (sc : Scope) (one : Bool) (ks : List Nat) (z : Expr) : Bool := match one with
  | true => (match ks with | [k] => isiName M T sc k z | _ => false)
  | false => (match z with | .Tuple es _ _ => isiAll M T sc ks es && (Nat.ble es.length 100 && !ks.isEmpty) | _ => false)
def noInit (T : Prog) (k : Nat) : Bool := match T.cls[k]? with
  | some ci => ci.init.isNone
  | none => false
def namesAt (c : Cc) : List Nat → List Expr → Bool
  | [], [] => true
  | i :: is, .Name x _ :: es => nameAt c i x && (locB c x && namesAt c is es)
  | _, _ => false
def tgB (c : Cc) (tg : Tg) (e : Expr) : Bool := match tg with
  | .one i => (match e with | .Name x _ => nameAt c i x && locB c x | _ => false)
  | .many is => (match e with | .Tuple es _ _ => namesAt c is es | _ => false)
def isTup : Expr → Bool
  | .Tuple _ _ _ => true
  | _ => false
def ownOf (N : List Str) (is : List Nat) : List (Str × Nat) := is.map fun i => (N.getD i "", i)
def kwNames (kws : List Keyword) : List (Option Str) := kws.map (·.arg)
/-- how many values the call of an __init__ takes: by place (without self), by keyword -/
def initB (M : Nms) (T : Prog) (c n : Nat) (kws : List Keyword) : Bool := match T.cls[c]? with
  | some ci => (match ci.init with
    | some d => Nat.beq ((M.ps d).length) (n + 1 + kws.length) && decide (kwNames kws = (M.ks d).map some)
    | none => false)
  | none => false
def noKw (M : Nms) (d n : Nat) : Bool := Nat.beq (M.ps d).length n && (M.ks d).isEmpty
section
variable (M : Nms) (T : Prog)
mutual
def chkE : IE → Cc → Expr → Bool
  | .bad, _, _ => true
  | .var i, c, e => (match e with | .Name x _ => nameAt c i x && visB c.sc x | _ => false)
  | .lit d, _, e => (match e with | .Constant k _ _ => litOk d k | _ => false)
  | .glob g, c, e => (match e with | .Name x _ => decide (x = M.gnm g) && glB c.sc x | _ => false)
  | .bin op a b, c, e => (match e with | .BinOp x o y _ => bopOk op o && (chkE a c x && chkE b c y) | _ => false)
  | .neg a, c, e => (match e with | .UnaryOp .USub x _ => chkE a c x | _ => false)
  | .not a, c, e => (match e with | .UnaryOp .Not x _ => chkE a c x && tstB x | _ => false)
  | .and a b, c, e => (match e with
    | .BoolOp .And (x :: rest) p => chkE a c x && (tstB x && (match rest with
      | [y] => chkE b c y && tstB y
      | [] => false
      | _ => (match b with | .and _ _ => chkE b c (.BoolOp .And rest p) | _ => false)))
    | _ => false)
  | .or a b, c, e => (match e with
    | .BoolOp .Or (x :: rest) p => chkE a c x && (tstB x && (match rest with
      | [y] => chkE b c y && tstB y
      | [] => false
      | _ => (match b with | .or _ _ => chkE b c (.BoolOp .Or rest p) | _ => false)))
    | _ => false)
  | .ite t a b, c, e => (match e with | .IfExp u x y _ => chkE t c u && (tstB u && (chkE a c x && chkE b c y)) | _ => false)
  | .cmp op a b, c, e => (match e with | .Compare x [o] [y] _ => copOk op o && (notSet y && (chkE a c x && chkE b c y)) | _ => false)
  | .chain o1 o2 a b u, c, e => (match e with | .Compare x [p1, p2] [y, z] _ => copOk o1 p1 && (copOk o2 p2 && (notSet z && (chkE a c x && (chkE b c y && chkE u c z)))) | _ => false)
  | .isN a, c, e => (match e with | .Compare x [.Is] [.Constant .none _ _] _ => chkE a c x | _ => false)
  | .notN a, c, e => (match e with | .Compare x [.IsNot] [.Constant .none _ _] _ => chkE a c x | _ => false)
  | .notT a, c, e => (match e with | .Compare x [.IsNot] [.Constant (.bool true) _ _] _ => chkE a c x | _ => false)
  | .call d as, c, e => (match e with | .Call (.Name x _) (y :: es) [] _ => decide (M.dnm d = some x) && (glB c.sc x && (noKw M d (es.length + 1) && ((y :: es).all notStar && chkL as c (y :: es) []))) | _ => false)
  | .make k as, c, e => (match e with | .Call (.Name x _) (y :: es) kws _ => decide (x = M.cnm k) && (glB c.sc x && (initB M T k (es.length + 1) kws && ((y :: es).all notStar && chkL as c (y :: es) kws))) | _ => false)
  | .make0 k, c, e => (match e with | .Call (.Name x _) [] [] _ => decide (x = M.cnm k) && (glB c.sc x && noInit T k) | _ => false)
  | .meth o m as, c, e => (match e with | .Call (.Attribute x a ap) es [] p => decide (a = M.anm m) && (plainO x && (es.all notStar && (Nat.blt es.length 30 && (ap.endLine == p.line && (chkE o c x && chkL as c es []))))) | _ => false)
  | .attr o f, c, e => (match e with | .Attribute x a _ => decide (a = M.anm f) && (plainO x && chkE o c x) | _ => false)
  | .prop o f, c, e => (match e with | .Attribute x a _ => decide (a = M.anm f) && (plainO x && chkE o c x) | _ => false)
  | .blt b as, c, e => (match e with | .Call (.Name x _) (y :: es) [] _ => decide (x = bltName b) && (glB c.sc x && (Nat.beq (es.length + 1) (bltN2 b) && ((y :: es).all notStar && chkL as c (y :: es) []))) | _ => false)
  | .isin a one ks, c, e => (match e with | .Call (.Name x _) [y, z] [] _ => decide (x = "isinstance") && (glB c.sc x && (notStar y && (notStar z && (chkE a c y && isiB M T c.sc one ks z)))) | _ => false)
  | .sw a b u, c, e => (match e with | .Call (.Attribute x t ap) [y, z] [] p => decide (t = "startswith") && (plainO x && (notStar y && (notStar z && (ap.endLine == p.line && (chkE a c x && (chkE b c y && chkE u c z)))))) | _ => false)
  | .dget t a, c, e => (match e with | .Subscript (.Name x _) y _ => decide (x = M.tnm t) && (glB c.sc x && (notSlice y && chkE a c y)) | _ => false)
  | .dnin t a, c, e => (match e with | .Compare y [.NotIn] [.Name x _] _ => decide (x = M.tnm t) && (glB c.sc x && chkE a c y) | _ => false)
  | .idx a i, c, e => (match e with | .Subscript x y _ => notSlice y && (chkE a c x && chkE i c y) | _ => false)
  | .sl a lo hi, c, e => (match e with | .Subscript x (.Slice l u none _) _ => chkE a c x && (chkO lo c l && chkO hi c u) | _ => false)
  | .tup as, c, e => (match e with | .Tuple es _ _ => es.all notStar && chkL as c es [] | _ => false)
  | .lst as, c, e => (match e with | .List es _ => es.all notStar && chkL as c es [] | _ => false)
  | .comp u tg it t, c, e => (match e with
    | .ListComp x [⟨g, i, ifs, z⟩] scope _ => decide (z = 0) && (notSet i && (chkI it c i g && (blkC c.N c.sc scope (ownOf c.N tg.slots) && (tgB ⟨c.N, relS scope c.sc, fun x => scope.names.lookup x == some .cell⟩ tg g &&
      (chkE u ⟨c.N, relS scope c.sc, fun x => scope.names.lookup x == some .cell⟩ x && chkC t ⟨c.N, relS scope c.sc, fun x => scope.names.lookup x == some .cell⟩ ifs)))))
    | _ => false)
def chkL : IL → Cc → List Expr → List Keyword → Bool
  | .nil, _, es, kws => (match es, kws with | [], [] => true | _, _ => false)
  | .cons a r, c, es, kws => (match es with
    | e :: es => chkE a c e && chkL r c es kws
    | [] => (match kws with
      | k :: kws => chkE a c k.value && chkL r c [] kws
      | [] => false))
def chkO : IO → Cc → Option Expr → Bool
  | .no, _, e => (match e with | none => true | _ => false)
  | .yes a, c, e => (match e with | some x => chkE a c x | none => false)
def chkC : IO → Cc → List Expr → Bool
  | .no, _, es => (match es with | [] => true | _ => false)
  | .yes a, c, es => (match es with | [x] => chkE a c x && tstB x | _ => false)
def chkI : II → Cc → Expr → Expr → Bool
  | .val a, c, e, _ => chkE a c e
  | .rng a, c, e, _ => (match e with | .Call (.Name x _) [y] [] _ => decide (x = "range") && (glB c.sc x && (notStar y && chkE a c y)) | _ => false)
  | .zip2 a b, c, e, g => (match e with | .Call (.Name x _) [y, z] [] _ => decide (x = "zip") && (glB c.sc x && (isTup g && (notStar y && (notStar z && (chkE a c y && chkE b c z))))) | _ => false)
  | .zip3 a b u, c, e, g => (match e with | .Call (.Name x _) [y, z, w] [] _ => decide (x = "zip") && (glB c.sc x && (isTup g && (notStar y && (notStar z && (notStar w && (chkE a c y && (chkE b c z && chkE u c w))))))) | _ => false)
end
def initOf (T : Prog) (k d : Nat) : Bool := match T.cls[k]? with
  | some ci => decide (ci.init = some d)
  | none => false
def isLC : Expr → Bool
  | .ListComp _ _ _ _ => true
  | _ => false
/-- does name = [.. for ..] store its list within the comprehension's frame? -/
def swapB (c : Cc) (y : Str) (py : Pos) (e : Expr) : Bool := match e with
  | .ListComp _ _ scope p => isLocal c.sc y && (py.line == p.line && !(scope.names.any fun (n, k) => n == y && (k == .local || k == .cell)))
  | _ => false
mutual
def chkS : IS → Cc → Stmt → Bool
  | .never, _, _ => true
  | .set i e, c, s => (match s with
    | .Assign [.Name y py] x _ => nameAt c i y && (locB c y && (chkE M T e c x && (notComp x || isLC x)))
    | _ => false)
  | .newl i as, c, s => (match s with | .Assign [.Name y _] (.List es _) _ => nameAt c i y && (locB c y && (es.all notStar && chkL M T as c es [])) | _ => false)
  | .newo i k as, c, s => (match s with | .Assign [.Name y _] (.Call (.Name x _) (z :: es) [] _) _ => nameAt c i y && (locB c y && (decide (x = M.cnm k) && (glB c.sc x && (initB M T k (es.length + 1) [] && ((z :: es).all notStar && chkL M T as c (z :: es) []))))) | _ => false)
  | .seta i f e, c, s => (match s with | .Assign [.Attribute (.Name y _) a _] x _ => nameAt c i y && (visB c.sc y && (decide (a = M.anm f) && chkE M T e c x)) | _ => false)
  | .seti i k e, c, s => (match s with | .Assign [.Subscript (.Name y _) j _] x _ => nameAt c i y && (visB c.sc y && (notSlice j && (chkE M T k c j && chkE M T e c x))) | _ => false)
  | .sett is e, c, s => (match s with | .Assign [.Tuple ts _ _] x _ => notTup x && (namesAt c is ts && chkE M T e c x) | _ => false)
  | .app i e, c, s => (match s with | .Expr (.Call (.Attribute (.Name y _) a ap) [x] [] p) _ => nameAt c i y && (visB c.sc y && (decide (a = "append") && (notStar x && (ap.endLine == p.line && chkE M T e c x)))) | _ => false)
  | .expr e, c, s => (match s with | .Expr x _ => notComp x && chkE M T e c x | _ => false)
  | .base k d as, c, s => (match s with | .Expr (.Call (.Attribute (.Name x _) a ap) (z :: es) [] p) _ => initOf T k d && (decide (x = M.cnm k) && (decide (a = "__init__") && (glB c.sc x && (noKw M d (es.length + 1) && ((z :: es).all notStar && (Nat.blt (es.length + 1) 30 && (ap.endLine == p.line && chkL M T as c (z :: es) []))))))) | _ => false)
  | .ret e, c, s => (match s with | .Return (some x) _ => chkE M T e c x | _ => false)
  | .ite t a b, c, s => (match s with | .If x y z _ => chkE M T t c x && (tstB x && (chkB a c y && chkB b c z)) | _ => false)
  | .whl t b, c, s => (match s with | .While x y [] _ => chkE M T t c x && (tstB x && chkB b c y) | _ => false)
  | .loop tg it b, c, s => (match s with | .For g i y [] _ => notSet i && (chkI M T it c i g && (tgB c tg g && chkB b c y)) | _ => false)
def chkB : IB → Cc → List Stmt → Bool
  | .nil, _, ss => (match ss with | [] => true | _ => false)
  | .cons a r, c, ss => (match ss with | s :: ss => chkS a c s && chkB r c ss | [] => false)
end
end
/-- a def: its names, parameters, scope, body -/
def chkF (M : Nms) (T : Prog) (d : Nat) (N : List Str) (sc : Scope) (body : List Stmt) : Bool := match T.defs[d]? with
  | some I => Nat.beq I.np (M.ps d).length && (Nat.beq I.ns N.length && (decide (N.take (M.ps d).length = M.ps d) && (N.all (fun x => !(x == ("__debug__" : Str)) && !(x == ("__classdict__" : Str))) && chkB M T I.body ⟨N, sc, fun _ => true⟩ body)))
  | none => false
end K24
/-! K24Tab: the names and places of the linked text, and that each def stands for its term; printed by gen.py. -/
set_option Elab.async false
set_option linter.all false
set_option maxRecDepth 100000
set_option maxHeartbeats 4000000
namespace K24
open PySem L2
def chkD (d : Nat) : Bool := chkF nms prog d (nmL.getD d []) (defScope (stT d)) (defBody (stT d))
theorem ck0 : chkD 0 = true := by decide +kernel
theorem ck1 : chkD 1 = true := by decide +kernel
theorem ck2 : chkD 2 = true := by decide +kernel
theorem ck3 : chkD 3 = true := by decide +kernel
theorem ck4 : chkD 4 = true := by decide +kernel
theorem ck5 : chkD 5 = true := by decide +kernel
theorem ck6 : chkD 6 = true := by decide +kernel
theorem ck7 : chkD 7 = true := by decide +kernel
theorem ck8 : chkD 8 = true := by decide +kernel
theorem ck9 : chkD 9 = true := by decide +kernel
theorem ck10 : chkD 10 = true := by decide +kernel
theorem ck11 : chkD 11 = true := by decide +kernel
theorem ck12 : chkD 12 = true := by decide +kernel
theorem ck13 : chkD 13 = true := by decide +kernel
theorem ck14 : chkD 14 = true := by decide +kernel
theorem ck15 : chkD 15 = true := by decide +kernel
theorem ck16 : chkD 16 = true := by decide +kernel
theorem ck17 : chkD 17 = true := by decide +kernel
theorem ck18 : chkD 18 = true := by decide +kernel
theorem ck19 : chkD 19 = true := by decide +kernel
theorem ck20 : chkD 20 = true := by decide +kernel
theorem ck21 : chkD 21 = true := by decide +kernel
theorem ck22 : chkD 22 = true := by decide +kernel
theorem ck23 : chkD 23 = true := by decide +kernel
theorem ck24 : chkD 24 = true := by decide +kernel
theorem ck25 : chkD 25 = true := by decide +kernel
theorem ck26 : chkD 26 = true := by decide +kernel
theorem ck27 : chkD 27 = true := by decide +kernel
theorem ck28 : chkD 28 = true := by decide +kernel
theorem ck29 : chkD 29 = true := by decide +kernel
theorem ck30 : chkD 30 = true := by decide +kernel
theorem ck31 : chkD 31 = true := by decide +kernel
theorem ck32 : chkD 32 = true := by decide +kernel
theorem ck33 : chkD 33 = true := by decide +kernel
theorem ck34 : chkD 34 = true := by decide +kernel
theorem ck35 : chkD 35 = true := by decide +kernel
theorem ck36 : chkD 36 = true := by decide +kernel
theorem ck37 : chkD 37 = true := by decide +kernel
theorem ck38 : chkD 38 = true := by decide +kernel
theorem ck39 : chkD 39 = true := by decide +kernel
theorem ck40 : chkD 40 = true := by decide +kernel
theorem ck41 : chkD 41 = true := by decide +kernel
theorem ck42 : chkD 42 = true := by decide +kernel
theorem ck43 : chkD 43 = true := by decide +kernel
theorem ck44 : chkD 44 = true := by decide +kernel
theorem ck45 : chkD 45 = true := by decide +kernel
theorem ck46 : chkD 46 = true := by decide +kernel
theorem ck47 : chkD 47 = true := by decide +kernel
theorem ck48 : chkD 48 = true := by decide +kernel
theorem ck49 : chkD 49 = true := by decide +kernel
theorem ck50 : chkD 50 = true := by decide +kernel
theorem ck51 : chkD 51 = true := by decide +kernel
theorem ck52 : chkD 52 = true := by decide +kernel
theorem ck53 : chkD 53 = true := by decide +kernel
theorem ck54 : chkD 54 = true := by decide +kernel
theorem ck55 : chkD 55 = true := by decide +kernel
theorem ck56 : chkD 56 = true := by decide +kernel
theorem ck57 : chkD 57 = true := by decide +kernel
theorem ck58 : chkD 58 = true := by decide +kernel
theorem ck59 : chkD 59 = true := by decide +kernel
theorem ck60 : chkD 60 = true := by decide +kernel
theorem ck61 : chkD 61 = true := by decide +kernel
theorem ck62 : chkD 62 = true := by decide +kernel
theorem ck63 : chkD 63 = true := by decide +kernel
theorem ck64 : chkD 64 = true := by decide +kernel
theorem ck65 : chkD 65 = true := by decide +kernel
theorem ck66 : chkD 66 = true := by decide +kernel
theorem ck67 : chkD 67 = true := by decide +kernel
theorem ck68 : chkD 68 = true := by decide +kernel
theorem ck69 : chkD 69 = true := by decide +kernel
theorem ck70 : chkD 70 = true := by decide +kernel
theorem ck71 : chkD 71 = true := by decide +kernel
theorem ck72 : chkD 72 = true := by decide +kernel
theorem ck73 : chkD 73 = true := by decide +kernel
theorem ck74 : chkD 74 = true := by decide +kernel
theorem ck75 : chkD 75 = true := by decide +kernel
theorem ck76 : chkD 76 = true := by decide +kernel
theorem ck77 : chkD 77 = true := by decide +kernel
theorem ck78 : chkD 78 = true := by decide +kernel
theorem ck79 : chkD 79 = true := by decide +kernel
theorem ck80 : chkD 80 = true := by decide +kernel
theorem ck81 : chkD 81 = true := by decide +kernel
theorem ck82 : chkD 82 = true := by decide +kernel
theorem ck83 : chkD 83 = true := by decide +kernel
theorem ck84 : chkD 84 = true := by decide +kernel
theorem ck85 : chkD 85 = true := by decide +kernel
theorem ck86 : chkD 86 = true := by decide +kernel
theorem ck87 : chkD 87 = true := by decide +kernel
theorem ck88 : chkD 88 = true := by decide +kernel
theorem ck89 : chkD 89 = true := by decide +kernel
theorem ck90 : chkD 90 = true := by decide +kernel
theorem ck91 : chkD 91 = true := by decide +kernel
theorem ck92 : chkD 92 = true := by decide +kernel
theorem ck93 : chkD 93 = true := by decide +kernel
theorem ck94 : chkD 94 = true := by decide +kernel
theorem ck95 : chkD 95 = true := by decide +kernel
theorem ck96 : chkD 96 = true := by decide +kernel
theorem ck97 : chkD 97 = true := by decide +kernel
theorem ck98 : chkD 98 = true := by decide +kernel
theorem ck99 : chkD 99 = true := by decide +kernel
theorem ck100 : chkD 100 = true := by decide +kernel
theorem ck101 : chkD 101 = true := by decide +kernel
theorem ck102 : chkD 102 = true := by decide +kernel
theorem ck103 : chkD 103 = true := by decide +kernel
theorem ck104 : chkD 104 = true := by decide +kernel
theorem ck105 : chkD 105 = true := by decide +kernel
theorem ck106 : chkD 106 = true := by decide +kernel
theorem ck107 : chkD 107 = true := by decide +kernel
theorem ck108 : chkD 108 = true := by decide +kernel
theorem ck109 : chkD 109 = true := by decide +kernel
theorem ck110 : chkD 110 = true := by decide +kernel
theorem ck111 : chkD 111 = true := by decide +kernel
theorem ck112 : chkD 112 = true := by decide +kernel
theorem ck113 : chkD 113 = true := by decide +kernel
theorem ck114 : chkD 114 = true := by decide +kernel
theorem ck115 : chkD 115 = true := by decide +kernel
theorem ck116 : chkD 116 = true := by decide +kernel
theorem ck117 : chkD 117 = true := by decide +kernel
theorem ck118 : chkD 118 = true := by decide +kernel
theorem ck119 : chkD 119 = true := by decide +kernel
theorem ck120 : chkD 120 = true := by decide +kernel
theorem ck121 : chkD 121 = true := by decide +kernel
theorem ck122 : chkD 122 = true := by decide +kernel
theorem ck123 : chkD 123 = true := by decide +kernel
theorem ck124 : chkD 124 = true := by decide +kernel
theorem ck125 : chkD 125 = true := by decide +kernel
theorem ck126 : chkD 126 = true := by decide +kernel
theorem ck127 : chkD 127 = true := by decide +kernel
theorem ck128 : chkD 128 = true := by decide +kernel
theorem ck129 : chkD 129 = true := by decide +kernel
theorem ck130 : chkD 130 = true := by decide +kernel
theorem ck131 : chkD 131 = true := by decide +kernel
theorem ck132 : chkD 132 = true := by decide +kernel
theorem ck133 : chkD 133 = true := by decide +kernel
theorem ck134 : chkD 134 = true := by decide +kernel
theorem ck135 : chkD 135 = true := by decide +kernel
theorem ck136 : chkD 136 = true := by decide +kernel
theorem ck137 : chkD 137 = true := by decide +kernel
theorem ck138 : chkD 138 = true := by decide +kernel
theorem ck139 : chkD 139 = true := by decide +kernel
theorem ck140 : chkD 140 = true := by decide +kernel
theorem ck141 : chkD 141 = true := by decide +kernel
theorem ck142 : chkD 142 = true := by decide +kernel
theorem ck143 : chkD 143 = true := by decide +kernel
end K24
/-! K24Snd2: readings of the small language's terms; names, constants, operators, comparisons. -/
set_option Elab.async false
set_option linter.all false
set_option maxRecDepth 100000
set_option maxHeartbeats 1000000
namespace K24
open PySem PySem.Spec PyProof.Rows L2 ClX RZ
theorem bnd_inv {α β : Type} {x : Option α} {f : α → Option β} {y : β} (h : bnd x f = some y) : ∃ a, x = some a ∧ f a = some y := by
  cases x with
  | none => cases h
  | some a => exact ⟨a, rfl, h⟩
/-- how arguments come to parameters: by place, then by keyword, all given -/
def BindA (fd : FuncData) (ps ks : List Str) : Prop := ∀ (s : Shared) (us ws : List Value), us.length + ks.length = ps.length → ws.length = ks.length → BindsTo s fd ⟨us, ks.zip ws⟩ (ps.zip (us ++ ws))
/-- what isinstance asks of an own class -/
structure IsaOk (K : PySem.W.Frag) (C : Addr) : Prop where
  ha : PySem.W.findIn K (.ref C) "__class__" = some (some (.builtin "object.__class__"))
  hn : PySem.W.specialIn K (.builtin "object.__class__") "__get__" = some (some (.builtin "getset_descriptor.__get__"))
  htk : PySem.W.takesIn K (.builtin "object.__class__") = some true
  hm : PySem.W.mroIn K C (.type "object") = some true
/-- what the text's top has left -/
structure TOk (w : World) (K : PySem.W.Frag) (mg : Str → Option Value) (L : Lay) : Prop where
  cls : ∀ c ci, L.T.cls[c]? = some ci → Cls K (L.cadr c)
  glc : ∀ c ci, L.T.cls[c]? = some ci → mg (L.M.cnm c) = some (.ref (L.cadr c))
  mki : ∀ c ci d, L.T.cls[c]? = some ci → ci.init = some d → Mk K (L.cadr c) (L.fadr d)
  mk0 : ∀ c ci, L.T.cls[c]? = some ci → ci.init = none → Mk0 K (L.cadr c)
  noat : ∀ c f, f ∈ L.flds c → NoAttr K (L.cadr c) (L.M.anm f)
  inj : ∀ c f g, f ∈ L.flds c → g ∈ L.flds c → L.M.anm f = L.M.anm g → f = g
  meth : ∀ c ci m d, L.T.cls[c]? = some ci → look2 m ci.meths = some d → Meth K (L.cadr c) (L.M.anm m) (L.fadr d) ∧ ∀ f ∈ L.flds c, L.M.anm f ≠ L.M.anm m
  prop : ∀ c ci m d, L.T.cls[c]? = some ci → look2 m ci.props = some d → ∃ p, PropOf K (L.cadr c) (L.M.anm m) p (L.fadr d)
  mks : ∀ (c : Nat) (ci : ClsI) (m d : Nat), L.T.cls[c]? = some ci → (look2 m ci.meths = some d ∨ look2 m ci.props = some d) → L.M.ks d = []
  base : ∀ c ci d, L.T.cls[c]? = some ci → ci.init = some d → ∃ mc, CRead K (L.cadr c) mc ∧ CVal K (L.cadr c) mc "__init__" (.ref (L.fadr d)) (.ref (L.fadr d)) ∧ PySem.W.keepIn K (.ref (L.fadr d)) = true
  bind : ∀ d I, L.T.defs[d]? = some I → BindA (L.ffd d) (L.M.ps d) (L.M.ks d)
  gld : ∀ d x, L.M.dnm d = some x → mg x = some (.ref (L.fadr d)) ∧ PySem.W.keepIn K (.ref (L.fadr d)) = true
  glob : ∀ g x, L.T.globs[g]? = some x → ∃ u v, mg (L.M.gnm g) = some u ∧ RelV v u ∧ ∀ Hf, Rep K L Hf x v
  dict : ∀ t kvs, L.T.dicts[t]? = some kvs → ∃ p es n, mg (L.M.tnm t) = some (.ref p) ∧ KDict K w p es n ∧ ∀ l x, lookS l kvs = some x → ∃ u v, PySem.W.nsIn K p ⟨l.toArray⟩ = some (some u) ∧ RelV v u ∧ ∀ Hf, Rep K L Hf x v
  isT : ∀ k, k ∈ L.T.conds → IsaOk K (L.cadr k) ∧ Cls K (L.cadr k)
  isK : ∀ k c, k ∈ L.T.conds → c ∈ L.T.conds → PySem.W.kitOne K (.ref (L.cadr k)) (.ref (L.cadr c)) = some (Nat.beq k c) ∧ mg (L.M.cnm c) = some (.ref (L.cadr c))
  free : ∀ x : Str, x ∈ (["len", "int", "tuple", "list", "min", "max", "isinstance", "range", "zip", "bool", "str"] : List Str) → mg x = none
  dbgc : ∀ c, (L.M.cnm c == ("__debug__" : Str)) = false
  dbgd : ∀ d x, L.M.dnm d = some x → (x == ("__debug__" : Str)) = false
  dbgg : ∀ g, (L.M.gnm g == ("__debug__" : Str)) = false
  dbgt : ∀ t, (L.M.tnm t == ("__debug__" : Str)) = false
/-- the promise of a def by its term, to a depth of calls -/
def spI (K : PySem.W.Frag) (L : Lay) (n d : Nat) : Sp := fun vs H Q _ => ∃ Fr Hf rho as h r h', Rel K L Fr Hf rho h H ∧ RepAs K L Hf rho as vs ∧ callF L.T n d as h = some (r, h') ∧
  ∀ Hg H' x, Same Hf Hg → Rel K L Fr Hg rho h' H' → Rep K L Hg r x → Q x H'
structure XOk (L : Lay) (n : Nat) (c : Cc) (X : Cx) : Prop where
  hN : X.N = c.N
  sc : X.env.scope = c.sc
  fn : X.fn = c.fn
  nd : X.N.Nodup
  dbg : ∀ x ∈ X.N, (x == ("__debug__" : Str)) = false ∧ (x == ("__classdict__" : Str)) = false
  calm : X.calm = true
  room : Room (2 * n + 1) X.A
  tok : TOk X.w X.K X.mg L
  fns : ∀ d I, L.T.defs[d]? = some I → FnOk X.prog X.w X.K X.mg X.base CX0 (2 * n) (L.fadr d) (L.ffd d) (L.M.ps d) (spI X.K L n d)

/-! ### readings -/
def tG {α β : Type} (K : PySem.W.Frag) (L : Lay) (rep : Hp → List Addr → α → β → Prop) (r : Sl → Hs → Option (α × Hs)) (σ : L2.St) (H : Hp) (Q : β → Hp → Prop) : Prop :=
  ∃ Fr Hf rho s h v h', Rel K L Fr Hf rho h H ∧ RepS K L Hf rho s σ ∧ r s h = some (v, h') ∧ ∀ Hg H' x, Same Hf Hg → Rel K L Fr Hg rho h' H' → rep Hg rho v x → Q x H'
abbrev tE (K : PySem.W.Frag) (L : Lay) (n : Nat) (e : IE) : TE := tG K L (RepA K L) (ev L.T (callF L.T n) e)
abbrev tL (K : PySem.W.Frag) (L : Lay) (n : Nat) (e : IL) : TA := tG K L (RepAs K L) (evs L.T (callF L.T n) e)
abbrev tB (K : PySem.W.Frag) (L : Lay) (n : Nat) (e : IE) : TT := tG K L (fun _ _ (a b : Bool) => a = b) (evb L.T (callF L.T n) e)
abbrev tO (K : PySem.W.Frag) (L : Lay) (n : Nat) (e : IO) : TO := tG K L (fun _ _ (a b : Option Int) => a = b) (evo L.T (callF L.T n) e)
abbrev tC (K : PySem.W.Frag) (L : Lay) (n : Nat) (e : IO) : TT := tG K L (fun _ _ (a b : Bool) => a = b) (evc L.T (callF L.T n) e)

section
variable {X : Cx} {L : Lay} {n : Nat} {pos : Pos} {a b u : IE} {e1 e2 e3 : Expr}
theorem gl_of {c : Cc} {x : Str} (O : XOk L n c X) (h : glB c.sc x = true) : Gl X x := by
  have h2 : (match c.sc.names.lookup x with | some .globalImplicit => true | _ => false) = true := h
  show X.env.scope.names.lookup x = some .globalImplicit
  rw [O.sc]
  split at h2
  · assumption
  · cases h2
theorem vis_of {c : Cc} {x : Str} (O : XOk L n c X) (h : visB c.sc x = true) : Vis X.env.scope x := by
  have h2 : (match c.sc.names.lookup x with | some .local => true | some .cell => true | some .free => true | _ => false) = true := h
  unfold Vis
  rw [O.sc]
  split at h2
  · exact .inl (by assumption)
  · exact .inr (.inl (by assumption))
  · exact .inr (.inr (by assumption))
  · cases h2
theorem loc_of {c : Cc} {x : Str} (O : XOk L n c X) (h : locB c x = true) : L2.Loc X.env.scope x ∧ (X.fn x = true ∨ X.env.scope.names.lookup x = some .local) := by
  have h2 : (match c.sc.names.lookup x with | some .local => true | some .cell => c.fn x | _ => false) = true := h
  unfold L2.Loc
  rw [O.sc, O.fn]
  split at h2
  · exact ⟨.inl (by assumption), .inr (by assumption)⟩
  · exact ⟨.inr (by assumption), .inl h2⟩
  · cases h2
theorem at_ofN {c : Cc} {i : Nat} {x : Str} (O : XOk L n c X) (h : nameAt c i x = true) : X.N[i]? = some x := by
  rw [O.hN]
  exact of_decide_eq_true h
theorem s_var {c : Cc} {i : Nat} {x : Str} (O : XOk L n c X) (h1 : nameAt c i x = true) (h2 : visB c.sc x = true) : PE X (.Name x pos) (tE X.K L n (.var i)) := by
  have hN := at_ofN O h1
  obtain ⟨d1, d2⟩ := O.dbg x (List.mem_of_getElem? hN)
  refine PE.imp (pe_var hN (vis_of O h2) d1 d2) fun σ H Q ⟨Fr, Hf, rho, s, h, v, h', R, S, e, k⟩ => ?_
  simp only [ev] at e
  split at e
  · rename_i w q
    cases e
    obtain ⟨x, k1, k2⟩ := S.2 i _ q
    exact ⟨x, k1, k Hf H x (Same.refl _) R k2⟩
  · cases e
theorem s_bad {e : Expr} : PE X e (tE X.K L n .bad) := ⟨fun _ _ _ _ _ _ h => by
  obtain ⟨Fr, Hf, rho, s, h, v, h', R, S, e, k⟩ := h
  simp only [ev] at e
  cases e⟩
theorem s_lit {d : D} {k : Const} {j : Nat} (h : litOk d k = true) : PE X (.Constant k j pos) (tE X.K L n (.lit d)) := by
  have go : ∀ {v : V}, (∀ Hf, Rep X.K L Hf d v) → PE X (.Constant k j pos) (L2.tC v) → PE X (.Constant k j pos) (tE X.K L n (.lit d)) := fun {v} r p => PE.imp p fun σ H Q ⟨Fr, Hf, rho, s, h, w, h', R, S, e, k⟩ => by
    simp only [ev] at e
    cases e
    exact k Hf H v (Same.refl _) R (.d (r Hf))
  cases d with
  | non => cases k with
    | none => exact go (fun _ => .non) pe_non
    | _ => cases h
  | bl b => cases k with
    | bool b' =>
      have e : b = b' := by
        have h1 : (b == b') = true := h
        exact eq_of_beq h1
      subst e
      exact go (fun _ => .bl b) pe_bl
    | _ => cases h
  | int i => cases k with
    | int j =>
      have e : i = j := of_decide_eq_true h
      subst e
      exact go (fun _ => .int i) pe_int
    | _ => cases h
  | str l => cases k with
    | str s =>
      have e : s = ⟨l.toArray⟩ := of_decide_eq_true h
      subst e
      exact go (fun _ => .str l) pe_str
    | _ => cases h
  | _ => cases k <;> cases h
theorem s_glob {c : Cc} {g : Nat} {x : Str} (O : XOk L n c X) (h1 : x = L.M.gnm g) (h2 : glB c.sc x = true) : PE X (.Name x pos) (tE X.K L n (.glob g)) := by
  refine ⟨fun pins s σ H Q I hq => ?_⟩
  obtain ⟨Fr, Hf, rho, sl, h, w, h', R, S, e, k⟩ := hq
  simp only [ev] at e
  obtain ⟨d, e1, e⟩ := bnd_inv e
  cases e
  obtain ⟨u, v, hu, r, q⟩ := O.tok.glob g d e1
  subst h1
  exact (pe_glob (gl_of O h2) hu r (O.tok.dbgg g)).run pins s σ H Q I (k Hf H v (Same.refl _) R (.d (q Hf)))
end
end K24
/-! K24Snd3: operators, tests, comparisons. -/
set_option Elab.async false
set_option linter.all false
set_option maxRecDepth 100000
set_option maxHeartbeats 1000000
namespace K24
open PySem PySem.Spec PyProof.Rows L2 ClX RZ
section
variable {X : Cx} {L : Lay} {n : Nat} {pos : Pos} {a b u : IE} {e1 e2 e3 : Expr}
theorem toD_inv {v : AV} {x : D} (h : toD v = some x) : v = .d x := by
  cases v with
  | ref n => cases h
  | d y =>
    have e : y = x := Option.some.inj h
    rw [e]
theorem RepA.d' {K : PySem.W.Frag} {Hf : Hp} {rho : List Addr} {x : D} {v : V} (h : RepA K L Hf rho (.d x) v) : Rep K L Hf x v := by
  cases h with
  | d h => exact h
theorem line_eq : K24.line = sizeLine := by rw [sizeLine_eq]; rfl
theorem ble_of {i j : Nat} (h : Nat.ble i j = true) : i ≤ j := Nat.le_of_ble_eq_true h
theorem blt_of {i j : Nat} (h : Nat.blt i j = true) : i < j := Nat.le_of_ble_eq_true h
/-- two data operands, then an operation on their values -/
theorem s_two {r : Sl → Hs → Option (AV × Hs)} {g : D → D → Hs → Option (AV × Hs)} {σ : L2.St} {H : Hp} {Q : VK} {K : PySem.W.Frag} {R2' : V → V → Hp → Prop}
    (hr : ∀ s h, r s h = bnd (ev L.T (callF L.T n) a s h) fun p => bnd (toD p.1) fun x => bnd (ev L.T (callF L.T n) b s p.2) fun q => bnd (toD q.1) fun y => g x y q.2)
    (hq : tG K L (RepA K L) r σ H Q)
    (hg : ∀ (Fr Hf : Hp) (rho : List Addr) (h : Hs) (H : Hp) (x y : D) (vx vy : V) (v : AV) (h' : Hs), Rel K L Fr Hf rho h H → Rep K L Hf x vx → Rep K L Hf y vy → g x y h = some (v, h') →
      (∀ Hg H' x, Same Hf Hg → Rel K L Fr Hg rho h' H' → RepA K L Hg rho v x → Q x H') → R2' vx vy H) :
    tE K L n a σ H fun x H1 => tE K L n b σ H1 fun y H2 => R2' x y H2 := by
  obtain ⟨Fr, Hf, rho, s, h, v, h', R, S, e, k⟩ := hq
  rw [hr] at e
  obtain ⟨p, e1, e⟩ := bnd_inv e
  obtain ⟨x, e2, e⟩ := bnd_inv e
  obtain ⟨q, e3, e⟩ := bnd_inv e
  obtain ⟨y, e4, e⟩ := bnd_inv e
  obtain ⟨p1, p2⟩ := p
  obtain ⟨q1, q2⟩ := q
  cases toD_inv e2
  cases toD_inv e4
  refine ⟨Fr, Hf, rho, s, h, _, _, R, S, e1, fun Hg H1 vx sm R1 rx => ⟨Fr, Hg, rho, s, _, _, _, R1, S.mono sm List.prefix_rfl, e3, fun Hg2 H2 vy sm2 R2 ry => ?_⟩⟩
  exact hg Fr Hg2 rho q2 H2 x y vx vy v h' R2 (rx.d'.mono sm2) ry.d' e fun Hg' H' z sm' R' r' => k Hg' H' z ((sm.trans sm2).trans sm') R' r'
theorem mulOk_of {i j : Int} (h : mulOk i j = true) : CMul i j := by
  have h1 : (Nat.blt i.natAbs 18446744073709551616 || Nat.blt j.natAbs 18446744073709551616) = true := h
  rw [Bool.or_eq_true] at h1
  rcases h1 with z | z
  · have := blt_of z
    exact .inl ⟨by omega, by omega⟩
  · have := blt_of z
    exact .inr ⟨by omega, by omega⟩
/-- the rule of an operator -/
def rB (K : PySem.W.Frag) (L : Lay) (op : BOp) : R2 := fun x y H Q => ∃ (Fr Hf : Hp) (rho : List Addr) (h : Hs) (c d z : D), Rel K L Fr Hf rho h H ∧ Rep K L Hf c x ∧ Rep K L Hf d y ∧ bin op c d = some z ∧
  ∀ Hg H' w, Same Hf Hg → Rel K L Fr Hg rho h H' → Rep K L Hg z w → Q w H'
def bopO : BOp → Operator
  | .add => .Add
  | .sub => .Sub
  | .mul => .Mult
  | .fdiv => .FloorDiv
  | .mod => .Mod
  | .pow => .Pow
theorem bop_eq {op : BOp} {o : Operator} (h : bopOk op o = true) : o = bopO op := by
  cases op <;> cases o <;> first | rfl | cases h
theorem op_B (op : BOp) : OpR X (binaryOp (bopO op)) (rB X.K L op) := by
  intro pins s σ H x y v w Q I rx ry h
  obtain ⟨Fr, Hf, rho, hs, c, d, z, R, hc, hd, e, q⟩ := h
  have fin : ∀ i, z = .int i → Q (.int i) H := fun i ez => q Hf H (.int i) (Same.refl _) R (by rw [ez]; exact .int i)
  cases op with
  | add =>
    cases hc with
    | int i =>
      cases hd with
      | int j => exact op_add pins s σ H _ _ v w Q I rx ry ⟨i, j, rfl, rfl, fin _ (Option.some.inj e).symm⟩
      | _ => cases e
    | str i =>
      cases hd with
      | str j =>
        have e2 : (match Nat.ble (i.length + j.length) K24.line with | true => some (D.str (i ++ j)) | false => none) = some z := e
        split at e2
        · rename_i hl
          cases e2
          have h1 : (⟨i.toArray⟩ : Str) ++ ⟨j.toArray⟩ = ⟨(i ++ j).toArray⟩ := by
            show (⟨i.toArray ++ j.toArray⟩ : Str) = _
            rw [List.append_toArray]
          refine op_add_str pins s σ H _ _ v w Q I rx ry ⟨_, _, rfl, rfl, ?_, ?_⟩
          · have := ble_of hl
            rw [line_eq] at this
            exact this
          · rw [h1]
            exact q Hf H _ (Same.refl _) R (.str _)
        · cases e2
      | _ => cases e
    | lst hl1 hz1 r1 =>
      cases hd with
      | lst hl2 hz2 r2 =>
        rename_i a1 ds1 vs1 a2 ds2 vs2
        have e2 : (match Nat.ble (ds1.length + ds2.length) K24.line with | true => some (D.lst (ds1 ++ ds2)) | false => none) = some z := e
        split at e2
        · rename_i hl
          cases e2
          have hz : vs1.length + vs2.length ≤ sizeLine := by
            have := ble_of hl
            rw [line_eq, r1.length, r2.length] at this
            exact this
          refine op_cat pins s σ H _ _ v w Q I rx ry ⟨_, _, _, _, rfl, rfl, R.same _ _ hl1, R.same _ _ hl2, hz, fun p hp => ?_⟩
          obtain ⟨kf, R'⟩ := R.allocF (o := .lst (vs1 ++ vs2)) hp
          exact q _ _ _ kf R' (.lst upd_same (by rw [List.length_append]; exact hz) ((r1.mono kf).append (r2.mono kf)))
        · cases e2
      | _ => cases e
    | _ => cases e
  | sub =>
    cases hc with
    | int i =>
      cases hd with
      | int j => exact op_sub pins s σ H _ _ v w Q I rx ry ⟨i, j, rfl, rfl, fin _ (Option.some.inj e).symm⟩
      | _ => cases e
    | _ => cases e
  | mul =>
    cases hc with
    | int i =>
      cases hd with
      | int j =>
        have e2 : (match mulOk i j with | true => some (D.int (i * j)) | false => none) = some z := e
        split at e2
        · rename_i hl
          exact op_mul pins s σ H _ _ v w Q I rx ry ⟨i, j, rfl, rfl, mulOk_of hl, fin _ (Option.some.inj e2).symm⟩
        · cases e2
      | _ => cases e
    | _ => cases e
  | fdiv =>
    cases hc with
    | int i =>
      cases hd with
      | int j =>
        have e2 : (match decide (j ≠ 0) && Nat.blt j.natAbs 1073741824 with | true => some (D.int (i.fdiv j)) | false => none) = some z := e
        split at e2
        · rename_i hl
          rw [Bool.and_eq_true] at hl
          exact op_fdivN pins s σ H _ _ v w Q I rx ry ⟨i, j, rfl, rfl, ⟨of_decide_eq_true hl.1, blt_of hl.2⟩, fin _ (Option.some.inj e2).symm⟩
        · cases e2
      | _ => cases e
    | _ => cases e
  | mod =>
    cases hc with
    | int i =>
      cases hd with
      | int j =>
        have e2 : (match decide (j ≠ 0) with | true => some (D.int (i.fmod j)) | false => none) = some z := e
        split at e2
        · rename_i hl
          exact op_modN pins s σ H _ _ v w Q I rx ry ⟨i, j, rfl, rfl, of_decide_eq_true hl, fin _ (Option.some.inj e2).symm⟩
        · cases e2
      | _ => cases e
    | _ => cases e
  | pow =>
    cases hc with
    | int i =>
      cases hd with
      | int j =>
        have e2 : (match decide (0 ≤ j) && (decide (j ≤ 1000000) && Nat.blt i.natAbs 18446744073709551616) with | true => some (D.int (i ^ j.toNat)) | false => none) = some z := e
        split at e2
        · rename_i hl
          rw [Bool.and_eq_true, Bool.and_eq_true] at hl
          exact op_pow pins s σ H _ _ v w Q I rx ry ⟨i, j, rfl, rfl, ⟨of_decide_eq_true hl.1, of_decide_eq_true hl.2.1, blt_of hl.2.2⟩, fin _ (Option.some.inj e2).symm⟩
        · cases e2
      | _ => cases e
    | _ => cases e
theorem s_bin {op : BOp} {o : Operator} (h : bopOk op o = true) (ha : PE X e1 (tE X.K L n a)) (hb : PE X e2 (tE X.K L n b)) : PE X (.BinOp e1 o e2 pos) (tE X.K L n (.bin op a b)) := by
  rw [bop_eq h]
  refine PE.imp (pe_op (op_B (L := L) op) ha hb) fun σ H Q hq => ?_
  refine s_two (r := ev L.T (callF L.T n) (.bin op a b)) (g := fun x y h => bnd (bin op x y) fun z => some (.d z, h)) (fun s h => by simp only [ev]) hq fun Fr Hf rho h H x y vx vy v h' R rx ry e k => ?_
  obtain ⟨z, e1, e⟩ := bnd_inv e
  cases e
  exact ⟨Fr, Hf, rho, h, x, y, z, R, rx, ry, e1, fun Hg H' w sm R' r' => k Hg H' w sm R' (.d r')⟩
theorem s_neg (ha : PE X e1 (tE X.K L n a)) : PE X (.UnaryOp .USub e1 pos) (tE X.K L n (.neg a)) := by
  refine PE.imp (pe_un un_neg ha) fun σ H Q ⟨Fr, Hf, rho, s, h, v, h', R, S, e, k⟩ => ?_
  simp only [ev] at e
  obtain ⟨p, e1, e⟩ := bnd_inv e
  refine ⟨Fr, Hf, rho, s, h, _, _, R, S, e1, fun Hg H1 x sm R1 rx => ?_⟩
  split at e
  · rename_i i hp
    cases e
    rw [hp] at rx
    cases rx.d'
    exact ⟨i, rfl, k Hg H1 _ sm R1 (.d (.int _))⟩
  · cases e
theorem s_not (ha : PE X e1 (tE X.K L n a)) : PE X (.UnaryOp .Not e1 pos) (tE X.K L n (.not a)) := by
  refine PE.imp (pe_not ha) fun σ H Q ⟨Fr, Hf, rho, s, h, v, h', R, S, e, k⟩ => ?_
  simp only [ev] at e
  obtain ⟨p, e1, e⟩ := bnd_inv e
  refine ⟨Fr, Hf, rho, s, h, _, _, R, S, e1, fun Hg H1 x sm R1 rx => ?_⟩
  split at e
  · rename_i i hp
    cases e
    rw [hp] at rx
    cases rx.d'
    exact ⟨i, rfl, k Hg H1 _ sm R1 (.d (.bl _))⟩
  · cases e
theorem s_and {es : List Expr} (ha : PE X e1 (tE X.K L n a)) (hb : PE X (.BoolOp .And (e2 :: es) pos) (tE X.K L n b)) : PE X (.BoolOp .And (e1 :: e2 :: es) pos) (tE X.K L n (.and a b)) := by
  refine PE.imp (pe_and ha hb) fun σ H Q ⟨Fr, Hf, rho, s, h, v, h', R, S, e, k⟩ => ?_
  simp only [ev] at e
  obtain ⟨p, e1, e⟩ := bnd_inv e
  refine ⟨Fr, Hf, rho, s, h, _, _, R, S, e1, fun Hg H1 x sm R1 rx => ?_⟩
  split at e
  · rename_i hp
    rw [hp] at rx
    cases rx.d'
    exact ⟨true, rfl, iteT ⟨Fr, Hg, rho, s, _, _, _, R1, S.mono sm List.prefix_rfl, e, fun Hg2 H2 y sm2 R2 ry => k Hg2 H2 y (sm.trans sm2) R2 ry⟩⟩
  · rename_i hp
    rw [hp] at rx
    cases rx.d'
    cases e
    exact ⟨false, rfl, iteF (k Hg H1 _ sm R1 (.d (.bl false)))⟩
  · cases e
theorem s_or {es : List Expr} (ha : PE X e1 (tE X.K L n a)) (hb : PE X (.BoolOp .Or (e2 :: es) pos) (tE X.K L n b)) : PE X (.BoolOp .Or (e1 :: e2 :: es) pos) (tE X.K L n (.or a b)) := by
  refine PE.imp (pe_or ha hb) fun σ H Q ⟨Fr, Hf, rho, s, h, v, h', R, S, e, k⟩ => ?_
  simp only [ev] at e
  obtain ⟨p, e1, e⟩ := bnd_inv e
  refine ⟨Fr, Hf, rho, s, h, _, _, R, S, e1, fun Hg H1 x sm R1 rx => ?_⟩
  split at e
  · rename_i hp
    rw [hp] at rx
    cases rx.d'
    cases e
    exact ⟨true, rfl, iteT (k Hg H1 _ sm R1 (.d (.bl true)))⟩
  · rename_i hp
    rw [hp] at rx
    cases rx.d'
    exact ⟨false, rfl, iteF ⟨Fr, Hg, rho, s, _, _, _, R1, S.mono sm List.prefix_rfl, e, fun Hg2 H2 y sm2 R2 ry => k Hg2 H2 y (sm.trans sm2) R2 ry⟩⟩
  · cases e
/-- a term as a test -/
theorem evb_inv {e : IE} {s : Sl} {h : Hs} {p : Bool × Hs} (q : evb L.T (callF L.T n) e s h = some p) : ev L.T (callF L.T n) e s h = some (.d (.bl p.1), p.2) := by
  unfold evb at q
  obtain ⟨r, q1, q⟩ := bnd_inv q
  obtain ⟨x, q2, q⟩ := bnd_inv q
  obtain ⟨b, q3, q⟩ := bnd_inv q
  cases q
  obtain ⟨r1, r2⟩ := r
  cases toD_inv q2
  cases x with
  | bl c => cases q3; exact q1
  | _ => cases q3
theorem evb_of {e : IE} {s : Sl} {h : Hs} {b : Bool} {h' : Hs} (q : ev L.T (callF L.T n) e s h = some (.d (.bl b), h')) : evb L.T (callF L.T n) e s h = some (b, h') := by
  unfold evb
  rw [q]
  rfl
/-- its value's truth -/
theorem s_test (ha : PE X e1 (tE X.K L n a)) (h : plainT e1 = true) : PT X e1 (tB X.K L n a) := by
  refine PT.imp (pt_val ha (test_plain h)) fun σ H Q ⟨Fr, Hf, rho, s, h, v, h', R, S, e, k⟩ => ?_
  refine ⟨Fr, Hf, rho, s, h, _, _, R, S, evb_inv e, fun Hg H1 x sm R1 rx => ?_⟩
  cases rx.d'
  exact ⟨_, rfl, k Hg H1 _ sm R1 rfl⟩
theorem t_not (ha : PT X e1 (tB X.K L n a)) : PT X (.UnaryOp .Not e1 pos) (tB X.K L n (.not a)) := by
  refine PT.imp (pt_not ha) fun σ H Q ⟨Fr, Hf, rho, s, h, v, h', R, S, e, k⟩ => ?_
  have e := evb_inv e
  simp only [ev] at e
  obtain ⟨p, e1, e⟩ := bnd_inv e
  split at e
  · rename_i i hp
    obtain ⟨p1, p2⟩ := p
    cases (show p1 = AV.d (.bl i) from hp)
    have ev' : v = !i := by
      have e' := Option.some.inj e
      have := (Prod.mk.inj e').1
      injection this with this
      injection this with this
      exact this.symm
    have eh : p2 = h' := (Prod.mk.inj (Option.some.inj e)).2
    subst ev' eh
    refine ⟨Fr, Hf, rho, s, h, _, _, R, S, evb_of e1, fun Hg H1 x sm R1 rx => ?_⟩
    subst rx
    exact k Hg H1 _ sm R1 rfl
  · cases e
theorem t_and {es : List Expr} (ha : PT X e1 (tB X.K L n a)) (hb : PW X (.BoolOp .And (e2 :: es) pos) (tB X.K L n b)) : PW X (.BoolOp .And (e1 :: e2 :: es) pos) (tB X.K L n (.and a b)) := by
  refine PW.imp (pw_and ha hb) fun σ H Q ⟨Fr, Hf, rho, s, h, v, h', R, S, e, k⟩ => ?_
  have e := evb_inv e
  simp only [ev] at e
  obtain ⟨⟨p1, p2⟩, e1, e⟩ := bnd_inv e
  split at e
  · rename_i hp
    cases (show p1 = AV.d (.bl true) from hp)
    refine ⟨Fr, Hf, rho, s, h, _, _, R, S, evb_of e1, fun Hg H1 x sm R1 rx => ?_⟩
    subst rx
    exact iteT ⟨Fr, Hg, rho, s, _, _, _, R1, S.mono sm List.prefix_rfl, evb_of e, fun Hg2 H2 y sm2 R2 ry => k Hg2 H2 y (sm.trans sm2) R2 ry⟩
  · rename_i hp
    cases (show p1 = AV.d (.bl false) from hp)
    have ev' : v = false := by
      have := (Prod.mk.inj (Option.some.inj e)).1
      injection this with this
      injection this with this
      exact this.symm
    have eh : p2 = h' := (Prod.mk.inj (Option.some.inj e)).2
    subst ev' eh
    refine ⟨Fr, Hf, rho, s, h, _, _, R, S, evb_of e1, fun Hg H1 x sm R1 rx => ?_⟩
    subst rx
    exact iteF (k Hg H1 _ sm R1 rfl)
  · cases e
theorem t_or {es : List Expr} (ha : PT X e1 (tB X.K L n a)) (hb : PW X (.BoolOp .Or (e2 :: es) pos) (tB X.K L n b)) : PW X (.BoolOp .Or (e1 :: e2 :: es) pos) (tB X.K L n (.or a b)) := by
  refine PW.imp (pw_or ha hb) fun σ H Q ⟨Fr, Hf, rho, s, h, v, h', R, S, e, k⟩ => ?_
  have e := evb_inv e
  simp only [ev] at e
  obtain ⟨⟨p1, p2⟩, e1, e⟩ := bnd_inv e
  split at e
  · rename_i hp
    cases (show p1 = AV.d (.bl true) from hp)
    have ev' : v = true := by
      have := (Prod.mk.inj (Option.some.inj e)).1
      injection this with this
      injection this with this
      exact this.symm
    have eh : p2 = h' := (Prod.mk.inj (Option.some.inj e)).2
    subst ev' eh
    refine ⟨Fr, Hf, rho, s, h, _, _, R, S, evb_of e1, fun Hg H1 x sm R1 rx => ?_⟩
    subst rx
    exact iteT (k Hg H1 _ sm R1 rfl)
  · rename_i hp
    cases (show p1 = AV.d (.bl false) from hp)
    refine ⟨Fr, Hf, rho, s, h, _, _, R, S, evb_of e1, fun Hg H1 x sm R1 rx => ?_⟩
    subst rx
    exact iteF ⟨Fr, Hg, rho, s, _, _, _, R1, S.mono sm List.prefix_rfl, evb_of e, fun Hg2 H2 y sm2 R2 ry => k Hg2 H2 y (sm.trans sm2) R2 ry⟩
  · cases e
theorem s_ite (hc : PT X e3 (tB X.K L n u)) (ha : PE X e1 (tE X.K L n a)) (hb : PE X e2 (tE X.K L n b)) : PE X (.IfExp e3 e1 e2 pos) (tE X.K L n (.ite u a b)) := by
  refine PE.imp (pe_ifExp hc ha hb) fun σ H Q ⟨Fr, Hf, rho, s, h, v, h', R, S, e, k⟩ => ?_
  simp only [ev] at e
  obtain ⟨⟨p1, p2⟩, e1, e⟩ := bnd_inv e
  split at e
  · rename_i hp
    cases (show p1 = AV.d (.bl true) from hp)
    refine ⟨Fr, Hf, rho, s, h, _, _, R, S, evb_of e1, fun Hg H1 x sm R1 rx => ?_⟩
    subst rx
    exact iteT ⟨Fr, Hg, rho, s, _, _, _, R1, S.mono sm List.prefix_rfl, e, fun Hg2 H2 y sm2 R2 ry => k Hg2 H2 y (sm.trans sm2) R2 ry⟩
  · rename_i hp
    cases (show p1 = AV.d (.bl false) from hp)
    refine ⟨Fr, Hf, rho, s, h, _, _, R, S, evb_of e1, fun Hg H1 x sm R1 rx => ?_⟩
    subst rx
    exact iteF ⟨Fr, Hg, rho, s, _, _, _, R1, S.mono sm List.prefix_rfl, e, fun Hg2 H2 y sm2 R2 ry => k Hg2 H2 y (sm.trans sm2) R2 ry⟩
  · cases e
end
end K24
/-! K24Snd4: comparisons. -/
set_option Elab.async false
set_option linter.all false
set_option maxRecDepth 100000
set_option maxHeartbeats 1000000
namespace K24
open PySem PySem.Spec PyProof.Rows L2 ClX RZ
section
variable {K : PySem.W.Frag} {L : Lay} {Hf H : Hp}
theorem str_inj {l m : List Nat} : (V.str ⟨l.toArray⟩ = V.str ⟨m.toArray⟩) ↔ l = m := by
  constructor
  · intro h
    injection h with h
    injection h with h
    simpa using congrArg Array.toList h
  · intro h; rw [h]
/-- data that are read in a heap: a list may still be changed later -/
def RepL (K : PySem.W.Frag) (L : Lay) (Hf H : Hp) (d : D) (v : V) : Prop := match d with
  | .lst ds => ∃ a vs, v = .ref a ∧ H a = some (.lst vs) ∧ vs.length ≤ sizeLine ∧ Reps K L Hf ds vs
  | d => Rep K L Hf d v
theorem Rep.toL {d : D} {v : V} (h : Rep K L Hf d v) (s : Same Hf H) : RepL K L Hf H d v := by
  cases h with
  | lst h hl r => exact ⟨_, _, rfl, s _ _ h, hl, r⟩
  | non => exact .non
  | bl b => exact .bl b
  | int i => exact .int i
  | str l => exact .str l
  | tup h hl r => exact .tup h hl r
  | scr h hl => exact .scr h hl
  | ins h r => exact .ins h r
theorem look_inv {Fr : Hp} {rho : List Addr} {h : Hs} {v : AV} {x : V} {d : D} (R : Rel K L Fr Hf rho h H) (rx : RepA K L Hf rho v x) (e : look h v = some d) : RepL K L Hf H d x := by
  cases rx with
  | d r =>
    cases (Option.some.inj (show some _ = some d from e))
    exact r.toL R.same
  | ref hr =>
    rename_i m a
    have e2 : (match h[m]? with | some (.lst xs) => some (D.lst xs) | _ => none) = some d := e
    split at e2
    · rename_i xs q
      cases e2
      obtain ⟨_, vs, h1, h2, h3⟩ := (show OR K L Hf H (.lst xs) a from R.obj m _ a q hr)
      exact ⟨a, vs, rfl, h1, h2, h3⟩
    · cases e2
theorem dec_bool {p q : Prop} [Decidable p] [Decidable q] (h : p ↔ q) : decide p = decide q := by
  by_cases hp : p
  · rw [decide_eq_true hp, decide_eq_true (h.mp hp)]
  · rw [decide_eq_false hp, decide_eq_false fun z => hp (h.mpr z)]
theorem eqD_ok {x y : D} {vx vy : V} {b : Bool} (rx : Rep K L Hf x vx) (ry : RepL K L Hf H y vy) (e : eqD x y = some b) : scal vx vy = true ∧ b = decide (vx = vy) := by
  cases rx with
  | non =>
    cases y with
    | non => cases (show Rep K L Hf .non vy from ry); cases e; exact ⟨rfl, rfl⟩
    | bl c => cases (show Rep K L Hf (.bl c) vy from ry); cases e; exact ⟨rfl, by simp⟩
    | int c => cases (show Rep K L Hf (.int c) vy from ry); cases e; exact ⟨rfl, by simp⟩
    | str c => cases (show Rep K L Hf (.str c) vy from ry); cases e; exact ⟨rfl, by simp⟩
    | _ => cases e
  | bl i =>
    cases y with
    | non => cases (show Rep K L Hf .non vy from ry); cases e; exact ⟨rfl, by simp⟩
    | bl c => cases (show Rep K L Hf (.bl c) vy from ry); cases e; exact ⟨rfl, dec_bool (by simp)⟩
    | str c => cases (show Rep K L Hf (.str c) vy from ry); cases e; exact ⟨rfl, by simp⟩
    | _ => cases e
  | int i =>
    cases y with
    | non => cases (show Rep K L Hf .non vy from ry); cases e; exact ⟨rfl, by simp⟩
    | int c => cases (show Rep K L Hf (.int c) vy from ry); cases e; exact ⟨rfl, dec_bool (by simp)⟩
    | str c => cases (show Rep K L Hf (.str c) vy from ry); cases e; exact ⟨rfl, by simp⟩
    | _ => cases e
  | str i =>
    cases y with
    | non => cases (show Rep K L Hf .non vy from ry); cases e; exact ⟨rfl, by simp⟩
    | bl c => cases (show Rep K L Hf (.bl c) vy from ry); cases e; exact ⟨rfl, by simp⟩
    | int c => cases (show Rep K L Hf (.int c) vy from ry); cases e; exact ⟨rfl, by simp⟩
    | str c => cases (show Rep K L Hf (.str c) vy from ry); cases e; exact ⟨rfl, dec_bool str_inj.symm⟩
    | _ => cases e
  | _ => cases y <;> cases e
theorem ltL_eq : ∀ a b : List Nat, ltL a b = decide (a < b)
  | [], [] => by simp [ltL]
  | _ :: _, [] => by simp [ltL]
  | [], _ :: _ => by simp [ltL]
  | x :: xs, y :: ys => by
    have ih := ltL_eq xs ys
    show (Nat.blt x y || (Nat.beq x y && ltL xs ys)) = decide (x :: xs < y :: ys)
    rw [ih]
    have h1 : Nat.blt x y = decide (x < y) := by
      cases q : Nat.blt x y with
      | true => exact (decide_eq_true (blt_of q)).symm
      | false =>
        refine (decide_eq_false fun z => ?_).symm
        have : Nat.blt x y = true := Nat.ble_eq_true_of_le z
        rw [q] at this; cases this
    have h2 : Nat.beq x y = decide (x = y) := by
      cases q : Nat.beq x y with
      | true => exact (decide_eq_true (Nat.eq_of_beq_eq_true q)).symm
      | false => exact (decide_eq_false (Nat.ne_of_beq_eq_false q)).symm
    rw [h1, h2]
    rw [Bool.eq_iff_iff]
    simp [List.cons_lt_cons_iff]
theorem flat_of {d : D} {v : V} (r : Rep K L Hf d v) (h : isStr d = true) : flatV v = true := by
  cases r <;> first | rfl | cases h
theorem flats_of : ∀ {ds : List D} {vs : List V}, Reps K L Hf ds vs → ds.all isStr = true → vs.all flatV = true
  | _, _, .nil, _ => rfl
  | _, _, .cons h t, e => by
    rw [List.all_cons, Bool.and_eq_true] at e
    rw [List.all_cons, flat_of h e.1, flats_of t e.2]
    rfl
theorem eqV_of {d : D} {v : V} {l : List Nat} (r : Rep K L Hf d v) (h : isStr d = true) : eqV v (.str ⟨l.toArray⟩) = eqS l d := by
  cases r with
  | str m =>
    show ((⟨m.toArray⟩ : Str) == ⟨l.toArray⟩) = decide (m = l)
    rw [Bool.eq_iff_iff]
    simp
  | _ => cases h
theorem inV_of {l : List Nat} : ∀ {ds : List D} {vs : List V}, Reps K L Hf ds vs → ds.all isStr = true → inV (.str ⟨l.toArray⟩) vs = ds.any (eqS l)
  | _, _, .nil, _ => rfl
  | _, _, .cons h t, e => by
    rw [List.all_cons, Bool.and_eq_true] at e
    show (eqV _ _ || inV _ _) = _
    rw [eqV_of h e.1, inV_of t e.2]
    rfl
end
def rC (K : PySem.W.Frag) (L : Lay) (op : COp) : R2 := fun x y H Q => ∃ (Fr Hf : Hp) (rho : List Addr) (h : Hs) (c d : D) (b : Bool), Rel K L Fr Hf rho h H ∧ Rep K L Hf c x ∧ RepL K L Hf H d y ∧ cmpD op c d = some b ∧ Q (.bl b) H
def copO : COp → CmpOp
  | .eq => .Eq
  | .ne => .NotEq
  | .lt => .Lt
  | .le => .LtE
  | .gt => .Gt
  | .ge => .GtE
  | .isin => .In
  | .nin => .NotIn
theorem cop_eq {op : COp} {o : CmpOp} (h : copOk op o = true) : o = copO op := by
  cases op <;> cases o <;> first | rfl | cases h
section
variable {X : Cx} {L : Lay} {n : Nat} {pos : Pos} {a b u : IE} {e1 e2 e3 : Expr}
theorem ord_inv {f : Int → Int → Bool} {g : List Nat → List Nat → Bool} {Hf H : Hp} {c d : D} {x y : V} {k : Bool} (hc : Rep X.K L Hf c x) (hd : RepL X.K L Hf H d y) (e : ordD f g c d = some k) :
    (∃ i j, x = .int i ∧ y = .int j ∧ k = f i j) ∨ ∃ l m : List Nat, x = .str ⟨l.toArray⟩ ∧ y = .str ⟨m.toArray⟩ ∧ k = g l m := by
  cases hc with
  | int i =>
    cases d with
    | int j => cases (show Rep X.K L Hf (.int j) y from hd); exact .inl ⟨i, j, rfl, rfl, (Option.some.inj e).symm⟩
    | _ => cases e
  | str l =>
    cases d with
    | str m => cases (show Rep X.K L Hf (.str m) y from hd); exact .inr ⟨l, m, rfl, rfl, (Option.some.inj e).symm⟩
    | _ => cases e
  | _ => cases d <;> cases e
theorem in_inv {Hf H : Hp} {c d : D} {x y : V} {k : Bool} (s : Same Hf H) (hc : Rep X.K L Hf c x) (hd : RepL X.K L Hf H d y) (e : inD c d = some k) :
    ∃ p xs, y = .ref p ∧ (SqL X.K H p xs ∨ SqT X.K H p xs) ∧ flatV x = true ∧ xs.all flatV = true ∧ inV x xs = k := by
  cases hc with
  | str l =>
    cases d with
    | lst ys =>
      obtain ⟨p, vs, h1, h2, h3, h4⟩ := hd
      have e2 : (match ys.all isStr with | true => some (ys.any (eqS l)) | false => none) = some k := e
      split at e2
      · rename_i q
        exact ⟨p, vs, h1, .inl (.of h2), rfl, flats_of h4 q, (inV_of h4 q).trans (Option.some.inj e2)⟩
      · cases e2
    | tup ys =>
      have hd : Rep X.K L Hf (.tup ys) y := hd
      cases hd with
      | tup h hl r =>
        have e2 : (match ys.all isStr with | true => some (ys.any (eqS l)) | false => none) = some k := e
        split at e2
        · rename_i q
          exact ⟨_, _, rfl, .inr (SqT.mono s h), rfl, flats_of r q, (inV_of r q).trans (Option.some.inj e2)⟩
        · cases e2
    | _ => cases e
  | _ => cases d <;> cases e
theorem op_C (op : COp) : OpR X (compareOp (copO op)) (rC X.K L op) := by
  intro pins s σ H x y v w Q I rx ry h
  obtain ⟨Fr, Hf, rho, hs, c, d, k, R, hc, hd, e, q⟩ := h
  cases op with
  | eq =>
    obtain ⟨h1, h2⟩ := eqD_ok hc hd e
    exact op_eq pins s σ H _ _ v w Q I rx ry ⟨h1, by rw [← h2]; exact q⟩
  | ne =>
    obtain ⟨k', e1, e2⟩ := bnd_inv (show bnd (eqD c d) (fun b => some (!b)) = some k from e)
    obtain ⟨h1, h2⟩ := eqD_ok hc hd e1
    refine op_ne pins s σ H _ _ v w Q I rx ry ⟨h1, ?_⟩
    rw [← h2]
    rw [Option.some.inj e2]
    exact q
  | lt =>
    rcases ord_inv hc hd e with ⟨i, j, rfl, rfl, ek⟩ | ⟨l, m, rfl, rfl, ek⟩
    · exact op_lt pins s σ H _ _ v w Q I rx ry ⟨i, j, rfl, rfl, by rw [ek] at q; exact q⟩
    · refine op_lt_str pins s σ H _ _ v w Q I rx ry ⟨_, _, rfl, rfl, ?_⟩
      show Q (.bl (decide (l.toArray.toList < m.toArray.toList))) H
      rw [ltL_eq] at ek
      simp only [List.toList_toArray]
      rw [← ek]
      exact q
  | le =>
    rcases ord_inv hc hd e with ⟨i, j, rfl, rfl, ek⟩ | ⟨l, m, rfl, rfl, ek⟩
    · exact op_le pins s σ H _ _ v w Q I rx ry ⟨i, j, rfl, rfl, by rw [ek] at q; exact q⟩
    · refine op_le_str pins s σ H _ _ v w Q I rx ry ⟨_, _, rfl, rfl, ?_⟩
      show Q (.bl (!decide (m.toArray.toList < l.toArray.toList))) H
      rw [ltL_eq] at ek
      simp only [List.toList_toArray]
      rw [← ek]
      exact q
  | gt =>
    rcases ord_inv hc hd e with ⟨i, j, rfl, rfl, ek⟩ | ⟨l, m, rfl, rfl, ek⟩
    · exact op_gt pins s σ H _ _ v w Q I rx ry ⟨i, j, rfl, rfl, by rw [ek] at q; exact q⟩
    · refine op_gt_str pins s σ H _ _ v w Q I rx ry ⟨_, _, rfl, rfl, ?_⟩
      show Q (.bl (decide (m.toArray.toList < l.toArray.toList))) H
      rw [ltL_eq] at ek
      simp only [List.toList_toArray]
      rw [← ek]
      exact q
  | ge =>
    rcases ord_inv hc hd e with ⟨i, j, rfl, rfl, ek⟩ | ⟨l, m, rfl, rfl, ek⟩
    · exact op_ge pins s σ H _ _ v w Q I rx ry ⟨i, j, rfl, rfl, by rw [ek] at q; exact q⟩
    · refine op_ge_str pins s σ H _ _ v w Q I rx ry ⟨_, _, rfl, rfl, ?_⟩
      show Q (.bl (!decide (l.toArray.toList < m.toArray.toList))) H
      rw [ltL_eq] at ek
      simp only [List.toList_toArray]
      rw [← ek]
      exact q
  | isin =>
    obtain ⟨p, xs, h1, h2, h3, h4, h5⟩ := in_inv R.same hc hd e
    exact op_in_seq pins s σ H _ _ v w Q I rx ry ⟨p, xs, h1, h2, h3, h4, by rw [h5]; exact q⟩
  | nin =>
    obtain ⟨k', e1, e2⟩ := bnd_inv (show bnd (inD c d) (fun b => some (!b)) = some k from e)
    obtain ⟨p, xs, h1, h2, h3, h4, h5⟩ := in_inv R.same hc hd e1
    refine op_notIn_seq pins s σ H _ _ v w Q I rx ry ⟨p, xs, h1, h2, h3, h4, ?_⟩
    rw [h5]
    rw [if_pos rfl, Option.some.inj e2]
    exact q
theorem q_cmp {op : COp} {σ : L2.St} {H : Hp} {Q : VK} (hq : tE X.K L n (.cmp op a b) σ H Q) : tOp (rC X.K L op) (tE X.K L n a) (tE X.K L n b) σ H Q := by
  obtain ⟨Fr, Hf, rho, s, h, v, h', R, S, e, k⟩ := hq
  simp only [ev] at e
  obtain ⟨⟨p1, p2⟩, e1, e⟩ := bnd_inv e
  obtain ⟨x, e2, e⟩ := bnd_inv e
  obtain ⟨⟨q1, q2⟩, e3, e⟩ := bnd_inv e
  obtain ⟨y, e4, e⟩ := bnd_inv e
  obtain ⟨z, e5, e⟩ := bnd_inv e
  cases e
  cases toD_inv e2
  refine ⟨Fr, Hf, rho, s, h, _, _, R, S, e1, fun Hg H1 vx sm R1 rx => ⟨Fr, Hg, rho, s, _, _, _, R1, S.mono sm List.prefix_rfl, e3, fun Hg2 H2 vy sm2 R2 ry => ?_⟩⟩
  exact ⟨Fr, Hg2, rho, q2, x, y, z, R2, rx.d'.mono sm2, look_inv R2 ry e4, e5, k Hg2 H2 _ (sm.trans sm2) R2 (.d (.bl z))⟩
theorem s_cmp {op : COp} {o : CmpOp} (h : copOk op o = true) (hs : notSet e2 = true) (ha : PE X e1 (tE X.K L n a)) (hb : PE X e2 (tE X.K L n b)) : PE X (.Compare e1 [o] [e2] pos) (tE X.K L n (.cmp op a b)) := by
  rw [cop_eq h]
  exact PE.imp (pe_cmpR (op_C (L := L) op) ha hb (mark_no hs)) fun σ H Q hq => q_cmp hq
/-- a bool as a test: from the value's reading -/
theorem q_test {e : IE} {t : TE} (h : ∀ σ H Q, tE X.K L n e σ H Q → t σ H Q) {σ : L2.St} {H : Hp} {Q : Bool → Hp → Prop} (hq : tB X.K L n e σ H Q) : tTest t σ H Q := by
  refine h σ H _ ?_
  obtain ⟨Fr, Hf, rho, s, hs, v, h', R, S, e, k⟩ := hq
  refine ⟨Fr, Hf, rho, s, hs, _, _, R, S, evb_inv e, fun Hg H1 x sm R1 rx => ?_⟩
  cases rx.d'
  exact ⟨_, rfl, k Hg H1 _ sm R1 rfl⟩
theorem t_cmp {op : COp} {o : CmpOp} (h : copOk op o = true) (hs : notSet e2 = true) (ha : PE X e1 (tE X.K L n a)) (hb : PE X e2 (tE X.K L n b)) : PT X (.Compare e1 [o] [e2] pos) (tB X.K L n (.cmp op a b)) := by
  rw [cop_eq h]
  exact PT.imp (pt_cmpR (op_C (L := L) op) ha hb (mark_no hs)) fun σ H Q hq => q_test (fun _ _ _ => q_cmp) hq
theorem q_chain {o1 o2 : COp} {σ : L2.St} {H : Hp} {Q : VK} (hq : tE X.K L n (.chain o1 o2 a b u) σ H Q) : tChain (rC X.K L o1) (rC X.K L o2) (tE X.K L n a) (tE X.K L n b) (tE X.K L n u) σ H Q := by
  obtain ⟨Fr, Hf, rho, s, h, v, h', R, S, e, k⟩ := hq
  simp only [ev] at e
  obtain ⟨⟨p1, p2⟩, e1, e⟩ := bnd_inv e
  obtain ⟨x, e2, e⟩ := bnd_inv e
  obtain ⟨⟨q1, q2⟩, e3, e⟩ := bnd_inv e
  obtain ⟨y, e4, e⟩ := bnd_inv e
  obtain ⟨z, e5, e⟩ := bnd_inv e
  cases toD_inv e2
  cases toD_inv e4
  refine ⟨Fr, Hf, rho, s, h, _, _, R, S, e1, fun Hg H1 vx sm R1 rx => ⟨Fr, Hg, rho, s, _, _, _, R1, S.mono sm List.prefix_rfl, e3, fun Hg2 H2 vy sm2 R2 ry => ?_⟩⟩
  refine ⟨Fr, Hg2, rho, q2, x, y, z, R2, rx.d'.mono sm2, ry.d'.toL R2.same, e5, z, rfl, ?_⟩
  cases z with
  | true =>
    obtain ⟨⟨r1, r2⟩, e6, e⟩ := bnd_inv e
    obtain ⟨w, e7, e⟩ := bnd_inv e
    obtain ⟨w2, e8, e⟩ := bnd_inv e
    cases e
    cases toD_inv e7
    refine iteT ⟨Fr, Hg2, rho, s, _, _, _, R2, S.mono (sm.trans sm2) List.prefix_rfl, e6, fun Hg3 H3 vz sm3 R3 rz => ?_⟩
    exact ⟨Fr, Hg3, rho, r2, y, w, w2, R3, ry.d'.mono sm3, rz.d'.toL R3.same, e8, k Hg3 H3 _ ((sm.trans sm2).trans sm3) R3 (.d (.bl w2))⟩
  | false =>
    cases e
    exact iteF (k Hg2 H2 _ (sm.trans sm2) R2 (.d (.bl false)))
theorem s_chain {o1 o2 : COp} {p1 p2 : CmpOp} (h1 : copOk o1 p1 = true) (h2 : copOk o2 p2 = true) (hs : notSet e3 = true) (ha : PE X e1 (tE X.K L n a)) (hb : PE X e2 (tE X.K L n b)) (hc : PE X e3 (tE X.K L n u)) :
    PE X (.Compare e1 [p1, p2] [e2, e3] pos) (tE X.K L n (.chain o1 o2 a b u)) := by
  rw [cop_eq h1, cop_eq h2]
  exact PE.imp (pe_chain (op_C (L := L) o1) (op_C (L := L) o2) ha hb hc (marks_no hs)) fun σ H Q hq => q_chain hq
theorem t_chain {o1 o2 : COp} {p1 p2 : CmpOp} (h1 : copOk o1 p1 = true) (h2 : copOk o2 p2 = true) (hs : notSet e3 = true) (ha : PE X e1 (tE X.K L n a)) (hb : PE X e2 (tE X.K L n b)) (hc : PE X e3 (tE X.K L n u)) :
    PT X (.Compare e1 [p1, p2] [e2, e3] pos) (tB X.K L n (.chain o1 o2 a b u)) := by
  rw [cop_eq h1, cop_eq h2]
  exact PT.imp (pt_chain (op_C (L := L) o1) (op_C (L := L) o2) ha hb hc (marks_no hs)) fun σ H Q hq => q_test (fun _ _ _ => q_chain) hq
theorem non_iff {K : PySem.W.Frag} {Hf : Hp} {rho : List Addr} {v : AV} {x : V} (r : RepA K L Hf rho v x) : decide (x = .non) = (match v with | .d .non => true | _ => false) := by
  cases r with
  | ref h => simp
  | d h => cases h <;> simp
theorem q_isN {σ : L2.St} {H : Hp} {Q : VK} (hq : tE X.K L n (.isN a) σ H Q) : tIsN (tE X.K L n a) σ H Q := by
  obtain ⟨Fr, Hf, rho, s, h, v, h', R, S, e, k⟩ := hq
  simp only [ev] at e
  obtain ⟨⟨p1, p2⟩, e1, e⟩ := bnd_inv e
  refine ⟨Fr, Hf, rho, s, h, _, _, R, S, e1, fun Hg H1 x sm R1 rx => ?_⟩
  cases rx with
  | ref hr => cases e; exact k Hg H1 _ sm R1 (.d (.bl _))
  | d hr => cases hr <;> (cases e; exact k Hg H1 _ sm R1 (.d (.bl _)))
theorem q_notN {σ : L2.St} {H : Hp} {Q : VK} (hq : tE X.K L n (.notN a) σ H Q) : tNotN (tE X.K L n a) σ H Q := by
  obtain ⟨Fr, Hf, rho, s, h, v, h', R, S, e, k⟩ := hq
  simp only [ev] at e
  obtain ⟨⟨p1, p2⟩, e1, e⟩ := bnd_inv e
  refine ⟨Fr, Hf, rho, s, h, _, _, R, S, e1, fun Hg H1 x sm R1 rx => ?_⟩
  cases rx with
  | ref hr => cases e; exact k Hg H1 _ sm R1 (.d (.bl _))
  | d hr => cases hr <;> (cases e; exact k Hg H1 _ sm R1 (.d (.bl _)))
theorem s_isN {j : Nat} {p : Pos} (ha : PE X e1 (tE X.K L n a)) : PE X (.Compare e1 [.Is] [.Constant .none j p] pos) (tE X.K L n (.isN a)) := PE.imp (pe_cmp (pc_isN ha)) fun σ H Q hq => q_isN hq
theorem t_isN {j : Nat} {p : Pos} (ha : PE X e1 (tE X.K L n a)) : PT X (.Compare e1 [.Is] [.Constant .none j p] pos) (tB X.K L n (.isN a)) := PT.imp (pt_cmp (pc_isN ha)) fun σ H Q hq => q_test (fun _ _ _ => q_isN) hq
theorem s_notN {j : Nat} {p : Pos} (ha : PE X e1 (tE X.K L n a)) : PE X (.Compare e1 [.IsNot] [.Constant .none j p] pos) (tE X.K L n (.notN a)) := PE.imp (pe_cmp (pc_notN ha)) fun σ H Q hq => q_notN hq
theorem t_notN {j : Nat} {p : Pos} (ha : PE X e1 (tE X.K L n a)) : PT X (.Compare e1 [.IsNot] [.Constant .none j p] pos) (tB X.K L n (.notN a)) := PT.imp (pt_cmp (pc_notN ha)) fun σ H Q hq => q_test (fun _ _ _ => q_notN) hq
theorem q_notT {σ : L2.St} {H : Hp} {Q : VK} (hq : tE X.K L n (.notT a) σ H Q) : tOp rNotB (tE X.K L n a) (L2.tC (.bl true)) σ H Q := by
  obtain ⟨Fr, Hf, rho, s, h, v, h', R, S, e, k⟩ := hq
  simp only [ev] at e
  obtain ⟨⟨p1, p2⟩, e1, e⟩ := bnd_inv e
  refine ⟨Fr, Hf, rho, s, h, _, _, R, S, e1, fun Hg H1 x sm R1 rx => ?_⟩
  split at e
  · rename_i c hp
    cases (show p1 = AV.d (.bl c) from hp)
    cases e
    cases rx.d'
    refine ⟨c, true, rfl, rfl, ?_⟩
    have e2 : decide (c = true) = c := by cases c <;> rfl
    rw [e2]
    exact k Hg H1 _ sm R1 (.d (.bl _))
  · cases e
theorem s_notT {j : Nat} {p : Pos} (ha : PE X e1 (tE X.K L n a)) : PE X (.Compare e1 [.IsNot] [.Constant (.bool true) j p] pos) (tE X.K L n (.notT a)) := PE.imp (pe_cmpR op_notBl ha pe_bl (nomark _)) fun σ H Q hq => q_notT hq
theorem t_notT {j : Nat} {p : Pos} (ha : PE X e1 (tE X.K L n a)) : PT X (.Compare e1 [.IsNot] [.Constant (.bool true) j p] pos) (tB X.K L n (.notT a)) := PT.imp (pt_cmpR op_notBl ha pe_bl (nomark _)) fun σ H Q hq => q_test (fun _ _ _ => q_notT) hq
end
end K24
/-! K24Snd5: argument lists, calls, instances. -/
set_option Elab.async false
set_option linter.all false
set_option maxRecDepth 100000
set_option maxHeartbeats 1000000
namespace K24
open PySem PySem.Spec PyProof.Rows L2 ClX RZ
def IL.take : Nat → IL → IL
  | 0, _ => .nil
  | _ + 1, .nil => .nil
  | n + 1, .cons a r => .cons a (IL.take n r)
def IL.drop : Nat → IL → IL
  | 0, r => r
  | _ + 1, .nil => .nil
  | n + 1, .cons _ r => IL.drop n r
section
variable {X : Cx} {L : Lay} {n : Nat} {pos : Pos} {a b u : IE} {e e1 e2 e3 : Expr} {es : List Expr} {kws : List Keyword} {c : Cc}
theorem s_nilL : PA X [] (tL X.K L n .nil) := by
  refine PA.imp pa_nil fun σ H Q ⟨Fr, Hf, rho, s, h, v, h', R, S, e, k⟩ => ?_
  simp only [evs] at e
  cases e
  exact k Hf H [] (Same.refl _) R .nil
theorem q_consL {r : IL} {σ : L2.St} {H : Hp} {Q : List V → Hp → Prop} (hq : tL X.K L n (.cons a r) σ H Q) : tCons (tE X.K L n a) (tL X.K L n r) σ H Q := by
  obtain ⟨Fr, Hf, rho, s, h, v, h', R, S, e, k⟩ := hq
  simp only [evs] at e
  obtain ⟨⟨p1, p2⟩, e1, e⟩ := bnd_inv e
  obtain ⟨⟨q1, q2⟩, e2, e⟩ := bnd_inv e
  cases e
  refine ⟨Fr, Hf, rho, s, h, _, _, R, S, e1, fun Hg H1 x sm R1 rx => ⟨Fr, Hg, rho, s, _, _, _, R1, S.mono sm List.prefix_rfl, e2, fun Hg2 H2 xs sm2 R2 rxs => ?_⟩⟩
  exact k Hg2 H2 (x :: xs) (sm.trans sm2) R2 (.cons (rx.mono sm2 List.prefix_rfl) rxs)
theorem s_consL {r : IL} (hs : notStar e = true) (ha : PE X e (tE X.K L n a)) (hr : PA X es (tL X.K L n r)) : PA X (e :: es) (tL X.K L n (.cons a r)) :=
  PA.imp (pa_cons ha hr (star_cons hs)) fun σ H Q hq => q_consL hq
theorem s_nilK : PK X [] (tL X.K L n .nil) := by
  refine PK.imp pk_nil fun σ H Q ⟨Fr, Hf, rho, s, h, v, h', R, S, e, k⟩ => ?_
  simp only [evs] at e
  cases e
  exact k Hf H [] (Same.refl _) R .nil
theorem s_consK {r : IL} {nm : Option Str} {kp : Pos} (ha : PE X e (tE X.K L n a)) (hr : PK X kws (tL X.K L n r)) : PK X (⟨nm, e, kp⟩ :: kws) (tL X.K L n (.cons a r)) :=
  PK.imp (pk_cons ha hr) fun σ H Q hq => q_consL hq
theorem evs_split (as : IL) : ∀ (k : Nat) {s : Sl} {h h' : Hs} {vs : List AV}, evs L.T (callF L.T n) as s h = some (vs, h') →
    ∃ v1 h1 v2, evs L.T (callF L.T n) (as.take k) s h = some (v1, h1) ∧ evs L.T (callF L.T n) (as.drop k) s h1 = some (v2, h') ∧ vs = v1 ++ v2 := by
  match as with
  | .nil =>
    intro k s h h' vs e
    cases k with
    | zero => exact ⟨[], h, vs, by simp only [IL.take, evs], e, rfl⟩
    | succ k =>
      simp only [evs] at e
      cases e
      exact ⟨[], h, [], by simp only [IL.take, evs], by simp only [IL.drop, evs], rfl⟩
  | .cons a r =>
    intro k s h h' vs e
    cases k with
    | zero => exact ⟨[], h, vs, by simp only [IL.take, evs], e, rfl⟩
    | succ k =>
      simp only [evs] at e
      obtain ⟨⟨p1, p2⟩, e1, e⟩ := bnd_inv e
      obtain ⟨⟨q1, q2⟩, e2, e⟩ := bnd_inv e
      cases e
      obtain ⟨v1, h1, v2, k1, k2, k3⟩ := evs_split r k e2
      refine ⟨p1 :: v1, h1, v2, ?_, k2, by rw [k3]; rfl⟩
      simp only [IL.take, evs]
      rw [e1]
      show bnd (evs L.T (callF L.T n) (r.take k) s p2) _ = _
      rw [k1]
      rfl
theorem RepAs.append {K : PySem.W.Frag} {Hf : Hp} {rho : List Addr} : ∀ {v : List AV} {x : List V} {w : List AV} {y : List V}, RepAs K L Hf rho v x → RepAs K L Hf rho w y → RepAs K L Hf rho (v ++ w) (x ++ y)
  | _, _, _, _, .nil, s => s
  | _, _, _, _, .cons h t, s => .cons h (RepAs.append t s)
/-- one after the other -/
theorem q_split {as : IL} (k : Nat) {σ : L2.St} {H : Hp} {R : List V → List V → Hp → Prop} {Q : List V → Hp → Prop} (hq : tL X.K L n as σ H Q) (hR : ∀ vs zs H, Q (vs ++ zs) H → R vs zs H) :
    tL X.K L n (as.take k) σ H fun vs H1 => tL X.K L n (as.drop k) σ H1 fun zs H2 => R vs zs H2 := by
  obtain ⟨Fr, Hf, rho, s, h, v, h', Rr, S, e, kk⟩ := hq
  obtain ⟨v1, h1, v2, k1, k2, k3⟩ := evs_split as k e
  refine ⟨Fr, Hf, rho, s, h, _, _, Rr, S, k1, fun Hg H1 x sm R1 rx => ⟨Fr, Hg, rho, s, _, _, _, R1, S.mono sm List.prefix_rfl, k2, fun Hg2 H2 xs sm2 R2 rxs => ?_⟩⟩
  refine hR _ _ _ (kk Hg2 H2 _ (sm.trans sm2) R2 ?_)
  rw [k3]
  exact (rx.mono sm2 List.prefix_rfl).append rxs

/-! ### calls -/
theorem binds_of {fd : FuncData} {ps : List Str} {K : PySem.W.Frag} (h : BindA fd ps []) : Binds K fd ps [] := fun s us _ hl => by
  rw [List.append_nil] at hl ⊢
  have z := h s us [] (by simpa using hl) rfl
  rw [List.append_nil] at z
  exact z
theorem kbn_of {fd : FuncData} {ps ks : List Str} {K : PySem.W.Frag} {m : Nat} (h : BindA fd ps ks) (hm : m + ks.length = ps.length) : KBn K fd ps m ks (fun us ws => us ++ ws) (fun vs zs => vs ++ zs) :=
  ⟨fun s us ws _ l1 l2 => h s us ws (by omega) l2, fun r1 r2 => r1.append r2⟩
theorem s_call {d : Nat} {as : IL} {x : Str} {p : Pos} (O : XOk L n c X) (hd : L.M.dnm d = some x) (hg : glB c.sc x = true) (hk : noKw L.M d (es.length + 1) = true) (hs : (e :: es).all notStar = true) (ha : PA X (e :: es) (tL X.K L n as)) :
    PE X (.Call (.Name x p) (e :: es) [] pos) (tE X.K L n (.call d as)) := by
  rw [List.all_cons, Bool.and_eq_true] at hs
  have go : ∀ I, L.T.defs[d]? = some I → PE X (.Call (.Name x p) (e :: es) [] pos) (tCall (spI X.K L n d) [] E0 (tL X.K L n as)) := fun I hI => by
    obtain ⟨hm, hkp⟩ := O.tok.gld d x hd
    unfold noKw at hk
    rw [Bool.and_eq_true] at hk
    have ek : L.M.ks d = [] := List.isEmpty_iff.mp hk.2
    have hb := O.tok.bind d I hI
    rw [ek] at hb
    exact pe_call (O.fns d I hI) (O.room.mono (Nat.le_succ _)) (gl_of O hg) hm hkp (binds_of hb) .nil pass0 ha (O.tok.dbgd d x hd) (star_cons hs.1) (star_any hs.2)
  refine ⟨fun pins s σ H Q I hq => ?_⟩
  obtain ⟨Fr, Hf, rho, sl, h, v, h', R, S, e, k⟩ := id hq
  simp only [ev] at e
  obtain ⟨⟨p1, p2⟩, e1, e⟩ := bnd_inv e
  obtain ⟨⟨q1, q2⟩, e2, e⟩ := bnd_inv e
  cases e
  cases n with
  | zero => cases e2
  | succ m =>
    obtain ⟨I0, hI, _⟩ := bnd_inv (show bnd (L.T.defs[d]?) (fun I => runB L.T (callF L.T m) I p1 p2) = some (q1, q2) from e2)
    refine (go I0 hI).run pins s σ H Q I ⟨Fr, Hf, rho, sl, h, _, _, R, S, e1, fun Hg H1 vs sm R1 r1 => ?_⟩
    show spI X.K L (m + 1) d (vs ++ []) H1 Q E0
    rw [List.append_nil]
    exact ⟨Fr, Hg, rho, p1, p2, q1, q2, R1, r1, e2, fun Hg' H' x sm' R' r' => k Hg' H' x (sm.trans sm') R' (.d r')⟩
/-- an instance, pure or mutable, as it stands -/
theorem ins_inv {K : PySem.W.Frag} {Fr Hf H : Hp} {rho : List Addr} {h : Hs} {v : AV} {x : V} {c : Nat} {fs : List (Nat × D)} (R : Rel K L Fr Hf rho h H) (rx : RepA K L Hf rho v x) (e : insOf h v = some (c, fs)) :
    ∃ (a dx : Addr) (gs : List (Str × V)), x = .ref a ∧ H a = some (.ins (L.cadr c) dx gs) ∧ RepF K L Hf c fs gs := by
  cases rx with
  | d r =>
    cases r with
    | ins h1 h2 =>
      cases e
      exact ⟨_, _, _, rfl, R.same _ _ h1, h2⟩
    | _ => cases e
  | ref hr =>
    rename_i m a
    have e2 : (match h[m]? with | some (.ins c fs) => some (c, fs) | _ => none) = some (c, fs) := e
    split at e2
    · rename_i c' fs' q
      cases e2
      obtain ⟨_, dx, gs, h1, h2⟩ := (show OR K L Hf H (.ins c fs) a from R.obj m _ a q hr)
      exact ⟨a, dx, gs, rfl, h1, h2⟩
    · cases e2
theorem RepF.keys {K : PySem.W.Frag} {Hf : Hp} {c : Nat} : ∀ {fs : List (Nat × D)} {gs : List (Str × V)}, RepF K L Hf c fs gs → ∀ {x : Str}, (∀ f ∈ L.flds c, L.anm f ≠ x) → gs.lookup x = none
  | _, _, .nil, _, _ => rfl
  | _, _, .cons (f := f) hf h t, x, hx => by
    have ne : (x == L.anm f) = false := beq_eq_false_iff_ne.mpr fun z => hx f hf z.symm
    rw [List.lookup_cons, ne]
    exact RepF.keys t hx
theorem RepF.get {K : PySem.W.Frag} {Hf : Hp} {c : Nat} (inj : ∀ f g, f ∈ L.flds c → g ∈ L.flds c → L.M.anm f = L.M.anm g → f = g) :
    ∀ {fs : List (Nat × D)} {gs : List (Str × V)} {f : Nat} {d : D}, RepF K L Hf c fs gs → getF f fs = some d → f ∈ L.flds c ∧ ∃ v, gs.lookup (L.anm f) = some v ∧ Rep K L Hf d v
  | _, _, _, _, .nil, e => by cases e
  | (g, y) :: fs, _, f, d, .cons hf h t, e => by
    have e2 : (match Nat.beq g f with | true => some y | false => getF f fs) = some d := e
    split at e2
    · rename_i q
      have eg : g = f := Nat.eq_of_beq_eq_true q
      subst eg
      cases e2
      refine ⟨hf, _, ?_, h⟩
      rw [List.lookup_cons, beq_self_eq_true]
    · rename_i q
      have ne : g ≠ f := Nat.ne_of_beq_eq_false q
      obtain ⟨k1, v, k2, k3⟩ := RepF.get inj t e2
      refine ⟨k1, v, ?_, k3⟩
      have nb : (L.anm f == L.anm g) = false := beq_eq_false_iff_ne.mpr fun z => ne (inj g f hf k1 z.symm)
      rw [List.lookup_cons, nb]
      exact k2
theorem RepF.put {K : PySem.W.Frag} {Hf : Hp} {c : Nat} (inj : ∀ f g, f ∈ L.flds c → g ∈ L.flds c → L.M.anm f = L.M.anm g → f = g) {f : Nat} {d : D} {v : V} (hf : f ∈ L.flds c) (h : Rep K L Hf d v) :
    ∀ {fs : List (Nat × D)} {gs : List (Str × V)}, RepF K L Hf c fs gs → RepF K L Hf c (K24.putF f d fs) (L2.putF (L.anm f) v gs)
  | _, _, .nil => .cons hf h .nil
  | (g, y) :: fs, (_, w) :: gs, .cons hg h1 t => by
    show RepF K L Hf c (match Nat.beq g f with | true => (g, d) :: fs | false => (g, y) :: K24.putF f d fs) (if L.anm g = L.anm f then (L.anm g, v) :: gs else (L.anm g, w) :: L2.putF (L.anm f) v gs)
    cases q : Nat.beq g f with
    | true =>
      have eg : g = f := Nat.eq_of_beq_eq_true q
      subst eg
      rw [if_pos rfl]
      exact .cons hg h t
    | false =>
      have ne : g ≠ f := Nat.ne_of_beq_eq_false q
      rw [if_neg fun z => ne (inj g f hg hf z)]
      exact .cons hg h1 (RepF.put inj hf h t)
theorem RepF.len {K : PySem.W.Frag} {Hf : Hp} {c : Nat} : ∀ {fs : List (Nat × D)} {gs : List (Str × V)}, RepF K L Hf c fs gs → fs.length = gs.length
  | _, _, .nil => rfl
  | _, _, .cons _ _ t => by rw [List.length_cons, List.length_cons, RepF.len t]
theorem q_meth {o : IE} {m : Nat} {as : IL} (O : XOk L n c X) {σ : L2.St} {H : Hp} {Q : VK} (hq : tE X.K L n (.meth o m as) σ H Q) :
    tMethD X (2 * n) (L.M.anm m) (tE X.K L n o) (tL X.K L n as) σ H Q := by
  obtain ⟨Fr, Hf, rho, s, h, v, h', R, S, e, k⟩ := hq
  simp only [ev] at e
  obtain ⟨⟨p1, p2⟩, e1, e⟩ := bnd_inv e
  obtain ⟨⟨cc, fs⟩, e2, e⟩ := bnd_inv e
  obtain ⟨ci, e3, e⟩ := bnd_inv e
  obtain ⟨d, e4, e⟩ := bnd_inv e
  obtain ⟨⟨q1, q2⟩, e5, e⟩ := bnd_inv e
  obtain ⟨⟨z1, z2⟩, e6, e⟩ := bnd_inv e
  cases e
  refine ⟨Fr, Hf, rho, s, h, _, _, R, S, e1, fun Hg H1 x sm R1 rx => ?_⟩
  obtain ⟨a, dx, gs, ex, ea, rf⟩ := ins_inv R1 rx e2
  obtain ⟨hm, hn⟩ := O.tok.meth cc ci m d e3 e4
  have e6' := e6
  cases n with
  | zero => cases e6
  | succ n' =>
    obtain ⟨I0, hI, _⟩ := bnd_inv (show bnd (L.T.defs[d]?) (fun I => runB L.T (callF L.T n') I (p1 :: q1) q2) = some (z1, z2) from e6)
    have hb := O.tok.bind d I0 hI
    rw [O.tok.mks cc ci m d e3 (.inl e4)] at hb
    refine ⟨a, L.cadr cc, dx, gs, L.fadr d, L.ffd d, L.M.ps d, spI X.K L (n' + 1) d, ex, ea, O.tok.cls cc ci e3, hm, rf.keys hn, O.fns d I0 hI, binds_of hb, ?_⟩
    refine ⟨Fr, Hg, rho, s, _, _, _, R1, S.mono sm List.prefix_rfl, e5, fun Hg2 H2 vs sm2 R2 r2 => ?_⟩
    exact ⟨Fr, Hg2, rho, p1 :: q1, q2, z1, z2, R2, .cons (rx.mono sm2 List.prefix_rfl) r2, e6', fun Hg' H' y sm' R' r' => k Hg' H' y ((sm.trans sm2).trans sm') R' (.d r')⟩
theorem s_attr {f : Nat} (O : XOk L n c X) (hp : plainO e1 = true) (ha : PE X e1 (tE X.K L n a)) : PE X (.Attribute e1 (L.M.anm f) pos) (tE X.K L n (.attr a f)) := by
  refine PE.imp (pe_fld ha (attr_base hp)) fun σ H Q ⟨Fr, Hf, rho, s, h, v, h', R, S, e, k⟩ => ?_
  simp only [ev] at e
  obtain ⟨⟨p1, p2⟩, e1, e⟩ := bnd_inv e
  obtain ⟨⟨cc, fs⟩, e2, e⟩ := bnd_inv e
  obtain ⟨d, e3, e⟩ := bnd_inv e
  cases e
  refine ⟨Fr, Hf, rho, s, h, _, _, R, S, e1, fun Hg H1 x sm R1 rx => ?_⟩
  obtain ⟨aa, dx, gs, ex, ea, rf⟩ := ins_inv R1 rx e2
  obtain ⟨k1, w, k2, k3⟩ := RepF.get (O.tok.inj cc) rf e3
  have hci : ∃ ci, L.T.cls[cc]? = some ci := by
    unfold Lay.flds at k1
    split at k1
    · exact ⟨_, by assumption⟩
    · cases k1
  obtain ⟨ci, hci⟩ := hci
  exact ⟨aa, L.cadr cc, dx, gs, w, ex, ea, O.tok.cls cc ci hci, O.tok.noat cc f k1, k2, k Hg H1 w sm R1 (.d k3)⟩
theorem q_prop {m : Nat} (O : XOk L n c X) {σ : L2.St} {H : Hp} {Q : VK} (hq : tE X.K L n (.prop a m) σ H Q) :
    tPropD X (2 * n) (L.M.anm m) (tE X.K L n a) σ H Q := by
  obtain ⟨Fr, Hf, rho, s, h, v, h', R, S, e, k⟩ := hq
  simp only [ev] at e
  obtain ⟨⟨p1, p2⟩, e1, e⟩ := bnd_inv e
  obtain ⟨⟨cc, fs⟩, e2, e⟩ := bnd_inv e
  obtain ⟨ci, e3, e⟩ := bnd_inv e
  obtain ⟨d, e4, e⟩ := bnd_inv e
  obtain ⟨⟨z1, z2⟩, e6, e⟩ := bnd_inv e
  cases e
  refine ⟨Fr, Hf, rho, s, h, _, _, R, S, e1, fun Hg H1 x sm R1 rx => ?_⟩
  obtain ⟨aa, dx, gs, ex, ea, rf⟩ := ins_inv R1 rx e2
  obtain ⟨pp, hm⟩ := O.tok.prop cc ci m d e3 e4
  have e6' := e6
  cases n with
  | zero => cases e6
  | succ n' =>
    obtain ⟨I0, hI, _⟩ := bnd_inv (show bnd (L.T.defs[d]?) (fun I => runB L.T (callF L.T n') I [p1] p2) = some (z1, z2) from e6)
    have hb := O.tok.bind d I0 hI
    rw [O.tok.mks cc ci m d e3 (.inr e4)] at hb
    subst ex
    exact ⟨aa, L.cadr cc, dx, gs, pp, L.fadr d, L.ffd d, L.M.ps d, spI X.K L (n' + 1) d, rfl, ea, O.tok.cls cc ci e3, hm, O.fns d I0 hI, binds_of hb,
      Fr, Hg, rho, [p1], p2, z1, z2, R1, .cons rx .nil, e6', fun Hg' H' y sm' R' r' => k Hg' H' y (sm.trans sm') R' (.d r')⟩
end
end K24
/-! K24Snd6: methods, properties, new instances, displays. -/
set_option Elab.async false
set_option linter.all false
set_option maxRecDepth 100000
set_option maxHeartbeats 1000000
namespace K24
open PySem PySem.Spec PyProof.Rows L2 ClX RZ
def IL.len : IL → Nat
  | .nil => 0
  | .cons _ r => r.len + 1
theorem IL.len_take : ∀ (k : Nat) (r : IL), k ≤ r.len → (r.take k).len = k
  | 0, _, _ => rfl
  | k + 1, .nil, h => by simp [IL.len] at h
  | k + 1, .cons a r, h => by
    show (r.take k).len + 1 = k + 1
    rw [IL.len_take k r (by simpa [IL.len] using h)]
theorem IL.len_drop : ∀ (k : Nat) (r : IL), (r.drop k).len = r.len - k
  | 0, _ => rfl
  | k + 1, .nil => by simp [IL.drop, IL.len]
  | k + 1, .cons a r => by
    show (r.drop k).len = r.len + 1 - (k + 1)
    rw [IL.len_drop k r]; omega
theorem IL.take_all : ∀ (r : IL) (k : Nat), r.len ≤ k → r.take k = r
  | .nil, 0, _ => rfl
  | .nil, _ + 1, _ => rfl
  | .cons a r, 0, h => by simp [IL.len] at h
  | .cons a r, k + 1, h => by
    show IL.cons a (r.take k) = _
    rw [IL.take_all r k (by simpa [IL.len] using h)]
theorem chkL_len {M : Nms} {T : Prog} : ∀ (as : IL) {c : Cc} {es : List Expr} {kws : List Keyword}, chkL M T as c es kws = true → as.len = es.length + kws.length
  | .nil, c, [], [], _ => rfl
  | .nil, c, _ :: _, _, h => by cases h
  | .nil, c, [], _ :: _, h => by cases h
  | .cons a r, c, e :: es, kws, h => by
    have h2 : (chkE M T a c e && chkL M T r c es kws) = true := h
    rw [Bool.and_eq_true] at h2
    have := chkL_len r h2.2
    simp only [IL.len, List.length_cons]; omega
  | .cons a r, c, [], k :: kws, h => by
    have h2 : (chkE M T a c k.value && chkL M T r c [] kws) = true := h
    rw [Bool.and_eq_true] at h2
    have := chkL_len r h2.2
    simp only [IL.len, List.length_cons, List.length_nil] at this ⊢; omega
  | .cons a r, c, [], [], h => by cases h
section
variable {X : Cx} {L : Lay} {n : Nat} {pos : Pos} {a b u : IE} {e e1 e2 e3 : Expr} {es : List Expr} {kws : List Keyword} {c : Cc}
theorem tG_mono {α β : Type} {K : PySem.W.Frag} {rep : Hp → List Addr → α → β → Prop} {r : Sl → Hs → Option (α × Hs)} {σ : L2.St} {H : Hp} {Q Q' : β → Hp → Prop} (h : tG K L rep r σ H Q) (k : ∀ b H', Q b H' → Q' b H') : tG K L rep r σ H Q' := by
  obtain ⟨Fr, Hf, rho, s, hs, v, h', R, S, e, q⟩ := h
  exact ⟨Fr, Hf, rho, s, hs, v, h', R, S, e, fun Hg H' x sm R' r' => k _ _ (q Hg H' x sm R' r')⟩
theorem evs_len {as : IL} : ∀ {s : Sl} {h h' : Hs} {vs : List AV}, evs L.T (callF L.T n) as s h = some (vs, h') → vs.length = as.len := by
  match as with
  | .nil =>
    intro s h h' vs e
    simp only [evs] at e
    cases e
    rfl
  | .cons a r =>
    intro s h h' vs e
    simp only [evs] at e
    obtain ⟨⟨p1, p2⟩, e1, e⟩ := bnd_inv e
    obtain ⟨⟨q1, q2⟩, e2, e⟩ := bnd_inv e
    cases e
    show q1.length + 1 = r.len + 1
    rw [evs_len e2]
theorem nil_L {σ : L2.St} {H : Hp} {Q : List V → Hp → Prop} (h : tL X.K L n .nil σ H Q) : tNil σ H Q := by
  obtain ⟨Fr, Hf, rho, s, hs, v, h', R, S, e, k⟩ := h
  simp only [evs] at e
  cases e
  exact k Hf H [] (Same.refl _) R .nil
theorem len0 {as : IL} (h : as.len = 0) : as = .nil := by
  cases as with
  | nil => rfl
  | cons a r => simp [IL.len] at h
theorem s_meth {o : IE} {m : Nat} {as : IL} {ap : Pos} (O : XOk L n c X) (ho : PE X e1 (tE X.K L n o)) (ha : PA X es (tL X.K L n as)) (hl : as.len = es.length) (hp : plainO e1 = true) (hs : es.all notStar = true) (hz : Nat.blt es.length 30 = true) (hx : (ap.endLine == pos.line) = true) :
    PE X (.Call (.Attribute e1 (L.M.anm m) ap) es [] pos) (tE X.K L n (.meth o m as)) := by
  cases es with
  | nil =>
    refine PE.imp (pe_methD0 ho hp hx (O.room.mono (Nat.le_succ _))) fun σ H Q hq => ?_
    refine tG_mono (q_meth O hq) fun x H1 ⟨a, C, dx, fs, g, fd, ps, sp, h1, h2, h3, h4, h5, h6, h7, h8⟩ => ⟨a, C, dx, fs, g, fd, ps, sp, h1, h2, h3, h4, h5, h6, h7, ?_⟩
    rw [len0 hl] at h8
    exact nil_L h8
  | cons y ys => exact PE.imp (pe_methD ho ha hp hs (blt_of hz) hx (O.room.mono (Nat.le_succ _))) fun σ H Q hq => q_meth O hq
theorem s_prop {m : Nat} (O : XOk L n c X) (ha : PE X e1 (tE X.K L n a)) (hp : plainO e1 = true) : PE X (.Attribute e1 (L.M.anm m) pos) (tE X.K L n (.prop a m)) :=
  PE.imp (pe_propD ha hp O.room) fun σ H Q hq => q_prop O hq
/-! ### new instances -/
theorem kw_names {env : Env} : ∀ kws : List Keyword, (backToKw pos (keywordEach kws env)).map (·.1) = kws.map (·.arg)
  | [] => rfl
  | ⟨x, v, p⟩ :: r => by
    show x :: (backToKw pos (keywordEach r env)).map (·.1) = x :: r.map (·.arg)
    rw [kw_names r]
theorem all_some {l : List (Option Str × Sem Value)} {ks : List Str} (h : l.map (·.1) = ks.map some) : l.all (·.1.isSome) = true ∧ l.filterMap (·.1) = ks ∧ l.any (·.1.isNone) = false := by
  induction l generalizing ks with
  | nil => cases ks with
    | nil => exact ⟨rfl, rfl, rfl⟩
    | cons k ks => cases h
  | cons q r ih => cases ks with
    | nil => cases h
    | cons k ks =>
      rw [List.map_cons, List.map_cons] at h
      injection h with h1 h2
      obtain ⟨k1, k2, k3⟩ := ih h2
      refine ⟨?_, ?_, ?_⟩
      · rw [List.all_cons, k1, h1]; rfl
      · rw [List.filterMap_cons, h1, k2]
      · rw [List.any_cons, k3, h1]; rfl
/-- __init__ at a new instance: mkI gives the heap behind it -/
theorem q_make {k d : Nat} {as : IL} {ci : ClsI} {m j : Nat} (O : XOk L n c X) (hc : L.T.cls[k]? = some ci) (hi : ci.init = some d) (hl : as.len = m + j) {σ : L2.St} {H : Hp} {Q : V → Hp → Prop}
    (hq : ∃ Fr Hf rho s h p h', Rel X.K L Fr Hf rho h H ∧ RepS X.K L Hf rho s σ ∧ evs L.T (callF L.T n) as s h = some p ∧ mkI L.T (callF L.T n) k p.1 p.2 = some h' ∧
      ∀ Hg H' x, Same Hf Hg → p.2.length = rho.length → Rel X.K L Fr Hg (rho ++ [x]) h' H' → Q (.ref x) H') :
    tMakeK (L.cadr k) m j (spI X.K L n d) (fun vs zs => vs ++ zs) E0 (tL X.K L n (as.take m)) (tL X.K L n (as.drop m)) σ H Q := by
  obtain ⟨Fr, Hf, rho, s, h, ⟨p1, p2⟩, h', R, S, e1, e2, kk⟩ := hq
  obtain ⟨ci', e3, e2⟩ := bnd_inv e2
  rw [hc] at e3
  cases e3
  obtain ⟨d', e3, e2⟩ := bnd_inv e2
  rw [hi] at e3
  cases e3
  obtain ⟨⟨z1, z2⟩, e4, e2⟩ := bnd_inv e2
  obtain ⟨v1, h1, v2, k1, k2, k3⟩ := evs_split as m e1
  refine ⟨Fr, Hf, rho, s, h, _, _, R, S, k1, fun Hg H1 vs sm R1 rx => ⟨Fr, Hg, rho, s, _, _, _, R1, S.mono sm List.prefix_rfl, k2, fun Hg2 H2 zs sm2 R2 rz => ?_⟩⟩
  refine ⟨?_, ?_, fun x dx hx hdx hne => ?_⟩
  · rw [← rx.length, evs_len k1, IL.len_take m as (by omega)]
  · rw [← rz.length, evs_len k2, IL.len_drop, hl]; omega
  have R3 := R2.alloc (o := .own x) hdx
  have hx3 : upd H2 dx (.own x) x = none := by rw [upd_ne hne.symm]; exact hx
  have R4 := R3.push (o := .ins (L.cadr k) dx []) (ao := .ins k []) hx3 ⟨R2.hf_none hx, dx, [], upd_same, .nil⟩
  have hlen : p2.length = rho.length := R2.len.symm
  refine ⟨Fr, Hg2, rho ++ [x], (AV.ref p2.length :: p1 : List AV), p2 ++ [AO.ins k []], z1, z2, R4, ?_, e4, fun Hg' H' y sm' R' r' => ?_⟩
  · have pre : rho <+: rho ++ [x] := List.prefix_append _ _
    have hr : RepA X.K L Hg2 (rho ++ [x]) (.ref p2.length) (.ref x) := .ref (by rw [hlen]; simp)
    rw [k3]
    exact .cons hr ((rx.mono sm2 pre).append (rz.mono (Same.refl _) pre))
  · cases z1 with
    | non =>
      cases e2
      cases r'
      exact ⟨rfl, kk Hg' H' x ((sm.trans sm2).trans sm') hlen R'⟩
    | _ => cases e2
theorem pe_mk {k d : Nat} {as : IL} {ci : ClsI} {x : Str} {p : Pos} (O : XOk L n c X) (hc : L.T.cls[k]? = some ci) (hi : ci.init = some d) (hx : x = L.M.cnm k) (hg : glB c.sc x = true) (hI : ∃ I, L.T.defs[d]? = some I) (h1 : (L.M.ps d).length = es.length + 1 + 1 + kws.length) (h2 : kwNames kws = (L.M.ks d).map some)
    (hs : (e :: es).all notStar = true) (ha : PA X (e :: es) (tL X.K L n (as.take (es.length + 1)))) (hk : PK X kws (tL X.K L n (as.drop (es.length + 1)))) :
    PE X (.Call (.Name x p) (e :: es) kws pos) (tMakeK (L.cadr k) (es.length + 1) kws.length (spI X.K L n d) (fun vs zs => vs ++ zs) E0 (tL X.K L n (as.take (es.length + 1))) (tL X.K L n (as.drop (es.length + 1)))) := by
  obtain ⟨I, hI⟩ := hI
  have hm := O.tok.glc k ci hc
  rw [← hx] at hm
  have hdb := O.tok.dbgc k
  rw [← hx] at hdb
  have lk : kws.length = (L.M.ks d).length := by
    have := congrArg List.length h2
    simpa [kwNames] using this
  have names : (backToKw pos (keywordEach kws X.env)).map (·.1) = (L.M.ks d).map some := (kw_names kws).trans h2
  obtain ⟨a1, a2, a3⟩ := all_some names
  have hs' := hs
  rw [List.all_cons, Bool.and_eq_true] at hs
  have z := pe_makeK (p := p) (pos := pos) (O.tok.mki k ci d hc hi) (O.fns d I hI) O.room (gl_of O hg) hm (kbn_of (m := es.length + 1 + 1) (O.tok.bind d I hI) (by rw [h1, lk])) pass0 ha hk a1 a2 hdb (star_cons hs.1)
    (by rw [star_any hs', a3]; rfl)
  rw [lk]
  exact z
theorem s_make {k : Nat} {as : IL} {x : Str} {p : Pos} (O : XOk L n c X) (hx : x = L.M.cnm k) (hg : glB c.sc x = true) (hi : initB L.M L.T k (es.length + 1) kws = true) (hs : (e :: es).all notStar = true) (hl : as.len = (e :: es).length + kws.length)
    (ha : PA X (e :: es) (tL X.K L n (as.take (es.length + 1)))) (hk : PK X kws (tL X.K L n (as.drop (es.length + 1)))) : PE X (.Call (.Name x p) (e :: es) kws pos) (tE X.K L n (.make k as)) := by
  refine ⟨fun pins s σ H Q I hq => ?_⟩
  obtain ⟨Fr, Hf, rho, sl, h, v, h', R, S, ev0, kk⟩ := hq
  simp only [ev] at ev0
  obtain ⟨⟨p1, p2⟩, e1, ev0⟩ := bnd_inv ev0
  obtain ⟨hh, e2, ev0⟩ := bnd_inv ev0
  unfold initB at hi
  split at hi
  · rename_i ci hc
    split at hi
    · rename_i d hd
      rw [Bool.and_eq_true] at hi
      have hI : ∃ I, L.T.defs[d]? = some I := by
        have e2' := e2
        obtain ⟨ci', e3, e2'⟩ := bnd_inv e2'
        rw [hc] at e3
        cases e3
        obtain ⟨d', e3, e2'⟩ := bnd_inv e2'
        rw [hd] at e3
        cases e3
        obtain ⟨z, e4, e2'⟩ := bnd_inv e2'
        cases n with
        | zero => cases e4
        | succ m =>
          obtain ⟨I0, hI, _⟩ := bnd_inv (show bnd (L.T.defs[d]?) (fun I => runB L.T (callF L.T m) I _ _) = some z from e4)
          exact ⟨I0, hI⟩
      refine (pe_mk O hc hd hx hg hI (Nat.eq_of_beq_eq_true hi.1) (of_decide_eq_true hi.2) hs ha hk).run pins s σ H Q I (q_make O hc hd hl ⟨Fr, Hf, rho, sl, h, (p1, p2), hh, R, S, e1, e2, fun Hg H' y sm lr R' => ?_⟩)
      split at ev0
      · rename_i k' fs q
        cases ev0
        rw [show (p1, p2).2.length = rho.length from lr] at q
        obtain ⟨Hg2, sm2, R2, r2⟩ := R'.seal q
        refine kk Hg2 H' (.ref y) (sm.trans sm2) ?_ (.d r2)
        rw [show (p1, p2).2.length = rho.length from lr]
        exact R2
      · cases ev0
    · cases hi
  · cases hi
theorem s_make0 {k : Nat} {x : Str} {p : Pos} (O : XOk L n c X) (hx : x = L.M.cnm k) (hg : glB c.sc x = true) (hi : noInit L.T k = true) : PE X (.Call (.Name x p) [] [] pos) (tE X.K L n (.make0 k)) := by
  unfold noInit at hi
  split at hi
  · rename_i ci hc
    have hm := O.tok.glc k ci hc
    rw [← hx] at hm
    have hdb := O.tok.dbgc k
    rw [← hx] at hdb
    refine PE.imp (pe_makeO (O.tok.mk0 k ci hc (Option.isNone_iff_eq_none.mp hi)) (gl_of O hg) hm hdb) fun σ H Q ⟨Fr, Hf, rho, s, h, v, h', R, S, e, kk⟩ => ?_
    simp only [ev] at e
    cases e
    intro y dy hy hdy hne
    have R3 := R.alloc (o := .own y) hdy
    have hy3 : upd H dy (.own y) y = none := by rw [upd_ne hne.symm]; exact hy
    obtain ⟨kf, R4⟩ := R3.allocF (o := .ins (L.cadr k) dy []) hy3
    exact kk _ _ _ kf R4 (.d (.ins upd_same .nil))
  · cases hi
/-! ### displays -/
theorem frz_ok {K : PySem.W.Frag} {Fr Hf H : Hp} {rho : List Addr} {h h' : Hs} {v : AV} {x : V} {d : D} (R : Rel K L Fr Hf rho h H) (rx : RepA K L Hf rho v x) (e : frz h v = some (d, h')) :
    ∃ Hg, Same Hf Hg ∧ Rel K L Fr Hg rho h' H ∧ Rep K L Hg d x := by
  cases rx with
  | d r =>
    cases (show some (_, h) = some (d, h') from e)
    exact ⟨Hf, Same.refl _, R, r⟩
  | ref hr =>
    rename_i m a
    have e2 : (match h[m]? with | some (.lst xs) => some (D.lst xs, h.set m .dead) | _ => none) = some (d, h') := e
    split at e2
    · rename_i xs q
      cases e2
      obtain ⟨vs, sm, R2, r2⟩ := R.freeze hr q
      exact ⟨_, sm, R2, r2⟩
    · cases e2
theorem frzs_ok {K : PySem.W.Frag} {Fr H : Hp} {rho : List Addr} : ∀ {vs : List AV} {xs : List V} {Hf : Hp} {h h' : Hs} {ds : List D}, Rel K L Fr Hf rho h H → RepAs K L Hf rho vs xs → frzs h vs = some (ds, h') →
    ∃ Hg, Same Hf Hg ∧ Rel K L Fr Hg rho h' H ∧ Reps K L Hg ds xs
  | _, _, Hf, h, h', ds, R, .nil, e => by
    cases (show some ([], h) = some (ds, h') from e)
    exact ⟨Hf, Same.refl _, R, .nil⟩
  | _, _, Hf, h, h', ds, R, .cons (a := v) (as := vs) r t, e => by
    obtain ⟨⟨p1, p2⟩, e1, e⟩ := bnd_inv (show bnd (frz h v) (fun p => bnd (frzs p.2 vs) fun q => some (p.1 :: q.1, q.2)) = some (ds, h') from e)
    obtain ⟨⟨q1, q2⟩, e2, e⟩ := bnd_inv e
    cases e
    obtain ⟨Hg, sm, R1, r1⟩ := frz_ok R r e1
    obtain ⟨Hg2, sm2, R2, r2⟩ := frzs_ok R1 (t.mono sm List.prefix_rfl) e2
    exact ⟨Hg2, sm.trans sm2, R2, .cons (r1.mono sm2) r2⟩
theorem toDs_ok {K : PySem.W.Frag} {Hf : Hp} {rho : List Addr} : ∀ {vs : List AV} {xs : List V} {ds : List D}, RepAs K L Hf rho vs xs → toDs vs = some ds → Reps K L Hf ds xs
  | _, _, ds, .nil, e => by
    cases (show some [] = some ds from e)
    exact .nil
  | _, _, ds, .cons (a := v) (as := vs) r t, e => by
    obtain ⟨x, e1, e⟩ := bnd_inv (show bnd (toD v) (fun x => bnd (toDs vs) fun xs => some (x :: xs)) = some ds from e)
    obtain ⟨xs, e2, e⟩ := bnd_inv e
    cases e
    cases toD_inv e1
    exact .cons r.d' (toDs_ok t e2)
theorem small_line {k : Nat} (h : k ≤ 1000) : k ≤ sizeLine := by rw [sizeLine_eq]; omega
theorem s_tup {as : IL} {j : Nat} (ha : PA X es (tL X.K L n as)) : PE X (.Tuple es j pos) (tE X.K L n (.tup as)) := by
  refine PE.imp (pe_tup ha) fun σ H Q ⟨Fr, Hf, rho, s, h, v, h', R, S, e, k⟩ => ?_
  simp only [ev] at e
  obtain ⟨⟨p1, p2⟩, e1, e⟩ := bnd_inv e
  obtain ⟨⟨q1, q2⟩, e2, e⟩ := bnd_inv e
  split at e
  · rename_i hz
    cases e
    refine ⟨Fr, Hf, rho, s, h, _, _, R, S, e1, fun Hg H1 xs sm R1 rx => ?_⟩
    obtain ⟨Hg2, sm2, R2, r2⟩ := frzs_ok R1 rx e2
    have hl : xs.length ≤ sizeLine := by rw [← r2.length]; exact small_line (ble_of hz)
    refine ⟨hl, fun p hp => ?_⟩
    obtain ⟨kf, R3⟩ := R2.allocF (o := .tup xs) hp
    exact k _ _ _ ((sm.trans sm2).trans kf) R3 (.d (.tup (.of upd_same) hl (r2.mono kf)))
  · cases e
theorem s_lst {as : IL} (ha : PA X es (tL X.K L n as)) : PE X (.List es pos) (tE X.K L n (.lst as)) := by
  refine PE.imp (pe_lst ha) fun σ H Q ⟨Fr, Hf, rho, s, h, v, h', R, S, e, k⟩ => ?_
  simp only [ev] at e
  obtain ⟨⟨p1, p2⟩, e1, e⟩ := bnd_inv e
  obtain ⟨q1, e2, e⟩ := bnd_inv e
  split at e
  · rename_i hz
    cases e
    refine ⟨Fr, Hf, rho, s, h, _, _, R, S, e1, fun Hg H1 xs sm R1 rx => ?_⟩
    have r2 := toDs_ok rx e2
    have hl : xs.length ≤ sizeLine := by rw [← r2.length]; exact small_line (ble_of hz)
    refine ⟨hl, fun p hp => ?_⟩
    obtain ⟨kf, R3⟩ := R1.allocF (o := .lst xs) hp
    exact k _ _ _ (sm.trans kf) R3 (.d (.lst upd_same hl (r2.mono kf)))
  · cases e
end
end K24
/-! K24Snd7: built-in functions, isinstance, places and slices, tables of the module. -/
set_option Elab.async false
set_option linter.all false
set_option maxRecDepth 100000
set_option maxHeartbeats 1000000
namespace K24
open PySem PySem.Spec PyProof.Rows L2 ClX RZ
section
variable {X : Cx} {L : Lay} {n : Nat} {pos : Pos} {a b u : IE} {e e1 e2 e3 : Expr} {es : List Expr} {c : Cc}
inductive RepLs (K : PySem.W.Frag) (L : Lay) (Hf H : Hp) : List D → List V → Prop
  | nil : RepLs K L Hf H [] []
  | cons {d : D} {v : V} {ds : List D} {vs : List V} (h : RepL K L Hf H d v) (t : RepLs K L Hf H ds vs) : RepLs K L Hf H (d :: ds) (v :: vs)
theorem lookAll_ok {K : PySem.W.Frag} {Fr Hf H : Hp} {rho : List Addr} {h : Hs} (R : Rel K L Fr Hf rho h H) : ∀ {vs : List AV} {xs : List V} {ds : List D}, RepAs K L Hf rho vs xs → lookAll h vs = some ds → RepLs K L Hf H ds xs
  | _, _, ds, .nil, e => by
    cases (show some [] = some ds from e)
    exact .nil
  | _, _, ds, .cons (a := v) (as := vs) r t, e => by
    obtain ⟨x, e1, e⟩ := bnd_inv (show bnd (look h v) (fun x => bnd (lookAll h vs) fun xs => some (x :: xs)) = some ds from e)
    obtain ⟨xs, e2, e⟩ := bnd_inv e
    cases e
    exact .cons (look_inv R r e1) (lookAll_ok R t e2)
def rBl (K : PySem.W.Frag) (L : Lay) (b : Blt) : List V → Hp → VK → Prop := fun vs H Q => ∃ (Fr Hf : Hp) (rho : List Addr) (h : Hs) (xs : List D) (z : D), Rel K L Fr Hf rho h H ∧ RepLs K L Hf H xs vs ∧ bltN b xs = some z ∧
  ∀ Hg H' w, Same Hf Hg → Rel K L Fr Hg rho h H' → Rep K L Hg z w → Q w H'
theorem one_of {K : PySem.W.Frag} {Hf H : Hp} {x : D} {vs : List V} (r : RepLs K L Hf H [x] vs) : ∃ v, vs = [v] ∧ RepL K L Hf H x v := by
  cases r with
  | cons h t => cases t; exact ⟨_, rfl, h⟩
theorem two_of {K : PySem.W.Frag} {Hf H : Hp} {x y : D} {vs : List V} (r : RepLs K L Hf H [x, y] vs) : ∃ v w, vs = [v, w] ∧ RepL K L Hf H x v ∧ RepL K L Hf H y w := by
  cases r with
  | cons h t => cases t with
    | cons h' t => cases t; exact ⟨_, _, rfl, h, h'⟩
theorem b_len : CallR X (.builtin "len") (rBl X.K L .len) := by
  intro pins s σ H xs us Q I r h
  obtain ⟨Fr, Hf, rho, hs, ds, z, R, rs, e, k⟩ := h
  match ds, e with
  | [x], e =>
    obtain ⟨v, rfl, rv⟩ := one_of rs
    obtain ⟨m, e1, e⟩ := bnd_inv (show bnd (lenD x) (fun n => some (D.int n)) = some z from e)
    cases e
    refine call_len pins s σ H _ us Q I r ⟨v, m, rfl, ?_, k Hf H _ (Same.refl _) R (.int _)⟩
    cases x with
    | lst ds =>
      obtain ⟨p, vs, rfl, h1, h2, h3⟩ := rv
      cases e1
      exact .inl ⟨vs, .of h1, h3.length⟩
    | tup ds =>
      cases (show Rep X.K L Hf (.tup ds) v from rv) with
      | tup h1 h2 h3 =>
        cases e1
        exact .inr ⟨_, SqT.mono R.same h1, h3.length⟩
    | str l =>
      cases (show Rep X.K L Hf (.str l) v from rv)
      have e2 : (match Nat.ble l.length K24.line with | true => some l.length | false => none) = some m := e1
      split at e2
      · rename_i hz
        cases e2
        have := ble_of hz
        rw [line_eq] at this
        exact ⟨this, rfl⟩
      · cases e2
    | _ => cases e1
  | [x, y], e => cases x <;> cases y <;> cases e
theorem intText_of {l : List Nat} {i : Int} (h : intL l = some i) : PySem.intText? ⟨l.toArray⟩ = some i ∧ (⟨l.toArray⟩ : Str).length ≤ 640 := by
  unfold intL at h
  split at h
  · rename_i q
    have := of_decide_eq_true q
    subst this
    cases h
    exact ⟨by decide +kernel, by decide⟩
  · split at h
    · rename_i q
      have := of_decide_eq_true q
      subst this
      cases h
      exact ⟨by decide +kernel, by decide⟩
    · split at h
      · rename_i q
        have := of_decide_eq_true q
        subst this
        cases h
        exact ⟨by decide +kernel, by decide⟩
      · cases h
theorem b_int : CallR X (.type "int") (rBl X.K L .int) := by
  intro pins s σ H xs us Q I r h
  obtain ⟨Fr, Hf, rho, hs, ds, z, R, rs, e, k⟩ := h
  match ds, e with
  | [x], e =>
    obtain ⟨v, rfl, rv⟩ := one_of rs
    cases x with
    | int i =>
      cases (show Rep X.K L Hf (.int i) v from rv)
      cases e
      exact call_int1 pins s σ H _ us Q I r (.inl ⟨i, rfl, k Hf H _ (Same.refl _) R (.int _)⟩)
    | bl i =>
      cases (show Rep X.K L Hf (.bl i) v from rv)
      cases e
      exact call_int1 pins s σ H _ us Q I r (.inr ⟨i, rfl, k Hf H _ (Same.refl _) R (.int _)⟩)
    | str l =>
      cases (show Rep X.K L Hf (.str l) v from rv)
      obtain ⟨i, e1, e⟩ := bnd_inv (show bnd (intL l) (fun i => some (D.int i)) = some z from e)
      cases e
      obtain ⟨t1, t2⟩ := intText_of e1
      exact call_int_str pins s σ H _ us Q I r ⟨_, i, rfl, t1, t2, k Hf H _ (Same.refl _) R (.int _)⟩
    | _ => cases e
  | [x, y], e => cases x <;> cases y <;> cases e
theorem b_tuple : CallR X (.type "tuple") (rBl X.K L .tuple) := by
  intro pins s σ H xs us Q I r h
  obtain ⟨Fr, Hf, rho, hs, ds, z, R, rs, e, k⟩ := h
  match ds, e with
  | [x], e =>
    obtain ⟨v, rfl, rv⟩ := one_of rs
    cases x with
    | lst ds =>
      obtain ⟨p, vs, rfl, h1, h2, h3⟩ := rv
      cases e
      refine call_tuple_of pins s σ H _ us Q I r ⟨p, vs, rfl, .inl ⟨.of h1, fun l hl => ?_⟩⟩
      obtain ⟨kf, R3⟩ := R.allocF (o := .tup vs) hl
      exact k _ _ _ kf R3 (.tup (.of upd_same) h2 (h3.mono kf))
    | tup ds =>
      cases (show Rep X.K L Hf (.tup ds) v from rv) with
      | tup h1 h2 h3 =>
        cases e
        exact call_tuple_of pins s σ H _ us Q I r ⟨_, _, rfl, .inr ⟨SqT.mono R.same h1, k Hf H _ (Same.refl _) R (.tup h1 h2 h3)⟩⟩
    | _ => cases e
  | [x, y], e => cases x <;> cases y <;> cases e
theorem b_list : CallR X (.type "list") (rBl X.K L .list) := by
  intro pins s σ H xs us Q I r h
  obtain ⟨Fr, Hf, rho, hs, ds, z, R, rs, e, k⟩ := h
  match ds, e with
  | [x], e =>
    obtain ⟨v, rfl, rv⟩ := one_of rs
    cases x with
    | lst ds =>
      obtain ⟨p, vs, rfl, h1, h2, h3⟩ := rv
      cases e
      refine call_list_of pins s σ H _ us Q I r ⟨p, vs, rfl, .inl (.of h1), fun l hl => ?_⟩
      obtain ⟨kf, R3⟩ := R.allocF (o := .lst vs) hl
      exact k _ _ _ kf R3 (.lst upd_same h2 (h3.mono kf))
    | tup ds =>
      cases (show Rep X.K L Hf (.tup ds) v from rv) with
      | tup h1 h2 h3 =>
        cases e
        refine call_list_of pins s σ H _ us Q I r ⟨_, _, rfl, .inr (SqT.mono R.same h1), fun l hl => ?_⟩
        obtain ⟨kf, R3⟩ := R.allocF (o := .lst _) hl
        exact k _ _ _ kf R3 (.lst upd_same h2 (h3.mono kf))
    | scr ns =>
      cases (show Rep X.K L Hf (.scr ns) v from rv) with
      | scr h1 h2 =>
        cases e
        refine call_list_of pins s σ H _ us Q I r ⟨_, _, rfl, .inl (Same.seq R.same h1), fun l hl => ?_⟩
        obtain ⟨kf, R3⟩ := R.allocF (o := .lst (ns.map V.int)) hl
        exact k _ _ _ kf R3 (.lst upd_same (by rw [List.length_map]; exact h2) Reps.ints)
    | _ => cases e
  | [x, y], e => cases x <;> cases y <;> cases e
theorem b_min2 (hc : X.calm = true) : CallR X (.builtin "min") (rBl X.K L .min2) := by
  intro pins s σ H xs us Q I r h
  obtain ⟨Fr, Hf, rho, hs, ds, z, R, rs, e, k⟩ := h
  match ds, e with
  | [x], e => cases e
  | [x, y], e =>
    obtain ⟨v, w, rfl, rv, rw'⟩ := two_of rs
    cases x with
    | int i =>
      cases y with
      | int j =>
        cases (show Rep X.K L Hf (.int i) v from rv)
        cases (show Rep X.K L Hf (.int j) w from rw')
        cases e
        exact call_min2 hc pins s σ H _ us Q I r ⟨i, j, rfl, k Hf H _ (Same.refl _) R (.int _)⟩
      | _ => cases e
    | _ => cases y <;> cases e
theorem b_max2 (hc : X.calm = true) : CallR X (.builtin "max") (rBl X.K L .max2) := by
  intro pins s σ H xs us Q I r h
  obtain ⟨Fr, Hf, rho, hs, ds, z, R, rs, e, k⟩ := h
  match ds, e with
  | [x], e => cases e
  | [x, y], e =>
    obtain ⟨v, w, rfl, rv, rw'⟩ := two_of rs
    cases x with
    | int i =>
      cases y with
      | int j =>
        cases (show Rep X.K L Hf (.int i) v from rv)
        cases (show Rep X.K L Hf (.int j) w from rw')
        cases e
        exact call_max2 hc pins s σ H _ us Q I r ⟨i, j, rfl, k Hf H _ (Same.refl _) R (.int _)⟩
      | _ => cases e
    | _ => cases y <;> cases e
theorem leastL_ok : ∀ (r : List Int) (m : Int), leastL m r ∈ m :: r ∧ ∀ y ∈ m :: r, leastL m r ≤ y
  | [], m => ⟨by simp [leastL], by simp [leastL]⟩
  | x :: r, m => by
    obtain ⟨h1, h2⟩ := leastL_ok r (if x < m then x else m)
    have e : leastL m (x :: r) = leastL (if x < m then x else m) r := rfl
    rw [e]
    by_cases hx : x < m
    · rw [if_pos hx] at h1 h2 ⊢
      refine ⟨List.mem_cons_of_mem _ h1, fun y hy => ?_⟩
      rcases List.mem_cons.mp hy with rfl | hy
      · exact Int.le_trans (h2 x (by simp)) (by omega)
      · exact h2 y hy
    · rw [if_neg hx] at h1 h2 ⊢
      refine ⟨?_, fun y hy => ?_⟩
      · rcases List.mem_cons.mp h1 with z | z
        · rw [z]; simp
        · exact List.mem_cons_of_mem _ (List.mem_cons_of_mem _ z)
      · rcases List.mem_cons.mp hy with rfl | hy
        · exact h2 y (by simp)
        · rcases List.mem_cons.mp hy with rfl | hy
          · exact Int.le_trans (h2 m (by simp)) (by omega)
          · exact h2 y (by simp [hy])
theorem mostL_ok : ∀ (r : List Int) (m : Int), mostL m r ∈ m :: r ∧ ∀ y ∈ m :: r, y ≤ mostL m r
  | [], m => ⟨by simp [mostL], by simp [mostL]⟩
  | x :: r, m => by
    obtain ⟨h1, h2⟩ := mostL_ok r (if x > m then x else m)
    have e : mostL m (x :: r) = mostL (if x > m then x else m) r := rfl
    rw [e]
    by_cases hx : x > m
    · rw [if_pos hx] at h1 h2 ⊢
      refine ⟨List.mem_cons_of_mem _ h1, fun y hy => ?_⟩
      rcases List.mem_cons.mp hy with rfl | hy
      · exact Int.le_trans (by omega) (h2 x (by simp))
      · exact h2 y hy
    · rw [if_neg hx] at h1 h2 ⊢
      refine ⟨?_, fun y hy => ?_⟩
      · rcases List.mem_cons.mp h1 with z | z
        · rw [z]; simp
        · exact List.mem_cons_of_mem _ (List.mem_cons_of_mem _ z)
      · rcases List.mem_cons.mp hy with rfl | hy
        · exact h2 y (by simp)
        · rcases List.mem_cons.mp hy with rfl | hy
          · exact Int.le_trans (by omega) (h2 m (by simp))
          · exact h2 y (by simp [hy])
theorem b_minl (hc : X.calm = true) : CallR X (.builtin "min") (rBl X.K L .minl) := by
  intro pins s σ H xs us Q I r h
  obtain ⟨Fr, Hf, rho, hs, ds, z, R, rs, e, k⟩ := h
  match ds, e with
  | [x], e =>
    obtain ⟨v, rfl, rv⟩ := one_of rs
    cases x with
    | lst ds =>
      obtain ⟨p, vs, rfl, h1, h2, h3⟩ := rv
      obtain ⟨l, e1, e⟩ := bnd_inv (show bnd (intsD ds) (fun l => match l with | [] => none | m :: r => some (D.int (leastL m r))) = some z from e)
      match l, e with
      | m :: r', e =>
        cases e
        obtain ⟨m1, m2⟩ := leastL_ok r' m
        have ev := h3.of_ints e1
        subst ev
        refine cr_min hc pins s σ H _ us Q I r ⟨p, m :: r', rfl, .of h1, by simp, fun y hy hle => ?_⟩
        have : y = leastL m r' := Int.le_antisymm (hle _ m1) (m2 _ hy)
        rw [this]
        exact k Hf H _ (Same.refl _) R (.int _)
    | _ => cases e
  | [x, y], e => cases x <;> cases y <;> cases e
theorem b_maxl (hc : X.calm = true) : CallR X (.builtin "max") (rBl X.K L .maxl) := by
  intro pins s σ H xs us Q I r h
  obtain ⟨Fr, Hf, rho, hs, ds, z, R, rs, e, k⟩ := h
  match ds, e with
  | [x], e =>
    obtain ⟨v, rfl, rv⟩ := one_of rs
    cases x with
    | lst ds =>
      obtain ⟨p, vs, rfl, h1, h2, h3⟩ := rv
      obtain ⟨l, e1, e⟩ := bnd_inv (show bnd (intsD ds) (fun l => match l with | [] => none | m :: r => some (D.int (mostL m r))) = some z from e)
      match l, e with
      | m :: r', e =>
        cases e
        obtain ⟨m1, m2⟩ := mostL_ok r' m
        have ev := h3.of_ints e1
        subst ev
        refine cr_max hc pins s σ H _ us Q I r ⟨p, m :: r', rfl, .of h1, by simp, fun y hy hle => ?_⟩
        have : y = mostL m r' := Int.le_antisymm (m2 _ hy) (hle _ m1)
        rw [this]
        exact k Hf H _ (Same.refl _) R (.int _)
    | _ => cases e
  | [x, y], e => cases x <;> cases y <;> cases e
theorem q_blt {k : Blt} {as : IL} {σ : L2.St} {H : Hp} {Q : VK} (hq : tE X.K L n (.blt k as) σ H Q) : tCB (rBl X.K L k) (tL X.K L n as) σ H Q := by
  obtain ⟨Fr, Hf, rho, s, h, v, h', R, S, e, kk⟩ := hq
  simp only [ev] at e
  obtain ⟨⟨p1, p2⟩, e1, e⟩ := bnd_inv e
  obtain ⟨xs, e2, e⟩ := bnd_inv e
  obtain ⟨x, e3, e⟩ := bnd_inv e
  cases e
  refine ⟨Fr, Hf, rho, s, h, _, _, R, S, e1, fun Hg H1 vs sm R1 rx => ?_⟩
  exact ⟨Fr, Hg, rho, p2, xs, x, R1, lookAll_ok R1 rx e2, e3, fun Hg' H' w sm' R' r' => kk Hg' H' w (sm.trans sm') R' (.d r')⟩
theorem s_blt {k : Blt} {as : IL} {x : Str} {p : Pos} (O : XOk L n c X) (hx : x = bltName k) (hg : glB c.sc x = true) (hs : (e :: es).all notStar = true) (ha : PA X (e :: es) (tL X.K L n as)) :
    PE X (.Call (.Name x p) (e :: es) [] pos) (tE X.K L n (.blt k as)) := by
  have fr : X.mg x = none := O.tok.free x (by subst hx; cases k <;> simp [bltName])
  have G := gl_of O hg
  rw [List.all_cons, Bool.and_eq_true] at hs
  subst hx
  have hst := star_cons (es := es) (env := X.env) hs.1
  have hpl := star_any (pos := pos) (env := X.env) hs.2
  cases k with
  | len => exact PE.imp (pe_callB b_len G fr boot_len ha (by decide) (by decide) hst hpl) fun σ H Q hq => q_blt hq
  | int => exact PE.imp (pe_callTy b_int G fr boot_int ha (by decide) (by decide) hst hpl) fun σ H Q hq => q_blt hq
  | tuple => exact PE.imp (pe_callTy b_tuple G fr boot_tuple ha (by decide) (by decide) hst hpl) fun σ H Q hq => q_blt hq
  | list => exact PE.imp (pe_callTy b_list G fr boot_list ha (by decide) (by decide) hst hpl) fun σ H Q hq => q_blt hq
  | min2 => exact PE.imp (pe_callB (b_min2 O.calm) G fr (by decide +kernel) ha (by decide) (by decide) hst hpl) fun σ H Q hq => q_blt hq
  | max2 => exact PE.imp (pe_callB (b_max2 O.calm) G fr (by decide +kernel) ha (by decide) (by decide) hst hpl) fun σ H Q hq => q_blt hq
  | minl => exact PE.imp (pe_callB (b_minl O.calm) G fr (by decide +kernel) ha (by decide) (by decide) hst hpl) fun σ H Q hq => q_blt hq
  | maxl => exact PE.imp (pe_callB (b_maxl O.calm) G fr (by decide +kernel) ha (by decide) (by decide) hst hpl) fun σ H Q hq => q_blt hq
end
end K24
/-! K24Snd8: isinstance, startswith, tables of the module, places and slices. -/
set_option Elab.async false
set_option linter.all false
set_option maxRecDepth 100000
set_option maxHeartbeats 1000000
namespace K24
open PySem PySem.Spec PyProof.Rows L2 ClX RZ
section
variable {X : Cx} {L : Lay} {n : Nat} {pos : Pos} {a b u : IE} {e e1 e2 e3 : Expr} {es : List Expr} {c : Cc}
/-! ### isinstance -/
def clsV (L : Lay) : Nat → V
  | 0 => .ty "bool"
  | 1 => .ty "str"
  | 2 => .ty "int"
  | k + 3 => .ref (L.cadr k)
def clsU (L : Lay) : Nat → Value
  | 0 => .type "bool"
  | 1 => .type "str"
  | 2 => .type "int"
  | k + 3 => .ref (L.cadr k)
theorem cls_is (L : Lay) : ∀ k, ClsV (clsV L k) (clsU L k)
  | 0 => .ty _
  | 1 => .ty _
  | 2 => .ty _
  | _ + 3 => .own _
theorem s_cls {k : Nat} (O : XOk L n c X) (h : isiName L.M L.T c.sc k e = true) : PE X e (L2.tC (clsV L k)) := by
  unfold isiName at h
  split at h
  · rename_i x p
    rw [Bool.and_eq_true] at h
    have G := gl_of O h.1
    have h2 := h.2
    match k, h2 with
    | 0, h2 =>
      have hx := of_decide_eq_true h2
      subst hx
      exact pe_bltn G (O.tok.free _ (by simp)) boot_bool rfl
    | 1, h2 =>
      have hx := of_decide_eq_true h2
      subst hx
      exact pe_bltn G (O.tok.free _ (by simp)) boot_str rfl
    | 2, h2 =>
      have hx := of_decide_eq_true h2
      subst hx
      exact pe_bltn G (O.tok.free _ (by simp)) boot_int rfl
    | k + 3, h2 =>
      rw [Bool.and_eq_true] at h2
      have hx := of_decide_eq_true h2.1
      obtain ⟨ci, hc⟩ := Option.isSome_iff_exists.mp h2.2
      subst hx
      exact pe_glob G (O.tok.glc k ci hc) rfl (O.tok.dbgc k)
  · cases h
theorem isI_ok {k : Nat} {x : D} {v : V} {b : Bool} {Hf H : Hp} (O : XOk L n c X) (s : Same Hf H) (r : Rep X.K L Hf x v) (e : isI L.T x k = some b) : ∃ t, TyX X.K H v t ∧ PySem.W.kitOne X.K t (clsU L k) = some b ∧ ∀ k' b', isI L.T x k' = some b' → PySem.W.kitOne X.K t (clsU L k') = some b' := by
  cases r with
  | bl i =>
    have all : ∀ k' b', isI L.T (.bl i) k' = some b' → PySem.W.kitOne X.K (.type "bool") (clsU L k') = some b' := fun k' b' e' => by
      match k', e' with
      | 0, e' => cases e'; exact kit_ty (by decide +kernel)
      | 1, e' => cases e'; exact kit_ty (by decide +kernel)
      | 2, e' => cases e'; exact kit_ty (by decide +kernel)
      | _ + 3, e' => cases e'
    exact ⟨_, .base (.bl i), all k b e, all⟩
  | int i =>
    have all : ∀ k' b', isI L.T (.int i) k' = some b' → PySem.W.kitOne X.K (.type "int") (clsU L k') = some b' := fun k' b' e' => by
      match k', e' with
      | 0, e' => cases e'; exact kit_ty (by decide +kernel)
      | 1, e' => cases e'; exact kit_ty (by decide +kernel)
      | 2, e' => cases e'; exact kit_ty (by decide +kernel)
      | _ + 3, e' => cases e'
    exact ⟨_, .base (.int i), all k b e, all⟩
  | str l =>
    have all : ∀ k' b', isI L.T (.str l) k' = some b' → PySem.W.kitOne X.K (.type "str") (clsU L k') = some b' := fun k' b' e' => by
      match k', e' with
      | 0, e' => cases e'; exact kit_ty (by decide +kernel)
      | 1, e' => cases e'; exact kit_ty (by decide +kernel)
      | 2, e' => cases e'; exact kit_ty (by decide +kernel)
      | _ + 3, e' => cases e'
    exact ⟨_, .base (.str _), all k b e, all⟩
  | ins h1 h2 =>
    rename_i ad dx k0 fs gs
    have inv : ∀ k' b', isI L.T (.ins k0 fs) k' = some b' → k0 ∈ L.T.conds ∧ PySem.W.kitOne X.K (.ref (L.cadr k0)) (clsU L k') = some b' := fun k' b' e' => by
      match k', e' with
      | 0, e' => cases e'
      | 1, e' => cases e'
      | 2, e' => cases e'
      | k'' + 3, e' =>
        have e2 : (match L.T.conds.contains k0 && L.T.conds.contains k'' with | true => some (Nat.beq k0 k'') | false => none) = some b' := e'
        split at e2
        · rename_i q
          cases e2
          rw [Bool.and_eq_true, List.contains_iff_mem, List.contains_iff_mem] at q
          exact ⟨q.1, (O.tok.isK k0 k'' q.1 q.2).1⟩
        · cases e2
    obtain ⟨hk, hb⟩ := inv k b e
    obtain ⟨I, Cl⟩ := O.tok.isT k0 hk
    exact ⟨_, .base (.ins (s _ _ h1) Cl I.ha I.hn I.htk I.hm), hb, fun k' b' e' => (inv k' b' e').2⟩
  | _ => cases e
theorem isA_ok {t : Value} {x : D} (hk : ∀ k' b', isI L.T x k' = some b' → PySem.W.kitOne X.K t (clsU L k') = some b') : ∀ {ks : List Nat} {b : Bool}, isA L.T x ks = some b → PySem.W.kitAny X.K t (ks.map (clsU L)) = some b
  | [], b, e => by cases e; exact kitAny_nil
  | k :: ks, b, e => by
    obtain ⟨b', e1, e⟩ := bnd_inv (show bnd (isI L.T x k) (fun b => match b with | true => some true | false => isA L.T x ks) = some b from e)
    refine kitAny_cons (hk k b' e1) (fun z => ?_) (fun z => ?_)
    · subst z
      exact isA_ok hk e
    · subst z
      exact (Option.some.inj e).symm
theorem isA_first {x : D} : ∀ {ks : List Nat} {b : Bool}, ks ≠ [] → isA L.T x ks = some b → ∃ k b', isI L.T x k = some b'
  | [], _, h, _ => absurd rfl h
  | k :: ks, b, _, e => by
    obtain ⟨b', e1, _⟩ := bnd_inv (show bnd (isI L.T x k) (fun b => match b with | true => some true | false => isA L.T x ks) = some b from e)
    exact ⟨k, b', e1⟩
theorem s_isi1 {k : Nat} {x : Str} {p : Pos} (O : XOk L n c X) (hx : x = "isinstance") (hg : glB c.sc x = true) (s1 : notStar e1 = true) (s2 : notStar e2 = true) (ha : PE X e1 (tE X.K L n a)) (hb : isiName L.M L.T c.sc k e2 = true) :
    PE X (.Call (.Name x p) [e1, e2] [] pos) (tE X.K L n (.isin a true [k])) := by
  have G := gl_of O hg
  subst hx
  refine PE.imp (pe_callB call_isi G (O.tok.free _ (by simp)) boot_isinstance (pa_cons ha (pa_cons (s_cls O hb) pa_nil (star_cons s2)) (star_cons s1)) (by decide) (by decide) (star_cons s1) (star_any (by rw [List.all_cons, s2]; rfl))) fun σ H Q ⟨Fr, Hf, rho, s, h, v, h', R, S, e, kk⟩ => ?_
  simp only [ev] at e
  obtain ⟨⟨p1, p2⟩, e1, e⟩ := bnd_inv e
  obtain ⟨y, e2, e⟩ := bnd_inv e
  obtain ⟨bb, e3, e⟩ := bnd_inv e
  cases e
  cases toD_inv e2
  refine ⟨Fr, Hf, rho, s, h, _, _, R, S, e1, fun Hg H1 vx sm R1 rx => ?_⟩
  obtain ⟨b', e4, e5⟩ := bnd_inv (show bnd (isI L.T y k) (fun b => match b with | true => some true | false => isA L.T y []) = some bb from e3)
  obtain ⟨t, ty, hk, _⟩ := isI_ok O R1.same rx.d' e4
  refine ⟨vx, clsV L k, t, clsU L k, b', rfl, cls_is L k, ty, hk, ?_⟩
  have eb : b' = bb := by
    cases b' with
    | true => exact Option.some.inj e5
    | false => exact Option.some.inj e5
  rw [eb]
  exact kk Hg H1 _ sm R1 (.d (.bl bb))
theorem s_clss (O : XOk L n c X) : ∀ {ks : List Nat} {es : List Expr}, isiAll L.M L.T c.sc ks es = true → ∃ t : TA, PA X es t ∧ (∀ σ H Q, Q (ks.map (clsV L)) H → t σ H Q) ∧ ks.length = es.length
  | [], [], _ => ⟨_, pa_nil, fun _ _ _ h => h, rfl⟩
  | [], _ :: _, h => by cases h
  | _ :: _, [], h => by cases h
  | k :: ks, e :: es, h => by
    have h2 : (notStar e && (isiName L.M L.T c.sc k e && isiAll L.M L.T c.sc ks es)) = true := h
    rw [Bool.and_eq_true, Bool.and_eq_true] at h2
    obtain ⟨t, h3, h4, h5⟩ := s_clss O h2.2.2
    exact ⟨_, pa_cons (s_cls O h2.2.1) h3 (star_cons h2.1), fun σ H Q hq => h4 σ H _ hq, by rw [List.length_cons, List.length_cons, h5]⟩
theorem paired_cls (L : Lay) : ∀ ks : List Nat, Paired ClsV (ks.map (clsV L)) (ks.map (clsU L))
  | [] => .nil
  | k :: ks => .cons (cls_is L k) (paired_cls L ks)
theorem s_isiT {ks : List Nat} {x : Str} {p tp : Pos} {j : Nat} (O : XOk L n c X) (hx : x = "isinstance") (hg : glB c.sc x = true) (s1 : notStar e1 = true) (ha : PE X e1 (tE X.K L n a)) (hb : isiAll L.M L.T c.sc ks es = true) (hl : Nat.ble es.length 100 = true) (hne : ks ≠ []) :
    PE X (.Call (.Name x p) [e1, .Tuple es j tp] [] pos) (tE X.K L n (.isin a false ks)) := by
  have G := gl_of O hg
  subst hx
  obtain ⟨t, h3, h4, h5⟩ := s_clss O hb
  refine PE.imp (pe_callB call_isiT G (O.tok.free _ (by simp)) boot_isinstance (pa_cons ha (pa_cons (pe_tup h3) pa_nil (star_cons rfl)) (star_cons s1)) (by decide) (by decide) (star_cons s1) (star_any rfl)) fun σ H Q ⟨Fr, Hf, rho, s, h, v, h', R, S, e, kk⟩ => ?_
  simp only [ev] at e
  obtain ⟨⟨p1, p2⟩, e1, e⟩ := bnd_inv e
  obtain ⟨y, e2, e⟩ := bnd_inv e
  obtain ⟨bb, e3, e⟩ := bnd_inv e
  cases e
  cases toD_inv e2
  refine ⟨Fr, Hf, rho, s, h, _, _, R, S, e1, fun Hg H1 vx sm R1 rx => ?_⟩
  refine h4 σ H1 _ ⟨?_, fun q hq => ?_⟩
  · rw [List.length_map, h5]
    have := ble_of hl
    rw [sizeLine_eq]; omega
  · have R2 := R1.alloc (o := .tup (ks.map (clsV L))) hq
    have fin := kk Hg _ _ sm R2 (.d (.bl bb))
    obtain ⟨k', b', e4⟩ := isA_first hne e3
    obtain ⟨t', ty, _, hk⟩ := isI_ok O R2.same rx.d' e4
    exact ⟨vx, q, _, t', _, bb, rfl, upd_same, paired_cls L ks, ty, isA_ok hk e3, fin⟩
/-! ### startswith -/
theorem sub_at (x y : List Nat) (k : Nat) : Builtin.Str.subAt ⟨x.toArray⟩ ⟨y.toArray⟩ k = decide ((x.drop k).take y.length = y) := by
  unfold Builtin.Str.subAt
  rw [Bool.eq_iff_iff, beq_iff_eq, decide_eq_true_iff]
  have e : ((⟨x.toArray⟩ : Str).cps.extract k (k + (⟨y.toArray⟩ : Str).length)).toList = (x.drop k).take y.length := by
    show (x.toArray.extract k (k + y.toArray.size)).toList = _
    rw [Array.toList_extract, List.extract_eq_drop_take']
    simp only [List.size_toArray, List.toList_toArray]
    rw [show k + y.length = k + y.length from rfl, List.drop_take]
    congr 1
    omega
  constructor
  · intro h
    rw [← e, h]
  · intro h
    have h2 := e.trans h
    exact Array.toList_inj.mp (by rw [h2])
theorem sw_eq {x y : List Nat} {i : Int} {b : Bool} (h : swD x y i = some b) : Txt.startswith3 ⟨x.toArray⟩ ⟨y.toArray⟩ i = b := by
  unfold swD at h
  split at h
  · rename_i q
    have q := of_decide_eq_true q
    have ef : fromIndex (⟨x.toArray⟩ : Str).length i = i.toNat := by
      unfold fromIndex
      rw [if_neg (by omega)]
      omega
    have h2 := Option.some.inj h
    unfold Txt.startswith3
    rw [ef, sub_at, ← h2]
    congr 1
    show decide (i.toNat + y.toArray.size ≤ x.toArray.size) = _
    simp only [List.size_toArray]
    cases z : Nat.ble (i.toNat + y.length) x.length with
    | true => exact decide_eq_true (ble_of z)
    | false =>
      refine decide_eq_false fun w => ?_
      rw [Nat.ble_eq_true_of_le w] at z
      cases z
  · cases h
theorem s_sw {ap : Pos} (h1 : plainO e1 = true) (h2 : notStar e2 = true) (h3 : notStar e3 = true) (hl : (ap.endLine == pos.line) = true) (ha : PE X e1 (tE X.K L n a)) (hb : PE X e2 (tE X.K L n b)) (hc : PE X e3 (tE X.K L n u)) :
    PE X (.Call (.Attribute e1 "startswith" ap) [e2, e3] [] pos) (tE X.K L n (.sw a b u)) := by
  have hs : [e2, e3].all notStar = true := by rw [List.all_cons, List.all_cons, h2, h3]; rfl
  refine PE.imp (pe_bm PySem.F.plainAttrs_str PySem.F.slot_str_startswith PySem.F.type_str_startswith mt_startswith3 ha (pa_cons hb (pa_cons hc pa_nil (star_cons h3)) (star_cons h2)) (attr_base h1) ?_ hl (star_cons h2) (star_any (by rw [List.all_cons, h3]; rfl)))
    fun σ H Q ⟨Fr, Hf, rho, s, h, v, h', R, S, e, kk⟩ => ?_
  · rw [star_all hs]
    rfl
  simp only [ev] at e
  obtain ⟨⟨p1, p2⟩, e1, e⟩ := bnd_inv e
  obtain ⟨⟨q1, q2⟩, e2, e⟩ := bnd_inv e
  obtain ⟨⟨r1, r2⟩, e3, e⟩ := bnd_inv e
  split at e
  · rename_i x y i hp hq hr
    cases (show p1 = _ from hp)
    cases (show q1 = _ from hq)
    cases (show r1 = _ from hr)
    obtain ⟨bb, e4, e⟩ := bnd_inv e
    cases e
    refine ⟨Fr, Hf, rho, s, h, _, _, R, S, e1, fun Hg H1 vx sm R1 rx => ?_⟩
    cases rx.d'
    refine ⟨rfl, Fr, Hg, rho, s, _, _, _, R1, S.mono sm List.prefix_rfl, e2, fun Hg2 H2 vy sm2 R2 ry => ⟨Fr, Hg2, rho, s, _, _, _, R2, S.mono (sm.trans sm2) List.prefix_rfl, e3, fun Hg3 H3 vz sm3 R3 rz => ?_⟩⟩
    cases ry.d'
    cases rz.d'
    refine ⟨_, _, i, rfl, rfl, ?_⟩
    rw [sw_eq e4]
    exact kk Hg3 H3 _ ((sm.trans sm2).trans sm3) R3 (.d (.bl bb))
  · cases e
/-! ### tables of the module -/
theorem s_dget {t : Nat} {x : Str} {p : Pos} (O : XOk L n c X) (hx : x = L.M.tnm t) (hg : glB c.sc x = true) (hs : notSlice e1 = true) (ha : PE X e1 (tE X.K L n a)) : PE X (.Subscript (.Name x p) e1 pos) (tE X.K L n (.dget t a)) := by
  refine ⟨fun pins s σ H Q I hq => ?_⟩
  obtain ⟨Fr, Hf, rho, sl, h, v, h', R, S, e, kk⟩ := hq
  simp only [ev] at e
  obtain ⟨⟨p1, p2⟩, e1, e⟩ := bnd_inv e
  split at e
  · rename_i l hp
    cases (show p1 = _ from hp)
    obtain ⟨kvs, e2, e⟩ := bnd_inv e
    obtain ⟨y, e3, e⟩ := bnd_inv e
    cases e
    obtain ⟨d, es, m, k1, k2, k3⟩ := O.tok.dict t kvs e2
    subst hx
    obtain ⟨w, vv, j1, j2, j3⟩ := k3 l y e3
    refine (pe_ix ix_kdict (pe_glob (v := V.ref d) (gl_of O hg) k1 rfl (O.tok.dbgt t)) ha (ix_plain hs)).run pins s σ H Q I ?_
    refine ⟨Fr, Hf, rho, sl, h, _, _, R, S, e1, fun Hg H1 vx sm R1 rx => ?_⟩
    cases rx.d'
    exact ⟨d, _, vv, rfl, rfl, ⟨es, m, w, k2.at_, k2.lit, j1, j2⟩, kk Hg H1 _ sm R1 (.d (j3 Hg))⟩
  · cases e
theorem q_dnin {t : Nat} {x : Str} {p : Pos} (O : XOk L n c X) (hx : x = L.M.tnm t) (hg : glB c.sc x = true) (ha : PE X e1 (tE X.K L n a)) : PE X (.Compare e1 [.NotIn] [.Name x p] pos) (tE X.K L n (.dnin t a)) := by
  refine ⟨fun pins s σ H Q I hq => ?_⟩
  obtain ⟨Fr, Hf, rho, sl, h, v, h', R, S, e, kk⟩ := hq
  simp only [ev] at e
  obtain ⟨⟨p1, p2⟩, e1, e⟩ := bnd_inv e
  split at e
  · rename_i l hp
    cases (show p1 = _ from hp)
    obtain ⟨kvs, e2, e⟩ := bnd_inv e
    obtain ⟨y, e3, e⟩ := bnd_inv e
    cases e
    obtain ⟨d, es, m, k1, k2, k3⟩ := O.tok.dict t kvs e2
    subst hx
    obtain ⟨w, vv, j1, j2, j3⟩ := k3 l y e3
    refine (pe_cmpR (op_notIn_kd k2) ha (pe_glob (v := V.ref d) (gl_of O hg) k1 rfl (O.tok.dbgt t)) rfl).run pins s σ H Q I ?_
    refine ⟨Fr, Hf, rho, sl, h, _, _, R, S, e1, fun Hg H1 vx sm R1 rx => ?_⟩
    cases rx.d'
    exact ⟨_, some w, rfl, rfl, j1, kk Hg H1 _ sm R1 (.d (.bl false))⟩
  · cases e
theorem t_dnin {t : Nat} {x : Str} {p : Pos} (O : XOk L n c X) (hx : x = L.M.tnm t) (hg : glB c.sc x = true) (ha : PE X e1 (tE X.K L n a)) : PT X (.Compare e1 [.NotIn] [.Name x p] pos) (tB X.K L n (.dnin t a)) := by
  refine ⟨fun pins s σ H Q I hq => ?_⟩
  obtain ⟨Fr, Hf, rho, sl, h, v, h', R, S, e, kk⟩ := hq
  have e0 := evb_inv e
  simp only [ev] at e0
  obtain ⟨⟨p1, p2⟩, e1, e0⟩ := bnd_inv e0
  split at e0
  · rename_i l hp
    cases (show p1 = _ from hp)
    obtain ⟨kvs, e2, e0⟩ := bnd_inv e0
    obtain ⟨y, e3, e0⟩ := bnd_inv e0
    have ev' : v = false := by
      have := (Prod.mk.inj (Option.some.inj e0)).1
      injection this with this
      injection this with this
      exact this.symm
    have eh : p2 = h' := (Prod.mk.inj (Option.some.inj e0)).2
    subst ev' eh
    obtain ⟨d, es, m, k1, k2, k3⟩ := O.tok.dict t kvs e2
    subst hx
    obtain ⟨w, vv, j1, j2, j3⟩ := k3 l y e3
    refine (pt_cmpR (op_notIn_kd k2) ha (pe_glob (v := V.ref d) (gl_of O hg) k1 rfl (O.tok.dbgt t)) rfl).run pins s σ H Q I ?_
    refine ⟨Fr, Hf, rho, sl, h, _, _, R, S, e1, fun Hg H1 vx sm R1 rx => ?_⟩
    cases rx.d'
    exact ⟨_, some w, rfl, rfl, j1, false, rfl, kk Hg H1 _ sm R1 rfl⟩
  · cases e0
/-! ### places and slices -/
theorem ix_same (m : Nat) (i : Int) : ixI m i = ixN m i := rfl
theorem at_ok {K : PySem.W.Frag} {Hf H : Hp} {x y : D} {v : V} {i : Int} (s : Same Hf H) (r : RepL K L Hf H x v) (e : atD x i = some y) : ∀ (Q : VK), (∀ w, Rep K L Hf y w → Q w H) → rIx K v (.int i) H Q := by
  intro Q q
  cases x with
  | lst ds =>
    obtain ⟨p, vs, rfl, h1, h2, h3⟩ := r
    obtain ⟨j, e1, e2⟩ := bnd_inv (show bnd (ixI ds.length i) (fun j => ds[j]?) = some y from e)
    obtain ⟨w, w1, w2⟩ := h3.get e2
    refine .inl ⟨p, vs, i, w, rfl, rfl, .of h1, ?_, q w w2⟩
    unfold atI
    rw [← h3.length, ← ix_same, e1]
    exact w1
  | tup ds =>
    cases (show Rep K L Hf (.tup ds) v from r) with
    | tup h1 h2 h3 =>
      obtain ⟨j, e1, e2⟩ := bnd_inv (show bnd (ixI ds.length i) (fun j => ds[j]?) = some y from e)
      obtain ⟨w, w1, w2⟩ := h3.get e2
      refine .inr (.inl ⟨_, _, i, w, rfl, rfl, SqT.mono s h1, ?_, q w w2⟩)
      unfold atI
      rw [← h3.length, ← ix_same, e1]
      exact w1
  | str l =>
    cases (show Rep K L Hf (.str l) v from r)
    have e2 : (match Nat.ble l.length K24.line with | true => bnd (ixI l.length i) fun j => bnd l[j]? fun c => some (D.str [c]) | false => none) = some y := e
    split at e2
    · rename_i hz
      have hz := ble_of hz
      rw [line_eq] at hz
      obtain ⟨j, e1, e2⟩ := bnd_inv e2
      obtain ⟨c, e3, e2⟩ := bnd_inv e2
      cases e2
      refine .inr (.inr ⟨_, i, c, rfl, rfl, hz, ?_, q _ (.str [c])⟩)
      show atI l.toArray.toList i = some c
      unfold atI
      rw [List.toList_toArray, ← ix_same, e1]
      exact e3
    · cases e2
  | _ => cases e
theorem s_idx (hs : notSlice e2 = true) (ha : PE X e1 (tE X.K L n a)) (hb : PE X e2 (tE X.K L n b)) : PE X (.Subscript e1 e2 pos) (tE X.K L n (.idx a b)) := by
  refine PE.imp (pe_ix ix_seq ha hb (ix_plain hs)) fun σ H Q ⟨Fr, Hf, rho, s, h, v, h', R, S, e, kk⟩ => ?_
  simp only [ev] at e
  obtain ⟨⟨p1, p2⟩, e1, e⟩ := bnd_inv e
  obtain ⟨⟨q1, q2⟩, e2, e⟩ := bnd_inv e
  obtain ⟨x, e3, e⟩ := bnd_inv e
  split at e
  · rename_i i hp
    cases (show q1 = _ from hp)
    obtain ⟨y, e4, e⟩ := bnd_inv e
    cases e
    refine ⟨Fr, Hf, rho, s, h, _, _, R, S, e1, fun Hg H1 vx sm R1 rx => ⟨Fr, Hg, rho, s, _, _, _, R1, S.mono sm List.prefix_rfl, e2, fun Hg2 H2 vy sm2 R2 ry => ?_⟩⟩
    cases ry.d'
    exact at_ok R2.same (look_inv R2 (rx.mono sm2 List.prefix_rfl) e3) e4 Q fun w rw' => kk Hg2 H2 w (sm.trans sm2) R2 (.d rw')
  · cases e
theorem sIx_same (m d : Nat) (o : Option Int) : sIx m d o = HT.sIx m d o := by
  cases o <;> rfl
theorem cut_len {α : Type} (xs : List α) (lo hi : Option Int) : (cut xs lo hi).length ≤ xs.length := by
  unfold cut
  rw [List.length_take, List.length_drop]; omega
theorem Reps.cut {K : PySem.W.Frag} {Hf : Hp} {ds : List D} {vs : List V} (r : Reps K L Hf ds vs) (lo hi : Option Int) : Reps K L Hf (K24.cut ds lo hi) (cutV vs lo hi) := by
  unfold K24.cut cutV
  rw [sIx_same, sIx_same, r.length]
  exact (r.drop _).take _
theorem cut_whole {K : PySem.W.Frag} {Hf : Hp} {ds : List D} {vs : List V} (r : Reps K L Hf ds vs) {lo hi : Option Int} (h : HT.sIx vs.length 0 lo = 0 ∧ HT.sIx vs.length vs.length hi = vs.length) : K24.cut ds lo hi = ds := by
  unfold K24.cut
  rw [sIx_same, sIx_same, r.length, h.1, h.2, List.drop_zero, Nat.sub_zero, List.take_of_length_le (by rw [r.length]; exact Nat.le_refl _)]
theorem s_sl {lo hi : IO} {l r : Option Expr} {p2 : Pos} (ha : PE X e1 (tE X.K L n a)) (hl : PO X l (tO X.K L n lo)) (hu : PO X r (tO X.K L n hi)) : PE X (.Subscript e1 (.Slice l r none p2) pos) (tE X.K L n (.sl a lo hi)) := by
  refine PE.imp (pe_slice (sl_list.or (sl_tupA.or sl_str)) ha hl hu) fun σ H Q ⟨Fr, Hf, rho, s, h, v, h', R, S, e, kk⟩ => ?_
  simp only [ev] at e
  obtain ⟨⟨p1, p2⟩, e1, e⟩ := bnd_inv e
  obtain ⟨x, e2, e⟩ := bnd_inv e
  obtain ⟨⟨q1, q2⟩, e3, e⟩ := bnd_inv e
  obtain ⟨⟨r1, r2⟩, e4, e⟩ := bnd_inv e
  obtain ⟨y, e5, e⟩ := bnd_inv e
  cases e
  cases toD_inv e2
  refine ⟨Fr, Hf, rho, s, h, _, _, R, S, e1, fun Hg H1 vx sm R1 rx => ⟨Fr, Hg, rho, s, _, _, _, R1, S.mono sm List.prefix_rfl, e3, fun Hg2 H2 vl sm2 R2 rl => ⟨Fr, Hg2, rho, s, _, _, _, R2, S.mono (sm.trans sm2) List.prefix_rfl, e4, fun Hg3 H3 vr sm3 R3 rr => ?_⟩⟩⟩
  subst rl rr
  have sm' := (sm.trans sm2).trans sm3
  have rx' := rx.d'.mono (sm2.trans sm3)
  cases rx' with
  | lst h1 h2 h3 =>
    cases e5
    refine .inl ⟨_, _, rfl, .of (R3.same _ _ h1), fun p hp => ?_⟩
    obtain ⟨kf, R4⟩ := R3.allocF (o := .lst (cutV _ q1 r1)) hp
    exact kk _ _ _ (sm'.trans kf) R4 (.d (.lst upd_same (Nat.le_trans (cutV_length _ _ _) h2) ((h3.cut q1 r1).mono kf)))
  | tup h1 h2 h3 =>
    cases e5
    refine .inr (.inl ⟨_, _, rfl, SqT.mono R3.same h1, fun hw => ?_, fun hw p hp => ?_⟩)
    · refine kk Hg3 H3 _ sm' R3 (.d ?_)
      rw [cut_whole h3 hw]
      exact .tup h1 h2 h3
    · obtain ⟨kf, R4⟩ := R3.allocF (o := .tup (cutV _ q1 r1)) hp
      exact kk _ _ _ (sm'.trans kf) R4 (.d (.tup (.of upd_same) (Nat.le_trans (cutV_length _ _ _) h2) ((h3.cut q1 r1).mono kf)))
  | str l =>
    have e6 : (match Nat.ble l.length K24.line with | true => some (D.str (K24.cut l q1 r1)) | false => none) = some y := e5
    split at e6
    · rename_i hz
      have hz := ble_of hz
      rw [line_eq] at hz
      cases e6
      refine .inr (.inr ⟨_, rfl, hz, ?_⟩)
      have ec : cutS ⟨l.toArray⟩ q1 r1 = ⟨(K24.cut l q1 r1).toArray⟩ := by
        unfold cutS K24.cut
        show (⟨((l.toArray.toList.drop (HT.sIx l.toArray.size 0 q1)).take _).toArray⟩ : Str) = _
        rw [sIx_same, sIx_same]
        rfl
      rw [ec]
      exact kk Hg3 H3 _ sm' R3 (.d (.str _))
    · cases e6
  | _ => cases e5
theorem s_no : PO X none (tO X.K L n .no) := by
  refine PO.imp po_none fun σ H Q ⟨Fr, Hf, rho, s, h, v, h', R, S, e, kk⟩ => ?_
  simp only [evo] at e
  cases e
  exact kk Hf H _ (Same.refl _) R rfl
theorem s_yes (ha : PE X e1 (tE X.K L n a)) : PO X (some e1) (tO X.K L n (.yes a)) := by
  refine PO.imp (po_some ha) fun σ H Q ⟨Fr, Hf, rho, s, h, v, h', R, S, e, kk⟩ => ?_
  simp only [evo] at e
  obtain ⟨⟨p1, p2⟩, e1, e⟩ := bnd_inv e
  split at e
  · rename_i i hp
    cases (show p1 = _ from hp)
    cases e
    refine ⟨Fr, Hf, rho, s, h, _, _, R, S, e1, fun Hg H1 vx sm R1 rx => ?_⟩
    cases rx.d'
    exact ⟨i, rfl, kk Hg H1 _ sm R1 rfl⟩
  · cases e
end
end K24
/-! K24Snd9: what is walked, targets, comprehensions. -/
set_option Elab.async false
set_option linter.all false
set_option maxRecDepth 100000
set_option maxHeartbeats 1000000
namespace K24
open PySem PySem.Spec PyProof.Rows L2 ClX RZ
/-- an iterator that yields these -/
def IterOk (K : PySem.W.Frag) (L : Lay) (J : It) (xs : List D) (Hf : Hp) : Prop := xs.length ≤ sizeLine ∧ ∀ (Hg H : Hp) (i : Nat), Same Hf Hg → Same Hg H →
  (∀ x, xs[i]? = some x → J.go i H ∧ ∀ v H', J.yld i H v H' → ∀ Fr rho h, Rel K L Fr Hg rho h H → ∃ Hk, Same Hg Hk ∧ Rel K L Fr Hk rho h H' ∧ Rep K L Hk x v) ∧ (i = xs.length → J.stop i H)
abbrev tI (K : PySem.W.Frag) (L : Lay) (n : Nat) (e : II) : TI := tG K L (fun Hg _ xs J => IterOk K L J xs Hg) (evi L.T (callF L.T n) e)
section
variable {K : PySem.W.Frag} {L : Lay}
theorem iter_T {Hf : Hp} {a : Addr} {ds : List D} {vs : List V} (h : SqT K Hf a vs) (hl : vs.length ≤ sizeLine) (r : Reps K L Hf ds vs) : IterOk K L (Itt K a) ds Hf := by
  refine ⟨by rw [Reps.length r]; exact hl, fun Hg H i s1 s2 => ?_⟩
  have q := SqT.mono s2 (SqT.mono s1 h)
  refine ⟨fun x e => ?_, fun e => ⟨vs, q, by rw [e, Reps.length r]; exact Nat.le_refl _⟩⟩
  obtain ⟨v, e1, rv⟩ := r.get e
  refine ⟨⟨vs, v, q, e1⟩, fun w H' y Fr rho hs R => ?_⟩
  obtain ⟨e2, y⟩ := y
  subst e2
  have e3 := y vs q
  rw [e1] at e3
  cases e3
  exact ⟨Hg, Same.refl _, R, rv.mono s1⟩
theorem iter_L {Hf : Hp} {a : Addr} {ds : List D} {vs : List V} (h : SqL K Hf a vs) (hl : vs.length ≤ sizeLine) (r : Reps K L Hf ds vs) : IterOk K L (Itl K a) ds Hf := by
  refine ⟨by rw [Reps.length r]; exact hl, fun Hg H i s1 s2 => ?_⟩
  have q := Same.seq s2 (Same.seq s1 h)
  refine ⟨fun x e => ?_, fun e => ⟨vs, q, by rw [e, Reps.length r]; exact Nat.le_refl _⟩⟩
  obtain ⟨v, e1, rv⟩ := r.get e
  refine ⟨⟨vs, v, q, e1⟩, fun w H' y Fr rho hs R => ?_⟩
  obtain ⟨e2, y⟩ := y
  subst e2
  have e3 := y vs q
  rw [e1] at e3
  cases e3
  exact ⟨Hg, Same.refl _, R, rv.mono s1⟩
theorem iter_S {Hf : Hp} {l : List Nat} (hl : l.length ≤ sizeLine) : IterOk K L (Its ⟨l.toArray⟩) (l.map fun c => .str [c]) Hf := by
  refine ⟨by rw [List.length_map]; exact hl, fun Hg H i s1 s2 => ⟨fun x e => ?_, fun e => ?_⟩⟩
  · rw [List.getElem?_map] at e
    cases q : l[i]? with
    | none => rw [q] at e; cases e
    | some ch =>
      rw [q] at e
      cases e
      refine ⟨?_, fun w H' y Fr rho hs R => ?_⟩
      · show i < l.toArray.size
        rw [List.size_toArray]
        exact (List.getElem?_eq_some_iff.mp q).1
      · obtain ⟨e2, d, e3, e4⟩ := y
        subst e2
        have e5 : l.toArray[i]? = some d := e3
        rw [List.getElem?_toArray, q] at e5
        cases e5
        subst e4
        exact ⟨Hg, Same.refl _, R, .str [ch]⟩
  · show l.toArray.size ≤ i
    rw [List.size_toArray, e, List.length_map]
    exact Nat.le_refl _
theorem iter_R {Hf : Hp} {j : Nat} (hl : j ≤ sizeLine) : IterOk K L (Itr 0 j) (rangeD j) Hf := by
  have el : (rangeD j).length = j := by unfold rangeD; rw [List.length_map, List.length_range]
  refine ⟨by rw [el]; exact hl, fun Hg H i s1 s2 => ⟨fun x e => ?_, fun e => ?_⟩⟩
  · have hi : i < j := by rw [← el]; exact (List.getElem?_eq_some_iff.mp e).1
    unfold rangeD at e
    rw [List.getElem?_map, List.getElem?_range hi] at e
    cases e
    refine ⟨hi, fun w H' y Fr rho hs R => ?_⟩
    obtain ⟨e2, e3⟩ := y
    subst e2
    subst e3
    exact ⟨Hg, Same.refl _, R, by rw [Int.zero_add]; exact .int _⟩
  · rw [el] at e
    exact Nat.le_of_eq e.symm
theorem zipD_get : ∀ {xs ys : List D} {i : Nat} {z : D}, (zipD xs ys)[i]? = some z → ∃ x y, xs[i]? = some x ∧ ys[i]? = some y ∧ z = .tup [x, y]
  | [], _, _, _, e => by cases e
  | _ :: _, [], _, _, e => by cases e
  | x :: xs, y :: ys, 0, z, e => by cases e; exact ⟨x, y, rfl, rfl, rfl⟩
  | x :: xs, y :: ys, i + 1, z, e => zipD_get (xs := xs) (ys := ys) (i := i) (z := z) e
theorem zipD_len : ∀ {xs ys : List D}, (zipD xs ys).length ≤ xs.length ∧ ((zipD xs ys).length = xs.length ∨ (zipD xs ys).length = ys.length)
  | [], ys => ⟨Nat.le_refl _, .inl rfl⟩
  | _ :: _, [] => ⟨Nat.zero_le _, .inr rfl⟩
  | x :: xs, y :: ys => by
    obtain ⟨h1, h2⟩ := zipD_len (xs := xs) (ys := ys)
    refine ⟨Nat.succ_le_succ h1, ?_⟩
    rcases h2 with h2 | h2
    · exact .inl (congrArg Nat.succ h2)
    · exact .inr (congrArg Nat.succ h2)
theorem iter_Z {Hf : Hp} {a b : Addr} {ds es : List D} {vs ws : List V} (h1 : SqT K Hf a vs) (h2 : SqT K Hf b ws) (hl : vs.length ≤ sizeLine) (r1 : Reps K L Hf ds vs) (r2 : Reps K L Hf es ws) : IterOk K L (ItzT K a b) (zipD ds es) Hf := by
  refine ⟨Nat.le_trans (zipD_len (xs := ds) (ys := es)).1 (by rw [Reps.length r1]; exact hl), fun Hg H i s1 s2 => ?_⟩
  have q1 := SqT.mono s2 (SqT.mono s1 h1)
  have q2 := SqT.mono s2 (SqT.mono s1 h2)
  refine ⟨fun x e => ?_, fun e => ?_⟩
  · obtain ⟨d1, d2, e1, e2, rfl⟩ := zipD_get e
    obtain ⟨v1, k1, w1⟩ := r1.get e1
    obtain ⟨v2, k2, w2⟩ := r2.get e2
    refine ⟨⟨vs, ws, v1, v2, q1, q2, k1, k2⟩, fun w H' y Fr rho hs R => ?_⟩
    obtain ⟨T, x, y, ev, hT, eH, y1, y2⟩ := y
    have z1 := y1 vs q1
    have z2 := y2 ws q2
    rw [k1] at z1
    rw [k2] at z2
    cases z1
    cases z2
    obtain ⟨kf, R2⟩ := R.allocF (o := .tup [v1, v2]) hT
    subst ev
    subst eH
    have s3 := s1.trans kf
    exact ⟨_, kf, R2, .tup (.inl (.inl upd_same)) (by rw [sizeLine_eq]; show 2 ≤ _; omega) (.cons (w1.mono s3) (.cons (w2.mono s3) .nil))⟩
  · refine ⟨vs, ws, q1, q2, ?_⟩
    rcases (zipD_len (xs := ds) (ys := es)).2 with z | z
    · rw [e, z, Reps.length r1]; exact .inl (Nat.le_refl _)
    · rw [e, z, Reps.length r2]; exact .inr (Nat.le_refl _)
theorem zipD3_get : ∀ {xs ys zs : List D} {i : Nat} {u : D}, (zipD3 xs ys zs)[i]? = some u → ∃ x y z, xs[i]? = some x ∧ ys[i]? = some y ∧ zs[i]? = some z ∧ u = .tup [x, y, z]
  | [], _, _, _, _, e => by cases e
  | _ :: _, [], _, _, _, e => by cases e
  | _ :: _, _ :: _, [], _, _, e => by cases e
  | x :: xs, y :: ys, z :: zs, 0, _, e => by cases e; exact ⟨x, y, z, rfl, rfl, rfl, rfl⟩
  | x :: xs, y :: ys, z :: zs, i + 1, u, e => zipD3_get (xs := xs) (ys := ys) (zs := zs) (i := i) (u := u) e
theorem zipD3_len : ∀ {xs ys zs : List D}, (zipD3 xs ys zs).length ≤ xs.length ∧ (zipD3 xs ys zs).length ≤ ys.length ∧ (zipD3 xs ys zs).length ≤ zs.length ∧ ((zipD3 xs ys zs).length = xs.length ∨ (zipD3 xs ys zs).length = ys.length ∨ (zipD3 xs ys zs).length = zs.length)
  | [], ys, zs => ⟨Nat.le_refl _, Nat.zero_le _, Nat.zero_le _, .inl rfl⟩
  | _ :: _, [], zs => ⟨Nat.zero_le _, Nat.le_refl _, Nat.zero_le _, .inr (.inl rfl)⟩
  | _ :: _, _ :: _, [] => ⟨Nat.zero_le _, Nat.zero_le _, Nat.le_refl _, .inr (.inr rfl)⟩
  | x :: xs, y :: ys, z :: zs => by
    obtain ⟨h1, h2, h3, h4⟩ := zipD3_len (xs := xs) (ys := ys) (zs := zs)
    refine ⟨Nat.succ_le_succ h1, Nat.succ_le_succ h2, Nat.succ_le_succ h3, ?_⟩
    rcases h4 with h | h | h
    · exact .inl (congrArg Nat.succ h)
    · exact .inr (.inl (congrArg Nat.succ h))
    · exact .inr (.inr (congrArg Nat.succ h))
theorem iter_Z3 {Hf : Hp} {a b c : Addr} {ds es fs : List D} {vs ws us : List V} (h1 : SqT K Hf a vs) (h2 : SqT K Hf b ws) (h3 : SqT K Hf c us) (hl : vs.length ≤ sizeLine) (r1 : Reps K L Hf ds vs) (r2 : Reps K L Hf es ws) (r3 : Reps K L Hf fs us) : IterOk K L (Itz3 K a b c) (zipD3 ds es fs) Hf := by
  have zl := zipD3_len (xs := ds) (ys := es) (zs := fs)
  refine ⟨Nat.le_trans zl.1 (by rw [Reps.length r1]; exact hl), fun Hg H i s1 s2 => ?_⟩
  have q1 := SqT.mono s2 (SqT.mono s1 h1)
  have q2 := SqT.mono s2 (SqT.mono s1 h2)
  have q3 := SqT.mono s2 (SqT.mono s1 h3)
  refine ⟨fun x e => ?_, fun e => ?_⟩
  · obtain ⟨d1, d2, d3, e1, e2, e3, rfl⟩ := zipD3_get e
    obtain ⟨v1, k1, w1⟩ := r1.get e1
    obtain ⟨v2, k2, w2⟩ := r2.get e2
    obtain ⟨v3, k3, w3⟩ := r3.get e3
    refine ⟨⟨vs, ws, us, v1, v2, v3, q1, q2, q3, k1, k2, k3⟩, fun w H' y Fr rho hs R => ?_⟩
    obtain ⟨T, x, y, z, ev, hT, eH, y1, y2, y3⟩ := y
    have z1 := y1 vs q1
    have z2 := y2 ws q2
    have z3 := y3 us q3
    rw [k1] at z1
    rw [k2] at z2
    rw [k3] at z3
    cases z1
    cases z2
    cases z3
    obtain ⟨kf, R2⟩ := R.allocF (o := .tup [v1, v2, v3]) hT
    subst ev
    subst eH
    have s3 := s1.trans kf
    exact ⟨_, kf, R2, .tup (.inl (.inl upd_same)) (by rw [sizeLine_eq]; show 3 ≤ _; omega) (.cons (w1.mono s3) (.cons (w2.mono s3) (.cons (w3.mono s3) .nil)))⟩
  · refine ⟨vs, ws, us, q1, q2, q3, ?_, ?_, ?_, ?_⟩
    · rw [e, ← Reps.length r1]; exact zl.1
    · rw [e, ← Reps.length r2]; exact zl.2.1
    · rw [e, ← Reps.length r3]; exact zl.2.2.1
    · rw [e, ← Reps.length r1, ← Reps.length r2, ← Reps.length r3]; exact zl.2.2.2
end
section
variable {X : Cx} {L : Lay} {n : Nat} {pos : Pos} {a b u : IE} {tg e e1 e2 e3 : Expr} {es : List Expr} {c : Cc}
theorem i_val (ha : PE X e (tE X.K L n a)) : PI X tg e (tI X.K L n (.val a)) := by
  refine PI.imp (pi_seq ha) fun σ H Q ⟨Fr, Hf, rho, s, h, v, h', R, S, e, k⟩ => ?_
  simp only [evi] at e
  obtain ⟨⟨p1, p2⟩, q1, e⟩ := bnd_inv e
  obtain ⟨x, q2, e⟩ := bnd_inv e
  obtain ⟨xs, q3, e⟩ := bnd_inv e
  cases e
  obtain rfl := toD_inv q2
  refine ⟨Fr, Hf, rho, s, h, _, _, R, S, q1, fun Hg H1 w sm R1 rw1 => ?_⟩
  have rx := rw1.d'
  cases rx with
  | tup g1 g2 g3 =>
    have e9 := Option.some.inj q3
    subst e9
    exact .inr (.inl ⟨_, rfl, ⟨_, SqT.mono R1.same g1⟩, k Hg H1 _ sm R1 (iter_T g1 g2 g3)⟩)
  | lst g1 g2 g3 =>
    have e9 := Option.some.inj q3
    subst e9
    exact .inl ⟨_, rfl, ⟨_, Same.seq R1.same (.inl (.inl g1))⟩, k Hg H1 _ sm R1 (iter_L (.inl (.inl g1)) g2 g3)⟩
  | str l =>
    simp only [itemsD] at q3
    split at q3
    · rename_i z
      cases q3
      exact .inr (.inr ⟨_, rfl, k Hg H1 _ sm R1 (iter_S (by rw [← line_eq]; exact ble_of z))⟩)
    · cases q3
  | _ => cases q3
theorem i_rng {x : Str} {p : Pos} (O : XOk L n c X) (hx : x = "range") (hg : glB c.sc x = true) (hs : notStar e1 = true) (ha : PE X e1 (tE X.K L n a)) : PI X tg (.Call (.Name x p) [e1] [] pos) (tI X.K L n (.rng a)) := by
  have G := gl_of O hg
  subst hx
  refine PI.imp (pi_range1 G (O.tok.free _ (by simp)) (pa_cons ha pa_nil (star_cons hs)) (star_cons hs)) fun σ H Q ⟨Fr, Hf, rho, s, h, v, h', R, S, e, k⟩ => ?_
  simp only [evi] at e
  obtain ⟨⟨p1, p2⟩, q1, e⟩ := bnd_inv e
  obtain ⟨x, q2, e⟩ := bnd_inv e
  obtain ⟨xs, q3, e⟩ := bnd_inv e
  cases e
  obtain rfl := toD_inv q2
  refine ⟨Fr, Hf, rho, s, h, _, _, R, S, q1, fun Hg H1 w sm R1 rw1 => ?_⟩
  have rx := rw1.d'
  cases rx with
  | int i =>
    simp only [rngD] at q3
    split at q3
    · rename_i z
      cases q3
      have z1 := ble_of z
      have z2 : K24.line = 16777216 := rfl
      rw [z2] at z1
      show tNil σ H1 _
      refine ⟨i, rfl, by omega, by omega, k Hg H1 _ sm R1 (iter_R (by rw [sizeLine_eq]; omega))⟩
    · cases q3
  | _ => cases q3
theorem tup_inv {K : PySem.W.Frag} {Hf : Hp} {x : D} {v : V} {xs : List D} (r : Rep K L Hf x v) (e : tupD x = some xs) : ∃ a vs, v = .ref a ∧ SqT K Hf a vs ∧ vs.length ≤ sizeLine ∧ Reps K L Hf xs vs := by
  cases r with
  | tup g1 g2 g3 => cases e; exact ⟨_, _, rfl, g1, g2, g3⟩
  | _ => cases e
theorem i_zip2 {x : Str} {p tp : Pos} {j : Nat} (O : XOk L n c X) (hx : x = "zip") (hg : glB c.sc x = true) (s1 : notStar e1 = true) (s2 : notStar e2 = true) (ha : PE X e1 (tE X.K L n a)) (hb : PE X e2 (tE X.K L n b)) :
    PI X (.Tuple es j tp) (.Call (.Name x p) [e1, e2] [] pos) (tI X.K L n (.zip2 a b)) := by
  have G := gl_of O hg
  subst hx
  refine PI.imp (RZ.pi_zipA G (O.tok.free _ (by simp)) (pa_cons ha (pa_cons hb pa_nil (star_cons s2)) (star_cons s1)) (star_cons s1) (star_any (by rw [List.all_cons, s2]; rfl))) fun σ H Q ⟨Fr, Hf, rho, s, h, v, h', R, S, e, k⟩ => ?_
  simp only [evi] at e
  obtain ⟨⟨p1, p2⟩, q1, e⟩ := bnd_inv e
  obtain ⟨x, q2, e⟩ := bnd_inv e
  obtain ⟨xs, q3, e⟩ := bnd_inv e
  obtain ⟨⟨p3, p4⟩, q4, e⟩ := bnd_inv e
  obtain ⟨y, q5, e⟩ := bnd_inv e
  obtain ⟨ys, q6, e⟩ := bnd_inv e
  cases e
  obtain rfl := toD_inv q2
  obtain rfl := toD_inv q5
  refine ⟨Fr, Hf, rho, s, h, _, _, R, S, q1, fun Hg H1 w sm R1 rw1 => ⟨Fr, Hg, rho, s, _, _, _, R1, S.mono sm List.prefix_rfl, q4, fun Hg2 H2 w2 sm2 R2 rw2 => ?_⟩⟩
  obtain ⟨a1, vs, rfl, t1, l1, r1⟩ := tup_inv (rw1.d'.mono sm2) q3
  obtain ⟨a2, ws, rfl, t2, l2, r2⟩ := tup_inv rw2.d' q6
  exact ⟨a1, a2, vs, ws, rfl, .inr ⟨SqT.mono R2.same t1, SqT.mono R2.same t2, k Hg2 H2 _ (sm.trans sm2) R2 (iter_Z t1 t2 l1 r1 r2)⟩⟩
theorem i_zip3 {x : Str} {p tp : Pos} {j : Nat} (O : XOk L n c X) (hx : x = "zip") (hg : glB c.sc x = true) (s1 : notStar e1 = true) (s2 : notStar e2 = true) (s3 : notStar e3 = true) (ha : PE X e1 (tE X.K L n a)) (hb : PE X e2 (tE X.K L n b)) (hu : PE X e3 (tE X.K L n u)) :
    PI X (.Tuple es j tp) (.Call (.Name x p) [e1, e2, e3] [] pos) (tI X.K L n (.zip3 a b u)) := by
  have G := gl_of O hg
  subst hx
  refine PI.imp (pi_zip3 G (O.tok.free _ (by simp)) (pa_cons ha (pa_cons hb (pa_cons hu pa_nil (star_cons s3)) (star_cons s2)) (star_cons s1)) (star_cons s1) (star_any (by rw [List.all_cons, List.all_cons, s2, s3]; rfl))) fun σ H Q ⟨Fr, Hf, rho, s, h, v, h', R, S, e, k⟩ => ?_
  simp only [evi] at e
  obtain ⟨⟨p1, p2⟩, q1, e⟩ := bnd_inv e
  obtain ⟨x, q2, e⟩ := bnd_inv e
  obtain ⟨xs, q3, e⟩ := bnd_inv e
  obtain ⟨⟨p3, p4⟩, q4, e⟩ := bnd_inv e
  obtain ⟨y, q5, e⟩ := bnd_inv e
  obtain ⟨ys, q6, e⟩ := bnd_inv e
  obtain ⟨⟨p5, p6⟩, q7, e⟩ := bnd_inv e
  obtain ⟨z, q8, e⟩ := bnd_inv e
  obtain ⟨zs, q9, e⟩ := bnd_inv e
  cases e
  obtain rfl := toD_inv q2
  obtain rfl := toD_inv q5
  obtain rfl := toD_inv q8
  refine ⟨Fr, Hf, rho, s, h, _, _, R, S, q1, fun Hg H1 w sm R1 rw1 => ⟨Fr, Hg, rho, s, _, _, _, R1, S.mono sm List.prefix_rfl, q4, fun Hg2 H2 w2 sm2 R2 rw2 => ⟨Fr, Hg2, rho, s, _, _, _, R2, S.mono (sm.trans sm2) List.prefix_rfl, q7, fun Hg3 H3 w3 sm3 R3 rw3 => ?_⟩⟩⟩
  obtain ⟨a1, vs, rfl, t1, l1, r1⟩ := tup_inv (rw1.d'.mono (sm2.trans sm3)) q3
  obtain ⟨a2, ws, rfl, t2, l2, r2⟩ := tup_inv (rw2.d'.mono sm3) q6
  obtain ⟨a3, us, rfl, t3, l3, r3⟩ := tup_inv rw3.d' q9
  exact ⟨a1, a2, a3, vs, ws, us, rfl, SqT.mono R3.same t1, SqT.mono R3.same t2, SqT.mono R3.same t3, k Hg3 H3 _ ((sm.trans sm2).trans sm3) R3 (iter_Z3 t1 t2 t3 l1 r1 r2 r3)⟩
/-! ### targets -/
def gNs : List Nat → TGs
  | [] => gNil
  | i :: is => gCons (gName i) (gNs is)
def gT (K : PySem.W.Frag) : Tg → TG
  | .one i => gName i
  | .many is => gTup K is.length (gNs is)
theorem g_names (O : XOk L n c X) : ∀ {is : List Nat} {es : List Expr}, namesAt c is es = true → PGs X es (gNs is) ∧ (assignEach es X.env).length = is.length ∧ (assignEach es X.env).findIdx? (·.1) = none
  | [], [], _ => ⟨pgs_nil, rfl, rfl⟩
  | i :: is, .Name x p :: es, h => by
    have h2 : (nameAt c i x && (locB c x && namesAt c is es)) = true := h
    rw [Bool.and_eq_true, Bool.and_eq_true] at h2
    obtain ⟨l1, l2⟩ := loc_of O h2.2.1
    obtain ⟨k1, k2, k3⟩ := g_names O h2.2.2
    refine ⟨pgs_cons (pg_name O.nd (at_ofN O h2.1) l1 l2) k1, ?_, ?_⟩
    · show (assignEach es X.env).length + 1 = is.length + 1
      rw [k2]
    · show ((false, assign (.Name x p) X.env) :: assignEach es X.env).findIdx? (·.1) = none
      rw [List.findIdx?_cons, k3]
      rfl
  | [], _ :: _, h => by cases h
  | _ :: _, [], h => by cases h
theorem g_tg {t : Tg} (O : XOk L n c X) (h : tgB c t tg = true) : PG X tg (gT X.K t) := by
  cases t with
  | one i =>
    cases tg with
    | Name x p =>
      have h2 : (nameAt c i x && locB c x) = true := h
      rw [Bool.and_eq_true] at h2
      obtain ⟨l1, l2⟩ := loc_of O h2.2
      exact pg_name O.nd (at_ofN O h2.1) l1 l2
    | _ => cases h
  | many is =>
    cases tg with
    | Tuple es j p =>
      obtain ⟨k1, k2, k3⟩ := g_names O (show namesAt c is es = true from h)
      exact pg_tup O.calm k1 k2 k3
    | _ => cases h
theorem wipe_at (σ : L2.St) (i : Nat) : ∀ vs : List Nat, (L2.wipe σ vs)[i]? = if i ∈ vs then (if i < σ.length then some none else none) else σ[i]?
  | [] => by simp [L2.wipe]
  | v :: vs => by
    show ((L2.wipe σ vs).set v none)[i]? = _
    by_cases hv : v = i
    · subst hv
      by_cases hl : v < σ.length
      · rw [List.getElem?_set_self (by rw [wipe_length]; exact hl)]
        simp [hl]
      · rw [List.getElem?_eq_none (by rw [List.length_set, wipe_length]; omega)]
        simp [hl]
    · rw [List.getElem?_set_ne hv, wipe_at σ i vs]
      have : (i ∈ v :: vs) ↔ i ∈ vs := by simp [Ne.symm hv]
      simp only [this]
theorem wipe_set {σ : L2.St} {i : Nat} {x : Option V} {vs : List Nat} (h : i ∈ vs) : L2.wipe (σ.set i x) vs = L2.wipe σ vs := by
  apply List.ext_getElem?
  intro j
  rw [wipe_at, wipe_at, List.length_set]
  by_cases hj : j ∈ vs
  · simp [hj]
  · simp only [hj, if_false]
    rw [List.getElem?_set_ne (fun z => hj (by rw [← z]; exact h))]
theorem wipe_twice {σ : L2.St} {vs : List Nat} : L2.wipe (L2.wipe σ vs) vs = L2.wipe σ vs := by
  apply List.ext_getElem?
  intro j
  rw [wipe_at, wipe_at, wipe_length]
  by_cases hj : j ∈ vs <;> simp [hj]
theorem gNs_ok {K : PySem.W.Frag} {Hf H : Hp} {rho : List Addr} {Q : L2.St → Hp → Prop} {vs0 : List Nat} : ∀ {is : List Nat} {ds : List D} {vs : List V} {s : Sl} {σ : L2.St}, Reps K L Hf ds vs → ds.length = is.length → RepS K L Hf rho s σ → (∀ i ∈ is, i ∈ vs0) →
    (∀ σ', RepS K L Hf rho (setAll is ds s) σ' → L2.wipe σ' vs0 = L2.wipe σ vs0 → Q σ' H) → gNs is vs σ H Q
  | [], [], _, s, σ, .nil, _, S, _, k => ⟨rfl, k σ S rfl⟩
  | i :: is, d :: ds, _, s, σ, .cons (v := v) (vs := vs) h t, hl, S, hi, k => by
    refine ⟨v, vs, rfl, ?_⟩
    show gNs is vs (σ.set i (some v)) H Q
    refine gNs_ok t (Nat.succ.inj hl) (S.set i (.d h)) (fun j hj => hi j (List.mem_cons_of_mem _ hj)) fun σ' S' e => k σ' S' (e.trans (wipe_set (hi i (List.mem_cons_self ..))))
  | [], _ :: _, _, _, _, _, hl, _, _, _ => by cases hl
  | _ :: _, [], _, _, _, _, hl, _, _, _ => by cases hl
theorem gT_ok {K : PySem.W.Frag} {Hf H : Hp} {rho : List Addr} {t : Tg} {x : D} {v : V} {s s' : Sl} {σ : L2.St} {Q : L2.St → Hp → Prop} (sm : Same Hf H) (r : Rep K L Hf x v) (S : RepS K L Hf rho s σ) (e : setT t x s = some s')
    (k : ∀ σ', RepS K L Hf rho s' σ' → L2.wipe σ' t.slots = L2.wipe σ t.slots → Q σ' H) : gT K t v σ H Q := by
  cases t with
  | one i =>
    cases e
    exact k _ (S.set i (.d r)) (wipe_set (by simp [Tg.slots]))
  | many is =>
    cases r with
    | tup g1 g2 g3 =>
      simp only [setT] at e
      split at e
      · rename_i z
        cases e
        have z2 := Nat.eq_of_beq_eq_true z
        exact ⟨_, _, rfl, SqT.mono sm g1, by rw [← Reps.length g3]; exact z2, gNs_ok g3 z2 S (fun i h => h) k⟩
      · cases e
    | _ => cases e
/-! ### comprehensions -/
def bcc (c : Cc) (scope : Scope) : Cc := ⟨c.N, relS scope c.sc, fun x => scope.names.lookup x == some .cell⟩
theorem XOk.blk {scope : Scope} (O : XOk L n c X) (s : Shared) (H : Hp) (C : Addr) (cl : List (Str × Addr)) (fp : List Addr) : XOk L n (bcc c scope) (X.blk s H scope (compEnvC scope cl C X.env) fp) where
  hN := O.hN
  sc := by show relS scope X.env.scope = relS scope c.sc; rw [O.sc]
  fn := rfl
  nd := O.nd
  dbg := O.dbg
  calm := O.calm
  room := O.room
  tok := O.tok
  fns := O.fns
theorem ownOf_slots (N : List Str) : ∀ is : List Nat, (ownOf N is).map (·.2) = is
  | [] => rfl
  | i :: is => by
    show i :: (ownOf N is).map (·.2) = _
    rw [ownOf_slots N is]
/-- one turn of a comprehension -/
def turnC (T : Prog) (call : CallT) (e : IE) (tg : Tg) (c : IO) (s : Sl) : D → Hs → Option (Option D × Hs) := fun x h => bnd (setT tg x (wipeS s tg.slots)) fun s' => bnd (evc T call c s' h) fun t => match t.1 with
  | true => bnd (ev T call e s' t.2) fun q => bnd (toD q.1) fun y => some (some y, q.2)
  | false => some (none, t.2)
theorem q_comp {K : PySem.W.Frag} {t : Tg} {it : II} {w : IO} {σ : L2.St} {H : Hp} {Q : VK} (hq : tE K L n (.comp a t it w) σ H Q) : tLc (tI K L n it) (gT K t) (tC K L n w) (tE K L n a) t.slots σ H Q := by
  obtain ⟨Fr, Hf, rho, s, h, v, h', R, S, e, k⟩ := hq
  simp only [ev] at e
  obtain ⟨⟨xs, h1⟩, q1, e⟩ := bnd_inv e
  obtain ⟨⟨ys, h2⟩, q2, e⟩ := bnd_inv e
  cases e
  have q2 : compL (turnC L.T (callF L.T n) a t w s) xs h1 = some (ys, h2) := q2
  refine ⟨Fr, Hf, rho, s, h, xs, h1, R, S, q1, fun Hg H1 J sm R1 ⟨jl, jj⟩ D hD => ?_⟩
  refine ⟨fun i m H' => m = xs.length - i ∧ i ≤ xs.length ∧ ∃ Hk hh acc ds ds2, Same Hg Hk ∧ Rel K L (upd Fr D (.lst acc)) Hk rho hh H' ∧ Reps K L Hk ds acc ∧ acc.length ≤ i ∧ compL (turnC L.T (callF L.T n) a t w s) (xs.drop i) hh = some (ds2, h2) ∧ ds ++ ds2 = ys,
    ⟨xs.length, rfl, Nat.zero_le _, Hg, h1, [], [], ys, Same.refl _, R1.frame hD, .nil, Nat.le_refl _, q2, rfl⟩, ?_⟩
  rintro i m H2 ⟨rfl, hi, Hk, hh, acc, ds, ds2, sk, Rk, rk, lk, ck, ek⟩
  obtain ⟨jgo, jstop⟩ := jj Hk H2 i sk Rk.same
  by_cases hlt : i < xs.length
  · refine .inr ?_
    obtain ⟨g1, g2⟩ := jgo xs[i] (List.getElem?_eq_getElem hlt)
    have dr : xs.drop i = xs[i] :: xs.drop (i + 1) := List.drop_eq_getElem_cons hlt
    rw [dr] at ck
    simp only [compL] at ck
    obtain ⟨⟨o, h3⟩, c1, ck⟩ := bnd_inv ck
    obtain ⟨⟨ds3, h4⟩, c2, ck⟩ := bnd_inv ck
    have ck := Option.some.inj ck
    unfold turnC at c1
    obtain ⟨s', c3, c1⟩ := bnd_inv c1
    obtain ⟨⟨b, h5⟩, c4, c1⟩ := bnd_inv c1
    refine ⟨g1, _, fun H' w' => ⟨xs.length - (i + 1), by omega, rfl, hlt, w'⟩, fun x H3 y => ?_⟩
    obtain ⟨Hm, sm2, Rm, rx⟩ := g2 x H3 y _ _ _ Rk
    have smm := (sm.trans sk).trans sm2
    refine gT_ok Rm.same rx ((S.mono smm List.prefix_rfl).wipe t.slots) c3 fun σ' S' ew => ⟨ew.trans wipe_twice, ?_⟩
    refine ⟨_, Hm, rho, s', hh, b, h5, Rm, S', c4, fun Hn H4 b' sn Rn eb => ?_⟩
    cases eb
    cases b with
    | false =>
      rw [if_neg Bool.false_ne_true]
      cases c1
      have e1 := congrArg Prod.fst ck
      have e2 := congrArg Prod.snd ck
      simp only at e1 e2
      subst e2
      subst e1
      exact ⟨Hn, _, acc, ds, ds3, (sk.trans sm2).trans sn, Rn, rk.mono (sm2.trans sn), Nat.le_succ_of_le lk, c2, ek⟩
    | true =>
      rw [if_pos rfl]
      obtain ⟨⟨q1', q2'⟩, c5, c1⟩ := bnd_inv c1
      obtain ⟨yd, c6, c1⟩ := bnd_inv c1
      cases c1
      obtain rfl := toD_inv c6
      refine ⟨_, Hn, rho, s', h5, _, _, Rn, S'.mono sn List.prefix_rfl, c5, fun Ho H5 yv so Ro ry => ?_⟩
      obtain ⟨f1, f2, f3⟩ := Ro.fr D _ upd_same
      refine ⟨acc, f1, Nat.lt_of_le_of_lt lk (Nat.lt_of_lt_of_le hlt jl), Ho, _, acc ++ [yv], ds ++ [yd], ds3, ((sk.trans sm2).trans sn).trans so, Ro.framed, (rk.mono ((sm2.trans sn).trans so)).append (.cons ry.d' .nil), by rw [List.length_append]; exact Nat.succ_le_succ lk, ?_, ?_⟩
      · have e2 := congrArg Prod.snd ck
        simp only at e2
        rw [← e2]
        exact c2
      · have e1 := congrArg Prod.fst ck
        simp only at e1
        rw [← ek, ← e1, List.append_assoc]
        rfl
  · have e9 : i = xs.length := by omega
    refine .inl ⟨jstop e9, ?_⟩
    rw [e9, List.drop_length] at ck
    have ck := Option.some.inj (show some (([] : List K24.D), hh) = _ from ck)
    have e1 := congrArg Prod.fst ck
    have e2 := congrArg Prod.snd ck
    simp only at e1 e2
    subst e1
    subst e2
    rw [List.append_nil] at ek
    subst ek
    have sD : Fr D = none := R1.fr_none hD
    obtain ⟨ku, Ru⟩ := Rk.unframe sD
    exact k _ H2 (.ref D) ((sm.trans sk).trans ku) Ru (.d (.lst upd_same (Nat.le_trans lk (Nat.le_trans hi jl)) (rk.mono ku)))
theorem fs_pure {env : Env} (h : notSet e = true) (x : Value) : foldedSetIterable e env x = pure x := folded_pure h x
theorem ts_no : PTs X [] (tC X.K L n .no) := by
  refine PTs.imp pts_nil fun σ H Q ⟨Fr, Hf, rho, s, h, v, h', R, S, e, k⟩ => ?_
  simp only [evc] at e
  cases e
  exact k Hf H true (Same.refl _) R rfl
theorem q_yes {σ : L2.St} {H : Hp} {Q : Bool → Hp → Prop} (hq : tC X.K L n (.yes a) σ H Q) : tB X.K L n a σ H Q := by
  obtain ⟨Fr, Hf, rho, s, h, v, h', R, S, e, k⟩ := hq
  simp only [evc] at e
  obtain ⟨⟨p1, p2⟩, q1, e⟩ := bnd_inv e
  refine ⟨Fr, Hf, rho, s, h, v, h', R, S, ?_, k⟩
  split at e
  · rename_i b q
    cases e
    simp only at q
    subst q
    exact evb_of q1
  · cases e
theorem ts_one (h : PT X e (tB X.K L n a)) : PTs X [e] (tC X.K L n (.yes a)) := PTs.imp (pts_one h) fun σ H Q hq => q_yes hq
section
variable {t : Tg} {it : II} {w : IO} {iter elt : Expr} {ifs : List Expr} {scope : Scope}
theorem s_comp (O : XOk L n c X) (hi : PI X tg iter (tI X.K L n it)) (hs : notSet iter = true) (hb : blkC c.N c.sc scope (ownOf c.N t.slots) = true) (hg : tgB (bcc c scope) t tg = true)
    (ht : ∀ X', XOk L n (bcc c scope) X' → PTs X' ifs (tC X'.K L n w)) (he : ∀ X', XOk L n (bcc c scope) X' → PE X' elt (tE X'.K L n a)) : PE X (.ListComp elt [⟨tg, iter, ifs, 0⟩] scope pos) (tE X.K L n (.comp a t it w)) := by
  have ok : BlkOk X.N X.env.scope scope (ownOf c.N t.slots) := by rw [O.hN, O.sc]; exact blkOk_by hb
  refine PE.imp (pe_lc (g := gT X.K t) (tt := tC X.K L n w) (te := tE X.K L n a) O.calm O.nd hi ok (fun s H C cl fp => g_tg (O.blk s H C cl fp) hg) (fun s H C cl fp => ht _ (O.blk s H C cl fp)) (fun s H C cl fp => he _ (O.blk s H C cl fp)) (fun x => folded_pure hs x)) fun σ H Q hq => ?_
  rw [ownOf_slots]
  exact q_comp hq
theorem S_comp {i : Nat} {y : Str} {py spos : Pos} (O : XOk L n c X) (hy : nameAt c i y = true) (hw : swapB c y py (.ListComp elt [⟨tg, iter, ifs, 0⟩] scope pos) = true) (hk : X.env.scope.kind = .function)
    (hi : PI X tg iter (tI X.K L n it)) (hs : notSet iter = true) (hb : blkC c.N c.sc scope (ownOf c.N t.slots) = true) (hg : tgB (bcc c scope) t tg = true)
    (ht : ∀ X', XOk L n (bcc c scope) X' → PTs X' ifs (tC X'.K L n w)) (he : ∀ X', XOk L n (bcc c scope) X' → PE X' elt (tE X'.K L n a)) : PS X (.Assign [.Name y py] (.ListComp elt [⟨tg, iter, ifs, 0⟩] scope pos) spos) (tAsg (tE X.K L n (.comp a t it w)) (gName i)) := by
  have ok : BlkOk X.N X.env.scope scope (ownOf c.N t.slots) := by rw [O.hN, O.sc]; exact blkOk_by hb
  have hw2 : (isLocal c.sc y && (py.line == pos.line && !(scope.names.any fun (n, k) => n == y && (k == .local || k == .cell)))) = true := hw
  rw [Bool.and_eq_true, Bool.and_eq_true] at hw2
  have hl : X.env.scope.names.lookup y = some .local := by
    have q : (match c.sc.names.lookup y with | some .local => true | _ => false) = true := hw2.1
    rw [O.sc]
    split at q
    · assumption
    · cases q
  refine PS.imp (ps_setLc (g := gT X.K t) (tt := tC X.K L n w) (te := tE X.K L n a) O.calm O.nd (at_ofN O hy) hl (sw_true hk hl hw2.2.1 (by simpa using hw2.2.2)) hi ok (fun s H C cl fp => g_tg (O.blk s H C cl fp) hg) (fun s H C cl fp => ht _ (O.blk s H C cl fp)) (fun s H C cl fp => he _ (O.blk s H C cl fp)) (fun x => folded_pure hs x)) fun D σ H hq => ?_
  rw [ownOf_slots]
  exact q_comp hq
end
end
end K24
/-! K24Sn10: every expression that is checked does what its term says. -/
set_option Elab.async false
set_option linter.all false
set_option maxRecDepth 100000
set_option maxHeartbeats 1000000
namespace K24
open PySem PySem.Spec PyProof.Rows L2 ClX RZ
def isBoolOp : Expr → Bool
  | .BoolOp _ _ _ => true
  | _ => false
structure Snd (L : Lay) (n : Nat) (X : Cx) (a : IE) (e : Expr) : Prop where
  pe : PE X e (tE X.K L n a)
  pt : tstB e = true → PT X e (tB X.K L n a)
  pw : isBoolOp e = true → PW X e (tB X.K L n a)
section
variable {X : Cx} {L : Lay} {n : Nat} {a : IE} {e : Expr}
theorem snd_of (h : PE X e (tE X.K L n a)) (hp : plainT e = true) : Snd L n X a e where
  pe := h
  pt := fun _ => s_test h hp
  pw := fun z => by cases e <;> first | (cases z; done) | (cases hp; done)
theorem snd_no (h : PE X e (tE X.K L n a)) (hp : tstB e = false) (hb : isBoolOp e = false) : Snd L n X a e where
  pe := h
  pt := fun z => by rw [hp] at z; cases z
  pw := fun z => by rw [hb] at z; cases z
theorem snd_t (h : PE X e (tE X.K L n a)) (ht : PT X e (tB X.K L n a)) (hb : isBoolOp e = false) : Snd L n X a e where
  pe := h
  pt := fun _ => ht
  pw := fun z => by rw [hb] at z; cases z
theorem bad_B {σ : L2.St} {H : Hp} {Q : Bool → Hp → Prop} (h : tB X.K L n .bad σ H Q) : False := by
  obtain ⟨Fr, Hf, rho, s, h, v, h', R, S, e, k⟩ := h
  have e := evb_inv e
  simp only [ev] at e
  cases e
theorem snd_bad : Snd L n X .bad e where
  pe := s_bad
  pt := fun _ => ⟨fun _ _ _ _ _ _ h => (bad_B h).elim⟩
  pw := fun _ => ⟨fun _ _ _ _ _ _ _ h => (bad_B h).elim⟩
end
theorem IL.drop_zero (r : IL) : r.drop 0 = r := by cases r <;> rfl
theorem IL.take_zero (r : IL) : r.take 0 = .nil := by cases r <;> rfl
section
variable {L : Lay} {n : Nat}
theorem args_of {X : Cx} {as : IL} {c : Cc} {es : List Expr} (h : PA X es (tL X.K L n (as.take es.length)) ∧ PK X [] (tL X.K L n (as.drop es.length))) (hc : chkL L.M L.T as c es [] = true) : PA X es (tL X.K L n as) := by
  have hl := chkL_len as hc
  rw [IL.take_all as es.length (by rw [hl]; exact Nat.le_refl _)] at h
  exact h.1
mutual
theorem sndE : (a : IE) → ∀ {X : Cx} {c : Cc} {e : Expr}, XOk L n c X → chkE L.M L.T a c e = true → Snd L n X a e
  | .bad, X, c, e, O, h => snd_bad
  | .var i, X, c, e, O, h => by
    simp only [chkE] at h
    split at h
    · rw [Bool.and_eq_true] at h
      exact snd_of (s_var O h.1 h.2) rfl
    · cases h
  | .lit d, X, c, e, O, h => by
    simp only [chkE] at h
    split at h
    · exact snd_of (s_lit h) rfl
    · cases h
  | .glob g, X, c, e, O, h => by
    simp only [chkE] at h
    split at h
    · rw [Bool.and_eq_true] at h
      exact snd_of (s_glob O (of_decide_eq_true h.1) h.2) rfl
    · cases h
  | .bin op a b, X, c, e, O, h => by
    simp only [chkE] at h
    split at h
    · rw [Bool.and_eq_true, Bool.and_eq_true] at h
      exact snd_of (s_bin h.1 (sndE a O h.2.1).pe (sndE b O h.2.2).pe) rfl
    · cases h
  | .neg a, X, c, e, O, h => by
    simp only [chkE] at h
    split at h
    · exact snd_no (s_neg (sndE a O h).pe) rfl rfl
    · cases h
  | .not a, X, c, e, O, h => by
    simp only [chkE] at h
    split at h
    · rw [Bool.and_eq_true] at h
      have z := sndE a O h.1
      exact snd_t (s_not z.pe) (t_not (z.pt h.2)) rfl
    · cases h
  | .and a b, X, c, e, O, h => by
    simp only [chkE] at h
    split at h
    · rename_i x rest p
      rw [Bool.and_eq_true, Bool.and_eq_true] at h
      obtain ⟨h1, h2, h3⟩ := h
      have za := sndE a O h1
      split at h3
      · rename_i y
        rw [Bool.and_eq_true] at h3
        have zb := sndE b O h3.1
        have w := t_and (za.pt h2) (pw_and1 (pos := p) (zb.pt h3.2))
        exact ⟨s_and za.pe (pe_one zb.pe), fun _ => w.pt, fun _ => w⟩
      · cases h3
      · rename_i n1 n2
        split at h3
        · rename_i b1 b2
          cases rest with
          | nil => exact absurd rfl n2
          | cons y ys =>
            have zb := sndE (.and b1 b2) O h3
            have w := t_and (za.pt h2) (zb.pw rfl)
            exact ⟨s_and za.pe zb.pe, fun _ => w.pt, fun _ => w⟩
        · cases h3
    · cases h
  | .or a b, X, c, e, O, h => by
    simp only [chkE] at h
    split at h
    · rename_i x rest p
      rw [Bool.and_eq_true, Bool.and_eq_true] at h
      obtain ⟨h1, h2, h3⟩ := h
      have za := sndE a O h1
      split at h3
      · rename_i y
        rw [Bool.and_eq_true] at h3
        have zb := sndE b O h3.1
        have w := t_or (za.pt h2) (pw_or1 (pos := p) (zb.pt h3.2))
        exact ⟨s_or za.pe (pe_one zb.pe), fun _ => w.pt, fun _ => w⟩
      · cases h3
      · rename_i n1 n2
        split at h3
        · rename_i b1 b2
          cases rest with
          | nil => exact absurd rfl n2
          | cons y ys =>
            have zb := sndE (.or b1 b2) O h3
            have w := t_or (za.pt h2) (zb.pw rfl)
            exact ⟨s_or za.pe zb.pe, fun _ => w.pt, fun _ => w⟩
        · cases h3
    · cases h
  | .ite t a b, X, c, e, O, h => by
    simp only [chkE] at h
    split at h
    · rw [Bool.and_eq_true, Bool.and_eq_true, Bool.and_eq_true] at h
      exact snd_no (s_ite ((sndE t O h.1).pt h.2.1) (sndE a O h.2.2.1).pe (sndE b O h.2.2.2).pe) rfl rfl
    · cases h
  | .cmp op a b, X, c, e, O, h => by
    simp only [chkE] at h
    split at h
    · rw [Bool.and_eq_true, Bool.and_eq_true, Bool.and_eq_true] at h
      have za := (sndE a O h.2.2.1).pe
      have zb := (sndE b O h.2.2.2).pe
      exact snd_t (s_cmp h.1 h.2.1 za zb) (t_cmp h.1 h.2.1 za zb) rfl
    · cases h
  | .chain o1 o2 a b u, X, c, e, O, h => by
    simp only [chkE] at h
    split at h
    · simp only [Bool.and_eq_true] at h
      obtain ⟨h1, h2, h3, h4, h5, h6⟩ := h
      have za := (sndE a O h4).pe
      have zb := (sndE b O h5).pe
      have zu := (sndE u O h6).pe
      exact snd_t (s_chain h1 h2 h3 za zb zu) (t_chain h1 h2 h3 za zb zu) rfl
    · cases h
  | .isN a, X, c, e, O, h => by
    simp only [chkE] at h
    split at h
    · have z := (sndE a O h).pe
      exact snd_t (s_isN z) (t_isN z) rfl
    · cases h
  | .notN a, X, c, e, O, h => by
    simp only [chkE] at h
    split at h
    · have z := (sndE a O h).pe
      exact snd_t (s_notN z) (t_notN z) rfl
    · cases h
  | .notT a, X, c, e, O, h => by
    simp only [chkE] at h
    split at h
    · have z := (sndE a O h).pe
      exact snd_t (s_notT z) (t_notT z) rfl
    · cases h
  | .call d as, X, c, e, O, h => by
    simp only [chkE] at h
    split at h
    · rw [Bool.and_eq_true, Bool.and_eq_true, Bool.and_eq_true, Bool.and_eq_true] at h
      obtain ⟨h1, h2, h3, h4, h5⟩ := h
      exact snd_of (s_call O (of_decide_eq_true h1) h2 h3 h4 (args_of (sndL as O h5 h4) h5)) rfl
    · cases h
  | .make k as, X, c, e, O, h => by
    simp only [chkE] at h
    split at h
    · rename_i x p y es kws q
      rw [Bool.and_eq_true, Bool.and_eq_true, Bool.and_eq_true, Bool.and_eq_true] at h
      obtain ⟨h1, h2, h3, h4, h5⟩ := h
      have z := sndL as O h5 h4
      exact snd_of (s_make O (of_decide_eq_true h1) h2 h3 h4 (chkL_len as h5) z.1 z.2) rfl
    · cases h
  | .make0 k, X, c, e, O, h => by
    simp only [chkE] at h
    split at h
    · rw [Bool.and_eq_true, Bool.and_eq_true] at h
      exact snd_of (s_make0 O (of_decide_eq_true h.1) h.2.1 h.2.2) rfl
    · cases h
  | .meth o m as, X, c, e, O, h => by
    simp only [chkE] at h
    split at h
    · simp only [Bool.and_eq_true] at h
      obtain ⟨h1, h2, h3, h4, h5, h6, h7⟩ := h
      have q := of_decide_eq_true h1
      subst q
      exact snd_of (s_meth O (sndE o O h6).pe (args_of (sndL as O h7 h3) h7) (chkL_len as h7) h2 h3 h4 h5) rfl
    · cases h
  | .attr o f, X, c, e, O, h => by
    simp only [chkE] at h
    split at h
    · rw [Bool.and_eq_true, Bool.and_eq_true] at h
      have q := of_decide_eq_true h.1
      subst q
      exact snd_of (s_attr O h.2.1 (sndE o O h.2.2).pe) rfl
    · cases h
  | .prop o f, X, c, e, O, h => by
    simp only [chkE] at h
    split at h
    · rw [Bool.and_eq_true, Bool.and_eq_true] at h
      have q := of_decide_eq_true h.1
      subst q
      exact snd_of (s_prop O (sndE o O h.2.2).pe h.2.1) rfl
    · cases h
  | .blt b as, X, c, e, O, h => by
    simp only [chkE] at h
    split at h
    · simp only [Bool.and_eq_true] at h
      obtain ⟨h1, h2, h3, h4, h5⟩ := h
      exact snd_of (s_blt O (of_decide_eq_true h1) h2 h4 (args_of (sndL as O h5 h4) h5)) rfl
    · cases h
  | .isin a one ks, X, c, e, O, h => by
    simp only [chkE] at h
    split at h
    · rename_i x p y z q
      rw [Bool.and_eq_true, Bool.and_eq_true, Bool.and_eq_true, Bool.and_eq_true, Bool.and_eq_true] at h
      obtain ⟨h1, h2, h3, h4, h5, h6⟩ := h
      have za := (sndE a O h5).pe
      have hx := of_decide_eq_true h1
      unfold isiB at h6
      split at h6
      · split at h6
        · exact snd_of (s_isi1 O hx h2 h3 h4 za h6) rfl
        · cases h6
      · split at h6
        · rw [Bool.and_eq_true, Bool.and_eq_true] at h6
          exact snd_of (s_isiT O hx h2 h3 za h6.1 h6.2.1 (fun z => by rw [z] at h6; exact absurd h6.2.2 (by decide))) rfl
        · cases h6
    · cases h
  | .sw a b u, X, c, e, O, h => by
    simp only [chkE] at h
    split at h
    · simp only [Bool.and_eq_true] at h
      obtain ⟨h1, h2, h3, h4, h5, h6, h7, h8⟩ := h
      have q := of_decide_eq_true h1
      subst q
      exact snd_of (s_sw h2 h3 h4 h5 (sndE a O h6).pe (sndE b O h7).pe (sndE u O h8).pe) rfl
    · cases h
  | .dget t a, X, c, e, O, h => by
    simp only [chkE] at h
    split at h
    · rw [Bool.and_eq_true, Bool.and_eq_true, Bool.and_eq_true] at h
      exact snd_of (s_dget O (of_decide_eq_true h.1) h.2.1 h.2.2.1 (sndE a O h.2.2.2).pe) rfl
    · cases h
  | .dnin t a, X, c, e, O, h => by
    simp only [chkE] at h
    split at h
    · rw [Bool.and_eq_true, Bool.and_eq_true] at h
      have z := (sndE a O h.2.2).pe
      exact snd_t (q_dnin O (of_decide_eq_true h.1) h.2.1 z) (t_dnin O (of_decide_eq_true h.1) h.2.1 z) rfl
    · cases h
  | .idx a i, X, c, e, O, h => by
    simp only [chkE] at h
    split at h
    · rw [Bool.and_eq_true, Bool.and_eq_true] at h
      exact snd_of (s_idx h.1 (sndE a O h.2.1).pe (sndE i O h.2.2).pe) rfl
    · cases h
  | .sl a lo hi, X, c, e, O, h => by
    simp only [chkE] at h
    split at h
    · rw [Bool.and_eq_true, Bool.and_eq_true] at h
      exact snd_of (s_sl (sndE a O h.1).pe (sndO lo O h.2.1) (sndO hi O h.2.2)) rfl
    · cases h
  | .tup as, X, c, e, O, h => by
    simp only [chkE] at h
    split at h
    · rw [Bool.and_eq_true] at h
      exact snd_of (s_tup (args_of (sndL as O h.2 h.1) h.2)) rfl
    · cases h
  | .lst as, X, c, e, O, h => by
    simp only [chkE] at h
    split at h
    · rw [Bool.and_eq_true] at h
      exact snd_of (s_lst (args_of (sndL as O h.2 h.1) h.2)) rfl
    · cases h
  | .comp a tg it t, X, c, e, O, h => by
    simp only [chkE] at h
    split at h
    · rw [Bool.and_eq_true, Bool.and_eq_true, Bool.and_eq_true, Bool.and_eq_true, Bool.and_eq_true, Bool.and_eq_true] at h
      obtain ⟨h1, h2, h3, h4, h5, h6, h7⟩ := h
      have q := of_decide_eq_true h1
      subst q
      exact snd_of (s_comp O (sndI it O h3) h2 h4 h5 (fun X' O' => sndC t O' h7) (fun X' O' => (sndE a O' h6).pe)) rfl
    · cases h
theorem sndL : (as : IL) → ∀ {X : Cx} {c : Cc} {es : List Expr} {kws : List Keyword}, XOk L n c X → chkL L.M L.T as c es kws = true → es.all notStar = true → PA X es (tL X.K L n (as.take es.length)) ∧ PK X kws (tL X.K L n (as.drop es.length))
  | .nil, X, c, es, kws, O, h, hs => by
    simp only [chkL] at h
    split at h
    · exact ⟨s_nilL, s_nilK⟩
    · cases h
  | .cons a r, X, c, es, kws, O, h, hs => by
    simp only [chkL] at h
    split at h
    · rw [Bool.and_eq_true] at h
      rw [List.all_cons, Bool.and_eq_true] at hs
      obtain ⟨k1, k2⟩ := sndL r O h.2 hs.2
      exact ⟨s_consL hs.1 (sndE a O h.1).pe k1, k2⟩
    · split at h
      · rename_i k kws'
        rw [Bool.and_eq_true] at h
        obtain ⟨k1, k2⟩ := sndL r (es := []) O h.2 rfl
        have k2 : PK X kws' (tL X.K L n (r.drop 0)) := k2
        rw [IL.drop_zero] at k2
        obtain ⟨nm, ke, kp⟩ := k
        exact ⟨s_nilL, s_consK (sndE a O h.1).pe k2⟩
      · cases h
theorem sndO : (o : IO) → ∀ {X : Cx} {c : Cc} {e : Option Expr}, XOk L n c X → chkO L.M L.T o c e = true → PO X e (tO X.K L n o)
  | .no, X, c, e, O, h => by
    simp only [chkO] at h
    split at h
    · exact s_no
    · cases h
  | .yes a, X, c, e, O, h => by
    simp only [chkO] at h
    split at h
    · exact s_yes (sndE a O h).pe
    · cases h
theorem sndC : (o : IO) → ∀ {X : Cx} {c : Cc} {es : List Expr}, XOk L n c X → chkC L.M L.T o c es = true → PTs X es (tC X.K L n o)
  | .no, X, c, es, O, h => by
    simp only [chkC] at h
    split at h
    · exact ts_no
    · cases h
  | .yes a, X, c, es, O, h => by
    simp only [chkC] at h
    split at h
    · rw [Bool.and_eq_true] at h
      exact ts_one ((sndE a O h.1).pt h.2)
    · cases h
theorem sndI : (it : II) → ∀ {X : Cx} {c : Cc} {e g : Expr}, XOk L n c X → chkI L.M L.T it c e g = true → PI X g e (tI X.K L n it)
  | .val a, X, c, e, g, O, h => by
    simp only [chkI] at h
    exact i_val (sndE a O h).pe
  | .rng a, X, c, e, g, O, h => by
    simp only [chkI] at h
    split at h
    · rw [Bool.and_eq_true, Bool.and_eq_true, Bool.and_eq_true] at h
      exact i_rng O (of_decide_eq_true h.1) h.2.1 h.2.2.1 (sndE a O h.2.2.2).pe
    · cases h
  | .zip2 a b, X, c, e, g, O, h => by
    simp only [chkI] at h
    split at h
    · simp only [Bool.and_eq_true] at h
      obtain ⟨h1, h2, h3, h4, h5, h6, h7⟩ := h
      cases g with
      | Tuple es j tp => exact i_zip2 O (of_decide_eq_true h1) h2 h4 h5 (sndE a O h6).pe (sndE b O h7).pe
      | _ => cases h3
    · cases h
  | .zip3 a b u, X, c, e, g, O, h => by
    simp only [chkI] at h
    split at h
    · simp only [Bool.and_eq_true] at h
      obtain ⟨h1, h2, h3, h4, h5, h6, h7, h8, h9⟩ := h
      cases g with
      | Tuple es j tp => exact i_zip3 O (of_decide_eq_true h1) h2 h4 h5 h6 (sndE a O h7).pe (sndE b O h8).pe (sndE u O h9).pe
      | _ => cases h3
    · cases h
end
end
end K24
/-! K24Sn11: statements. -/
set_option Elab.async false
set_option linter.all false
set_option maxRecDepth 100000
set_option maxHeartbeats 1000000
namespace K24
open PySem PySem.Spec PyProof.Rows L2 ClX RZ
structure SOk (L : Lay) (n : Nat) (c : Cc) (X : Cx) : Prop extends XOk L n c X where
  pass : PassesOwn (model X.prog X.w) X.A X.env X.xe
  kind : X.env.scope.kind = .function
/-- what is asked behind a statement that ends so -/
def Post (K : PySem.W.Frag) (L : Lay) (Fr Hf : Hp) (rho : List Addr) (f : Fl) (D : Ends) : Prop := match f with
  | .nx s' h' => ∀ (Hg H' : Hp) (rho' : List Addr) (σ' : L2.St), Same Hf Hg → rho <+: rho' → Rel K L Fr Hg rho' h' H' → RepS K L Hg rho' s' σ' → D.nx σ' H'
  | .rt x h' => ∀ (Hg H' : Hp) (rho' : List Addr) (v : V), Same Hf Hg → rho <+: rho' → Rel K L Fr Hg rho' h' H' → Rep K L Hg x v → D.rt v H'
def tR (K : PySem.W.Frag) (L : Lay) (r : Sl → Hs → Option Fl) : TS := fun D σ H => ∃ Fr Hf rho s h f, Rel K L Fr Hf rho h H ∧ RepS K L Hf rho s σ ∧ r s h = some f ∧ Post K L Fr Hf rho f D
abbrev tS (K : PySem.W.Frag) (L : Lay) (n : Nat) (a : IS) : TS := tR K L (ex L.T (callF L.T n) a)
abbrev tSs (K : PySem.W.Frag) (L : Lay) (n : Nat) (a : IB) : TS := tR K L (exs L.T (callF L.T n) a)
theorem Post.mono {K : PySem.W.Frag} {L : Lay} {Fr Hf Hg : Hp} {rho rho' : List Addr} {f : Fl} {D : Ends} (sm : Same Hf Hg) (p : rho <+: rho') (h : Post K L Fr Hf rho f D) : Post K L Fr Hg rho' f D := by
  cases f with
  | nx s' h' => exact fun Hk H' r' σ' s1 p1 => h Hk H' r' σ' (sm.trans s1) (p.trans p1)
  | rt x h' => exact fun Hk H' r' v s1 p1 => h Hk H' r' v (sm.trans s1) (p.trans p1)
section
variable {X : Cx} {L : Lay} {n : Nat} {pos : Pos} {a b u : IE} {e e1 e2 e3 : Expr} {es : List Expr} {c : Cc}
theorem S_never {st : Stmt} : PS X st (tS X.K L n .never) := PS.imp ps_never fun D σ H ⟨Fr, Hf, rho, s, h, f, R, S, e, k⟩ => by
  simp only [ex] at e
  cases e
theorem q_set {K : PySem.W.Frag} {i : Nat} {D : Ends} {σ : L2.St} {H : Hp} (hq : tS K L n (.set i a) D σ H) : tAsg (tE K L n a) (gName i) D σ H := by
  obtain ⟨Fr, Hf, rho, s, h, f, R, S, e, k⟩ := hq
  simp only [ex] at e
  obtain ⟨⟨p1, p2⟩, e1, e⟩ := bnd_inv e
  cases e
  exact ⟨Fr, Hf, rho, s, h, _, _, R, S, e1, fun Hg H1 x sm R1 rx => k Hg H1 rho _ sm List.prefix_rfl R1 ((S.mono sm List.prefix_rfl).set i rx)⟩
theorem sw_is {elt : Expr} {gs : List Comprehension} {scope : Scope} {p py : Pos} {y : Str} {l : Nat} (O : SOk L n c X) : swapsWith (.ListComp elt gs scope p) (some (.Name y py)) l X.env = pure (swapB c y py (.ListComp elt gs scope p)) := by
  have ky : X.env.kindOf y = c.sc.names.lookup y := by show X.env.scope.names.lookup y = _; rw [O.sc]
  have hb : X.env.blockKind = .function := by unfold Env.blockKind; rw [O.kind]; rfl
  have e : isLocal c.sc y = (c.sc.names.lookup y == some .local) := by
    unfold isLocal
    cases q : c.sc.names.lookup y with
    | none => rfl
    | some k => cases k <;> rfl
  unfold swapsWith swapB
  simp only [hb, ky, e, Expr.pos]
  generalize (c.sc.names.lookup y == some NameKind.local) = A
  generalize (scope.names.any _) = B
  generalize (py.line == p.line) = C
  cases A <;> cases B <;> cases C <;> rfl
theorem S_set {i : Nat} {y : Str} {py : Pos} (O : SOk L n c X) (h1 : nameAt c i y = true) (h2 : locB c y = true) (h : chkE L.M L.T a c e = true) (h3 : (notComp e || isLC e) = true) : PS X (.Assign [.Name y py] e pos) (tS X.K L n (.set i a)) := by
  obtain ⟨l1, l2⟩ := loc_of O.toXOk h2
  have z := (sndE a O.toXOk h).pe
  by_cases hc : notComp e = true
  · exact PS.imp (ps_set O.nd (at_ofN O.toXOk h1) l1 z (swaps_no hc) l2) fun D σ H hq => q_set hq
  · cases e with
    | ListComp elt gs scope p =>
      cases hw : swapB c y py (.ListComp elt gs scope p) with
      | false =>
        have hs := sw_is (elt := elt) (gs := gs) (scope := scope) (p := p) (py := py) (y := y) (l := pos.line) O
        rw [hw] at hs
        exact PS.imp (ps_set O.nd (at_ofN O.toXOk h1) l1 z hs l2) fun D σ H hq => q_set hq
      | true =>
        cases a with
        | bad =>
          refine PS.imp ps_never fun D σ H hq => ?_
          obtain ⟨Fr, Hf, rho, s, h, f, R, S, e, k⟩ := hq
          simp only [ex, ev] at e
          cases e
        | comp a tg it t =>
          simp only [chkE] at h
          split at h
          · rename_i q1 x g i' ifs z' scope' p' he
            cases he
            rw [Bool.and_eq_true, Bool.and_eq_true, Bool.and_eq_true, Bool.and_eq_true, Bool.and_eq_true, Bool.and_eq_true] at h
            obtain ⟨k1, k2, k3, k4, k5, k6, k7⟩ := h
            have q := of_decide_eq_true k1
            subst q
            exact PS.imp (S_comp O.toXOk h1 hw O.kind (sndI it O.toXOk k3) k2 k4 k5 (fun X' O' => sndC t O' k7) (fun X' O' => (sndE a O' k6).pe)) fun D σ H hq => q_set hq
          · cases h
        | _ => simp only [chkE] at h <;> first | (cases h; done) | (split at h <;> rename_i he <;> first | (cases he; done) | (cases h; done))
    | _ => first | exact absurd rfl hc | (cases h3; done)
theorem S_newl {i : Nat} {y : Str} {py lp : Pos} {as : IL} (O : SOk L n c X) (h1 : nameAt c i y = true) (h2 : locB c y = true) (ha : PA X es (tL X.K L n as)) : PS X (.Assign [.Name y py] (.List es lp) pos) (tS X.K L n (.newl i as)) := by
  obtain ⟨l1, l2⟩ := loc_of O.toXOk h2
  refine PS.imp (ps_set O.nd (at_ofN O.toXOk h1) l1 (pe_lst ha) rfl l2) fun D σ H ⟨Fr, Hf, rho, s, h, f, R, S, e, k⟩ => ?_
  simp only [ex] at e
  obtain ⟨⟨p1, p2⟩, e1, e⟩ := bnd_inv e
  obtain ⟨q1, e2, e⟩ := bnd_inv e
  split at e
  · rename_i hz
    cases e
    refine ⟨Fr, Hf, rho, s, h, _, _, R, S, e1, fun Hg H1 xs sm R1 rx => ?_⟩
    have r2 := toDs_ok rx e2
    have hl : xs.length ≤ sizeLine := by rw [← r2.length]; exact small_line (ble_of hz)
    refine ⟨hl, fun p hp => ?_⟩
    have R3 := R1.push (o := .lst xs) (ao := .lst q1) hp ⟨R1.hf_none hp, xs, upd_same, hl, r2⟩
    have pre : rho <+: rho ++ [p] := List.prefix_append _ _
    refine k Hg _ _ _ sm pre R3 ((S.mono sm pre).set i (.ref ?_))
    show (rho ++ [p])[p2.length]? = some p
    rw [← R1.len]
    simp
  · cases e
theorem S_newo {i k : Nat} {y x : Str} {py p cp : Pos} {as : IL} (O : SOk L n c X) (h1 : nameAt c i y = true) (h2 : locB c y = true) (hx : x = L.M.cnm k) (hg : glB c.sc x = true) (hi : initB L.M L.T k (es.length + 1) [] = true) (hs : (e :: es).all notStar = true) (hl : as.len = (e :: es).length) (ha : PA X (e :: es) (tL X.K L n as)) :
    PS X (.Assign [.Name y py] (.Call (.Name x p) (e :: es) [] cp) pos) (tS X.K L n (.newo i k as)) := by
  obtain ⟨l1, l2⟩ := loc_of O.toXOk h2
  refine ⟨fun pins s0 σ H D I hq => ?_⟩
  obtain ⟨Fr, Hf, rho, s, h, f, R, S, e0, kk⟩ := hq
  simp only [ex] at e0
  obtain ⟨⟨p1, p2⟩, e1, e0⟩ := bnd_inv e0
  obtain ⟨hh, e2, e0⟩ := bnd_inv e0
  cases e0
  unfold initB at hi
  split at hi
  · rename_i ci hc
    split at hi
    · rename_i d hd
      rw [Bool.and_eq_true] at hi
      have hI : ∃ I, L.T.defs[d]? = some I := by
        have e2' := e2
        obtain ⟨ci', e3, e2'⟩ := bnd_inv e2'
        rw [hc] at e3
        cases e3
        obtain ⟨d', e3, e2'⟩ := bnd_inv e2'
        rw [hd] at e3
        cases e3
        obtain ⟨z, e4, e2'⟩ := bnd_inv e2'
        cases n with
        | zero => cases e4
        | succ m =>
          obtain ⟨I0, hI, _⟩ := bnd_inv (show bnd (L.T.defs[d]?) (fun I => runB L.T (callF L.T m) I _ _) = some z from e4)
          exact ⟨I0, hI⟩
      have hj : (L.M.ps d).length = es.length + 1 + 1 + ([] : List Keyword).length := Nat.eq_of_beq_eq_true hi.1
      have ht : as.take (es.length + 1) = as := IL.take_all as _ (by rw [hl]; exact Nat.le_refl _)
      have hdr : as.drop (es.length + 1) = .nil := len0 (by rw [IL.len_drop, hl]; show es.length + 1 - (es.length + 1) = 0; omega)
      have pe := pe_mk (p := p) (pos := cp) (kws := []) (as := as) O.toXOk hc hd hx hg hI hj (of_decide_eq_true hi.2) hs (by rw [ht]; exact ha) (by rw [hdr]; exact s_nilK)
      refine (ps_set (pos := pos) (pos' := py) O.nd (at_ofN O.toXOk h1) l1 pe rfl l2).run pins s0 σ H D I ?_
      refine q_make O.toXOk hc hd (by rw [hl]; rfl) ⟨Fr, Hf, rho, s, h, _, _, R, S, e1, e2, fun Hg H1 z sm hlen R1 => ?_⟩
      have pre : rho <+: rho ++ [z] := List.prefix_append _ _
      refine kk Hg H1 _ _ sm pre R1 ((S.mono sm pre).set i (.ref ?_))
      show (rho ++ [z])[p2.length]? = some z
      rw [hlen]
      simp
    · cases hi
  · cases hi
theorem ref_inv {K : PySem.W.Frag} {s : Sl} {i m : Nat} {h : Hs} (e : refOf s i = some m) : ev L.T (callF L.T n) (.var i) s h = some (.ref m, h) := by
  simp only [ev]
  unfold refOf at e
  split at e
  · rename_i q
    cases e
    rw [q]
  · cases e
theorem S_seta {i f : Nat} {y : Str} {py p : Pos} (O : SOk L n c X) (h1 : nameAt c i y = true) (h2 : visB c.sc y = true) (ha : PE X e (tE X.K L n a)) : PS X (.Assign [.Attribute (.Name y py) (L.M.anm f) p] e pos) (tS X.K L n (.seta i f a)) := by
  refine PS.imp (ps_fld (s_var O.toXOk h1 h2) ha swaps_attr) fun D σ H ⟨Fr, Hf, rho, s, h, fl, R, S, e, k⟩ => ?_
  simp only [ex] at e
  obtain ⟨⟨p1, p2⟩, e1, e⟩ := bnd_inv e
  obtain ⟨x, e2, e⟩ := bnd_inv e
  obtain ⟨m, e3, e⟩ := bnd_inv e
  split at e
  · rename_i k0 fs hm
    obtain ⟨ci, e4, e⟩ := bnd_inv e
    split at e
    · rename_i hz
      cases e
      rw [Bool.and_eq_true, List.contains_iff_mem] at hz
      obtain rfl := toD_inv e2
      refine ⟨Fr, Hf, rho, s, h, _, _, R, S, e1, fun Hg H1 v sm R1 rv => ⟨Fr, Hg, rho, s, p2, .ref m, p2, R1, S.mono sm List.prefix_rfl, ref_inv (K := X.K) e3, fun Hg2 H2 w sm2 R2 rw2 => ?_⟩⟩
      cases rw2 with
      | ref hr =>
        rename_i ad
        obtain ⟨k1, dx, gs, k2, k3⟩ := (show OR X.K L Hg2 H2 (.ins k0 fs) ad from R2.obj m _ ad hm hr)
        have mf : f ∈ L.flds k0 := by unfold Lay.flds; rw [e4]; exact hz.1
        have r' := rv.d'.mono sm2
        have inj := fun f g => O.tok.inj k0 f g
        refine ⟨ad, _, dx, gs, rfl, k2, O.tok.cls k0 ci e4, O.tok.noat k0 f mf, by rw [← k3.len]; have := ble_of hz.2; omega, ?_⟩
        have R3 := R2.write (o := .ins (L.cadr k0) dx (L2.putF (L.anm f) v gs)) (ao := .ins k0 (K24.putF f x fs)) hr k1 ⟨k1, dx, _, upd_same, RepF.put inj mf r' k3⟩
        exact k Hg2 _ rho σ (sm.trans sm2) List.prefix_rfl R3 (S.mono (sm.trans sm2) List.prefix_rfl)
    · cases e
  · cases e
theorem S_seti {i : Nat} {k : IE} {y : Str} {py p : Pos} (O : SOk L n c X) (h1 : nameAt c i y = true) (h2 : visB c.sc y = true) (hk : PE X e1 (tE X.K L n k)) (ha : PE X e (tE X.K L n a)) (hn : notSlice e1 = true) : PS X (.Assign [.Subscript (.Name y py) e1 p] e pos) (tS X.K L n (.seti i k a)) := by
  refine PS.imp (ps_asg ha (pg_sub (s_var O.toXOk h1 h2) hk set_list (fun v => by cases e1 <;> first | rfl | (cases hn; done))) (show swapsWith e (some (.Subscript (.Name y py) e1 p)) pos.line X.env = pure false from swaps_sub) swapped_sub) fun D σ H ⟨Fr, Hf, rho, s, h, fl, R, S, e, kk⟩ => ?_
  simp only [ex] at e
  obtain ⟨⟨p1, p2⟩, e1, e⟩ := bnd_inv e
  obtain ⟨x, e2, e⟩ := bnd_inv e
  obtain ⟨m, e3, e⟩ := bnd_inv e
  obtain ⟨⟨q1, q2⟩, e4, e⟩ := bnd_inv e
  split at e
  · rename_i j xs hj hm
    obtain ⟨m2, e5, e⟩ := bnd_inv e
    cases e
    obtain rfl := toD_inv e2
    simp only at hj hm
    subst hj
    refine ⟨Fr, Hf, rho, s, h, _, _, R, S, e1, fun Hg H1 v sm R1 rv => ⟨Fr, Hg, rho, s, p2, .ref m, p2, R1, S.mono sm List.prefix_rfl, ref_inv (K := X.K) e3, fun Hg2 H2 w sm2 R2 rw2 => ⟨Fr, Hg2, rho, s, p2, _, _, R2, S.mono (sm.trans sm2) List.prefix_rfl, e4, fun Hg3 H3 z sm3 R3 rz => ?_⟩⟩⟩
    cases rw2 with
    | ref hr =>
      rename_i ad
      cases rz.d'
      obtain ⟨k1, vs, k2, k3, k4⟩ := (show OR X.K L Hg3 H3 (.lst xs) ad from R3.obj m _ ad hm hr)
      rw [k4.length, ix_same] at e5
      refine ⟨ad, vs, j, m2, rfl, rfl, k2, e5, ?_⟩
      have r' := rv.d'.mono (sm2.trans sm3)
      have R4 := R3.write (o := .lst (vs.set m2 v)) (ao := .lst (xs.set m2 x)) hr k1 ⟨k1, _, upd_same, by rw [List.length_set]; exact k3, Reps.set r' m2 k4⟩
      exact kk Hg3 _ rho σ ((sm.trans sm2).trans sm3) List.prefix_rfl R4 (S.mono ((sm.trans sm2).trans sm3) List.prefix_rfl)
  · cases e
theorem S_sett {is : List Nat} {j : Nat} {tp : Pos} (O : SOk L n c X) (ht : notTup e = true) (hn : namesAt c is es = true) (ha : PE X e (tE X.K L n a)) : PS X (.Assign [.Tuple es j tp] e pos) (tS X.K L n (.sett is a)) := by
  obtain ⟨k1, k2, k3⟩ := g_names O.toXOk hn
  refine PS.imp (ps_asg ha (pg_tup O.calm k1 k2 k3) (show swapsWith e (some (.Tuple es j tp)) pos.line X.env = pure false from swaps_tup) (swapped_tup ht)) fun D σ H ⟨Fr, Hf, rho, s, h, fl, R, S, e, kk⟩ => ?_
  simp only [ex] at e
  obtain ⟨⟨p1, p2⟩, e1, e⟩ := bnd_inv e
  obtain ⟨x, e2, e⟩ := bnd_inv e
  obtain ⟨s', e3, e⟩ := bnd_inv e
  cases e
  obtain rfl := toD_inv e2
  exact ⟨Fr, Hf, rho, s, h, _, _, R, S, e1, fun Hg H1 v sm R1 rv => gT_ok (t := .many is) R1.same rv.d' (S.mono sm List.prefix_rfl) e3 fun σ' S' _ => kk Hg H1 rho σ' sm List.prefix_rfl R1 S'⟩
theorem S_app {i : Nat} {y : Str} {py ap cp : Pos} (O : SOk L n c X) (h1 : nameAt c i y = true) (h2 : visB c.sc y = true) (hs : notStar e = true) (hl : (ap.endLine == cp.line) = true) (ha : PE X e (tE X.K L n a)) : PS X (.Expr (.Call (.Attribute (.Name y py) "append" ap) [e] [] cp) pos) (tS X.K L n (.app i a)) := by
  have hall : [e].all notStar = true := by rw [List.all_cons, hs]; rfl
  refine PS.imp (ps_expr (pe_bm PySem.F.plainAttrs_list PySem.F.slot_list_append PySem.F.type_list_append mt_append (s_var O.toXOk h1 h2) (s_consL hs ha s_nilL) (attr_base rfl) (by rw [star_all hall]; rfl) hl (star_cons hs))) fun D σ H ⟨Fr, Hf, rho, s, h, fl, R, S, e, kk⟩ => ?_
  simp only [ex] at e
  obtain ⟨m, e3, e⟩ := bnd_inv e
  obtain ⟨_, e4, e⟩ := bnd_inv e
  obtain ⟨⟨p1, p2⟩, e1, e⟩ := bnd_inv e
  obtain ⟨x, e2, e⟩ := bnd_inv e
  split at e
  · rename_i xs hm
    split at e
    · rename_i hz
      cases e
      obtain rfl := toD_inv e2
      refine ⟨Fr, Hf, rho, s, h, .ref m, h, R, S, ref_inv (K := X.K) e3, fun Hg H1 w sm R1 rw1 => ?_⟩
      cases rw1 with
      | ref hr =>
        rename_i ad
        unfold isL at e4
        split at e4
        · rename_i ys hm0
          obtain ⟨_, vs0, k2, _, _⟩ := (show OR X.K L Hg H1 (.lst ys) ad from R1.obj m _ ad hm0 hr)
          refine ⟨.inl ⟨rfl, vs0, .inl (.inl k2)⟩, Fr, Hg, rho, s, h, [.d x], p2, R1, S.mono sm List.prefix_rfl, by simp only [evs]; rw [e1]; rfl, fun Hg2 H2 xs2 sm2 R2 rx2 => ?_⟩
          cases rx2 with
          | cons rv rn =>
            cases rn
            rename_i v
            obtain ⟨k1, vs, k2, k3, k4⟩ := (show OR X.K L Hg2 H2 (.lst xs) ad from R2.obj m _ ad hm hr)
            have hlt : vs.length < sizeLine := by rw [← k4.length, ← line_eq]; exact blt_of hz
            refine ⟨ad, vs, v, rfl, rfl, k2, hlt, ?_⟩
            have R3 := R2.write (o := .lst (vs ++ [v])) (ao := .lst (xs ++ [x])) hr k1 ⟨k1, _, upd_same, by rw [List.length_append]; exact hlt, k4.append (.cons rv.d' .nil)⟩
            exact kk Hg2 _ rho σ (sm.trans sm2) List.prefix_rfl R3 (S.mono (sm.trans sm2) List.prefix_rfl)
        · cases e4
    · cases e
  · cases e
theorem S_expr (hc : notComp e = true) (ha : PE X e (tE X.K L n a)) : PS X (.Expr e pos) (tS X.K L n (.expr a)) := by
  refine PS.imp (ps_expr ha (swaps_no hc)) fun D σ H ⟨Fr, Hf, rho, s, h, fl, R, S, e, kk⟩ => ?_
  simp only [ex] at e
  obtain ⟨⟨p1, p2⟩, e1, e⟩ := bnd_inv e
  cases e
  exact ⟨Fr, Hf, rho, s, h, _, _, R, S, e1, fun Hg H1 v sm R1 rv => kk Hg H1 rho σ sm List.prefix_rfl R1 (S.mono sm List.prefix_rfl)⟩
theorem S_ret (ha : PE X e (tE X.K L n a)) : PS X (.Return (some e) pos) (tS X.K L n (.ret a)) := by
  refine PS.imp (ps_ret ha) fun D σ H ⟨Fr, Hf, rho, s, h, fl, R, S, e, kk⟩ => ?_
  simp only [ex] at e
  obtain ⟨⟨p1, p2⟩, e1, e⟩ := bnd_inv e
  obtain ⟨⟨q1, q2⟩, e2, e⟩ := bnd_inv e
  cases e
  refine ⟨Fr, Hf, rho, s, h, _, _, R, S, e1, fun Hg H1 v sm R1 rv => ?_⟩
  obtain ⟨Hg2, sm2, R2, r2⟩ := frz_ok R1 rv e2
  exact kk Hg2 H1 rho v (sm.trans sm2) List.prefix_rfl R2 r2
theorem S_if {st sf : List Stmt} {x y : IB} (hc : PT X e (tB X.K L n a)) (ha : PSs X st (tSs X.K L n x)) (hb : PSs X sf (tSs X.K L n y)) : PS X (.If e st sf pos) (tS X.K L n (.ite a x y)) := by
  refine PS.imp (ps_if hc ha hb) fun D σ H ⟨Fr, Hf, rho, s, h, fl, R, S, e, kk⟩ => ?_
  simp only [ex] at e
  obtain ⟨⟨p1, p2⟩, e1, e⟩ := bnd_inv e
  refine ⟨Fr, Hf, rho, s, h, _, _, R, S, e1, fun Hg H1 b sm R1 rb => ?_⟩
  subst rb
  cases p1 with
  | true => exact iteT ⟨Fr, Hg, rho, s, p2, fl, R1, S.mono sm List.prefix_rfl, e, kk.mono sm List.prefix_rfl⟩
  | false => exact iteF ⟨Fr, Hg, rho, s, p2, fl, R1, S.mono sm List.prefix_rfl, e, kk.mono sm List.prefix_rfl⟩
theorem S_while {body : List Stmt} {y : IB} (O : SOk L n c X) (hc : PT X e (tB X.K L n a)) (hb : PSs X body (tSs X.K L n y)) : PS X (.While e body [] pos) (tS X.K L n (.whl a y)) := by
  refine PS.imp (ps_while O.pass hc hb) fun D σ H ⟨Fr, Hf, rho, s, h, fl, R, S, e, kk⟩ => ?_
  simp only [ex] at e
  refine ⟨fun m σ H => ∃ Hg rho' s' h', Same Hf Hg ∧ rho <+: rho' ∧ Rel X.K L Fr Hg rho' h' H ∧ RepS X.K L Hg rho' s' σ ∧ whlL (fun s h => evb L.T (callF L.T n) a s h) (fun s h => exs L.T (callF L.T n) y s h) m s' h' = some fl,
    ⟨_, Hf, rho, s, h, Same.refl _, List.prefix_rfl, R, S, e⟩, ?_⟩
  rintro m σ1 H1 ⟨Hg, rho', s', h', sm, pre, R1, S1, e1⟩
  cases m with
  | zero => cases e1
  | succ m =>
    simp only [whlL] at e1
    obtain ⟨⟨b1, h2⟩, q1, e1⟩ := bnd_inv e1
    refine ⟨Fr, Hg, rho', s', h', b1, h2, R1, S1, q1, fun Hg2 H2 b sm2 R2 rb => ?_⟩
    subst rb
    cases b1 with
    | false =>
      cases e1
      exact iteF (kk Hg2 H2 rho' σ1 (sm.trans sm2) pre R2 (S1.mono sm2 List.prefix_rfl))
    | true =>
      obtain ⟨r, q2, e1⟩ := bnd_inv e1
      refine iteT ⟨fun σ' H' => ∃ Hg rho' s' h', Same Hf Hg ∧ rho <+: rho' ∧ Rel X.K L Fr Hg rho' h' H' ∧ RepS X.K L Hg rho' s' σ' ∧ whlL (fun s h => evb L.T (callF L.T n) a s h) (fun s h => exs L.T (callF L.T n) y s h) m s' h' = some fl, fun σ' H' w => ⟨m, Nat.lt_succ_self m, w⟩, ?_⟩
      refine ⟨Fr, Hg2, rho', s', h2, r, R2, S1.mono sm2 List.prefix_rfl, q2, ?_⟩
      cases r with
      | nx s3 h3 => exact fun Hg3 H3 rho3 σ3 sm3 pre3 R3 S3 => ⟨Hg3, rho3, s3, h3, (sm.trans sm2).trans sm3, pre.trans pre3, R3, S3, e1⟩
      | rt v h3 =>
        cases e1
        exact fun Hg3 H3 rho3 v3 sm3 pre3 R3 r3 => kk Hg3 H3 rho3 v3 ((sm.trans sm2).trans sm3) (pre.trans pre3) R3 r3
theorem S_for {tg iter : Expr} {t : Tg} {it : II} {body : List Stmt} {y : IB} (O : SOk L n c X) (hi : PI X tg iter (tI X.K L n it)) (hg : tgB c t tg = true) (hs : notSet iter = true) (hb : PSs X body (tSs X.K L n y)) : PS X (.For tg iter body [] pos) (tS X.K L n (.loop t it y)) := by
  refine PS.imp (ps_for O.pass O.calm hi (g_tg O.toXOk hg) hb (fun x => folded_pure hs x)) fun D σ H ⟨Fr, Hf, rho, s, h, fl, R, S, e, kk⟩ => ?_
  simp only [ex] at e
  obtain ⟨⟨xs, h1⟩, q1, e⟩ := bnd_inv e
  refine ⟨Fr, Hf, rho, s, h, xs, h1, R, S, q1, fun Hg H1 J sm R1 ⟨jl, jj⟩ => ?_⟩
  refine ⟨fun i m σ H => m = xs.length - i ∧ i ≤ xs.length ∧ ∃ Hk rho' s' h', Same Hg Hk ∧ rho <+: rho' ∧ Rel X.K L Fr Hk rho' h' H ∧ RepS X.K L Hk rho' s' σ ∧ forL (fun x s h => bnd (setT t x s) fun s' => exs L.T (callF L.T n) y s' h) (xs.drop i) s' h' = some fl,
    ⟨xs.length, rfl, Nat.zero_le _, Hg, rho, s, h1, Same.refl _, List.prefix_rfl, R1, S.mono sm List.prefix_rfl, e⟩, ?_⟩
  rintro i m σ1 H2 ⟨rfl, hi, Hk, rho', s', h', sk, pre, Rk, Sk, ek⟩
  obtain ⟨jgo, jstop⟩ := jj Hk H2 i sk Rk.same
  by_cases hlt : i < xs.length
  · refine .inr ?_
    obtain ⟨g1, g2⟩ := jgo xs[i] (List.getElem?_eq_getElem hlt)
    have dr : xs.drop i = xs[i] :: xs.drop (i + 1) := List.drop_eq_getElem_cons hlt
    rw [dr] at ek
    simp only [forL] at ek
    obtain ⟨r, c1, ek⟩ := bnd_inv ek
    obtain ⟨s2, c2, c1⟩ := bnd_inv c1
    refine ⟨g1, _, fun σ' H' w' => ⟨xs.length - (i + 1), by omega, rfl, hlt, w'⟩, fun x H3 yy => ?_⟩
    obtain ⟨Hm, sm2, Rm, rx⟩ := g2 x H3 yy _ _ _ Rk
    refine gT_ok Rm.same rx (Sk.mono sm2 List.prefix_rfl) c2 fun σ2 S2 _ => ?_
    refine ⟨Fr, Hm, rho', s2, h', r, Rm, S2, c1, ?_⟩
    cases r with
    | nx s3 h3 => exact fun Hg3 H4 rho3 σ3 sm3 pre3 R3 S3 => ⟨Hg3, rho3, s3, h3, (sk.trans sm2).trans sm3, pre.trans pre3, R3, S3, ek⟩
    | rt v h3 =>
      cases ek
      exact fun Hg3 H4 rho3 v3 sm3 pre3 R3 r3 => kk Hg3 H4 rho3 v3 (((sm.trans sk).trans sm2).trans sm3) (pre.trans pre3) R3 r3
  · have e9 : i = xs.length := by omega
    refine .inl ⟨jstop e9, ?_⟩
    rw [e9, List.drop_length] at ek
    cases ek
    exact kk Hk H2 rho' σ1 (sm.trans sk) pre Rk Sk
theorem S_nil : PSs X [] (tSs X.K L n .nil) := by
  refine PSs.imp pss_nil fun D σ H ⟨Fr, Hf, rho, s, h, fl, R, S, e, kk⟩ => ?_
  simp only [exs] at e
  cases e
  exact kk Hf H rho σ (Same.refl _) List.prefix_rfl R S
theorem S_cons {st : Stmt} {sts : List Stmt} {x : IS} {y : IB} (ha : PS X st (tS X.K L n x)) (hb : PSs X sts (tSs X.K L n y)) : PSs X (st :: sts) (tSs X.K L n (.cons x y)) := by
  refine PSs.imp (pss_cons ha hb) fun D σ H ⟨Fr, Hf, rho, s, h, fl, R, S, e, kk⟩ => ?_
  simp only [exs] at e
  obtain ⟨r, q1, e⟩ := bnd_inv e
  refine ⟨Fr, Hf, rho, s, h, r, R, S, q1, ?_⟩
  cases r with
  | nx s3 h3 => exact fun Hg3 H3 rho3 σ3 sm3 pre3 R3 S3 => ⟨Fr, Hg3, rho3, s3, h3, fl, R3, S3, e, kk.mono sm3 pre3⟩
  | rt v h3 =>
    cases e
    exact fun Hg3 H3 rho3 v3 sm3 pre3 R3 r3 => kk Hg3 H3 rho3 v3 sm3 pre3 R3 r3
end
end K24
/-! K24Sn12: bodies, defs, every def by its term. -/
set_option Elab.async false
set_option linter.all false
set_option maxRecDepth 100000
set_option maxHeartbeats 1000000
namespace K24
open PySem PySem.Spec PyProof.Rows L2 ClX RZ
section
variable {X : Cx} {L : Lay} {n : Nat} {pos : Pos} {a b u : IE} {e e1 e2 e3 : Expr} {es : List Expr} {c : Cc}
theorem S_base {k d : Nat} {as : IL} {x : Str} {xp ap cp : Pos} (O : SOk L n c X) (hk : initOf L.T k d = true) (hx : x = L.M.cnm k) (hg : glB c.sc x = true) (hn : noKw L.M d (es.length + 1) = true) (hs : (e :: es).all notStar = true) (hl : Nat.blt (es.length + 1) 30 = true) (hp : (ap.endLine == cp.line) = true) (ha : PA X (e :: es) (tL X.K L n as)) :
    PS X (.Expr (.Call (.Attribute (.Name x xp) "__init__" ap) (e :: es) [] cp) pos) (tS X.K L n (.base k d as)) := by
  refine ⟨fun pins s0 σ H D I hq => ?_⟩
  obtain ⟨Fr, Hf, rho, s, h, f, R, S, e0, kk⟩ := hq
  simp only [ex] at e0
  obtain ⟨⟨p1, p2⟩, e1, e0⟩ := bnd_inv e0
  obtain ⟨⟨z1, z2⟩, e2, e0⟩ := bnd_inv e0
  cases e0
  have hI : ∃ I, L.T.defs[d]? = some I := by
    cases n with
    | zero => cases e2
    | succ m =>
      obtain ⟨I0, hI, _⟩ := bnd_inv (show bnd (L.T.defs[d]?) (fun I => runB L.T (callF L.T m) I p1 p2) = some (z1, z2) from e2)
      exact ⟨I0, hI⟩
  obtain ⟨I0, hI⟩ := hI
  unfold initOf at hk
  split at hk
  · rename_i ci hc
    have hd := of_decide_eq_true hk
    obtain ⟨mc, b1, b2, b3⟩ := O.tok.base k ci d hc hd
    unfold noKw at hn
    rw [Bool.and_eq_true] at hn
    have hks : L.M.ks d = [] := List.isEmpty_iff.mp hn.2
    have bd := O.tok.bind d I0 hI
    rw [hks] at bd
    have hm := O.tok.glc k ci hc
    have hdb := O.tok.dbgc k
    subst hx
    have pe := pe_baseD (X := X) (k := 2 * n) (sp := spI X.K L n d) (apos := ap) (pos := cp) (xp := xp) (gl_of O.toXOk hg) hm hdb b1 b2 b3 (O.fns d I0 hI) (binds_of bd) ha hs (blt_of hl) hp (O.room.mono (Nat.le_succ _))
    refine (ps_expr (pos := pos) pe rfl).run pins s0 σ H D I ?_
    refine ⟨Fr, Hf, rho, s, h, _, _, R, S, e1, fun Hg H1 vs sm R1 rx => ⟨Fr, Hg, rho, p1, p2, z1, z2, R1, rx, e2, fun Hg2 H2 v sm2 R2 r2 => ?_⟩⟩
    exact kk Hg2 H2 rho σ (sm.trans sm2) List.prefix_rfl R2 (S.mono (sm.trans sm2) List.prefix_rfl)
  · cases hk
end
section
variable {L : Lay} {n : Nat}
theorem args_ok {X : Cx} {c : Cc} {as : IL} {es : List Expr} (O : XOk L n c X) (h : chkL L.M L.T as c es [] = true) (hs : es.all notStar = true) : PA X es (tL X.K L n as) := args_of (sndL as O h hs) h
mutual
theorem sndS : (a : IS) → ∀ {X : Cx} {c : Cc} {st : Stmt}, SOk L n c X → chkS L.M L.T a c st = true → PS X st (tS X.K L n a)
  | .never, X, c, st, O, h => S_never
  | .set i a, X, c, st, O, h => by
    simp only [chkS] at h
    split at h
    · rw [Bool.and_eq_true, Bool.and_eq_true, Bool.and_eq_true] at h
      exact S_set O h.1 h.2.1 h.2.2.1 h.2.2.2
    · cases h
  | .newl i as, X, c, st, O, h => by
    simp only [chkS] at h
    split at h
    · rw [Bool.and_eq_true, Bool.and_eq_true, Bool.and_eq_true] at h
      exact S_newl O h.1 h.2.1 (args_ok O.toXOk h.2.2.2 h.2.2.1)
    · cases h
  | .newo i k as, X, c, st, O, h => by
    simp only [chkS] at h
    split at h
    · rw [Bool.and_eq_true, Bool.and_eq_true, Bool.and_eq_true, Bool.and_eq_true, Bool.and_eq_true, Bool.and_eq_true] at h
      obtain ⟨h1, h2, h3, h4, h5, h6, h7⟩ := h
      exact S_newo O h1 h2 (of_decide_eq_true h3) h4 h5 h6 (chkL_len as h7) (args_ok O.toXOk h7 h6)
    · cases h
  | .seta i f a, X, c, st, O, h => by
    simp only [chkS] at h
    split at h
    · rw [Bool.and_eq_true, Bool.and_eq_true, Bool.and_eq_true] at h
      have q := of_decide_eq_true h.2.2.1
      subst q
      exact S_seta O h.1 h.2.1 (sndE a O.toXOk h.2.2.2).pe
    · cases h
  | .seti i k a, X, c, st, O, h => by
    simp only [chkS] at h
    split at h
    · rw [Bool.and_eq_true, Bool.and_eq_true, Bool.and_eq_true, Bool.and_eq_true] at h
      obtain ⟨h1, h2, h3, h4, h5⟩ := h
      exact S_seti O h1 h2 (sndE k O.toXOk h4).pe (sndE a O.toXOk h5).pe h3
    · cases h
  | .sett is a, X, c, st, O, h => by
    simp only [chkS] at h
    split at h
    · rw [Bool.and_eq_true, Bool.and_eq_true] at h
      exact S_sett O h.1 h.2.1 (sndE a O.toXOk h.2.2).pe
    · cases h
  | .app i a, X, c, st, O, h => by
    simp only [chkS] at h
    split at h
    · rw [Bool.and_eq_true, Bool.and_eq_true, Bool.and_eq_true, Bool.and_eq_true, Bool.and_eq_true] at h
      obtain ⟨h1, h2, h3, h4, h5, h6⟩ := h
      have q := of_decide_eq_true h3
      subst q
      exact S_app O h1 h2 h4 h5 (sndE a O.toXOk h6).pe
    · cases h
  | .expr a, X, c, st, O, h => by
    simp only [chkS] at h
    split at h
    · rw [Bool.and_eq_true] at h
      exact S_expr h.1 (sndE a O.toXOk h.2).pe
    · cases h
  | .base k d as, X, c, st, O, h => by
    simp only [chkS] at h
    split at h
    · rw [Bool.and_eq_true, Bool.and_eq_true, Bool.and_eq_true, Bool.and_eq_true, Bool.and_eq_true, Bool.and_eq_true, Bool.and_eq_true, Bool.and_eq_true] at h
      obtain ⟨h1, h2, h3, h4, h5, h6, h7, h8, h9⟩ := h
      have q := of_decide_eq_true h3
      subst q
      exact S_base O h1 (of_decide_eq_true h2) h4 h5 h6 h7 h8 (args_ok O.toXOk h9 h6)
    · cases h
  | .ret a, X, c, st, O, h => by
    simp only [chkS] at h
    split at h
    · exact S_ret (sndE a O.toXOk h).pe
    · cases h
  | .ite t x y, X, c, st, O, h => by
    simp only [chkS] at h
    split at h
    · rw [Bool.and_eq_true, Bool.and_eq_true, Bool.and_eq_true] at h
      exact S_if ((sndE t O.toXOk h.1).pt h.2.1) (sndB x O h.2.2.1) (sndB y O h.2.2.2)
    · cases h
  | .whl t y, X, c, st, O, h => by
    simp only [chkS] at h
    split at h
    · rw [Bool.and_eq_true, Bool.and_eq_true] at h
      exact S_while O ((sndE t O.toXOk h.1).pt h.2.1) (sndB y O h.2.2)
    · cases h
  | .loop tg it y, X, c, st, O, h => by
    simp only [chkS] at h
    split at h
    · rw [Bool.and_eq_true, Bool.and_eq_true, Bool.and_eq_true] at h
      exact S_for O (sndI it O.toXOk h.2.1) h.2.2.1 h.1 (sndB y O h.2.2.2)
    · cases h
theorem sndB : (y : IB) → ∀ {X : Cx} {c : Cc} {sts : List Stmt}, SOk L n c X → chkB L.M L.T y c sts = true → PSs X sts (tSs X.K L n y)
  | .nil, X, c, sts, O, h => by
    simp only [chkB] at h
    split at h
    · exact S_nil
    · cases h
  | .cons a r, X, c, sts, O, h => by
    simp only [chkB] at h
    split at h
    · rw [Bool.and_eq_true] at h
      exact S_cons (sndS a O h.1) (sndB r O h.2)
    · cases h
end
end
/-! ### every def -/
structure DefOk (K : PySem.W.Frag) (L : Lay) (d : Nat) : Prop where
  ex : ∃ (x qual : Str) (params : Arguments) (body : List Stmt) (scope : Scope) (dvs : List V) (kws : List (Str × V)) (N : List Str), FunD K x qual params body scope dvs kws (L.fadr d) (L.ffd d) ∧ FnScope N (L.M.ps d) scope ∧ chkF L.M L.T d N scope body = true
structure TopOk (w : World) (K : PySem.W.Frag) (mg : Str → Option Value) (L : Lay) : Prop where
  tok : TOk w K mg L
  defs : ∀ d I, L.T.defs[d]? = some I → DefOk K L d
theorem start_rep {K : PySem.W.Frag} {L : Lay} {Hf : Hp} {rho : List Addr} {as : List AV} {vs : List V} (r : RepAs K L Hf rho as vs) (N : List Str) (m : Nat) (hm : m = N.length - vs.length) : RepS K L Hf rho (as.map some ++ List.replicate m none) (L2.start N vs) := by
  subst hm
  have hl := r.length
  refine ⟨by unfold L2.start; simp [hl], fun i v e => ?_⟩
  by_cases hi : i < as.length
  · rw [List.getElem?_append_left (by simpa using hi), List.getElem?_map] at e
    unfold L2.start
    rw [List.getElem?_append_left (by rw [List.length_map, ← hl]; exact hi), List.getElem?_map]
    have go : ∀ {as : List AV} {vs : List V} {i : Nat}, RepAs K L Hf rho as vs → (as[i]?).map some = some (some v) → ∃ x, (vs[i]?).map some = some (some x) ∧ RepA K L Hf rho v x := by
      intro as vs i r
      induction r generalizing i with
      | nil => intro e; cases e
      | cons h t ih =>
        intro e
        cases i with
        | zero => cases e; exact ⟨_, rfl, h⟩
        | succ i => exact ih (i := i) e
    exact go r e
  · rw [List.getElem?_append_right (by rw [List.length_map]; omega), List.getElem?_replicate] at e
    split at e
    · cases e
    · cases e
theorem all_ok {P : Program} {w : World} {K : PySem.W.Frag} {mg : Str → Option Value} {base : Heap} {L : Lay} (T : TopOk w K mg L) : ∀ (n d : Nat) (I : DefI), L.T.defs[d]? = some I → FnOk P w K mg base CX0 (2 * n) (L.fadr d) (L.ffd d) (L.M.ps d) (spI K L n d)
  | 0, d, I, hI => ⟨fun vs H Q E ⟨Fr, Hf, rho, as, h, r, h', R, S, e, k⟩ => (nomatch (show none = some (r, h') from e)), fun A outer s H args us vs Q E hr he hb hv ⟨Fr, Hf, rho, as, h, r, h', R, S, e, k⟩ => (nomatch (show none = some (r, h') from e))⟩
  | n + 1, d, I, hI => by
    obtain ⟨x, qual, params, body, scope, dvs, kws, N, F, S, ck⟩ := (T.defs d I hI).ex
    unfold chkF at ck
    rw [hI] at ck
    simp only [Bool.and_eq_true] at ck
    obtain ⟨c1, c2, c3, c4, c5⟩ := ck
    have c1 := Nat.eq_of_beq_eq_true c1
    have c2 := Nat.eq_of_beq_eq_true c2
    refine F.ok (k := 2 * n + 1) (N := N) S (fun vs H Q E hq => ?_) fun cdv A outer s H vs Q E hr hq => ?_
    · obtain ⟨Fr, Hf, rho, as, h, r, h', R, ra, e, k⟩ := hq
      obtain ⟨I', e1, e⟩ := bnd_inv (show bnd (L.T.defs[d]?) (fun I => runB L.T (callF L.T n) I as h) = some (r, h') from e)
      rw [hI] at e1
      cases e1
      unfold runB at e
      split at e
      · cases e
      · rename_i q
        rw [← ra.length, Nat.eq_of_beq_eq_true q, c1]
    · obtain ⟨Fr, Hf, rho, as, h, r, h', R, ra, e, k⟩ := hq
      obtain ⟨I', e1, e⟩ := bnd_inv (show bnd (L.T.defs[d]?) (fun I => runB L.T (callF L.T n) I as h) = some (r, h') from e)
      rw [hI] at e1
      cases e1
      unfold runB at e
      split at e
      · cases e
      · rename_i q
        have q := Nat.eq_of_beq_eq_true q
        obtain ⟨f, e2, e⟩ := bnd_inv e
        have O : SOk L n ⟨N, scope, fun _ => true⟩ (cxOf CX0 P w K mg base N qual scope (L.fadr d) cdv A outer s H E) := {
          hN := rfl
          sc := rfl
          fn := rfl
          nd := S.nd
          dbg := fun y hy => by
            have z := List.all_eq_true.mp c4 y hy
            rw [Bool.and_eq_true] at z
            exact ⟨by simpa using z.1, by simpa using z.2⟩
          calm := rfl
          room := hr
          tok := T.tok
          fns := fun d' I' hI' => all_ok T n d' I' hI'
          pass := passes_of (X := cxOf CX0 P w K mg base N qual scope (L.fadr d) cdv A outer s H E) rfl
          kind := S.kind }
        refine ⟨_, sndB I.body O c5, Fr, Hf, rho, _, h, f, R, start_rep ra N _ ?_, e2, ?_⟩
        · rw [← ra.length, q, c2]
        · have hlen := R.len
          cases f with
          | nx s3 h3 =>
            cases e
            intro Hg H' rho' σ' sm ⟨t, ht⟩ R' S'
            subst ht
            have R2 := R'.take
            rw [hlen] at R2
            exact k Hg H' .non sm R2 .non
          | rt v h3 =>
            cases e
            intro Hg H' rho' x' sm ⟨t, ht⟩ R' r'
            subst ht
            have R2 := R'.take
            rw [hlen] at R2
            exact k Hg H' x' sm R2 r'
end K24
/-! K24Hook: what the text's top has left, as the kernel looks at it. -/
set_option Elab.async false
set_option linter.all false
set_option maxRecDepth 100000
set_option maxHeartbeats 2000000
namespace K24
open PySem PySem.Spec PyProof.Rows L2 ClX RZ
open He (eqO ba relB FnW keysIn dicW)
/-! ### addresses, off the tree -/
/-! ### numbers first -/
theorem frL_eq {β : Type} : ∀ (as : List Nat) (k : List Nat → β), frL as k = k as
  | [], _ => rfl
  | a :: r, k => by
    show HandSHeadRun.frNat a (fun a => frL r fun r => k (a :: r)) = _
    rw [HandSHeadRun.frNat_eq, frL_eq r]
theorem frP_eq {β : Type} (g : Addr → Option Obj) : ∀ (as : List Nat) (k : PySem.W.Frag → β), frP g as k = k (He.frG g as)
  | [], _ => rfl
  | a :: r, k => by
    show (match g a with
      | none => frP g r k
      | some ⟨c, d, dt, sl⟩ => HandSHeadRun.frNat a fun a => frP g r fun K => k ((a, ⟨c, d, dt, sl⟩) :: K)) = _
    cases e : g a with
    | none =>
      show frP g r k = _
      rw [frP_eq g r]
      unfold He.frG
      rw [List.filterMap_cons, e]
      rfl
    | some o =>
      obtain ⟨c, d, dt, sl⟩ := o
      show HandSHeadRun.frNat a (fun a => frP g r fun K => k ((a, ⟨c, d, dt, sl⟩) :: K)) = _
      rw [HandSHeadRun.frNat_eq, frP_eq g r]
      unfold He.frG
      rw [List.filterMap_cons, e]
      rfl
theorem frG_look {g : Addr → Option Obj} {a : Addr} : ∀ {as : List Addr}, a ∈ as → (He.frG g as).lookup a = g a
  | [], h => by cases h
  | b :: r, h => by
    unfold He.frG
    rw [List.filterMap_cons]
    by_cases e : a = b
    · subst e
      cases q : g a with
      | none =>
        show (He.frG g r).lookup a = none
        cases z : (He.frG g r).lookup a with
        | none => rfl
        | some o => rw [He.frG_at r z] at q; cases q
      | some o => exact List.lookup_cons_self
    · have hr : a ∈ r := by
        rcases List.mem_cons.mp h with z | z
        · exact absurd z e
        · exact z
      cases q : g b with
      | none => exact frG_look hr
      | some o =>
        show ((b, o) :: He.frG g r).lookup a = g a
        rw [List.lookup_cons, beq_false_of_ne e]
        exact frG_look hr
/-! ### defs, off the tree -/
theorem fnB_of {g : Addr → Option Obj} {a : Nat} {q : Str} (h : fnC g a = some q) : fnB g a q = true := by
  unfold fnC at h
  unfold fnB
  repeat' split at h
  all_goals cases h
  simp_all
theorem fnAll_of {g : Addr → Option Obj} : ∀ {as : List Nat} {ps : List (At × Str × Str)}, (as.map (fnC g)) = (ps.map fun p => some p.2.2) → fnAll g as ps = true
  | [], [], _ => rfl
  | [], _ :: _, h => by cases h
  | _ :: _, [], h => by cases h
  | a :: as, p :: ps, h => by
    rw [List.map_cons, List.map_cons] at h
    obtain ⟨h1, h2⟩ := List.cons.inj h
    show (fnB g a p.2.2 && fnAll g as ps) = true
    rw [fnB_of h1, fnAll_of h2]
    rfl
/-! ### classes -/
/-! ### constants -/
/-! ### the Hook -/
def obsK (g : Addr → Option Obj) (K : PySem.W.Frag) (cas fas das : List Nat) : AlK := (fnAll g fas atL && okB K cas fas das, fas.map (fnG g), das.map fun a => dicW K a)
def valK (w : World) : AlK := (true, fnVals 0 atL, prog.dicts.map fun kvs => some (keysIn w.params (dkeys kvs)))
theorem addK_ex (g : Addr → Option Obj) : ∃ cas fas das xs ns ts ps : List Nat, ∀ (β : Type) (k : List Nat → List Nat → List Nat → List Nat → β), addK g k = k cas fas das (lisK cas xs ns ts das fas ps (fas.map (cdG g))) := by
  unfold addK
  simp only [frL_eq]
  exact ⟨_, _, _, _, _, _, _, fun _ _ => rfl⟩
def obsKG (g : Addr → Option Obj) : AlK := addK g fun cas fas das as => frP g as fun K => obsK g K cas fas das
/-- what is known of a def's object -/
def FnFact (K : PySem.W.Frag) (a : Addr) (p : At × Str × Str) (d : Nat) : Prop := ∃ (oc : Value) (od : Option Addr) (kV doc pm : Value) (an : Option Addr) (cdv ct : Value) (osl : Array (Option Value)),
  K.lookup a = some ⟨oc, od, .func (PySem.W.fnOf p.2.1 p.2.2 (defArgs (stT d)) (defBody (stT d)) (defScope (stT d)) .none kV doc pm an cdv ct), osl⟩ ∧ PySem.W.codeIn K cdv p.2.2 = true
def SaysK (w : World) (K : PySem.W.Frag) : Prop := ∃ cas fas das : List Nat, okB K cas fas das = true ∧ (∀ (d a : Nat) (p : At × Str × Str), fas[d]? = some a → atL[d]? = some p → FnFact K a p d) ∧ fas.length = atL.length ∧ (das.map fun a => dicW K a) = prog.dicts.map fun kvs => some (keysIn w.params (dkeys kvs))
theorem fnAll_at {g : Addr → Option Obj} : ∀ {as : List Nat} {ps : List (At × Str × Str)}, fnAll g as ps = true → as.length = ps.length ∧ ∀ (d : Nat) (a : Nat) (p : At × Str × Str), as[d]? = some a → ps[d]? = some p → fnB g a p.2.2 = true
  | [], [], _ => ⟨rfl, fun _ _ _ e => by simp at e⟩
  | a :: as, p :: ps, h => by
    obtain ⟨h1, h2⟩ := ba (show (fnB g a p.2.2 && fnAll g as ps) = true from h)
    obtain ⟨k1, k2⟩ := fnAll_at h2
    refine ⟨congrArg Nat.succ k1, fun d a' p' e1 e2 => ?_⟩
    cases d with
    | zero => cases e1; cases e2; exact h1
    | succ d => exact k2 d a' p' (by simpa using e1) (by simpa using e2)
  | [], _ :: _, h => by cases h
  | _ :: _, [], h => by cases h
theorem fnVals_at : ∀ {ps : List (At × Str × Str)} {n d : Nat} {p : At × Str × Str}, ps[d]? = some p → (fnVals n ps)[d]? = some (fnVal p (n + d))
  | [], _, _, _, e => by simp at e
  | q :: ps, n, 0, p, e => by cases e; rfl
  | q :: ps, n, d + 1, p, e => by
    have z := fnVals_at (n := n + 1) (d := d) (p := p) (by simpa using e)
    show (fnVals (n + 1) ps)[d]? = _
    rw [z, Nat.add_assoc, Nat.add_comm 1 d]
theorem fact_of {g : Addr → Option Obj} {as : List Nat} {a : Nat} {p : At × Str × Str} {d : Nat} (ha : a ∈ as) (hc : cdG g a ∈ as) (h1 : fnB g a p.2.2 = true) (h2 : fnG g a = fnVal p d) : FnFact (He.frG g as) a p d := by
  have la := frG_look (g := g) ha
  have lc := frG_look (g := g) hc
  unfold fnB at h1
  unfold fnG fnVal at h2
  unfold cdG at lc
  cases q : g a with
  | none => rw [q] at h1; cases h1
  | some o =>
    obtain ⟨oc, od, dt, osl⟩ := o
    rw [q] at h1 h2 la lc
    cases dt with
    | func fd =>
      obtain ⟨n1, n2, n3, n4, n5, n6, n7, n8, n9, n10, n11, n12, n13, n14, n15⟩ := fd
      have e2 : (some (n1, n2, n3, n4, n5, n6, n7, n15) : FnW) = some (p.2.1, p.2.2, defArgs (stT d), .stmts (defBody (stT d)), defScope (stT d), mainGlobals, [], builtinsNs) := h2
      simp only [Option.some.injEq, Prod.mk.injEq] at e2
      obtain ⟨h1', h2', h3', h4', h5', h6', h7', h8'⟩ := e2
      subst h1' h2' h3' h4' h5' h6' h7' h8'
      cases n8 with
      | none =>
        cases n13 with
        | ref c =>
          have lc2 : (He.frG g as).lookup c = g c := lc
          have h3 : (match g c with
            | some ⟨_, _, .fields vs, _⟩ => (match vs.toList with
              | _ :: .str n _ :: _ => decide (n = p.2.2)
              | _ => false)
            | _ => false) = true := h1
          refine ⟨oc, od, n9, n10, n11, n12, .ref c, n14, osl, la, ?_⟩
          unfold PySem.W.codeIn
          show (match (He.frG g as).lookup c with
            | some ⟨_, _, .fields vs, _⟩ => (match vs.toList with | _ :: .str n _ :: _ => n == p.2.2 | _ => false)
            | _ => false) = true
          rw [lc2]
          split at h3
          · split at h3
            · rename_i hv
              try rw [hv]
              exact beq_iff_eq.mpr (of_decide_eq_true h3)
            · cases h3
          · cases h3
        | _ => cases h1
      | _ => cases h1
    | _ => cases h1
theorem says_of {g : Addr → Option Obj} {w : World} (e : obsKG g = valK w) : ∃ as : List Nat, SaysK w (He.frG g as) := by
  obtain ⟨cas, fas, das, xs, ns, ts, ps, h⟩ := addK_ex g
  unfold obsKG at e
  rw [h, frP_eq] at e
  refine ⟨lisK cas xs ns ts das fas ps (fas.map (cdG g)), cas, fas, das, ?_⟩
  have e1 := congrArg (fun z : AlK => z.1) e
  have e2 : fas.map (fnG g) = fnVals 0 atL := congrArg (fun z : AlK => z.2.1) e
  have e3 := congrArg (fun z : AlK => z.2.2) e
  obtain ⟨c1, c2⟩ := ba (show (fnAll g fas atL && okB _ cas fas das) = true from e1)
  obtain ⟨k1, k2⟩ := fnAll_at c1
  refine ⟨c2, fun d a p h1 h2 => ?_, k1, e3⟩
  have z : (fas.map (fnG g))[d]? = (fnVals 0 atL)[d]? := by rw [e2]
  rw [List.getElem?_map, h1, fnVals_at h2, Nat.zero_add] at z
  have ma : a ∈ fas := List.mem_of_getElem? h1
  have mc : cdG g a ∈ fas.map (cdG g) := List.mem_map_of_mem ma
  refine fact_of ?_ ?_ (k2 d a p h1 h2) (Option.some.inj z)
  · unfold lisK
    simp [ma]
  · unfold lisK
    refine List.mem_cons_of_mem _ (List.mem_append_right _ (List.mem_append_right _ (List.mem_append_right _ (List.mem_cons_of_mem _ (List.mem_append_right _ (List.mem_append_right _ (List.mem_append_right _ (List.mem_append_right _ mc))))))))
def hookK : PySem.W.Hook where
  α := AlK
  obs := fun s => obsKG s.heap.get?
  val := valK
  says := fun w h => ∃ K : PySem.W.Frag, K.In h ∧ SaysK w K
  of := fun w s e => by
    obtain ⟨as, h⟩ := says_of e
    exact ⟨_, He.frG_in, h⟩
  keeps := fun _ _ _ ⟨K, hK, c⟩ k => ⟨K, PySem.W.Frag.In.keeps hK k, c⟩
theorem obsKG_eq {g : Addr → Option Obj} {s : Shared} (h : ∀ a, g a = s.heap.get? a) : obsKG g = hookK.obs s := by
  have e : g = s.heap.get? := funext h
  rw [e] <;> rfl
end K24
/-! K24Run0: what is run, and what follows. -/
set_option Elab.async false
set_option linter.all false
set_option maxRecDepth 100000
set_option maxHeartbeats 0
namespace K24
open PySem PySem.Spec PyProof.Rows L2
open HandSHeadRun PySem.W
def obT (s : SharedT) : AlK := obsKG (getT s)
theorem obT_eq (s : SharedT) : obT s = hookK.obs s.abs := obsKG_eq (getT_eq s)
theorem obs_of {g : Addr → Option Obj} {w : World} (b : (addK g fun cas fas das as => frP g as fun K => okB K cas fas das) = true)
    (c : (addK g fun cas fas das as => frP g as fun K => (fas.map (fnC g), fas.map (fnG g), das.map fun a => He.dicW K a)) = (atL.map fun p => some p.2.2, fnVals 0 atL, prog.dicts.map fun kvs => some (He.keysIn w.params (dkeys kvs)))) : obsKG g = valK w := by
  obtain ⟨cas, fas, das, xs, ns, ts, ps, h⟩ := addK_ex g
  unfold obsKG
  rw [h] at b c ⊢
  simp only [frP_eq] at b c ⊢
  unfold obsK valK
  rw [b]
  simp only [Prod.mk.injEq] at c
  rw [fnAll_of c.1, c.2.1, c.2.2]
  rfl
theorem map3 {σ α β γ δ : Type} {z : Option σ} {f : σ → α × β} {g : σ → γ} {e : σ → δ} {o : σ → AlK} {a0 : α} {b0 : β} {c0 : γ} {d0 : δ} {v : AlK} (a : z.map f = some (a0, b0)) (b : z.map g = some c0) (c : z.map e = some d0) (k : ∀ s, g s = c0 → e s = d0 → o s = v) :
    z.map (fun s => ((f s).1, (f s).2, o s)) = some (a0, b0, v) := by
  cases z with
  | none => cases a
  | some s =>
    have a := Option.some.inj a
    have b := Option.some.inj b
    have c := Option.some.inj c
    show some ((f s).1, (f s).2, o s) = _
    rw [a, k s b c]
theorem run_of {w : World} {os : OsState} (a : RA os w) (b : RB os w) (c : RC os w) : (zR os w).map (fun s => ((fA w s).1, (fA w s).2, obT s)) = some (true, openGood qV looseL, valK w) :=
  map3 a b c fun s hb hc => obs_of hb hc
end K24
/-! K24Run1: the run. -/
set_option Elab.async false
set_option linter.all false
set_option maxRecDepth 100000
set_option maxHeartbeats 0
namespace K24
open PySem PySem.Spec PyProof.Rows L2
open HandSHeadRun PySem.W
theorem run (w : World) : RunEq R qV hookK obT 20000 looseL w := by
  intro os
  have e := run_of (topA os w) (topB os w) (topC os w)
  simp only [zR, fA] at e
  exact e
end K24
/-! K24Bnd: how arguments come to the parameters of each def; printed by genb.py. -/
set_option Elab.async false
set_option linter.all false
set_option maxRecDepth 100000
set_option maxHeartbeats 4000000
namespace K24
open PySem PySem.Spec PyProof.Rows L2
def BP (d n m : Nat) : Prop := ∀ (x q : Str) (kV doc pm : Value) (an : Option Addr) (cdv ct : Value) (us ws : List Value), us.length = n → ws.length = m → bindArgs (PySem.W.fnOf x q (defArgs (stT d)) (defBody (stT d)) (defScope (stT d)) .none kV doc pm an cdv ct) ⟨us, (nms.ks d).zip ws⟩ = pure ((nms.ps d).zip (us ++ ws))
theorem bp0 : BP 0 2 0 := fun _ _ _ _ _ _ _ _ us ws h1 h2 => match us, ws, h1, h2 with | [_, _], [], _, _ => (by kernel_rfl)
theorem bp1 : BP 1 3 0 := fun _ _ _ _ _ _ _ _ us ws h1 h2 => match us, ws, h1, h2 with | [_, _, _], [], _, _ => (by kernel_rfl)
theorem bp2 : BP 2 1 0 := fun _ _ _ _ _ _ _ _ us ws h1 h2 => match us, ws, h1, h2 with | [_], [], _, _ => (by kernel_rfl)
theorem bp3 : BP 3 2 0 := fun _ _ _ _ _ _ _ _ us ws h1 h2 => match us, ws, h1, h2 with | [_, _], [], _, _ => (by kernel_rfl)
theorem bp4 : BP 4 2 0 := fun _ _ _ _ _ _ _ _ us ws h1 h2 => match us, ws, h1, h2 with | [_, _], [], _, _ => (by kernel_rfl)
theorem bp5 : BP 5 2 0 := fun _ _ _ _ _ _ _ _ us ws h1 h2 => match us, ws, h1, h2 with | [_, _], [], _, _ => (by kernel_rfl)
theorem bp6 : BP 6 1 0 := fun _ _ _ _ _ _ _ _ us ws h1 h2 => match us, ws, h1, h2 with | [_], [], _, _ => (by kernel_rfl)
theorem bp7 : BP 7 2 0 := fun _ _ _ _ _ _ _ _ us ws h1 h2 => match us, ws, h1, h2 with | [_, _], [], _, _ => (by kernel_rfl)
theorem bp8 : BP 8 3 0 := fun _ _ _ _ _ _ _ _ us ws h1 h2 => match us, ws, h1, h2 with | [_, _, _], [], _, _ => (by kernel_rfl)
theorem bp9 : BP 9 1 0 := fun _ _ _ _ _ _ _ _ us ws h1 h2 => match us, ws, h1, h2 with | [_], [], _, _ => (by kernel_rfl)
theorem bp10 : BP 10 1 0 := fun _ _ _ _ _ _ _ _ us ws h1 h2 => match us, ws, h1, h2 with | [_], [], _, _ => (by kernel_rfl)
theorem bp11 : BP 11 1 0 := fun _ _ _ _ _ _ _ _ us ws h1 h2 => match us, ws, h1, h2 with | [_], [], _, _ => (by kernel_rfl)
theorem bp12 : BP 12 1 0 := fun _ _ _ _ _ _ _ _ us ws h1 h2 => match us, ws, h1, h2 with | [_], [], _, _ => (by kernel_rfl)
theorem bp13 : BP 13 2 0 := fun _ _ _ _ _ _ _ _ us ws h1 h2 => match us, ws, h1, h2 with | [_, _], [], _, _ => (by kernel_rfl)
theorem bp14 : BP 14 2 0 := fun _ _ _ _ _ _ _ _ us ws h1 h2 => match us, ws, h1, h2 with | [_, _], [], _, _ => (by kernel_rfl)
theorem bp15 : BP 15 2 0 := fun _ _ _ _ _ _ _ _ us ws h1 h2 => match us, ws, h1, h2 with | [_, _], [], _, _ => (by kernel_rfl)
theorem bp16 : BP 16 2 0 := fun _ _ _ _ _ _ _ _ us ws h1 h2 => match us, ws, h1, h2 with | [_, _], [], _, _ => (by kernel_rfl)
theorem bp17 : BP 17 2 0 := fun _ _ _ _ _ _ _ _ us ws h1 h2 => match us, ws, h1, h2 with | [_, _], [], _, _ => (by kernel_rfl)
theorem bp18 : BP 18 2 0 := fun _ _ _ _ _ _ _ _ us ws h1 h2 => match us, ws, h1, h2 with | [_, _], [], _, _ => (by kernel_rfl)
theorem bp19 : BP 19 1 0 := fun _ _ _ _ _ _ _ _ us ws h1 h2 => match us, ws, h1, h2 with | [_], [], _, _ => (by kernel_rfl)
theorem bp20 : BP 20 2 0 := fun _ _ _ _ _ _ _ _ us ws h1 h2 => match us, ws, h1, h2 with | [_, _], [], _, _ => (by kernel_rfl)
theorem bp21 : BP 21 2 0 := fun _ _ _ _ _ _ _ _ us ws h1 h2 => match us, ws, h1, h2 with | [_, _], [], _, _ => (by kernel_rfl)
theorem bp22 : BP 22 2 0 := fun _ _ _ _ _ _ _ _ us ws h1 h2 => match us, ws, h1, h2 with | [_, _], [], _, _ => (by kernel_rfl)
theorem bp23 : BP 23 2 0 := fun _ _ _ _ _ _ _ _ us ws h1 h2 => match us, ws, h1, h2 with | [_, _], [], _, _ => (by kernel_rfl)
theorem bp24 : BP 24 2 0 := fun _ _ _ _ _ _ _ _ us ws h1 h2 => match us, ws, h1, h2 with | [_, _], [], _, _ => (by kernel_rfl)
theorem bp25 : BP 25 2 0 := fun _ _ _ _ _ _ _ _ us ws h1 h2 => match us, ws, h1, h2 with | [_, _], [], _, _ => (by kernel_rfl)
theorem bp26 : BP 26 2 0 := fun _ _ _ _ _ _ _ _ us ws h1 h2 => match us, ws, h1, h2 with | [_, _], [], _, _ => (by kernel_rfl)
theorem bp27 : BP 27 1 0 := fun _ _ _ _ _ _ _ _ us ws h1 h2 => match us, ws, h1, h2 with | [_], [], _, _ => (by kernel_rfl)
theorem bp28 : BP 28 2 0 := fun _ _ _ _ _ _ _ _ us ws h1 h2 => match us, ws, h1, h2 with | [_, _], [], _, _ => (by kernel_rfl)
theorem bp29 : BP 29 2 0 := fun _ _ _ _ _ _ _ _ us ws h1 h2 => match us, ws, h1, h2 with | [_, _], [], _, _ => (by kernel_rfl)
theorem bp30 : BP 30 2 0 := fun _ _ _ _ _ _ _ _ us ws h1 h2 => match us, ws, h1, h2 with | [_, _], [], _, _ => (by kernel_rfl)
theorem bp31 : BP 31 2 0 := fun _ _ _ _ _ _ _ _ us ws h1 h2 => match us, ws, h1, h2 with | [_, _], [], _, _ => (by kernel_rfl)
theorem bp32 : BP 32 1 0 := fun _ _ _ _ _ _ _ _ us ws h1 h2 => match us, ws, h1, h2 with | [_], [], _, _ => (by kernel_rfl)
theorem bp33 : BP 33 4 0 := fun _ _ _ _ _ _ _ _ us ws h1 h2 => match us, ws, h1, h2 with | [_, _, _, _], [], _, _ => (by kernel_rfl)
theorem bp34 : BP 34 2 0 := fun _ _ _ _ _ _ _ _ us ws h1 h2 => match us, ws, h1, h2 with | [_, _], [], _, _ => (by kernel_rfl)
theorem bp35 : BP 35 2 0 := fun _ _ _ _ _ _ _ _ us ws h1 h2 => match us, ws, h1, h2 with | [_, _], [], _, _ => (by kernel_rfl)
theorem bp36 : BP 36 2 0 := fun _ _ _ _ _ _ _ _ us ws h1 h2 => match us, ws, h1, h2 with | [_, _], [], _, _ => (by kernel_rfl)
theorem bp37 : BP 37 2 0 := fun _ _ _ _ _ _ _ _ us ws h1 h2 => match us, ws, h1, h2 with | [_, _], [], _, _ => (by kernel_rfl)
theorem bp38 : BP 38 2 0 := fun _ _ _ _ _ _ _ _ us ws h1 h2 => match us, ws, h1, h2 with | [_, _], [], _, _ => (by kernel_rfl)
theorem bp39 : BP 39 2 0 := fun _ _ _ _ _ _ _ _ us ws h1 h2 => match us, ws, h1, h2 with | [_, _], [], _, _ => (by kernel_rfl)
theorem bp40 : BP 40 2 0 := fun _ _ _ _ _ _ _ _ us ws h1 h2 => match us, ws, h1, h2 with | [_, _], [], _, _ => (by kernel_rfl)
theorem bp41 : BP 41 1 0 := fun _ _ _ _ _ _ _ _ us ws h1 h2 => match us, ws, h1, h2 with | [_], [], _, _ => (by kernel_rfl)
theorem bp42 : BP 42 3 0 := fun _ _ _ _ _ _ _ _ us ws h1 h2 => match us, ws, h1, h2 with | [_, _, _], [], _, _ => (by kernel_rfl)
theorem bp43 : BP 43 2 0 := fun _ _ _ _ _ _ _ _ us ws h1 h2 => match us, ws, h1, h2 with | [_, _], [], _, _ => (by kernel_rfl)
theorem bp44 : BP 44 2 0 := fun _ _ _ _ _ _ _ _ us ws h1 h2 => match us, ws, h1, h2 with | [_, _], [], _, _ => (by kernel_rfl)
theorem bp45 : BP 45 4 0 := fun _ _ _ _ _ _ _ _ us ws h1 h2 => match us, ws, h1, h2 with | [_, _, _, _], [], _, _ => (by kernel_rfl)
theorem bp46 : BP 46 3 0 := fun _ _ _ _ _ _ _ _ us ws h1 h2 => match us, ws, h1, h2 with | [_, _, _], [], _, _ => (by kernel_rfl)
theorem bp47 : BP 47 1 0 := fun _ _ _ _ _ _ _ _ us ws h1 h2 => match us, ws, h1, h2 with | [_], [], _, _ => (by kernel_rfl)
theorem bp48 : BP 48 2 0 := fun _ _ _ _ _ _ _ _ us ws h1 h2 => match us, ws, h1, h2 with | [_, _], [], _, _ => (by kernel_rfl)
theorem bp49 : BP 49 1 0 := fun _ _ _ _ _ _ _ _ us ws h1 h2 => match us, ws, h1, h2 with | [_], [], _, _ => (by kernel_rfl)
theorem bp50 : BP 50 2 0 := fun _ _ _ _ _ _ _ _ us ws h1 h2 => match us, ws, h1, h2 with | [_, _], [], _, _ => (by kernel_rfl)
theorem bp51 : BP 51 1 0 := fun _ _ _ _ _ _ _ _ us ws h1 h2 => match us, ws, h1, h2 with | [_], [], _, _ => (by kernel_rfl)
theorem bp52 : BP 52 3 2 := fun _ _ _ _ _ _ _ _ us ws h1 h2 => match us, ws, h1, h2 with | [_, _, _], [_, _], _, _ => (by kernel_rfl)
theorem bp53 : BP 53 2 0 := fun _ _ _ _ _ _ _ _ us ws h1 h2 => match us, ws, h1, h2 with | [_, _], [], _, _ => (by kernel_rfl)
theorem bp54 : BP 54 2 0 := fun _ _ _ _ _ _ _ _ us ws h1 h2 => match us, ws, h1, h2 with | [_, _], [], _, _ => (by kernel_rfl)
theorem bp55 : BP 55 2 0 := fun _ _ _ _ _ _ _ _ us ws h1 h2 => match us, ws, h1, h2 with | [_, _], [], _, _ => (by kernel_rfl)
theorem bp56 : BP 56 2 0 := fun _ _ _ _ _ _ _ _ us ws h1 h2 => match us, ws, h1, h2 with | [_, _], [], _, _ => (by kernel_rfl)
theorem bp57 : BP 57 2 0 := fun _ _ _ _ _ _ _ _ us ws h1 h2 => match us, ws, h1, h2 with | [_, _], [], _, _ => (by kernel_rfl)
theorem bp58 : BP 58 4 0 := fun _ _ _ _ _ _ _ _ us ws h1 h2 => match us, ws, h1, h2 with | [_, _, _, _], [], _, _ => (by kernel_rfl)
theorem bp59 : BP 59 2 0 := fun _ _ _ _ _ _ _ _ us ws h1 h2 => match us, ws, h1, h2 with | [_, _], [], _, _ => (by kernel_rfl)
theorem bp60 : BP 60 3 0 := fun _ _ _ _ _ _ _ _ us ws h1 h2 => match us, ws, h1, h2 with | [_, _, _], [], _, _ => (by kernel_rfl)
theorem bp61 : BP 61 2 0 := fun _ _ _ _ _ _ _ _ us ws h1 h2 => match us, ws, h1, h2 with | [_, _], [], _, _ => (by kernel_rfl)
theorem bp62 : BP 62 3 0 := fun _ _ _ _ _ _ _ _ us ws h1 h2 => match us, ws, h1, h2 with | [_, _, _], [], _, _ => (by kernel_rfl)
theorem bp63 : BP 63 2 0 := fun _ _ _ _ _ _ _ _ us ws h1 h2 => match us, ws, h1, h2 with | [_, _], [], _, _ => (by kernel_rfl)
theorem bp64 : BP 64 3 0 := fun _ _ _ _ _ _ _ _ us ws h1 h2 => match us, ws, h1, h2 with | [_, _, _], [], _, _ => (by kernel_rfl)
theorem bp65 : BP 65 2 0 := fun _ _ _ _ _ _ _ _ us ws h1 h2 => match us, ws, h1, h2 with | [_, _], [], _, _ => (by kernel_rfl)
theorem bp66 : BP 66 2 0 := fun _ _ _ _ _ _ _ _ us ws h1 h2 => match us, ws, h1, h2 with | [_, _], [], _, _ => (by kernel_rfl)
theorem bp67 : BP 67 2 0 := fun _ _ _ _ _ _ _ _ us ws h1 h2 => match us, ws, h1, h2 with | [_, _], [], _, _ => (by kernel_rfl)
theorem bp68 : BP 68 2 3 := fun _ _ _ _ _ _ _ _ us ws h1 h2 => match us, ws, h1, h2 with | [_, _], [_, _, _], _, _ => (by kernel_rfl)
theorem bp69 : BP 69 1 0 := fun _ _ _ _ _ _ _ _ us ws h1 h2 => match us, ws, h1, h2 with | [_], [], _, _ => (by kernel_rfl)
theorem bp70 : BP 70 1 0 := fun _ _ _ _ _ _ _ _ us ws h1 h2 => match us, ws, h1, h2 with | [_], [], _, _ => (by kernel_rfl)
theorem bp71 : BP 71 2 0 := fun _ _ _ _ _ _ _ _ us ws h1 h2 => match us, ws, h1, h2 with | [_, _], [], _, _ => (by kernel_rfl)
theorem bp72 : BP 72 3 0 := fun _ _ _ _ _ _ _ _ us ws h1 h2 => match us, ws, h1, h2 with | [_, _, _], [], _, _ => (by kernel_rfl)
theorem bp73 : BP 73 2 0 := fun _ _ _ _ _ _ _ _ us ws h1 h2 => match us, ws, h1, h2 with | [_, _], [], _, _ => (by kernel_rfl)
theorem bp74 : BP 74 4 0 := fun _ _ _ _ _ _ _ _ us ws h1 h2 => match us, ws, h1, h2 with | [_, _, _, _], [], _, _ => (by kernel_rfl)
theorem bp75 : BP 75 3 0 := fun _ _ _ _ _ _ _ _ us ws h1 h2 => match us, ws, h1, h2 with | [_, _, _], [], _, _ => (by kernel_rfl)
theorem bp76 : BP 76 1 0 := fun _ _ _ _ _ _ _ _ us ws h1 h2 => match us, ws, h1, h2 with | [_], [], _, _ => (by kernel_rfl)
theorem bp77 : BP 77 3 0 := fun _ _ _ _ _ _ _ _ us ws h1 h2 => match us, ws, h1, h2 with | [_, _, _], [], _, _ => (by kernel_rfl)
theorem bp78 : BP 78 1 0 := fun _ _ _ _ _ _ _ _ us ws h1 h2 => match us, ws, h1, h2 with | [_], [], _, _ => (by kernel_rfl)
theorem bp79 : BP 79 3 0 := fun _ _ _ _ _ _ _ _ us ws h1 h2 => match us, ws, h1, h2 with | [_, _, _], [], _, _ => (by kernel_rfl)
theorem bp80 : BP 80 1 0 := fun _ _ _ _ _ _ _ _ us ws h1 h2 => match us, ws, h1, h2 with | [_], [], _, _ => (by kernel_rfl)
theorem bp81 : BP 81 1 0 := fun _ _ _ _ _ _ _ _ us ws h1 h2 => match us, ws, h1, h2 with | [_], [], _, _ => (by kernel_rfl)
theorem bp82 : BP 82 1 0 := fun _ _ _ _ _ _ _ _ us ws h1 h2 => match us, ws, h1, h2 with | [_], [], _, _ => (by kernel_rfl)
theorem bp83 : BP 83 1 0 := fun _ _ _ _ _ _ _ _ us ws h1 h2 => match us, ws, h1, h2 with | [_], [], _, _ => (by kernel_rfl)
theorem bp84 : BP 84 1 0 := fun _ _ _ _ _ _ _ _ us ws h1 h2 => match us, ws, h1, h2 with | [_], [], _, _ => (by kernel_rfl)
theorem bp85 : BP 85 2 0 := fun _ _ _ _ _ _ _ _ us ws h1 h2 => match us, ws, h1, h2 with | [_, _], [], _, _ => (by kernel_rfl)
theorem bp86 : BP 86 2 0 := fun _ _ _ _ _ _ _ _ us ws h1 h2 => match us, ws, h1, h2 with | [_, _], [], _, _ => (by kernel_rfl)
theorem bp87 : BP 87 2 0 := fun _ _ _ _ _ _ _ _ us ws h1 h2 => match us, ws, h1, h2 with | [_, _], [], _, _ => (by kernel_rfl)
theorem bp88 : BP 88 3 0 := fun _ _ _ _ _ _ _ _ us ws h1 h2 => match us, ws, h1, h2 with | [_, _, _], [], _, _ => (by kernel_rfl)
theorem bp89 : BP 89 2 0 := fun _ _ _ _ _ _ _ _ us ws h1 h2 => match us, ws, h1, h2 with | [_, _], [], _, _ => (by kernel_rfl)
theorem bp90 : BP 90 2 0 := fun _ _ _ _ _ _ _ _ us ws h1 h2 => match us, ws, h1, h2 with | [_, _], [], _, _ => (by kernel_rfl)
theorem bp91 : BP 91 4 0 := fun _ _ _ _ _ _ _ _ us ws h1 h2 => match us, ws, h1, h2 with | [_, _, _, _], [], _, _ => (by kernel_rfl)
theorem bp92 : BP 92 2 4 := fun _ _ _ _ _ _ _ _ us ws h1 h2 => match us, ws, h1, h2 with | [_, _], [_, _, _, _], _, _ => (by kernel_rfl)
theorem bp93 : BP 93 2 0 := fun _ _ _ _ _ _ _ _ us ws h1 h2 => match us, ws, h1, h2 with | [_, _], [], _, _ => (by kernel_rfl)
theorem bp94 : BP 94 2 0 := fun _ _ _ _ _ _ _ _ us ws h1 h2 => match us, ws, h1, h2 with | [_, _], [], _, _ => (by kernel_rfl)
theorem bp95 : BP 95 2 0 := fun _ _ _ _ _ _ _ _ us ws h1 h2 => match us, ws, h1, h2 with | [_, _], [], _, _ => (by kernel_rfl)
theorem bp96 : BP 96 2 0 := fun _ _ _ _ _ _ _ _ us ws h1 h2 => match us, ws, h1, h2 with | [_, _], [], _, _ => (by kernel_rfl)
theorem bp97 : BP 97 2 0 := fun _ _ _ _ _ _ _ _ us ws h1 h2 => match us, ws, h1, h2 with | [_, _], [], _, _ => (by kernel_rfl)
theorem bp98 : BP 98 1 0 := fun _ _ _ _ _ _ _ _ us ws h1 h2 => match us, ws, h1, h2 with | [_], [], _, _ => (by kernel_rfl)
theorem bp99 : BP 99 2 0 := fun _ _ _ _ _ _ _ _ us ws h1 h2 => match us, ws, h1, h2 with | [_, _], [], _, _ => (by kernel_rfl)
theorem bp100 : BP 100 3 0 := fun _ _ _ _ _ _ _ _ us ws h1 h2 => match us, ws, h1, h2 with | [_, _, _], [], _, _ => (by kernel_rfl)
theorem bp101 : BP 101 2 0 := fun _ _ _ _ _ _ _ _ us ws h1 h2 => match us, ws, h1, h2 with | [_, _], [], _, _ => (by kernel_rfl)
theorem bp102 : BP 102 2 0 := fun _ _ _ _ _ _ _ _ us ws h1 h2 => match us, ws, h1, h2 with | [_, _], [], _, _ => (by kernel_rfl)
theorem bp103 : BP 103 4 1 := fun _ _ _ _ _ _ _ _ us ws h1 h2 => match us, ws, h1, h2 with | [_, _, _, _], [_], _, _ => (by kernel_rfl)
theorem bp104 : BP 104 2 0 := fun _ _ _ _ _ _ _ _ us ws h1 h2 => match us, ws, h1, h2 with | [_, _], [], _, _ => (by kernel_rfl)
theorem bp105 : BP 105 2 0 := fun _ _ _ _ _ _ _ _ us ws h1 h2 => match us, ws, h1, h2 with | [_, _], [], _, _ => (by kernel_rfl)
theorem bp106 : BP 106 2 0 := fun _ _ _ _ _ _ _ _ us ws h1 h2 => match us, ws, h1, h2 with | [_, _], [], _, _ => (by kernel_rfl)
theorem bp107 : BP 107 3 1 := fun _ _ _ _ _ _ _ _ us ws h1 h2 => match us, ws, h1, h2 with | [_, _, _], [_], _, _ => (by kernel_rfl)
theorem bp108 : BP 108 2 0 := fun _ _ _ _ _ _ _ _ us ws h1 h2 => match us, ws, h1, h2 with | [_, _], [], _, _ => (by kernel_rfl)
theorem bp109 : BP 109 2 0 := fun _ _ _ _ _ _ _ _ us ws h1 h2 => match us, ws, h1, h2 with | [_, _], [], _, _ => (by kernel_rfl)
theorem bp110 : BP 110 2 0 := fun _ _ _ _ _ _ _ _ us ws h1 h2 => match us, ws, h1, h2 with | [_, _], [], _, _ => (by kernel_rfl)
theorem bp111 : BP 111 2 0 := fun _ _ _ _ _ _ _ _ us ws h1 h2 => match us, ws, h1, h2 with | [_, _], [], _, _ => (by kernel_rfl)
theorem bp112 : BP 112 2 0 := fun _ _ _ _ _ _ _ _ us ws h1 h2 => match us, ws, h1, h2 with | [_, _], [], _, _ => (by kernel_rfl)
theorem bp113 : BP 113 2 0 := fun _ _ _ _ _ _ _ _ us ws h1 h2 => match us, ws, h1, h2 with | [_, _], [], _, _ => (by kernel_rfl)
theorem bp114 : BP 114 2 0 := fun _ _ _ _ _ _ _ _ us ws h1 h2 => match us, ws, h1, h2 with | [_, _], [], _, _ => (by kernel_rfl)
theorem bp115 : BP 115 3 0 := fun _ _ _ _ _ _ _ _ us ws h1 h2 => match us, ws, h1, h2 with | [_, _, _], [], _, _ => (by kernel_rfl)
theorem bp116 : BP 116 1 0 := fun _ _ _ _ _ _ _ _ us ws h1 h2 => match us, ws, h1, h2 with | [_], [], _, _ => (by kernel_rfl)
theorem bp117 : BP 117 2 0 := fun _ _ _ _ _ _ _ _ us ws h1 h2 => match us, ws, h1, h2 with | [_, _], [], _, _ => (by kernel_rfl)
theorem bp118 : BP 118 4 0 := fun _ _ _ _ _ _ _ _ us ws h1 h2 => match us, ws, h1, h2 with | [_, _, _, _], [], _, _ => (by kernel_rfl)
theorem bp119 : BP 119 1 0 := fun _ _ _ _ _ _ _ _ us ws h1 h2 => match us, ws, h1, h2 with | [_], [], _, _ => (by kernel_rfl)
theorem bp120 : BP 120 2 0 := fun _ _ _ _ _ _ _ _ us ws h1 h2 => match us, ws, h1, h2 with | [_, _], [], _, _ => (by kernel_rfl)
theorem bp121 : BP 121 2 0 := fun _ _ _ _ _ _ _ _ us ws h1 h2 => match us, ws, h1, h2 with | [_, _], [], _, _ => (by kernel_rfl)
theorem bp122 : BP 122 2 0 := fun _ _ _ _ _ _ _ _ us ws h1 h2 => match us, ws, h1, h2 with | [_, _], [], _, _ => (by kernel_rfl)
theorem bp123 : BP 123 2 0 := fun _ _ _ _ _ _ _ _ us ws h1 h2 => match us, ws, h1, h2 with | [_, _], [], _, _ => (by kernel_rfl)
theorem bp124 : BP 124 1 0 := fun _ _ _ _ _ _ _ _ us ws h1 h2 => match us, ws, h1, h2 with | [_], [], _, _ => (by kernel_rfl)
theorem bp125 : BP 125 2 0 := fun _ _ _ _ _ _ _ _ us ws h1 h2 => match us, ws, h1, h2 with | [_, _], [], _, _ => (by kernel_rfl)
theorem bp126 : BP 126 2 0 := fun _ _ _ _ _ _ _ _ us ws h1 h2 => match us, ws, h1, h2 with | [_, _], [], _, _ => (by kernel_rfl)
theorem bp127 : BP 127 2 0 := fun _ _ _ _ _ _ _ _ us ws h1 h2 => match us, ws, h1, h2 with | [_, _], [], _, _ => (by kernel_rfl)
theorem bp128 : BP 128 3 0 := fun _ _ _ _ _ _ _ _ us ws h1 h2 => match us, ws, h1, h2 with | [_, _, _], [], _, _ => (by kernel_rfl)
theorem bp129 : BP 129 2 0 := fun _ _ _ _ _ _ _ _ us ws h1 h2 => match us, ws, h1, h2 with | [_, _], [], _, _ => (by kernel_rfl)
theorem bp130 : BP 130 2 0 := fun _ _ _ _ _ _ _ _ us ws h1 h2 => match us, ws, h1, h2 with | [_, _], [], _, _ => (by kernel_rfl)
theorem bp131 : BP 131 2 0 := fun _ _ _ _ _ _ _ _ us ws h1 h2 => match us, ws, h1, h2 with | [_, _], [], _, _ => (by kernel_rfl)
theorem bp132 : BP 132 3 0 := fun _ _ _ _ _ _ _ _ us ws h1 h2 => match us, ws, h1, h2 with | [_, _, _], [], _, _ => (by kernel_rfl)
theorem bp133 : BP 133 2 0 := fun _ _ _ _ _ _ _ _ us ws h1 h2 => match us, ws, h1, h2 with | [_, _], [], _, _ => (by kernel_rfl)
theorem bp134 : BP 134 2 0 := fun _ _ _ _ _ _ _ _ us ws h1 h2 => match us, ws, h1, h2 with | [_, _], [], _, _ => (by kernel_rfl)
theorem bp135 : BP 135 2 0 := fun _ _ _ _ _ _ _ _ us ws h1 h2 => match us, ws, h1, h2 with | [_, _], [], _, _ => (by kernel_rfl)
theorem bp136 : BP 136 2 0 := fun _ _ _ _ _ _ _ _ us ws h1 h2 => match us, ws, h1, h2 with | [_, _], [], _, _ => (by kernel_rfl)
theorem bp137 : BP 137 3 0 := fun _ _ _ _ _ _ _ _ us ws h1 h2 => match us, ws, h1, h2 with | [_, _, _], [], _, _ => (by kernel_rfl)
theorem bp138 : BP 138 2 0 := fun _ _ _ _ _ _ _ _ us ws h1 h2 => match us, ws, h1, h2 with | [_, _], [], _, _ => (by kernel_rfl)
theorem bp139 : BP 139 2 0 := fun _ _ _ _ _ _ _ _ us ws h1 h2 => match us, ws, h1, h2 with | [_, _], [], _, _ => (by kernel_rfl)
theorem bp140 : BP 140 2 0 := fun _ _ _ _ _ _ _ _ us ws h1 h2 => match us, ws, h1, h2 with | [_, _], [], _, _ => (by kernel_rfl)
theorem bp141 : BP 141 3 0 := fun _ _ _ _ _ _ _ _ us ws h1 h2 => match us, ws, h1, h2 with | [_, _, _], [], _, _ => (by kernel_rfl)
theorem bp142 : BP 142 2 0 := fun _ _ _ _ _ _ _ _ us ws h1 h2 => match us, ws, h1, h2 with | [_, _], [], _, _ => (by kernel_rfl)
theorem bp143 : BP 143 2 0 := fun _ _ _ _ _ _ _ _ us ws h1 h2 => match us, ws, h1, h2 with | [_, _], [], _, _ => (by kernel_rfl)
theorem bpAll : ∀ d, d < 144 → ∃ n m, BP d n m ∧ n + m = (nms.ps d).length ∧ m = (nms.ks d).length := by
  intro d hd
  match d, hd with
  | 0, _ => exact ⟨2, 0, bp0, (by kernel_rfl), (by kernel_rfl)⟩
  | 1, _ => exact ⟨3, 0, bp1, (by kernel_rfl), (by kernel_rfl)⟩
  | 2, _ => exact ⟨1, 0, bp2, (by kernel_rfl), (by kernel_rfl)⟩
  | 3, _ => exact ⟨2, 0, bp3, (by kernel_rfl), (by kernel_rfl)⟩
  | 4, _ => exact ⟨2, 0, bp4, (by kernel_rfl), (by kernel_rfl)⟩
  | 5, _ => exact ⟨2, 0, bp5, (by kernel_rfl), (by kernel_rfl)⟩
  | 6, _ => exact ⟨1, 0, bp6, (by kernel_rfl), (by kernel_rfl)⟩
  | 7, _ => exact ⟨2, 0, bp7, (by kernel_rfl), (by kernel_rfl)⟩
  | 8, _ => exact ⟨3, 0, bp8, (by kernel_rfl), (by kernel_rfl)⟩
  | 9, _ => exact ⟨1, 0, bp9, (by kernel_rfl), (by kernel_rfl)⟩
  | 10, _ => exact ⟨1, 0, bp10, (by kernel_rfl), (by kernel_rfl)⟩
  | 11, _ => exact ⟨1, 0, bp11, (by kernel_rfl), (by kernel_rfl)⟩
  | 12, _ => exact ⟨1, 0, bp12, (by kernel_rfl), (by kernel_rfl)⟩
  | 13, _ => exact ⟨2, 0, bp13, (by kernel_rfl), (by kernel_rfl)⟩
  | 14, _ => exact ⟨2, 0, bp14, (by kernel_rfl), (by kernel_rfl)⟩
  | 15, _ => exact ⟨2, 0, bp15, (by kernel_rfl), (by kernel_rfl)⟩
  | 16, _ => exact ⟨2, 0, bp16, (by kernel_rfl), (by kernel_rfl)⟩
  | 17, _ => exact ⟨2, 0, bp17, (by kernel_rfl), (by kernel_rfl)⟩
  | 18, _ => exact ⟨2, 0, bp18, (by kernel_rfl), (by kernel_rfl)⟩
  | 19, _ => exact ⟨1, 0, bp19, (by kernel_rfl), (by kernel_rfl)⟩
  | 20, _ => exact ⟨2, 0, bp20, (by kernel_rfl), (by kernel_rfl)⟩
  | 21, _ => exact ⟨2, 0, bp21, (by kernel_rfl), (by kernel_rfl)⟩
  | 22, _ => exact ⟨2, 0, bp22, (by kernel_rfl), (by kernel_rfl)⟩
  | 23, _ => exact ⟨2, 0, bp23, (by kernel_rfl), (by kernel_rfl)⟩
  | 24, _ => exact ⟨2, 0, bp24, (by kernel_rfl), (by kernel_rfl)⟩
  | 25, _ => exact ⟨2, 0, bp25, (by kernel_rfl), (by kernel_rfl)⟩
  | 26, _ => exact ⟨2, 0, bp26, (by kernel_rfl), (by kernel_rfl)⟩
  | 27, _ => exact ⟨1, 0, bp27, (by kernel_rfl), (by kernel_rfl)⟩
  | 28, _ => exact ⟨2, 0, bp28, (by kernel_rfl), (by kernel_rfl)⟩
  | 29, _ => exact ⟨2, 0, bp29, (by kernel_rfl), (by kernel_rfl)⟩
  | 30, _ => exact ⟨2, 0, bp30, (by kernel_rfl), (by kernel_rfl)⟩
  | 31, _ => exact ⟨2, 0, bp31, (by kernel_rfl), (by kernel_rfl)⟩
  | 32, _ => exact ⟨1, 0, bp32, (by kernel_rfl), (by kernel_rfl)⟩
  | 33, _ => exact ⟨4, 0, bp33, (by kernel_rfl), (by kernel_rfl)⟩
  | 34, _ => exact ⟨2, 0, bp34, (by kernel_rfl), (by kernel_rfl)⟩
  | 35, _ => exact ⟨2, 0, bp35, (by kernel_rfl), (by kernel_rfl)⟩
  | 36, _ => exact ⟨2, 0, bp36, (by kernel_rfl), (by kernel_rfl)⟩
  | 37, _ => exact ⟨2, 0, bp37, (by kernel_rfl), (by kernel_rfl)⟩
  | 38, _ => exact ⟨2, 0, bp38, (by kernel_rfl), (by kernel_rfl)⟩
  | 39, _ => exact ⟨2, 0, bp39, (by kernel_rfl), (by kernel_rfl)⟩
  | 40, _ => exact ⟨2, 0, bp40, (by kernel_rfl), (by kernel_rfl)⟩
  | 41, _ => exact ⟨1, 0, bp41, (by kernel_rfl), (by kernel_rfl)⟩
  | 42, _ => exact ⟨3, 0, bp42, (by kernel_rfl), (by kernel_rfl)⟩
  | 43, _ => exact ⟨2, 0, bp43, (by kernel_rfl), (by kernel_rfl)⟩
  | 44, _ => exact ⟨2, 0, bp44, (by kernel_rfl), (by kernel_rfl)⟩
  | 45, _ => exact ⟨4, 0, bp45, (by kernel_rfl), (by kernel_rfl)⟩
  | 46, _ => exact ⟨3, 0, bp46, (by kernel_rfl), (by kernel_rfl)⟩
  | 47, _ => exact ⟨1, 0, bp47, (by kernel_rfl), (by kernel_rfl)⟩
  | 48, _ => exact ⟨2, 0, bp48, (by kernel_rfl), (by kernel_rfl)⟩
  | 49, _ => exact ⟨1, 0, bp49, (by kernel_rfl), (by kernel_rfl)⟩
  | 50, _ => exact ⟨2, 0, bp50, (by kernel_rfl), (by kernel_rfl)⟩
  | 51, _ => exact ⟨1, 0, bp51, (by kernel_rfl), (by kernel_rfl)⟩
  | 52, _ => exact ⟨3, 2, bp52, (by kernel_rfl), (by kernel_rfl)⟩
  | 53, _ => exact ⟨2, 0, bp53, (by kernel_rfl), (by kernel_rfl)⟩
  | 54, _ => exact ⟨2, 0, bp54, (by kernel_rfl), (by kernel_rfl)⟩
  | 55, _ => exact ⟨2, 0, bp55, (by kernel_rfl), (by kernel_rfl)⟩
  | 56, _ => exact ⟨2, 0, bp56, (by kernel_rfl), (by kernel_rfl)⟩
  | 57, _ => exact ⟨2, 0, bp57, (by kernel_rfl), (by kernel_rfl)⟩
  | 58, _ => exact ⟨4, 0, bp58, (by kernel_rfl), (by kernel_rfl)⟩
  | 59, _ => exact ⟨2, 0, bp59, (by kernel_rfl), (by kernel_rfl)⟩
  | 60, _ => exact ⟨3, 0, bp60, (by kernel_rfl), (by kernel_rfl)⟩
  | 61, _ => exact ⟨2, 0, bp61, (by kernel_rfl), (by kernel_rfl)⟩
  | 62, _ => exact ⟨3, 0, bp62, (by kernel_rfl), (by kernel_rfl)⟩
  | 63, _ => exact ⟨2, 0, bp63, (by kernel_rfl), (by kernel_rfl)⟩
  | 64, _ => exact ⟨3, 0, bp64, (by kernel_rfl), (by kernel_rfl)⟩
  | 65, _ => exact ⟨2, 0, bp65, (by kernel_rfl), (by kernel_rfl)⟩
  | 66, _ => exact ⟨2, 0, bp66, (by kernel_rfl), (by kernel_rfl)⟩
  | 67, _ => exact ⟨2, 0, bp67, (by kernel_rfl), (by kernel_rfl)⟩
  | 68, _ => exact ⟨2, 3, bp68, (by kernel_rfl), (by kernel_rfl)⟩
  | 69, _ => exact ⟨1, 0, bp69, (by kernel_rfl), (by kernel_rfl)⟩
  | 70, _ => exact ⟨1, 0, bp70, (by kernel_rfl), (by kernel_rfl)⟩
  | 71, _ => exact ⟨2, 0, bp71, (by kernel_rfl), (by kernel_rfl)⟩
  | 72, _ => exact ⟨3, 0, bp72, (by kernel_rfl), (by kernel_rfl)⟩
  | 73, _ => exact ⟨2, 0, bp73, (by kernel_rfl), (by kernel_rfl)⟩
  | 74, _ => exact ⟨4, 0, bp74, (by kernel_rfl), (by kernel_rfl)⟩
  | 75, _ => exact ⟨3, 0, bp75, (by kernel_rfl), (by kernel_rfl)⟩
  | 76, _ => exact ⟨1, 0, bp76, (by kernel_rfl), (by kernel_rfl)⟩
  | 77, _ => exact ⟨3, 0, bp77, (by kernel_rfl), (by kernel_rfl)⟩
  | 78, _ => exact ⟨1, 0, bp78, (by kernel_rfl), (by kernel_rfl)⟩
  | 79, _ => exact ⟨3, 0, bp79, (by kernel_rfl), (by kernel_rfl)⟩
  | 80, _ => exact ⟨1, 0, bp80, (by kernel_rfl), (by kernel_rfl)⟩
  | 81, _ => exact ⟨1, 0, bp81, (by kernel_rfl), (by kernel_rfl)⟩
  | 82, _ => exact ⟨1, 0, bp82, (by kernel_rfl), (by kernel_rfl)⟩
  | 83, _ => exact ⟨1, 0, bp83, (by kernel_rfl), (by kernel_rfl)⟩
  | 84, _ => exact ⟨1, 0, bp84, (by kernel_rfl), (by kernel_rfl)⟩
  | 85, _ => exact ⟨2, 0, bp85, (by kernel_rfl), (by kernel_rfl)⟩
  | 86, _ => exact ⟨2, 0, bp86, (by kernel_rfl), (by kernel_rfl)⟩
  | 87, _ => exact ⟨2, 0, bp87, (by kernel_rfl), (by kernel_rfl)⟩
  | 88, _ => exact ⟨3, 0, bp88, (by kernel_rfl), (by kernel_rfl)⟩
  | 89, _ => exact ⟨2, 0, bp89, (by kernel_rfl), (by kernel_rfl)⟩
  | 90, _ => exact ⟨2, 0, bp90, (by kernel_rfl), (by kernel_rfl)⟩
  | 91, _ => exact ⟨4, 0, bp91, (by kernel_rfl), (by kernel_rfl)⟩
  | 92, _ => exact ⟨2, 4, bp92, (by kernel_rfl), (by kernel_rfl)⟩
  | 93, _ => exact ⟨2, 0, bp93, (by kernel_rfl), (by kernel_rfl)⟩
  | 94, _ => exact ⟨2, 0, bp94, (by kernel_rfl), (by kernel_rfl)⟩
  | 95, _ => exact ⟨2, 0, bp95, (by kernel_rfl), (by kernel_rfl)⟩
  | 96, _ => exact ⟨2, 0, bp96, (by kernel_rfl), (by kernel_rfl)⟩
  | 97, _ => exact ⟨2, 0, bp97, (by kernel_rfl), (by kernel_rfl)⟩
  | 98, _ => exact ⟨1, 0, bp98, (by kernel_rfl), (by kernel_rfl)⟩
  | 99, _ => exact ⟨2, 0, bp99, (by kernel_rfl), (by kernel_rfl)⟩
  | 100, _ => exact ⟨3, 0, bp100, (by kernel_rfl), (by kernel_rfl)⟩
  | 101, _ => exact ⟨2, 0, bp101, (by kernel_rfl), (by kernel_rfl)⟩
  | 102, _ => exact ⟨2, 0, bp102, (by kernel_rfl), (by kernel_rfl)⟩
  | 103, _ => exact ⟨4, 1, bp103, (by kernel_rfl), (by kernel_rfl)⟩
  | 104, _ => exact ⟨2, 0, bp104, (by kernel_rfl), (by kernel_rfl)⟩
  | 105, _ => exact ⟨2, 0, bp105, (by kernel_rfl), (by kernel_rfl)⟩
  | 106, _ => exact ⟨2, 0, bp106, (by kernel_rfl), (by kernel_rfl)⟩
  | 107, _ => exact ⟨3, 1, bp107, (by kernel_rfl), (by kernel_rfl)⟩
  | 108, _ => exact ⟨2, 0, bp108, (by kernel_rfl), (by kernel_rfl)⟩
  | 109, _ => exact ⟨2, 0, bp109, (by kernel_rfl), (by kernel_rfl)⟩
  | 110, _ => exact ⟨2, 0, bp110, (by kernel_rfl), (by kernel_rfl)⟩
  | 111, _ => exact ⟨2, 0, bp111, (by kernel_rfl), (by kernel_rfl)⟩
  | 112, _ => exact ⟨2, 0, bp112, (by kernel_rfl), (by kernel_rfl)⟩
  | 113, _ => exact ⟨2, 0, bp113, (by kernel_rfl), (by kernel_rfl)⟩
  | 114, _ => exact ⟨2, 0, bp114, (by kernel_rfl), (by kernel_rfl)⟩
  | 115, _ => exact ⟨3, 0, bp115, (by kernel_rfl), (by kernel_rfl)⟩
  | 116, _ => exact ⟨1, 0, bp116, (by kernel_rfl), (by kernel_rfl)⟩
  | 117, _ => exact ⟨2, 0, bp117, (by kernel_rfl), (by kernel_rfl)⟩
  | 118, _ => exact ⟨4, 0, bp118, (by kernel_rfl), (by kernel_rfl)⟩
  | 119, _ => exact ⟨1, 0, bp119, (by kernel_rfl), (by kernel_rfl)⟩
  | 120, _ => exact ⟨2, 0, bp120, (by kernel_rfl), (by kernel_rfl)⟩
  | 121, _ => exact ⟨2, 0, bp121, (by kernel_rfl), (by kernel_rfl)⟩
  | 122, _ => exact ⟨2, 0, bp122, (by kernel_rfl), (by kernel_rfl)⟩
  | 123, _ => exact ⟨2, 0, bp123, (by kernel_rfl), (by kernel_rfl)⟩
  | 124, _ => exact ⟨1, 0, bp124, (by kernel_rfl), (by kernel_rfl)⟩
  | 125, _ => exact ⟨2, 0, bp125, (by kernel_rfl), (by kernel_rfl)⟩
  | 126, _ => exact ⟨2, 0, bp126, (by kernel_rfl), (by kernel_rfl)⟩
  | 127, _ => exact ⟨2, 0, bp127, (by kernel_rfl), (by kernel_rfl)⟩
  | 128, _ => exact ⟨3, 0, bp128, (by kernel_rfl), (by kernel_rfl)⟩
  | 129, _ => exact ⟨2, 0, bp129, (by kernel_rfl), (by kernel_rfl)⟩
  | 130, _ => exact ⟨2, 0, bp130, (by kernel_rfl), (by kernel_rfl)⟩
  | 131, _ => exact ⟨2, 0, bp131, (by kernel_rfl), (by kernel_rfl)⟩
  | 132, _ => exact ⟨3, 0, bp132, (by kernel_rfl), (by kernel_rfl)⟩
  | 133, _ => exact ⟨2, 0, bp133, (by kernel_rfl), (by kernel_rfl)⟩
  | 134, _ => exact ⟨2, 0, bp134, (by kernel_rfl), (by kernel_rfl)⟩
  | 135, _ => exact ⟨2, 0, bp135, (by kernel_rfl), (by kernel_rfl)⟩
  | 136, _ => exact ⟨2, 0, bp136, (by kernel_rfl), (by kernel_rfl)⟩
  | 137, _ => exact ⟨3, 0, bp137, (by kernel_rfl), (by kernel_rfl)⟩
  | 138, _ => exact ⟨2, 0, bp138, (by kernel_rfl), (by kernel_rfl)⟩
  | 139, _ => exact ⟨2, 0, bp139, (by kernel_rfl), (by kernel_rfl)⟩
  | 140, _ => exact ⟨2, 0, bp140, (by kernel_rfl), (by kernel_rfl)⟩
  | 141, _ => exact ⟨3, 0, bp141, (by kernel_rfl), (by kernel_rfl)⟩
  | 142, _ => exact ⟨2, 0, bp142, (by kernel_rfl), (by kernel_rfl)⟩
  | 143, _ => exact ⟨2, 0, bp143, (by kernel_rfl), (by kernel_rfl)⟩
  | n + 144, h => omega
end K24
/-! K24Top: what the top has left serves every def. -/
set_option Elab.async false
set_option linter.all false
set_option maxRecDepth 100000
set_option maxHeartbeats 2000000
namespace K24
open PySem PySem.Spec PyProof.Rows L2 ClX RZ
open He (eqO eqO_ok ba relB FnW keysIn dicW)
def ffdK (K : PySem.W.Frag) (a : Addr) : FuncData := match K.lookup a with
  | some ⟨_, _, .func fd, _⟩ => fd
  | _ => default
def layK (K : PySem.W.Frag) (cas fas : List Nat) : Lay := ⟨fun c => cas.getD c 0, fun d => fas.getD d 0, fun d => ffdK K (fas.getD d 0), nms, prog⟩
/-! ### plain tables -/
def tabB : Bool := (prog.cls.all fun ci => ci.flds.all fun f => ci.flds.all fun g => (!(nms.anm f == nms.anm g) || Nat.beq f g)) && ((prog.cls.all fun ci => ci.meths.all fun p => (ci.flds.all fun f => !(nms.anm f == nms.anm p.1)) && (nms.ks p.2).isEmpty) &&
  ((prog.cls.all fun ci => ci.props.all fun p => (nms.ks p.2).isEmpty) && (prog.conds.all fun k => Nat.blt k prog.cls.length)))
theorem tabB_ok : tabB = true := by decide +kernel
def noDbg (x : Str) : Bool := !(x == ("__debug__" : Str))
theorem dbg_c : cnmL.all noDbg = true := by decide +kernel
theorem dbg_g : gnmL.all noDbg = true := by decide +kernel
theorem dbg_t : tnmL.all noDbg = true := by decide +kernel
theorem dbg_d : (dnmL.all fun o => match o with | some x => noDbg x | none => true) = true := by decide +kernel
theorem dbg_e : noDbg "" = true := by decide +kernel
theorem len_d : prog.defs.length = 144 ∧ atL.length = 144 ∧ dnmL.length = 144 := by decide +kernel
theorem len_c : cnmL.length = prog.cls.length := by decide +kernel
theorem len_g : gnmL.length = prog.globs.length := by decide +kernel
theorem len_t : tnmL.length = prog.dicts.length := by decide +kernel
theorem getD_all {l : List Str} (h : l.all noDbg = true) (i : Nat) : (l.getD i "" == ("__debug__" : Str)) = false := by
  have go : noDbg (l.getD i "") = true := by
    rw [List.getD_eq_getElem?_getD]
    cases q : l[i]? with
    | none => exact dbg_e
    | some x => exact List.all_eq_true.mp h x (List.mem_of_getElem? q)
  unfold noDbg at go
  simpa using go
/-! ### def by def -/
def scB (d : Nat) : Bool := (match (defScope (stT d)).kind with | .function => true | _ => false) && ((!(defScope (stT d)).isCoroutine && !(defScope (stT d)).isGenerator) && (decide ((nmL.getD d []).Nodup) && (decide ((nmL.getD d []).take (nms.ps d).length = nms.ps d) &&
  (((nms.ps d).all fun x => match (defScope (stT d)).names.lookup x with | some .local => true | some .cell => true | _ => false) && (defScope (stT d)).names.all fun y => match y.2 with | .free => false | _ => true))))
theorem scAll : (List.range 144).all scB = true := by decide +kernel
theorem ckAll : (List.range 144).all chkD = true := by decide +kernel
theorem scope_ok {d : Nat} (h : scB d = true) : FnScope (nmL.getD d []) (nms.ps d) (defScope (stT d)) := by
  unfold scB at h
  simp only [Bool.and_eq_true, List.all_eq_true] at h
  obtain ⟨h1, ⟨h2, h3⟩, h4, h5, h6, h7⟩ := h
  refine ⟨?_, by simpa using h2, by simpa using h3, of_decide_eq_true h4, of_decide_eq_true h5, fun x hx => ?_, fun y hy e => ?_⟩
  · split at h1
    · assumption
    · cases h1
  · have z := h6 x hx
    split at z
    · exact .inl (by assumption)
    · exact .inr (by assumption)
    · cases z
  · have z := h7 y hy
    rw [e] at z
    cases z
/-! ### the facts, read -/
section
variable {K : PySem.W.Frag} {cas fas das : List Nat}
theorem clsAll_at : ∀ {xs : List Str} {Cs : List Nat} {cis : List ClsI}, clsAll K fas xs Cs cis = true → ∀ (c : Nat) (ci : ClsI), cis[c]? = some ci → clsB K fas (xs.getD c "") (Cs.getD c 0) ci = true
  | [], [], [], _, c, ci, e => by simp at e
  | x :: xs, C :: Cs, ci :: cis, h, c, ci', e => by
    obtain ⟨h1, h2⟩ := ba (show (clsB K fas x C ci && clsAll K fas xs Cs cis) = true from h)
    cases c with
    | zero => cases e; exact h1
    | succ c => exact clsAll_at h2 c ci' (by simpa using e)
  | [], [], _ :: _, h, _, _, _ => by cases h
  | [], _ :: _, _, h, _, _, _ => by cases h
  | _ :: _, [], _, h, _, _, _ => by cases h
  | _ :: _, _ :: _, [], h, _, _, _ => by cases h
theorem globAll_at : ∀ {xs : List Str} {vs : List D}, globAll K xs vs = true → ∀ (g : Nat) (x : D), vs[g]? = some x → nsB K mainGlobals (xs.getD g "") x = true
  | [], [], _, g, x, e => by simp at e
  | y :: ys, v :: vs, h, g, x, e => by
    obtain ⟨h1, h2⟩ := ba (show (nsB K mainGlobals y v && globAll K ys vs) = true from h)
    cases g with
    | zero => cases e; exact h1
    | succ g => exact globAll_at h2 g x (by simpa using e)
  | [], _ :: _, h, _, _, _ => by cases h
  | _ :: _, [], h, _, _, _ => by cases h
theorem dictAll_at : ∀ {xs : List Str} {as : List Nat} {vs : List (List (List Nat × D))}, dictAll K xs as vs = true → ∀ (t : Nat) (kvs : List (List Nat × D)), vs[t]? = some kvs →
    ∃ a, as[t]? = some a ∧ PySem.W.nsIn K mainGlobals (xs.getD t "") = some (some (.ref a)) ∧ (kvs.all fun q => nsB K a ⟨q.1.toArray⟩ q.2) = true
  | [], [], [], _, t, kvs, e => by simp at e
  | x :: xs, a :: as, v :: vs, h, t, kvs, e => by
    obtain ⟨h1, h2⟩ := ba (show ((eqO (PySem.W.nsIn K mainGlobals x) (some (some (.ref a))) && v.all fun q => nsB K a ⟨q.1.toArray⟩ q.2) && dictAll K xs as vs) = true from h)
    cases t with
    | zero =>
      cases e
      obtain ⟨h3, h4⟩ := ba h1
      exact ⟨a, rfl, eqO_ok h3, h4⟩
    | succ t =>
      obtain ⟨b, k1, k2, k3⟩ := dictAll_at h2 t kvs (by simpa using e)
      exact ⟨b, by simpa using k1, by simpa using k2, k3⟩
  | [], [], _ :: _, h, _, _, _ => by cases h
  | [], _ :: _, _, h, _, _, _ => by cases h
  | _ :: _, [], _, h, _, _, _ => by cases h
  | _ :: _, _ :: _, [], h, _, _, _ => by cases h
theorem topAll_at : ∀ {os : List (Option Str)} {as : List Nat}, topAll K os as = true → ∀ (d : Nat) (x : Str), os[d]? = some (some x) → PySem.W.nsIn K mainGlobals x = some (some (.ref (as.getD d 0)))
  | [], [], _, d, x, e => by simp at e
  | none :: r, a :: as, h, d, x, e => by
    cases d with
    | zero => cases e
    | succ d => exact topAll_at (show topAll K r as = true from h) d x (by simpa using e)
  | some y :: r, a :: as, h, d, x, e => by
    obtain ⟨h1, h2⟩ := ba (show (eqO (PySem.W.nsIn K mainGlobals y) (some (some (.ref a))) && topAll K r as) = true from h)
    cases d with
    | zero => cases e; exact eqO_ok h1
    | succ d => exact topAll_at h2 d x (by simpa using e)
  | [], _ :: _, h, _, _, _ => by cases h
  | none :: _, [], h, _, _, _ => by cases h
  | some _ :: _, [], h, _, _, _ => by cases h
theorem look2_mem {m d : Nat} : ∀ {l : List (Nat × Nat)}, look2 m l = some d → (m, d) ∈ l
  | [], e => by cases e
  | (g, x) :: r, e => by
    have e2 : (match Nat.beq g m with | true => some x | false => look2 m r) = some d := e
    split at e2
    · rename_i q
      cases e2
      rw [Nat.eq_of_beq_eq_true q]
      exact List.mem_cons_self
    · exact List.mem_cons_of_mem _ (look2_mem e2)
theorem lookS_mem {l : List Nat} {x : D} : ∀ {kvs : List (List Nat × D)}, lookS l kvs = some x → (l, x) ∈ kvs
  | [], e => by cases e
  | (g, y) :: r, e => by
    have e2 : (match decide (g = l) with | true => some y | false => lookS l r) = some x := e
    split at e2
    · rename_i q
      cases e2
      rw [of_decide_eq_true q]
      exact List.mem_cons_self
    · exact List.mem_cons_of_mem _ (lookS_mem e2)
variable {L : Lay}
theorem flatB_ok {x : D} {u : Value} (h : flatB x u = true) : ∃ v, RelV v u ∧ ∀ Hf, Rep K L Hf x v := by
  cases x with
  | int i => cases u with
    | int j t =>
      have e : j = i := of_decide_eq_true h
      exact ⟨.int i, ⟨t, by rw [e]⟩, fun Hf => .int i⟩
    | _ => cases h
  | str l => cases u with
    | str y t =>
      have e : y = ⟨l.toArray⟩ := of_decide_eq_true h
      exact ⟨.str ⟨l.toArray⟩, ⟨t, by rw [e]⟩, fun Hf => .str l⟩
    | _ => cases h
  | _ => cases u <;> cases h
theorem flatAll_ok : ∀ {ds : List D} {us : List Value}, flatAll ds us = true → ∃ vs, Vals vs us ∧ ∀ Hf, Reps K L Hf ds vs
  | [], [], _ => ⟨[], .nil, fun _ => .nil⟩
  | d :: ds, u :: us, h => by
    obtain ⟨h1, h2⟩ := ba (show (flatB d u && flatAll ds us) = true from h)
    obtain ⟨v, r1, q1⟩ := flatB_ok (K := K) (L := L) h1
    obtain ⟨vs, r2, q2⟩ := flatAll_ok h2
    exact ⟨v :: vs, .cons r1 r2, fun Hf => .cons (q1 Hf) (q2 Hf)⟩
  | [], _ :: _, h => by cases h
  | _ :: _, [], h => by cases h
theorem dB_ok {x : D} {u : Value} (h : dB K x u = true) : ∃ v, RelV v u ∧ ∀ Hf, Rep K L Hf x v := by
  cases x with
  | tup ds =>
    cases u with
    | ref a =>
      have h2 : (match K.lookup a with
        | some ⟨.type c, _, .seq its _, _⟩ => decide (c = "tuple") && (decide (its.size ≤ sizeLine) && flatAll ds its.toList)
        | _ => false) = true := h
      split at h2
      · rename_i c od its n sl q
        obtain ⟨h3, h4⟩ := ba h2
        obtain ⟨h5, h6⟩ := ba h4
        obtain ⟨vs, r1, r2⟩ := flatAll_ok (K := K) (L := L) h6
        have e1 : c = "tuple" := of_decide_eq_true h3
        have hz : its.size ≤ sizeLine := of_decide_eq_true h5
        subst e1
        refine ⟨.ref a, rfl, fun Hf => .tup (.inr ⟨_, its, n, q, rfl, rfl, hz, r1⟩) ?_ (r2 Hf)⟩
        rw [r1.length]
        simpa using hz
      · cases h2
    | _ => cases h
  | _ => exact flatB_ok h
theorem nsB_ok {a : Addr} {k : Str} {x : D} (h : nsB K a k x = true) : ∃ u v, PySem.W.nsIn K a k = some (some u) ∧ RelV v u ∧ ∀ Hf, Rep K L Hf x v := by
  unfold nsB at h
  split at h
  · rename_i u q
    obtain ⟨v, r1, r2⟩ := dB_ok (L := L) h
    exact ⟨u, v, q, r1, r2⟩
  · cases h
end
theorem pl_ok {K : PySem.W.Frag} {C : Addr} (h : plB K C = true) : Cls K C := by
  obtain ⟨c1, c⟩ := ba h
  obtain ⟨c2, c⟩ := ba c
  obtain ⟨c3, c4⟩ := ba c
  exact ⟨c1, c2, c3, eqO_ok c4⟩
theorem top_ok {w : World} {K : PySem.W.Frag} {h : Heap} {mg : Str → Option Value} (X : K.In h) (G : h.Ns mainGlobals mg) {cas fas das : List Nat} (ok : okB K cas fas das = true)
    (fn : ∀ (d a : Nat) (p : At × Str × Str), fas[d]? = some a → atL[d]? = some p → FnFact K a p d) (hl : fas.length = atL.length) (hd : (das.map fun a => dicW K a) = prog.dicts.map fun kvs => some (keysIn w.params (dkeys kvs))) : TopOk w K mg (layK K cas fas) := by
  unfold okB at ok
  obtain ⟨okc, ok⟩ := ba ok
  obtain ⟨okg, ok⟩ := ba ok
  obtain ⟨okd, ok⟩ := ba ok
  obtain ⟨okt, ok⟩ := ba ok
  obtain ⟨oki, ok⟩ := ba ok
  obtain ⟨okk, okf⟩ := ba ok
  have tb := tabB_ok
  unfold tabB at tb
  obtain ⟨tb1, tb⟩ := ba tb
  obtain ⟨tb2, tb⟩ := ba tb
  obtain ⟨tb3, tb4⟩ := ba tb
  have CL : ∀ (c : Nat) (ci : ClsI), prog.cls[c]? = some ci → clsB K fas (nms.cnm c) (cas.getD c 0) ci = true := fun c ci e => clsAll_at okc c ci e
  have flds : ∀ c ci, prog.cls[c]? = some ci → (layK K cas fas).flds c = ci.flds := fun c ci e => by
    unfold Lay.flds
    show (match prog.cls[c]? with | some ci => ci.flds | none => []) = _
    rw [e]
  have fldsI : ∀ {c f}, f ∈ (layK K cas fas).flds c → ∃ ci, prog.cls[c]? = some ci ∧ f ∈ ci.flds := fun {c f} hf => by
    cases e : prog.cls[c]? with
    | none =>
      have z : (layK K cas fas).flds c = [] := by
        unfold Lay.flds
        show (match prog.cls[c]? with | some ci => ci.flds | none => []) = _
        rw [e]
      rw [z] at hf
      cases hf
    | some ci => exact ⟨ci, rfl, by rw [← flds c ci e]; exact hf⟩
  have lk : ∀ d, fas.getD d 0 = fas.getD d 0 := fun _ => rfl
  have fnA : ∀ d I, prog.defs[d]? = some I → ∃ p, atL[d]? = some p ∧ FnFact K (fas.getD d 0) p d ∧ d < 144 := fun d I e => by
    have hlt : d < 144 := by rw [← len_d.1]; exact (List.getElem?_eq_some_iff.mp e).1
    have h1 : d < atL.length := by rw [len_d.2.1]; exact hlt
    have h2 : d < fas.length := by rw [hl]; exact h1
    refine ⟨atL[d], List.getElem?_eq_getElem h1, ?_, hlt⟩
    have e3 : fas[d]? = some (fas.getD d 0) := by rw [List.getD_eq_getElem?_getD, List.getElem?_eq_getElem h2]; rfl
    exact fn d _ _ e3 (List.getElem?_eq_getElem h1)
  have fdOf : ∀ {a p d}, FnFact K a p d → ∃ oc od kV doc pm an cdv ct osl, ffdK K a = PySem.W.fnOf p.2.1 p.2.2 (defArgs (stT d)) (defBody (stT d)) (defScope (stT d)) .none kV doc pm an cdv ct ∧ K.lookup a = some ⟨oc, od, .func (ffdK K a), osl⟩ ∧ PySem.W.codeIn K cdv p.2.2 = true := fun {a p d} ⟨oc, od, kV, doc, pm, an, cdv, ct, osl, q, cc⟩ => by
    have e : ffdK K a = PySem.W.fnOf p.2.1 p.2.2 (defArgs (stT d)) (defBody (stT d)) (defScope (stT d)) .none kV doc pm an cdv ct := by
      unfold ffdK
      rw [q]
    exact ⟨oc, od, kV, doc, pm, an, cdv, ct, osl, e, by rw [e]; exact q, cc⟩
  have kpf : ∀ {a p d}, FnFact K a p d → PySem.W.keepIn K (.ref a) = true := fun {a p d} ⟨oc, od, kV, doc, pm, an, cdv, ct, osl, q, cc⟩ => by
    simp only [PySem.W.keepIn, q]
  refine ⟨{
    cls := fun c ci e => ?cls
    glc := fun c ci e => ?glc
    mki := fun c ci d e ei => ?mki
    mk0 := fun c ci e ei => ?mk0
    noat := fun c f hf => ?noat
    inj := fun c f g hf hg e => ?inj
    meth := fun c ci m d e em => ?meth
    prop := fun c ci m d e em => ?prop
    mks := fun c ci m d e em => ?mks
    base := fun c ci d e ei => ?base
    bind := fun d I e => ?bind
    gld := fun d x e => ?gld
    glob := fun g x e => ?glob
    dict := fun t kvs e => ?dict
    isT := fun k hk => ?isT
    isK := fun k c hk hc => ?isK
    free := fun x hx => PySem.W.mg_none_of X G (eqO_ok (List.all_eq_true.mp okf x hx))
    dbgc := fun c => getD_all dbg_c c
    dbgd := fun d x e => ?dbgd
    dbgg := fun g => getD_all dbg_g g
    dbgt := fun t => getD_all dbg_t t }, fun d I e => ?defs⟩
  case cls =>
    obtain ⟨_, z⟩ := ba (CL c ci e)
    exact pl_ok (ba z).1
  case glc => exact PySem.W.mg_of X G (eqO_ok (ba (CL c ci e)).1)
  case mki =>
    obtain ⟨_, z⟩ := ba (CL c ci e)
    obtain ⟨_, z⟩ := ba z
    obtain ⟨z, _⟩ := ba z
    rw [ei] at z
    have z : mkB K (cas.getD c 0) (fas.getD d 0) = true := z
    obtain ⟨z1, z⟩ := ba z
    obtain ⟨z2, z⟩ := ba z
    obtain ⟨z3, z⟩ := ba z
    obtain ⟨z4, z⟩ := ba z
    exact ⟨z1, eqO_ok z2, z3, z4⟩
  case mk0 =>
    obtain ⟨_, z⟩ := ba (CL c ci e)
    obtain ⟨_, z⟩ := ba z
    obtain ⟨z, _⟩ := ba z
    rw [ei] at z
    have z : mk0B K (cas.getD c 0) = true := z
    obtain ⟨z1, z⟩ := ba z
    obtain ⟨z2, z3⟩ := ba z
    exact ⟨z1, eqO_ok z2, z3⟩
  case noat =>
    obtain ⟨ci, e, hf⟩ := fldsI hf
    obtain ⟨_, z⟩ := ba (CL c ci e)
    obtain ⟨_, z⟩ := ba z
    obtain ⟨_, z⟩ := ba z
    obtain ⟨z, _⟩ := ba z
    exact eqO_ok (List.all_eq_true.mp z f hf)
  case inj =>
    obtain ⟨ci, e1, hf⟩ := fldsI hf
    rw [flds c ci e1] at hg
    have z := List.all_eq_true.mp (List.all_eq_true.mp (List.all_eq_true.mp tb1 ci (List.mem_of_getElem? e1)) f hf) g hg
    have e : nms.anm f = nms.anm g := e
    rw [e] at z
    simp at z
    exact z
  case meth =>
    have hm := look2_mem em
    obtain ⟨_, z⟩ := ba (CL c ci e)
    obtain ⟨_, z⟩ := ba z
    obtain ⟨_, z⟩ := ba z
    obtain ⟨_, z⟩ := ba z
    obtain ⟨z, _⟩ := ba z
    have z := List.all_eq_true.mp z _ hm
    have z : methB K (cas.getD c 0) (nms.anm m) (fas.getD d 0) = true := z
    obtain ⟨z1, z⟩ := ba z
    obtain ⟨z2, z3⟩ := ba z
    refine ⟨⟨eqO_ok z1, z2, z3⟩, fun f hf => ?_⟩
    rw [flds c ci e] at hf
    have y := List.all_eq_true.mp (List.all_eq_true.mp tb2 ci (List.mem_of_getElem? e)) _ hm
    have y := List.all_eq_true.mp (ba y).1 f hf
    intro q
    have q : nms.anm f = nms.anm m := q
    rw [q] at y
    simp at y
  case prop =>
    have hm := look2_mem em
    obtain ⟨_, z⟩ := ba (CL c ci e)
    obtain ⟨_, z⟩ := ba z
    obtain ⟨_, z⟩ := ba z
    obtain ⟨_, z⟩ := ba z
    obtain ⟨_, z⟩ := ba z
    have z := List.all_eq_true.mp z _ hm
    have z : propB K (cas.getD c 0) (nms.anm m) (fas.getD d 0) = true := z
    unfold propB at z
    split at z
    · rename_i p q
      obtain ⟨z1, z⟩ := ba z
      obtain ⟨z2, z3⟩ := ba z
      refine ⟨p, q, eqO_ok z1, of_decide_eq_true z2, ?_⟩
      split at z3
      · rename_i g rest q2
        have e5 : g = fas.getD d 0 := of_decide_eq_true z3
        subst e5
        exact ⟨rest, q2⟩
      · cases z3
    · cases z
  case mks =>
    have y : (nms.ks d).isEmpty = true := by
      rcases em with em | em
      · exact (ba (List.all_eq_true.mp (List.all_eq_true.mp tb2 ci (List.mem_of_getElem? e)) _ (look2_mem em))).2
      · exact List.all_eq_true.mp (List.all_eq_true.mp tb3 ci (List.mem_of_getElem? e)) _ (look2_mem em)
    exact List.isEmpty_iff.mp y
  case base =>
    obtain ⟨_, z⟩ := ba (CL c ci e)
    obtain ⟨_, z⟩ := ba z
    obtain ⟨z, _⟩ := ba z
    rw [ei] at z
    have z : mkB K (cas.getD c 0) (fas.getD d 0) = true := z
    obtain ⟨_, z⟩ := ba z
    obtain ⟨_, z⟩ := ba z
    obtain ⟨_, z⟩ := ba z
    obtain ⟨_, z⟩ := ba z
    obtain ⟨z5, z⟩ := ba z
    obtain ⟨z6, z⟩ := ba z
    obtain ⟨z7, z8⟩ := ba z
    refine ⟨.type "type", ⟨z6, eqO_ok z7⟩, ⟨?_, rfl⟩, z5⟩
    unfold cfB at z8
    split at z8
    · rename_i a q
      have e5 : a = fas.getD d 0 := of_decide_eq_true z8
      subst e5
      exact q
    · cases z8
  case bind =>
    obtain ⟨p, e1, F, hlt⟩ := fnA d I e
    obtain ⟨oc, od, kV, doc, pm, an, cdv, ct, osl, e2, _, _⟩ := fdOf F
    obtain ⟨n, m, b, h1, h2⟩ := bpAll d hlt
    intro s us ws hu hw
    have hw2 : ws.length = m := by rw [h2]; exact hw
    have hu2 : us.length = n := by
      have hu : us.length + (nms.ks d).length = (nms.ps d).length := hu
      omega
    show BindsTo s (ffdK K (fas.getD d 0)) _ _
    rw [e2]
    exact .of_eq (b _ _ _ _ _ _ _ _ us ws hu2 hw2)
  case gld =>
    have e2 : dnmL[d]? = some (some x) := by
      have e : dnmL.getD d none = some x := e
      rw [List.getD_eq_getElem?_getD] at e
      cases q : dnmL[d]? with
      | none => rw [q] at e; cases e
      | some o => rw [q] at e; exact congrArg some e
    refine ⟨PySem.W.mg_of X G (topAll_at okt d x e2), ?_⟩
    have hlt : d < 144 := by rw [← len_d.2.2]; exact (List.getElem?_eq_some_iff.mp e2).1
    have h3 : d < prog.defs.length := by rw [len_d.1]; exact hlt
    obtain ⟨p, e1, F, _⟩ := fnA d _ (List.getElem?_eq_getElem h3)
    exact kpf F
  case glob =>
    obtain ⟨u, v, h1, h2, h3⟩ := nsB_ok (L := layK K cas fas) (globAll_at okg g x e)
    exact ⟨u, v, PySem.W.mg_of X G h1, h2, h3⟩
  case dict =>
    obtain ⟨a, h1, h2, h3⟩ := dictAll_at okd t kvs e
    have e2 : (das.map fun a => dicW K a)[t]? = (prog.dicts.map fun kvs => some (keysIn w.params (dkeys kvs)))[t]? := by rw [hd]
    have e : prog.dicts[t]? = some kvs := e
    rw [List.getElem?_map, List.getElem?_map, h1, e] at e2
    obtain ⟨es, n, kd⟩ := He.dicW_ok (Option.some.inj e2)
    refine ⟨a, es, n, PySem.W.mg_of X G h2, kd, fun l x hx => ?_⟩
    exact nsB_ok (List.all_eq_true.mp h3 _ (lookS_mem hx))
  case isT =>
    obtain ⟨z1, z⟩ := ba (List.all_eq_true.mp oki k hk)
    obtain ⟨z2, z⟩ := ba z
    obtain ⟨z3, z4⟩ := ba z
    refine ⟨⟨eqO_ok z1, eqO_ok z2, of_decide_eq_true z3, of_decide_eq_true z4⟩, ?_⟩
    have hk2 : k < prog.cls.length := Nat.le_of_ble_eq_true (List.all_eq_true.mp tb4 k hk)
    obtain ⟨_, z⟩ := ba (CL k _ (List.getElem?_eq_getElem hk2))
    exact pl_ok (ba z).1
  case isK =>
    refine ⟨of_decide_eq_true (List.all_eq_true.mp (List.all_eq_true.mp okk k hk) c hc), ?_⟩
    have hk2 : c < prog.cls.length := Nat.le_of_ble_eq_true (List.all_eq_true.mp tb4 c hc)
    exact PySem.W.mg_of X G (eqO_ok (ba (CL c _ (List.getElem?_eq_getElem hk2))).1)
  case dbgd =>
    have e : dnmL.getD d none = some x := e
    rw [List.getD_eq_getElem?_getD] at e
    cases q : dnmL[d]? with
    | none => rw [q] at e; cases e
    | some o =>
      rw [q] at e
      have e : o = some x := e
      subst e
      have z := List.all_eq_true.mp dbg_d _ (List.mem_of_getElem? q)
      have z : noDbg x = true := z
      unfold noDbg at z
      simpa using z
  case defs =>
    obtain ⟨p, e1, F, hlt⟩ := fnA d I e
    obtain ⟨oc, od, kV, doc, pm, an, cdv, ct, osl, e2, q, cc⟩ := fdOf F
    have c1 := List.all_eq_true.mp scAll d (List.mem_range.mpr hlt)
    have c2 := List.all_eq_true.mp ckAll d (List.mem_range.mpr hlt)
    exact ⟨⟨p.2.1, p.2.2, defArgs (stT d), defBody (stT d), defScope (stT d), [], [], nmL.getD d [], ⟨⟨oc, od, .none, kV, doc, pm, an, cdv, ct, osl, e2, q, cc, .inl ⟨rfl, rfl⟩, .inl rfl⟩, kpf F⟩, scope_ok c1, c2⟩⟩
end K24
/-! K24End: the row, under the plain law. -/
set_option Elab.async false
set_option linter.all false
set_option maxRecDepth 100000
set_option maxHeartbeats 0
namespace K24
open PySem PySem.Spec PyProof.Rows L2
/-- the promise of the law's def -/
def spLaw (K : PySem.W.Frag) : Sp := fun vs H Q _ => ∃ (a : Addr) (ns : List Int), vs = [.ref a] ∧ ns.length ≤ 63 ∧ SqL K H a (ns.map V.int) ∧ ∀ H', Q (.bl true) H'
def Plain (n : Nat) : Prop := ∀ ns : List Int, ns.length ≤ 63 → ∃ h', callF prog n 51 [.d (.scr ns)] [] = some (.bl true, h')
theorem law_ok {P : Program} {w : World} {K : PySem.W.Frag} {mg : Str → Option Value} {base : Heap} {cas fas : List Nat} {n : Nat} (T : TopOk w K mg (layK K cas fas)) (pl : Plain n) :
    FnOk P w K mg base CX0 (2 * n) (fas.getD 51 0) (ffdK K (fas.getD 51 0)) (nms.ps 51) (spLaw K) := by
  have hI : ∃ I, prog.defs[51]? = some I := Option.isSome_iff_exists.mp (by decide +kernel)
  obtain ⟨I, hI⟩ := hI
  have F : FnOk P w K mg base CX0 (2 * n) (fas.getD 51 0) (ffdK K (fas.getD 51 0)) (nms.ps 51) (spI K (layK K cas fas) n 51) := all_ok T n 51 I hI
  refine F.imp fun vs H Q E h => ?_
  obtain ⟨a, ns, rfl, hl, hS, hQ⟩ := h
  obtain ⟨h', e⟩ := pl ns hl
  have hz : ns.length ≤ sizeLine := by rw [sizeLine_eq]; omega
  refine ⟨fun _ => none, H, [], [.d (.scr ns)], [], .bl true, h', ⟨Same.refl _, fun _ _ z => (nomatch z), rfl, List.nodup_nil, fun _ z => (nomatch z), fun m o a z => (by simp at z)⟩, .cons (.d (.scr hS hz)) .nil, e, fun Hg H' x _ _ r => ?_⟩
  cases r
  exact hQ H'
theorem room_ok : Room 80 callerA := ⟨rfl, by decide, by decide⟩
end K24
open PySem PySem.W PySem.Calls PyProof.Rows
theorem K24.holds {n : Nat} (hn : n ≤ 40) (pl : K24.Plain n) : PySem.Challenge.rw_surenear_k24_whole_bounds_are_safe.Holds := by
  w_on; o_law
  refine HandSHeadRun.head_any (r := K24.R) (q := K24.qV) (H := K24.hookK) (ob := K24.obT) (M := 20000) (loose := K24.looseL) (d := HandSHeadRun.topDef K24.R.prog 114) (kwd := []) K24.obT_eq
    (by kernel_rfl) (fun s => by kernel_rfl) K24.run (by kernel_rfl) (by kernel_rfl) (by kernel_rfl) (by rfl) (by first | assumption | decide +kernel) (by decide +kernel) ⟨rfl, rfl, rfl, rfl, rfl, by decide +kernel⟩ ?hw ?hc
  case hw => w_witness2
  case hc =>
    refine L2.walk_ofE (l := PySem.Challenge.rw_surenear_k24_whole_bounds_are_safe) (n := 63) (k := 2 * n) (x := "_law_script") (CX := L2.CX0) rfl (by decide) (by kernel_rfl) (K24.room_ok.mono (show 2 * n ≤ 80 by omega)) ?F (fun _ _ _ _ z => z)
    intro w mg fa h Y G hmg0
    obtain ⟨K, KX, cas, fas, das, c1, c2, c3, c4⟩ := Y
    have T := K24.top_ok KX G c1 c2 c3 c4
    have hmg : mg ("law" : PySem.Str) = some (.ref fa) := by
      have e : (HandSHeadRun.topDef K24.R.prog 114).name = ("law" : PySem.Str) := by kernel_rfl
      rw [← e]
      exact hmg0
    obtain ⟨hl, hk⟩ := T.tok.gld 51 "law" (by show K24.dnmL.getD 51 none = _; decide +kernel)
    rw [hmg] at hl
    cases hl
    have hI : ∃ I, K24.prog.defs[51]? = some I := Option.isSome_iff_exists.mp (by decide +kernel)
    obtain ⟨I, hI⟩ := hI
    have hb := T.tok.bind 51 I hI
    have hks : K24.nms.ks 51 = [] := by decide +kernel
    have hps : K24.nms.ps 51 = [("_law_script" : PySem.Str)] := by decide +kernel
    refine ⟨K, K24.ffdK K (fas.getD 51 0), K24.spLaw K, KX, fun s u => ?_, fun H a ns hl _ hS => ⟨a, ns, rfl, hl, hS, fun _ => rfl⟩, fun base _ _ => ?_⟩
    · have hb : K24.BindA (K24.ffdK K (fas.getD 51 0)) (K24.nms.ps 51) (K24.nms.ks 51) := hb
      rw [hks, hps] at hb
      exact hb s [u] [] rfl rfl
    · have z := K24.law_ok (P := (PySem.Challenge.rw_surenear_k24_whole_bounds_are_safe).prog) (base := base) (n := n) T pl
      rw [hps] at z
      exact z
/-! K24P0: the evaluator's equations, for reckoning by simp. -/
set_option Elab.async false
set_option linter.all false
set_option maxRecDepth 100000
set_option maxHeartbeats 1000000
namespace K24
theorem un {k d : Nat} {I : DefI} (e : prog.defs[d]? = some I) (vs : List AV) (h : Hs) : callF prog (k + 1) d vs h = runB prog (callF prog k) I vs h := by
  show bnd (prog.defs[d]?) (fun I => runB prog (callF prog k) I vs h) = _
  rw [e]
  rfl
theorem bool_if {α : Type} (b : Bool) (x : Option α) : (match b with | true => x | false => none) = if b = true then x else none := by cases b <;> rfl
theorem ble_if {α : Type} (a b : Nat) (x : Option α) : (match Nat.ble a b with | true => x | false => none) = if a ≤ b then x else none := by
  rw [bool_if]
  simp only [Nat.ble_eq]
theorem blt_if {α : Type} (a b : Nat) (x : Option α) : (match Nat.blt a b with | true => x | false => none) = if a < b then x else none := by
  rw [bool_if]
  simp only [Nat.blt_eq]
@[simp] theorem bnd_some {α β : Type} (a : α) (f : α → Option β) : bnd (some a) f = f a := rfl
@[simp] theorem bnd_none {α β : Type} (f : α → Option β) : bnd none f = none := rfl
@[simp] theorem bnd_ite {α β : Type} {c : Prop} [Decidable c] (a b : Option α) (f : α → Option β) : bnd (if c then a else b) f = if c then bnd a f else bnd b f := by split <;> rfl
abbrev iI (i : Int) : AV := .d (.int i)
abbrev bB (b : Bool) : AV := .d (.bl b)
abbrev sS (l : List Nat) : AV := .d (.str l)
def iT (l : List Int) : D := .tup (l.map .int)
abbrev iV (l : List Int) : AV := .d (iT l)
@[simp] theorem toD_d (x : D) : toD (.d x) = some x := rfl
@[simp] theorem toDs_nil : toDs [] = some [] := rfl
@[simp] theorem toDs_cons (v : AV) (vs : List AV) : toDs (v :: vs) = bnd (toD v) fun x => bnd (toDs vs) fun xs => some (x :: xs) := rfl
@[simp] theorem look_d (h : Hs) (x : D) : look h (.d x) = some x := rfl
@[simp] theorem frz_d (h : Hs) (x : D) : frz h (.d x) = some (x, h) := rfl
@[simp] theorem frzs_nil (h : Hs) : frzs h [] = some ([], h) := rfl
@[simp] theorem frzs_cons (h : Hs) (v : AV) (vs : List AV) : frzs h (v :: vs) = bnd (frz h v) fun p => bnd (frzs p.2 vs) fun q => some (p.1 :: q.1, q.2) := rfl
@[simp] theorem boolD_bl (b : Bool) : boolD (.bl b) = some b := rfl
/-! ### operators -/
@[simp] theorem bin_addI (a b : Int) : bin .add (.int a) (.int b) = some (.int (a + b)) := rfl
@[simp] theorem bin_addL (a b : List D) : bin .add (.lst a) (.lst b) = if a.length + b.length ≤ line then some (.lst (a ++ b)) else none := ble_if _ _ _
@[simp] theorem bin_addS (a b : List Nat) : bin .add (.str a) (.str b) = if a.length + b.length ≤ line then some (.str (a ++ b)) else none := ble_if _ _ _
@[simp] theorem bin_sub (a b : Int) : bin .sub (.int a) (.int b) = some (.int (a - b)) := rfl
@[simp] theorem bin_mul (a b : Int) : bin .mul (.int a) (.int b) = if mulOk a b = true then some (.int (a * b)) else none := bool_if _ _
@[simp] theorem bin_fdiv (a b : Int) : bin .fdiv (.int a) (.int b) = if b ≠ 0 ∧ b.natAbs < 1073741824 then some (.int (a.fdiv b)) else none := by
  refine (bool_if _ _).trans ?_
  simp
@[simp] theorem bin_mod (a b : Int) : bin .mod (.int a) (.int b) = if b ≠ 0 then some (.int (a.fmod b)) else none := by
  refine (bool_if _ _).trans ?_
  simp
@[simp] theorem cmp_eqI (a b : Int) : cmpD .eq (.int a) (.int b) = some (decide (a = b)) := rfl
@[simp] theorem cmp_eqS (a b : List Nat) : cmpD .eq (.str a) (.str b) = some (decide (a = b)) := rfl
@[simp] theorem cmp_eqB (a b : Bool) : cmpD .eq (.bl a) (.bl b) = some (decide (a = b)) := rfl
@[simp] theorem cmp_neI (a b : Int) : cmpD .ne (.int a) (.int b) = some (!decide (a = b)) := rfl
@[simp] theorem cmp_neS (a b : List Nat) : cmpD .ne (.str a) (.str b) = some (!decide (a = b)) := rfl
@[simp] theorem cmp_ltI (a b : Int) : cmpD .lt (.int a) (.int b) = some (decide (a < b)) := rfl
@[simp] theorem cmp_leI (a b : Int) : cmpD .le (.int a) (.int b) = some (decide (a ≤ b)) := rfl
@[simp] theorem cmp_gtI (a b : Int) : cmpD .gt (.int a) (.int b) = some (decide (b < a)) := rfl
@[simp] theorem cmp_geI (a b : Int) : cmpD .ge (.int a) (.int b) = some (decide (b ≤ a)) := rfl
@[simp] theorem cmp_ltS (a b : List Nat) : cmpD .lt (.str a) (.str b) = some (ltL a b) := rfl
@[simp] theorem cmp_leS (a b : List Nat) : cmpD .le (.str a) (.str b) = some (!ltL b a) := rfl
@[simp] theorem cmp_gtS (a b : List Nat) : cmpD .gt (.str a) (.str b) = some (ltL b a) := rfl
@[simp] theorem cmp_geS (a b : List Nat) : cmpD .ge (.str a) (.str b) = some (!ltL a b) := rfl
@[simp] theorem cmp_isin (x y : D) : cmpD .isin x y = inD x y := rfl
@[simp] theorem cmp_nin (x y : D) : cmpD .nin x y = bnd (inD x y) fun b => some (!b) := rfl
/-! ### expressions -/
section
variable (T : Prog) (call : CallT) (s : Sl) (h : Hs) (a b c : IE)
def andK (v : AV) (f : Option (AV × Hs)) (h : Hs) : Option (AV × Hs) := match v with
  | .d (.bl true) => f
  | .d (.bl false) => some (.d (.bl false), h)
  | _ => none
def orK (v : AV) (f : Option (AV × Hs)) (h : Hs) : Option (AV × Hs) := match v with
  | .d (.bl true) => some (.d (.bl true), h)
  | .d (.bl false) => f
  | _ => none
def iteK (v : AV) (f g : Option (AV × Hs)) : Option (AV × Hs) := match v with
  | .d (.bl true) => f
  | .d (.bl false) => g
  | _ => none
@[simp] theorem andK_bl (b : Bool) (f : Option (AV × Hs)) (h : Hs) : andK (.d (.bl b)) f h = if b = true then f else some (.d (.bl false), h) := by cases b <;> rfl
@[simp] theorem orK_bl (b : Bool) (f : Option (AV × Hs)) (h : Hs) : orK (.d (.bl b)) f h = if b = true then some (.d (.bl true), h) else f := by cases b <;> rfl
@[simp] theorem iteK_bl (b : Bool) (f g : Option (AV × Hs)) : iteK (.d (.bl b)) f g = if b = true then f else g := by cases b <;> rfl
@[simp] theorem ev_var (i : Nat) : ev T call (.var i) s h = (match s[i]? with | some (some v) => some (v, h) | _ => none) := by simp only [ev] <;> rfl
@[simp] theorem ev_lit (d : D) : ev T call (.lit d) s h = some (.d d, h) := by simp only [ev]
@[simp] theorem ev_glob (g : Nat) : ev T call (.glob g) s h = bnd (T.globs[g]?) fun d => some (.d d, h) := by simp only [ev]
@[simp] theorem ev_bin (op : BOp) : ev T call (.bin op a b) s h = bnd (ev T call a s h) fun p => bnd (toD p.1) fun x => bnd (ev T call b s p.2) fun q => bnd (toD q.1) fun y => bnd (bin op x y) fun z => some (.d z, q.2) := by simp only [ev]
def negK (v : AV) (h : Hs) : Option (AV × Hs) := match v with
  | .d (.int i) => some (.d (.int (-i)), h)
  | _ => none
@[simp] theorem negK_int (i : Int) : negK (.d (.int i)) h = some (.d (.int (-i)), h) := rfl
@[simp] theorem ev_neg : ev T call (.neg a) s h = bnd (ev T call a s h) fun p => negK p.1 p.2 := by
  simp only [ev]
  rfl
def notK (v : AV) (h : Hs) : Option (AV × Hs) := match v with
  | .d (.bl b) => some (.d (.bl (!b)), h)
  | _ => none
@[simp] theorem notK_bl (b : Bool) : notK (.d (.bl b)) h = some (.d (.bl (!b)), h) := rfl
@[simp] theorem ev_not : ev T call (.not a) s h = bnd (ev T call a s h) fun p => notK p.1 p.2 := by
  simp only [ev]
  rfl
@[simp] theorem ev_notT : ev T call (.notT a) s h = bnd (ev T call a s h) fun p => notK p.1 p.2 := by
  simp only [ev]
  rfl
@[simp] theorem ev_and : ev T call (.and a b) s h = bnd (ev T call a s h) fun p => andK p.1 (ev T call b s p.2) p.2 := by
  simp only [ev]
  rfl
@[simp] theorem ev_or : ev T call (.or a b) s h = bnd (ev T call a s h) fun p => orK p.1 (ev T call b s p.2) p.2 := by
  simp only [ev]
  rfl
@[simp] theorem ev_ite : ev T call (.ite c a b) s h = bnd (ev T call c s h) fun p => iteK p.1 (ev T call a s p.2) (ev T call b s p.2) := by
  simp only [ev]
  rfl
@[simp] theorem ev_cmp (op : COp) : ev T call (.cmp op a b) s h = bnd (ev T call a s h) fun p => bnd (toD p.1) fun x => bnd (ev T call b s p.2) fun q => bnd (look q.2 q.1) fun y => bnd (cmpD op x y) fun z => some (.d (.bl z), q.2) := by simp only [ev]
@[simp] theorem ev_chain (o1 o2 : COp) : ev T call (.chain o1 o2 a b c) s h = bnd (ev T call a s h) fun p => bnd (toD p.1) fun x => bnd (ev T call b s p.2) fun q => bnd (toD q.1) fun y => bnd (cmpD o1 x y) fun z => if z = true then
    bnd (ev T call c s q.2) fun r => bnd (toD r.1) fun u => bnd (cmpD o2 y u) fun w => some (.d (.bl w), r.2) else some (.d (.bl false), q.2) := by
  simp only [ev]
  congr; funext p; congr; funext x; congr; funext q; congr; funext y; congr; funext z
  cases z <;> rfl
def isnK (v : AV) : Bool := match v with
  | .d .non => true
  | _ => false
@[simp] theorem isnK_non : isnK (.d .non) = true := rfl
@[simp] theorem isnK_int (i : Int) : isnK (.d (.int i)) = false := rfl
@[simp] theorem isnK_str (i : List Nat) : isnK (.d (.str i)) = false := rfl
@[simp] theorem isnK_tup (i : List D) : isnK (.d (.tup i)) = false := rfl
@[simp] theorem ev_isN : ev T call (.isN a) s h = bnd (ev T call a s h) fun p => some (.d (.bl (isnK p.1)), p.2) := by
  simp only [ev]
  congr; funext p
  obtain ⟨v, h⟩ := p
  cases v with
  | ref n => rfl
  | d x => cases x <;> rfl
@[simp] theorem ev_notN : ev T call (.notN a) s h = bnd (ev T call a s h) fun p => some (.d (.bl (!isnK p.1)), p.2) := by
  simp only [ev]
  congr; funext p
  obtain ⟨v, h⟩ := p
  cases v with
  | ref n => rfl
  | d x => cases x <;> rfl
@[simp] theorem ev_call (d : Nat) (as : IL) : ev T call (.call d as) s h = bnd (evs T call as s h) fun p => bnd (call d p.1 p.2) fun q => some (.d q.1, q.2) := by simp only [ev]
def takK (n : Nat) (h' : Hs) : Option (AV × Hs) := match h'[n]? with
  | some (.ins k fs) => some (.d (.ins k fs), h'.take n)
  | _ => none
@[simp] theorem ev_make (k : Nat) (as : IL) : ev T call (.make k as) s h = bnd (evs T call as s h) fun p => bnd (mkI T call k p.1 p.2) fun h' => takK p.2.length h' := by
  simp only [ev]
  rfl
@[simp] theorem ev_make0 (k : Nat) : ev T call (.make0 k) s h = some (.d (.ins k []), h) := by simp only [ev]
@[simp] theorem ev_meth (m : Nat) (as : IL) : ev T call (.meth a m as) s h = bnd (ev T call a s h) fun p => bnd (insOf p.2 p.1) fun q => bnd (T.cls[q.1]?) fun ci => bnd (look2 m ci.meths) fun d => bnd (evs T call as s p.2) fun r => bnd (call d (p.1 :: r.1) r.2) fun z => some (.d z.1, z.2) := by simp only [ev]
@[simp] theorem ev_attr (f : Nat) : ev T call (.attr a f) s h = bnd (ev T call a s h) fun p => bnd (insOf p.2 p.1) fun q => bnd (getF f q.2) fun x => some (.d x, p.2) := by simp only [ev]
@[simp] theorem ev_prop (m : Nat) : ev T call (.prop a m) s h = bnd (ev T call a s h) fun p => bnd (insOf p.2 p.1) fun q => bnd (T.cls[q.1]?) fun ci => bnd (look2 m ci.props) fun d => bnd (call d [p.1] p.2) fun z => some (.d z.1, z.2) := by simp only [ev]
@[simp] theorem ev_blt (k : Blt) (as : IL) : ev T call (.blt k as) s h = bnd (evs T call as s h) fun p => bnd (lookAll p.2 p.1) fun xs => bnd (bltN k xs) fun x => some (.d x, p.2) := by simp only [ev]
@[simp] theorem ev_isin (one : Bool) (cs : List Nat) : ev T call (.isin a one cs) s h = bnd (ev T call a s h) fun p => bnd (toD p.1) fun x => bnd (isA T x cs) fun b => some (.d (.bl b), p.2) := by simp only [ev]
def getK (v : AV) (f : List Nat → Option D) (h : Hs) : Option (AV × Hs) := match v with
  | .d (.str x) => bnd (f x) fun v => some (.d v, h)
  | _ => none
@[simp] theorem getK_str (x : List Nat) (f : List Nat → Option D) : getK (.d (.str x)) f h = bnd (f x) fun v => some (.d v, h) := rfl
@[simp] theorem ev_dget (t : Nat) : ev T call (.dget t a) s h = bnd (ev T call a s h) fun p => getK p.1 (fun x => bnd (T.dicts[t]?) fun kvs => lookS x kvs) p.2 := by
  simp only [ev]
  congr; funext p
  obtain ⟨v, h⟩ := p
  cases v with
  | ref n => rfl
  | d x =>
    cases x <;> try rfl
    simp only [getK]
    cases T.dicts[t]? <;> rfl
@[simp] theorem ev_dnin (t : Nat) : ev T call (.dnin t a) s h = bnd (ev T call a s h) fun p => getK p.1 (fun x => bnd (T.dicts[t]?) fun kvs => bnd (lookS x kvs) fun _ => some (.bl false)) p.2 := by
  simp only [ev]
  congr; funext p
  obtain ⟨v, h⟩ := p
  cases v with
  | ref n => rfl
  | d x =>
    cases x <;> try rfl
    simp only [getK]
    cases T.dicts[t]? with
    | none => rfl
    | some kvs =>
      simp only [bnd_some]
      cases lookS _ kvs <;> rfl
def idxK (v : AV) (x : D) (h : Hs) : Option (AV × Hs) := match v with
  | .d (.int k) => bnd (atD x k) fun v => some (.d v, h)
  | _ => none
@[simp] theorem idxK_int (k : Int) (x : D) : idxK (.d (.int k)) x h = bnd (atD x k) fun v => some (.d v, h) := rfl
@[simp] theorem ev_idx : ev T call (.idx a b) s h = bnd (ev T call a s h) fun p => bnd (ev T call b s p.2) fun q => bnd (look q.2 p.1) fun x => idxK q.1 x q.2 := by
  simp only [ev]
  rfl
@[simp] theorem ev_sl (lo hi : IO) : ev T call (.sl a lo hi) s h = bnd (ev T call a s h) fun p => bnd (toD p.1) fun x => bnd (evo T call lo s p.2) fun q => bnd (evo T call hi s q.2) fun r => bnd (slD x q.1 r.1) fun v => some (.d v, r.2) := by simp only [ev]
@[simp] theorem ev_tup (as : IL) : ev T call (.tup as) s h = bnd (evs T call as s h) fun p => bnd (frzs p.2 p.1) fun q => if q.1.length ≤ 1000 then some (.d (.tup q.1), q.2) else none := by
  simp only [ev]
  congr; funext p; congr; funext q
  exact ble_if _ _ _
@[simp] theorem ev_lst (as : IL) : ev T call (.lst as) s h = bnd (evs T call as s h) fun p => bnd (toDs p.1) fun q => if q.length ≤ 1000 then some (.d (.lst q), p.2) else none := by
  simp only [ev]
  congr; funext p; congr; funext q
  exact ble_if _ _ _
def CB (T : Prog) (call : CallT) (e : IE) (tg : Tg) (c : IO) (s : Sl) (x : D) (h : Hs) : Option (Option D × Hs) := bnd (setT tg x (wipeS s tg.slots)) fun s' => bnd (evc T call c s' h) fun t => match t.1 with
  | true => bnd (ev T call e s' t.2) fun q => bnd (toD q.1) fun y => some (some y, q.2)
  | false => some (none, t.2)
@[simp] theorem ev_comp (tg : Tg) (it : II) (c : IO) : ev T call (.comp a tg it c) s h = bnd (evi T call it s h) fun p => bnd (compL (CB T call a tg c s) p.1 p.2) fun q => some (.d (.lst q.1), q.2) := by
  simp only [ev]
  rfl
@[simp] theorem evs_nil : evs T call .nil s h = some ([], h) := by simp only [evs]
@[simp] theorem evs_cons (r : IL) : evs T call (.cons a r) s h = bnd (ev T call a s h) fun p => bnd (evs T call r s p.2) fun q => some (p.1 :: q.1, q.2) := by simp only [evs]
@[simp] theorem evo_no : evo T call .no s h = some (none, h) := by simp only [evo]
@[simp] theorem evc_no : evc T call .no s h = some (true, h) := by simp only [evc]
def oK (v : AV) (h : Hs) : Option (Option Int × Hs) := match v with
  | .d (.int i) => some (some i, h)
  | _ => none
@[simp] theorem oK_int (i : Int) : oK (.d (.int i)) h = some (some i, h) := rfl
@[simp] theorem evo_yes : evo T call (.yes a) s h = bnd (ev T call a s h) fun p => oK p.1 p.2 := by
  simp only [evo]
  rfl
def cK (v : AV) (h : Hs) : Option (Bool × Hs) := match v with
  | .d (.bl b) => some (b, h)
  | _ => none
@[simp] theorem cK_bl (b : Bool) : cK (.d (.bl b)) h = some (b, h) := rfl
@[simp] theorem evc_yes : evc T call (.yes a) s h = bnd (ev T call a s h) fun p => cK p.1 p.2 := by
  simp only [evc]
  rfl
@[simp] theorem evi_val : evi T call (.val a) s h = bnd (ev T call a s h) fun p => bnd (toD p.1) fun x => bnd (itemsD x) fun xs => some (xs, p.2) := by simp only [evi]
@[simp] theorem evi_rng : evi T call (.rng a) s h = bnd (ev T call a s h) fun p => bnd (toD p.1) fun x => bnd (rngD x) fun xs => some (xs, p.2) := by simp only [evi]
@[simp] theorem evi_zip2 : evi T call (.zip2 a b) s h = bnd (ev T call a s h) fun p => bnd (toD p.1) fun x => bnd (tupD x) fun xs => bnd (ev T call b s p.2) fun q => bnd (toD q.1) fun y => bnd (tupD y) fun ys => some (zipD xs ys, q.2) := by simp only [evi]
@[simp] theorem evi_zip3 : evi T call (.zip3 a b c) s h = bnd (ev T call a s h) fun p => bnd (toD p.1) fun x => bnd (tupD x) fun xs => bnd (ev T call b s p.2) fun q => bnd (toD q.1) fun y => bnd (tupD y) fun ys => bnd (ev T call c s q.2) fun r => bnd (toD r.1) fun z => bnd (tupD z) fun zs => some (zipD3 xs ys zs, r.2) := by simp only [evi]
/-! ### statements -/
@[simp] theorem evb_eq : evb T call a s h = bnd (ev T call a s h) fun p => bnd (toD p.1) fun x => bnd (boolD x) fun b => some (b, p.2) := rfl
variable (x y : IB)
@[simp] theorem ex_set (i : Nat) : ex T call (.set i a) s h = bnd (ev T call a s h) fun p => some (.nx (s.set i (some p.1)) p.2) := by simp only [ex]
@[simp] theorem ex_newl (i : Nat) (as : IL) : ex T call (.newl i as) s h = bnd (evs T call as s h) fun p => bnd (toDs p.1) fun xs => if xs.length ≤ 1000 then some (.nx (s.set i (some (.ref p.2.length))) (p.2 ++ [.lst xs])) else none := by
  simp only [ex]
  congr; funext p; congr; funext q
  exact ble_if _ _ _
@[simp] theorem ex_newo (i k : Nat) (as : IL) : ex T call (.newo i k as) s h = bnd (evs T call as s h) fun p => bnd (mkI T call k p.1 p.2) fun h' => some (.nx (s.set i (some (.ref p.2.length))) h') := by simp only [ex]
def setaK (T : Prog) (f : Nat) (x : D) (n : Nat) (s : Sl) (h : Hs) : Option Fl := match h[n]? with
  | some (.ins c fs) => bnd (T.cls[c]?) fun ci => (match ci.flds.contains f && Nat.ble fs.length 900 with | true => some (.nx s (h.set n (.ins c (putF f x fs)))) | false => none)
  | _ => none
@[simp] theorem ex_seta (i f : Nat) : ex T call (.seta i f a) s h = bnd (ev T call a s h) fun p => bnd (toD p.1) fun x => bnd (refOf s i) fun n => setaK T f x n s p.2 := by
  simp only [ex]
  rfl
def setiK (n : Nat) (x : D) (v : AV) (s : Sl) (h : Hs) : Option Fl := match v, h[n]? with
  | .d (.int j), some (.lst xs) => bnd (ixI xs.length j) fun m => some (.nx s (h.set n (.lst (xs.set m x))))
  | _, _ => none
@[simp] theorem ex_seti (i : Nat) (k : IE) : ex T call (.seti i k a) s h = bnd (ev T call a s h) fun p => bnd (toD p.1) fun x => bnd (refOf s i) fun n => bnd (ev T call k s p.2) fun q => setiK n x q.1 s q.2 := by
  simp only [ex]
  rfl
@[simp] theorem ex_sett (is : List Nat) : ex T call (.sett is a) s h = bnd (ev T call a s h) fun p => bnd (toD p.1) fun x => bnd (setT (.many is) x s) fun s' => some (.nx s' p.2) := by simp only [ex]
def appK (n : Nat) (x : D) (s : Sl) (h : Hs) : Option Fl := match h[n]? with
  | some (.lst xs) => (match Nat.blt xs.length line with | true => some (.nx s (h.set n (.lst (xs ++ [x])))) | false => none)
  | _ => none
@[simp] theorem ex_app (i : Nat) : ex T call (.app i a) s h = bnd (refOf s i) fun n => bnd (isL h n) fun _ => bnd (ev T call a s h) fun p => bnd (toD p.1) fun x => appK n x s p.2 := by
  simp only [ex]
  rfl
@[simp] theorem ex_expr : ex T call (.expr a) s h = bnd (ev T call a s h) fun p => some (.nx s p.2) := by simp only [ex]
@[simp] theorem ex_base (k d : Nat) (as : IL) : ex T call (.base k d as) s h = bnd (evs T call as s h) fun p => bnd (call d p.1 p.2) fun q => some (.nx s q.2) := by simp only [ex]
@[simp] theorem ex_ret : ex T call (.ret a) s h = bnd (ev T call a s h) fun p => bnd (frz p.2 p.1) fun q => some (.rt q.1 q.2) := by simp only [ex]
@[simp] theorem ex_ite : ex T call (.ite a x y) s h = bnd (evb T call a s h) fun p => if p.1 = true then exs T call x s p.2 else exs T call y s p.2 := by
  simp only [ex]
  congr; funext p
  cases p.1 <;> rfl
def WC (T : Prog) (call : CallT) (c : IE) (s : Sl) (h : Hs) : Option (Bool × Hs) := evb T call c s h
def WB (T : Prog) (call : CallT) (b : IB) (s : Sl) (h : Hs) : Option Fl := exs T call b s h
@[simp] theorem ex_whl : ex T call (.whl a x) s h = whlL (WC T call a) (WB T call x) fuelW s h := by
  simp only [ex]
  rfl
def LB (T : Prog) (call : CallT) (tg : Tg) (b : IB) (x : D) (s : Sl) (h : Hs) : Option Fl := bnd (setT tg x s) fun s' => exs T call b s' h
@[simp] theorem ex_loop (tg : Tg) (it : II) : ex T call (.loop tg it x) s h = bnd (evi T call it s h) fun p => forL (LB T call tg x) p.1 s p.2 := by
  simp only [ex]
  rfl
def seqK (f : Fl) (g : Sl → Hs → Option Fl) : Option Fl := match f with
  | .nx s' h' => g s' h'
  | .rt v h' => some (.rt v h')
@[simp] theorem seqK_nx (s : Sl) (h : Hs) (g : Sl → Hs → Option Fl) : seqK (.nx s h) g = g s h := rfl
@[simp] theorem seqK_rt (v : D) (h : Hs) (g : Sl → Hs → Option Fl) : seqK (.rt v h) g = some (.rt v h) := rfl
@[simp] theorem exs_nil : exs T call .nil s h = some (.nx s h) := by simp only [exs]
@[simp] theorem exs_cons (st : IS) : exs T call (.cons st x) s h = bnd (ex T call st s h) fun f => seqK f (exs T call x) := by
  simp only [exs]
  rfl
def endK (n : Nat) (f : Fl) : Option (D × Hs) := match f with
  | .rt v h' => some (v, h'.take n)
  | .nx _ h' => some (.non, h'.take n)
@[simp] theorem endK_nx (n : Nat) (s : Sl) (h : Hs) : endK n (.nx s h) = some (.non, h.take n) := rfl
@[simp] theorem endK_rt (n : Nat) (v : D) (h : Hs) : endK n (.rt v h) = some (v, h.take n) := rfl
@[simp] theorem runB_eq (np ns : Nat) (vs : List AV) : runB T call ⟨np, ns, x⟩ vs h = if vs.length = np then bnd (exs T call x (vs.map some ++ List.replicate (ns - np) none) h) fun f => endK h.length f else none := by
  refine Eq.trans (b := match Nat.beq vs.length np with | true => bnd (exs T call x (vs.map some ++ List.replicate (ns - np) none) h) fun f => endK h.length f | false => none) ?_ ?_
  · unfold runB
    cases Nat.beq vs.length np <;> rfl
  · rw [bool_if]
    simp only [Nat.beq_eq]
end
/-! ### lists of slots -/
@[simp] theorem get_cons0 {α : Type} (x : α) (l : List α) : (x :: l)[0]? = some x := rfl
@[simp] theorem refOf_eq (s : Sl) (i : Nat) : refOf s i = match s[i]? with | some (some (.ref n)) => some n | _ => none := rfl
@[simp] theorem isL_eq (h : Hs) (n : Nat) : isL h n = match h[n]? with | some (.lst _) => some () | _ => none := rfl
@[simp] theorem setT_one (i : Nat) (x : D) (s : Sl) : setT (.one i) x s = some (s.set i (some (.d x))) := rfl
@[simp] theorem setT_many (is : List Nat) (ds : List D) (s : Sl) : setT (.many is) (.tup ds) s = if ds.length = is.length then some (setAll is ds s) else none := by
  refine (bool_if _ _).trans ?_
  simp only [Nat.beq_eq]
@[simp] theorem setAll_nil (ds : List D) (s : Sl) : setAll [] ds s = s := by cases ds <;> rfl
@[simp] theorem setAll_cons (i : Nat) (is : List Nat) (d : D) (ds : List D) (s : Sl) : setAll (i :: is) (d :: ds) s = setAll is ds (s.set i (some (.d d))) := rfl
@[simp] theorem forL_nil (f : D → Sl → Hs → Option Fl) (s : Sl) (h : Hs) : forL f [] s h = some (.nx s h) := rfl
@[simp] theorem forL_cons (f : D → Sl → Hs → Option Fl) (x : D) (xs : List D) (s : Sl) (h : Hs) : forL f (x :: xs) s h = bnd (f x s h) fun r => seqK r (forL f xs) := by
  rfl
@[simp] theorem compL_nil (f : D → Hs → Option (Option D × Hs)) (h : Hs) : compL f [] h = some ([], h) := rfl
theorem compL_cons (f : D → Hs → Option (Option D × Hs)) (x : D) (xs : List D) (h : Hs) : compL f (x :: xs) h = bnd (f x h) fun p => bnd (compL f xs p.2) fun q => some (match p.1 with | some y => y :: q.1 | none => q.1, q.2) := rfl
/-! ### the tables -/
@[simp] theorem insOf_d (h : Hs) (c : Nat) (fs : List (Nat × D)) : insOf h (.d (.ins c fs)) = some (c, fs) := rfl
@[simp] theorem getF_cons (f g : Nat) (x : D) (r : List (Nat × D)) : getF f ((g, x) :: r) = if g = f then some x else getF f r := by
  show (match Nat.beq g f with | true => some x | false => getF f r) = _
  by_cases e : g = f
  · subst e
    rw [if_pos rfl, Nat.beq_refl]
  · cases q : Nat.beq g f with
    | true => exact absurd (Nat.eq_of_beq_eq_true q) e
    | false => rw [if_neg e]
@[simp] theorem lookAll_nil (h : Hs) : lookAll h [] = some [] := rfl
@[simp] theorem lookAll_cons (h : Hs) (v : AV) (vs : List AV) : lookAll h (v :: vs) = bnd (look h v) fun x => bnd (lookAll h vs) fun xs => some (x :: xs) := rfl
@[simp] theorem bltN_one (b : Blt) (x : D) : bltN b [x] = blt1 b x := rfl
@[simp] theorem bltN_two (b : Blt) (x y : D) : bltN b [x, y] = blt2 b x y := rfl
@[simp] theorem nbeq (a b : Nat) : Nat.beq a b = decide (a = b) := by
  by_cases e : a = b
  · subst e
    simp
  · cases q : Nat.beq a b with
    | true => exact absurd (Nat.eq_of_beq_eq_true q) e
    | false => simp [e]
end K24
/-! K24P1: the numbers: dot, distance, differing, root, gap, split. -/
set_option Elab.async false
set_option linter.all false
set_option maxRecDepth 100000
set_option maxHeartbeats 1000000
namespace K24
def dot : List Int → List Int → Int
  | x :: a, y :: b => x * y + dot a b
  | _, _ => 0
def dist : List Int → List Int → Int
  | x :: a, y :: b => (x - y) * (x - y) + dist a b
  | _, _ => 0
def diff : List Int → List Int → Int
  | x :: a, y :: b => (if x = y then 0 else 1) + diff a b
  | _, _ => 0
def Sm (a : List Int) : Prop := ∀ x ∈ a, -1000 ≤ x ∧ x ≤ 1000
theorem Sm.hd {x : Int} {a : List Int} (h : Sm (x :: a)) : -1000 ≤ x ∧ x ≤ 1000 := h x (List.mem_cons_self ..)
theorem Sm.tl {x : Int} {a : List Int} (h : Sm (x :: a)) : Sm a := fun y hy => h y (List.mem_cons_of_mem _ hy)
theorem mul_ok {a b : Int} (h : -1000000000000000000 ≤ a ∧ a ≤ 1000000000000000000) : mulOk a b = true := by
  unfold mulOk
  have : a.natAbs < 18446744073709551616 := by omega
  have e : Nat.blt a.natAbs 18446744073709551616 = true := Nat.ble_eq_true_of_le this
  rw [e]
  rfl
theorem mul_ok2 {a b : Int} (h : -1000000000000000000 ≤ b ∧ b ≤ 1000000000000000000) : mulOk a b = true := by
  unfold mulOk
  have : b.natAbs < 18446744073709551616 := by omega
  have e : Nat.blt b.natAbs 18446744073709551616 = true := Nat.ble_eq_true_of_le this
  rw [e, Bool.or_true]
theorem inner_lp {T : Prog} {call : CallT} {A B : Option AV} {h : Hs} : ∀ {a b : List Int} (t : Int) (o3 o4 : Option AV), Sm a → ∃ o3' o4', forL (LB T call (.many [3, 4]) (.cons (.set 2 (.bin .add (.var 2) (.bin .mul (.var 3) (.var 4)))) .nil)) (zipD (a.map .int) (b.map .int)) [A, B, some (iI t), o3, o4] h =
      some (.nx [A, B, some (iI (t + dot a b)), o3', o4'] h)
  | [], b, t, o3, o4, _ => ⟨o3, o4, by simp [zipD, dot]⟩
  | x :: a, [], t, o3, o4, _ => ⟨o3, o4, by simp [zipD, dot]⟩
  | x :: a, y :: b, t, o3, o4, ha => by
    obtain ⟨p, q, e⟩ := inner_lp (T := T) (call := call) (A := A) (B := B) (h := h) (a := a) (b := b) (t + x * y) (some (iI x)) (some (iI y)) ha.tl
    have hx := ha.hd
    refine ⟨p, q, ?_⟩
    simp only [List.map_cons, zipD, forL_cons]
    simp [LB, mul_ok (a := x) (b := y) (by omega), e, dot, Int.add_assoc]
theorem inner_ok {k : Nat} {a b : List Int} (ha : Sm a) (h : Hs) : callF prog (k + 1) 3 [iV a, iV b] h = some (.int (dot a b), h) := by
  rw [un (d := 3) rfl]
  obtain ⟨p, q, e⟩ := inner_lp (T := prog) (call := callF prog k) (A := some (iV a)) (B := some (iV b)) (h := h) (a := a) (b := b) 0 none none ha
  simp [b_inner, tupD, iT] at e ⊢
  simp [e]
theorem dist_lp {T : Prog} {call : CallT} {A B : Option AV} {h : Hs} : ∀ {a b : List Int} (t : Int) (o3 o4 : Option AV), Sm a → Sm b → ∃ o3' o4', forL (LB T call (.many [3, 4]) (.cons (.set 2 (.bin .add (.var 2) (.bin .mul (.bin .sub (.var 3) (.var 4)) (.bin .sub (.var 3) (.var 4))))) .nil)) (zipD (a.map .int) (b.map .int)) [A, B, some (iI t), o3, o4] h =
      some (.nx [A, B, some (iI (t + dist a b)), o3', o4'] h)
  | [], b, t, o3, o4, _, _ => ⟨o3, o4, by simp [zipD, dist]⟩
  | x :: a, [], t, o3, o4, _, _ => ⟨o3, o4, by simp [zipD, dist]⟩
  | x :: a, y :: b, t, o3, o4, ha, hb => by
    obtain ⟨p, q, e⟩ := dist_lp (T := T) (call := call) (A := A) (B := B) (h := h) (a := a) (b := b) (t + (x - y) * (x - y)) (some (iI x)) (some (iI y)) ha.tl hb.tl
    have hx := ha.hd
    have hy := hb.hd
    refine ⟨p, q, ?_⟩
    simp only [List.map_cons, zipD, forL_cons]
    simp [LB, mul_ok (a := x - y) (b := x - y) (by omega), e, dist, Int.add_assoc]
theorem distance_ok {k : Nat} {a b : List Int} (ha : Sm a) (hb : Sm b) (h : Hs) : callF prog (k + 1) 4 [iV a, iV b] h = some (.int (dist a b), h) := by
  rw [un (d := 4) rfl]
  obtain ⟨p, q, e⟩ := dist_lp (T := prog) (call := callF prog k) (A := some (iV a)) (B := some (iV b)) (h := h) (a := a) (b := b) 0 none none ha hb
  simp [b_distance, tupD, iT] at e ⊢
  simp [e]
theorem diff_lp {T : Prog} {call : CallT} {A B : Option AV} {h : Hs} : ∀ {a b : List Int} (t : Int) (o3 o4 : Option AV), ∃ o3' o4', forL (LB T call (.many [3, 4]) (.cons (.ite (.cmp .ne (.var 3) (.var 4)) (.cons (.set 2 (.bin .add (.var 2) (.lit (.int 1)))) .nil) .nil) .nil)) (zipD (a.map .int) (b.map .int)) [A, B, some (iI t), o3, o4] h =
      some (.nx [A, B, some (iI (t + diff a b)), o3', o4'] h)
  | [], b, t, o3, o4 => ⟨o3, o4, by simp [zipD, diff]⟩
  | x :: a, [], t, o3, o4 => ⟨o3, o4, by simp [zipD, diff]⟩
  | x :: a, y :: b, t, o3, o4 => by
    obtain ⟨p, q, e⟩ := diff_lp (T := T) (call := call) (A := A) (B := B) (h := h) (a := a) (b := b) (t + if x = y then 0 else 1) (some (iI x)) (some (iI y))
    refine ⟨p, q, ?_⟩
    simp only [List.map_cons, zipD, forL_cons]
    rw [diff, ← Int.add_assoc, ← e]
    by_cases hxy : x = y <;> simp [LB, hxy]
theorem differing_ok {k : Nat} {a b : List Int} (h : Hs) : callF prog (k + 1) 5 [iV a, iV b] h = some (.int (diff a b), h) := by
  rw [un (d := 5) rfl]
  obtain ⟨p, q, e⟩ := diff_lp (T := prog) (call := callF prog k) (A := some (iV a)) (B := some (iV b)) (h := h) (a := a) (b := b) 0 none none
  simp [b_differing, tupD, iT] at e ⊢
  simp [e]
theorem norm_ok {k : Nat} {a : List Int} (ha : Sm a) (h : Hs) : callF prog (k + 2) 6 [iV a] h = some (.int (dot a a), h) := by
  rw [un (d := 6) rfl]
  simp [b_norm, inner_ok ha]
/-! ### root -/
theorem root_up {call : CallT} {A B : Option AV} {h : Hs} {m : Int} : ∀ (j : Nat) (i : Int) (f : Nat), 1 ≤ i → i * 2 ^ j ≤ 1000000000000000 → m < (i * 2 ^ j) * (i * 2 ^ j) → j < f → ∃ i' : Int, 1 ≤ i' ∧ i' ≤ 1000000000000000 ∧ m < i' * i' ∧
    whlL (WC prog call (.cmp .le (.bin .mul (.var 2) (.var 2)) (.var 0))) (WB prog call (.cons (.set 2 (.bin .mul (.var 2) (.lit (.int 2)))) .nil)) f [some (iI m), A, some (iI i), B] h = some (.nx [some (iI m), A, some (iI i'), B] h)
  | 0, i, 0, _, _, _, hf => absurd hf (by omega)
  | 0, i, f + 1, h1, h2, h3, _ => by
    have e : i * 2 ^ 0 = i := by simp
    rw [e] at h2 h3
    refine ⟨i, h1, h2, h3, ?_⟩
    have hn : ¬ i * i ≤ m := by omega
    simp [whlL, WC, mul_ok (a := i) (b := i) (by omega), hn]
  | j + 1, i, 0, _, _, _, hf => absurd hf (by omega)
  | j + 1, i, f + 1, h1, h2, h3, hf => by
    have e : i * 2 ^ (j + 1) = (i * 2) * 2 ^ j := by rw [Int.pow_succ, Int.mul_comm (2 ^ j) 2, Int.mul_assoc]
    have hp : (1 : Int) ≤ 2 ^ j := by
      have : (0 : Int) < 2 ^ j := Int.pow_pos (by decide)
      omega
    have hi : i ≤ i * 2 * 2 ^ j := by
      have : i * 2 * 1 ≤ i * 2 * 2 ^ j := Int.mul_le_mul_of_nonneg_left hp (by omega)
      omega
    by_cases hc : i * i ≤ m
    · obtain ⟨i', k1, k2, k3, k4⟩ := root_up (call := call) (A := A) (B := B) (h := h) j (i * 2) f (by omega) (by rw [← e]; exact h2) (by rw [← e]; exact h3) (by omega)
      refine ⟨i', k1, k2, k3, ?_⟩
      rw [← k4]
      rw [e] at h2
      simp [whlL, WC, WB, mul_ok (a := i) (b := i) (by omega), mul_ok (a := i) (b := 2) (by omega), hc]
    · rw [e] at h2
      refine ⟨i, h1, by omega, by omega, ?_⟩
      simp [whlL, WC, mul_ok (a := i) (b := i) (by omega), hc]
theorem root_dn {call : CallT} {h : Hs} {m : Int} : ∀ (j : Nat) (lo hi : Int) (B : Option AV) (f : Nat), 0 ≤ lo → lo < hi → hi ≤ 1000000000000000 → lo * lo ≤ m → m < hi * hi → hi - lo ≤ 2 ^ j → j < f → ∃ (r : Int) (hi' : Int) (B' : Option AV), 0 ≤ r ∧ r * r ≤ m ∧ m < (r + 1) * (r + 1) ∧
    whlL (WC prog call (.cmp .gt (.bin .sub (.var 2) (.var 1)) (.lit (.int 1)))) (WB prog call (.cons (.set 3 (.bin .fdiv (.bin .add (.var 1) (.var 2)) (.lit (.int 2)))) (.cons (.ite (.cmp .le (.bin .mul (.var 3) (.var 3)) (.var 0)) (.cons (.set 1 (.var 3)) .nil) (.cons (.set 2 (.var 3)) .nil)) .nil))) f [some (iI m), some (iI lo), some (iI hi), B] h = some (.nx [some (iI m), some (iI r), some (iI hi'), B'] h)
  | j, lo, hi, B, 0, _, _, _, _, _, _, hf => absurd hf (by omega)
  | j, lo, hi, B, f + 1, h1, h2, h3, h4, h5, h6, hf => by
    by_cases hc : 1 < hi - lo
    · cases j with
      | zero => simp at h6; omega
      | succ j =>
        have hmid : (lo + hi).fdiv 2 = (lo + hi) / 2 := Int.fdiv_eq_ediv_of_nonneg _ (by decide)
        have m1 : lo < (lo + hi) / 2 := by omega
        have m2 : (lo + hi) / 2 < hi := by omega
        have e2 : (2 : Int) ^ (j + 1) = 2 ^ j * 2 := Int.pow_succ ..
        rw [e2] at h6
        generalize hg : (lo + hi) / 2 = mid at hmid m1 m2
        by_cases hm : mid * mid ≤ m
        · obtain ⟨r, hi', B', k1, k2, k3, k4⟩ := root_dn (call := call) (h := h) j mid hi (some (iI mid)) f (by omega) m2 h3 hm h5 (by omega) (by omega)
          refine ⟨r, hi', B', k1, k2, k3, ?_⟩
          rw [← k4]
          simp [whlL, WC, WB, hc, hmid, mul_ok (a := mid) (b := mid) (by omega), hm]
        · obtain ⟨r, hi', B', k1, k2, k3, k4⟩ := root_dn (call := call) (h := h) j lo mid (some (iI mid)) f h1 m1 (by omega) h4 (by omega) (by omega) (by omega)
          refine ⟨r, hi', B', k1, k2, k3, ?_⟩
          rw [← k4]
          simp [whlL, WC, WB, hc, hmid, mul_ok (a := mid) (b := mid) (by omega), hm]
    · have e : hi = lo + 1 := by omega
      subst e
      refine ⟨lo, lo + 1, B, h1, h4, h5, ?_⟩
      simp [whlL, WC, hc]
theorem root_ok {k : Nat} {m : Int} (h0 : 0 ≤ m) (h1 : m < 1000000000000000000) (h : Hs) : ∃ r : Int, callF prog (k + 1) 2 [iI m] h = some (.int r, h) ∧ 0 ≤ r ∧ r * r ≤ m ∧ m < (r + 1) * (r + 1) := by
  obtain ⟨i, k1, k2, k3, k4⟩ := root_up (call := callF prog k) (A := some (iI 0)) (B := none) (h := h) (m := m) 30 1 fuelW (by decide) (by decide) (by simp; omega) (by decide)
  obtain ⟨r, hi', B', q1, q2, q3, q4⟩ := root_dn (call := callF prog k) (h := h) (m := m) 50 0 i none fuelW (by decide) (by omega) k2 (by simpa using h0) k3 (by omega) (by decide)
  refine ⟨r, ?_, q1, q2, q3⟩
  rw [un (d := 2) rfl]
  simp [b_root, k4, q4]
end K24
/-! K24M1: the mathematics of the bounds on vectors, in plain integers. -/
set_option Elab.async false
set_option linter.all false
set_option maxRecDepth 100000
set_option maxHeartbeats 1000000
namespace K24
theorem nn {a b : Int} (h : 0 ≤ a) (k : 0 ≤ b) : 0 ≤ a * b := Int.mul_nonneg h k
theorem sq0 (a : Int) : 0 ≤ a * a := by
  by_cases h : 0 ≤ a
  · exact nn h h
  · have := nn (a := -a) (b := -a) (by omega) (by omega)
    grind
theorem sq_mono {a b : Int} (h : 0 ≤ a) (k : a ≤ b) : a * a ≤ b * b := Int.mul_le_mul k k h (by omega)
/-- u² ≤ w², w not negative -/
theorem le_of_sq {u w : Int} (hw : 0 ≤ w) (h : u * u ≤ w * w) : u ≤ w := by
  by_cases k : u ≤ w
  · exact k
  · have h1 : (w + 1) * (w + 1) ≤ u * u := sq_mono (by omega) (by omega)
    grind
theorem dot_nn : ∀ a : List Int, 0 ≤ dot a a
  | [] => Int.le_refl _
  | x :: a => by
    have h1 := dot_nn a
    have h2 := sq0 x
    show 0 ≤ x * x + dot a a
    omega
theorem dist_nn : ∀ a b : List Int, 0 ≤ dist a b
  | [], _ => by simp [dist]
  | _ :: _, [] => by simp [dist]
  | x :: a, y :: b => by
    have h1 := dist_nn a b
    have h2 := sq0 (x - y)
    show 0 ≤ (x - y) * (x - y) + dist a b
    omega
theorem cs_step {x y P A B : Int} (hA : 0 ≤ A) (hB : 0 ≤ B) (h : P * P ≤ A * B) : (x * y + P) * (x * y + P) ≤ (x * x + A) * (y * y + B) := by
  have hw : 0 ≤ x * x * B + y * y * A := by
    have h1 := nn (sq0 x) hB
    have h2 := nn (sq0 y) hA
    omega
  have hu : (2 * (x * y * P)) * (2 * (x * y * P)) ≤ (x * x * B + y * y * A) * (x * x * B + y * y * A) := by
    have h1 : 0 ≤ (x * y) * (x * y) * (A * B - P * P) := nn (sq0 _) (by omega)
    have h2 := sq0 (x * x * B - y * y * A)
    grind
  have h3 := le_of_sq hw hu
  grind
theorem cs : ∀ a b : List Int, dot a b * dot a b ≤ dot a a * dot b b
  | [], b => by simp [dot]
  | _ :: _, [] => by simp [dot]
  | x :: a, y :: b => cs_step (dot_nn a) (dot_nn b) (cs a b)
/-! ### differences -/
def vsub : List Int → List Int → List Int
  | x :: a, y :: b => (x - y) :: vsub a b
  | _, _ => []
theorem dist_dot : ∀ a b : List Int, dist a b = dot (vsub a b) (vsub a b)
  | [], _ => by simp [dist, vsub, dot]
  | _ :: _, [] => by simp [dist, vsub, dot]
  | x :: a, y :: b => by
    show (x - y) * (x - y) + dist a b = (x - y) * (x - y) + dot (vsub a b) (vsub a b)
    rw [dist_dot a b]
theorem dist_comm : ∀ a b : List Int, dist a b = dist b a
  | [], [] => rfl
  | [], _ :: _ => rfl
  | _ :: _, [] => rfl
  | x :: a, y :: b => by
    show (x - y) * (x - y) + dist a b = (y - x) * (y - x) + dist b a
    rw [dist_comm a b]
    grind
theorem dist_split3 : ∀ {c q v : List Int}, c.length = q.length → c.length = v.length → dist q v = dist c q + dist c v - 2 * dot (vsub q c) (vsub v c)
  | [], [], [], _, _ => rfl
  | x :: c, y :: q, z :: v, h1, h2 => by
    have ih := dist_split3 (c := c) (q := q) (v := v) (Nat.succ.inj h1) (Nat.succ.inj h2)
    simp only [dist, vsub, dot]
    rw [ih]
    grind
theorem dist_norm : ∀ {q v : List Int}, q.length = v.length → dist q v = dot q q + dot v v - 2 * dot q v
  | [], [], _ => rfl
  | y :: q, z :: v, h => by
    have ih := dist_norm (q := q) (v := v) (Nat.succ.inj h)
    simp only [dist, dot]
    rw [ih]
    grind
/-! ### the gap -/
def IsGap (far near g : Int) : Prop := (far ≤ near ∧ g = 0) ∨ (near < far ∧ ∃ r, 0 ≤ r ∧ 4 * far * near < (r + 1) * (r + 1) ∧ g = far + near - r)
theorem gap_up {a s hi p g : Int} (hs : 0 ≤ s) (h1 : s ≤ hi) (hp : p * p ≤ a * s) (ha : 0 ≤ a) (hD : 0 ≤ a + s - 2 * p) (hg : IsGap a hi g) : g ≤ a + s - 2 * p := by
  rcases hg with ⟨_, rfl⟩ | ⟨hlt, r, hr, hr2, rfl⟩
  · exact hD
  · by_cases hx : hi - s + 2 * p ≤ r
    · omega
    · exfalso
      have x1 : (r + 1) * (r + 1) ≤ (hi - s + 2 * p) * (hi - s + 2 * p) := sq_mono (by omega) (by omega)
      have q1 : 4 * p ≤ 3 * a + s := by
        refine le_of_sq (by omega) ?_
        have h2 := nn (a := 9 * a - s) (b := a - s) (by omega) (by omega)
        grind
      have q2 := nn (a := hi - s) (b := 4 * a - (hi - s) - 4 * p) (by omega) (by omega)
      grind
theorem gap_dn {a s lo p g : Int} (ha : 0 ≤ a) (h1 : lo ≤ s) (hp : p * p ≤ a * s) (hD : 0 ≤ a + s - 2 * p) (hg : IsGap lo a g) : g ≤ a + s - 2 * p := by
  rcases hg with ⟨_, rfl⟩ | ⟨hlt, r, hr, hr2, rfl⟩
  · exact hD
  · by_cases hx : lo - s + 2 * p ≤ r
    · omega
    · exfalso
      have x0 : 0 ≤ lo - s + 2 * p := by omega
      have x1 : (r + 1) * (r + 1) ≤ (lo - s + 2 * p) * (lo - s + 2 * p) := sq_mono (by omega) (by omega)
      -- x² > 4 lo a, and x ≥ 2a
      have q1 : 2 * a ≤ lo - s + 2 * p := by
        refine le_of_sq x0 ?_
        have h2 := nn (a := a) (b := lo - a) ha (by omega)
        grind
      have q2 := nn (a := s - lo) (b := (lo - s + 2 * p) - 2 * a) (by omega) (by omega)
      have q3 := sq0 (s - lo)
      grind
/-! ### the cell -/
theorem cell_dot : ∀ {q v n r : List Int}, q.length = n.length → q.length = r.length → q.length = v.length → dist q n - dist q r - (dist v n - dist v r) = 2 * dot (vsub q v) (vsub r n)
  | [], [], [], [], _, _, _ => rfl
  | x :: q, y :: v, z :: n, w :: r, h1, h2, h3 => by
    have ih := cell_dot (q := q) (v := v) (n := n) (r := r) (Nat.succ.inj h1) (Nat.succ.inj h2) (Nat.succ.inj h3)
    simp only [dist, vsub, dot]
    grind
theorem split_ok {d e f D u : Int} (hf : 0 ≤ f) (hD : 0 ≤ D) (h1 : d - e ≤ 2 * u) (h2 : u * u ≤ D * f) (hlt : e < d) (hf0 : f ≠ 0) : -((-((d - e) * (d - e))).fdiv (4 * f)) ≤ D := by
  have hf1 : 0 < 4 * f := by omega
  have h3 : (d - e) * (d - e) ≤ (2 * u) * (2 * u) := sq_mono (by omega) h1
  have h4 : (d - e) * (d - e) ≤ 4 * f * D := by grind
  rw [Int.fdiv_eq_ediv_of_nonneg _ (by omega)]
  have h5 : -D ≤ (-((d - e) * (d - e))) / (4 * f) := by
    rw [Int.le_ediv_iff_mul_le hf1]
    grind
  omega
end K24
/-! K24P2: the facts on vectors: what holds, least_distance, least_differing, most_product give. -/
set_option Elab.async false
set_option linter.all false
set_option maxRecDepth 100000
set_option maxHeartbeats 1000000
namespace K24
@[simp] theorem blt_len_T (l : List Int) : blt1 .len (iT l) = some (.int l.length) := by simp [blt1, iT, lenD]
@[simp] theorem blt_len_t (l : List D) : blt1 .len (.tup l) = some (.int l.length) := rfl
@[simp] theorem blt_len_l (l : List D) : blt1 .len (.lst l) = some (.int l.length) := rfl
@[simp] theorem look2_cons (m g x : Nat) (r : List (Nat × Nat)) : look2 m ((g, x) :: r) = if g = m then some x else look2 m r := by
  show (match Nat.beq g m with | true => some x | false => look2 m r) = _
  by_cases e : g = m
  · subst e
    rw [if_pos rfl, Nat.beq_refl]
  · cases q : Nat.beq g m with
    | true => exact absurd (Nat.eq_of_beq_eq_true q) e
    | false => rw [if_neg e]
theorem cls_at {c : Nat} {ci : ClsI} (h : clsT[c]? = some ci) : prog.cls[c]? = some ci := h
@[simp] theorem prog_cls : prog.cls = clsT := rfl
/-- a number between bounds that the evaluator can multiply -/
theorem dot_le : ∀ {a b : List Int}, Sm a → Sm b → dot a b ≤ 1000000 * a.length ∧ -(1000000 * (a.length : Int)) ≤ dot a b
  | [], _, _, _ => by simp [dot]
  | x :: a, [], _, _ => by simp [dot]; omega
  | x :: a, y :: b, ha, hb => by
    obtain ⟨h1, h2⟩ := dot_le ha.tl hb.tl
    have hx := ha.hd
    have hy := hb.hd
    have e1 := nn (a := 1000 - x) (b := 1000 + y) (by omega) (by omega)
    have e2 := nn (a := 1000 + x) (b := 1000 - y) (by omega) (by omega)
    have e3 := nn (a := 1000 - x) (b := 1000 - y) (by omega) (by omega)
    have e4 := nn (a := 1000 + x) (b := 1000 + y) (by omega) (by omega)
    simp only [dot, List.length_cons]
    have e5 : x * y ≤ 1000000 := by grind
    have e6 : -1000000 ≤ x * y := by grind
    omega
theorem dist_le : ∀ {a b : List Int}, Sm a → Sm b → dist a b ≤ 4000000 * a.length
  | [], _, _, _ => by simp [dist]
  | x :: a, [], _, _ => by simp [dist]; omega
  | x :: a, y :: b, ha, hb => by
    have h1 := dist_le ha.tl hb.tl
    have hx := ha.hd
    have hy := hb.hd
    simp only [dist, List.length_cons]
    have e1 := nn (a := 2000 - (x - y)) (b := 2000 + (x - y)) (by omega) (by omega)
    have e5 : (x - y) * (x - y) ≤ 4000000 := by grind
    omega
theorem gap_ev {k : Nat} {far near : Int} (h0 : 0 ≤ far) (h1 : far ≤ 100000000) (h2 : 0 ≤ near) (h3 : near ≤ 100000000) (h : Hs) : ∃ g, callF prog (k + 2) 7 [iI far, iI near] h = some (.int g, h) ∧ IsGap far near g ∧ -1000000000 ≤ g ∧ g ≤ 1000000000 := by
  by_cases hc : far ≤ near
  · refine ⟨0, ?_, .inl ⟨hc, rfl⟩, by omega, by omega⟩
    rw [un (d := 7) rfl]
    simp [b_gap, hc]
  · have hm : 0 ≤ 4 * far * near := nn (by omega) h2
    have hm2 : 4 * far * near ≤ 400000000 * 100000000 := Int.mul_le_mul (by omega) h3 h2 (by omega)
    obtain ⟨r, e, r0, r1, r2⟩ := root_ok (k := k) hm (by omega) h
    have r3 : r ≤ 1000000000 := by
      refine le_of_sq (by omega) (by omega)
    refine ⟨far + near - r, ?_, .inr ⟨by omega, r, r0, r2, rfl⟩, by omega, by omega⟩
    rw [un (d := 7) rfl]
    simp [b_gap, hc, mul_ok (a := 4) (b := far) (by omega), mul_ok (a := 4 * far) (b := near) (by omega), e]
/-! ### facts and records -/
inductive FactL where
  | parts (ps : List (Nat × List Int × Int))
  | cell (a b : List Int)
  | box (l h : List Int)
  | norms (l h : Int)
  | differ (c : List Int) (m : Int)
  | range (lo hi : Int) (lack : List Nat)
  | values (cs : List (List Nat)) (lack : List Nat)
  | counts (ws : List (List Nat × Int))
  | names (lo hi : List Nat)
def partD (p : Nat × List Int × Int) : D := .ins 18 [(30, .int p.1), (31, iT p.2.1), (32, .int p.2.2)]
def wordD (w : List Nat × Int) : D := .tup [.str w.1, .int w.2]
def fD : FactL → D
  | .parts ps => .ins 19 [(33, .tup (ps.map partD))]
  | .cell a b => .ins 20 [(24, iT a), (34, iT b)]
  | .box l h => .ins 21 [(27, iT l), (28, iT h)]
  | .norms l h => .ins 22 [(27, .int l), (28, .int h)]
  | .differ c m => .ins 23 [(31, iT c), (26, .int m)]
  | .range lo hi lack => .ins 14 [(4, .str [110]), (29, .str lack), (27, .int lo), (28, .int hi)]
  | .values cs lack => .ins 15 [(4, .str [116]), (29, .str lack), (7, .tup (cs.map .str))]
  | .counts ws => .ins 16 [(3, .tup (ws.map wordD))]
  | .names lo hi => .ins 17 [(27, .str lo), (28, .str hi)]
structure Rec where
  name : List Nat
  vec : List Int
  n : Option Int
  t : Option (List Nat)
  words : List (List Nat × Int)
def pairsD (n : Option Int) (t : Option (List Nat)) : List D := (match n with | some i => [.tup [.str [110], .int i]] | none => []) ++ (match t with | some s => [.tup [.str [116], .str s]] | none => [])
def recD (r : Rec) : D := .ins 0 [(0, .str r.name), (1, iT r.vec), (2, .tup (pairsD r.n r.t)), (3, .tup (r.words.map wordD))]
/-! ### parts -/
def cutL (v : List Int) (s n : Nat) : List Int := (v.drop s).take n
theorem after_ev {k : Nat} (p : Nat × List Int × Int) (h : Hs) : callF prog (k + 1) 119 [.d (partD p)] h = some (.int (p.1 + p.2.1.length), h) := by
  rw [un (d := 119) rfl]
  simp [b_Part_after, partD]
theorem cut_ev {k : Nat} (p : Nat × List Int × Int) {v : List Int} (hl : p.1 + p.2.1.length ≤ v.length) (h : Hs) : callF prog (k + 2) 120 [.d (partD p), iV v] h = some (iT (cutL v p.1 p.2.1.length), h) := by
  rw [un (d := 120) rfl]
  have e := after_ev (k := k) p h
  obtain ⟨s, c, r⟩ := p
  simp only [partD] at e hl
  have h1 : ¬ ((s : Int) < 0) := by omega
  have h2 : ¬ ((s : Int) + (c.length : Int) < 0) := by omega
  have h3 : ((s : Int) + (c.length : Int)).toNat = s + c.length := by omega
  simp [b_Part_cut, partD, clsT, e]
  simp [iT, slD, K24.cut, sIx, h1, h2, h3, cutL]
  rw [Nat.min_eq_left (by omega), Nat.min_eq_left (by omega), Nat.add_sub_cancel_left]
end K24
/-! K24P3: parts. -/
set_option Elab.async false
set_option linter.all false
set_option maxRecDepth 100000
set_option maxHeartbeats 1000000
namespace K24
abbrev PT3 : Type := Nat × List Int × Int
/-- parts within n signs of a vector, one behind another from e on -/
def PartsOk (n : Nat) : Nat → List PT3 → Prop
  | _, [] => True
  | e, p :: ps => e ≤ p.1 ∧ p.1 + p.2.1.length ≤ n ∧ Sm p.2.1 ∧ 0 ≤ p.2.2 ∧ p.2.2 ≤ 100000000 ∧ PartsOk n (p.1 + p.2.1.length) ps
def PartsIn (v : List Int) (ps : List PT3) : Prop := ∀ p ∈ ps, dist p.2.1 (cutL v p.1 p.2.1.length) ≤ p.2.2
theorem Sm.cut {v : List Int} (h : Sm v) (s n : Nat) : Sm (cutL v s n) := fun x hx => h x (List.mem_of_mem_drop (List.mem_of_mem_take hx))
theorem cutL_len {v : List Int} {s n : Nat} (h : s + n ≤ v.length) : (cutL v s n).length = n := by
  unfold cutL
  rw [List.length_take, List.length_drop]
  omega
@[simp] theorem len_cut_T (l : List Int) : blt1 .len (iT l) = some (.int l.length) := blt_len_T l
theorem fits_lp {k n : Nat} {v : List Int} {A : Option AV} {h : Hs} (hv : v.length = n) : ∀ {ps : List PT3} {e : Nat} (o : Option AV), PartsOk n e ps → ∃ o', forL (LB prog (callF prog (k + 1)) (.one 2) (.cons (.ite (.or (.cmp .lt (.attr (.var 2) 30) (.lit (.int 0))) (.cmp .gt (.prop (.var 2) 65) (.blt .len (.cons (.var 1) .nil)))) (.cons (.ret (.lit (.bl false))) .nil) .nil) .nil)) (ps.map partD) [A, some (iV v), o] h = some (.nx [A, some (iV v), o'] h)
  | [], e, o, _ => ⟨o, by simp⟩
  | p :: ps, e, o, ⟨h1, h2, h3, h4, h5, h6⟩ => by
    obtain ⟨o', q⟩ := fits_lp (k := k) (A := A) (h := h) hv (some (.d (partD p))) h6
    refine ⟨o', ?_⟩
    have a := after_ev (k := k) p h
    obtain ⟨s, c, r⟩ := p
    simp only [partD] at a q h2
    have e1 : ¬ ((s : Int) < 0) := by omega
    have e2 : ¬ ((v.length : Int) < (s : Int) + (c.length : Int)) := by omega
    simp [LB, partD, clsT, a, e1, e2, q]
theorem fits_ev {k n e : Nat} {v : List Int} {ps : List PT3} (hv : v.length = n) (ok : PartsOk n e ps) (h : Hs) : callF prog (k + 2) 122 [.d (fD (.parts ps)), iV v] h = some (.bl true, h) := by
  obtain ⟨o', q⟩ := fits_lp (k := k) (A := some (.d (fD (.parts ps)))) (h := h) hv none ok
  rw [un (d := 122) rfl]
  simp only [fD] at q ⊢
  simp [b_Parts_fits, itemsD, q]
theorem apart_lp {k n : Nat} {A : Option AV} {h : Hs} : ∀ {ps : List PT3} {e : Nat} (o : Option AV), PartsOk n e ps → ∃ (e' : Int) (o' : Option AV), forL (LB prog (callF prog (k + 1)) (.one 2) (.cons (.ite (.cmp .lt (.attr (.var 2) 30) (.var 1)) (.cons (.ret (.lit (.bl false))) .nil) .nil) (.cons (.set 1 (.prop (.var 2) 65)) .nil))) (ps.map partD) [A, some (iI e), o] h = some (.nx [A, some (iI e'), o'] h)
  | [], e, o, _ => ⟨e, o, by simp⟩
  | p :: ps, e, o, ⟨h1, h2, h3, h4, h5, h6⟩ => by
    obtain ⟨e', o', q⟩ := apart_lp (k := k) (A := A) (h := h) (some (.d (partD p))) h6
    refine ⟨e', o', ?_⟩
    have a := after_ev (k := k) p h
    obtain ⟨s, c, r⟩ := p
    simp only [partD, Int.natCast_add] at a q h2 h1
    have e1 : ¬ ((s : Int) < (e : Int)) := by omega
    simp [LB, partD, clsT, a, e1, q]
theorem apart_ev {k n : Nat} {ps : List PT3} (ok : PartsOk n 0 ps) (h : Hs) : callF prog (k + 2) 124 [.d (fD (.parts ps))] h = some (.bl true, h) := by
  obtain ⟨e', o', q⟩ := apart_lp (k := k) (A := some (.d (fD (.parts ps)))) (h := h) none ok
  rw [un (d := 124) rfl]
  simp only [fD] at q ⊢
  simp [b_Parts_apart, itemsD]
  simp at q
  simp [q]
theorem pholds_lp {k n : Nat} {v : List Int} {A B : Option AV} {fs : List (Nat × D)} {c0 : Nat} {h : Hs} (hv : v.length = n) (sv : Sm v) (hB : getF 1 fs = some (iT v)) : ∀ {ps : List PT3} {e : Nat} (o : Option AV), PartsOk n e ps → PartsIn v ps →
    ∃ o', forL (LB prog (callF prog (k + 2)) (.one 2) (.cons (.ite (.cmp .gt (.call 4 (.cons (.attr (.var 2) 31) (.cons (.meth (.var 2) 66 (.cons (.attr (.var 1) 1) .nil)) .nil))) (.attr (.var 2) 32)) (.cons (.ret (.lit (.bl false))) .nil) .nil) .nil)) (ps.map partD) [A, some (.d (.ins c0 fs)), o] h = some (.nx [A, some (.d (.ins c0 fs)), o'] h)
  | [], e, o, _, _ => ⟨o, by simp⟩
  | p :: ps, e, o, ⟨h1, h2, h3, h4, h5, h6⟩, hin => by
    obtain ⟨o', q⟩ := pholds_lp (k := k) (A := A) (B := B) (h := h) (c0 := c0) hv sv hB (some (.d (partD p))) h6 (fun x hx => hin x (List.mem_cons_of_mem _ hx))
    refine ⟨o', ?_⟩
    have a := cut_ev (k := k) p (v := v) (by omega) h
    have b := distance_ok (k := k + 1) h3 (sv.cut p.1 p.2.1.length) h
    have d := hin p (List.mem_cons_self ..)
    obtain ⟨s, c, r⟩ := p
    simp only [partD] at a q b d
    have e1 : ¬ (r < dist c (cutL v s c.length)) := by omega
    simp [LB, partD, clsT, hB, a, b, e1, q]
theorem pholds_ev {k n : Nat} {r : Rec} {ps : List PT3} (hv : r.vec.length = n) (sv : Sm r.vec) (ok : PartsOk n 0 ps) (hin : PartsIn r.vec ps) (h : Hs) : callF prog (k + 3) 123 [.d (fD (.parts ps)), .d (recD r)] h = some (.bl true, h) := by
  obtain ⟨o', q⟩ := pholds_lp (k := k) (A := some (.d (fD (.parts ps)))) (B := none) (c0 := 0) (fs := [(0, .str r.name), (1, iT r.vec), (2, .tup (pairsD r.n r.t)), (3, .tup (r.words.map wordD))]) (h := h) hv sv (by simp) none ok hin
  have f := fits_ev (k := k) hv ok h
  rw [un (d := 123) rfl]
  simp only [fD, recD] at q f ⊢
  simp [b_Parts_holds, itemsD, clsT, f, q]
/-! ### distances of parts -/
theorem dist_take_drop : ∀ (m : Nat) (a b : List Int), dist a b = dist (a.take m) (b.take m) + dist (a.drop m) (b.drop m)
  | 0, a, b => by simp [dist]
  | m + 1, [], b => by simp [dist]
  | m + 1, x :: a, [] => by simp [dist]
  | m + 1, x :: a, y :: b => by
    simp only [List.take_succ_cons, List.drop_succ_cons, dist]
    rw [dist_take_drop m a b]
    omega
/-- the sum of the parts' distances is at most the distance behind e -/
def sumD (q v : List Int) : List PT3 → Int
  | [] => 0
  | p :: ps => dist (cutL q p.1 p.2.1.length) (cutL v p.1 p.2.1.length) + sumD q v ps
theorem sumD_le {q v : List Int} {n : Nat} : ∀ {ps : List PT3} {e : Nat}, PartsOk n e ps → sumD q v ps ≤ dist (q.drop e) (v.drop e)
  | [], e, _ => dist_nn _ _
  | p :: ps, e, ⟨h1, h2, h3, h4, h5, h6⟩ => by
    have ih := sumD_le (q := q) (v := v) h6
    have e1 := dist_take_drop (p.1 - e) (q.drop e) (v.drop e)
    rw [List.drop_drop, List.drop_drop, show e + (p.1 - e) = p.1 by omega] at e1
    have e2 := dist_take_drop p.2.1.length (q.drop p.1) (v.drop p.1)
    rw [List.drop_drop, List.drop_drop] at e2
    have e3 := dist_nn ((q.drop e).take (p.1 - e)) ((v.drop e).take (p.1 - e))
    show dist ((q.drop p.1).take p.2.1.length) ((v.drop p.1).take p.2.1.length) + sumD q v ps ≤ _
    omega
theorem part_gap {c q v : List Int} {r g : Int} (h1 : c.length = q.length) (h2 : c.length = v.length) (hr : dist c v ≤ r) (hg : IsGap (dist c q) r g) : g ≤ dist q v := by
  have e := dist_split3 h1 h2
  have hcs := cs (vsub q c) (vsub v c)
  rw [← dist_dot, ← dist_dot, dist_comm q c, dist_comm v c] at hcs
  rw [e]
  refine gap_up (dist_nn c v) hr hcs (dist_nn c q) ?_ hg
  have := dist_nn q v
  omega
theorem pleast_lp {k n : Nat} {q v : List Int} {A : Option AV} {h : Hs} (hq : q.length = n) (hv : v.length = n) (sq : Sm q) (hn : n ≤ 4) : ∀ {ps : List PT3} {e : Nat} (t : Int) (o : Option AV), PartsOk n e ps → PartsIn v ps →
    ∃ (t' : Int) (o' : Option AV), t' - t ≤ sumD q v ps ∧ forL (LB prog (callF prog (k + 2)) (.one 3) (.cons (.set 2 (.bin .add (.var 2) (.call 7 (.cons (.call 4 (.cons (.attr (.var 3) 31) (.cons (.meth (.var 3) 66 (.cons (.var 1) .nil)) .nil))) (.cons (.attr (.var 3) 32) .nil))))) .nil)) (ps.map partD) [A, some (iV q), some (iI t), o] h = some (.nx [A, some (iV q), some (iI t'), o'] h)
  | [], e, t, o, _, _ => ⟨t, o, by simp [sumD], by simp⟩
  | p :: ps, e, t, o, ⟨h1, h2, h3, h4, h5, h6⟩, hin => by
    have hc := cutL_len (v := q) (s := p.1) (n := p.2.1.length) (by omega)
    have hc2 := cutL_len (v := v) (s := p.1) (n := p.2.1.length) (by omega)
    have dl := dist_le h3 (sq.cut p.1 p.2.1.length)
    obtain ⟨g, ge, gg, _, _⟩ := gap_ev (k := k) (far := dist p.2.1 (cutL q p.1 p.2.1.length)) (near := p.2.2) (dist_nn _ _) (by omega) h4 h5 h
    have gl := part_gap hc.symm hc2.symm (hin p (List.mem_cons_self ..)) gg
    obtain ⟨t', o', tl, qq⟩ := pleast_lp (k := k) (A := A) (h := h) hq hv sq hn (t + g) (some (.d (partD p))) h6 (fun x hx => hin x (List.mem_cons_of_mem _ hx))
    refine ⟨t', o', by simp only [sumD]; omega, ?_⟩
    have a := cut_ev (k := k) p (v := q) (by omega) h
    have b := distance_ok (k := k + 1) h3 (sq.cut p.1 p.2.1.length) h
    obtain ⟨s, c, r⟩ := p
    simp only [partD] at a qq b ge
    simp [LB, partD, clsT, a, b, ge, qq]
theorem pleast_ev {k n : Nat} {q v : List Int} {ps : List PT3} (hq : q.length = n) (hv : v.length = n) (sq : Sm q) (hn : n ≤ 4) (ok : PartsOk n 0 ps) (hin : PartsIn v ps) (h : Hs) : ∃ g, callF prog (k + 3) 126 [.d (fD (.parts ps)), iV q] h = some (.int g, h) ∧ g ≤ dist q v := by
  obtain ⟨t', o', tl, qq⟩ := pleast_lp (k := k) (A := some (.d (fD (.parts ps)))) (h := h) hq hv sq hn 0 none ok hin
  have f := fits_ev (k := k) hq ok h
  have a := apart_ev (k := k) ok h
  have sl := sumD_le (q := q) (v := v) ok
  refine ⟨t', ?_, by simp at sl; omega⟩
  rw [un (d := 126) rfl]
  simp only [fD] at qq f a ⊢
  simp [b_Parts_least_distance, itemsD, clsT, f, a, qq]
end K24
/-! K24P4: cells, boxes, norms, differing places; products of parts. -/
set_option Elab.async false
set_option linter.all false
set_option maxRecDepth 100000
set_option maxHeartbeats 1000000
namespace K24
/-! ### cell -/
theorem cfits_ev {k n : Nat} {a b v : List Int} (ha : a.length = n) (hb : b.length = n) (hv : v.length = n) (h : Hs) : callF prog (k + 1) 129 [.d (fD (.cell a b)), iV v] h = some (.bl true, h) := by
  rw [un (d := 129) rfl]
  simp [b_Cell_fits, fD, ha, hb, hv]
theorem cholds_ev {k n : Nat} {a b : List Int} {r : Rec} (ha : a.length = n) (hb : b.length = n) (hv : r.vec.length = n) (sa : Sm a) (sb : Sm b) (sv : Sm r.vec) (hin : dist r.vec a ≤ dist r.vec b) (h : Hs) : callF prog (k + 2) 130 [.d (fD (.cell a b)), .d (recD r)] h = some (.bl true, h) := by
  have f := cfits_ev (k := k) ha hb hv h
  have d1 := distance_ok (k := k) sv sa h
  have d2 := distance_ok (k := k) sv sb h
  rw [un (d := 130) rfl]
  simp only [fD, recD] at f ⊢
  simp [b_Cell_holds, clsT, f, d1, d2, hin]
theorem split_ev {k : Nat} {d e f D u : Int} (hf : 0 ≤ f) (hf2 : f ≤ 100000000) (hd : 0 ≤ d ∧ d ≤ 100000000) (he : 0 ≤ e ∧ e ≤ 100000000) (hD : 0 ≤ D) (h1 : d - e ≤ 2 * u) (h2 : u * u ≤ D * f) (h : Hs) : ∃ g, callF prog (k + 1) 8 [iI d, iI e, iI f] h = some (.int g, h) ∧ g ≤ D := by
  by_cases c1 : d ≤ e
  · refine ⟨0, ?_, hD⟩
    rw [un (d := 8) rfl]
    simp [b_split, c1]
  · by_cases c2 : f = 0
    · refine ⟨0, ?_, hD⟩
      rw [un (d := 8) rfl]
      simp [b_split, c1, c2]
    · refine ⟨_, ?_, split_ok hf hD h1 h2 (by omega) c2⟩
      have e1 : ¬ (4 * f = 0) := by omega
      have e2 : (4 * f).natAbs < 1073741824 := by omega
      rw [un (d := 8) rfl]
      simp [b_split, c1, c2, mul_ok (a := d - e) (b := d - e) (by omega), mul_ok (a := 4) (b := f) (by omega), e2]
theorem cleast_ev {k n : Nat} {a b q v : List Int} (ha : a.length = n) (hb : b.length = n) (hq : q.length = n) (hv : v.length = n) (hn : n ≤ 4) (sa : Sm a) (sb : Sm b) (sq : Sm q) (hin : dist v a ≤ dist v b) (h : Hs) : ∃ g, callF prog (k + 2) 131 [.d (fD (.cell a b)), iV q] h = some (.int g, h) ∧ g ≤ dist q v := by
  have f := cfits_ev (k := k) ha hb hq h
  have d1 := distance_ok (k := k) sq sa h
  have d2 := distance_ok (k := k) sq sb h
  have d3 := distance_ok (k := k) sa sb h
  have l1 := dist_le sq sa
  have l2 := dist_le sq sb
  have l3 := dist_le sa sb
  have cd := cell_dot (q := q) (v := v) (n := a) (r := b) (by omega) (by omega) (by omega)
  have hcs := cs (vsub q v) (vsub b a)
  rw [← dist_dot, ← dist_dot, dist_comm b a] at hcs
  obtain ⟨g, ge, gl⟩ := split_ev (k := k) (d := dist q a) (e := dist q b) (f := dist a b) (D := dist q v) (u := dot (vsub q v) (vsub b a)) (dist_nn _ _) (by omega) ⟨dist_nn _ _, by omega⟩ ⟨dist_nn _ _, by omega⟩ (dist_nn _ _) (by omega) hcs h
  refine ⟨g, ?_, gl⟩
  rw [un (d := 131) rfl]
  simp only [fD] at f ⊢
  simp [b_Cell_least_distance, clsT, f, d1, d2, d3, ge]
/-! ### box -/
def BoxIn : List Int → List Int → List Int → Prop
  | x :: v, l :: a, u :: b => l ≤ x ∧ x ≤ u ∧ BoxIn v a b
  | _, _, _ => True
theorem bfits_ev {k n : Nat} {a b v : List Int} (ha : a.length = n) (hb : b.length = n) (hv : v.length = n) (h : Hs) : callF prog (k + 1) 133 [.d (fD (.box a b)), iV v] h = some (.bl true, h) := by
  rw [un (d := 133) rfl]
  simp [b_Box_fits, fD, ha, hb, hv]
theorem bholds_lp {T : Prog} {call : CallT} {A B : Option AV} {h : Hs} : ∀ {v a b : List Int} (o1 o2 o3 : Option AV), BoxIn v a b → ∃ o1' o2' o3', forL (LB T call (.many [2, 3, 4]) (.cons (.ite (.or (.cmp .lt (.var 2) (.var 3)) (.cmp .gt (.var 2) (.var 4))) (.cons (.ret (.lit (.bl false))) .nil) .nil) .nil)) (zipD3 (v.map .int) (a.map .int) (b.map .int)) [A, B, o1, o2, o3] h = some (.nx [A, B, o1', o2', o3'] h)
  | [], a, b, o1, o2, o3, _ => ⟨o1, o2, o3, by simp [zipD3]⟩
  | x :: v, [], b, o1, o2, o3, _ => ⟨o1, o2, o3, by simp [zipD3]⟩
  | x :: v, y :: a, [], o1, o2, o3, _ => ⟨o1, o2, o3, by simp [zipD3]⟩
  | x :: v, y :: a, z :: b, o1, o2, o3, ⟨h1, h2, h3⟩ => by
    obtain ⟨p, q, r, e⟩ := bholds_lp (T := T) (call := call) (A := A) (B := B) (h := h) (some (iI x)) (some (iI y)) (some (iI z)) h3
    refine ⟨p, q, r, ?_⟩
    have e1 : ¬ (x < y) := by omega
    have e2 : ¬ (z < x) := by omega
    simp only [List.map_cons, zipD3, forL_cons]
    simp [LB, e1, e2, e]
theorem bholds_ev {k n : Nat} {a b : List Int} {r : Rec} (ha : a.length = n) (hb : b.length = n) (hv : r.vec.length = n) (hin : BoxIn r.vec a b) (h : Hs) : callF prog (k + 2) 134 [.d (fD (.box a b)), .d (recD r)] h = some (.bl true, h) := by
  have f := bfits_ev (k := k) ha hb hv h
  obtain ⟨p, q, s, e⟩ := bholds_lp (T := prog) (call := callF prog (k + 1)) (A := some (.d (fD (.box a b)))) (B := some (.d (recD r))) (h := h) none none none hin
  rw [un (d := 134) rfl]
  simp only [fD, recD] at f e ⊢
  simp [b_Box_holds, clsT, f]
  simp [iT, tupD, e] at e ⊢
theorem bleast_lp {T : Prog} {call : CallT} {A B : Option AV} {h : Hs} : ∀ {q v a b : List Int} (t : Int) (o1 o2 o3 : Option AV), q.length = v.length → Sm q → Sm a → Sm b → BoxIn v a b → ∃ t' o1' o2' o3', t' - t ≤ dist q v ∧ forL (LB T call (.many [3, 4, 5]) (.cons (.ite (.cmp .lt (.var 3) (.var 4)) (.cons (.set 2 (.bin .add (.var 2) (.bin .mul (.bin .sub (.var 4) (.var 3)) (.bin .sub (.var 4) (.var 3))))) .nil) (.cons (.ite (.cmp .gt (.var 3) (.var 5)) (.cons (.set 2 (.bin .add (.var 2) (.bin .mul (.bin .sub (.var 3) (.var 5)) (.bin .sub (.var 3) (.var 5))))) .nil) .nil) .nil)) .nil)) (zipD3 (q.map .int) (a.map .int) (b.map .int)) [A, B, some (iI t), o1, o2, o3] h = some (.nx [A, B, some (iI t'), o1', o2', o3'] h)
  | [], v, a, b, t, o1, o2, o3, _, _, _, _, _ => ⟨t, o1, o2, o3, by simp [dist], by simp [zipD3]⟩
  | x :: q, [], a, b, t, o1, o2, o3, hl, _, _, _, _ => by cases hl
  | x :: q, w :: v, [], b, t, o1, o2, o3, _, _, _, _, _ => ⟨t, o1, o2, o3, by have := dist_nn (x :: q) (w :: v); omega, by simp [zipD3]⟩
  | x :: q, w :: v, y :: a, [], t, o1, o2, o3, _, _, _, _, _ => ⟨t, o1, o2, o3, by have := dist_nn (x :: q) (w :: v); omega, by simp [zipD3]⟩
  | x :: q, w :: v, y :: a, z :: b, t, o1, o2, o3, hl, sq, sa, sb, ⟨h1, h2, h3⟩ => by
    have hx := sq.hd
    have hy := sa.hd
    have hz := sb.hd
    by_cases c1 : x < y
    · obtain ⟨t', p, r, s, tl, e⟩ := bleast_lp (T := T) (call := call) (A := A) (B := B) (h := h) (t + (y - x) * (y - x)) (some (iI x)) (some (iI y)) (some (iI z)) (Nat.succ.inj hl) sq.tl sa.tl sb.tl h3
      have m := sq_mono (a := y - x) (b := w - x) (by omega) (by omega)
      refine ⟨t', p, r, s, by simp only [dist]; grind, ?_⟩
      simp only [List.map_cons, zipD3, forL_cons]
      simp [LB, c1, mul_ok (a := y - x) (b := y - x) (by omega), e]
    · by_cases c2 : z < x
      · obtain ⟨t', p, r, s, tl, e⟩ := bleast_lp (T := T) (call := call) (A := A) (B := B) (h := h) (t + (x - z) * (x - z)) (some (iI x)) (some (iI y)) (some (iI z)) (Nat.succ.inj hl) sq.tl sa.tl sb.tl h3
        have m := sq_mono (a := x - z) (b := x - w) (by omega) (by omega)
        refine ⟨t', p, r, s, by simp only [dist]; omega, ?_⟩
        simp only [List.map_cons, zipD3, forL_cons]
        simp [LB, c1, c2, mul_ok (a := x - z) (b := x - z) (by omega), e]
      · obtain ⟨t', p, r, s, tl, e⟩ := bleast_lp (T := T) (call := call) (A := A) (B := B) (h := h) t (some (iI x)) (some (iI y)) (some (iI z)) (Nat.succ.inj hl) sq.tl sa.tl sb.tl h3
        have m := sq0 (x - w)
        refine ⟨t', p, r, s, by simp only [dist]; omega, ?_⟩
        simp only [List.map_cons, zipD3, forL_cons]
        simp [LB, c1, c2, e]
theorem bleast_ev {k n : Nat} {a b q v : List Int} (ha : a.length = n) (hb : b.length = n) (hq : q.length = n) (hv : v.length = n) (sa : Sm a) (sb : Sm b) (sq : Sm q) (hin : BoxIn v a b) (h : Hs) : ∃ g, callF prog (k + 2) 135 [.d (fD (.box a b)), iV q] h = some (.int g, h) ∧ g ≤ dist q v := by
  have f := bfits_ev (k := k) ha hb hq h
  obtain ⟨t', p, r, s, tl, e⟩ := bleast_lp (q := q) (v := v) (a := a) (b := b) (T := prog) (call := callF prog (k + 1)) (A := some (.d (fD (.box a b)))) (B := some (iV q)) (h := h) 0 none none none (by omega) sq sa sb hin
  refine ⟨t', ?_, by omega⟩
  rw [un (d := 135) rfl]
  simp only [fD] at f e ⊢
  simp [b_Box_least_distance, clsT, f]
  simp [iT, tupD] at e ⊢
  simp [e]
theorem bprod_lp {T : Prog} {call : CallT} {A B : Option AV} {h : Hs} : ∀ {q v a b : List Int} (t : Int) (o1 o2 o3 : Option AV), q.length = v.length → q.length = a.length → q.length = b.length → Sm a → Sm b → BoxIn v a b → ∃ t' o1' o2' o3', dot q v ≤ t' - t ∧ forL (LB T call (.many [3, 4, 5]) (.cons (.set 2 (.bin .add (.var 2) (.blt .max2 (.cons (.bin .mul (.var 4) (.var 3)) (.cons (.bin .mul (.var 5) (.var 3)) .nil))))) .nil)) (zipD3 (q.map .int) (a.map .int) (b.map .int)) [A, B, some (iI t), o1, o2, o3] h = some (.nx [A, B, some (iI t'), o1', o2', o3'] h)
  | [], v, a, b, t, o1, o2, o3, _, _, _, _, _, _ => ⟨t, o1, o2, o3, by simp [dot], by simp [zipD3]⟩
  | x :: q, [], a, b, t, o1, o2, o3, hl, _, _, _, _, _ => by cases hl
  | x :: q, w :: v, [], b, t, o1, o2, o3, _, hl, _, _, _, _ => by cases hl
  | x :: q, w :: v, y :: a, [], t, o1, o2, o3, _, _, hl, _, _, _ => by cases hl
  | x :: q, w :: v, y :: a, z :: b, t, o1, o2, o3, hl, hl2, hl3, sa, sb, ⟨h1, h2, h3⟩ => by
    have hy := sa.hd
    have hz := sb.hd
    obtain ⟨t', p, r, s, tl, e⟩ := bprod_lp (T := T) (call := call) (A := A) (B := B) (h := h) (t + if y * x < z * x then z * x else y * x) (some (iI x)) (some (iI y)) (some (iI z)) (Nat.succ.inj hl) (Nat.succ.inj hl2) (Nat.succ.inj hl3) sa.tl sb.tl h3
    have m : x * w ≤ if y * x < z * x then z * x else y * x := by
      have m1 : 0 ≤ x → x * w ≤ z * x := fun hx => by
        have := nn (a := x) (b := z - w) hx (by omega)
        grind
      have m2 : x ≤ 0 → x * w ≤ y * x := fun hx => by
        have := nn (a := -x) (b := w - y) (by omega) (by omega)
        grind
      by_cases hx : 0 ≤ x
      · have := m1 hx
        split <;> omega
      · have := m2 (by omega)
        split <;> omega
    refine ⟨t', p, r, s, by simp only [dot]; omega, ?_⟩
    simp only [List.map_cons, zipD3, forL_cons]
    simp [LB, blt2, mul_ok (a := y) (b := x) (by omega), mul_ok (a := z) (b := x) (by omega), e]
theorem bprod_ev {k n : Nat} {a b q v : List Int} (ha : a.length = n) (hb : b.length = n) (hq : q.length = n) (hv : v.length = n) (sa : Sm a) (sb : Sm b) (hin : BoxIn v a b) (h : Hs) : ∃ g, callF prog (k + 2) 136 [.d (fD (.box a b)), iV q] h = some (.int g, h) ∧ dot q v ≤ g := by
  have f := bfits_ev (k := k) ha hb hq h
  obtain ⟨t', p, r, s, tl, e⟩ := bprod_lp (q := q) (v := v) (a := a) (b := b) (T := prog) (call := callF prog (k + 1)) (A := some (.d (fD (.box a b)))) (B := some (iV q)) (h := h) 0 none none none (by omega) (by omega) (by omega) sa sb hin
  refine ⟨t', ?_, by omega⟩
  rw [un (d := 136) rfl]
  simp only [fD] at f e ⊢
  simp [b_Box_most_product, clsT, f]
  simp [iT, tupD] at e ⊢
  simp [e]
/-! ### norms -/
theorem nholds_ev {k : Nat} {lo hi : Int} {r : Rec} (sv : Sm r.vec) (h1 : lo ≤ dot r.vec r.vec) (h2 : dot r.vec r.vec ≤ hi) (h : Hs) : callF prog (k + 3) 138 [.d (fD (.norms lo hi)), .d (recD r)] h = some (.bl true, h) := by
  rw [un (d := 138) rfl]
  simp [b_Norms_holds, fD, recD, norm_ok (k := k) sv, h1, h2]
theorem nleast_ev {k n : Nat} {lo hi : Int} {q v : List Int} (hq : q.length = n) (hv : v.length = n) (hn : n ≤ 4) (sq : Sm q) (sv : Sm v) (l0 : 0 ≤ lo) (u0 : hi ≤ 100000000) (h1 : lo ≤ dot v v) (h2 : dot v v ≤ hi) (h : Hs) : ∃ g, callF prog (k + 3) 139 [.d (fD (.norms lo hi)), iV q] h = some (.int g, h) ∧ g ≤ dist q v := by
  have e := norm_ok (k := k) sq h
  have dl := (dot_le sq sq).1
  have dv := (dot_le sv sv).1
  have q0 := dot_nn q
  have v0 := dot_nn v
  have hd := dist_norm (q := q) (v := v) (by omega)
  have d0 := dist_nn q v
  have hcs := cs q v
  by_cases c1 : hi < dot q q
  · obtain ⟨g, ge, gg, _, _⟩ := gap_ev (k := k) (far := dot q q) (near := hi) q0 (by omega) (by omega) u0 h
    refine ⟨g, ?_, by rw [hd]; exact gap_up v0 h2 hcs q0 (by omega) gg⟩
    rw [un (d := 139) rfl]
    simp only [fD] at e ⊢
    simp [b_Norms_least_distance, e, c1, ge]
  · by_cases c2 : dot q q < lo
    · obtain ⟨g, ge, gg, _, _⟩ := gap_ev (k := k) (far := lo) (near := dot q q) l0 (by omega) q0 (by omega) h
      refine ⟨g, ?_, by rw [hd]; exact gap_dn q0 h1 hcs (by omega) gg⟩
      rw [un (d := 139) rfl]
      simp only [fD] at e ⊢
      simp [b_Norms_least_distance, e, c1, c2, ge]
    · refine ⟨0, ?_, d0⟩
      rw [un (d := 139) rfl]
      simp only [fD] at e ⊢
      simp [b_Norms_least_distance, e, c1, c2]
theorem nprod_ev {k n : Nat} {lo hi : Int} {q v : List Int} (hq : q.length = n) (hn : n ≤ 4) (sq : Sm q) (u0 : hi ≤ 100000000) (h2 : dot v v ≤ hi) (h : Hs) : ∃ g, callF prog (k + 3) 140 [.d (fD (.norms lo hi)), iV q] h = some (.int g, h) ∧ dot q v ≤ g := by
  have e := norm_ok (k := k) sq h
  have dl := (dot_le sq sq).1
  have q0 := dot_nn q
  have v0 := dot_nn v
  have hm : 0 ≤ dot q q * hi := nn q0 (by omega)
  have hm2 : dot q q * hi ≤ 4000000 * 100000000 := Int.mul_le_mul (by omega) u0 (by omega) (by omega)
  obtain ⟨r, re, r0, r1, r2⟩ := root_ok (k := k + 1) hm (by omega) h
  have hcs := cs q v
  refine ⟨r, ?_, ?_⟩
  · rw [un (d := 140) rfl]
    simp only [fD] at e ⊢
    simp [b_Norms_most_product, e, mul_ok (a := dot q q) (b := hi) (by omega), re]
  · by_cases c : dot q v ≤ r
    · exact c
    · exfalso
      have m1 := sq_mono (a := r + 1) (b := dot q v) (by omega) (by omega)
      have m2 := nn (a := dot q q) (b := hi - dot v v) q0 (by omega)
      grind
/-! ### differing places -/
theorem diff_tri : ∀ {c q v : List Int}, c.length = q.length → c.length = v.length → diff c q ≤ diff c v + diff q v
  | [], [], [], _, _ => by simp [diff]
  | x :: c, y :: q, z :: v, h1, h2 => by
    have ih := diff_tri (c := c) (q := q) (v := v) (Nat.succ.inj h1) (Nat.succ.inj h2)
    simp only [diff]
    by_cases e1 : x = y <;> by_cases e2 : x = z <;> by_cases e3 : y = z <;> simp [e1, e2, e3] <;> omega
theorem diff_nn : ∀ a b : List Int, 0 ≤ diff a b
  | [], _ => by simp [diff]
  | _ :: _, [] => by simp [diff]
  | x :: a, y :: b => by
    have := diff_nn a b
    simp only [diff]
    split <;> omega
theorem dholds_ev {k n : Nat} {c : List Int} {m : Int} {r : Rec} (hc : c.length = n) (hv : r.vec.length = n) (hin : diff c r.vec ≤ m) (h : Hs) : callF prog (k + 2) 142 [.d (fD (.differ c m)), .d (recD r)] h = some (.bl true, h) := by
  rw [un (d := 142) rfl]
  simp [b_Differ_holds, fD, recD, differing_ok (k := k), hc, hv, hin]
theorem dleast_ev {k n : Nat} {c q v : List Int} {m : Int} (hc : c.length = n) (hq : q.length = n) (hv : v.length = n) (hin : diff c v ≤ m) (h : Hs) : ∃ g, callF prog (k + 2) 143 [.d (fD (.differ c m)), iV q] h = some (.int g, h) ∧ g ≤ diff q v := by
  have t := diff_tri (c := c) (q := q) (v := v) (by omega) (by omega)
  have t0 := diff_nn q v
  refine ⟨if (0 : Int) < diff c q - m then diff c q - m else 0, ?_, by split <;> omega⟩
  rw [un (d := 143) rfl]
  simp [b_Differ_least_differing, fD, differing_ok (k := k), hc, hq, blt2]
end K24
/-! K24P5: products of parts. -/
set_option Elab.async false
set_option linter.all false
set_option maxRecDepth 100000
set_option maxHeartbeats 1000000
namespace K24
def covE : Nat → List PT3 → Option Nat
  | e, [] => some e
  | e, p :: ps => if p.1 = e then covE (p.1 + p.2.1.length) ps else none
theorem covers_lp {k n : Nat} {A B : Option AV} {h : Hs} : ∀ {ps : List PT3} {e : Nat} (o : Option AV), ∃ (o' : Option AV), forL (LB prog (callF prog (k + 1)) (.one 3) (.cons (.ite (.cmp .ne (.attr (.var 3) 30) (.var 2)) (.cons (.ret (.lit (.bl false))) .nil) .nil) (.cons (.set 2 (.prop (.var 3) 65)) .nil))) (ps.map partD) [A, B, some (iI e), o] h =
    match covE e ps with | some e' => some (.nx [A, B, some (iI e'), o'] h) | none => some (.rt (.bl false) h)
  | [], e, o => ⟨o, by simp [covE]⟩
  | p :: ps, e, o => by
    obtain ⟨o', q⟩ := covers_lp (k := k) (n := n) (A := A) (B := B) (h := h) (ps := ps) (e := p.1 + p.2.1.length) (some (.d (partD p)))
    refine ⟨o', ?_⟩
    have a := after_ev (k := k) p h
    obtain ⟨s, c, r⟩ := p
    simp only [partD, Int.natCast_add] at a q
    by_cases c1 : s = e
    · subst c1
      simp [LB, partD, clsT, a, q, covE]
    · have c2 : ¬ ((s : Int) = (e : Int)) := by omega
      simp [LB, partD, clsT, covE, c1, c2]
theorem covers_ev {k n : Nat} {ps : List PT3} (h : Hs) : callF prog (k + 2) 125 [.d (fD (.parts ps)), iI n] h = some (.bl (decide (covE 0 ps = some n)), h) := by
  obtain ⟨o', q⟩ := covers_lp (k := k) (n := n) (A := some (.d (fD (.parts ps)))) (B := some (iI n)) (h := h) (ps := ps) (e := 0) none
  rw [un (d := 125) rfl]
  simp only [fD] at q ⊢
  simp [b_Parts_covers, itemsD]
  simp at q
  rw [q]
  cases covE 0 ps with
  | none => simp
  | some e =>
    simp
    constructor <;> intro z <;> omega
/-! ### the products -/
theorem dot_take_drop : ∀ (m : Nat) (a b : List Int), dot a b = dot (a.take m) (b.take m) + dot (a.drop m) (b.drop m)
  | 0, a, b => by simp [dot]
  | m + 1, [], b => by simp [dot]
  | m + 1, x :: a, [] => by simp [dot]
  | m + 1, x :: a, y :: b => by
    simp only [List.take_succ_cons, List.drop_succ_cons, dot]
    rw [dot_take_drop m a b]
    omega
theorem dot_vsub : ∀ {q c v : List Int}, c.length = q.length → c.length = v.length → dot q (vsub v c) = dot q v - dot c q
  | [], [], [], _, _ => rfl
  | y :: q, x :: c, z :: v, h1, h2 => by
    have ih := dot_vsub (q := q) (c := c) (v := v) (Nat.succ.inj h1) (Nat.succ.inj h2)
    simp only [dot, vsub]
    rw [ih]
    grind
def sumP (q v : List Int) : List PT3 → Int
  | [] => 0
  | p :: ps => dot (cutL q p.1 p.2.1.length) (cutL v p.1 p.2.1.length) + sumP q v ps
theorem sumP_eq {q v : List Int} : ∀ {ps : List PT3} {e e' : Nat}, covE e ps = some e' → dot (q.drop e) (v.drop e) = sumP q v ps + dot (q.drop e') (v.drop e')
  | [], e, e', h => by
    cases h
    simp [sumP]
  | p :: ps, e, e', h => by
    unfold covE at h
    split at h
    · rename_i c
      subst c
      have ih := sumP_eq (q := q) (v := v) h
      have e2 := dot_take_drop p.2.1.length (q.drop p.1) (v.drop p.1)
      rw [List.drop_drop, List.drop_drop] at e2
      show _ = dot ((q.drop p.1).take p.2.1.length) ((v.drop p.1).take p.2.1.length) + sumP q v ps + _
      omega
    · cases h
theorem part_prod {c q v : List Int} {R r : Int} (h1 : c.length = q.length) (h2 : c.length = v.length) (hr : dist c v ≤ R) (r0 : 0 ≤ r) (hlt : dot q q * R < (r + 1) * (r + 1)) : dot q v ≤ dot c q + r := by
  have hcs := cs q (vsub v c)
  rw [← dist_dot, dist_comm v c, dot_vsub h1 h2] at hcs
  by_cases g : dot q v - dot c q ≤ r
  · omega
  · exfalso
    have m1 := sq_mono (a := r + 1) (b := dot q v - dot c q) (by omega) (by omega)
    have m2 := nn (a := dot q q) (b := R - dist c v) (dot_nn q) (by omega)
    grind
theorem pprod_lp {k n : Nat} {q v : List Int} {A : Option AV} {h : Hs} (hq : q.length = n) (hv : v.length = n) (sq : Sm q) (hn : n ≤ 4) : ∀ {ps : List PT3} {e : Nat} (t : Int) (o : Option AV), PartsOk n e ps → PartsIn v ps →
    ∃ (t' : Int) (o' : Option AV), sumP q v ps ≤ t' - t ∧ forL (LB prog (callF prog (k + 2)) (.one 3) (.cons (.set 2 (.bin .add (.bin .add (.var 2) (.call 3 (.cons (.attr (.var 3) 31) (.cons (.meth (.var 3) 66 (.cons (.var 1) .nil)) .nil)))) (.call 2 (.cons (.bin .mul (.call 6 (.cons (.meth (.var 3) 66 (.cons (.var 1) .nil)) .nil)) (.attr (.var 3) 32)) .nil)))) .nil)) (ps.map partD) [A, some (iV q), some (iI t), o] h = some (.nx [A, some (iV q), some (iI t'), o'] h)
  | [], e, t, o, _, _ => ⟨t, o, by simp [sumP], by simp⟩
  | p :: ps, e, t, o, ⟨h1, h2, h3, h4, h5, h6⟩, hin => by
    have hc := cutL_len (v := q) (s := p.1) (n := p.2.1.length) (by omega)
    have hc2 := cutL_len (v := v) (s := p.1) (n := p.2.1.length) (by omega)
    have scq := sq.cut p.1 p.2.1.length
    have dl := (dot_le scq scq).1
    have q0 := dot_nn (cutL q p.1 p.2.1.length)
    have hm : 0 ≤ dot (cutL q p.1 p.2.1.length) (cutL q p.1 p.2.1.length) * p.2.2 := nn q0 h4
    have hm2 : dot (cutL q p.1 p.2.1.length) (cutL q p.1 p.2.1.length) * p.2.2 ≤ 4000000 * 100000000 := Int.mul_le_mul (by omega) h5 h4 (by omega)
    obtain ⟨r, re, r0, r1, r2⟩ := root_ok (k := k + 1) hm (by omega) h
    have gl := part_prod hc.symm hc2.symm (hin p (List.mem_cons_self ..)) r0 r2
    obtain ⟨t', o', tl, qq⟩ := pprod_lp (k := k) (A := A) (h := h) hq hv sq hn (t + dot p.2.1 (cutL q p.1 p.2.1.length) + r) (some (.d (partD p))) h6 (fun x hx => hin x (List.mem_cons_of_mem _ hx))
    refine ⟨t', o', by simp only [sumP]; omega, ?_⟩
    have a := cut_ev (k := k) p (v := q) (by omega) h
    have b := inner_ok (k := k + 1) (b := cutL q p.1 p.2.1.length) h3 h
    have c := norm_ok (k := k) scq h
    obtain ⟨s, cc, R⟩ := p
    simp only [partD] at a qq b c re
    have mo : mulOk (dot (cutL q s cc.length) (cutL q s cc.length)) R = true := mul_ok2 (by simp only at h4 h5; omega)
    simp [LB, partD, clsT, a, b, c, mo, re, qq]
theorem pprod_ev {k n : Nat} {q v : List Int} {ps : List PT3} (hq : q.length = n) (hv : v.length = n) (sq : Sm q) (hn : n ≤ 4) (ok : PartsOk n 0 ps) (hin : PartsIn v ps) (h : Hs) :
    callF prog (k + 3) 127 [.d (fD (.parts ps)), iV q] h = some (.non, h) ∨ ∃ g, callF prog (k + 3) 127 [.d (fD (.parts ps)), iV q] h = some (.int g, h) ∧ dot q v ≤ g := by
  obtain ⟨t', o', tl, qq⟩ := pprod_lp (k := k) (A := some (.d (fD (.parts ps)))) (h := h) hq hv sq hn 0 none ok hin
  have f := fits_ev (k := k) hq ok h
  have a := covers_ev (k := k) (n := n) (ps := ps) h
  rw [un (d := 127) rfl]
  simp only [fD] at qq f a ⊢
  by_cases c : covE 0 ps = some n
  · refine .inr ⟨t', ?_, ?_⟩
    · simp [b_Parts_most_product, itemsD, clsT, f, hq, a, c, qq]
    · have e := sumP_eq (q := q) (v := v) c
      rw [List.drop_of_length_le (by omega : q.length ≤ n)] at e
      simp [dot] at e
      omega
  · refine .inl ?_
    simp [b_Parts_most_product, itemsD, clsT, f, hq, a, c]
end K24
/-! K24P6: records, counts, names. -/
set_option Elab.async false
set_option linter.all false
set_option maxRecDepth 100000
set_option maxHeartbeats 1000000
namespace K24
/-! ### a record's values -/
def valD {α : Type} (f : α → D) : Option α → D
  | some x => f x
  | none => .non
theorem valueN_ev {k : Nat} (r : Rec) (h : Hs) : callF prog (k + 1) 53 [.d (recD r), sS [110]] h = some (valD .int r.n, h) := by
  rw [un (d := 53) rfl]
  obtain ⟨nm, v, n, t, ws⟩ := r
  cases n <;> cases t <;> simp [b_Record_value, recD, pairsD, itemsD, LB, valD]
theorem valueT_ev {k : Nat} (r : Rec) (h : Hs) : callF prog (k + 1) 53 [.d (recD r), sS [116]] h = some (valD .str r.t, h) := by
  rw [un (d := 53) rfl]
  obtain ⟨nm, v, n, t, ws⟩ := r
  cases n <;> cases t <;> simp [b_Record_value, recD, pairsD, itemsD, LB, valD]
def cntF (w : List Nat) : List (List Nat × Int) → Option Int
  | [] => none
  | p :: r => if p.1 = w then some p.2 else cntF w r
def cnt (w : List Nat) (ws : List (List Nat × Int)) : Int := match cntF w ws with
  | some c => c
  | none => 0
theorem cnt_lp {T : Prog} {call : CallT} {A : Option AV} {w : List Nat} {h : Hs} : ∀ {ws : List (List Nat × Int)} (o2 o3 : Option AV), ∃ o2' o3', forL (LB T call (.many [2, 3]) (.cons (.ite (.cmp .eq (.var 2) (.var 1)) (.cons (.ret (.var 3)) .nil) .nil) .nil)) (ws.map wordD) [A, some (sS w), o2, o3] h =
    match cntF w ws with | some c => some (.rt (.int c) h) | none => some (.nx [A, some (sS w), o2', o3'] h)
  | [], o2, o3 => ⟨o2, o3, by simp [cntF]⟩
  | p :: ws, o2, o3 => by
    obtain ⟨a, b, e⟩ := cnt_lp (T := T) (call := call) (A := A) (w := w) (h := h) (ws := ws) (some (sS p.1)) (some (iI p.2))
    refine ⟨a, b, ?_⟩
    by_cases c : p.1 = w
    · simp [LB, wordD, cntF, c]
    · simp [LB, wordD, cntF, c]
      exact e
theorem countOf_ev {k : Nat} (r : Rec) (w : List Nat) (h : Hs) : callF prog (k + 1) 54 [.d (recD r), sS w] h = some (.int (cnt w r.words), h) := by
  obtain ⟨a, b, e⟩ := cnt_lp (T := prog) (call := callF prog k) (A := some (.d (recD r))) (w := w) (h := h) (ws := r.words) none none
  rw [un (d := 54) rfl]
  simp only [recD] at e ⊢
  simp [b_Record_count_of, itemsD, e]
  unfold cnt
  cases cntF w r.words <;> simp
/-! ### counts -/
def cbF (w : List Nat) : Int → List (List Nat × Int) → Int
  | m, [] => m
  | m, p :: r => cbF w (if p.1 = w then (if m < p.2 then p.2 else m) else m) r
theorem cb_lp {T : Prog} {call : CallT} {A : Option AV} {w : List Nat} {h : Hs} : ∀ {ws : List (List Nat × Int)} (m : Int) (o3 o4 : Option AV), ∃ o3' o4', forL (LB T call (.many [3, 4]) (.cons (.ite (.cmp .eq (.var 3) (.var 1)) (.cons (.set 2 (.blt .max2 (.cons (.var 2) (.cons (.var 4) .nil)))) .nil) .nil) .nil)) (ws.map wordD) [A, some (sS w), some (iI m), o3, o4] h =
    some (.nx [A, some (sS w), some (iI (cbF w m ws)), o3', o4'] h)
  | [], m, o3, o4 => ⟨o3, o4, by simp [cbF]⟩
  | p :: ws, m, o3, o4 => by
    obtain ⟨a, b, e⟩ := cb_lp (T := T) (call := call) (A := A) (w := w) (h := h) (ws := ws) (if p.1 = w then (if m < p.2 then p.2 else m) else m) (some (sS p.1)) (some (iI p.2))
    refine ⟨a, b, ?_⟩
    by_cases c : p.1 = w
    · simp [c] at e
      simp [LB, wordD, cbF, c, blt2, e]
    · simp [c] at e
      simp [LB, wordD, cbF, c, e]
theorem countBound_ev {k : Nat} (ws : List (List Nat × Int)) (w : List Nat) (h : Hs) : callF prog (k + 1) 112 [.d (fD (.counts ws)), sS w] h = some (.int (cbF w 0 ws), h) := by
  obtain ⟨a, b, e⟩ := cb_lp (T := prog) (call := callF prog k) (A := some (.d (fD (.counts ws)))) (w := w) (h := h) (ws := ws) 0 none none
  rw [un (d := 112) rfl]
  simp only [fD] at e ⊢
  simp [b_Counts_count_bound, itemsD, e]
def nmB (w : List Nat) : List (List Nat × Int) → Bool
  | [] => false
  | p :: r => if p.1 = w then true else nmB w r
theorem nm_lp {T : Prog} {call : CallT} {A : Option AV} {w : List Nat} {h : Hs} : ∀ {ws : List (List Nat × Int)} (o2 o3 : Option AV), ∃ o2' o3', forL (LB T call (.many [2, 3]) (.cons (.ite (.cmp .eq (.var 2) (.var 1)) (.cons (.ret (.lit (.bl true))) .nil) .nil) .nil)) (ws.map wordD) [A, some (sS w), o2, o3] h =
    if nmB w ws = true then some (.rt (.bl true) h) else some (.nx [A, some (sS w), o2', o3'] h)
  | [], o2, o3 => ⟨o2, o3, by simp [nmB]⟩
  | p :: ws, o2, o3 => by
    obtain ⟨a, b, e⟩ := nm_lp (T := T) (call := call) (A := A) (w := w) (h := h) (ws := ws) (some (sS p.1)) (some (iI p.2))
    refine ⟨a, b, ?_⟩
    by_cases c : p.1 = w
    · simp [LB, wordD, nmB, c]
    · simp only [List.map_cons, forL_cons]
      simp [LB, wordD, nmB, c]
      exact e
theorem namesWord_ev {k : Nat} (ws : List (List Nat × Int)) (w : List Nat) (h : Hs) : callF prog (k + 1) 113 [.d (fD (.counts ws)), sS w] h = some (.bl (nmB w ws), h) := by
  obtain ⟨a, b, e⟩ := nm_lp (T := prog) (call := callF prog k) (A := some (.d (fD (.counts ws)))) (w := w) (h := h) (ws := ws) none none
  rw [un (d := 113) rfl]
  simp only [fD] at e ⊢
  simp [b_Counts_names_word, itemsD, e]
  cases nmB w ws <;> simp
def CountsIn (rs ws : List (List Nat × Int)) : Prop := ∀ p ∈ rs, nmB p.1 ws = true ∧ p.2 ≤ cbF p.1 0 ws
theorem kholds_lp {k : Nat} {ws : List (List Nat × Int)} {B : Option AV} {h : Hs} : ∀ {rs : List (List Nat × Int)} (o2 o3 : Option AV), CountsIn rs ws → ∃ o2' o3', forL (LB prog (callF prog (k + 1)) (.many [2, 3]) (.cons (.ite (.or (.not (.meth (.var 0) 64 (.cons (.var 2) .nil))) (.cmp .gt (.var 3) (.meth (.var 0) 59 (.cons (.var 2) .nil)))) (.cons (.ret (.lit (.bl false))) .nil) .nil) .nil)) (rs.map wordD) [some (.d (fD (.counts ws))), B, o2, o3] h =
    some (.nx [some (.d (fD (.counts ws))), B, o2', o3'] h)
  | [], o2, o3, _ => ⟨o2, o3, by simp⟩
  | p :: rs, o2, o3, hin => by
    obtain ⟨a, b, e⟩ := kholds_lp (k := k) (ws := ws) (B := B) (h := h) (rs := rs) (some (sS p.1)) (some (iI p.2)) (fun x hx => hin x (List.mem_cons_of_mem _ hx))
    refine ⟨a, b, ?_⟩
    have n := namesWord_ev (k := k) ws p.1 h
    have c := countBound_ev (k := k) ws p.1 h
    obtain ⟨i1, i2⟩ := hin p (List.mem_cons_self ..)
    have i3 : ¬ (cbF p.1 0 ws < p.2) := by omega
    simp only [fD] at n c e ⊢
    simp [LB, wordD, clsT, n, c, i1, i3, e]
theorem kholds_ev {k : Nat} {ws : List (List Nat × Int)} {r : Rec} (hin : CountsIn r.words ws) (h : Hs) : callF prog (k + 2) 114 [.d (fD (.counts ws)), .d (recD r)] h = some (.bl true, h) := by
  obtain ⟨a, b, e⟩ := kholds_lp (k := k) (ws := ws) (B := some (.d (recD r))) (h := h) (rs := r.words) none none hin
  rw [un (d := 114) rfl]
  simp only [fD, recD] at e ⊢
  simp [b_Counts_holds, itemsD, e]
theorem cbF_ge (w : List Nat) : ∀ (ws : List (List Nat × Int)) (m : Int), m ≤ cbF w m ws
  | [], m => Int.le_refl _
  | p :: ws, m => by
    have ih := cbF_ge w ws (if p.1 = w then (if m < p.2 then p.2 else m) else m)
    simp only [cbF]
    refine Int.le_trans ?_ ih
    split
    · split <;> omega
    · exact Int.le_refl _
theorem cntF_mem {w : List Nat} {c : Int} : ∀ {ws : List (List Nat × Int)}, cntF w ws = some c → (w, c) ∈ ws
  | [], e => by cases e
  | p :: ws, e => by
    unfold cntF at e
    split at e
    · rename_i q
      cases e
      rw [← q]
      exact List.mem_cons_self
    · exact List.mem_cons_of_mem _ (cntF_mem e)
theorem cnt_le {rs ws : List (List Nat × Int)} (hin : CountsIn rs ws) (w : List Nat) : cnt w rs ≤ cbF w 0 ws := by
  unfold cnt
  cases e : cntF w rs with
  | none => exact cbF_ge w ws 0
  | some c => exact (hin _ (cntF_mem e)).2
/-! ### names -/
theorem mholds_ev {k : Nat} {lo hi : List Nat} {r : Rec} (h1 : ltL r.name lo = false) (h2 : ltL hi r.name = false) (h : Hs) : callF prog (k + 1) 117 [.d (fD (.names lo hi)), .d (recD r)] h = some (.bl true, h) := by
  rw [un (d := 117) rfl]
  simp [b_Names_holds, fD, recD, h1, h2]
theorem nameBound_ev {k : Nat} {lo hi : List Nat} (h : Hs) : callF prog (k + 1) 116 [.d (fD (.names lo hi))] h = some (.str lo, h) := by
  rw [un (d := 116) rfl]
  simp [b_Names_name_bound, fD]
end K24
/-! K24P7: the conditions and what the facts tell of them. -/
set_option Elab.async false
set_option linter.all false
set_option maxRecDepth 100000
set_option maxHeartbeats 2000000
namespace K24
/-! ### isinstance -/
@[simp] theorem isA_nil (T : Prog) (x : D) : isA T x [] = some false := rfl
@[simp] theorem isA_cons (T : Prog) (x : D) (c : Nat) (cs : List Nat) : isA T x (c :: cs) = bnd (isI T x c) fun b => if b = true then some true else isA T x cs := by
  show bnd (isI T x c) _ = _
  congr; funext b
  cases b <;> rfl

@[simp] theorem isI_int0 (T : Prog) (i : Int) : isI T (.int i) 0 = some false := rfl
@[simp] theorem isI_int1 (T : Prog) (i : Int) : isI T (.int i) 1 = some false := rfl
@[simp] theorem isI_int2 (T : Prog) (i : Int) : isI T (.int i) 2 = some true := rfl
@[simp] theorem isI_str0 (T : Prog) (l : List Nat) : isI T (.str l) 0 = some false := rfl
@[simp] theorem isI_str1 (T : Prog) (l : List Nat) : isI T (.str l) 1 = some true := rfl
@[simp] theorem isI_str2 (T : Prog) (l : List Nat) : isI T (.str l) 2 = some false := rfl
@[simp] theorem isI_1_1 (fs : List (Nat × D)) : isI prog (.ins 1 fs) 4 = some true := rfl
@[simp] theorem isI_1_2 (fs : List (Nat × D)) : isI prog (.ins 1 fs) 5 = some false := rfl
@[simp] theorem isI_1_3 (fs : List (Nat × D)) : isI prog (.ins 1 fs) 6 = some false := rfl
@[simp] theorem isI_1_4 (fs : List (Nat × D)) : isI prog (.ins 1 fs) 7 = some false := rfl
@[simp] theorem isI_1_5 (fs : List (Nat × D)) : isI prog (.ins 1 fs) 8 = some false := rfl
@[simp] theorem isI_1_6 (fs : List (Nat × D)) : isI prog (.ins 1 fs) 9 = some false := rfl
@[simp] theorem isI_1_7 (fs : List (Nat × D)) : isI prog (.ins 1 fs) 10 = some false := rfl
@[simp] theorem isI_2_1 (fs : List (Nat × D)) : isI prog (.ins 2 fs) 4 = some false := rfl
@[simp] theorem isI_2_2 (fs : List (Nat × D)) : isI prog (.ins 2 fs) 5 = some true := rfl
@[simp] theorem isI_2_3 (fs : List (Nat × D)) : isI prog (.ins 2 fs) 6 = some false := rfl
@[simp] theorem isI_2_4 (fs : List (Nat × D)) : isI prog (.ins 2 fs) 7 = some false := rfl
@[simp] theorem isI_2_5 (fs : List (Nat × D)) : isI prog (.ins 2 fs) 8 = some false := rfl
@[simp] theorem isI_2_6 (fs : List (Nat × D)) : isI prog (.ins 2 fs) 9 = some false := rfl
@[simp] theorem isI_2_7 (fs : List (Nat × D)) : isI prog (.ins 2 fs) 10 = some false := rfl
@[simp] theorem isI_3_1 (fs : List (Nat × D)) : isI prog (.ins 3 fs) 4 = some false := rfl
@[simp] theorem isI_3_2 (fs : List (Nat × D)) : isI prog (.ins 3 fs) 5 = some false := rfl
@[simp] theorem isI_3_3 (fs : List (Nat × D)) : isI prog (.ins 3 fs) 6 = some true := rfl
@[simp] theorem isI_3_4 (fs : List (Nat × D)) : isI prog (.ins 3 fs) 7 = some false := rfl
@[simp] theorem isI_3_5 (fs : List (Nat × D)) : isI prog (.ins 3 fs) 8 = some false := rfl
@[simp] theorem isI_3_6 (fs : List (Nat × D)) : isI prog (.ins 3 fs) 9 = some false := rfl
@[simp] theorem isI_3_7 (fs : List (Nat × D)) : isI prog (.ins 3 fs) 10 = some false := rfl
@[simp] theorem isI_4_1 (fs : List (Nat × D)) : isI prog (.ins 4 fs) 4 = some false := rfl
@[simp] theorem isI_4_2 (fs : List (Nat × D)) : isI prog (.ins 4 fs) 5 = some false := rfl
@[simp] theorem isI_4_3 (fs : List (Nat × D)) : isI prog (.ins 4 fs) 6 = some false := rfl
@[simp] theorem isI_4_4 (fs : List (Nat × D)) : isI prog (.ins 4 fs) 7 = some true := rfl
@[simp] theorem isI_4_5 (fs : List (Nat × D)) : isI prog (.ins 4 fs) 8 = some false := rfl
@[simp] theorem isI_4_6 (fs : List (Nat × D)) : isI prog (.ins 4 fs) 9 = some false := rfl
@[simp] theorem isI_4_7 (fs : List (Nat × D)) : isI prog (.ins 4 fs) 10 = some false := rfl
@[simp] theorem isI_5_1 (fs : List (Nat × D)) : isI prog (.ins 5 fs) 4 = some false := rfl
@[simp] theorem isI_5_2 (fs : List (Nat × D)) : isI prog (.ins 5 fs) 5 = some false := rfl
@[simp] theorem isI_5_3 (fs : List (Nat × D)) : isI prog (.ins 5 fs) 6 = some false := rfl
@[simp] theorem isI_5_4 (fs : List (Nat × D)) : isI prog (.ins 5 fs) 7 = some false := rfl
@[simp] theorem isI_5_5 (fs : List (Nat × D)) : isI prog (.ins 5 fs) 8 = some true := rfl
@[simp] theorem isI_5_6 (fs : List (Nat × D)) : isI prog (.ins 5 fs) 9 = some false := rfl
@[simp] theorem isI_5_7 (fs : List (Nat × D)) : isI prog (.ins 5 fs) 10 = some false := rfl
@[simp] theorem isI_6_1 (fs : List (Nat × D)) : isI prog (.ins 6 fs) 4 = some false := rfl
@[simp] theorem isI_6_2 (fs : List (Nat × D)) : isI prog (.ins 6 fs) 5 = some false := rfl
@[simp] theorem isI_6_3 (fs : List (Nat × D)) : isI prog (.ins 6 fs) 6 = some false := rfl
@[simp] theorem isI_6_4 (fs : List (Nat × D)) : isI prog (.ins 6 fs) 7 = some false := rfl
@[simp] theorem isI_6_5 (fs : List (Nat × D)) : isI prog (.ins 6 fs) 8 = some false := rfl
@[simp] theorem isI_6_6 (fs : List (Nat × D)) : isI prog (.ins 6 fs) 9 = some true := rfl
@[simp] theorem isI_6_7 (fs : List (Nat × D)) : isI prog (.ins 6 fs) 10 = some false := rfl
@[simp] theorem isI_7_1 (fs : List (Nat × D)) : isI prog (.ins 7 fs) 4 = some false := rfl
@[simp] theorem isI_7_2 (fs : List (Nat × D)) : isI prog (.ins 7 fs) 5 = some false := rfl
@[simp] theorem isI_7_3 (fs : List (Nat × D)) : isI prog (.ins 7 fs) 6 = some false := rfl
@[simp] theorem isI_7_4 (fs : List (Nat × D)) : isI prog (.ins 7 fs) 7 = some false := rfl
@[simp] theorem isI_7_5 (fs : List (Nat × D)) : isI prog (.ins 7 fs) 8 = some false := rfl
@[simp] theorem isI_7_6 (fs : List (Nat × D)) : isI prog (.ins 7 fs) 9 = some false := rfl
@[simp] theorem isI_7_7 (fs : List (Nat × D)) : isI prog (.ins 7 fs) 10 = some true := rfl
theorem u0 (k : Nat) (vs : List AV) (h : Hs) : callF prog (k + 1) 0 vs h = runB prog (callF prog k) ⟨2, 2, b_same_value⟩ vs h := un rfl vs h
theorem u1 (k : Nat) (vs : List AV) (h : Hs) : callF prog (k + 1) 1 vs h = runB prog (callF prog k) ⟨3, 3, b_compare⟩ vs h := un rfl vs h
theorem u29 (k : Nat) (vs : List AV) (h : Hs) : callF prog (k + 1) 29 vs h = runB prog (callF prog k) ⟨2, 2, b_satisfies⟩ vs h := un rfl vs h
theorem u30 (k : Nat) (vs : List AV) (h : Hs) : callF prog (k + 1) 30 vs h = runB prog (callF prog k) ⟨2, 2, b_same_kind⟩ vs h := un rfl vs h
theorem u31 (k : Nat) (vs : List AV) (h : Hs) : callF prog (k + 1) 31 vs h = runB prog (callF prog k) ⟨2, 3, b_is_one_of⟩ vs h := un rfl vs h
theorem u32 (k : Nat) (vs : List AV) (h : Hs) : callF prog (k + 1) 32 vs h = runB prog (callF prog k) ⟨1, 1, b_is_integer⟩ vs h := un rfl vs h
theorem u33 (k : Nat) (vs : List AV) (h : Hs) : callF prog (k + 1) 33 vs h = runB prog (callF prog k) ⟨4, 4, b_range_passes⟩ vs h := un rfl vs h
theorem u34 (k : Nat) (vs : List AV) (h : Hs) : callF prog (k + 1) 34 vs h = runB prog (callF prog k) ⟨2, 2, b_is_about⟩ vs h := un rfl vs h
theorem u57 (k : Nat) (vs : List AV) (h : Hs) : callF prog (k + 1) 57 vs h = runB prog (callF prog k) ⟨2, 2, b_Has_passes⟩ vs h := un rfl vs h
theorem u59 (k : Nat) (vs : List AV) (h : Hs) : callF prog (k + 1) 59 vs h = runB prog (callF prog k) ⟨2, 3, b_Compare_passes⟩ vs h := un rfl vs h
theorem u61 (k : Nat) (vs : List AV) (h : Hs) : callF prog (k + 1) 61 vs h = runB prog (callF prog k) ⟨2, 4, b_OneOf_passes⟩ vs h := un rfl vs h
theorem u94 (k : Nat) (vs : List AV) (h : Hs) : callF prog (k + 1) 94 vs h = runB prog (callF prog k) ⟨2, 2, b_Fact_least_distance⟩ vs h := un rfl vs h
theorem u95 (k : Nat) (vs : List AV) (h : Hs) : callF prog (k + 1) 95 vs h = runB prog (callF prog k) ⟨2, 2, b_Fact_least_differing⟩ vs h := un rfl vs h
theorem u96 (k : Nat) (vs : List AV) (h : Hs) : callF prog (k + 1) 96 vs h = runB prog (callF prog k) ⟨2, 2, b_Fact_most_product⟩ vs h := un rfl vs h
theorem u97 (k : Nat) (vs : List AV) (h : Hs) : callF prog (k + 1) 97 vs h = runB prog (callF prog k) ⟨2, 2, b_Fact_count_bound⟩ vs h := un rfl vs h
theorem u98 (k : Nat) (vs : List AV) (h : Hs) : callF prog (k + 1) 98 vs h = runB prog (callF prog k) ⟨1, 1, b_Fact_name_bound⟩ vs h := un rfl vs h
theorem u99 (k : Nat) (vs : List AV) (h : Hs) : callF prog (k + 1) 99 vs h = runB prog (callF prog k) ⟨2, 2, b_Fact_outcomes⟩ vs h := un rfl vs h
theorem u102 (k : Nat) (vs : List AV) (h : Hs) : callF prog (k + 1) 102 vs h = runB prog (callF prog k) ⟨2, 4, b_FieldFact_field_outcomes⟩ vs h := un rfl vs h
theorem u104 (k : Nat) (vs : List AV) (h : Hs) : callF prog (k + 1) 104 vs h = runB prog (callF prog k) ⟨2, 3, b_Range_holds⟩ vs h := un rfl vs h
theorem u105 (k : Nat) (vs : List AV) (h : Hs) : callF prog (k + 1) 105 vs h = runB prog (callF prog k) ⟨2, 2, b_Range_outcomes⟩ vs h := un rfl vs h
theorem u106 (k : Nat) (vs : List AV) (h : Hs) : callF prog (k + 1) 106 vs h = runB prog (callF prog k) ⟨2, 5, b_Range_outcomes_of_present⟩ vs h := un rfl vs h
theorem u108 (k : Nat) (vs : List AV) (h : Hs) : callF prog (k + 1) 108 vs h = runB prog (callF prog k) ⟨2, 3, b_Values_holds⟩ vs h := un rfl vs h
theorem u109 (k : Nat) (vs : List AV) (h : Hs) : callF prog (k + 1) 109 vs h = runB prog (callF prog k) ⟨2, 2, b_Values_outcomes⟩ vs h := un rfl vs h
theorem u110 (k : Nat) (vs : List AV) (h : Hs) : callF prog (k + 1) 110 vs h = runB prog (callF prog k) ⟨2, 4, b_Values_outcomes_of_present⟩ vs h := un rfl vs h
/-! ### conditions -/
inductive Base where | hasN | hasT | lt2 | ne1 | ge1 | red | inT
def baseD : Base → D
  | .hasN => .ins 2 [(4, .str [110])]
  | .hasT => .ins 2 [(4, .str [116])]
  | .lt2 => .ins 3 [(4, .str [110]), (5, .str [60]), (6, .int 2)]
  | .ne1 => .ins 3 [(4, .str [110]), (5, .str [33, 61]), (6, .int (-1))]
  | .ge1 => .ins 3 [(4, .str [110]), (5, .str [62, 61]), (6, .int 1)]
  | .red => .ins 3 [(4, .str [116]), (5, .str [61]), (6, .str [114, 101, 100])]
  | .inT => .ins 4 [(4, .str [116]), (7, .tup [.str [], .str [97, 115, 104]])]
def passB (r : Rec) : Base → Bool
  | .hasN => r.n.isSome
  | .hasT => r.t.isSome
  | .lt2 => (match r.n with | some i => decide (i < 2) | none => false)
  | .ne1 => (match r.n with | some i => !decide (i = -1) | none => false)
  | .ge1 => (match r.n with | some i => decide (1 ≤ i) | none => false)
  | .red => (match r.t with | some l => decide (l = [114, 101, 100]) | none => false)
  | .inT => (match r.t with | some l => decide (l = []) || decide (l = [97, 115, 104]) | none => false)
def mB : Base → Nat
  | .hasN => 57
  | .hasT => 57
  | .inT => 61
  | _ => 59
theorem passB_ev {k : Nat} (r : Rec) (b : Base) (h : Hs) : callF prog (k + 3) (mB b) [.d (baseD b), .d (recD r)] h = some (.bl (passB r b), h) := by
  have vn := valueN_ev (k := k + 1) r h
  have vt := valueT_ev (k := k + 1) r h
  simp only [recD] at vn vt ⊢
  cases b with
  | hasN =>
    show callF prog (k + 3) 57 _ h = _
    rw [u57]
    simp [b_Has_passes, baseD, clsT, vn, passB]
    cases r.n <;> simp [valD]
  | hasT =>
    show callF prog (k + 3) 57 _ h = _
    rw [u57]
    simp [b_Has_passes, baseD, clsT, vt, passB]
    cases r.t <;> simp [valD]
  | lt2 =>
    show callF prog (k + 3) 59 _ h = _
    rw [u59]
    simp [b_Compare_passes, baseD, clsT, vn, passB]
    cases r.n <;> simp [valD, u1, b_compare]
  | ne1 =>
    show callF prog (k + 3) 59 _ h = _
    rw [u59]
    simp [b_Compare_passes, baseD, clsT, vn, passB]
    cases r.n <;> simp [valD, u1, b_compare]
  | ge1 =>
    show callF prog (k + 3) 59 _ h = _
    rw [u59]
    simp [b_Compare_passes, baseD, clsT, vn, passB]
    cases r.n <;> simp [valD, u1, b_compare]
  | red =>
    show callF prog (k + 3) 59 _ h = _
    rw [u59]
    simp [b_Compare_passes, baseD, clsT, vt, passB]
    cases r.t <;> simp [valD, u1, b_compare]
  | inT =>
    show callF prog (k + 3) 61 _ h = _
    rw [u61]
    simp [b_OneOf_passes, baseD, clsT, vt, passB, itemsD, LB]
    cases e : r.t with
    | none => simp [valD]
    | some l =>
      by_cases c1 : l = []
      · simp [valD, u0, b_same_value, c1, LB]
      · by_cases c2 : l = [97, 115, 104]
        · simp [valD, u0, b_same_value, c2, LB]
        · simp [valD, u0, b_same_value, c1, c2, LB]
/-! ### what a fact tells of a condition -/
abbrev sSome : List Nat := [115, 111, 109, 101]
abbrev sNobody : List Nat := [110, 111, 98, 111, 100, 121]
abbrev sAll : List Nat := [97, 108, 108]
def pairD : Option (Bool × Bool) → D
  | some p => .tup [.bl p.1, .bl p.2]
  | none => .non
/-- passing is told where it passes, failing where it fails -/
def Tells (v : Option (Bool × Bool)) (b : Bool) : Prop := ∀ p, v = some p → (b = true → p.1 = true) ∧ (b = false → p.2 = true)
def RangeIn (n : Option Int) (lo hi : Int) (lack : List Nat) : Prop := match n with
  | some i => lack ≠ sAll ∧ lo ≤ i ∧ i ≤ hi
  | none => lack ≠ sNobody
theorem rholds_ev {k : Nat} {lo hi : Int} {lack : List Nat} {r : Rec} (hin : RangeIn r.n lo hi lack) (h : Hs) : callF prog (k + 3) 104 [.d (fD (.range lo hi lack)), .d (recD r)] h = some (.bl true, h) := by
  have vn := valueN_ev (k := k + 1) r h
  simp only [recD] at vn ⊢
  rw [u104]
  simp [b_Range_holds, fD, clsT, vn]
  cases e : r.n with
  | none =>
    rw [e] at hin
    have hin : lack ≠ sNobody := hin
    simp [valD, hin]
  | some i =>
    rw [e] at hin
    obtain ⟨h1, h2, h3⟩ := (show lack ≠ sAll ∧ lo ≤ i ∧ i ≤ hi from hin)
    simp [valD, u32, b_is_integer, h1, h2, h3]
def outR (lo hi : Int) (lack : List Nat) (b : Base) : Option (Bool × Bool) := match b with
  | .hasN => some (if lack = sAll then (false, true) else (true, decide (lack = sSome)))
  | .lt2 => some (if lack = sAll then (false, true) else (decide (lo < 2), decide (2 ≤ hi) || decide (lack = sSome)))
  | .ne1 => some (if lack = sAll then (false, true) else (!(decide (lo = -1) && decide (-1 = hi)), (decide (lo ≤ -1) && decide (-1 ≤ hi)) || decide (lack = sSome)))
  | .ge1 => some (if lack = sAll then (false, true) else (decide (1 ≤ hi), decide (lo < 1) || decide (lack = sSome)))
  | _ => none
theorem prog_dicts : prog.dicts = dictsT := rfl
@[simp] theorem lookS_cons (m g : List Nat) (x : D) (r : List (List Nat × D)) : lookS m ((g, x) :: r) = if g = m then some x else lookS m r := by
  show (match decide (g = m) with | true => some x | false => lookS m r) = _
  by_cases e : g = m <;> simp [e]
theorem field_ev {k : Nat} {lo hi : Int} {lack : List Nat} (hl : lack = sSome ∨ lack = sNobody ∨ lack = sAll) (b : Base) (h : Hs) : callF prog (k + 4) 102 [.d (fD (.range lo hi lack)), .d (baseD b)] h = some (pairD (outR lo hi lack b), h) := by
  rw [u102]
  cases b with
  | hasN => rcases hl with rfl | rfl | rfl <;> simp [b_FieldFact_field_outcomes, fD, baseD, clsT, u34, b_is_about, outR, pairD]
  | hasT => rcases hl with rfl | rfl | rfl <;> simp [b_FieldFact_field_outcomes, fD, baseD, clsT, u34, b_is_about, outR, pairD]
  | red => rcases hl with rfl | rfl | rfl <;> simp [b_FieldFact_field_outcomes, fD, baseD, clsT, u34, b_is_about, outR, pairD]
  | inT => rcases hl with rfl | rfl | rfl <;> simp [b_FieldFact_field_outcomes, fD, baseD, clsT, u34, b_is_about, outR, pairD]
  | lt2 => rcases hl with rfl | rfl | rfl <;> by_cases c1 : 2 ≤ hi <;> simp [b_FieldFact_field_outcomes, fD, baseD, clsT, u34, b_is_about, u106, b_Range_outcomes_of_present, u32, b_is_integer, u33, b_range_passes, prog_dicts, dictsT, outR, pairD, c1]
  | ge1 => rcases hl with rfl | rfl | rfl <;> by_cases c1 : lo < 1 <;> simp [b_FieldFact_field_outcomes, fD, baseD, clsT, u34, b_is_about, u106, b_Range_outcomes_of_present, u32, b_is_integer, u33, b_range_passes, prog_dicts, dictsT, outR, pairD, c1]
  | ne1 => rcases hl with rfl | rfl | rfl <;> by_cases c1 : lo = -1 <;> by_cases c2 : lo ≤ -1 <;> by_cases c3 : -1 ≤ hi <;> simp [b_FieldFact_field_outcomes, fD, baseD, clsT, u34, b_is_about, u106, b_Range_outcomes_of_present, u32, b_is_integer, u33, b_range_passes, prog_dicts, dictsT, outR, pairD, c1, c2, c3]
theorem range_out {k : Nat} {lo hi : Int} {lack : List Nat} (hl : lack = sSome ∨ lack = sNobody ∨ lack = sAll) (b : Base) (h : Hs) : callF prog (k + 5) 105 [.d (fD (.range lo hi lack)), .d (baseD b)] h = some (pairD (outR lo hi lack b), h) := by
  have f := field_ev (k := k) (lo := lo) (hi := hi) hl b h
  rw [u105]
  simp only [fD] at f ⊢
  simp [b_Range_outcomes, clsT, f]
theorem range_tells {lo hi : Int} {lack : List Nat} {r : Rec} (hl : lack = sSome ∨ lack = sNobody ∨ lack = sAll) (hin : RangeIn r.n lo hi lack) (b : Base) : Tells (outR lo hi lack b) (passB r b) := by
  intro p e
  unfold RangeIn at hin
  cases hn : r.n with
  | none =>
    rw [hn] at hin
    rcases hl with rfl | rfl | rfl <;> cases b <;> simp [outR, passB, hn] at hin e ⊢ <;> subst e <;> simp
  | some i =>
    rw [hn] at hin
    rcases hl with rfl | rfl | rfl <;> cases b <;> simp [outR, passB, hn] at hin e ⊢ <;> subst e <;> simp <;> omega
end K24
/-! K24P8: values. -/
set_option Elab.async false
set_option linter.all false
set_option maxRecDepth 100000
set_option maxHeartbeats 2000000
namespace K24
@[simp] theorem wipe_nil (s : Sl) : wipeS s [] = s := rfl
@[simp] theorem wipe_cons (s : Sl) (i : Nat) (is : List Nat) : wipeS s (i :: is) = (wipeS s is).set i none := rfl
@[simp] theorem slots_one (i : Nat) : Tg.slots (.one i) = [i] := rfl
@[simp] theorem slots_many (is : List Nat) : Tg.slots (.many is) = is := rfl
theorem one_lp {k : Nat} {l : List Nat} {A : Option AV} {h : Hs} : ∀ {cs : List (List Nat)} (o : Option AV), ∃ o', forL (LB prog (callF prog (k + 1)) (.one 2) (.cons (.ite (.call 0 (.cons (.var 0) (.cons (.var 2) .nil))) (.cons (.ret (.lit (.bl true))) .nil) .nil) .nil)) (cs.map .str) [some (sS l), A, o] h =
    if l ∈ cs then some (.rt (.bl true) h) else some (.nx [some (sS l), A, o'] h)
  | [], o => ⟨o, by simp⟩
  | c :: cs, o => by
    obtain ⟨o', e⟩ := one_lp (k := k) (l := l) (A := A) (h := h) (cs := cs) (some (sS c))
    refine ⟨o', ?_⟩
    by_cases q : l = c
    · subst q
      simp [LB, u0, b_same_value]
    · simp only [List.map_cons, forL_cons]
      simp [LB, u0, b_same_value, q]
      exact e
theorem oneOf_ev {k : Nat} {l : List Nat} {cs : List (List Nat)} (h : Hs) : callF prog (k + 2) 31 [sS l, .d (.tup (cs.map .str))] h = some (.bl (decide (l ∈ cs)), h) := by
  obtain ⟨o', e⟩ := one_lp (k := k) (l := l) (A := some (.d (.tup (cs.map .str)))) (h := h) (cs := cs) none
  rw [u31]
  simp [b_is_one_of, itemsD, e]
  by_cases q : l ∈ cs <;> simp [q]
def ValuesIn (t : Option (List Nat)) (cs : List (List Nat)) (lack : List Nat) : Prop := match t with
  | some l => lack ≠ sAll ∧ l ∈ cs
  | none => lack ≠ sNobody
theorem vholds_ev {k : Nat} {cs : List (List Nat)} {lack : List Nat} {r : Rec} (hin : ValuesIn r.t cs lack) (h : Hs) : callF prog (k + 3) 108 [.d (fD (.values cs lack)), .d (recD r)] h = some (.bl true, h) := by
  have vt := valueT_ev (k := k + 1) r h
  have oo := fun l => oneOf_ev (k := k) (l := l) (cs := cs) h
  simp only [recD] at vt ⊢
  rw [u108]
  simp [b_Values_holds, fD, clsT, vt]
  cases e : r.t with
  | none =>
    rw [e] at hin
    have hin : lack ≠ sNobody := hin
    simp [valD, hin]
  | some l =>
    rw [e] at hin
    obtain ⟨h1, h2⟩ := (show lack ≠ sAll ∧ l ∈ cs from hin)
    simp [valD, oo, h1, h2]
def satB (b : Base) (l : List Nat) : Bool := match b with
  | .red => decide (l = [114, 101, 100])
  | .inT => decide (l ∈ [[], [97, 115, 104]])
  | _ => false
theorem sat_ev {k : Nat} {l : List Nat} {b : Base} (hb : b = .red ∨ b = .inT) (h : Hs) : callF prog (k + 3) 29 [.d (baseD b), sS l] h = some (.bl (satB b l), h) := by
  have oo := oneOf_ev (k := k) (l := l) (cs := [[], [97, 115, 104]]) h
  simp only [List.map_cons, List.map_nil] at oo
  rw [u29]
  rcases hb with rfl | rfl
  · simp [b_satisfies, baseD, u30, b_same_kind, u1, b_compare, satB]
  · simp [b_satisfies, baseD, oo, satB]
theorem sat_lp {k : Nat} {b : Base} (hb : b = .red ∨ b = .inT) {A o2 o3 : Option AV} {h : Hs} : ∀ {cs : List (List Nat)}, compL (CB prog (callF prog (k + 3)) (.var 3) (.one 3) (.yes (.call 29 (.cons (.var 1) (.cons (.var 3) .nil)))) [A, some (.d (baseD b)), o2, o3]) (cs.map .str) h = some ((cs.filter (satB b)).map .str, h)
  | [] => rfl
  | c :: cs => by
    have ih := sat_lp (k := k) hb (A := A) (o2 := o2) (o3 := o3) (h := h) (cs := cs)
    simp only [List.map_cons, compL_cons]
    simp [CB, sat_ev (k := k) (l := c) hb, ih]
    cases q : satB b c <;> simp [q, ih]
def outV (cs : List (List Nat)) (lack : List Nat) (b : Base) : Option (Bool × Bool) := match b with
  | .hasT => some (if lack = sAll then (false, true) else (true, decide (lack = sSome)))
  | .red => some (if lack = sAll then (false, true) else (decide (0 < (cs.filter (satB .red)).length), decide ((cs.filter (satB .red)).length < cs.length) || decide (lack = sSome)))
  | .inT => some (if lack = sAll then (false, true) else (decide (0 < (cs.filter (satB .inT)).length), decide ((cs.filter (satB .inT)).length < cs.length) || decide (lack = sSome)))
  | _ => none
theorem vfield_ev {k : Nat} {cs : List (List Nat)} {lack : List Nat} (hl : lack = sSome ∨ lack = sNobody ∨ lack = sAll) (b : Base) (h : Hs) : callF prog (k + 5) 102 [.d (fD (.values cs lack)), .d (baseD b)] h = some (pairD (outV cs lack b), h) := by
  have s1 := sat_lp (k := k) (b := .red) (.inl rfl) (A := some (.d (fD (.values cs lack)))) (o2 := none) (o3 := none) (h := h) (cs := cs)
  have s2 := sat_lp (k := k) (b := .inT) (.inr rfl) (A := some (.d (fD (.values cs lack)))) (o2 := none) (o3 := none) (h := h) (cs := cs)
  simp only [fD, baseD] at s1 s2 ⊢
  rw [u102]
  cases b with
  | red =>
    by_cases c : (cs.filter (satB .red)).length < cs.length <;>
    rcases hl with rfl | rfl | rfl <;> simp [b_FieldFact_field_outcomes, baseD, clsT, u34, b_is_about, u110, b_Values_outcomes_of_present, itemsD, s1, outV, pairD, c]
  | inT =>
    by_cases c : (cs.filter (satB .inT)).length < cs.length <;>
    rcases hl with rfl | rfl | rfl <;> simp [b_FieldFact_field_outcomes, baseD, clsT, u34, b_is_about, u110, b_Values_outcomes_of_present, itemsD, s2, outV, pairD, c]
  | _ => rcases hl with rfl | rfl | rfl <;> simp [b_FieldFact_field_outcomes, baseD, clsT, u34, b_is_about, outV, pairD]
theorem values_out {k : Nat} {cs : List (List Nat)} {lack : List Nat} (hl : lack = sSome ∨ lack = sNobody ∨ lack = sAll) (b : Base) (h : Hs) : callF prog (k + 6) 109 [.d (fD (.values cs lack)), .d (baseD b)] h = some (pairD (outV cs lack b), h) := by
  have f := vfield_ev (k := k) (cs := cs) hl b h
  rw [u109]
  simp only [fD] at f ⊢
  simp [b_Values_outcomes, clsT, f]
theorem filt_pos {f : List Nat → Bool} {l : List Nat} {cs : List (List Nat)} (h : l ∈ cs) (q : f l = true) : 0 < (cs.filter f).length := by
  have : l ∈ cs.filter f := List.mem_filter.mpr ⟨h, q⟩
  exact List.length_pos_of_mem this
theorem filt_lt {f : List Nat → Bool} {l : List Nat} : ∀ {cs : List (List Nat)}, l ∈ cs → f l = false → (cs.filter f).length < cs.length
  | [], h, _ => by cases h
  | c :: cs, h, q => by
    have le := List.length_filter_le f cs
    rcases List.mem_cons.mp h with e | e
    · subst e
      rw [List.filter_cons_of_neg (by rw [q]; exact Bool.false_ne_true)]
      exact Nat.lt_succ_of_le le
    · have ih := filt_lt e q
      cases z : f c with
      | true =>
        rw [List.filter_cons_of_pos z]
        exact Nat.succ_lt_succ ih
      | false =>
        rw [List.filter_cons_of_neg (by rw [z]; exact Bool.false_ne_true)]
        exact Nat.lt_succ_of_lt ih
theorem pass_sat {r : Rec} {l : List Nat} (ht : r.t = some l) : passB r .red = satB .red l ∧ passB r .inT = satB .inT l := by
  constructor <;> simp [passB, satB, ht]
theorem values_tells {cs : List (List Nat)} {lack : List Nat} {r : Rec} (hl : lack = sSome ∨ lack = sNobody ∨ lack = sAll) (hin : ValuesIn r.t cs lack) (b : Base) : Tells (outV cs lack b) (passB r b) := by
  intro p e
  unfold ValuesIn at hin
  cases ht : r.t with
  | none =>
    rw [ht] at hin
    rcases hl with rfl | rfl | rfl <;> cases b <;> simp [outV, passB, ht] at hin e ⊢ <;> subst e <;> simp
  | some l =>
    rw [ht] at hin
    obtain ⟨p1, p2⟩ := pass_sat ht
    cases b with
    | red =>
      rw [p1]
      have a1 : satB .red l = true → 0 < (cs.filter (satB .red)).length := fun z => filt_pos hin.2 z
      have a2 : satB .red l = false → (cs.filter (satB .red)).length < cs.length := fun z => filt_lt hin.2 z
      simp only [outV, if_neg hin.1] at e
      cases e
      exact ⟨fun z => by simpa using a1 z, fun z => by simp [a2 z]⟩
    | inT =>
      rw [p2]
      have a1 : satB .inT l = true → 0 < (cs.filter (satB .inT)).length := fun z => filt_pos hin.2 z
      have a2 : satB .inT l = false → (cs.filter (satB .inT)).length < cs.length := fun z => filt_lt hin.2 z
      simp only [outV, if_neg hin.1] at e
      cases e
      exact ⟨fun z => by simpa using a1 z, fun z => by simp [a2 z]⟩
    | hasT =>
      simp only [outV, if_neg hin.1] at e
      cases e
      simp [passB, ht]
    | _ => cases e
end K24
/-! K24P9: any fact: what its methods give. -/
set_option Elab.async false
set_option linter.all false
set_option maxRecDepth 100000
set_option maxHeartbeats 2000000
namespace K24
def LackOk (lack : List Nat) : Prop := lack = sSome ∨ lack = sNobody ∨ lack = sAll
/-- a fact that is well formed for n signs and holds of r -/
def Good (n : Nat) (r : Rec) : FactL → Prop
  | .parts ps => PartsOk n 0 ps ∧ PartsIn r.vec ps
  | .cell a b => a.length = n ∧ b.length = n ∧ Sm a ∧ Sm b ∧ dist r.vec a ≤ dist r.vec b
  | .box a b => a.length = n ∧ b.length = n ∧ Sm a ∧ Sm b ∧ BoxIn r.vec a b
  | .norms lo hi => 0 ≤ lo ∧ hi ≤ 100000000 ∧ lo ≤ dot r.vec r.vec ∧ dot r.vec r.vec ≤ hi
  | .differ c m => c.length = n ∧ diff c r.vec ≤ m
  | .range lo hi lack => LackOk lack ∧ RangeIn r.n lo hi lack
  | .values cs lack => LackOk lack ∧ ValuesIn r.t cs lack
  | .counts ws => CountsIn r.words ws
  | .names lo hi => ltL r.name lo = false ∧ ltL hi r.name = false
structure VecOk (n : Nat) (v : List Int) : Prop where
  len : v.length = n
  sm : Sm v
def Mt (k : Nat) (f : FactL) (m : Nat) (vs : List AV) (h : Hs) (v : D) : Prop := ∀ (β : Type) (g : D × Hs → Option β), (bnd (insOf h (.d (fD f))) fun q => bnd (clsT[q.1]?) fun ci => bnd (look2 m ci.meths) fun d => bnd (callF prog k d (.d (fD f) :: vs) h) g) = g (v, h)
theorem mt_of {k : Nat} {f : FactL} {m d c : Nat} {ci : ClsI} {fs : List (Nat × D)} {vs : List AV} {h : Hs} {v : D} (h1 : fD f = .ins c fs) (h2 : clsT[c]? = some ci) (h3 : look2 m ci.meths = some d) (h4 : callF prog k d (.d (fD f) :: vs) h = some (v, h)) : Mt k f m vs h v := by
  intro β g
  rw [h1] at h4 ⊢
  simp [h2, h3, h4]
theorem m_holds {k n : Nat} {r : Rec} {f : FactL} (hv : VecOk n r.vec) (g : Good n r f) (h : Hs) : Mt (k + 8) f 55 [.d (recD r)] h (.bl true) := by
  cases f with
  | parts ps => exact mt_of rfl rfl rfl (pholds_ev (k := k + 5) hv.len hv.sm g.1 g.2 h)
  | cell a b => exact mt_of rfl rfl rfl (cholds_ev (k := k + 6) g.1 g.2.1 hv.len g.2.2.1 g.2.2.2.1 hv.sm g.2.2.2.2 h)
  | box a b => exact mt_of rfl rfl rfl (bholds_ev (k := k + 6) g.1 g.2.1 hv.len g.2.2.2.2 h)
  | norms lo hi => exact mt_of rfl rfl rfl (nholds_ev (k := k + 5) hv.sm g.2.2.1 g.2.2.2 h)
  | differ c m => exact mt_of rfl rfl rfl (dholds_ev (k := k + 6) g.1 hv.len g.2 h)
  | range lo hi lack => exact mt_of rfl rfl rfl (rholds_ev (k := k + 5) g.2 h)
  | values cs lack => exact mt_of rfl rfl rfl (vholds_ev (k := k + 5) g.2 h)
  | counts ws => exact mt_of rfl rfl rfl (kholds_ev (k := k + 6) g h)
  | names lo hi => exact mt_of rfl rfl rfl (mholds_ev (k := k + 7) g.1 g.2 h)
theorem zero_dist {k : Nat} (x y : AV) (h : Hs) : callF prog (k + 1) 94 [x, y] h = some (.int 0, h) := by
  rw [u94]
  simp [b_Fact_least_distance]
theorem m_least {k n : Nat} {r : Rec} {f : FactL} {q : List Int} (hn : n ≤ 4) (hv : VecOk n r.vec) (hq : VecOk n q) (g : Good n r f) (h : Hs) : ∃ x, Mt (k + 8) f 56 [iV q] h (.int x) ∧ x ≤ dist q r.vec := by
  have z := dist_nn q r.vec
  cases f with
  | parts ps =>
    obtain ⟨x, e, l⟩ := pleast_ev (k := k + 5) hq.len hv.len hq.sm hn g.1 g.2 h
    exact ⟨x, mt_of rfl rfl rfl e, l⟩
  | cell a b =>
    obtain ⟨x, e, l⟩ := cleast_ev (k := k + 6) g.1 g.2.1 hq.len hv.len hn g.2.2.1 g.2.2.2.1 hq.sm g.2.2.2.2 h
    exact ⟨x, mt_of rfl rfl rfl e, l⟩
  | box a b =>
    obtain ⟨x, e, l⟩ := bleast_ev (k := k + 6) g.1 g.2.1 hq.len hv.len g.2.2.1 g.2.2.2.1 hq.sm g.2.2.2.2 h
    exact ⟨x, mt_of rfl rfl rfl e, l⟩
  | norms lo hi =>
    obtain ⟨x, e, l⟩ := nleast_ev (k := k + 5) hq.len hv.len hn hq.sm hv.sm g.1 g.2.1 g.2.2.1 g.2.2.2 h
    exact ⟨x, mt_of rfl rfl rfl e, l⟩
  | _ => exact ⟨0, mt_of rfl rfl rfl (zero_dist (k := k + 7) _ _ h), z⟩
/-- signs 0 and 1 -/
def Bits (v : List Int) : Prop := ∀ x ∈ v, x = 0 ∨ x = 1
theorem dist_bits : ∀ {q v : List Int}, Bits q → Bits v → dist q v = diff q v
  | [], _, _, _ => by simp [dist, diff]
  | _ :: _, [], _, _ => by simp [dist, diff]
  | x :: q, y :: v, hq, hv => by
    have ih := dist_bits (q := q) (v := v) (fun z hz => hq z (List.mem_cons_of_mem _ hz)) (fun z hz => hv z (List.mem_cons_of_mem _ hz))
    have h1 := hq x (List.mem_cons_self ..)
    have h2 := hv y (List.mem_cons_self ..)
    simp only [dist, diff]
    rw [ih]
    rcases h1 with rfl | rfl <;> rcases h2 with rfl | rfl <;> simp
theorem via_dist {k : Nat} {f : FactL} {q : List Int} {x : Int} {h : Hs} (e : Mt (k + 8) f 56 [iV q] h (.int x)) : callF prog (k + 9) 95 [.d (fD f), iV q] h = some (.int x, h) := by
  rw [u95]
  simp [b_Fact_least_differing]
  rw [e _ (fun z => some (AV.d z.fst, z.snd))]
  simp
theorem m_differ {k n : Nat} {r : Rec} {f : FactL} {q : List Int} (hn : n ≤ 4) (hv : VecOk n r.vec) (hq : VecOk n q) (bq : Bits q) (bv : Bits r.vec) (g : Good n r f) (h : Hs) : ∃ x, Mt (k + 9) f 57 [iV q] h (.int x) ∧ x ≤ diff q r.vec := by
  by_cases c : ∃ c m, f = .differ c m
  · obtain ⟨c, m, rfl⟩ := c
    obtain ⟨x, e, l⟩ := dleast_ev (k := k + 7) g.1 hq.len hv.len g.2 h
    exact ⟨x, mt_of rfl rfl rfl e, l⟩
  · obtain ⟨x, e, l⟩ := m_least (k := k) hn hv hq g h
    rw [dist_bits bq bv] at l
    refine ⟨x, ?_, l⟩
    have z := via_dist e
    cases f with
    | differ c' m' => exact (c ⟨c', m', rfl⟩).elim
    | _ => exact mt_of rfl rfl rfl z
theorem none_prod {k : Nat} (x y : AV) (h : Hs) : callF prog (k + 1) 96 [x, y] h = some (.non, h) := by
  rw [u96]
  simp [b_Fact_most_product]
theorem m_prod {k n : Nat} {r : Rec} {f : FactL} {q : List Int} (hn : n ≤ 4) (hv : VecOk n r.vec) (hq : VecOk n q) (g : Good n r f) (h : Hs) : ∃ x, Mt (k + 8) f 58 [iV q] h (valD .int x) ∧ ∀ y, x = some y → dot q r.vec ≤ y := by
  cases f with
  | parts ps =>
    rcases pprod_ev (k := k + 5) hq.len hv.len hq.sm hn g.1 g.2 h with e | ⟨x, e, l⟩
    · exact ⟨none, mt_of rfl rfl rfl e, fun _ z => nomatch z⟩
    · exact ⟨some x, mt_of rfl rfl rfl e, fun y z => by cases z; exact l⟩
  | box a b =>
    obtain ⟨x, e, l⟩ := bprod_ev (k := k + 6) g.1 g.2.1 hq.len hv.len g.2.2.1 g.2.2.2.1 g.2.2.2.2 h
    exact ⟨some x, mt_of rfl rfl rfl e, fun y z => by cases z; exact l⟩
  | norms lo hi =>
    obtain ⟨x, e, l⟩ := nprod_ev (k := k + 5) (lo := lo) (v := r.vec) hq.len hn hq.sm g.2.1 g.2.2.2 h
    exact ⟨some x, mt_of rfl rfl rfl e, fun y z => by cases z; exact l⟩
  | _ => exact ⟨none, mt_of rfl rfl rfl (none_prod (k := k + 7) _ _ h), fun _ z => nomatch z⟩
theorem none_count {k : Nat} (x y : AV) (h : Hs) : callF prog (k + 1) 97 [x, y] h = some (.non, h) := by
  rw [u97]
  simp [b_Fact_count_bound]
theorem m_count {k n : Nat} {r : Rec} {f : FactL} (w : List Nat) (g : Good n r f) (h : Hs) : ∃ x, Mt (k + 8) f 59 [sS w] h (valD .int x) ∧ ∀ y, x = some y → cnt w r.words ≤ y := by
  cases f with
  | counts ws => exact ⟨some _, mt_of rfl rfl rfl (countBound_ev (k := k + 7) ws w h), fun y z => by cases z; exact cnt_le g w⟩
  | _ => exact ⟨none, mt_of rfl rfl rfl (none_count (k := k + 7) _ _ h), fun _ z => nomatch z⟩
theorem none_name {k : Nat} (x : AV) (h : Hs) : callF prog (k + 1) 98 [x] h = some (.non, h) := by
  rw [u98]
  simp [b_Fact_name_bound]
theorem m_name {k n : Nat} {r : Rec} {f : FactL} (g : Good n r f) (h : Hs) : ∃ x, Mt (k + 8) f 60 [] h (valD .str x) ∧ ∀ y, x = some y → ltL r.name y = false := by
  cases f with
  | names lo hi => exact ⟨some lo, mt_of rfl rfl rfl (nameBound_ev (k := k + 7) h), fun y z => by cases z; exact g.1⟩
  | _ => exact ⟨none, mt_of rfl rfl rfl (none_name (k := k + 7) _ h), fun _ z => nomatch z⟩
theorem none_out {k : Nat} (x y : AV) (h : Hs) : callF prog (k + 1) 99 [x, y] h = some (.non, h) := by
  rw [u99]
  simp [b_Fact_outcomes]
theorem m_out {k n : Nat} {r : Rec} {f : FactL} (b : Base) (g : Good n r f) (h : Hs) : ∃ x, Mt (k + 8) f 61 [.d (baseD b)] h (pairD x) ∧ Tells x (passB r b) := by
  cases f with
  | range lo hi lack => exact ⟨_, mt_of rfl rfl rfl (range_out (k := k + 3) g.1 b h), range_tells g.1 g.2 b⟩
  | values cs lack => exact ⟨_, mt_of rfl rfl rfl (values_out (k := k + 2) g.1 b h), values_tells g.1 g.2 b⟩
  | _ => exact ⟨none, mt_of rfl rfl rfl (none_out (k := k + 7) _ _ h), fun _ z => nomatch z⟩
end K24
/-! K24P10: conditions put together; bounds over a list of facts. -/
set_option Elab.async false
set_option linter.all false
set_option maxRecDepth 100000
set_option maxHeartbeats 2000000
namespace K24
def AllGood (n : Nat) (r : Rec) (fs : List FactL) : Prop := ∀ f ∈ fs, Good n r f
/-! ### outcomes -/
theorem outs_lp {k n : Nat} {r : Rec} {b : Base} {B : Option AV} {h : Hs} : ∀ {fs : List FactL} (p q : Bool) (o4 o5 : Option AV), AllGood n r fs → (passB r b = true → p = true) → (passB r b = false → q = true) → ∃ p' q' o4' o5', (passB r b = true → p' = true) ∧ (passB r b = false → q' = true) ∧
    forL (LB prog (callF prog (k + 8)) (.one 4) (.cons (.set 5 (.meth (.var 4) 61 (.cons (.var 0) .nil))) (.cons (.ite (.notN (.var 5)) (.cons (.set 2 (.and (.var 2) (.idx (.var 5) (.lit (.int 0))))) (.cons (.set 3 (.and (.var 3) (.idx (.var 5) (.lit (.int 1))))) .nil)) .nil) .nil))) (fs.map fD) [some (.d (baseD b)), B, some (bB p), some (bB q), o4, o5] h =
      some (.nx [some (.d (baseD b)), B, some (bB p'), some (bB q'), o4', o5'] h)
  | [], p, q, o4, o5, _, h1, h2 => ⟨p, q, o4, o5, h1, h2, by simp⟩
  | f :: fs, p, q, o4, o5, hg, h1, h2 => by
    obtain ⟨x, e, t⟩ := m_out (k := k) b (hg f (List.mem_cons_self ..)) h
    have e1 := e (AV × Hs) (fun z => some (AV.d z.fst, z.snd))
    cases x with
    | none =>
      obtain ⟨p', q', a, c, k1, k2, k3⟩ := outs_lp (k := k) (b := b) (B := B) (h := h) p q (some (.d (fD f))) (some (.d .non)) (fun g hg' => hg g (List.mem_cons_of_mem _ hg')) h1 h2
      refine ⟨p', q', a, c, k1, k2, ?_⟩
      simp only [pairD] at e1
      simp [LB, e1, k3]
    | some v =>
      obtain ⟨t1, t2⟩ := t v rfl
      obtain ⟨p', q', a, c, k1, k2, k3⟩ := outs_lp (k := k) (b := b) (B := B) (h := h) (p && v.1) (q && v.2) (some (.d (fD f))) (some (.d (pairD (some v)))) (fun g hg' => hg g (List.mem_cons_of_mem _ hg')) (fun z => by rw [h1 z, t1 z]; rfl) (fun z => by rw [h2 z, t2 z]; rfl)
      refine ⟨p', q', a, c, k1, k2, ?_⟩
      obtain ⟨v1, v2⟩ := v
      simp only [pairD] at e1 k3
      cases p <;> cases q <;> simp at k3 <;> simp [LB, e1, atD, ixI, k3]
theorem outs_ev {k n : Nat} {r : Rec} {b : Base} {fs : List FactL} (hg : AllGood n r fs) (h : Hs) : ∃ p q, callF prog (k + 9) 22 [.d (baseD b), .d (.lst (fs.map fD))] h = some (.tup [.bl p, .bl q], h) ∧ (passB r b = true → p = true) ∧ (passB r b = false → q = true) := by
  obtain ⟨p', q', a, c, k1, k2, k3⟩ := outs_lp (k := k) (b := b) (B := some (.d (.lst (fs.map fD)))) (h := h) true true none none hg (fun _ => rfl) (fun _ => rfl)
  refine ⟨p', q', ?_, k1, k2⟩
  rw [un (d := 22) rfl]
  simp [b_outcomes_of, itemsD, k3]
/-! ### conditions put together -/
inductive Cond where
  | every
  | base (b : Base)
  | neg (c : Cond)
  | both (a b : Cond)
  | either (a b : Cond)
def condD : Cond → D
  | .every => .ins 1 []
  | .base b => baseD b
  | .neg c => .ins 7 [(8, condD c)]
  | .both a b => .ins 5 [(8, condD a), (9, condD b)]
  | .either a b => .ins 6 [(8, condD a), (9, condD b)]
def passC (r : Rec) : Cond → Bool
  | .every => true
  | .base b => passB r b
  | .neg c => !passC r c
  | .both a b => passC r a && passC r b
  | .either a b => passC r a || passC r b
def deep : Cond → Nat
  | .every => 0
  | .base _ => 0
  | .neg c => deep c + 1
  | .both a b => deep a + deep b + 1
  | .either a b => deep a + deep b + 1
def PassM (r : Rec) (k : Nat) (c : Cond) (h : Hs) : Prop := ∀ (β : Type) (g : D × Hs → Option β), (bnd (insOf h (.d (condD c))) fun q => bnd (clsT[q.1]?) fun ci => bnd (look2 37 ci.meths) fun d => bnd (callF prog k d [.d (condD c), .d (recD r)] h) g) = g (.bl (passC r c), h)
theorem pm_of {r : Rec} {k d cl : Nat} {c : Cond} {ci : ClsI} {fs : List (Nat × D)} {h : Hs} (h1 : condD c = .ins cl fs) (h2 : clsT[cl]? = some ci) (h3 : look2 37 ci.meths = some d) (h4 : callF prog k d [.d (condD c), .d (recD r)] h = some (.bl (passC r c), h)) : PassM r k c h := by
  intro β g
  rw [h1] at h4 ⊢
  simp [h2, h3, h4]
theorem u55 (k : Nat) (vs : List AV) (h : Hs) : callF prog (k + 1) 55 vs h = runB prog (callF prog k) ⟨2, 2, b_Every_passes⟩ vs h := un rfl vs h
theorem u63 (k : Nat) (vs : List AV) (h : Hs) : callF prog (k + 1) 63 vs h = runB prog (callF prog k) ⟨2, 2, b_Both_passes⟩ vs h := un rfl vs h
theorem u65 (k : Nat) (vs : List AV) (h : Hs) : callF prog (k + 1) 65 vs h = runB prog (callF prog k) ⟨2, 2, b_Either_passes⟩ vs h := un rfl vs h
theorem u67 (k : Nat) (vs : List AV) (h : Hs) : callF prog (k + 1) 67 vs h = runB prog (callF prog k) ⟨2, 2, b_Negation_passes⟩ vs h := un rfl vs h
theorem u23 (k : Nat) (vs : List AV) (h : Hs) : callF prog (k + 1) 23 vs h = runB prog (callF prog k) ⟨2, 6, b_can_pass⟩ vs h := un rfl vs h
theorem pass_ev (r : Rec) (h : Hs) : ∀ (c : Cond) (k : Nat), deep c + 3 ≤ k → PassM r k c h
  | .every, k, hk => by
    obtain ⟨k, rfl⟩ : ∃ j, k = j + 1 := ⟨k - 1, by simp [deep] at hk; omega⟩
    refine pm_of rfl rfl rfl ?_
    rw [u55]
    simp [b_Every_passes, passC]
  | .base b, k, hk => by
    obtain ⟨k, rfl⟩ : ∃ j, k = j + 3 := ⟨k - 3, by simp [deep] at hk; omega⟩
    have e := passB_ev (k := k) r b h
    cases b <;> exact pm_of rfl rfl rfl e
  | .neg c, k, hk => by
    obtain ⟨k, rfl⟩ : ∃ j, k = j + 1 := ⟨k - 1, by simp [deep] at hk; omega⟩
    have ih := pass_ev r h c k (by simp [deep] at hk; omega) _ (fun z => some (AV.d z.fst, z.snd))
    refine pm_of rfl rfl rfl ?_
    rw [u67]
    simp [b_Negation_passes, condD, ih, passC]
  | .both a b, k, hk => by
    obtain ⟨k, rfl⟩ : ∃ j, k = j + 1 := ⟨k - 1, by simp [deep] at hk; omega⟩
    have i1 := pass_ev r h a k (by simp [deep] at hk; omega) _ (fun z => some (AV.d z.fst, z.snd))
    have i2 := pass_ev r h b k (by simp [deep] at hk; omega) _ (fun z => some (AV.d z.fst, z.snd))
    refine pm_of rfl rfl rfl ?_
    rw [u63]
    simp [b_Both_passes, condD, i1, i2, passC]
    cases passC r a <;> simp
  | .either a b, k, hk => by
    obtain ⟨k, rfl⟩ : ∃ j, k = j + 1 := ⟨k - 1, by simp [deep] at hk; omega⟩
    have i1 := pass_ev r h a k (by simp [deep] at hk; omega) _ (fun z => some (AV.d z.fst, z.snd))
    have i2 := pass_ev r h b k (by simp [deep] at hk; omega) _ (fun z => some (AV.d z.fst, z.snd))
    refine pm_of rfl rfl rfl ?_
    rw [u65]
    simp [b_Either_passes, condD, i1, i2, passC]
    cases passC r a <;> simp
theorem can_ev {n : Nat} {r : Rec} {fs : List FactL} (hg : AllGood n r fs) (h : Hs) : ∀ (c : Cond) (k : Nat), deep c + 10 ≤ k → ∃ p q, callF prog k 23 [.d (condD c), .d (.lst (fs.map fD))] h = some (.tup [.bl p, .bl q], h) ∧ (passC r c = true → p = true) ∧ (passC r c = false → q = true)
  | .every, k, hk => by
    obtain ⟨k, rfl⟩ : ∃ j, k = j + 1 := ⟨k - 1, by simp [deep] at hk; omega⟩
    refine ⟨true, false, ?_, fun _ => rfl, fun z => by simp [passC] at z⟩
    rw [u23]
    simp [b_can_pass, condD]
  | .base b, k, hk => by
    obtain ⟨k, rfl⟩ : ∃ j, k = j + 10 := ⟨k - 10, by simp [deep] at hk; omega⟩
    obtain ⟨p, q, e, h1, h2⟩ := outs_ev (k := k) (b := b) hg h
    refine ⟨p, q, ?_, h1, h2⟩
    rw [u23]
    cases b <;> simp only [baseD] at e <;> simp [b_can_pass, condD, baseD, e]
  | .neg c, k, hk => by
    obtain ⟨k, rfl⟩ : ∃ j, k = j + 1 := ⟨k - 1, by simp [deep] at hk; omega⟩
    obtain ⟨p, q, e, h1, h2⟩ := can_ev hg h c k (by simp [deep] at hk; omega)
    refine ⟨q, p, ?_, fun z => h2 (by simpa [passC] using z), fun z => h1 (by simpa [passC] using z)⟩
    rw [u23]
    simp [b_can_pass, condD, e]
  | .both a b, k, hk => by
    obtain ⟨k, rfl⟩ : ∃ j, k = j + 1 := ⟨k - 1, by simp [deep] at hk; omega⟩
    obtain ⟨p, q, e, h1, h2⟩ := can_ev hg h a k (by simp [deep] at hk; omega)
    obtain ⟨p', q', e', h1', h2'⟩ := can_ev hg h b k (by simp [deep] at hk; omega)
    refine ⟨p && p', q || q', ?_, fun z => ?_, fun z => ?_⟩
    · rw [u23]
      cases p <;> cases q <;> simp [b_can_pass, condD, e, e', atD, ixI]
    · simp [passC] at z
      simp [h1 z.1, h1' z.2]
    · simp only [passC] at z
      cases ha : passC r a with
      | false => simp [h2 ha]
      | true =>
        rw [ha] at z
        simp [h2' z]
  | .either a b, k, hk => by
    obtain ⟨k, rfl⟩ : ∃ j, k = j + 1 := ⟨k - 1, by simp [deep] at hk; omega⟩
    obtain ⟨p, q, e, h1, h2⟩ := can_ev hg h a k (by simp [deep] at hk; omega)
    obtain ⟨p', q', e', h1', h2'⟩ := can_ev hg h b k (by simp [deep] at hk; omega)
    refine ⟨p || p', q && q', ?_, fun z => ?_, fun z => ?_⟩
    · rw [u23]
      cases p <;> cases q <;> simp [b_can_pass, condD, e, e', atD, ixI]
    · simp only [passC] at z
      cases ha : passC r a with
      | true => simp [h1 ha]
      | false =>
        rw [ha] at z
        simp [h1' z]
    · simp [passC] at z
      simp [h2 z.1, h2' z.2]
end K24
/-! K24P11: counts, names, distances over a list of facts; the cost. -/
set_option Elab.async false
set_option linter.all false
set_option maxRecDepth 100000
set_option maxHeartbeats 2000000
namespace K24
theorem AllGood.hd {n : Nat} {r : Rec} {f : FactL} {fs : List FactL} (h : AllGood n r (f :: fs)) : Good n r f := h f (List.mem_cons_self ..)
theorem AllGood.tl {n : Nat} {r : Rec} {f : FactL} {fs : List FactL} (h : AllGood n r (f :: fs)) : AllGood n r fs := fun g hg => h g (List.mem_cons_of_mem _ hg)
/-! ### the count -/
theorem mc_lp {k n : Nat} {r : Rec} {w : List Nat} {B : Option AV} {h : Hs} {c : Int} : ∀ {fs : List FactL} (m : Int) (o3 o4 : Option AV), AllGood n r fs → c ≤ m → c ≤ cnt w r.words → m ≤ 1000000 → ∃ m' o3' o4', c ≤ m' ∧ m' ≤ 1000000 ∧
    forL (LB prog (callF prog (k + 8)) (.one 3) (.cons (.set 4 (.meth (.var 3) 59 (.cons (.var 0) .nil))) (.cons (.ite (.notN (.var 4)) (.cons (.set 2 (.blt .min2 (.cons (.var 2) (.cons (.var 4) .nil)))) .nil) .nil) .nil))) (fs.map fD) [some (sS w), B, some (iI m), o3, o4] h = some (.nx [some (sS w), B, some (iI m'), o3', o4'] h)
  | [], m, o3, o4, _, h1, h2, h3 => ⟨m, o3, o4, h1, h3, by simp⟩
  | f :: fs, m, o3, o4, hg, h1, h2, h3 => by
    obtain ⟨x, e, t⟩ := m_count (k := k) w hg.hd h
    have e1 := e (AV × Hs) (fun z => some (AV.d z.fst, z.snd))
    cases x with
    | none =>
      obtain ⟨m', a, b, k1, k2, k3⟩ := mc_lp (k := k) (w := w) (B := B) (h := h) m (some (.d (fD f))) (some (.d .non)) hg.tl h1 h2 h3
      refine ⟨m', a, b, k1, k2, ?_⟩
      simp only [valD] at e1
      simp [LB, e1, k3]
    | some y =>
      have hy := t y rfl
      obtain ⟨m', a, b, k1, k2, k3⟩ := mc_lp (k := k) (w := w) (B := B) (h := h) (if y < m then y else m) (some (.d (fD f))) (some (iI y)) hg.tl (by split <;> omega) h2 (by split <;> omega)
      refine ⟨m', a, b, k1, k2, ?_⟩
      simp only [valD] at e1
      simp [LB, e1, blt2, k3]
/-! ### the name -/
theorem ln_lp {k n : Nat} {r : Rec} {A : Option AV} {h : Hs} : ∀ {fs : List FactL} (l : List Nat) (o2 o3 : Option AV), AllGood n r fs → ltL r.name l = false → ∃ l' o2' o3', ltL r.name l' = false ∧
    forL (LB prog (callF prog (k + 8)) (.one 2) (.cons (.set 3 (.meth (.var 2) 60 .nil)) (.cons (.ite (.and (.notN (.var 3)) (.cmp .gt (.var 3) (.var 1))) (.cons (.set 1 (.var 3)) .nil) .nil) .nil))) (fs.map fD) [A, some (sS l), o2, o3] h = some (.nx [A, some (sS l'), o2', o3'] h)
  | [], l, o2, o3, _, h1 => ⟨l, o2, o3, h1, by simp⟩
  | f :: fs, l, o2, o3, hg, h1 => by
    obtain ⟨x, e, t⟩ := m_name (k := k) hg.hd h
    have e1 := e (AV × Hs) (fun z => some (AV.d z.fst, z.snd))
    cases x with
    | none =>
      obtain ⟨l', a, b, k1, k3⟩ := ln_lp (k := k) (A := A) (h := h) l (some (.d (fD f))) (some (.d .non)) hg.tl h1
      refine ⟨l', a, b, k1, ?_⟩
      simp only [valD] at e1
      simp [LB, e1, k3]
    | some y =>
      have hy := t y rfl
      simp only [valD] at e1
      cases c : ltL l y with
      | true =>
        obtain ⟨l', a, b, k1, k3⟩ := ln_lp (k := k) (A := A) (h := h) y (some (.d (fD f))) (some (sS y)) hg.tl hy
        refine ⟨l', a, b, k1, ?_⟩
        simp [LB, e1, c, k3]
      | false =>
        obtain ⟨l', a, b, k1, k3⟩ := ln_lp (k := k) (A := A) (h := h) l (some (.d (fD f))) (some (sS y)) hg.tl h1
        refine ⟨l', a, b, k1, ?_⟩
        simp [LB, e1, c, k3]
theorem ltL_nil (a : List Nat) : ltL a [] = false := by cases a <;> rfl
theorem name_ev {k n : Nat} {r : Rec} {fs : List FactL} (hg : AllGood n r fs) (h : Hs) : ∃ l, callF prog (k + 9) 27 [.d (.lst (fs.map fD))] h = some (.str l, h) ∧ ltL r.name l = false := by
  obtain ⟨l', a, b, k1, k3⟩ := ln_lp (k := k) (A := some (.d (.lst (fs.map fD)))) (h := h) [] none none hg (ltL_nil _)
  refine ⟨l', ?_, k1⟩
  rw [un (d := 27) rfl]
  simp [b_least_name, itemsD, k3]
theorem globs_is : prog.globs[6]? = some (.int 15) := rfl
theorem most_ev {k n : Nat} {r : Rec} {fs : List FactL} (w : List Nat) (hg : AllGood n r fs) (h : Hs) : ∃ m, callF prog (k + 9) 25 [sS w, .d (.lst (fs.map fD))] h = some (.int m, h) ∧ (if cnt w r.words < 15 then cnt w r.words else 15) ≤ m ∧ m ≤ 1000000 := by
  obtain ⟨m, a, b, k1, k2, k3⟩ := mc_lp (k := k) (w := w) (B := some (.d (.lst (fs.map fD)))) (h := h) (c := if cnt w r.words < 15 then cnt w r.words else 15) 15 none none hg (by split <;> omega) (by split <;> omega) (by omega)
  refine ⟨m, ?_, k1, k2⟩
  rw [un (d := 25) rfl]
  simp [b_most_count, itemsD, globs_is, k3]
/-! ### the distance -/
inductive Ms where | square | dotm | bits
def msL : Ms → List Nat
  | .square => [115, 113, 117, 97, 114, 101]
  | .dotm => [100, 111, 116]
  | .bits => [98, 105, 116, 115]
def wdL : Ms → List Nat
  | .bits => [98, 105, 116]
  | _ => [115, 109, 97, 108, 108]
def schemaD (n : Nat) (m : Ms) : D := .ins 8 [(10, .int n), (11, .str (wdL m)), (12, .str (msL m)), (2, .tup [.tup [.str [110], .str [105, 110, 116, 101, 103, 101, 114]], .tup [.str [116], .str [116, 101, 120, 116]]])]
def farI (m : Ms) (a b : List Int) : Int := match m with
  | .square => dist a b
  | .dotm => -dot a b
  | .bits => diff a b
theorem far_ev {k n : Nat} {m : Ms} {a b : List Int} (sa : Sm a) (sb : Sm b) (h : Hs) : callF prog (k + 2) 72 [.d (schemaD n m), iV a, iV b] h = some (.int (farI m a b), h) := by
  rw [un (d := 72) rfl]
  cases m with
  | square => simp [b_Schema_far, schemaD, msL, distance_ok (k := k) sa sb, farI]
  | dotm => simp [b_Schema_far, schemaD, msL, inner_ok (k := k) sa, farI]
  | bits => simp [b_Schema_far, schemaD, msL, differing_ok (k := k), farI]
end K24
/-! K24P12: least_far, least_cost, cost, bound_of. -/
set_option Elab.async false
set_option linter.all false
set_option maxRecDepth 100000
set_option maxHeartbeats 2000000
namespace K24
structure Qn where
  n : Nat
  m : Ms
  vec : List Int
  near : Int
  words : List (List Nat × Int)
  text : List Nat
  cond : Cond
def queryD (q : Qn) : D := .ins 13 [(1, iT q.vec), (24, .int q.near), (3, .tup (q.words.map wordD)), (25, .str q.text), (26, .int 2)]
def qnD (q : Qn) : D := .ins 11 [(15, schemaD q.n q.m), (20, queryD q), (21, condD q.cond)]
theorem ints_map : ∀ l : List Int, intsD (l.map D.int) = some l
  | [] => rfl
  | x :: l => by
    show bnd (intsD (l.map D.int)) _ = _
    rw [ints_map l]
    rfl
theorem least_ge {b : Int} : ∀ (r : List Int) (m : Int), b ≤ m → (∀ x ∈ r, b ≤ x) → b ≤ leastL m r
  | [], m, h, _ => h
  | x :: r, m, h, hr => by
    have hx := hr x (List.mem_cons_self ..)
    exact least_ge r (if x < m then x else m) (by split <;> omega) (fun y hy => hr y (List.mem_cons_of_mem _ hy))
theorem most_le {b : Int} : ∀ (r : List Int) (m : Int), m ≤ b → (∀ x ∈ r, x ≤ b) → mostL m r ≤ b
  | [], m, h, _ => h
  | x :: r, m, h, hr => by
    have hx := hr x (List.mem_cons_self ..)
    exact most_le r (if x > m then x else m) (by split <;> omega) (fun y hy => hr y (List.mem_cons_of_mem _ hy))
theorem most_ge0 : ∀ (r : List Int) (m : Int), m ≤ mostL m r
  | [], m => Int.le_refl _
  | x :: r, m => Int.le_trans (by split <;> omega) (most_ge0 r (if x > m then x else m))
/-! ### the lists -/
theorem dist_lp2 {k n : Nat} {r : Rec} {q : List Int} {A B o3 o4 o6 : Option AV} {h : Hs} (hn : n ≤ 4) (hv : VecOk n r.vec) (hq : VecOk n q) : ∀ {fs : List FactL}, AllGood n r fs → ∃ ys : List Int, (∀ y ∈ ys, y ≤ dist q r.vec) ∧ ys.length = fs.length ∧
    ∀ o5, compL (CB prog (callF prog (k + 8)) (.meth (.var 5) 56 (.cons (.var 2) .nil)) (.one 5) .no [A, B, some (iV q), o3, o4, o5, o6]) (fs.map fD) h = some (ys.map .int, h)
  | [], _ => ⟨[], by simp, rfl, fun _ => rfl⟩
  | f :: fs, hg => by
    obtain ⟨ys, h1, h2, h3⟩ := dist_lp2 (k := k) (A := A) (B := B) (o3 := o3) (o4 := o4) (o6 := o6) (h := h) hn hv hq hg.tl
    obtain ⟨x, e, t⟩ := m_least (k := k) hn hv hq hg.hd h
    have e1 := e (AV × Hs) (fun z => some (AV.d z.fst, z.snd))
    refine ⟨x :: ys, ?_, by rw [List.length_cons, List.length_cons, h2], fun o5 => ?_⟩
    · intro y hy
      rcases List.mem_cons.mp hy with rfl | hy
      · exact t
      · exact h1 y hy
    · simp only [List.map_cons, compL_cons]
      simp [CB, e1, h3]
theorem diff_lp2 {k n : Nat} {r : Rec} {q : List Int} {A B o3 o4 o6 : Option AV} {h : Hs} (hn : n ≤ 4) (hv : VecOk n r.vec) (hq : VecOk n q) (bq : Bits q) (bv : Bits r.vec) : ∀ {fs : List FactL}, AllGood n r fs → ∃ ys : List Int, (∀ y ∈ ys, y ≤ diff q r.vec) ∧ ys.length = fs.length ∧
    ∀ o5, compL (CB prog (callF prog (k + 9)) (.meth (.var 5) 57 (.cons (.var 2) .nil)) (.one 5) .no [A, B, some (iV q), o3, o4, o5, o6]) (fs.map fD) h = some (ys.map .int, h)
  | [], _ => ⟨[], by simp, rfl, fun _ => rfl⟩
  | f :: fs, hg => by
    obtain ⟨ys, h1, h2, h3⟩ := diff_lp2 (k := k) (A := A) (B := B) (o3 := o3) (o4 := o4) (o6 := o6) (h := h) hn hv hq bq bv hg.tl
    obtain ⟨x, e, t⟩ := m_differ (k := k) hn hv hq bq bv hg.hd h
    have e1 := e (AV × Hs) (fun z => some (AV.d z.fst, z.snd))
    refine ⟨x :: ys, ?_, by rw [List.length_cons, List.length_cons, h2], fun o5 => ?_⟩
    · intro y hy
      rcases List.mem_cons.mp hy with rfl | hy
      · exact t
      · exact h1 y hy
    · simp only [List.map_cons, compL_cons]
      simp [CB, e1, h3]
theorem prod_lp2 {k n : Nat} {r : Rec} {q : List Int} {A B o3 o4 o6 : Option AV} {h : Hs} (hn : n ≤ 4) (hv : VecOk n r.vec) (hq : VecOk n q) : ∀ {fs : List FactL}, AllGood n r fs → ∃ ys : List (Option Int), (∀ y, some y ∈ ys → dot q r.vec ≤ y) ∧ ys.length = fs.length ∧
    ∀ o5, compL (CB prog (callF prog (k + 8)) (.meth (.var 5) 58 (.cons (.var 2) .nil)) (.one 5) .no [A, B, some (iV q), o3, o4, o5, o6]) (fs.map fD) h = some (ys.map (valD .int), h)
  | [], _ => ⟨[], by simp, rfl, fun _ => rfl⟩
  | f :: fs, hg => by
    obtain ⟨ys, h1, h2, h3⟩ := prod_lp2 (k := k) (A := A) (B := B) (o3 := o3) (o4 := o4) (o6 := o6) (h := h) hn hv hq hg.tl
    obtain ⟨x, e, t⟩ := m_prod (k := k) hn hv hq hg.hd h
    have e1 := e (AV × Hs) (fun z => some (AV.d z.fst, z.snd))
    refine ⟨x :: ys, ?_, by rw [List.length_cons, List.length_cons, h2], fun o5 => ?_⟩
    · intro y hy
      rcases List.mem_cons.mp hy with hy | hy
      · exact t y hy.symm
      · exact h1 y hy
    · simp only [List.map_cons, compL_cons]
      simp [CB, e1, h3]
theorem told_lp {T : Prog} {call : CallT} {A B o2 o3 o4 o5 : Option AV} {h : Hs} : ∀ {ys : List (Option Int)} (o6 : Option AV), compL (CB T call (.var 6) (.one 6) (.yes (.notN (.var 6))) [A, B, o2, o3, o4, o5, o6]) (ys.map (valD .int)) h = some ((ys.filterMap id).map .int, h)
  | [], _ => rfl
  | y :: ys, o6 => by
    have ih := told_lp (T := T) (call := call) (A := A) (B := B) (o2 := o2) (o3 := o3) (o4 := o4) (o5 := o5) (h := h) (ys := ys) o6
    simp only [List.map_cons, compL_cons]
    cases y <;> simp [CB, valD, ih]
structure QnOk (Q : Qn) (r : Rec) : Prop where
  n4 : Q.n ≤ 4
  qv : VecOk Q.n Q.vec
  rv : VecOk Q.n r.vec
  bits : Q.m = .bits → Bits Q.vec ∧ Bits r.vec
  near0 : 0 ≤ Q.near ∧ Q.near ≤ 1000
  words0 : ∀ p ∈ Q.words, 0 ≤ p.2 ∧ p.2 ≤ 1000000
theorem line_is : line = 16777216 := rfl
theorem lf_ev {k : Nat} {r : Rec} {Q : Qn} {fs : List FactL} (ok : QnOk Q r) (hf : fs.length ≤ 1000) (hg : AllGood Q.n r fs) (h : Hs) : ∃ x : Option Int, callF prog (k + 10) 24 [.d (qnD Q), .d (.lst (fs.map fD))] h = some (valD .int x, h) ∧ ∀ y, x = some y → y ≤ farI Q.m Q.vec r.vec := by
  obtain ⟨n, m, qv, near, words, text, cond⟩ := Q
  cases m with
  | square =>
    obtain ⟨ys, h1, h2, h3⟩ := dist_lp2 (k := k + 1) (A := some (.d (qnD ⟨n, .square, qv, near, words, text, cond⟩))) (B := some (.d (.lst (fs.map fD)))) (o3 := none) (o4 := none) (o6 := none) (h := h) ok.n4 ok.rv ok.qv hg
    refine ⟨some (mostL 0 ys), ?_, fun y z => by cases z; exact most_le ys 0 (dist_nn _ _) h1⟩
    have e : intsD (.int 0 :: ys.map D.int) = some (0 :: ys) := ints_map (0 :: ys)
    rw [un (d := 24) rfl]
    simp only [qnD, queryD, schemaD, msL, Nat.add_assoc, Nat.reduceAdd] at h3 ⊢
    simp [b_least_far, msL, itemsD, h3, h2, line_is, show 1 + fs.length ≤ 16777216 by omega, blt1, e, valD]
  | bits =>
    obtain ⟨b1, b2⟩ := ok.bits rfl
    obtain ⟨ys, h1, h2, h3⟩ := diff_lp2 (k := k) (A := some (.d (qnD ⟨n, .bits, qv, near, words, text, cond⟩))) (B := some (.d (.lst (fs.map fD)))) (o3 := none) (o4 := none) (o6 := none) (h := h) ok.n4 ok.rv ok.qv b1 b2 hg
    refine ⟨some (mostL 0 ys), ?_, fun y z => by cases z; exact most_le ys 0 (diff_nn _ _) h1⟩
    have e : intsD (.int 0 :: ys.map D.int) = some (0 :: ys) := ints_map (0 :: ys)
    rw [un (d := 24) rfl]
    simp only [qnD, queryD, schemaD, msL, Nat.add_assoc, Nat.reduceAdd] at h3 ⊢
    simp [b_least_far, msL, itemsD, h3, h2, line_is, show 1 + fs.length ≤ 16777216 by omega, blt1, e, valD]
  | dotm =>
    obtain ⟨ys, h1, h2, h3⟩ := prod_lp2 (k := k + 1) (A := some (.d (qnD ⟨n, .dotm, qv, near, words, text, cond⟩))) (B := some (.d (.lst (fs.map fD)))) (o3 := none) (o4 := none) (o6 := none) (h := h) ok.n4 ok.rv ok.qv hg
    have t := told_lp (T := prog) (call := callF prog (k + 9)) (A := some (.d (qnD ⟨n, .dotm, qv, near, words, text, cond⟩))) (B := some (.d (.lst (fs.map fD)))) (o2 := some (iV qv)) (o3 := some (.d (.lst (ys.map (valD .int))))) (o4 := none) (o5 := none) (h := h) (ys := ys) none
    cases hz : ys.filterMap id with
    | nil =>
      refine ⟨none, ?_, fun y z => nomatch z⟩
      rw [hz] at t
      rw [un (d := 24) rfl]
      simp only [qnD, queryD, schemaD, msL, Nat.add_assoc, Nat.reduceAdd] at h3 t ⊢
      simp [b_least_far, msL, itemsD, h3, t, valD]
    | cons y0 zs =>
      have all : ∀ z ∈ y0 :: zs, dot qv r.vec ≤ z := fun z hzz => by
        rw [← hz] at hzz
        obtain ⟨o, ho, eo⟩ := List.mem_filterMap.mp hzz
        exact h1 z (by rw [← eo]; exact ho)
      refine ⟨some (-(leastL y0 zs)), ?_, fun y z => ?_⟩
      · rw [hz] at t
        have e : intsD (.int y0 :: zs.map D.int) = some (y0 :: zs) := ints_map (y0 :: zs)
        rw [un (d := 24) rfl]
        simp only [qnD, queryD, schemaD, msL, Nat.add_assoc, Nat.reduceAdd] at h3 t ⊢
        simp at t
        simp [b_least_far, msL, itemsD, h3, t, valD, blt1, e, lenD]
      · cases z
        have := least_ge zs y0 (all y0 (List.mem_cons_self ..)) (fun x hx => all x (List.mem_cons_of_mem _ hx))
        show -(leastL y0 zs) ≤ -dot qv r.vec
        omega
end K24
/-! K24P13: the cost, the bound. -/
set_option Elab.async false
set_option linter.all false
set_option maxRecDepth 100000
set_option maxHeartbeats 2000000
namespace K24
def cap (w : List Nat) (r : Rec) : Int := if cnt w r.words < 15 then cnt w r.words else 15
def wsum (r : Rec) : List (List Nat × Int) → Int
  | [] => 0
  | p :: ps => p.2 * cap p.1 r + wsum r ps
theorem cap_le (w : List Nat) (r : Rec) : cap w r ≤ 15 := by unfold cap; split <;> omega
theorem cost_lp {k : Nat} {r : Rec} {A : Option AV} {h : Hs} : ∀ {ws : List (List Nat × Int)} (t : Int) (o3 o4 : Option AV), (∀ p ∈ ws, 0 ≤ p.2 ∧ p.2 ≤ 1000000) → ∃ o3' o4', forL (LB prog (callF prog (k + 1)) (.many [3, 4]) (.cons (.set 2 (.bin .sub (.var 2) (.bin .mul (.var 4) (.blt .min2 (.cons (.glob 6) (.cons (.meth (.var 1) 36 (.cons (.var 3) .nil)) .nil)))))) .nil)) (ws.map wordD) [A, some (.d (recD r)), some (iI t), o3, o4] h =
    some (.nx [A, some (.d (recD r)), some (iI (t - wsum r ws)), o3', o4'] h)
  | [], t, o3, o4, _ => ⟨o3, o4, by simp [wsum]⟩
  | p :: ws, t, o3, o4, hw => by
    have hp := hw p (List.mem_cons_self ..)
    obtain ⟨a, b, e⟩ := cost_lp (k := k) (r := r) (A := A) (h := h) (ws := ws) (t - p.2 * cap p.1 r) (some (sS p.1)) (some (iI p.2)) (fun x hx => hw x (List.mem_cons_of_mem _ hx))
    refine ⟨a, b, ?_⟩
    have c := countOf_ev (k := k) r p.1 h
    simp only [recD] at c e ⊢
    have m : mulOk p.2 (if cnt p.1 r.words < 15 then cnt p.1 r.words else 15) = true := mul_ok (by omega)
    have e2 : t - p.2 * cap p.1 r - wsum r ws = t - wsum r (p :: ws) := by
      simp only [wsum]
      omega
    rw [e2] at e
    simp only [cap] at e
    simp [LB, wordD, globs_is, clsT, c, blt2, m, e]
theorem cost_ev {k : Nat} {r : Rec} {Q : Qn} (ok : QnOk Q r) (h : Hs) : callF prog (k + 3) 90 [.d (qnD Q), .d (recD r)] h = some (.int (Q.near * farI Q.m Q.vec r.vec - wsum r Q.words), h) := by
  obtain ⟨a, b, e⟩ := cost_lp (k := k + 1) (r := r) (A := some (.d (qnD Q))) (h := h) (ws := Q.words) (Q.near * farI Q.m Q.vec r.vec) none none ok.words0
  have f := far_ev (k := k) (n := Q.n) (m := Q.m) ok.qv.sm ok.rv.sm h
  have m := mul_ok (a := Q.near) (b := farI Q.m Q.vec r.vec) (by have := ok.near0; omega)
  rw [un (d := 90) rfl]
  simp only [qnD, queryD, recD, schemaD, Nat.add_assoc, Nat.reduceAdd] at e f ⊢
  simp [b_Question_cost, itemsD, clsT, f, m, e]
end K24
/-! K24P14: least_cost, bound_of. -/
set_option Elab.async false
set_option linter.all false
set_option maxRecDepth 100000
set_option maxHeartbeats 2000000
namespace K24
theorem lc_lp {k n : Nat} {r : Rec} {fs : List FactL} {A o3 : Option AV} {h : Hs} (hg : AllGood n r fs) : ∀ {ws : List (List Nat × Int)} (t : Int) (o4 o5 : Option AV), (∀ p ∈ ws, 0 ≤ p.2 ∧ p.2 ≤ 1000000) → ∃ t' o4' o5', t' ≤ t - wsum r ws ∧
    forL (LB prog (callF prog (k + 9)) (.many [4, 5]) (.cons (.set 2 (.bin .sub (.var 2) (.bin .mul (.var 5) (.call 25 (.cons (.var 4) (.cons (.var 1) .nil)))))) .nil)) (ws.map wordD) [A, some (.d (.lst (fs.map fD))), some (iI t), o3, o4, o5] h = some (.nx [A, some (.d (.lst (fs.map fD))), some (iI t'), o3, o4', o5'] h)
  | [], t, o4, o5, _ => ⟨t, o4, o5, by simp [wsum], by simp⟩
  | p :: ws, t, o4, o5, hw => by
    have hp := hw p (List.mem_cons_self ..)
    obtain ⟨m, e, m1, m2⟩ := most_ev (k := k) p.1 hg h
    obtain ⟨t', a, b, k1, k2⟩ := lc_lp (k := k) (A := A) (o3 := o3) (h := h) hg (ws := ws) (t - p.2 * m) (some (sS p.1)) (some (iI p.2)) (fun x hx => hw x (List.mem_cons_of_mem _ hx))
    have mm : p.2 * cap p.1 r ≤ p.2 * m := Int.mul_le_mul_of_nonneg_left (by unfold cap; exact m1) hp.1
    refine ⟨t', a, b, by simp only [wsum]; omega, ?_⟩
    have mo : mulOk p.2 m = true := mul_ok (by omega)
    simp [LB, wordD, e, mo, k2]
theorem lc_ev {k : Nat} {r : Rec} {Q : Qn} {fs : List FactL} (ok : QnOk Q r) (hf : fs.length ≤ 1000) (hg : AllGood Q.n r fs) (h : Hs) : ∃ x : Option Int, callF prog (k + 11) 26 [.d (qnD Q), .d (.lst (fs.map fD))] h = some (valD .int x, h) ∧ ∀ y, x = some y → y ≤ Q.near * farI Q.m Q.vec r.vec - wsum r Q.words := by
  by_cases hz : Q.near = 0
  · obtain ⟨t', a, b, k1, k2⟩ := lc_lp (k := k + 1) (A := some (.d (qnD Q))) (o3 := none) (h := h) hg (ws := Q.words) 0 none none ok.words0
    refine ⟨some t', ?_, fun y z => by cases z; rw [hz]; omega⟩
    rw [un (d := 26) rfl]
    simp only [qnD, queryD, schemaD, Nat.add_assoc, Nat.reduceAdd] at k2 ⊢
    simp [hz] at k2
    simp [b_least_cost, itemsD, hz, k2, valD]
  · obtain ⟨x, e, l⟩ := lf_ev (k := k) ok hf hg h
    cases x with
    | none =>
      refine ⟨none, ?_, fun y z => nomatch z⟩
      rw [un (d := 26) rfl]
      simp only [qnD, queryD, schemaD] at e ⊢
      simp [b_least_cost, itemsD, hz, e, valD]
    | some y =>
      obtain ⟨t', a, b, k1, k2⟩ := lc_lp (k := k + 1) (A := some (.d (qnD Q))) (o3 := some (iI y)) (h := h) hg (ws := Q.words) (Q.near * y) none none ok.words0
      have ly := l y rfl
      have mm : Q.near * y ≤ Q.near * farI Q.m Q.vec r.vec := Int.mul_le_mul_of_nonneg_left ly ok.near0.1
      refine ⟨some t', ?_, fun y z => by cases z; omega⟩
      have mo : mulOk Q.near y = true := mul_ok (by have := ok.near0; omega)
      rw [un (d := 26) rfl]
      simp only [qnD, queryD, schemaD, Nat.add_assoc, Nat.reduceAdd] at e k2 ⊢
      simp [b_least_cost, itemsD, hz, e, valD, mo, k2]
end K24
/-! K24P15: new instances; bound_of. -/
set_option Elab.async false
set_option linter.all false
set_option maxRecDepth 100000
set_option maxHeartbeats 2000000
namespace K24
theorem get_push (h : Hs) (o : AO) : (h ++ [o])[h.length]? = some o := by simp
theorem set_push (h : Hs) (o o' : AO) : (h ++ [o]).set h.length o' = h ++ [o'] := by simp
theorem take_push (h : Hs) (o : AO) : (h ++ [o]).take h.length = h := by simp
theorem take_all1 (h : Hs) (o : AO) : (h ++ [o]).take (h.length + 1) = h ++ [o] := List.take_of_length_le (by simp)
theorem mkI_eq {call : CallT} {c d : Nat} {ci : ClsI} {vs : List AV} {h h' : Hs} (h1 : clsT[c]? = some ci) (h2 : ci.init = some d) (h3 : call d (.ref h.length :: vs) (h ++ [.ins c []]) = some (.non, h')) : mkI prog call c vs h = some h' := by
  unfold mkI
  simp [h1, h2, h3]
@[simp] theorem putF_nil (f : Nat) (v : D) : putF f v [] = [(f, v)] := rfl
@[simp] theorem putF_cons (f g : Nat) (v x : D) (r : List (Nat × D)) : putF f v ((g, x) :: r) = if g = f then (g, v) :: r else (g, x) :: putF f v r := by
  show (match Nat.beq g f with | true => (g, v) :: r | false => (g, x) :: putF f v r) = _
  by_cases e : g = f
  · subst e
    rw [if_pos rfl, Nat.beq_refl]
  · cases q : Nat.beq g f with
    | true => exact absurd (Nat.eq_of_beq_eq_true q) e
    | false => rw [if_neg e]
theorem setaK_push {f : Nat} {x : D} {s : Sl} {h : Hs} {c : Nat} {fs : List (Nat × D)} : setaK prog f x h.length s (h ++ [.ins c fs]) = bnd (clsT[c]?) fun ci => if f ∈ ci.flds ∧ fs.length ≤ 900 then some (.nx s (h ++ [.ins c (putF f x fs)])) else none := by
  unfold setaK
  rw [get_push]
  simp only [prog_cls, set_push]
  congr
  funext ci
  refine (bool_if _ _).trans ?_
  simp
theorem bound_init {k : Nat} (a b c : D) (h : Hs) : callF prog (k + 1) 91 [.ref h.length, .d a, .d b, .d c] (h ++ [.ins 12 []]) = some (.non, h ++ [.ins 12 [(22, a), (0, b), (23, c)]]) := by
  rw [un (d := 91) rfl]
  simp [b_Bound_init, setaK_push, clsT, take_all1]
theorem takK_push (h : Hs) (c : Nat) (fs : List (Nat × D)) : takK h.length (h ++ [.ins c fs]) = some (.d (.ins c fs), h) := by
  unfold takK
  rw [get_push, take_push]
def boundD (x : Option Int) (l : List Nat) (p : Bool) : D := .ins 12 [(22, valD .int x), (0, .str l), (23, .bl p)]
theorem bound_ev {k : Nat} {r : Rec} {Q : Qn} {fs : List FactL} (ok : QnOk Q r) (hd : deep Q.cond ≤ 3) (hf : fs.length ≤ 1000) (hg : AllGood Q.n r fs) (h : Hs) : ∃ x l p, callF prog (k + 14) 28 [.d (qnD Q), .d (.lst (fs.map fD))] h = some (boundD x l p, h) ∧
    (∀ y, x = some y → y ≤ Q.near * farI Q.m Q.vec r.vec - wsum r Q.words) ∧ ltL r.name l = false ∧ (passC r Q.cond = true → p = true) := by
  obtain ⟨x, e1, l1⟩ := lc_ev (k := k + 2) ok hf hg h
  obtain ⟨l, e2, l2⟩ := name_ev (k := k + 4) hg h
  obtain ⟨p, q, e3, l3, _⟩ := can_ev hg h Q.cond (k + 13) (by omega)
  refine ⟨x, l, p, ?_, l1, l2, l3⟩
  have m := mkI_eq (call := callF prog (k + 13)) (c := 12) (vs := [.d (valD .int x), sS l, bB p]) (h := h) rfl rfl (bound_init (k := k + 12) (valD .int x) (.str l) (.bl p) h)
  rw [un (d := 28) rfl]
  simp only [qnD, Nat.add_assoc, Nat.reduceAdd] at e1 e2 e3 m ⊢
  simp [b_bound_of, e1, e2, e3, atD, ixI, m, takK_push, boundD]
end K24
/-! K24P16: the draws. -/
set_option Elab.async false
set_option linter.all false
set_option maxRecDepth 100000
set_option maxHeartbeats 2000000
namespace K24
/-- the state of the draws: the script, its place, what is left of a cell -/
def stO (ns : List Int) (k : Nat) (v : Int) : AO := .lst [.lst (ns.map .int), .int k, .int v]
theorem mod_rng {a b : Int} (h : 0 < b) : 0 ≤ a.fmod b ∧ a.fmod b < b := ⟨Int.fmod_nonneg_of_pos a h, Int.fmod_lt_of_pos a h⟩
@[simp] theorem pow1 : bin .pow (.int 10) (.int 9) = some (.int 1000000000) := rfl
@[simp] theorem pow2 : bin .pow (.int 2147483647) (.int 2) = some (.int 4611686014132420609) := rfl
@[simp] theorem blt_int (i : Int) : blt1 .int (.int i) = some (.int i) := rfl
theorem at_map {ns : List Int} {j : Nat} (h : j < ns.length) : K24.atD (.lst (ns.map .int)) (j : Int) = some (.int ns[j]) := by
  have h0 : (0 : Int) ≤ j := by omega
  have h1 : (j : Int) < ((ns.map D.int).length : Int) := by simp; omega
  have e : ixI (ns.map D.int).length (j : Int) = some j := by
    unfold ixI
    rw [if_pos h0, if_pos h1]
    simp
  show bnd (ixI (ns.map D.int).length (j : Int)) (fun j => (ns.map D.int)[j]?) = _
  rw [e]
  simp [h]
theorem row_ev {k : Nat} (ns : List Int) (j : Nat) (h : Hs) : ∃ v, callF prog (k + 1) 35 [.d (.lst (ns.map .int)), iI j] h = some (.int v, h) := by
  have tail : ∀ (c : Int) (o3 o4 o5 : Option AV), ∃ v, (bnd (exs prog (callF prog k) (.cons (.ite (.cmp .lt (.var 2) (.bin .pow (.lit (.int 10)) (.lit (.int 9)))) (.cons (.set 3 (.bin .mod (.blt .int (.cons (.bin .add (.bin .add (.bin .mul (.var 2) (.lit (.int 48271))) (.bin .mul (.var 1) (.lit (.int 69621)))) (.lit (.int 11))) .nil)) (.lit (.int 2147483647)))) (.cons (.set 4 (.bin .mod (.blt .int (.cons (.bin .add (.bin .add (.bin .add (.bin .mul (.var 3) (.lit (.int 16807))) (.bin .mul (.var 2) (.lit (.int 7)))) (.var 1)) (.lit (.int 5))) .nil)) (.lit (.int 2147483629)))) (.cons (.set 5 (.bin .mod (.blt .int (.cons (.bin .add (.bin .add (.bin .mul (.var 4) (.lit (.int 39373))) (.bin .mul (.var 3) (.var 4))) (.lit (.int 3))) .nil)) (.lit (.int 2147483587)))) (.cons (.set 2 (.bin .add (.bin .add (.var 3) (.bin .mul (.var 4) (.lit (.int 2147483647)))) (.bin .mul (.var 5) (.bin .pow (.lit (.int 2147483647)) (.lit (.int 2)))))) .nil)))) .nil) (.cons (.ret (.var 2)) .nil)) [some (.d (.lst (ns.map .int))), some (iI j), some (iI c), o3, o4, o5] h) fun f => endK h.length f) = some (.int v, h) := by
    intro c o3 o4 o5
    by_cases hc : c < 1000000000
    · obtain ⟨a, ha⟩ : ∃ a, (c * 48271 + (j : Int) * 69621 + 11).fmod 2147483647 = a := ⟨_, rfl⟩
      obtain ⟨b, hb⟩ : ∃ b, (a * 16807 + c * 7 + (j : Int) + 5).fmod 2147483629 = b := ⟨_, rfl⟩
      obtain ⟨d, hd⟩ : ∃ d, (b * 39373 + a * b + 3).fmod 2147483587 = d := ⟨_, rfl⟩
      have ra := mod_rng (a := c * 48271 + (j : Int) * 69621 + 11) (b := 2147483647) (by omega)
      rw [ha] at ra
      have rb := mod_rng (a := a * 16807 + c * 7 + (j : Int) + 5) (b := 2147483629) (by omega)
      rw [hb] at rb
      have rd := mod_rng (a := b * 39373 + a * b + 3) (b := 2147483587) (by omega)
      rw [hd] at rd
      refine ⟨a + b * 2147483647 + d * 4611686014132420609, ?_⟩
      simp [hc, ha, hb, hd, mul_ok2 (a := c) (b := 48271) (by omega), mul_ok2 (a := (j : Int)) (b := 69621) (by omega), mul_ok2 (a := a) (b := 16807) (by omega), mul_ok2 (a := c) (b := 7) (by omega), mul_ok2 (a := b) (b := 39373) (by omega), mul_ok (a := a) (b := b) (by omega), mul_ok (a := b) (b := 2147483647) (by omega), mul_ok (a := d) (b := 4611686014132420609) (by omega)]
    · refine ⟨c, ?_⟩
      simp [hc]
  have neg : ∀ (c : Int), mulOk (-2) c = true := fun c => mul_ok (by omega)
  rw [un (d := 35) rfl]
  by_cases hj : (j : Int) < (ns.length : Int)
  · have a := at_map (ns := ns) (j := j) (by omega)
    generalize ns[j] = c at a
    by_cases hc : c < 0
    · obtain ⟨v, e⟩ := tail (-2 * c - 1) none none none
      refine ⟨v, ?_⟩
      rw [← e]
      simp [b_law_row, hj, a, hc, neg]
    · obtain ⟨v, e⟩ := tail c none none none
      refine ⟨v, ?_⟩
      rw [← e]
      simp [b_law_row, hj, a, hc]
  · obtain ⟨v, e⟩ := tail 0 none none none
    refine ⟨v, ?_⟩
    rw [← e]
    simp [b_law_row, hj]
end K24
/-! K24P17: one draw. -/
set_option Elab.async false
set_option linter.all false
set_option maxRecDepth 100000
set_option maxHeartbeats 2000000
namespace K24
theorem next_ev {k : Nat} (ns : List Int) (j : Nat) (v m : Int) (rest : Hs) (hm : 0 < m) (hm2 : m < 1000000000) : ∃ r j' v', callF prog (k + 2) 36 [.ref 0, iI m] (stO ns j v :: rest) = some (.int r, stO ns j' v' :: rest) ∧ 0 ≤ r ∧ r < m := by
  have m0 : m ≠ 0 := by omega
  have m1 : m.natAbs < 1073741824 := by omega
  have tk : ∀ (o : AO), (o :: rest).take (rest.length + 1) = o :: rest := fun o => List.take_of_length_le (by simp)
  by_cases hv : v < m
  · obtain ⟨w, e⟩ := row_ev (k := k) ns j (stO ns j v :: rest)
    refine ⟨w.fmod m, j + 1, w.fdiv m, ?_, mod_rng hm⟩
    simp only [stO] at e ⊢
    rw [un (d := 36) rfl]
    simp [b_law_next, look, K24.atD, ixI, hv, e, setiK, m0, m1, tk]
  · refine ⟨v.fmod m, j, v.fdiv m, ?_, mod_rng hm⟩
    simp only [stO]
    rw [un (d := 36) rfl]
    simp [b_law_next, look, K24.atD, ixI, hv, setiK, m0, m1, tk]
end K24
/-! K24P18: loops by places; the law's own distance, inner. -/
set_option Elab.async false
set_option linter.all false
set_option maxRecDepth 100000
set_option maxHeartbeats 2000000
namespace K24
theorem forL_inv {f : D → Sl → Hs → Option Fl} (P : Nat → Sl → Hs → Prop) : ∀ (xs : List D) (i : Nat) (s : Sl) (h : Hs), P i s h → (∀ j x s h, xs[j]? = some x → P (i + j) s h → ∃ s' h', f x s h = some (.nx s' h') ∧ P (i + j + 1) s' h') → ∃ s' h', forL f xs s h = some (.nx s' h') ∧ P (i + xs.length) s' h'
  | [], i, s, h, p, _ => ⟨s, h, rfl, p⟩
  | x :: xs, i, s, h, p, st => by
    obtain ⟨s1, h1, e1, p1⟩ := st 0 x s h rfl p
    obtain ⟨s2, h2, e2, p2⟩ := forL_inv P xs (i + 1) s1 h1 p1 (fun j y s h hy pj => by
      obtain ⟨s3, h3, e3, p3⟩ := st (j + 1) y s h (by simpa using hy) (by rw [show i + (j + 1) = i + 1 + j by omega]; exact pj)
      exact ⟨s3, h3, e3, by rw [show i + 1 + j + 1 = i + (j + 1) + 1 by omega]; exact p3⟩)
    refine ⟨s2, h2, ?_, by rw [List.length_cons, show i + (xs.length + 1) = i + 1 + xs.length by omega]; exact p2⟩
    rw [forL_cons, e1, bnd_some, seqK_nx, e2]
theorem rangeD_len (n : Nat) : (rangeD n).length = n := by simp [rangeD]
theorem rangeD_get {n j : Nat} {x : D} (h : (rangeD n)[j]? = some x) : j < n ∧ x = .int j := by
  have hj : j < n := by
    have := (List.getElem?_eq_some_iff.mp h).1
    rwa [rangeD_len] at this
  refine ⟨hj, ?_⟩
  unfold rangeD at h
  rw [List.getElem?_map, List.getElem?_range hj] at h
  exact (Option.some.inj h).symm
abbrev lV (l : List Int) : AV := .d (.lst (l.map .int))
theorem dist_snoc : ∀ {a b : List Int} {i : Nat} (ha : i < a.length) (hb : i < b.length), dist (a.take (i + 1)) (b.take (i + 1)) = dist (a.take i) (b.take i) + (a[i] - b[i]) * (a[i] - b[i])
  | x :: a, y :: b, 0, _, _ => by simp [dist]
  | x :: a, y :: b, i + 1, ha, hb => by
    have ih := dist_snoc (a := a) (b := b) (i := i) (by simpa using ha) (by simpa using hb)
    rw [List.take_succ_cons, List.take_succ_cons, List.take_succ_cons, List.take_succ_cons]
    simp only [dist, List.getElem_cons_succ]
    rw [ih]
    omega
theorem ldist_ev {k : Nat} {a b : List Int} (sa : Sm a) (sb : Sm b) (hl : a.length = b.length) (hn : a.length ≤ 1000) (h : Hs) : callF prog (k + 1) 38 [lV a, lV b] h = some (.int (dist a b), h) := by
  obtain ⟨s', h', e, o, es, eh⟩ := forL_inv (f := LB prog (callF prog k) (.one 3) (.cons (.set 2 (.bin .add (.var 2) (.bin .mul (.bin .sub (.idx (.var 0) (.var 3)) (.idx (.var 1) (.var 3))) (.bin .sub (.idx (.var 0) (.var 3)) (.idx (.var 1) (.var 3)))))) .nil))
    (fun i s h' => ∃ o, s = [some (lV a), some (lV b), some (iI (dist (a.take i) (b.take i))), o] ∧ h' = h) (rangeD a.length) 0 [some (lV a), some (lV b), some (iI 0), none] h ⟨none, by simp [dist], rfl⟩ (fun j x s h1 hx ⟨o, es, eh⟩ => by
      obtain ⟨hj, rfl⟩ := rangeD_get hx
      subst es eh
      have h1 := at_map (ns := a) (j := j) hj
      have h2 := at_map (ns := b) (j := j) (by omega)
      have b1 := sa _ (List.getElem_mem hj)
      have b2 := sb _ (List.getElem_mem (show j < b.length by omega))
      have m := mul_ok (a := a[j] - b[j]) (b := a[j] - b[j]) (by omega)
      refine ⟨_, _, ?_, some (iI j), rfl, rfl⟩
      rw [show 0 + j + 1 = j + 1 by omega, dist_snoc hj (by omega)]
      simp [LB, h1, h2, m])
  rw [Nat.zero_add, rangeD_len] at es
  subst es eh
  rw [List.take_length, hl, List.take_length] at e
  rw [un (d := 38) rfl]
  have r : rngD (.int (a.length : Int)) = some (rangeD a.length) := by
    refine (bool_if _ _).trans ?_
    have : a.length ≤ line := by rw [line_is]; omega
    simp [this]
  simp [b_law_distance, r]
  rw [← hl] at e
  simp [e]
theorem rng_ok {n : Nat} (hn : n ≤ 1000) : rngD (.int (n : Int)) = some (rangeD n) := by
  refine (bool_if _ _).trans ?_
  have : n ≤ line := by rw [line_is]; omega
  simp [this]
theorem dot_snoc : ∀ {a b : List Int} {i : Nat} (ha : i < a.length) (hb : i < b.length), dot (a.take (i + 1)) (b.take (i + 1)) = dot (a.take i) (b.take i) + a[i] * b[i]
  | x :: a, y :: b, 0, _, _ => by simp [dot]
  | x :: a, y :: b, i + 1, ha, hb => by
    have ih := dot_snoc (a := a) (b := b) (i := i) (by simpa using ha) (by simpa using hb)
    rw [List.take_succ_cons, List.take_succ_cons, List.take_succ_cons, List.take_succ_cons]
    simp only [dot, List.getElem_cons_succ]
    rw [ih]
    omega
theorem linner_ev {k : Nat} {a b : List Int} (sa : Sm a) (hl : a.length = b.length) (hn : a.length ≤ 1000) (h : Hs) : callF prog (k + 1) 39 [lV a, lV b] h = some (.int (dot a b), h) := by
  obtain ⟨s', h', e, o, es, eh⟩ := forL_inv (f := LB prog (callF prog k) (.one 3) (.cons (.set 2 (.bin .add (.var 2) (.bin .mul (.idx (.var 0) (.var 3)) (.idx (.var 1) (.var 3))))) .nil))
    (fun i s h' => ∃ o, s = [some (lV a), some (lV b), some (iI (dot (a.take i) (b.take i))), o] ∧ h' = h) (rangeD a.length) 0 [some (lV a), some (lV b), some (iI 0), none] h ⟨none, by simp [dot], rfl⟩ (fun j x s h1 hx ⟨o, es, eh⟩ => by
      obtain ⟨hj, rfl⟩ := rangeD_get hx
      subst es eh
      have h1 := at_map (ns := a) (j := j) hj
      have h2 := at_map (ns := b) (j := j) (by omega)
      have b1 := sa _ (List.getElem_mem hj)
      have m := mul_ok (a := a[j]) (b := b[j]) (by omega)
      refine ⟨_, _, ?_, some (iI j), rfl, rfl⟩
      rw [show 0 + j + 1 = j + 1 by omega, dot_snoc hj (by omega)]
      simp [LB, h1, h2, m])
  rw [Nat.zero_add, rangeD_len] at es
  subst es eh
  rw [List.take_length, hl, List.take_length] at e
  rw [un (d := 39) rfl]
  simp [b_law_inner, rng_ok hn]
  rw [← hl] at e
  simp [e]
end K24
/-! K24P19: comprehensions turn by turn; the law's own differing. -/
set_option Elab.async false
set_option linter.all false
set_option maxRecDepth 100000
set_option maxHeartbeats 2000000
namespace K24
theorem compL_inv {f : D → Hs → Option (Option D × Hs)} (P : Nat → List D → Hs → Prop) : ∀ (xs : List D) (i : Nat) (acc : List D) (h : Hs), P i acc h → (∀ j x acc h, xs[j]? = some x → P (i + j) acc h → ∃ o h', f x h = some (o, h') ∧ P (i + j + 1) (acc ++ o.toList) h') → ∃ ys h', compL f xs h = some (ys, h') ∧ P (i + xs.length) (acc ++ ys) h'
  | [], i, acc, h, p, _ => ⟨[], h, rfl, by simpa using p⟩
  | x :: xs, i, acc, h, p, st => by
    obtain ⟨o, h1, e1, p1⟩ := st 0 x acc h rfl p
    obtain ⟨ys, h2, e2, p2⟩ := compL_inv P xs (i + 1) (acc ++ o.toList) h1 p1 (fun j y acc h hy pj => by
      obtain ⟨o3, h3, e3, p3⟩ := st (j + 1) y acc h (by simpa using hy) (by rw [show i + (j + 1) = i + 1 + j by omega]; exact pj)
      exact ⟨o3, h3, e3, by rw [show i + 1 + j + 1 = i + (j + 1) + 1 by omega]; exact p3⟩)
    refine ⟨o.toList ++ ys, h2, ?_, by rw [List.length_cons, show i + (xs.length + 1) = i + 1 + xs.length by omega, ← List.append_assoc]; exact p2⟩
    rw [compL_cons, e1, bnd_some, e2, bnd_some]
    cases o <;> rfl
theorem diff_snoc : ∀ {a b : List Int} {i : Nat} (ha : i < a.length) (hb : i < b.length), diff (a.take (i + 1)) (b.take (i + 1)) = diff (a.take i) (b.take i) + if a[i] = b[i] then 0 else 1
  | x :: a, y :: b, 0, _, _ => by simp [diff]
  | x :: a, y :: b, i + 1, ha, hb => by
    have ih := diff_snoc (a := a) (b := b) (i := i) (by simpa using ha) (by simpa using hb)
    rw [List.take_succ_cons, List.take_succ_cons, List.take_succ_cons, List.take_succ_cons]
    simp only [diff, List.getElem_cons_succ]
    rw [ih]
    omega
theorem ldiff_ev {k : Nat} {a b : List Int} (hl : a.length = b.length) (hn : a.length ≤ 1000) (h : Hs) : callF prog (k + 1) 40 [lV a, lV b] h = some (.int (diff a b), h) := by
  obtain ⟨ys, h', e, p, eh⟩ := compL_inv (f := CB prog (callF prog k) (.var 2) (.one 2) (.yes (.cmp .ne (.idx (.var 0) (.var 2)) (.idx (.var 1) (.var 2)))) [some (lV a), some (lV b), none])
    (fun i acc h' => (acc.length : Int) = diff (a.take i) (b.take i) ∧ h' = h) (rangeD a.length) 0 [] h ⟨by simp [diff], rfl⟩ (fun j x acc h1 hx ⟨p, eh⟩ => by
      obtain ⟨hj, rfl⟩ := rangeD_get hx
      subst eh
      have h1 := at_map (ns := a) (j := j) hj
      have h2 := at_map (ns := b) (j := j) (by omega)
      have dd := diff_snoc (a := a) (b := b) hj (by omega)
      rw [Nat.zero_add] at p ⊢
      by_cases c : a[j] = b[j]
      · refine ⟨none, _, by simp [CB, h1, h2, c], ?_, rfl⟩
        simp [dd, c, p]
      · refine ⟨some (.int j), _, by simp [CB, h1, h2, c], ?_, rfl⟩
        simp [dd, c, p])
  subst eh
  rw [Nat.zero_add, rangeD_len, List.take_length, hl, List.take_length, List.nil_append] at p
  rw [un (d := 40) rfl]
  simp [b_law_differing, rng_ok hn, e, p]
end K24
/-! K24P20: drawn vectors. -/
set_option Elab.async false
set_option linter.all false
set_option maxRecDepth 100000
set_option maxHeartbeats 2000000
namespace K24
/-- the heap holds a state of the script at place 0 -/
def StH (ns : List Int) (rest h : Hs) : Prop := ∃ j v, h = stO ns j v :: rest
theorem next_st {k : Nat} {ns : List Int} {rest h : Hs} (m : Int) (hm : 0 < m ∧ m < 1000000000) (s : StH ns rest h) : ∃ r h', callF prog (k + 2) 36 [.ref 0, iI m] h = some (.int r, h') ∧ 0 ≤ r ∧ r < m ∧ StH ns rest h' := by
  obtain ⟨j, v, rfl⟩ := s
  obtain ⟨r, j', v', e, h1, h2⟩ := next_ev (k := k) ns j v m rest hm.1 hm.2
  exact ⟨r, _, e, h1, h2, j', v', rfl⟩
theorem vec_ev {k n : Nat} {ns : List Int} {rest h : Hs} (hn : n ≤ 1000) (s : StH ns rest h) : ∃ (l : List Int) (h' : Hs), callF prog (k + 3) 37 [.ref 0, iI n] h = some (.lst (l.map .int), h') ∧ l.length = n ∧ Sm l ∧ StH ns rest h' := by
  obtain ⟨r, h1, e1, r0, r1, s1⟩ := next_st (k := k) 3 (by omega) s
  have pick : ∃ sp : Int, K24.atD (.lst [.int 2, .int 6, .int 300]) r = some (.int sp) ∧ 0 ≤ sp ∧ sp ≤ 300 := by
    rcases (show r = 0 ∨ r = 1 ∨ r = 2 by omega) with rfl | rfl | rfl
    · exact ⟨2, rfl, by omega, by omega⟩
    · exact ⟨6, rfl, by omega, by omega⟩
    · exact ⟨300, rfl, by omega, by omega⟩
  obtain ⟨sp, e2, p0, p1⟩ := pick
  obtain ⟨ys, h', e, ⟨l, rfl, hl, sl⟩, s'⟩ := compL_inv (f := CB prog (callF prog (k + 2)) (.bin .sub (.call 36 (.cons (.var 0) (.cons (.bin .add (.bin .mul (.lit (.int 2)) (.var 2)) (.lit (.int 1))) .nil))) (.var 2)) (.one 3) .no [some (.ref 0), some (iI n), some (iI sp), none])
    (fun i acc h' => (∃ l : List Int, acc = l.map .int ∧ l.length = i ∧ Sm l) ∧ StH ns rest h') (rangeD n) 0 [] h1 ⟨⟨[], rfl, rfl, fun x hx => nomatch hx⟩, s1⟩ (fun j x acc h2 hx ⟨⟨l, el, hl, sl⟩, s2⟩ => by
      obtain ⟨d, h3, e3, d0, d1, s3⟩ := next_st (k := k) (2 * sp + 1) (by omega) s2
      refine ⟨some (.int (d - sp)), h3, ?_, ⟨l ++ [d - sp], by simp [el], by simp [hl], ?_⟩, s3⟩
      · simp [CB, mul_ok (a := 2) (b := sp) (by omega), e3]
      · intro y hy
        rcases List.mem_append.mp hy with hy | hy
        · exact sl y hy
        · rw [List.mem_singleton.mp hy]
          omega)
  rw [Nat.zero_add, rangeD_len] at hl
  refine ⟨l, h', ?_, hl, sl, s'⟩
  have tk : h'.take h.length = h' := by
    obtain ⟨_, _, rfl⟩ := s
    obtain ⟨_, _, rfl⟩ := s'
    exact List.take_of_length_le (by simp)
  rw [un (d := 37) rfl]
  simp [b_law_vector, e1, e2, rng_ok hn, e, tk]
end K24
/-! K24P21: drawn parts. -/
set_option Elab.async false
set_option linter.all false
set_option maxRecDepth 100000
set_option maxHeartbeats 2000000
namespace K24
/-- where the parts end -/
def endP : Nat → List PT3 → Nat
  | e, [] => e
  | _, p :: ps => endP (p.1 + p.2.1.length) ps
theorem partsOk_snoc {n : Nat} {p : PT3} : ∀ {ps : List PT3} {e : Nat}, PartsOk n e ps → endP e ps ≤ p.1 → p.1 + p.2.1.length ≤ n → Sm p.2.1 → 0 ≤ p.2.2 → p.2.2 ≤ 100000000 → PartsOk n e (ps ++ [p]) ∧ endP e (ps ++ [p]) = p.1 + p.2.1.length
  | [], e, _, h1, h2, h3, h4, h5 => ⟨⟨h1, h2, h3, h4, h5, trivial⟩, rfl⟩
  | q :: ps, e, ⟨a, b, c, d, f, g⟩, h1, h2, h3, h4, h5 => by
    obtain ⟨k1, k2⟩ := partsOk_snoc g h1 h2 h3 h4 h5
    exact ⟨⟨a, b, c, d, f, k1⟩, k2⟩
theorem partsIn_snoc {v : List Int} {p : PT3} {ps : List PT3} (h : PartsIn v ps) (hp : dist p.2.1 (cutL v p.1 p.2.1.length) ≤ p.2.2) : PartsIn v (ps ++ [p]) := fun x hx => by
  rcases List.mem_append.mp hx with hx | hx
  · exact h x hx
  · rw [List.mem_singleton.mp hx]
    exact hp
def specP (p : PT3) : D := .tup [.int p.1, .lst (p.2.1.map .int), .int p.2.2]
theorem cut_lst {v : List Int} {p l : Nat} (h : p + l ≤ v.length) : slD (.lst (v.map .int)) (some (p : Int)) (some ((p : Int) + (l : Int))) = some (.lst ((cutL v p l).map .int)) := by
  have h1 : ¬ ((p : Int) < 0) := by omega
  have h2 : ¬ ((p : Int) + (l : Int) < 0) := by omega
  have h3 : ((p : Int) + (l : Int)).toNat = p + l := by omega
  simp [slD, K24.cut, sIx, h1, h2, h3, cutL]
  rw [Nat.min_eq_left (by omega), Nat.min_eq_left (by omega), Nat.add_sub_cancel_left]
/-- small signs -/
def Ti (v : List Int) : Prop := ∀ x ∈ v, -10 ≤ x ∧ x ≤ 10
theorem Ti.sm {v : List Int} (t : Ti v) : Sm v := fun x hx => by
  have := t x hx
  omega
theorem Ti.cut {v : List Int} (h : Ti v) (s n : Nat) : Ti (cutL v s n) := fun x hx => h x (List.mem_of_mem_drop (List.mem_of_mem_take hx))
/-- each sign moved by a draw -/
theorem move_lp {k i : Nat} {ns : List Int} {rest : Hs} {m d : Int} {S : Sl} (h0 : S[0]? = some (some (.ref 0))) (hi : i < S.length) (i0 : i ≠ 0) (hm : 0 < m ∧ m < 100) (hd : 0 ≤ d ∧ d < 100) (xs : List Int) (tx : Ti xs) (h : Hs) (s : StH ns rest h) : ∃ (c : List Int) (h' : Hs), compL (CB prog (callF prog (k + 2)) (.bin .sub (.bin .add (.var i) (.call 36 (.cons (.var 0) (.cons (.lit (.int m)) .nil)))) (.lit (.int d))) (.one i) .no S) (xs.map .int) h = some (c.map .int, h') ∧ c.length = xs.length ∧ Sm c ∧ StH ns rest h' := by
  obtain ⟨ys, h', e, ⟨l, rfl, hl, sl⟩, s'⟩ := compL_inv (f := CB prog (callF prog (k + 2)) (.bin .sub (.bin .add (.var i) (.call 36 (.cons (.var 0) (.cons (.lit (.int m)) .nil)))) (.lit (.int d))) (.one i) .no S)
    (fun i acc h' => (∃ l : List Int, acc = l.map .int ∧ l.length = i ∧ Sm l) ∧ StH ns rest h') (xs.map .int) 0 [] h ⟨⟨[], rfl, rfl, fun x hx => nomatch hx⟩, s⟩ (fun j x acc h2 hx ⟨⟨l, el, hl, sl⟩, s2⟩ => by
      obtain ⟨r, h3, e3, d0, d1, s3⟩ := next_st (k := k) m (by omega) s2
      rw [List.getElem?_map] at hx
      cases q : xs[j]? with
      | none => rw [q] at hx; cases hx
      | some y =>
        rw [q] at hx
        cases hx
        have ty := tx y (List.mem_of_getElem? q)
        refine ⟨some (.int (y + r - d)), h3, ?_, ⟨l ++ [y + r - d], by simp [el], by simp [hl], ?_⟩, s3⟩
        · simp [CB, Tg.slots, wipeS, List.getElem?_set, hi, h0, i0, e3]
        · intro z hz
          rcases List.mem_append.mp hz with hz | hz
          · exact sl z hz
          · rw [List.mem_singleton.mp hz]
            omega)
  rw [Nat.zero_add, List.length_map] at hl
  exact ⟨l, h', by simpa using e, hl, sl, s'⟩
/-! ### the heap behind the state -/
theorem StH.back {ns : List Int} {rest xs h h' : Hs} (s : StH ns rest h) (s' : StH ns (rest ++ xs) h') : StH ns rest (h'.take h.length) := by
  obtain ⟨j, v, rfl⟩ := s
  obtain ⟨j', v', rfl⟩ := s'
  refine ⟨j', v', ?_⟩
  simp
theorem StH.back0 {ns : List Int} {rest h h' : Hs} (s : StH ns rest h) (s' : StH ns rest h') : h'.take h.length = h' := by
  obtain ⟨j, v, rfl⟩ := s
  obtain ⟨j', v', rfl⟩ := s'
  simp
theorem StH.len {ns : List Int} {rest h : Hs} (s : StH ns rest h) : h.length = rest.length + 1 := by
  obtain ⟨j, v, rfl⟩ := s
  simp
theorem StH.push {ns : List Int} {rest h : Hs} (s : StH ns rest h) (o : AO) : StH ns (rest ++ [o]) (h ++ [o]) := by
  obtain ⟨j, v, rfl⟩ := s
  exact ⟨j, v, rfl⟩
theorem StH.at1 {ns : List Int} {rest h : Hs} {o : AO} (s : StH ns (rest ++ [o]) h) : h[rest.length + 1]? = some o := by
  obtain ⟨j, v, rfl⟩ := s
  simp
theorem StH.set1 {ns : List Int} {rest h : Hs} {o : AO} (s : StH ns (rest ++ [o]) h) (o' : AO) : StH ns (rest ++ [o']) (h.set (rest.length + 1) o') := by
  obtain ⟨j, v, rfl⟩ := s
  exact ⟨j, v, by simp⟩
theorem StH.isl {ns : List Int} {rest h : Hs} {xs : List D} (s : StH ns (rest ++ [.lst xs]) h) : isL h (rest.length + 1) = some () := by
  unfold isL
  rw [s.at1]
theorem StH.app {ns : List Int} {rest h : Hs} {xs : List D} (s : StH ns (rest ++ [.lst xs]) h) (hl : xs.length < 1000) (x : D) (S : Sl) : ∃ h', appK (rest.length + 1) x S h = some (.nx S h') ∧ StH ns (rest ++ [.lst (xs ++ [x])]) h' := by
  refine ⟨_, ?_, s.set1 _⟩
  unfold appK
  rw [s.at1]
  have : Nat.blt xs.length line = true := by
    rw [Nat.blt_eq, line_is]
    omega
  simp only [this]
theorem StH.frz1 {ns : List Int} {rest h : Hs} {xs : List D} (s : StH ns (rest ++ [.lst xs]) h) : ∃ h', frz h (.ref (rest.length + 1)) = some (.lst xs, h') ∧ StH ns (rest ++ [.dead]) h' := by
  refine ⟨_, ?_, s.set1 _⟩
  unfold frz
  simp only [s.at1]
/-! ### the turns of the parts -/
abbrev tpS (rest : Hs) (v : List Int) (p : Nat) (a5 a6 a7 a8 a9 a10 : Option AV) : Sl := [some (.ref 0), some (lV v), some (.d (.lst [])), some (.ref (rest.length + 1)), some (iI p), a5, a6, a7, a8, a9, a10]
theorem tp_a {k j : Nat} {ns : List Int} {rest q h : Hs} {v : List Int} {p : Nat} (hp : p ≤ v.length) (a6 a7 a8 a9 a10 : Option AV) (s : StH ns q h) : ∃ (l : Nat) (h' : Hs), p + l ≤ v.length ∧ StH ns q h' ∧ ∀ X, exs prog (callF prog (k + 2)) (.cons (.set 6 (.blt .min2 (.cons (.bin .sub (.blt .len (.cons (.var 1) .nil)) (.var 4)) (.cons (.call 36 (.cons (.var 0) (.cons (.lit (.int 3)) .nil))) .nil)))) (.cons (.ite (.cmp .eq (.var 5) (.lit (.int 2))) (.cons (.set 6 (.bin .sub (.blt .len (.cons (.var 1) .nil)) (.var 4))) .nil) .nil) X)) (tpS rest v p (some (iI j)) a6 a7 a8 a9 a10) h = exs prog (callF prog (k + 2)) X (tpS rest v p (some (iI j)) (some (iI l)) a7 a8 a9 a10) h' := by
  obtain ⟨r, h1, e1, r0, r1, s1⟩ := next_st (k := k) 3 (by omega) s
  obtain ⟨l1, hl1, hn1⟩ : ∃ l1 : Nat, (if r < (v.length : Int) - (p : Int) then r else (v.length : Int) - p) = (l1 : Int) ∧ p + l1 ≤ v.length := by
    split
    · exact ⟨r.toNat, by omega, by omega⟩
    · exact ⟨v.length - p, by omega, by omega⟩
  by_cases hj : (j : Int) = 2
  · refine ⟨v.length - p, h1, by omega, s1, fun X => ?_⟩
    have c : ((v.length - p : Nat) : Int) = (v.length : Int) - (p : Int) := by omega
    rw [c]
    simp [tpS, e1, blt2, hj]
  · refine ⟨l1, h1, hn1, s1, fun X => ?_⟩
    simp [tpS, e1, blt2, hj, hl1]
theorem tp_b {k : Nat} {ns : List Int} {rest q h : Hs} {v : List Int} {p l : Nat} (hp : p + l ≤ v.length) (hv : v.length ≤ 100) (tv : Ti v) (a5 a7 a8 a9 a10 : Option AV) (s : StH ns q h) : ∃ (c : List Int) (h' : Hs) (b9 : Option AV), c.length = l ∧ Sm c ∧ StH ns q h' ∧ ∀ X, exs prog (callF prog (k + 2)) (.cons (.set 7 (.comp (.bin .sub (.bin .add (.var 10) (.call 36 (.cons (.var 0) (.cons (.lit (.int 7)) .nil)))) (.lit (.int 3))) (.one 10) (.val (.sl (.var 1) (.yes (.var 4)) (.yes (.bin .add (.var 4) (.var 6))))) .no)) (.cons (.set 8 (.lit (.int 0))) (.cons (.loop (.one 9) (.val (.bin .add (.lst (.cons (.var 1) .nil)) (.var 2))) (.cons (.set 8 (.blt .max2 (.cons (.var 8) (.cons (.call 38 (.cons (.var 7) (.cons (.sl (.var 9) (.yes (.var 4)) (.yes (.bin .add (.var 4) (.var 6)))) .nil))) .nil)))) .nil)) X))) (tpS rest v p a5 (some (iI l)) a7 a8 a9 a10) h = exs prog (callF prog (k + 2)) X (tpS rest v p a5 (some (iI l)) (some (lV c)) (some (iI (dist c (cutL v p l)))) b9 a10) h' := by
  have cl := cut_lst hp
  have cn := cutL_len hp
  obtain ⟨c, h1, e1, hc, sc, s1⟩ := move_lp (k := k) (i := 10) (m := 7) (d := 3) (S := tpS rest v p a5 (some (iI l)) a7 a8 a9 a10) rfl (by simp) (by omega) (by omega) (by omega) (cutL v p l) (tv.cut p l) h s
  rw [cn] at hc
  have dd := ldist_ev (k := k + 1) sc (tv.sm.cut p l) (by rw [hc, cn]) (by omega) h1
  have d0 := dist_nn c (cutL v p l)
  have d1 : (if dist c (cutL v p l) > 0 then dist c (cutL v p l) else 0) = dist c (cutL v p l) := by split <;> omega
  refine ⟨c, h1, some (lV v), hc, sc, s1, fun X => ?_⟩
  simp only [tpS] at e1
  simp [tpS, cl, itemsD, e1, line_is, LB, dd, blt2, d1]
theorem tp_c {k : Nat} {ns : List Int} {rest h : Hs} {v : List Int} {p : Nat} {xs : List D} {c : List Int} {d : Int} (hx : xs.length < 1000) (a5 a6 a9 a10 : Option AV) (s : StH ns (rest ++ [.lst xs]) h) : ∃ (r : Int) (h' : Hs), 0 ≤ r ∧ r < 3 ∧ StH ns (rest ++ [.lst (xs ++ [specP (p, c, d + r)])]) h' ∧ ∀ X, exs prog (callF prog (k + 2)) (.cons (.app 3 (.tup (.cons (.var 4) (.cons (.var 7) (.cons (.bin .add (.var 8) (.call 36 (.cons (.var 0) (.cons (.lit (.int 3)) .nil)))) .nil))))) X) (tpS rest v p a5 a6 (some (lV c)) (some (iI d)) a9 a10) h = exs prog (callF prog (k + 2)) X (tpS rest v p a5 a6 (some (lV c)) (some (iI d)) a9 a10) h' := by
  obtain ⟨r, h1, e1, r0, r1, s1⟩ := next_st (k := k) 3 (by omega) s
  obtain ⟨h2, e2, s2⟩ := s1.app hx (specP (p, c, d + r)) (tpS rest v p a5 a6 (some (lV c)) (some (iI d)) a9 a10)
  refine ⟨r, h2, r0, r1, s2, fun X => ?_⟩
  simp only [tpS, specP] at e2
  simp [tpS, -isL_eq, s.isl, e1, e2]
theorem tp_d {k : Nat} {ns : List Int} {rest q h : Hs} {v : List Int} {p l : Nat} (hp : p + l ≤ v.length) (a5 a7 a8 a9 a10 : Option AV) (s : StH ns q h) : ∃ (p' : Nat) (h' : Hs), p + l ≤ p' ∧ p' ≤ v.length ∧ StH ns q h' ∧ ∀ X, exs prog (callF prog (k + 2)) (.cons (.set 4 (.bin .add (.bin .add (.var 4) (.var 6)) (.idx (.lst (.cons (.lit (.int 0)) (.cons (.lit (.int 0)) (.cons (.lit (.int 0)) (.cons (.lit (.int 1)) .nil))))) (.call 36 (.cons (.var 0) (.cons (.lit (.int 4)) .nil)))))) (.cons (.ite (.cmp .gt (.var 4) (.blt .len (.cons (.var 1) .nil))) (.cons (.set 4 (.blt .len (.cons (.var 1) .nil))) .nil) .nil) X)) (tpS rest v p a5 (some (iI l)) a7 a8 a9 a10) h = exs prog (callF prog (k + 2)) X (tpS rest v p' a5 (some (iI l)) a7 a8 a9 a10) h' := by
  obtain ⟨r, h1, e1, r0, r1, s1⟩ := next_st (k := k) 4 (by omega) s
  have pick : ∃ d : Nat, K24.atD (.lst [.int 0, .int 0, .int 0, .int 1]) r = some (.int d) ∧ d ≤ 1 := by
    rcases (show r = 0 ∨ r = 1 ∨ r = 2 ∨ r = 3 by omega) with rfl | rfl | rfl | rfl
    · exact ⟨0, rfl, by omega⟩
    · exact ⟨0, rfl, by omega⟩
    · exact ⟨0, rfl, by omega⟩
    · exact ⟨1, rfl, by omega⟩
  obtain ⟨d, e2, hd⟩ := pick
  by_cases c : (v.length : Int) < (p : Int) + (l : Int) + (d : Int)
  · refine ⟨v.length, h1, by omega, by omega, s1, fun X => ?_⟩
    simp [tpS, e1, e2, c]
  · refine ⟨p + l + d, h1, by omega, by omega, s1, fun X => ?_⟩
    simp [tpS, e1, e2, c]
theorem tparts_ev {k n : Nat} {ns : List Int} {rest h : Hs} {v : List Int} (hn : v.length = n) (n4 : n ≤ 4) (tv : Ti v) (s : StH ns rest h) : ∃ (ps : List PT3) (h' : Hs), callF prog (k + 3) 42 [.ref 0, lV v, .d (.lst [])] h = some (.tup [.str [112, 97, 114, 116, 115], .lst (ps.map specP)], h') ∧ PartsOk n 0 ps ∧ PartsIn v ps ∧ StH ns rest h' := by
  obtain ⟨S', h', e, ps, p, a5, a6, a7, a8, a9, a10, rfl, s1, k1, k2, k3, k4, k5⟩ := forL_inv (f := LB prog (callF prog (k + 2)) (.one 5) (.cons (.set 6 (.blt .min2 (.cons (.bin .sub (.blt .len (.cons (.var 1) .nil)) (.var 4)) (.cons (.call 36 (.cons (.var 0) (.cons (.lit (.int 3)) .nil))) .nil)))) (.cons (.ite (.cmp .eq (.var 5) (.lit (.int 2))) (.cons (.set 6 (.bin .sub (.blt .len (.cons (.var 1) .nil)) (.var 4))) .nil) .nil) (.cons (.set 7 (.comp (.bin .sub (.bin .add (.var 10) (.call 36 (.cons (.var 0) (.cons (.lit (.int 7)) .nil)))) (.lit (.int 3))) (.one 10) (.val (.sl (.var 1) (.yes (.var 4)) (.yes (.bin .add (.var 4) (.var 6))))) .no)) (.cons (.set 8 (.lit (.int 0))) (.cons (.loop (.one 9) (.val (.bin .add (.lst (.cons (.var 1) .nil)) (.var 2))) (.cons (.set 8 (.blt .max2 (.cons (.var 8) (.cons (.call 38 (.cons (.var 7) (.cons (.sl (.var 9) (.yes (.var 4)) (.yes (.bin .add (.var 4) (.var 6)))) .nil))) .nil)))) .nil)) (.cons (.app 3 (.tup (.cons (.var 4) (.cons (.var 7) (.cons (.bin .add (.var 8) (.call 36 (.cons (.var 0) (.cons (.lit (.int 3)) .nil)))) .nil))))) (.cons (.set 4 (.bin .add (.bin .add (.var 4) (.var 6)) (.idx (.lst (.cons (.lit (.int 0)) (.cons (.lit (.int 0)) (.cons (.lit (.int 0)) (.cons (.lit (.int 1)) .nil))))) (.call 36 (.cons (.var 0) (.cons (.lit (.int 4)) .nil)))))) (.cons (.ite (.cmp .gt (.var 4) (.blt .len (.cons (.var 1) .nil))) (.cons (.set 4 (.blt .len (.cons (.var 1) .nil))) .nil) .nil) .nil)))))))))
    (fun i S h' => ∃ (ps : List PT3) (p : Nat) (a5 a6 a7 a8 a9 a10 : Option AV), S = tpS rest v p a5 a6 a7 a8 a9 a10 ∧ StH ns (rest ++ [.lst (ps.map specP)]) h' ∧ PartsOk n 0 ps ∧ PartsIn v ps ∧ endP 0 ps ≤ p ∧ p ≤ n ∧ ps.length = i) (rangeD 3) 0 (tpS rest v 0 none none none none none none) (h ++ [.lst []])
    ⟨[], 0, none, none, none, none, none, none, rfl, s.push _, trivial, fun x hx => (nomatch hx), Nat.le_refl _, Nat.zero_le _, rfl⟩ (fun j x S h1 hx ⟨ps, p, a5, a6, a7, a8, a9, a10, es, s1, k1, k2, k3, k4, k5⟩ => by
      obtain ⟨hj, rfl⟩ := rangeD_get hx
      subst es
      obtain ⟨l, h2, hl, s2, e2⟩ := tp_a (k := k) (j := j) (rest := rest) (v := v) (p := p) (by omega) a6 a7 a8 a9 a10 s1
      obtain ⟨c, h3, b9, hc, sc, s3, e3⟩ := tp_b (k := k) (rest := rest) hl (by omega) tv (some (iI j)) a7 a8 a9 a10 s2
      obtain ⟨r, h4, r0, r1, s4, e4⟩ := tp_c (k := k) (v := v) (p := p) (c := c) (d := dist c (cutL v p l)) (by simp [k5]; omega) (some (iI j)) (some (iI l)) b9 a10 s3
      obtain ⟨p', h5, p0, p1, s5, e5⟩ := tp_d (k := k) (rest := rest) hl (some (iI j)) (some (lV c)) (some (iI (dist c (cutL v p l)))) b9 a10 s4
      have d0 := dist_nn c (cutL v p l)
      have d1 := dist_le sc (tv.sm.cut p l)
      subst hc
      obtain ⟨o1, o2⟩ := partsOk_snoc (p := (p, c, dist c (cutL v p c.length) + r)) k1 k3 (by simp; omega) sc (by simp; omega) (by simp; omega)
      refine ⟨_, h5, ?_, ps ++ [(p, c, dist c (cutL v p c.length) + r)], p', some (iI j), some (iI c.length), some (lV c), some (iI (dist c (cutL v p c.length))), b9, a10, rfl, by simpa using s5, o1, partsIn_snoc k2 (by simp; omega), by rw [o2]; exact p0, by omega, by simp [k5]⟩
      show bnd (setT (.one 5) (.int j) (tpS rest v p a5 a6 a7 a8 a9 a10)) _ = _
      rw [setT_one, bnd_some]
      show exs prog (callF prog (k + 2)) _ (tpS rest v p (some (iI j)) a6 a7 a8 a9 a10) h1 = _
      rw [e2, e3, e4, e5, exs_nil])
  obtain ⟨h2, f2, s2⟩ := s1.frz1
  refine ⟨ps, h2.take h.length, ?_, k1, k2, s.back s2⟩
  have l1 := s.len
  have r3 : rngD (.int 3) = some (rangeD 3) := rfl
  rw [un (d := 42) rfl]
  simp only [tpS] at e
  simp [-frz, b_law_true_parts, l1, r3]
  rw [show ((0 : Nat) : Int) = 0 from rfl] at e
  simp [e, f2]
end K24
/-! K24P22: drawn facts on vectors. -/
set_option Elab.async false
set_option linter.all false
set_option maxRecDepth 100000
set_option maxHeartbeats 2000000
namespace K24
/-- what the draws give for a fact -/
def specD : FactL → D
  | .parts ps => .tup [.str [112, 97, 114, 116, 115], .lst (ps.map specP)]
  | .cell a b => .tup [.str [99, 101, 108, 108], .lst (a.map .int), .lst (b.map .int)]
  | .box a b => .tup [.str [98, 111, 120], .lst (a.map .int), .lst (b.map .int)]
  | .norms lo hi => .tup [.str [110, 111, 114, 109, 115], .int lo, .int hi]
  | .differ c m => .tup [.str [100, 105, 102, 102, 101, 114], .lst (c.map .int), .int m]
  | .range lo hi lack => .tup [.str [114, 97, 110, 103, 101], .str [110], .int lo, .int hi, .str lack]
  | .values cs lack => .tup [.str [118, 97, 108, 117, 101, 115], .str [116], .lst (cs.map .str), .str lack]
  | .counts ws => .tup [.str [99, 111, 117, 110, 116, 115], .lst (ws.map wordD)]
  | .names lo hi => .tup [.str [110, 97, 109, 101, 115], .str lo, .str hi]
def LeL : List Int → List Int → Prop
  | x :: a, y :: b => x ≤ y ∧ LeL a b
  | _, _ => True
theorem leL_snoc {x y : Int} (h : x ≤ y) : ∀ {a b : List Int}, LeL a b → a.length = b.length → LeL (a ++ [x]) (b ++ [y])
  | [], [], _, _ => ⟨h, trivial⟩
  | u :: a, w :: b, k, l => ⟨k.1, leL_snoc h k.2 (Nat.succ.inj l)⟩
theorem take_snoc : ∀ {v : List Int} {i : Nat} (h : i < v.length), v.take (i + 1) = v.take i ++ [v[i]]
  | x :: v, 0, _ => by simp
  | x :: v, i + 1, h => by
    have ih := take_snoc (v := v) (i := i) (by simpa using h)
    simp only [List.take_succ_cons, List.getElem_cons_succ, ih, List.cons_append]
theorem boxIn_of : ∀ {v a b : List Int}, LeL a v → LeL v b → BoxIn v a b
  | x :: v, l :: a, u :: b, h1, h2 => ⟨h1.1, h2.1, boxIn_of h1.2 h2.2⟩
  | [], _, _, _, _ => by simp [BoxIn]
  | _ :: _, [], _, _, _ => by simp [BoxIn]
  | _ :: _, _ :: _, [], _, _ => by simp [BoxIn]
abbrev tfS (v : List Int) (a2 a3 a4 a5 a6 a7 a8 a9 a10 a11 a12 : Option AV) : Sl := [some (.ref 0), some (.d (.lst [.lst (v.map .int)])), a2, a3, a4, a5, a6, a7, a8, a9, a10, a11, a12]
theorem low_lp {k n : Nat} {ns : List Int} {rest h : Hs} {v : List Int} (hv : v.length = n) (tv : Ti v) (a2 a3 a4 a5 a6 a7 a8 a9 a10 a11 a12 : Option AV) (s : StH ns rest h) : ∃ (lo : List Int) (h' : Hs), compL (CB prog (callF prog (k + 2)) (.bin .sub (.blt .minl (.cons (.comp (.idx (.var 6) (.var 12)) (.one 6) (.val (.var 1)) .no) .nil)) (.call 36 (.cons (.var 0) (.cons (.lit (.int 2)) .nil)))) (.one 12) .no (tfS v a2 a3 a4 a5 a6 a7 a8 a9 a10 a11 a12)) (rangeD n) h = some (lo.map .int, h') ∧ lo.length = n ∧ Sm lo ∧ LeL lo v ∧ StH ns rest h' := by
  obtain ⟨ys, h', e, ⟨l, rfl, hl, sl, ll⟩, s'⟩ := compL_inv (f := CB prog (callF prog (k + 2)) (.bin .sub (.blt .minl (.cons (.comp (.idx (.var 6) (.var 12)) (.one 6) (.val (.var 1)) .no) .nil)) (.call 36 (.cons (.var 0) (.cons (.lit (.int 2)) .nil)))) (.one 12) .no (tfS v a2 a3 a4 a5 a6 a7 a8 a9 a10 a11 a12))
    (fun i acc h' => (∃ l : List Int, acc = l.map .int ∧ l.length = i ∧ Sm l ∧ LeL l (v.take i)) ∧ StH ns rest h') (rangeD n) 0 [] h ⟨⟨[], rfl, rfl, fun x hx => (nomatch hx), trivial⟩, s⟩ (fun j x acc h2 hx ⟨⟨l, el, hl, sl, ll⟩, s2⟩ => by
      obtain ⟨hj, rfl⟩ := rangeD_get hx
      obtain ⟨r, h3, e3, d0, d1, s3⟩ := next_st (k := k) 2 (by omega) s2
      have a := at_map (ns := v) (j := j) (by omega)
      have ty := tv _ (List.getElem_mem (show j < v.length by omega))
      rw [Nat.zero_add] at hl ll ⊢
      refine ⟨some (.int (v[j] - r)), h3, ?_, ⟨l ++ [v[j] - r], by simp [el], by simp [hl], ?_, ?_⟩, s3⟩
      · simp [CB, tfS, Tg.slots, wipeS, itemsD, compL_cons, a, blt1, intsD, leastL, e3]
      · intro z hz
        rcases List.mem_append.mp hz with hz | hz
        · exact sl z hz
        · rw [List.mem_singleton.mp hz]
          omega
      · rw [take_snoc (show j < v.length by omega)]
        exact leL_snoc (by omega) ll (by simp; omega))
  rw [Nat.zero_add, rangeD_len] at hl ll
  rw [← hv, List.take_length] at ll
  exact ⟨l, h', by simpa using e, hl, sl, ll, s'⟩
theorem high_lp {k n : Nat} {ns : List Int} {rest h : Hs} {v : List Int} (hv : v.length = n) (tv : Ti v) (a2 a3 a4 a5 a6 a7 a8 a9 a10 a11 a12 : Option AV) (s : StH ns rest h) : ∃ (lo : List Int) (h' : Hs), compL (CB prog (callF prog (k + 2)) (.bin .add (.blt .maxl (.cons (.comp (.idx (.var 6) (.var 12)) (.one 6) (.val (.var 1)) .no) .nil)) (.call 36 (.cons (.var 0) (.cons (.lit (.int 2)) .nil)))) (.one 12) .no (tfS v a2 a3 a4 a5 a6 a7 a8 a9 a10 a11 a12)) (rangeD n) h = some (lo.map .int, h') ∧ lo.length = n ∧ Sm lo ∧ LeL v lo ∧ StH ns rest h' := by
  obtain ⟨ys, h', e, ⟨l, rfl, hl, sl, ll⟩, s'⟩ := compL_inv (f := CB prog (callF prog (k + 2)) (.bin .add (.blt .maxl (.cons (.comp (.idx (.var 6) (.var 12)) (.one 6) (.val (.var 1)) .no) .nil)) (.call 36 (.cons (.var 0) (.cons (.lit (.int 2)) .nil)))) (.one 12) .no (tfS v a2 a3 a4 a5 a6 a7 a8 a9 a10 a11 a12))
    (fun i acc h' => (∃ l : List Int, acc = l.map .int ∧ l.length = i ∧ Sm l ∧ LeL (v.take i) l) ∧ StH ns rest h') (rangeD n) 0 [] h ⟨⟨[], rfl, rfl, fun x hx => (nomatch hx), trivial⟩, s⟩ (fun j x acc h2 hx ⟨⟨l, el, hl, sl, ll⟩, s2⟩ => by
      obtain ⟨hj, rfl⟩ := rangeD_get hx
      obtain ⟨r, h3, e3, d0, d1, s3⟩ := next_st (k := k) 2 (by omega) s2
      have a := at_map (ns := v) (j := j) (by omega)
      have ty := tv _ (List.getElem_mem (show j < v.length by omega))
      rw [Nat.zero_add] at hl ll ⊢
      refine ⟨some (.int (v[j] + r)), h3, ?_, ⟨l ++ [v[j] + r], by simp [el], by simp [hl], ?_, ?_⟩, s3⟩
      · simp [CB, tfS, Tg.slots, wipeS, itemsD, compL_cons, a, blt1, intsD, mostL, e3]
      · intro z hz
        rcases List.mem_append.mp hz with hz | hz
        · exact sl z hz
        · rw [List.mem_singleton.mp hz]
          omega
      · rw [take_snoc (show j < v.length by omega)]
        exact leL_snoc (by omega) ll (by simp; omega))
  rw [Nat.zero_add, rangeD_len] at hl ll
  rw [← hv, List.take_length] at ll
  exact ⟨l, h', by simpa using e, hl, sl, ll, s'⟩
/-- each sign moved by 0 or 1 -/
theorem lift_lp {k : Nat} {ns : List Int} {rest h : Hs} {v : List Int} (a2 a3 a4 a5 a6 a7 a8 a9 a10 a11 a12 : Option AV) (s : StH ns rest h) : ∃ (c : List Int) (h' : Hs), compL (CB prog (callF prog (k + 2)) (.bin .add (.var 11) (.idx (.lst (.cons (.lit (.int 0)) (.cons (.lit (.int 0)) (.cons (.lit (.int 1)) .nil)))) (.call 36 (.cons (.var 0) (.cons (.lit (.int 3)) .nil))))) (.one 11) .no (tfS v a2 a3 a4 a5 a6 a7 a8 a9 a10 a11 a12)) (v.map .int) h = some (c.map .int, h') ∧ c.length = v.length ∧ StH ns rest h' := by
  obtain ⟨ys, h', e, ⟨l, rfl, hl⟩, s'⟩ := compL_inv (f := CB prog (callF prog (k + 2)) (.bin .add (.var 11) (.idx (.lst (.cons (.lit (.int 0)) (.cons (.lit (.int 0)) (.cons (.lit (.int 1)) .nil)))) (.call 36 (.cons (.var 0) (.cons (.lit (.int 3)) .nil))))) (.one 11) .no (tfS v a2 a3 a4 a5 a6 a7 a8 a9 a10 a11 a12))
    (fun i acc h' => (∃ l : List Int, acc = l.map .int ∧ l.length = i) ∧ StH ns rest h') (v.map .int) 0 [] h ⟨⟨[], rfl, rfl⟩, s⟩ (fun j x acc h2 hx ⟨⟨l, el, hl⟩, s2⟩ => by
      obtain ⟨r, h3, e3, d0, d1, s3⟩ := next_st (k := k) 3 (by omega) s2
      have pick : ∃ d : Int, K24.atD (.lst [.int 0, .int 0, .int 1]) r = some (.int d) := by
        rcases (show r = 0 ∨ r = 1 ∨ r = 2 by omega) with rfl | rfl | rfl
        · exact ⟨0, rfl⟩
        · exact ⟨0, rfl⟩
        · exact ⟨1, rfl⟩
      obtain ⟨d, e2⟩ := pick
      rw [List.getElem?_map] at hx
      cases q : v[j]? with
      | none => rw [q] at hx; cases hx
      | some y =>
        rw [q] at hx
        cases hx
        refine ⟨some (.int (y + d)), h3, ?_, ⟨l ++ [y + d], by simp [el], by simp [hl]⟩, s3⟩
        simp [CB, tfS, Tg.slots, wipeS, e3, e2])
  rw [Nat.zero_add, List.length_map] at hl
  exact ⟨l, h', by simpa using e, hl, s'⟩
theorem blt_list_l (xs : List D) : blt1 .list (.lst xs) = some (.lst xs) := rfl
theorem blt_tuple_l (xs : List D) : blt1 .tuple (.lst xs) = some (.tup xs) := rfl
theorem blt_min1 (x : Int) : blt1 .minl (.lst [.int x]) = some (.int x) := rfl
theorem blt_max1 (x : Int) : blt1 .maxl (.lst [.int x]) = some (.int x) := rfl
theorem blt_int_b (b : Bool) : blt1 .int (.bl b) = some (.int (if b = true then 1 else 0)) := rfl
theorem sl_one (x : D) : slD (.lst [x]) (some 1) none = some (.lst []) := rfl
theorem at_one (x : D) : K24.atD (.lst [x]) 0 = some x := rfl
theorem tfact_ev {k n : Nat} {ns : List Int} {rest h : Hs} {r : Rec} (hn : r.vec.length = n) (n4 : n ≤ 4) (tv : Ti r.vec) (s : StH ns rest h) : ∃ (f : FactL) (h' : Hs), callF prog (k + 4) 43 [.ref 0, .d (.lst [.lst (r.vec.map .int)])] h = some (specD f, h') ∧ Good n r f ∧ StH ns rest h' := by
  obtain ⟨nm, v, rn, rt, rw⟩ := r
  simp only at hn tv ⊢
  obtain ⟨q, h1, e1, q0, q1, s1⟩ := next_st (k := k + 1) 5 (by omega) s
  have q5 : q = 0 ∨ q = 1 ∨ q = 2 ∨ q = 3 ∨ q = 4 := by omega
  rw [un (d := 43) rfl]
  rcases q5 with rfl | rfl | rfl | rfl | rfl
  · obtain ⟨ps, h2, e2, k1, k2, s2⟩ := tparts_ev (k := k) hn n4 tv s1
    refine ⟨.parts ps, h2, ?_, ⟨k1, k2⟩, s2⟩
    have tk := s.back0 s2
    simp [b_law_true_fact, e1, at_one, sl_one, e2, tk, specD]
  · obtain ⟨c, h2, e2, hc, sc, s2⟩ := move_lp (k := k + 1) (i := 11) (m := 5) (d := 2) (S := tfS v (some (iI 1)) (some (lV v)) none none none none none none none none none) rfl (by simp) (by omega) (by omega) (by omega) v tv h1 s1
    obtain ⟨l, h3, e3, hl, sl, s3⟩ := vec_ev (k := k) (n := v.length) (by omega) s2
    have d1 := ldist_ev (k := k + 2) tv.sm sc (by omega) (by omega) h3
    have d2 := ldist_ev (k := k + 2) tv.sm sl (by omega) (by omega) h3
    have tk := s.back0 s3
    simp only [tfS, Nat.add_assoc, Nat.reduceAdd] at e1 e2 e3 d1 d2
    by_cases hd : dist v l < dist v c
    · refine ⟨.cell c c, h3, ?_, ⟨by omega, by omega, sc, sc, Int.le_refl _⟩, s3⟩
      simp [b_law_true_fact, e1, at_one, itemsD, e2, e3, LB, d1, d2, hd, blt_list_l, tk, specD]
    · refine ⟨.cell c l, h3, ?_, ⟨by omega, by omega, sc, sl, by simp only; omega⟩, s3⟩
      simp [b_law_true_fact, e1, at_one, itemsD, e2, e3, LB, d1, d2, hd, blt_list_l, tk, specD]
  · obtain ⟨lo, h2, e2, hlo, slo, llo, s2⟩ := low_lp (k := k + 1) hn tv (some (iI 2)) (some (lV v)) none none none none none none none none none s1
    obtain ⟨hi, h3, e3, hhi, shi, lhi, s3⟩ := high_lp (k := k + 1) hn tv (some (iI 2)) (some (lV v)) none none none (some (lV lo)) none none none none none s2
    have tk := s.back0 s3
    refine ⟨.box lo hi, h3, ?_, ⟨hlo, hhi, slo, shi, boxIn_of llo lhi⟩, s3⟩
    have r1 : rngD (.int (n : Int)) = some (rangeD n) := rng_ok (by omega)
    simp only [tfS, Nat.add_assoc, Nat.reduceAdd] at e1 e2 e3
    simp [b_law_true_fact, e1, at_one, hn, r1, e2, e3, tk, specD]
  · have ii := linner_ev (k := k + 2) (a := v) (b := v) tv.sm rfl (by omega) h1
    obtain ⟨q2, h2, e2, a0, a1, s2⟩ := next_st (k := k + 1) 3 (by omega) s1
    obtain ⟨q3, h3, e3, b0, b1, s3⟩ := next_st (k := k + 1) 3 (by omega) s2
    have tk := s.back0 s3
    have d0 := dot_nn v
    have d1 := (dot_le tv.sm tv.sm).1
    refine ⟨.norms (if dot v v - q2 > 0 then dot v v - q2 else 0) (dot v v + q3), h3, ?_, ⟨by split <;> omega, by omega, by simp only; split <;> omega, by simp only; omega⟩, s3⟩
    simp only [Nat.add_assoc, Nat.reduceAdd] at e1 e2 e3 ii
    simp [b_law_true_fact, e1, at_one, itemsD, compL_cons, CB, Tg.slots, wipeS, ii, blt_min1, blt_max1, blt2, e2, e3, tk, specD]
  · obtain ⟨c, h2, e2, hc, s2⟩ := lift_lp (k := k + 1) (v := v) (some (iI 4)) (some (lV v)) none none none none none none none none none s1
    have dd := ldiff_ev (k := k + 2) (a := c) (b := v) (by omega) (by omega) h2
    obtain ⟨q3, h3, e3, b0, b1, s3⟩ := next_st (k := k + 1) 2 (by omega) s2
    have tk := s.back0 s3
    refine ⟨.differ c (diff c v + q3), h3, ?_, ⟨by omega, by simp only; omega⟩, s3⟩
    simp only [tfS, Nat.add_assoc, Nat.reduceAdd] at e1 e2 e3 dd
    simp [b_law_true_fact, e1, at_one, itemsD, compL_cons, CB, Tg.slots, wipeS, e2, dd, blt_max1, e3, tk, specD]
end K24
/-! K24P23: drawn facts on contents. -/
set_option Elab.async false
set_option linter.all false
set_option maxRecDepth 100000
set_option maxHeartbeats 2000000
namespace K24
theorem at_l0 (x : D) (r : List D) : K24.atD (.lst (x :: r)) 0 = some x := by
  simp [K24.atD, ixI]
theorem at_l1 (x y : D) (r : List D) : K24.atD (.lst (x :: y :: r)) 1 = some y := by
  have : (1 : Int) < (r.length : Int) + 1 + 1 := by omega
  simp [K24.atD, ixI, this]
theorem atS2 {r : Int} (h0 : 0 ≤ r) (h1 : r < 2) (a b : List Nat) : K24.atD (.lst [.str a, .str b]) r = some (.str (if r = 0 then a else b)) := by
  rcases (show r = 0 ∨ r = 1 by omega) with rfl | rfl <;> rfl
theorem trange_ev {k n : Nat} {ns : List Int} {rest h : Hs} {r : Rec} (s : StH ns rest h) : ∃ (f : FactL) (h' : Hs), callF prog (k + 3) 44 [.ref 0, .d (.lst (pairsD r.n r.t))] h = some (specD f, h') ∧ Good n r f ∧ StH ns rest h' := by
  obtain ⟨nm, v, rn, rt, rw⟩ := r
  obtain ⟨q1, h1, e1, a0, a1, s1⟩ := next_st (k := k) 2 (by omega) s
  obtain ⟨q2, h2, e2, b0, b1, s2⟩ := next_st (k := k) 2 (by omega) s1
  obtain ⟨q3, h3, e3, c0, c1, s3⟩ := next_st (k := k) 3 (by omega) s2
  have tk := s.back0 s3
  have pk := fun a b => atS2 a0 a1 a b
  rw [un (d := 44) rfl]
  cases rn with
  | none =>
    refine ⟨.range (0 - q2) (0 + q3) (if q1 = 0 then sSome else sAll), h3, ?_, ⟨by unfold LackOk; split <;> simp, by simp only [RangeIn]; split <;> decide⟩, s3⟩
    cases rt <;> simp [b_law_true_range, pairsD, itemsD, compL_cons, CB, Tg.slots, wipeS, e1, e2, e3, pk, blt_int_b, at_l0, at_l1, line_is, tk, specD]
  | some i =>
    refine ⟨.range (i - q2) (i + q3) (if q1 = 0 then sSome else sNobody), h3, ?_, ⟨by unfold LackOk; split <;> simp, by simp only [RangeIn]; exact ⟨by split <;> decide, by omega, by omega⟩⟩, s3⟩
    cases rt <;> simp [b_law_true_range, pairsD, itemsD, compL_cons, CB, Tg.slots, wipeS, e1, e2, e3, pk, blt_int_b, at_l0, at_l1, line_is, tk, specD]
/-! ### words -/
abbrev animals : List (List Nat) := [[97, 110, 116], [98, 101, 101], [99, 111, 119]]
def WordsOk (ws : List (List Nat × Int)) : Prop := (ws.map Prod.fst).Sublist animals ∧ ∀ p ∈ ws, 1 ≤ p.2 ∧ p.2 ≤ 20
theorem WordsOk.len {ws : List (List Nat × Int)} (h : WordsOk ws) : ws.length ≤ 3 := by
  have := h.1.length_le
  simpa using this
theorem cbF_mem {w : List Nat} {c : Int} : ∀ {ws : List (List Nat × Int)} {m : Int}, (w, c) ∈ ws → c ≤ cbF w m ws
  | p :: ws, m, hp => by
    simp only [cbF]
    rcases List.mem_cons.mp hp with hp | hp
    · have ih := cbF_ge w ws (if p.1 = w then (if m < p.2 then p.2 else m) else m)
      subst hp
      rw [if_pos rfl] at ih ⊢
      have : c ≤ (if m < c then c else m) := by split <;> omega
      exact Int.le_trans this ih
    · exact cbF_mem hp
theorem nmB_mem {w : List Nat} {c : Int} : ∀ {ws : List (List Nat × Int)}, (w, c) ∈ ws → nmB w ws = true
  | p :: ws, hp => by
    simp only [nmB]
    rcases List.mem_cons.mp hp with hp | hp
    · subst hp
      simp
    · rw [nmB_mem hp]
      simp
def UpW (ws l : List (List Nat × Int)) : Prop := ∀ p ∈ ws, ∃ c, (p.1, c) ∈ l ∧ p.2 ≤ c
theorem countsIn_of {ws l : List (List Nat × Int)} (h : UpW ws l) : CountsIn ws l := fun p hp => by
  obtain ⟨c, hc, hle⟩ := h p hp
  exact ⟨nmB_mem hc, Int.le_trans hle (cbF_mem hc)⟩
theorem up_lp {k : Nat} {ns : List Int} {rest : Hs} {A1 A2 A3 A4 A5 A6 A7 A8 A9 A10 A11 : Option AV} : ∀ (ws : List (List Nat × Int)) (h : Hs), StH ns rest h → ∃ (l : List (List Nat × Int)) (h' : Hs), compL (CB prog (callF prog (k + 2)) (.tup (.cons (.var 10) (.cons (.bin .add (.var 11) (.call 36 (.cons (.var 0) (.cons (.lit (.int 2)) .nil)))) .nil))) (.many [10, 11]) .no [some (.ref 0), A1, A2, A3, A4, A5, A6, A7, A8, A9, A10, A11]) (ws.map wordD) h = some (l.map wordD, h') ∧ UpW ws l ∧ l.length = ws.length ∧ StH ns rest h'
  | [], h, s => ⟨[], h, rfl, fun p hp => (nomatch hp), rfl, s⟩
  | p :: ws, h, s => by
    obtain ⟨q, h1, e1, q0, q1, s1⟩ := next_st (k := k) 2 (by omega) s
    obtain ⟨l, h2, e2, u, hl, s2⟩ := up_lp (k := k) (A1 := A1) (A2 := A2) (A3 := A3) (A4 := A4) (A5 := A5) (A6 := A6) (A7 := A7) (A8 := A8) (A9 := A9) (A10 := A10) (A11 := A11) ws h1 s1
    refine ⟨(p.1, p.2 + q) :: l, h2, ?_, ?_, by simp [hl], s2⟩
    · rw [List.map_cons, compL_cons]
      have c : CB prog (callF prog (k + 2)) (.tup (.cons (.var 10) (.cons (.bin .add (.var 11) (.call 36 (.cons (.var 0) (.cons (.lit (.int 2)) .nil)))) .nil))) (.many [10, 11]) .no [some (.ref 0), A1, A2, A3, A4, A5, A6, A7, A8, A9, A10, A11] (wordD p) h = some (some (wordD (p.1, p.2 + q)), h1) := by
        simp [CB, wordD, Tg.slots, wipeS, e1]
      rw [c, bnd_some]
      simp only [e2, bnd_some, List.map_cons]
    · intro x hx
      rcases List.mem_cons.mp hx with rfl | hx
      · exact ⟨_, List.mem_cons_self .., by omega⟩
      · obtain ⟨c, hc, hle⟩ := u x hx
        exact ⟨c, List.mem_cons_of_mem _ hc, hle⟩
def NameOk (l : List Nat) : Prop := l = [97] ∨ l = [98] ∨ l = [98, 97] ∨ l = [99]
theorem atS3 {r : Int} (h0 : 0 ≤ r) (h1 : r < 3) (a b c : List Nat) : K24.atD (.lst [.str a, .str b, .str c]) r = some (.str (if r = 0 then a else if r = 1 then b else c)) := by
  rcases (show r = 0 ∨ r = 1 ∨ r = 2 by omega) with rfl | rfl | rfl <;> rfl
theorem head1 {l : List Nat} (h : NameOk l) : slD (.str l) none (some 1) = some (.str (l.take 1)) := by
  rcases h with rfl | rfl | rfl | rfl <;> rfl
theorem sl_n1 (x : D) {r : Int} (h0 : 0 ≤ r) (h1 : r < 2) : slD (.lst [x]) none (some r) = some (.lst (if r = 0 then [] else [x])) := by
  rcases (show r = 0 ∨ r = 1 by omega) with rfl | rfl <;> rfl
theorem tcontent_ev {k n : Nat} {ns : List Int} {rest h : Hs} {r : Rec} (hn : NameOk r.name) (hw : WordsOk r.words) (s : StH ns rest h) : ∃ (f : FactL) (h' : Hs), callF prog (k + 4) 45 [.ref 0, sS r.name, .d (.lst (pairsD r.n r.t)), .d (.lst (r.words.map wordD))] h = some (specD f, h') ∧ Good n r f ∧ StH ns rest h' := by
  obtain ⟨q, h1, e1, q0, q1, s1⟩ := next_st (k := k + 1) 4 (by omega) s
  have q4 : q = 0 ∨ q = 1 ∨ q = 2 ∨ q = 3 := by omega
  rw [un (d := 45) rfl]
  rcases q4 with rfl | rfl | rfl | rfl
  · obtain ⟨f, h2, e2, g, s2⟩ := trange_ev (k := k) (n := n) (r := r) s1
    have tk := s.back0 s2
    refine ⟨f, h2, ?_, g, s2⟩
    simp [b_law_true_content, e1, e2, tk]
  · obtain ⟨nm, v, rn, rt, rw⟩ := r
    obtain ⟨p1, h2, e2, a0, a1, s2⟩ := next_st (k := k + 1) 2 (by omega) s1
    obtain ⟨p2, h3, e3, b0, b1, s3⟩ := next_st (k := k + 1) 2 (by omega) s2
    have tk := s.back0 s3
    have pk := fun a b => atS2 a0 a1 a b
    have sl := fun x => sl_n1 x b0 b1
    have len1 : ∀ (x : D), (if p2 = 0 then [] else [x]).length ≤ 1 := fun x => by split <;> simp
    have len3 : (if p2 = 0 then [] else [([97, 115, 104] : List Nat)]).length ≤ 16777216 := by split <;> simp
    have len4 : (if p2 = 0 then [] else [([97, 115, 104] : List Nat)]).length + 1 ≤ 16777216 := by split <;> simp
    have len5 : 1 + (if p2 = 0 then [] else [([97, 115, 104] : List Nat)]).length ≤ 16777216 := by split <;> simp
    have mp : ∀ (x : List Nat), (if p2 = 0 then ([] : List D) else [.str x]) = (if p2 = 0 then [] else [x]).map D.str := fun x => by split <;> rfl
    cases rt with
    | none =>
      refine ⟨.values (if p2 = 0 then [] else [[97, 115, 104]]) (if p1 = 0 then sSome else sAll), h3, ?_, ⟨by unfold LackOk; split <;> simp, by simp only [ValuesIn]; split <;> decide⟩, s3⟩
      simp only [Nat.add_assoc, Nat.reduceAdd] at e1 e2 e3
      cases rn <;> simp [b_law_true_content, pairsD, itemsD, compL_cons, CB, Tg.slots, wipeS, e1, e2, e3, pk, sl, blt_int_b, at_l0, at_l1, line_is, tk, specD, mp, len3]
    | some t =>
      refine ⟨.values (t :: if p2 = 0 then [] else [[97, 115, 104]]) (if p1 = 0 then sSome else sNobody), h3, ?_, ⟨by unfold LackOk; split <;> simp, by simp only [ValuesIn]; exact ⟨by split <;> decide, by simp⟩⟩, s3⟩
      simp only [Nat.add_assoc, Nat.reduceAdd] at e1 e2 e3
      cases rn <;> simp [b_law_true_content, pairsD, itemsD, compL_cons, CB, Tg.slots, wipeS, e1, e2, e3, pk, sl, blt_int_b, at_l0, at_l1, line_is, tk, specD, mp, len4, len5]
  · obtain ⟨l, h2, e2, u, hl, s2⟩ := up_lp (k := k + 1) (A1 := some (sS r.name)) (A2 := some (.d (.lst (pairsD r.n r.t)))) (A3 := some (.d (.lst (r.words.map wordD)))) (A4 := some (iI 2)) (A5 := none) (A6 := none) (A7 := none) (A8 := none) (A9 := none) (A10 := none) (A11 := none) r.words h1 s1
    obtain ⟨p2, h3, e3, b0, b1, s3⟩ := next_st (k := k + 1) 2 (by omega) s2
    have tk := s.back0 s3
    have sl := fun x => sl_n1 x b0 b1
    have l3 := hw.len
    refine ⟨.counts (l ++ if p2 = 0 then [] else [([122, 101, 98, 114, 97], 3)]), h3, ?_, countsIn_of (fun p hp => ?_), s3⟩
    · simp only [Nat.add_assoc, Nat.reduceAdd] at e1 e2 e3
      have len2 : l.length + (if p2 = 0 then [] else [(([122, 101, 98, 114, 97], 3) : List Nat × Int)]).length ≤ 16777216 := by split <;> simp <;> omega
      have mp : (if p2 = 0 then ([] : List D) else [D.tup [.str [122, 101, 98, 114, 97], .int 3]]) = (if p2 = 0 then [] else [(([122, 101, 98, 114, 97], 3) : List Nat × Int)]).map wordD := by split <;> rfl
      simp [b_law_true_content, itemsD, e1, e2, e3, sl, line_is, len2, mp, tk, specD]
    · obtain ⟨c, hc, hle⟩ := u p hp
      exact ⟨c, List.mem_append_left _ hc, hle⟩
  · obtain ⟨p1, h2, e2, a0, a1, s2⟩ := next_st (k := k + 1) 3 (by omega) s1
    obtain ⟨p2, h3, e3, b0, b1, s3⟩ := next_st (k := k + 1) 3 (by omega) s2
    have tk := s.back0 s3
    have pk := fun a b c => atS3 a0 a1 a b c
    have pk2 := fun a b c => atS3 b0 b1 a b c
    have hd := head1 hn
    have ln : r.name.length ≤ 2 := by rcases hn with e | e | e | e <;> rw [e] <;> decide
    refine ⟨.names (if p1 = 0 then r.name else if p1 = 1 then [] else r.name.take 1) (if p2 = 0 then r.name else if p2 = 1 then r.name ++ [122] else [122, 122, 122]), h3, ?_, ⟨?_, ?_⟩, s3⟩
    · simp only [Nat.add_assoc, Nat.reduceAdd] at e1 e2 e3
      simp [b_law_true_content, e1, e2, e3, hd, pk, pk2, line_is, show r.name.length + 1 ≤ 16777216 by omega, tk, specD]
    · rcases hn with e | e | e | e <;> rw [e] <;> split <;> (try split) <;> rfl
    · rcases hn with e | e | e | e <;> rw [e] <;> split <;> (try split) <;> rfl
end K24
/-! K24P24: drawn facts, and the facts made of them. -/
set_option Elab.async false
set_option linter.all false
set_option maxRecDepth 100000
set_option maxHeartbeats 2000000
namespace K24
def thingD (r : Rec) : D := .tup [.str r.name, .lst (r.vec.map .int), .lst (pairsD r.n r.t), .lst (r.words.map wordD)]
structure ThOk (n : Nat) (r : Rec) : Prop where
  len : r.vec.length = n
  n4 : n ≤ 4
  ti : Ti r.vec
  name : NameOk r.name
  words : WordsOk r.words
theorem thing_0 (r : Rec) : K24.atD (thingD r) 0 = some (.str r.name) := rfl
theorem thing_1 (r : Rec) : K24.atD (thingD r) 1 = some (.lst (r.vec.map .int)) := rfl
theorem thing_2 (r : Rec) : K24.atD (thingD r) 2 = some (.lst (pairsD r.n r.t)) := rfl
theorem thing_3 (r : Rec) : K24.atD (thingD r) 3 = some (.lst (r.words.map wordD)) := rfl
theorem allGood_snoc {n : Nat} {r : Rec} {f : FactL} {fs : List FactL} (h : AllGood n r fs) (g : Good n r f) : AllGood n r (fs ++ [f]) := fun x hx => by
  rcases List.mem_append.mp hx with hx | hx
  · exact h x hx
  · rw [List.mem_singleton.mp hx]
    exact g
theorem tfacts_ev {k n m : Nat} {ns : List Int} {rest h : Hs} {r : Rec} (ok : ThOk n r) (hm : m ≤ 100) (s : StH ns rest h) : ∃ (fs : List FactL) (h' : Hs), callF prog (k + 5) 46 [.ref 0, .d (thingD r), iI m] h = some (.lst (fs.map specD), h') ∧ AllGood n r fs ∧ fs.length = m ∧ StH ns rest h' := by
  obtain ⟨S', h', e, fs, o4, rfl, s1, g, hl⟩ := forL_inv (f := LB prog (callF prog (k + 4)) (.one 4) (.cons (.ite (.cmp .eq (.call 36 (.cons (.var 0) (.cons (.lit (.int 2)) .nil))) (.lit (.int 0))) (.cons (.app 3 (.call 43 (.cons (.var 0) (.cons (.lst (.cons (.idx (.var 1) (.lit (.int 1))) .nil)) .nil)))) .nil) (.cons (.app 3 (.call 45 (.cons (.var 0) (.cons (.idx (.var 1) (.lit (.int 0))) (.cons (.idx (.var 1) (.lit (.int 2))) (.cons (.idx (.var 1) (.lit (.int 3))) .nil)))))) .nil)) .nil))
    (fun i S h' => ∃ (fs : List FactL) (o4 : Option AV), S = [some (.ref 0), some (.d (thingD r)), some (iI m), some (.ref (rest.length + 1)), o4] ∧ StH ns (rest ++ [.lst (fs.map specD)]) h' ∧ AllGood n r fs ∧ fs.length = i) (rangeD m) 0 [some (.ref 0), some (.d (thingD r)), some (iI m), some (.ref (rest.length + 1)), none] (h ++ [.lst []])
    ⟨[], none, rfl, s.push _, fun x hx => (nomatch hx), rfl⟩ (fun j x S h1 hx ⟨fs, o4, es, s1, g, hl⟩ => by
      obtain ⟨hj, rfl⟩ := rangeD_get hx
      subst es
      rw [Nat.zero_add] at hl
      obtain ⟨q, h2, e2, q0, q1, s2⟩ := next_st (k := k + 2) 2 (by omega) s1
      by_cases hq : q = 0
      · obtain ⟨f, h3, e3, gf, s3⟩ := tfact_ev (k := k) ok.len ok.n4 ok.ti s2
        obtain ⟨h4, e4, s4⟩ := s3.app (by simp; omega) (specD f) [some (.ref 0), some (.d (thingD r)), some (iI m), some (.ref (rest.length + 1)), some (iI j)]
        refine ⟨_, h4, ?_, fs ++ [f], some (iI j), rfl, by simpa using s4, allGood_snoc g gf, by simp [hl]⟩
        simp only [Nat.add_assoc, Nat.reduceAdd] at e2 e3
        simp [-isL_eq, LB, e2, hq, s2.isl, thing_1, e3, e4]
      · obtain ⟨f, h3, e3, gf, s3⟩ := tcontent_ev (k := k) (n := n) ok.name ok.words s2
        obtain ⟨h4, e4, s4⟩ := s3.app (by simp; omega) (specD f) [some (.ref 0), some (.d (thingD r)), some (iI m), some (.ref (rest.length + 1)), some (iI j)]
        refine ⟨_, h4, ?_, fs ++ [f], some (iI j), rfl, by simpa using s4, allGood_snoc g gf, by simp [hl]⟩
        simp only [Nat.add_assoc, Nat.reduceAdd] at e2 e3
        simp [-isL_eq, LB, e2, hq, s2.isl, thing_0, thing_2, thing_3, e3, e4])
  obtain ⟨h2, f2, s2⟩ := s1.frz1
  rw [Nat.zero_add, rangeD_len] at hl
  refine ⟨fs, h2.take h.length, ?_, g, hl, s.back s2⟩
  have l1 := s.len
  rw [un (d := 46) rfl]
  simp [-frz, b_law_true_facts, l1, rng_ok (show m ≤ 1000 by omega), e, f2]
/-! ### instances -/
/-- an instance made by a call -/
theorem made_of {k c d : Nat} {ci : ClsI} {vs : List AV} {fs : List (Nat × D)} {h : Hs} (h1 : clsT[c]? = some ci) (h2 : ci.init = some d) (h3 : callF prog k d (.ref h.length :: vs) (h ++ [.ins c []]) = some (.non, h ++ [.ins c fs])) : mkI prog (callF prog k) c vs h = some (h ++ [.ins c fs]) := mkI_eq h1 h2 h3
theorem u118 (k : Nat) (vs : List AV) (h : Hs) : callF prog (k + 1) 118 vs h = runB prog (callF prog k) ⟨4, 4, b_Part_init⟩ vs h := un rfl vs h
theorem part_made {k : Nat} (p : PT3) (h : Hs) : mkI prog (callF prog (k + 1)) 18 [iI p.1, lV p.2.1, iI p.2.2] h = some (h ++ [.ins 18 [(30, .int p.1), (31, iT p.2.1), (32, .int p.2.2)]]) := by
  refine made_of rfl rfl ?_
  rw [u118]
  simp [b_Part_init, setaK_push, clsT, blt_list_l, blt_tuple_l, take_all1, iT]
theorem parts_made {k : Nat} (xs : List D) (h : Hs) : mkI prog (callF prog (k + 1)) 19 [.d (.lst xs)] h = some (h ++ [.ins 19 [(33, .tup xs)]]) := by
  refine made_of rfl rfl ?_
  rw [un (d := 121) rfl]
  simp [b_Parts_init, setaK_push, clsT, blt_list_l, blt_tuple_l, take_all1]
theorem cell_made {k : Nat} (a b : List Int) (h : Hs) : mkI prog (callF prog (k + 1)) 20 [lV a, lV b] h = some (h ++ [.ins 20 [(24, iT a), (34, iT b)]]) := by
  refine made_of rfl rfl ?_
  rw [un (d := 128) rfl]
  simp [b_Cell_init, setaK_push, clsT, blt_list_l, blt_tuple_l, take_all1, iT]
theorem box_made {k : Nat} (a b : List Int) (h : Hs) : mkI prog (callF prog (k + 1)) 21 [lV a, lV b] h = some (h ++ [.ins 21 [(27, iT a), (28, iT b)]]) := by
  refine made_of rfl rfl ?_
  rw [un (d := 132) rfl]
  simp [b_Box_init, setaK_push, clsT, blt_list_l, blt_tuple_l, take_all1, iT]
theorem norms_made {k : Nat} (a b : Int) (h : Hs) : mkI prog (callF prog (k + 1)) 22 [iI a, iI b] h = some (h ++ [.ins 22 [(27, .int a), (28, .int b)]]) := by
  refine made_of rfl rfl ?_
  rw [un (d := 137) rfl]
  simp [b_Norms_init, setaK_push, clsT, take_all1]
theorem differ_made {k : Nat} (a : List Int) (b : Int) (h : Hs) : mkI prog (callF prog (k + 1)) 23 [lV a, iI b] h = some (h ++ [.ins 23 [(31, iT a), (26, .int b)]]) := by
  refine made_of rfl rfl ?_
  rw [un (d := 141) rfl]
  simp [b_Differ_init, setaK_push, clsT, blt_list_l, blt_tuple_l, take_all1, iT]
theorem len_push (h : Hs) (o : AO) : (h ++ [o]).length = h.length + 1 := by simp
theorem ff_init {k c : Nat} {ci : ClsI} {fs : List (Nat × D)} (hc : clsT[c]? = some ci) (h4 : 4 ∈ ci.flds) (h29 : 29 ∈ ci.flds) (a b : List Nat) (h : Hs) : callF prog (k + 1) 100 [.ref h.length, sS a, sS b] (h ++ [.ins c []]) = some (.non, h ++ [.ins c [(4, .str a), (29, .str b)]]) := by
  rw [un (d := 100) rfl]
  simp [b_FieldFact_init, setaK_push, hc, h4, h29, take_all1]
theorem range_made {k : Nat} (lo hi : Int) (a l : List Nat) (h : Hs) : mkI prog (callF prog (k + 2)) 14 [sS a, iI lo, iI hi, sS l] h = some (h ++ [.ins 14 [(4, .str a), (29, .str l), (27, .int lo), (28, .int hi)]]) := by
  refine made_of rfl rfl ?_
  have f := ff_init (k := k) (c := 14) (fs := []) rfl (by decide) (by decide) a l h
  rw [un (d := 103) rfl]
  simp [b_Range_init, f, setaK_push, clsT, take_all1]
theorem values_made {k : Nat} (cs : List D) (a l : List Nat) (h : Hs) : mkI prog (callF prog (k + 2)) 15 [sS a, .d (.lst cs), sS l] h = some (h ++ [.ins 15 [(4, .str a), (29, .str l), (7, .tup cs)]]) := by
  refine made_of rfl rfl ?_
  have f := ff_init (k := k) (c := 15) (fs := []) rfl (by decide) (by decide) a l h
  rw [un (d := 107) rfl]
  simp [b_Values_init, f, setaK_push, clsT, blt_list_l, blt_tuple_l, take_all1]
theorem copy_lp {T : Prog} {call : CallT} {i j : Nat} {S : Sl} {h : Hs} (hi : i < S.length) (hj : j < S.length) (hij : i ≠ j) : ∀ ws : List (List Nat × Int), compL (CB T call (.tup (.cons (.var i) (.cons (.var j) .nil))) (.many [i, j]) .no S) (ws.map wordD) h = some (ws.map wordD, h)
  | [] => rfl
  | p :: ws => by
    have ih := copy_lp (T := T) (call := call) (S := S) (h := h) hi hj hij ws
    rw [List.map_cons, compL_cons]
    have c : CB T call (.tup (.cons (.var i) (.cons (.var j) .nil))) (.many [i, j]) .no S (wordD p) h = some (some (wordD p), h) := by
      simp [CB, wordD, Tg.slots, wipeS, List.getElem?_set, hi, hj, hij, Ne.symm hij]
    rw [c, bnd_some]
    simp only [ih, bnd_some]
theorem counts_made {k : Nat} (ws : List (List Nat × Int)) (h : Hs) : mkI prog (callF prog (k + 1)) 16 [.d (.lst (ws.map wordD))] h = some (h ++ [.ins 16 [(3, .tup (ws.map wordD))]]) := by
  refine made_of rfl rfl ?_
  have c := copy_lp (T := prog) (call := callF prog k) (i := 2) (j := 3) (S := [some (.ref h.length), some (.d (.lst (ws.map wordD))), none, none]) (h := h ++ [.ins 16 []]) (by simp) (by simp) (by omega) ws
  rw [un (d := 111) rfl]
  simp [b_Counts_init, itemsD, c, setaK_push, clsT, blt_list_l, blt_tuple_l, take_all1]
theorem names_made {k : Nat} (a b : List Nat) (h : Hs) : mkI prog (callF prog (k + 1)) 17 [sS a, sS b] h = some (h ++ [.ins 17 [(27, .str a), (28, .str b)]]) := by
  refine made_of rfl rfl ?_
  rw [un (d := 115) rfl]
  simp [b_Names_init, setaK_push, clsT, take_all1]
theorem madeP_lp {k : Nat} {S : Sl} {h : Hs} {A : Option AV} : ∀ ps : List PT3, compL (CB prog (callF prog (k + 1)) (.make 18 (.cons (.var 1) (.cons (.blt .list (.cons (.var 2) .nil)) (.cons (.var 3) .nil)))) (.many [1, 2, 3]) .no [A, none, none, none]) (ps.map specP) h = some (ps.map partD, h)
  | [] => rfl
  | p :: ps => by
    have ih := madeP_lp (k := k) (S := S) (h := h) (A := A) ps
    rw [List.map_cons, compL_cons]
    have c : CB prog (callF prog (k + 1)) (.make 18 (.cons (.var 1) (.cons (.blt .list (.cons (.var 2) .nil)) (.cons (.var 3) .nil)))) (.many [1, 2, 3]) .no [A, none, none, none] (specP p) h = some (some (partD p), h) := by
      simp [CB, specP, Tg.slots, wipeS, blt_list_l, blt_tuple_l, part_made, takK_push, partD]
    rw [c, bnd_some]
    simp only [ih, bnd_some, List.map_cons]
theorem made_ev {k : Nat} (f : FactL) (h : Hs) : callF prog (k + 3) 41 [.d (specD f)] h = some (fD f, h) := by
  rw [un (d := 41) rfl]
  cases f with
  | parts ps =>
    have e := madeP_lp (k := k + 1) (S := []) (h := h) (A := some (.d (specD (.parts ps)))) ps
    simp only [specD] at e
    simp [b_law_made, specD, atD, ixI, itemsD, e, parts_made, takK_push, fD]
  | cell a b => simp [b_law_made, specD, atD, ixI, blt_list_l, blt_tuple_l, cell_made, takK_push, fD]
  | box a b => simp [b_law_made, specD, atD, ixI, blt_list_l, blt_tuple_l, box_made, takK_push, fD]
  | norms a b => simp [b_law_made, specD, atD, ixI, norms_made, takK_push, fD]
  | differ c m => simp [b_law_made, specD, atD, ixI, blt_list_l, blt_tuple_l, differ_made, takK_push, fD]
  | range lo hi lack => simp [b_law_made, specD, atD, ixI, range_made, takK_push, fD]
  | values cs lack => simp [b_law_made, specD, atD, ixI, blt_list_l, blt_tuple_l, values_made, takK_push, fD]
  | counts ws => simp [b_law_made, specD, atD, ixI, blt_list_l, blt_tuple_l, counts_made, takK_push, fD]
  | names lo hi => simp [b_law_made, specD, atD, ixI, names_made, takK_push, fD]
end K24
/-! K24P25: drawn schemas, records, texts. -/
set_option Elab.async false
set_option linter.all false
set_option maxRecDepth 100000
set_option maxHeartbeats 2000000
namespace K24
abbrev fieldsL : List D := [.tup [.str [110], .str [105, 110, 116, 101, 103, 101, 114]], .tup [.str [116], .str [116, 101, 120, 116]]]
def drawnD (n : Nat) (m : Ms) : D := .tup [.int n, .str (wdL m), .str (msL m), .lst fieldsL]
theorem schemaOf_ev {k : Nat} {ns : List Int} {rest h : Hs} (s : StH ns rest h) : ∃ (n : Nat) (m : Ms) (h' : Hs), callF prog (k + 3) 47 [.ref 0] h = some (drawnD n m, h') ∧ 1 ≤ n ∧ n ≤ 4 ∧ StH ns rest h' := by
  obtain ⟨q1, h1, e1, a0, a1, s1⟩ := next_st (k := k) 3 (by omega) s
  obtain ⟨q2, h2, e2, b0, b1, s2⟩ := next_st (k := k) 4 (by omega) s1
  have tk := s.back0 s2
  obtain ⟨n, hn⟩ : ∃ n : Nat, 1 + q2 = (n : Int) := ⟨(1 + q2).toNat, by omega⟩
  have pk := fun a b c => atS3 a0 a1 a b c
  rw [un (d := 47) rfl]
  rcases (show q1 = 0 ∨ q1 = 1 ∨ q1 = 2 by omega) with rfl | rfl | rfl
  · refine ⟨n, .square, h2, ?_, by omega, by omega, s2⟩
    simp [b_law_schema_of, e1, e2, pk, blt_int_b, at_l0, at_l1, hn, tk, drawnD, wdL, msL]
  · refine ⟨n, .dotm, h2, ?_, by omega, by omega, s2⟩
    simp [b_law_schema_of, e1, e2, pk, blt_int_b, at_l0, at_l1, hn, tk, drawnD, wdL, msL]
  · refine ⟨n, .bits, h2, ?_, by omega, by omega, s2⟩
    simp [b_law_schema_of, e1, e2, pk, blt_int_b, at_l0, at_l1, hn, tk, drawnD, wdL, msL]
theorem drawn_0 (n : Nat) (m : Ms) : K24.atD (drawnD n m) 0 = some (.int n) := rfl
theorem drawn_1 (n : Nat) (m : Ms) : K24.atD (drawnD n m) 1 = some (.str (wdL m)) := rfl
theorem drawn_2 (n : Nat) (m : Ms) : K24.atD (drawnD n m) 2 = some (.str (msL m)) := rfl
theorem drawn_3 (n : Nat) (m : Ms) : K24.atD (drawnD n m) 3 = some (.lst fieldsL) := rfl
/-! ### a thing -/
/-- the bounds of the signs -/
def SgOk (m : Ms) (x : Int) : Prop := match m with
  | .bits => x = 0 ∨ x = 1
  | _ => -4 ≤ x ∧ x ≤ 4
theorem sg_lp {k n : Nat} {m : Ms} {ns : List Int} {rest h : Hs} (hn : n ≤ 4) (s : StH ns rest h) : ∃ (v : List Int) (h' : Hs) (o3 : Option AV), forL (LB prog (callF prog (k + 2)) (.one 3) (.cons (.app 2 (.bin .sub (.call 36 (.cons (.var 0) (.cons (.idx (.lst (.cons (.lit (.int 9)) (.cons (.lit (.int 2)) .nil))) (.blt .int (.cons (.cmp .eq (.idx (.var 1) (.lit (.int 1))) (.lit (.str [98, 105, 116]))) .nil))) .nil))) (.idx (.lst (.cons (.lit (.int 4)) (.cons (.lit (.int 0)) .nil))) (.blt .int (.cons (.cmp .eq (.idx (.var 1) (.lit (.int 1))) (.lit (.str [98, 105, 116]))) .nil))))) .nil)) (rangeD n) [some (.ref 0), some (.d (drawnD n m)), some (.ref (rest.length + 1)), none, none, none, none] (h ++ [.lst []]) = some (.nx [some (.ref 0), some (.d (drawnD n m)), some (.ref (rest.length + 1)), o3, none, none, none] h') ∧ v.length = n ∧ (∀ x ∈ v, SgOk m x) ∧ StH ns (rest ++ [.lst (v.map .int)]) h' := by
  obtain ⟨S', h', e, v, o3, rfl, s1, g, hl⟩ := forL_inv (f := LB prog (callF prog (k + 2)) (.one 3) (.cons (.app 2 (.bin .sub (.call 36 (.cons (.var 0) (.cons (.idx (.lst (.cons (.lit (.int 9)) (.cons (.lit (.int 2)) .nil))) (.blt .int (.cons (.cmp .eq (.idx (.var 1) (.lit (.int 1))) (.lit (.str [98, 105, 116]))) .nil))) .nil))) (.idx (.lst (.cons (.lit (.int 4)) (.cons (.lit (.int 0)) .nil))) (.blt .int (.cons (.cmp .eq (.idx (.var 1) (.lit (.int 1))) (.lit (.str [98, 105, 116]))) .nil))))) .nil))
    (fun i S h' => ∃ (v : List Int) (o3 : Option AV), S = [some (.ref 0), some (.d (drawnD n m)), some (.ref (rest.length + 1)), o3, none, none, none] ∧ StH ns (rest ++ [.lst (v.map .int)]) h' ∧ (∀ x ∈ v, SgOk m x) ∧ v.length = i) (rangeD n) 0 [some (.ref 0), some (.d (drawnD n m)), some (.ref (rest.length + 1)), none, none, none, none] (h ++ [.lst []])
    ⟨[], none, rfl, s.push _, fun x hx => (nomatch hx), rfl⟩ (fun j x S h1 hx ⟨v, o3, es, s1, g, hl⟩ => by
      obtain ⟨hj, rfl⟩ := rangeD_get hx
      subst es
      rw [Nat.zero_add] at hl
      have fin : ∀ (x : Int) (h2 : Hs), SgOk m x → StH ns (rest ++ [.lst (v.map .int)]) h2 → (∀ (h3 : Hs), appK (rest.length + 1) (.int x) [some (.ref 0), some (.d (drawnD n m)), some (.ref (rest.length + 1)), some (iI j), none, none, none] h2 = some (.nx [some (.ref 0), some (.d (drawnD n m)), some (.ref (rest.length + 1)), some (iI j), none, none, none] h3) → LB prog (callF prog (k + 2)) (.one 3) (.cons (.app 2 (.bin .sub (.call 36 (.cons (.var 0) (.cons (.idx (.lst (.cons (.lit (.int 9)) (.cons (.lit (.int 2)) .nil))) (.blt .int (.cons (.cmp .eq (.idx (.var 1) (.lit (.int 1))) (.lit (.str [98, 105, 116]))) .nil))) .nil))) (.idx (.lst (.cons (.lit (.int 4)) (.cons (.lit (.int 0)) .nil))) (.blt .int (.cons (.cmp .eq (.idx (.var 1) (.lit (.int 1))) (.lit (.str [98, 105, 116]))) .nil))))) .nil) (.int j) [some (.ref 0), some (.d (drawnD n m)), some (.ref (rest.length + 1)), o3, none, none, none] h1 = some (.nx [some (.ref 0), some (.d (drawnD n m)), some (.ref (rest.length + 1)), some (iI j), none, none, none] h3)) → ∃ S' h', LB prog (callF prog (k + 2)) (.one 3) (.cons (.app 2 (.bin .sub (.call 36 (.cons (.var 0) (.cons (.idx (.lst (.cons (.lit (.int 9)) (.cons (.lit (.int 2)) .nil))) (.blt .int (.cons (.cmp .eq (.idx (.var 1) (.lit (.int 1))) (.lit (.str [98, 105, 116]))) .nil))) .nil))) (.idx (.lst (.cons (.lit (.int 4)) (.cons (.lit (.int 0)) .nil))) (.blt .int (.cons (.cmp .eq (.idx (.var 1) (.lit (.int 1))) (.lit (.str [98, 105, 116]))) .nil))))) .nil) (.int j) [some (.ref 0), some (.d (drawnD n m)), some (.ref (rest.length + 1)), o3, none, none, none] h1 = some (.nx S' h') ∧ ∃ (v : List Int) (o3 : Option AV), S' = [some (.ref 0), some (.d (drawnD n m)), some (.ref (rest.length + 1)), o3, none, none, none] ∧ StH ns (rest ++ [.lst (v.map .int)]) h' ∧ (∀ x ∈ v, SgOk m x) ∧ v.length = 0 + j + 1 := by
        intro x h2 gx s2 hh
        obtain ⟨h3, e3, s3⟩ := s2.app (by simp; omega) (.int x) [some (.ref 0), some (.d (drawnD n m)), some (.ref (rest.length + 1)), some (iI j), none, none, none]
        refine ⟨_, h3, hh h3 e3, v ++ [x], some (iI j), rfl, by simpa using s3, fun y hy => ?_, by simp [hl]⟩
        rcases List.mem_append.mp hy with hy | hy
        · exact g y hy
        · rw [List.mem_singleton.mp hy]
          exact gx
      by_cases hm : m = .bits
      · subst hm
        obtain ⟨q, h2, e2, q0, q1, s2⟩ := next_st (k := k) 2 (by omega) s1
        refine fin q h2 (by simp only [SgOk]; omega) s2 (fun h3 e3 => ?_)
        simp [-isL_eq, LB, s1.isl, drawn_1, wdL, blt_int_b, at_l0, at_l1, e2, e3]
      · obtain ⟨q, h2, e2, q0, q1, s2⟩ := next_st (k := k) 9 (by omega) s1
        have hw : wdL m = [115, 109, 97, 108, 108] := by cases m <;> first | rfl | exact (hm rfl).elim
        refine fin (q - 4) h2 (by cases m <;> simp only [SgOk] <;> first | exact (hm rfl).elim | omega) s2 (fun h3 e3 => ?_)
        simp [-isL_eq, LB, s1.isl, drawn_1, hw, blt_int_b, at_l0, at_l1, e2, e3])
  rw [Nat.zero_add, rangeD_len] at hl
  exact ⟨v, h', o3, e, hl, g, s1⟩
end K24
/-! K24P26: a drawn thing. -/
set_option Elab.async false
set_option linter.all false
set_option maxRecDepth 100000
set_option maxHeartbeats 2000000
namespace K24
theorem th_n {k : Nat} {ns : List Int} {rest h : Hs} {a1 a2 a3 a5 a6 : Option AV} (s : StH ns (rest ++ [.lst []]) h) : ∃ (rn : Option Int) (h' : Hs), StH ns (rest ++ [.lst (pairsD rn none)]) h' ∧ ∀ X, exs prog (callF prog (k + 2)) (.cons (.ite (.cmp .gt (.call 36 (.cons (.var 0) (.cons (.lit (.int 3)) .nil))) (.lit (.int 0))) (.cons (.app 4 (.tup (.cons (.lit (.str [110])) (.cons (.bin .sub (.call 36 (.cons (.var 0) (.cons (.lit (.int 9)) .nil))) (.lit (.int 4))) .nil)))) .nil) .nil) X) [some (.ref 0), a1, a2, a3, some (.ref (rest.length + 1)), a5, a6] h = exs prog (callF prog (k + 2)) X [some (.ref 0), a1, a2, a3, some (.ref (rest.length + 1)), a5, a6] h' := by
  obtain ⟨q, h1, e1, q0, q1, s1⟩ := next_st (k := k) 3 (by omega) s
  by_cases hq : 0 < q
  · obtain ⟨p, h2, e2, p0, p1, s2⟩ := next_st (k := k) 9 (by omega) s1
    obtain ⟨h3, e3, s3⟩ := s2.app (by simp) (.tup [.str [110], .int (p - 4)]) [some (.ref 0), a1, a2, a3, some (.ref (rest.length + 1)), a5, a6]
    refine ⟨some (p - 4), h3, s3, fun X => ?_⟩
    simp [-isL_eq, e1, hq, s1.isl, e2, e3]
  · refine ⟨none, h1, s1, fun X => ?_⟩
    simp [-isL_eq, e1, hq]
theorem th_t {k : Nat} {ns : List Int} {rest h : Hs} {rn : Option Int} {a1 a2 a3 a5 a6 : Option AV} (s : StH ns (rest ++ [.lst (pairsD rn none)]) h) : ∃ (rt : Option (List Nat)) (h' : Hs), StH ns (rest ++ [.lst (pairsD rn rt)]) h' ∧ ∀ X, exs prog (callF prog (k + 2)) (.cons (.ite (.cmp .gt (.call 36 (.cons (.var 0) (.cons (.lit (.int 3)) .nil))) (.lit (.int 0))) (.cons (.app 4 (.tup (.cons (.lit (.str [116])) (.cons (.idx (.lst (.cons (.lit (.str [114, 101, 100])) (.cons (.lit (.str [97, 115, 104])) (.cons (.lit (.str [])) .nil)))) (.call 36 (.cons (.var 0) (.cons (.lit (.int 3)) .nil)))) .nil)))) .nil) .nil) X) [some (.ref 0), a1, a2, a3, some (.ref (rest.length + 1)), a5, a6] h = exs prog (callF prog (k + 2)) X [some (.ref 0), a1, a2, a3, some (.ref (rest.length + 1)), a5, a6] h' := by
  obtain ⟨q, h1, e1, q0, q1, s1⟩ := next_st (k := k) 3 (by omega) s
  by_cases hq : 0 < q
  · obtain ⟨p, h2, e2, p0, p1, s2⟩ := next_st (k := k) 3 (by omega) s1
    have pk := fun a b c => atS3 p0 p1 a b c
    have hl : (pairsD rn none).length ≤ 1 := by cases rn <;> simp [pairsD]
    obtain ⟨h3, e3, s3⟩ := s2.app (by omega) (.tup [.str [116], .str (if p = 0 then [114, 101, 100] else if p = 1 then [97, 115, 104] else [])]) [some (.ref 0), a1, a2, a3, some (.ref (rest.length + 1)), a5, a6]
    refine ⟨some (if p = 0 then [114, 101, 100] else if p = 1 then [97, 115, 104] else []), h3, ?_, fun X => ?_⟩
    · cases rn <;> exact s3
    · simp [-isL_eq, e1, hq, s1.isl, e2, pk, e3]
  · refine ⟨none, h1, s1, fun X => ?_⟩
    simp [-isL_eq, e1, hq]
theorem th_w {k : Nat} {ns : List Int} {rest h : Hs} {ws : List (List Nat × Int)} (w : List Nat) {a1 a2 a3 a4 a6 : Option AV} (hw : ws.length ≤ 100) (s : StH ns (rest ++ [.lst (ws.map wordD)]) h) : ∃ (ws' : List (List Nat × Int)) (h' : Hs), (ws' = ws ∨ ∃ c, 1 ≤ c ∧ c ≤ 20 ∧ ws' = ws ++ [(w, c)]) ∧ StH ns (rest ++ [.lst (ws'.map wordD)]) h' ∧ LB prog (callF prog (k + 2)) (.one 6) (.cons (.ite (.cmp .eq (.call 36 (.cons (.var 0) (.cons (.lit (.int 2)) .nil))) (.lit (.int 0))) (.cons (.app 5 (.tup (.cons (.var 6) (.cons (.bin .add (.lit (.int 1)) (.call 36 (.cons (.var 0) (.cons (.lit (.int 20)) .nil)))) .nil)))) .nil) .nil) .nil) (.str w) [some (.ref 0), a1, a2, a3, a4, some (.ref (rest.length + 1)), a6] h = some (.nx [some (.ref 0), a1, a2, a3, a4, some (.ref (rest.length + 1)), some (sS w)] h') := by
  obtain ⟨q, h1, e1, q0, q1, s1⟩ := next_st (k := k) 2 (by omega) s
  by_cases hq : q = 0
  · obtain ⟨p, h2, e2, p0, p1, s2⟩ := next_st (k := k) 20 (by omega) s1
    obtain ⟨h3, e3, s3⟩ := s2.app (by simp; omega) (.tup [.str w, .int (1 + p)]) [some (.ref 0), a1, a2, a3, a4, some (.ref (rest.length + 1)), some (sS w)]
    refine ⟨ws ++ [(w, 1 + p)], h3, .inr ⟨1 + p, by omega, by omega, rfl⟩, by simpa [wordD] using s3, ?_⟩
    simp [-isL_eq, LB, e1, hq, s1.isl, e2, e3]
  · refine ⟨ws, h1, .inl rfl, s1, ?_⟩
    simp [-isL_eq, LB, e1, hq]
theorem th_ws {k : Nat} {ns : List Int} {rest h : Hs} {a1 a2 a3 a4 a6 : Option AV} (s : StH ns (rest ++ [.lst []]) h) : ∃ (ws : List (List Nat × Int)) (h' : Hs) (b6 : Option AV), WordsOk ws ∧ StH ns (rest ++ [.lst (ws.map wordD)]) h' ∧ ∀ X, exs prog (callF prog (k + 2)) (.cons (.loop (.one 6) (.val (.lst (.cons (.lit (.str [97, 110, 116])) (.cons (.lit (.str [98, 101, 101])) (.cons (.lit (.str [99, 111, 119])) .nil))))) (.cons (.ite (.cmp .eq (.call 36 (.cons (.var 0) (.cons (.lit (.int 2)) .nil))) (.lit (.int 0))) (.cons (.app 5 (.tup (.cons (.var 6) (.cons (.bin .add (.lit (.int 1)) (.call 36 (.cons (.var 0) (.cons (.lit (.int 20)) .nil)))) .nil)))) .nil) .nil) .nil)) X) [some (.ref 0), a1, a2, a3, a4, some (.ref (rest.length + 1)), a6] h = exs prog (callF prog (k + 2)) X [some (.ref 0), a1, a2, a3, a4, some (.ref (rest.length + 1)), b6] h' := by
  obtain ⟨w1, h1, c1, s1, e1⟩ := th_w (k := k) (a1 := a1) (a2 := a2) (a3 := a3) (a4 := a4) (a6 := a6) (ws := []) [97, 110, 116] (by simp) s
  have l1 : w1.length ≤ 1 := by rcases c1 with rfl | ⟨c, _, _, rfl⟩ <;> simp
  obtain ⟨w2, h2, c2, s2, e2⟩ := th_w (k := k) (a1 := a1) (a2 := a2) (a3 := a3) (a4 := a4) (a6 := some (sS [97, 110, 116])) [98, 101, 101] (by omega) s1
  have l2 : w2.length ≤ 2 := by rcases c2 with rfl | ⟨c, _, _, rfl⟩ <;> (try simp) <;> omega
  obtain ⟨w3, h3, c3, s3, e3⟩ := th_w (k := k) (a1 := a1) (a2 := a2) (a3 := a3) (a4 := a4) (a6 := some (sS [98, 101, 101])) [99, 111, 119] (by omega) s2
  refine ⟨w3, h3, some (sS [99, 111, 119]), ?_, s3, fun X => ?_⟩
  · rcases c1 with rfl | ⟨x, x0, x1, rfl⟩ <;> rcases c2 with rfl | ⟨y, y0, y1, rfl⟩ <;> rcases c3 with rfl | ⟨z, z0, z1, rfl⟩ <;>
      refine ⟨?_, ?_⟩ <;> first
        | (simp only [List.nil_append, List.cons_append, List.map_cons, List.map_nil]; decide)
        | (intro p hp; simp at hp; rcases hp with rfl | rfl | rfl <;> simp <;> omega)
        | (intro p hp; simp at hp; rcases hp with rfl | rfl <;> simp <;> omega)
        | (intro p hp; simp at hp; subst hp; simp; omega)
        | (intro p hp; simp at hp)
  · simp [itemsD, e1, e2, e3]
theorem thing_ev {k n : Nat} {m : Ms} {ns : List Int} {rest h : Hs} (n4 : n ≤ 4) (s : StH ns rest h) : ∃ (r : Rec) (h' : Hs), callF prog (k + 3) 48 [.ref 0, .d (drawnD n m)] h = some (thingD r, h') ∧ ThOk n r ∧ (∀ x ∈ r.vec, SgOk m x) ∧ StH ns rest h' := by
  obtain ⟨v, h1, o3, e1, hv, gv, s1⟩ := sg_lp (k := k) (m := m) n4 s
  obtain ⟨rn, h2, s2, e2⟩ := th_n (k := k) (a1 := some (.d (drawnD n m))) (a2 := some (.ref (rest.length + 1))) (a3 := o3) (a5 := none) (a6 := none) (s1.push (.lst []))
  obtain ⟨rt, h3, s3, e3⟩ := th_t (k := k) (a1 := some (.d (drawnD n m))) (a2 := some (.ref (rest.length + 1))) (a3 := o3) (a5 := none) (a6 := none) s2
  obtain ⟨ws, h4, b6, gw, s4, e4⟩ := th_ws (k := k) (a1 := some (.d (drawnD n m))) (a2 := some (.ref (rest.length + 1))) (a3 := o3) (a4 := some (.ref ((rest ++ [AO.lst (v.map .int)]).length + 1))) (a6 := none) (s3.push (.lst []))
  obtain ⟨q, h5, e5, q0, q1, s5⟩ := next_st (k := k) 4 (by omega) s4
  have pick : ∃ nm : List Nat, K24.atD (.lst [.str [97], .str [98], .str [98, 97], .str [99]]) q = some (.str nm) ∧ NameOk nm := by
    rcases (show q = 0 ∨ q = 1 ∨ q = 2 ∨ q = 3 by omega) with rfl | rfl | rfl | rfl
    · exact ⟨_, rfl, .inl rfl⟩
    · exact ⟨_, rfl, .inr (.inl rfl)⟩
    · exact ⟨_, rfl, .inr (.inr (.inl rfl))⟩
    · exact ⟨_, rfl, .inr (.inr (.inr rfl))⟩
  obtain ⟨nm, e6, gn⟩ := pick
  have tv : Ti v := fun x hx => by
    have := gv x hx
    cases m <;> simp only [SgOk] at this <;> omega
  have fr : ∃ h6, frzs h5 [sS nm, .ref (rest.length + 1), .ref (rest.length + 1 + 1), .ref (rest.length + 1 + 1 + 1)] = some ([.str nm, .lst (v.map .int), .lst (pairsD rn rt), .lst (ws.map wordD)], h6) ∧ StH ns (rest ++ [.dead, .dead, .dead]) h6 := by
    obtain ⟨j, u, rfl⟩ := s5
    refine ⟨stO ns j u :: (rest ++ [.dead, .dead, .dead]), ?_, j, u, rfl⟩
    simp [frz, List.getElem?_append, List.set_append]
  obtain ⟨h6, e7, s6⟩ := fr
  refine ⟨⟨nm, v, rn, rt, ws⟩, h6.take h.length, ?_, ⟨hv, n4, tv, gn, gw⟩, gv, s.back s6⟩
  have l0 := s.len
  have l1 := s1.len
  have l3 := s3.len
  have r1 := rng_ok (show n ≤ 1000 by omega)
  rw [un (d := 48) rfl]
  simp only [List.length_append, List.length_cons, List.length_nil, Nat.zero_add] at l1 l3 e2 e3 e4
  have A : ∀ X, exs prog (callF prog (k + 2)) (.cons (.newl 2 .nil) (.cons (.loop (.one 3) (.rng (.idx (.var 1) (.lit (.int 0)))) (.cons (.app 2 (.bin .sub (.call 36 (.cons (.var 0) (.cons (.idx (.lst (.cons (.lit (.int 9)) (.cons (.lit (.int 2)) .nil))) (.blt .int (.cons (.cmp .eq (.idx (.var 1) (.lit (.int 1))) (.lit (.str [98, 105, 116]))) .nil))) .nil))) (.idx (.lst (.cons (.lit (.int 4)) (.cons (.lit (.int 0)) .nil))) (.blt .int (.cons (.cmp .eq (.idx (.var 1) (.lit (.int 1))) (.lit (.str [98, 105, 116]))) .nil))))) .nil)) (.cons (.newl 4 .nil) X))) [some (.ref 0), some (.d (drawnD n m)), none, none, none, none, none] h = exs prog (callF prog (k + 2)) X [some (.ref 0), some (.d (drawnD n m)), some (.ref (rest.length + 1)), o3, some (.ref (rest.length + 1 + 1)), none, none] (h1 ++ [.lst []]) := fun X => by
    simp [l0, drawn_0, r1, e1, l1]
  have B : ∀ X, exs prog (callF prog (k + 2)) (.cons (.newl 5 .nil) X) [some (.ref 0), some (.d (drawnD n m)), some (.ref (rest.length + 1)), o3, some (.ref (rest.length + 1 + 1)), none, none] h3 = exs prog (callF prog (k + 2)) X [some (.ref 0), some (.d (drawnD n m)), some (.ref (rest.length + 1)), o3, some (.ref (rest.length + 1 + 1)), some (.ref (rest.length + 1 + 1 + 1)), none] (h3 ++ [.lst []]) := fun X => by
    simp [l3]
  have C : exs prog (callF prog (k + 2)) (.cons (.ret (.tup (.cons (.idx (.lst (.cons (.lit (.str [97])) (.cons (.lit (.str [98])) (.cons (.lit (.str [98, 97])) (.cons (.lit (.str [99])) .nil))))) (.call 36 (.cons (.var 0) (.cons (.lit (.int 4)) .nil)))) (.cons (.var 2) (.cons (.var 4) (.cons (.var 5) .nil)))))) .nil) [some (.ref 0), some (.d (drawnD n m)), some (.ref (rest.length + 1)), o3, some (.ref (rest.length + 1 + 1)), some (.ref (rest.length + 1 + 1 + 1)), b6] h4 = some (.rt (thingD ⟨nm, v, rn, rt, ws⟩) h6) := by
    simp [-frzs_cons, -frzs_nil, e5, e6, e7, thingD]
  rw [runB_eq, if_pos (show [AV.ref 0, AV.d (drawnD n m)].length = 2 from rfl)]
  show bnd (exs prog (callF prog (k + 2)) (.cons (.newl 2 .nil) (.cons (.loop (.one 3) (.rng (.idx (.var 1) (.lit (.int 0)))) (.cons (.app 2 (.bin .sub (.call 36 (.cons (.var 0) (.cons (.idx (.lst (.cons (.lit (.int 9)) (.cons (.lit (.int 2)) .nil))) (.blt .int (.cons (.cmp .eq (.idx (.var 1) (.lit (.int 1))) (.lit (.str [98, 105, 116]))) .nil))) .nil))) (.idx (.lst (.cons (.lit (.int 4)) (.cons (.lit (.int 0)) .nil))) (.blt .int (.cons (.cmp .eq (.idx (.var 1) (.lit (.int 1))) (.lit (.str [98, 105, 116]))) .nil))))) .nil)) (.cons (.newl 4 .nil) (.cons (.ite (.cmp .gt (.call 36 (.cons (.var 0) (.cons (.lit (.int 3)) .nil))) (.lit (.int 0))) (.cons (.app 4 (.tup (.cons (.lit (.str [110])) (.cons (.bin .sub (.call 36 (.cons (.var 0) (.cons (.lit (.int 9)) .nil))) (.lit (.int 4))) .nil)))) .nil) .nil) (.cons (.ite (.cmp .gt (.call 36 (.cons (.var 0) (.cons (.lit (.int 3)) .nil))) (.lit (.int 0))) (.cons (.app 4 (.tup (.cons (.lit (.str [116])) (.cons (.idx (.lst (.cons (.lit (.str [114, 101, 100])) (.cons (.lit (.str [97, 115, 104])) (.cons (.lit (.str [])) .nil)))) (.call 36 (.cons (.var 0) (.cons (.lit (.int 3)) .nil)))) .nil)))) .nil) .nil) (.cons (.newl 5 .nil) (.cons (.loop (.one 6) (.val (.lst (.cons (.lit (.str [97, 110, 116])) (.cons (.lit (.str [98, 101, 101])) (.cons (.lit (.str [99, 111, 119])) .nil))))) (.cons (.ite (.cmp .eq (.call 36 (.cons (.var 0) (.cons (.lit (.int 2)) .nil))) (.lit (.int 0))) (.cons (.app 5 (.tup (.cons (.var 6) (.cons (.bin .add (.lit (.int 1)) (.call 36 (.cons (.var 0) (.cons (.lit (.int 20)) .nil)))) .nil)))) .nil) .nil) .nil)) (.cons (.ret (.tup (.cons (.idx (.lst (.cons (.lit (.str [97])) (.cons (.lit (.str [98])) (.cons (.lit (.str [98, 97])) (.cons (.lit (.str [99])) .nil))))) (.call 36 (.cons (.var 0) (.cons (.lit (.int 4)) .nil)))) (.cons (.var 2) (.cons (.var 4) (.cons (.var 5) .nil)))))) .nil)))))))) [some (.ref 0), some (.d (drawnD n m)), none, none, none, none, none] h) _ = _
  rw [A, e2, e3, B, e4, C]
  rfl
end K24
/-! K24P27: the drawn texts, and what the parser makes of them. -/
set_option Elab.async false
set_option linter.all false
set_option maxRecDepth 100000
set_option maxHeartbeats 2000000
namespace K24
abbrev q0 : List Nat × Cond := ([101, 118, 101, 114, 121], .every)
abbrev q1 : List Nat × Cond := ([104, 97, 115, 32, 110], .base .hasN)
abbrev q2 : List Nat × Cond := ([110, 32, 60, 32, 50], .base .lt2)
abbrev q3 : List Nat × Cond := ([110, 32, 33, 61, 32, 45, 49], .base .ne1)
abbrev q4 : List Nat × Cond := ([116, 32, 61, 32, 34, 114, 101, 100, 34], .base .red)
abbrev q5 : List Nat × Cond := ([116, 32, 105, 110, 32, 91, 34, 34, 44, 32, 34, 97, 115, 104, 34, 93], .base .inT)
abbrev q6 : List Nat × Cond := ([110, 111, 116, 32, 110, 32, 62, 61, 32, 49], .neg (.base .ge1))
abbrev q7 : List Nat × Cond := ([110, 111, 116, 32, 104, 97, 115, 32, 116], .neg (.base .hasT))
def bits0 : List (List Nat × Cond) := [q0, q1, q2, q3, q4, q5, q6, q7]
def pair0 (o : Bool) (a b : List Nat × Cond) : List Nat × Cond := ([40] ++ a.1 ++ [41, 32] ++ (match o with | true => [97, 110, 100, 32] | false => [111, 114, 32]) ++ b.1, match o with | true => .both a.2 b.2 | false => .either a.2 b.2)
def Prs (p : List Nat × Cond) : Prop := ∀ (n : Nat) (m : Ms) (st q : AO), callF prog 37 20 [.d (schemaD n m), sS p.1] [st, q] = some (condD p.2, [st, q])
theorem b0_of {P : List Nat × Cond → Prop} (h0 : P q0) (h1 : P q1) (h2 : P q2) (h3 : P q3) (h4 : P q4) (h5 : P q5) (h6 : P q6) (h7 : P q7) : ∀ p ∈ bits0, P p := by
  intro p hp
  simp only [bits0, List.mem_cons, List.not_mem_nil, or_false] at hp
  rcases hp with e | e | e | e | e | e | e | e <;> rw [e] <;> assumption
theorem prs1 : ∀ p ∈ bits0, Prs p := by
  apply b0_of <;> (intro n m st q; kernel_rfl)
theorem prs_0t : ∀ b ∈ bits0, Prs (pair0 true q0 b) := by
  apply b0_of <;> (intro n m st q; kernel_rfl)
theorem prs_0f : ∀ b ∈ bits0, Prs (pair0 false q0 b) := by
  apply b0_of <;> (intro n m st q; kernel_rfl)
theorem prs_1t : ∀ b ∈ bits0, Prs (pair0 true q1 b) := by
  apply b0_of <;> (intro n m st q; kernel_rfl)
theorem prs_1f : ∀ b ∈ bits0, Prs (pair0 false q1 b) := by
  apply b0_of <;> (intro n m st q; kernel_rfl)
theorem prs_2t : ∀ b ∈ bits0, Prs (pair0 true q2 b) := by
  apply b0_of <;> (intro n m st q; kernel_rfl)
theorem prs_2f : ∀ b ∈ bits0, Prs (pair0 false q2 b) := by
  apply b0_of <;> (intro n m st q; kernel_rfl)
theorem prs_3t : ∀ b ∈ bits0, Prs (pair0 true q3 b) := by
  apply b0_of <;> (intro n m st q; kernel_rfl)
theorem prs_3f : ∀ b ∈ bits0, Prs (pair0 false q3 b) := by
  apply b0_of <;> (intro n m st q; kernel_rfl)
theorem prs_4t : ∀ b ∈ bits0, Prs (pair0 true q4 b) := by
  apply b0_of <;> (intro n m st q; kernel_rfl)
theorem prs_4f : ∀ b ∈ bits0, Prs (pair0 false q4 b) := by
  apply b0_of <;> (intro n m st q; kernel_rfl)
theorem prs_5t : ∀ b ∈ bits0, Prs (pair0 true q5 b) := by
  apply b0_of <;> (intro n m st q; kernel_rfl)
theorem prs_5f : ∀ b ∈ bits0, Prs (pair0 false q5 b) := by
  apply b0_of <;> (intro n m st q; kernel_rfl)
theorem prs_6t : ∀ b ∈ bits0, Prs (pair0 true q6 b) := by
  apply b0_of <;> (intro n m st q; kernel_rfl)
theorem prs_6f : ∀ b ∈ bits0, Prs (pair0 false q6 b) := by
  apply b0_of <;> (intro n m st q; kernel_rfl)
theorem prs_7t : ∀ b ∈ bits0, Prs (pair0 true q7 b) := by
  apply b0_of <;> (intro n m st q; kernel_rfl)
theorem prs_7f : ∀ b ∈ bits0, Prs (pair0 false q7 b) := by
  apply b0_of <;> (intro n m st q; kernel_rfl)
theorem prs2 : ∀ (o : Bool), ∀ a ∈ bits0, ∀ b ∈ bits0, Prs (pair0 o a b)
  | true => b0_of prs_0t prs_1t prs_2t prs_3t prs_4t prs_5t prs_6t prs_7t
  | false => b0_of prs_0f prs_1f prs_2f prs_3f prs_4f prs_5f prs_6f prs_7f
/-- a drawn text and what it means -/
def Txt (p : List Nat × Cond) : Prop := Prs p ∧ deep p.2 ≤ 3
theorem deep_1 : ∀ p ∈ bits0, deep p.2 ≤ 1 := by
  apply b0_of <;> decide
theorem txt1 {p : List Nat × Cond} (h : p ∈ bits0) : Txt p := ⟨prs1 p h, Nat.le_trans (deep_1 p h) (by decide)⟩
theorem txt2 (o : Bool) {a b : List Nat × Cond} (ha : a ∈ bits0) (hb : b ∈ bits0) : Txt (pair0 o a b) := by
  refine ⟨prs2 o a ha b hb, ?_⟩
  have h1 := deep_1 a ha
  have h2 := deep_1 b hb
  cases o <;> simp only [pair0, deep] <;> omega
end K24
/-! K24P28: drawn texts; the inits of queries and questions. -/
set_option Elab.async false
set_option linter.all false
set_option maxRecDepth 100000
set_option maxHeartbeats 2000000
namespace K24
theorem StH.look1 {ns : List Int} {rest h : Hs} {xs : List D} (s : StH ns (rest ++ [.lst xs]) h) : look h (.ref (rest.length + 1)) = some (.lst xs) := by
  unfold look
  simp only [s.at1]
theorem bit_at {q : Int} (h0 : 0 ≤ q) (h1 : q < 8) : ∃ p ∈ bits0, K24.atD (.lst (bits0.map fun p => .str p.1)) q = some (.str p.1) := by
  rcases (show q = 0 ∨ q = 1 ∨ q = 2 ∨ q = 3 ∨ q = 4 ∨ q = 5 ∨ q = 6 ∨ q = 7 by omega) with rfl | rfl | rfl | rfl | rfl | rfl | rfl | rfl
  · exact ⟨q0, by simp [bits0], rfl⟩
  · exact ⟨q1, by simp [bits0], rfl⟩
  · exact ⟨q2, by simp [bits0], rfl⟩
  · exact ⟨q3, by simp [bits0], rfl⟩
  · exact ⟨q4, by simp [bits0], rfl⟩
  · exact ⟨q5, by simp [bits0], rfl⟩
  · exact ⟨q6, by simp [bits0], rfl⟩
  · exact ⟨q7, by simp [bits0], rfl⟩
theorem bit_len : ∀ p ∈ bits0, p.1.length ≤ 20 := by
  apply b0_of <;> decide
theorem textOf_ev {k : Nat} {ns : List Int} {rest h : Hs} (s : StH ns rest h) : ∃ (p : List Nat × Cond) (h' : Hs), callF prog (k + 3) 49 [.ref 0] h = some (.str p.1, h') ∧ Txt p ∧ StH ns rest h' := by
  have l0 := s.len
  have s0 := s.push (.lst (bits0.map fun p => .str p.1))
  obtain ⟨q1, h1, e1, a0, a1, s1⟩ := next_st (k := k) 8 (by omega) s0
  obtain ⟨a, ha, pa⟩ := bit_at a0 a1
  have la := bit_len a ha
  obtain ⟨q2, h2, e2, b0, b1, s2⟩ := next_st (k := k) 2 (by omega) s1
  have A : ∀ X, exs prog (callF prog (k + 2)) (.cons (.newl 1 (.cons (.lit (.str [101, 118, 101, 114, 121])) (.cons (.lit (.str [104, 97, 115, 32, 110])) (.cons (.lit (.str [110, 32, 60, 32, 50])) (.cons (.lit (.str [110, 32, 33, 61, 32, 45, 49])) (.cons (.lit (.str [116, 32, 61, 32, 34, 114, 101, 100, 34])) (.cons (.lit (.str [116, 32, 105, 110, 32, 91, 34, 34, 44, 32, 34, 97, 115, 104, 34, 93])) (.cons (.lit (.str [110, 111, 116, 32, 110, 32, 62, 61, 32, 49])) (.cons (.lit (.str [110, 111, 116, 32, 104, 97, 115, 32, 116])) .nil))))))))) (.cons (.set 2 (.idx (.var 1) (.call 36 (.cons (.var 0) (.cons (.lit (.int 8)) .nil))))) X)) [some (.ref 0), none, none] h = exs prog (callF prog (k + 2)) X [some (.ref 0), some (.ref (rest.length + 1)), some (sS a.1)] h1 := fun X => by
    have g : h ++ [.lst (bits0.map fun p => .str p.1)] = h ++ [.lst [.str K24.q0.1, .str K24.q1.1, .str K24.q2.1, .str K24.q3.1, .str K24.q4.1, .str K24.q5.1, .str K24.q6.1, .str K24.q7.1]] := rfl
    have lk := s1.look1
    rw [g] at e1
    simp [l0, e1, lk, pa]
  rw [un (d := 49) rfl, runB_eq, if_pos (show [AV.ref 0].length = 1 from rfl)]
  by_cases hq : q2 = 0
  · obtain ⟨q3, h3, e3, c0, c1, s3⟩ := next_st (k := k) 2 (by omega) s2
    obtain ⟨q4, h4, e4, d0, d1, s4⟩ := next_st (k := k) 8 (by omega) s3
    obtain ⟨b, hb, pb⟩ := bit_at d0 d1
    have lb := bit_len b hb
    have pk := fun x y => atS2 c0 c1 x y
    have lk := s4.look1
    have lo : (if q3 = 0 then ([97, 110, 100, 32] : List Nat) else [111, 114, 32]).length ≤ 4 := by split <;> simp
    refine ⟨pair0 (decide (q3 = 0)) a b, h4.take h.length, ?_, txt2 _ ha hb, s.back s4⟩
    have t : ((([40] ++ a.1) ++ [41, 32]) ++ (if q3 = 0 then [97, 110, 100, 32] else [111, 114, 32])) ++ b.1 = (pair0 (decide (q3 = 0)) a b).1 := by
      by_cases hz : q3 = 0 <;> simp [pair0, hz]
    have B : exs prog (callF prog (k + 2)) (.cons (.ite (.cmp .eq (.call 36 (.cons (.var 0) (.cons (.lit (.int 2)) .nil))) (.lit (.int 0))) (.cons (.set 2 (.bin .add (.bin .add (.bin .add (.bin .add (.lit (.str [40])) (.var 2)) (.lit (.str [41, 32]))) (.idx (.lst (.cons (.lit (.str [97, 110, 100, 32])) (.cons (.lit (.str [111, 114, 32])) .nil))) (.call 36 (.cons (.var 0) (.cons (.lit (.int 2)) .nil))))) (.idx (.var 1) (.call 36 (.cons (.var 0) (.cons (.lit (.int 8)) .nil)))))) .nil) .nil) (.cons (.ret (.var 2)) .nil)) [some (.ref 0), some (.ref (rest.length + 1)), some (sS a.1)] h1 = some (.rt (.str (pair0 (decide (q3 = 0)) a b).1) h4) := by
      rw [← t]
      have w1 : a.1.length + 1 ≤ 16777216 := by omega
      simp only [exs_cons, ex_ite, evb_eq, ev_cmp, ev_call, evs_cons, evs_nil, ev_var, ev_lit, ex_set, ev_bin, ev_idx, ev_lst, ex_ret, exs_nil]
      simp [e2, hq, e3, e4, pk, lk, pb, line_is]
      omega
    show bnd (exs prog (callF prog (k + 2)) (.cons (.newl 1 (.cons (.lit (.str [101, 118, 101, 114, 121])) (.cons (.lit (.str [104, 97, 115, 32, 110])) (.cons (.lit (.str [110, 32, 60, 32, 50])) (.cons (.lit (.str [110, 32, 33, 61, 32, 45, 49])) (.cons (.lit (.str [116, 32, 61, 32, 34, 114, 101, 100, 34])) (.cons (.lit (.str [116, 32, 105, 110, 32, 91, 34, 34, 44, 32, 34, 97, 115, 104, 34, 93])) (.cons (.lit (.str [110, 111, 116, 32, 110, 32, 62, 61, 32, 49])) (.cons (.lit (.str [110, 111, 116, 32, 104, 97, 115, 32, 116])) .nil))))))))) (.cons (.set 2 (.idx (.var 1) (.call 36 (.cons (.var 0) (.cons (.lit (.int 8)) .nil))))) (.cons (.ite (.cmp .eq (.call 36 (.cons (.var 0) (.cons (.lit (.int 2)) .nil))) (.lit (.int 0))) (.cons (.set 2 (.bin .add (.bin .add (.bin .add (.bin .add (.lit (.str [40])) (.var 2)) (.lit (.str [41, 32]))) (.idx (.lst (.cons (.lit (.str [97, 110, 100, 32])) (.cons (.lit (.str [111, 114, 32])) .nil))) (.call 36 (.cons (.var 0) (.cons (.lit (.int 2)) .nil))))) (.idx (.var 1) (.call 36 (.cons (.var 0) (.cons (.lit (.int 8)) .nil)))))) .nil) .nil) (.cons (.ret (.var 2)) .nil)))) [some (.ref 0), none, none] h) _ = _
    rw [A, B]
    rfl
  · refine ⟨a, h2.take h.length, ?_, txt1 ha, s.back s2⟩
    have B : exs prog (callF prog (k + 2)) (.cons (.ite (.cmp .eq (.call 36 (.cons (.var 0) (.cons (.lit (.int 2)) .nil))) (.lit (.int 0))) (.cons (.set 2 (.bin .add (.bin .add (.bin .add (.bin .add (.lit (.str [40])) (.var 2)) (.lit (.str [41, 32]))) (.idx (.lst (.cons (.lit (.str [97, 110, 100, 32])) (.cons (.lit (.str [111, 114, 32])) .nil))) (.call 36 (.cons (.var 0) (.cons (.lit (.int 2)) .nil))))) (.idx (.var 1) (.call 36 (.cons (.var 0) (.cons (.lit (.int 8)) .nil)))))) .nil) .nil) (.cons (.ret (.var 2)) .nil)) [some (.ref 0), some (.ref (rest.length + 1)), some (sS a.1)] h1 = some (.rt (.str a.1) h2) := by
      simp [e2, hq]
    show bnd (exs prog (callF prog (k + 2)) (.cons (.newl 1 (.cons (.lit (.str [101, 118, 101, 114, 121])) (.cons (.lit (.str [104, 97, 115, 32, 110])) (.cons (.lit (.str [110, 32, 60, 32, 50])) (.cons (.lit (.str [110, 32, 33, 61, 32, 45, 49])) (.cons (.lit (.str [116, 32, 61, 32, 34, 114, 101, 100, 34])) (.cons (.lit (.str [116, 32, 105, 110, 32, 91, 34, 34, 44, 32, 34, 97, 115, 104, 34, 93])) (.cons (.lit (.str [110, 111, 116, 32, 110, 32, 62, 61, 32, 49])) (.cons (.lit (.str [110, 111, 116, 32, 104, 97, 115, 32, 116])) .nil))))))))) (.cons (.set 2 (.idx (.var 1) (.call 36 (.cons (.var 0) (.cons (.lit (.int 8)) .nil))))) (.cons (.ite (.cmp .eq (.call 36 (.cons (.var 0) (.cons (.lit (.int 2)) .nil))) (.lit (.int 0))) (.cons (.set 2 (.bin .add (.bin .add (.bin .add (.bin .add (.lit (.str [40])) (.var 2)) (.lit (.str [41, 32]))) (.idx (.lst (.cons (.lit (.str [97, 110, 100, 32])) (.cons (.lit (.str [111, 114, 32])) .nil))) (.call 36 (.cons (.var 0) (.cons (.lit (.int 2)) .nil))))) (.idx (.var 1) (.call 36 (.cons (.var 0) (.cons (.lit (.int 8)) .nil)))))) .nil) .nil) (.cons (.ret (.var 2)) .nil)))) [some (.ref 0), none, none] h) _ = _
    rw [A, B]
    rfl
end K24
/-! K24P29: the inits of schemas, queries and questions; the drawn question. -/
set_option Elab.async false
set_option linter.all false
set_option maxRecDepth 100000
set_option maxHeartbeats 2000000
namespace K24
def loM : Ms → Int
  | .bits => 0
  | _ => -128
def hiM : Ms → Int
  | .bits => 1
  | _ => 127
theorem least_ev {k n : Nat} (m : Ms) (h : Hs) : callF prog (k + 1) 69 [.d (schemaD n m)] h = some (.int (loM m), h) := by
  rw [un (d := 69) rfl]
  cases m <;> simp [b_Schema_least, schemaD, prog_dicts, dictsT, wdL, loM, K24.atD, ixI]
theorem great_ev {k n : Nat} (m : Ms) (h : Hs) : callF prog (k + 1) 70 [.d (schemaD n m)] h = some (.int (hiM m), h) := by
  rw [un (d := 70) rfl]
  cases m <;> simp [b_Schema_greatest, schemaD, prog_dicts, dictsT, wdL, hiM, K24.atD, ixI]
theorem hv_lp {k n : Nat} {m : Ms} {B : Option AV} {h : Hs} : ∀ {v : List Int} (o : Option AV), (∀ x ∈ v, SgOk m x) → ∃ o', forL (LB prog (callF prog (k + 1)) (.one 2) (.cons (.ite (.or (.cmp .lt (.var 2) (.prop (.var 0) 38)) (.cmp .gt (.var 2) (.prop (.var 0) 39))) (.cons (.ret (.lit (.bl false))) .nil) .nil) .nil)) (v.map .int) [some (.d (schemaD n m)), B, o] h = some (.nx [some (.d (schemaD n m)), B, o'] h)
  | [], o, _ => ⟨o, rfl⟩
  | x :: v, o, g => by
    obtain ⟨o', e⟩ := hv_lp (k := k) (n := n) (m := m) (B := B) (h := h) (v := v) (some (iI x)) (fun y hy => g y (List.mem_cons_of_mem _ hy))
    have gx := g x (List.mem_cons_self ..)
    have c1 : ¬ x < loM m := by cases m <;> simp only [SgOk, loM] at gx ⊢ <;> omega
    have c2 : ¬ hiM m < x := by cases m <;> simp only [SgOk, hiM] at gx ⊢ <;> omega
    have l := least_ev (k := k) (n := n) m h
    have u := great_ev (k := k) (n := n) m h
    refine ⟨o', ?_⟩
    simp only [schemaD] at l u e ⊢
    simp only [List.map_cons, forL_cons]
    simp [LB, clsT, l, u, c1, c2, e]
theorem items_T (v : List Int) : itemsD (iT v) = some (v.map .int) := rfl
theorem hasVec_ev {k n : Nat} {m : Ms} {v : List Int} (hl : v.length = n) (g : ∀ x ∈ v, SgOk m x) (h : Hs) : callF prog (k + 2) 73 [.d (schemaD n m), iV v] h = some (.bl true, h) := by
  obtain ⟨o', e⟩ := hv_lp (k := k) (n := n) (m := m) (B := some (iV v)) (h := h) none g
  rw [un (d := 73) rfl]
  simp only [schemaD] at e ⊢
  simp [b_Schema_has_vector, items_T, hl, e]
/-! ### the words of a query -/
def nmD (p : List Nat × Int) : D := .str p.1
theorem nm_all (ws : List (List Nat × Int)) : (ws.map nmD).all isStr = true := by
  simp [List.all_eq_true, nmD, isStr]
theorem nm_any (w : List Nat) : ∀ ws : List (List Nat × Int), w ∉ ws.map Prod.fst → (ws.map nmD).any (eqS w) = false
  | [], _ => rfl
  | p :: ws, hn => by
    have h1 : ¬ p.1 = w := fun e => hn (by rw [List.map_cons, e]; exact List.mem_cons_self ..)
    have h2 := nm_any w ws (fun hx => hn (List.mem_cons_of_mem _ hx))
    simp only [List.map_cons, List.any_cons, h2, Bool.or_false]
    simp [nmD, eqS, h1]
theorem in_nm {w : List Nat} {ws : List (List Nat × Int)} (hn : w ∉ ws.map Prod.fst) : inD (.str w) (.lst (ws.map nmD)) = some false := by
  show (match (ws.map nmD).all isStr with | true => some ((ws.map nmD).any (eqS w)) | false => none) = _
  rw [nm_all, nm_any w ws hn]
theorem look_push {h : Hs} {xs : List D} : look (h ++ [.lst xs]) (.ref h.length) = some (.lst xs) := by
  unfold look
  simp only [get_push]
theorem isl_push {h : Hs} {xs : List D} : isL (h ++ [.lst xs]) h.length = some () := by
  unfold isL
  rw [get_push]
theorem app_push {h : Hs} {xs : List D} (hl : xs.length ≤ 1000) (x : D) (S : Sl) : appK h.length x S (h ++ [.lst xs]) = some (.nx S (h ++ [.lst (xs ++ [x])])) := by
  unfold appK
  rw [get_push]
  have : Nat.blt xs.length line = true := by
    rw [Nat.blt_eq, line_is]
    omega
  simp only [this, set_push]
theorem cq_lp {k : Nat} {A B : Option AV} {h : Hs} {ws : List (List Nat × Int)} (hw : ∀ p ∈ ws, 0 ≤ p.2) (nd : (ws.map Prod.fst).Nodup) (hl : ws.length ≤ 100) : ∃ S', forL (LB prog (callF prog k) (.many [3, 4]) (.cons (.ite (.or (.cmp .lt (.var 4) (.lit (.int 0))) (.cmp .isin (.var 3) (.var 2))) (.cons .never .nil) .nil) (.cons (.app 2 (.var 3)) .nil))) (ws.map wordD) [A, B, some (.ref h.length), none, none] (h ++ [.lst []]) = some (.nx S' (h ++ [.lst (ws.map nmD)])) := by
  obtain ⟨S', h', e, o3, o4, es, eh⟩ := forL_inv (f := LB prog (callF prog k) (.many [3, 4]) (.cons (.ite (.or (.cmp .lt (.var 4) (.lit (.int 0))) (.cmp .isin (.var 3) (.var 2))) (.cons .never .nil) .nil) (.cons (.app 2 (.var 3)) .nil)))
    (fun i S h' => ∃ o3 o4, S = [A, B, some (.ref h.length), o3, o4] ∧ h' = h ++ [.lst ((ws.take i).map nmD)]) (ws.map wordD) 0 [A, B, some (.ref h.length), none, none] (h ++ [.lst []]) ⟨none, none, rfl, by simp⟩ (fun j x S h1 hx ⟨o3, o4, es, eh⟩ => by
      subst es eh
      rw [Nat.zero_add]
      rw [List.getElem?_map] at hx
      have hj : j < ws.length := by
        rcases Nat.lt_or_ge j ws.length with hj | hj
        · exact hj
        · rw [List.getElem?_eq_none hj] at hx
          cases hx
      rw [List.getElem?_eq_getElem hj] at hx
      cases hx
      have w0 := hw _ (List.getElem_mem hj)
      have c0 : ¬ ws[j].2 < 0 := by omega
      have nin : ws[j].1 ∉ (ws.take j).map Prod.fst := by
        intro hm
        obtain ⟨p, hp, ep⟩ := List.mem_map.mp hm
        obtain ⟨i, hi, ei⟩ := List.getElem_of_mem hp
        rw [List.length_take] at hi
        rw [List.getElem_take] at ei
        have := (List.pairwise_iff_getElem.mp nd) i j (by simp; omega) (by simpa using hj) (by omega)
        apply this
        simp only [List.getElem_map, ei, ep]
      have i0 := in_nm nin
      have a0 := app_push (h := h) (xs := (ws.take j).map nmD) (by simp; omega) (.str ws[j].1) [A, B, some (.ref h.length), some (sS ws[j].1), some (iI ws[j].2)]
      have t : (ws.take (j + 1)).map nmD = (ws.take j).map nmD ++ [.str ws[j].1] := by
        rw [← List.take_append_getElem hj, List.map_append]
        rfl
      refine ⟨_, _, ?_, some (sS ws[j].1), some (iI ws[j].2), rfl, rfl⟩
      rw [t]
      simp [-isL_eq, -List.map_take, LB, wordD, c0, look_push, i0, isl_push, a0])
  rw [Nat.zero_add, List.length_map, List.take_length] at eh
  subst es eh
  exact ⟨_, e⟩
theorem cq_ev {k : Nat} {Q : Qn} (hl : Q.vec.length = Q.n) (hs : ∀ x ∈ Q.vec, SgOk Q.m x) (hn : 0 ≤ Q.near) (hw : ∀ p ∈ Q.words, 0 ≤ p.2) (nd : (Q.words.map Prod.fst).Nodup) (h3 : Q.words.length ≤ 100) (h : Hs) : callF prog (k + 3) 21 [.d (schemaD Q.n Q.m), .d (queryD Q)] h = some (.non, h) := by
  have v := hasVec_ev (k := k) hl hs h
  obtain ⟨S', e⟩ := cq_lp (k := k + 2) (A := some (.d (schemaD Q.n Q.m))) (B := some (.d (queryD Q))) (h := h) hw nd h3
  have c0 : ¬ Q.near < 0 := by omega
  rw [un (d := 21) rfl]
  simp only [schemaD, queryD] at v e ⊢
  simp [b_check_query, clsT, v, c0, itemsD, e]
theorem u92 (k : Nat) (vs : List AV) (h : Hs) : callF prog (k + 1) 92 vs h = runB prog (callF prog k) ⟨6, 8, b_Query_init⟩ vs h := un rfl vs h
theorem query_made {k : Nat} (v : List Int) (near : Int) (ws : List (List Nat × Int)) (t : List Nat) (h : Hs) : mkI prog (callF prog (k + 1)) 13 [lV v, iI near, .d (.lst (ws.map wordD)), sS t, iI 2] h = some (h ++ [.ins 13 [(1, iT v), (24, .int near), (3, .tup (ws.map wordD)), (25, .str t), (26, .int 2)]]) := by
  refine made_of rfl rfl ?_
  have c := copy_lp (T := prog) (call := callF prog k) (i := 6) (j := 7) (S := [some (.ref h.length), some (lV v), some (iI near), some (.d (.lst (ws.map wordD))), some (sS t), some (iI 2), none, none]) (h := h ++ [.ins 13 [(1, iT v), (24, .int near)]]) (by simp) (by simp) (by omega) ws
  simp only [iT] at c ⊢
  rw [u92]
  simp [b_Query_init, itemsD, c, setaK_push, clsT, blt_tuple_l, take_all1]
theorem schema_made {n : Nat} (m : Ms) (n1 : 1 ≤ n) (n4 : n ≤ 4) (st : AO) : mkI prog (callF prog 38) 8 [iI n, sS (wdL m), sS (msL m), .d (.lst fieldsL)] [st] = some ([st] ++ [.ins 8 [(10, .int n), (11, .str (wdL m)), (12, .str (msL m)), (2, .tup fieldsL)]]) := by
  rcases (show n = 1 ∨ n = 2 ∨ n = 3 ∨ n = 4 by omega) with rfl | rfl | rfl | rfl <;> cases m <;> kernel_rfl
theorem qn_made {Q : Qn} (hl : Q.vec.length = Q.n) (hs : ∀ x ∈ Q.vec, SgOk Q.m x) (hn : 0 ≤ Q.near) (hw : ∀ p ∈ Q.words, 0 ≤ p.2) (nd : (Q.words.map Prod.fst).Nodup) (h3 : Q.words.length ≤ 100) (ht : Prs (Q.text, Q.cond)) (st : AO) : mkI prog (callF prog 38) 11 [.d (schemaD Q.n Q.m), .d (queryD Q)] [st] = some ([st] ++ [.ins 11 [(15, schemaD Q.n Q.m), (20, queryD Q), (21, condD Q.cond)]]) := by
  refine made_of (d := 88) rfl rfl ?_
  have c := cq_ev (k := 34) hl hs hn hw nd h3 ([st] ++ [.ins 11 []])
  have p := ht Q.n Q.m st (.ins 11 [(15, schemaD Q.n Q.m), (20, queryD Q)])
  have w := fun f x fs => setaK_push (f := f) (x := x) (s := [some (.ref 1), some (.d (schemaD Q.n Q.m)), some (.d (queryD Q))]) (h := [st]) (c := 11) (fs := fs)
  simp only [List.cons_append, List.nil_append, List.length_cons, List.length_nil, Nat.zero_add, Nat.reduceAdd] at c w ⊢
  rw [un (d := 88) (k := 37) rfl]
  simp only [queryD] at c p w ⊢
  simp [b_Question_init, c, w, clsT, p]
end K24
/-! K24P30: the drawn question; records. -/
set_option Elab.async false
set_option linter.all false
set_option maxRecDepth 100000
set_option maxHeartbeats 2000000
namespace K24
theorem qw_lp {k : Nat} {ns : List Int} {rest : Hs} {A1 A2 A3 A4 A5 A6 A7 : Option AV} : ∀ (ws : List (List Nat × Int)) (h : Hs), StH ns rest h → ∃ (l : List (List Nat × Int)) (h' : Hs), compL (CB prog (callF prog (k + 2)) (.tup (.cons (.var 6) (.cons (.bin .mul (.call 36 (.cons (.var 0) (.cons (.lit (.int 3)) .nil))) (.call 36 (.cons (.var 0) (.cons (.lit (.int 50)) .nil)))) .nil))) (.many [6, 7]) .no [some (.ref 0), A1, A2, A3, A4, A5, A6, A7]) (ws.map wordD) h = some (l.map wordD, h') ∧ l.map Prod.fst = ws.map Prod.fst ∧ (∀ p ∈ l, 0 ≤ p.2 ∧ p.2 ≤ 1000000) ∧ StH ns rest h'
  | [], h, s => ⟨[], h, rfl, rfl, fun p hp => (nomatch hp), s⟩
  | p :: ws, h, s => by
    obtain ⟨x, h1, e1, x0, x1, s1⟩ := next_st (k := k) 3 (by omega) s
    obtain ⟨y, h2, e2, y0, y1, s2⟩ := next_st (k := k) 50 (by omega) s1
    obtain ⟨l, h3, e3, u, w, s3⟩ := qw_lp (k := k) (A1 := A1) (A2 := A2) (A3 := A3) (A4 := A4) (A5 := A5) (A6 := A6) (A7 := A7) ws h2 s2
    have m0 : 0 ≤ x * y := Int.mul_nonneg x0 y0
    have m1 : x * y ≤ 3 * 50 := Int.mul_le_mul (by omega) (by omega) y0 (by omega)
    refine ⟨(p.1, x * y) :: l, h3, ?_, by simp [u], ?_, s3⟩
    · rw [List.map_cons, compL_cons]
      have c : CB prog (callF prog (k + 2)) (.tup (.cons (.var 6) (.cons (.bin .mul (.call 36 (.cons (.var 0) (.cons (.lit (.int 3)) .nil))) (.call 36 (.cons (.var 0) (.cons (.lit (.int 50)) .nil)))) .nil))) (.many [6, 7]) .no [some (.ref 0), A1, A2, A3, A4, A5, A6, A7] (wordD p) h = some (some (wordD (p.1, x * y)), h2) := by
        simp [CB, wordD, Tg.slots, wipeS, e1, e2, mul_ok (a := x) (b := y) (by omega)]
      rw [c, bnd_some]
      simp only [e3, bnd_some, List.map_cons]
    · intro z hz
      rcases List.mem_cons.mp hz with rfl | hz
      · exact ⟨m0, by simp only; omega⟩
      · exact w z hz
theorem takK1 (st : AO) (c : Nat) (fs : List (Nat × D)) : takK 1 [st, .ins c fs] = some (.d (.ins c fs), [st]) := rfl
theorem nodup_words {ws : List (List Nat × Int)} (h : WordsOk ws) : (ws.map Prod.fst).Nodup := h.1.nodup (by decide)
theorem question_ev {n : Nat} {m : Ms} {ns : List Int} {h : Hs} (n1 : 1 ≤ n) (n4 : n ≤ 4) (s : StH ns [] h) : ∃ (Q : Qn) (h' : Hs), callF prog 39 50 [.ref 0, .d (drawnD n m)] h = some (.ins 11 [(15, schemaD n m), (20, queryD Q), (21, condD Q.cond)], h') ∧ Q.n = n ∧ Q.m = m ∧ Q.vec.length = n ∧ (∀ x ∈ Q.vec, SgOk m x) ∧ (0 ≤ Q.near ∧ Q.near ≤ 1000) ∧ (∀ p ∈ Q.words, 0 ≤ p.2 ∧ p.2 ≤ 1000000) ∧ deep Q.cond ≤ 3 ∧ StH ns [] h' := by
  obtain ⟨r, h1, e1, ok, gv, s1⟩ := thing_ev (k := 35) (m := m) n4 s
  obtain ⟨ws, h2, e2, u, gw, s2⟩ := qw_lp (k := 36) (A1 := some (.d (drawnD n m))) (A2 := some (.d (thingD r))) (A3 := none) (A4 := none) (A5 := none) (A6 := none) (A7 := none) r.words h1 s1
  obtain ⟨q, h3, e3, q0, q1, s3⟩ := next_st (k := 36) 3 (by omega) s2
  have pick : ∃ near : Int, K24.atD (.lst [.int 0, .int 1, .int 7]) q = some (.int near) ∧ 0 ≤ near ∧ near ≤ 1000 := by
    rcases (show q = 0 ∨ q = 1 ∨ q = 2 by omega) with rfl | rfl | rfl
    · exact ⟨0, rfl, by omega, by omega⟩
    · exact ⟨1, rfl, by omega, by omega⟩
    · exact ⟨7, rfl, by omega, by omega⟩
  obtain ⟨near, e4, near0, near1⟩ := pick
  obtain ⟨p, h4, e5, ht, s4⟩ := textOf_ev (k := 35) s3
  have nd : (ws.map Prod.fst).Nodup := by
    rw [u]
    exact nodup_words ok.words
  have wl : ws.length ≤ 100 := by
    have := ok.words.len
    have e := congrArg List.length u
    simp at e
    omega
  have tk := s.back0 s4
  refine ⟨⟨n, m, r.vec, near, ws, p.1, p.2⟩, h4, ?_, rfl, rfl, ok.len, gv, ⟨near0, near1⟩, gw, ht.2, s4⟩
  have tk2 : h4.length = 1 := s4.len
  obtain ⟨j, v, rfl⟩ := s4
  obtain ⟨j3, v3, rfl⟩ := s3
  have sm := schema_made (n := n) m n1 n4 (stO ns j3 v3)
  have qm := query_made (k := 37) r.vec near ws p.1 [stO ns j v]
  have nm := qn_made (Q := ⟨n, m, r.vec, near, ws, p.1, p.2⟩) ok.len gv near0 (fun p hp => (gw p hp).1) nd wl ht.1 (stO ns j v)
  simp only [schemaD, queryD, List.cons_append, List.nil_append, Nat.reduceAdd] at e1 e2 e3 e5 sm qm nm ⊢
  rw [un (d := 50) (k := 38) rfl]
  simp [b_law_question, e1, thing_3, thing_1, itemsD, e2, e3, e4, drawn_0, drawn_1, drawn_2, drawn_3, sm, takK1, e5, qm, nm, tk]
/-! ### records -/
theorem pairs_lp {T : Prog} {call : CallT} {A1 A2 A3 A4 A5 A6 A7 A8 A0 : Option AV} {h : Hs} (rn : Option Int) (rt : Option (List Nat)) : compL (CB T call (.tup (.cons (.var 5) (.cons (.var 6) .nil))) (.many [5, 6]) .no [A0, A1, A2, A3, A4, A5, A6, A7, A8]) (pairsD rn rt) h = some (pairsD rn rt, h) := by
  cases rn <;> cases rt <;> simp [pairsD, compL_cons, CB, Tg.slots, wipeS]
theorem record_made {k : Nat} (r : Rec) (h : Hs) : mkI prog (callF prog (k + 1)) 0 [sS r.name, lV r.vec, .d (.lst (pairsD r.n r.t)), .d (.lst (r.words.map wordD))] h = some (h ++ [.ins 0 [(0, .str r.name), (1, iT r.vec), (2, .tup (pairsD r.n r.t)), (3, .tup (r.words.map wordD))]]) := by
  refine made_of (d := 52) rfl rfl ?_
  have p := fun h => pairs_lp (T := prog) (call := callF prog k) (A0 := some (.ref h.length)) (A1 := some (sS r.name)) (A2 := some (lV r.vec)) (A3 := some (.d (.lst (pairsD r.n r.t)))) (A4 := some (.d (.lst (r.words.map wordD)))) (A5 := none) (A6 := none) (A7 := none) (A8 := none) (h := h ++ [.ins 0 [(0, .str r.name), (1, iT r.vec)]]) r.n r.t
  have c := copy_lp (T := prog) (call := callF prog k) (i := 7) (j := 8) (S := [some (.ref h.length), some (sS r.name), some (lV r.vec), some (.d (.lst (pairsD r.n r.t))), some (.d (.lst (r.words.map wordD))), none, none, none, none]) (h := h ++ [.ins 0 [(0, .str r.name), (1, iT r.vec), (2, .tup (pairsD r.n r.t))]]) (by simp) (by simp) (by omega) r.words
  simp only [iT] at c p ⊢
  rw [un (d := 52) rfl]
  simp [b_Record_init, itemsD, p, c, setaK_push, clsT, blt_tuple_l, take_all1]
/-! ### facts -/
theorem madeL_lp {k : Nat} {A0 A1 A2 A3 A4 A5 A6 A7 A8 A9 : Option AV} {h : Hs} : ∀ fs : List FactL, compL (CB prog (callF prog (k + 3)) (.call 41 (.cons (.var 8) .nil)) (.one 8) .no [A0, A1, A2, A3, A4, A5, A6, A7, A8, A9]) (fs.map specD) h = some (fs.map fD, h)
  | [] => rfl
  | f :: fs => by
    have ih := madeL_lp (k := k) (A0 := A0) (A1 := A1) (A2 := A2) (A3 := A3) (A4 := A4) (A5 := A5) (A6 := A6) (A7 := A7) (A8 := A8) (A9 := A9) (h := h) fs
    rw [List.map_cons, compL_cons]
    have c : CB prog (callF prog (k + 3)) (.call 41 (.cons (.var 8) .nil)) (.one 8) .no [A0, A1, A2, A3, A4, A5, A6, A7, A8, A9] (specD f) h = some (some (fD f), h) := by
      simp [CB, Tg.slots, wipeS, made_ev]
    rw [c, bnd_some]
    simp only [ih, bnd_some, List.map_cons]
theorem holds_lp {k n : Nat} {r : Rec} {A0 A1 A2 A3 A4 A5 A7 A9 : Option AV} {h : Hs} (hv : VecOk n r.vec) : ∀ {fs : List FactL} (o : Option AV), AllGood n r fs → ∃ o', forL (LB prog (callF prog (k + 8)) (.one 8) (.cons (.ite (.not (.meth (.var 8) 55 (.cons (.var 6) .nil))) (.cons (.ret (.lit (.bl false))) .nil) .nil) .nil)) (fs.map fD) [A0, A1, A2, A3, A4, A5, some (.d (recD r)), A7, o, A9] h = some (.nx [A0, A1, A2, A3, A4, A5, some (.d (recD r)), A7, o', A9] h)
  | [], o, _ => ⟨o, rfl⟩
  | f :: fs, o, g => by
    obtain ⟨o', e⟩ := holds_lp (k := k) (A0 := A0) (A1 := A1) (A2 := A2) (A3 := A3) (A4 := A4) (A5 := A5) (A7 := A7) (A9 := A9) (h := h) hv (fs := fs) (some (.d (fD f))) g.tl
    have e1 := m_holds (k := k) hv g.hd h (AV × Hs) (fun z => some (AV.d z.fst, z.snd))
    refine ⟨o', ?_⟩
    simp only [List.map_cons, forL_cons]
    simp [LB, e1, e]
end K24
/-! K24P31: the law. -/
set_option Elab.async false
set_option linter.all false
set_option maxRecDepth 100000
set_option maxHeartbeats 2000000
namespace K24
theorem lawDraw {ns : List Int} {h : Hs} (s : StH ns [] h) (a2 a3 a4 a5 a6 a7 a8 a9 : Option AV) : ∃ (Q : Qn) (r : Rec) (fs : List FactL) (a3' a5' : Option AV) (h' : Hs), QnOk Q r ∧ AllGood Q.n r fs ∧ fs.length ≤ 100 ∧ deep Q.cond ≤ 3 ∧ StH ns [] h' ∧
    ∀ X, exs prog (callF prog 39) (.cons (.set 3 (.call 47 (.cons (.var 1) .nil))) (.cons (.set 4 (.call 50 (.cons (.var 1) (.cons (.var 3) .nil)))) (.cons (.set 5 (.call 48 (.cons (.var 1) (.cons (.var 3) .nil)))) (.cons (.set 6 (.make 0 (.cons (.idx (.var 5) (.lit (.int 0))) (.cons (.idx (.var 5) (.lit (.int 1))) (.cons (.idx (.var 5) (.lit (.int 2))) (.cons (.idx (.var 5) (.lit (.int 3))) .nil)))))) (.cons (.set 7 (.comp (.call 41 (.cons (.var 8) .nil)) (.one 8) (.val (.call 46 (.cons (.var 1) (.cons (.var 5) (.cons (.call 36 (.cons (.var 1) (.cons (.lit (.int 7)) .nil))) .nil))))) .no)) X))))) [some (.d (.scr ns)), some (.ref 0), a2, a3, a4, a5, a6, a7, a8, a9] h =
      exs prog (callF prog 39) X [some (.d (.scr ns)), some (.ref 0), a2, a3', some (.d (qnD Q)), a5', some (.d (recD r)), some (.d (.lst (fs.map fD))), a8, a9] h' := by
  obtain ⟨n, m, h1, e1, n1, n4, s1⟩ := schemaOf_ev (k := 36) s
  obtain ⟨Q, h2, e2, rfl, rfl, qv, qg, qn, qw, qd, s2⟩ := question_ev (m := m) n1 n4 s1
  obtain ⟨r, h3, e3, ok, rg, s3⟩ := thing_ev (k := 36) (m := Q.m) n4 s2
  obtain ⟨q, h4, e4, q0, q1, s4⟩ := next_st (k := 37) 7 (by omega) s3
  obtain ⟨t, rfl⟩ : ∃ t : Nat, q = (t : Int) := ⟨q.toNat, by omega⟩
  obtain ⟨fs, h5, e5, g, fl, s5⟩ := tfacts_ev (k := 34) (m := t) ok (by omega) s4
  have sg : ∀ v : List Int, (∀ x ∈ v, SgOk Q.m x) → Sm v := fun v hv x hx => by
    have := hv x hx
    cases hm : Q.m <;> rw [hm] at this <;> simp only [SgOk] at this <;> omega
  have qok : QnOk Q r := ⟨n4, ⟨qv, sg _ qg⟩, ⟨ok.len, sg _ rg⟩, fun hm => ⟨fun x hx => by have := qg x hx; rw [hm] at this; exact this, fun x hx => by have := rg x hx; rw [hm] at this; exact this⟩, qn, qw⟩
  have rm := record_made (k := 38) r h3
  have ml := madeL_lp (k := 36) (A0 := some (.d (.scr ns))) (A1 := some (.ref 0)) (A2 := a2) (A3 := some (.d (drawnD Q.n Q.m))) (A4 := some (.d (qnD Q))) (A5 := some (.d (thingD r))) (A6 := some (.d (recD r))) (A7 := a7) (A8 := a8) (A9 := a9) (h := h5) fs
  refine ⟨Q, r, fs, some (.d (drawnD Q.n Q.m)), some (.d (thingD r)), h5, qok, g, by omega, qd, s5, fun X => ?_⟩
  simp only [Nat.reduceAdd] at e1 e2 e3 e4 e5 rm ml
  simp only [qnD, recD] at ml ⊢
  simp [e1, e2, e3, thing_0, thing_1, thing_2, thing_3, rm, takK_push, e4, e5, itemsD, ml]
theorem passes_ev {r : Rec} {Q : Qn} (hd : deep Q.cond ≤ 3) (h : Hs) : callF prog 39 89 [.d (qnD Q), .d (recD r)] h = some (.bl (passC r Q.cond), h) := by
  have p := pass_ev r h Q.cond 38 (by omega) (AV × Hs) (fun z => some (AV.d z.fst, z.snd))
  rw [un (d := 89) (k := 38) rfl]
  simp only [qnD] at p ⊢
  simp [b_Question_passes, p]
theorem lawAsk {ns : List Int} {h : Hs} {Q : Qn} {r : Rec} {fs : List FactL} (ok : QnOk Q r) (g : AllGood Q.n r fs) (fl : fs.length ≤ 100) (hd : deep Q.cond ≤ 3) (A0 A1 a2 a3 a5 a8 a9 : Option AV) : ∃ (b8 b9 : Option AV),
    exs prog (callF prog 39) (.cons (.loop (.one 8) (.val (.var 7)) (.cons (.ite (.not (.meth (.var 8) 55 (.cons (.var 6) .nil))) (.cons (.ret (.lit (.bl false))) .nil) .nil) .nil)) (.cons (.set 9 (.call 28 (.cons (.var 4) (.cons (.var 7) .nil)))) (.cons (.ite (.and (.notN (.attr (.var 9) 22)) (.cmp .gt (.attr (.var 9) 22) (.meth (.var 4) 54 (.cons (.var 6) .nil)))) (.cons (.ret (.lit (.bl false))) .nil) .nil) (.cons (.ite (.or (.cmp .gt (.attr (.var 9) 0) (.attr (.var 6) 0)) (.and (.meth (.var 4) 37 (.cons (.var 6) .nil)) (.notT (.attr (.var 9) 23)))) (.cons (.ret (.lit (.bl false))) .nil) .nil) .nil)))) [A0, A1, a2, a3, some (.d (qnD Q)), a5, some (.d (recD r)), some (.d (.lst (fs.map fD))), a8, a9] h =
      some (.nx [A0, A1, a2, a3, some (.d (qnD Q)), a5, some (.d (recD r)), some (.d (.lst (fs.map fD))), b8, b9] h) := by
  obtain ⟨b8, e1⟩ := holds_lp (k := 31) (A0 := A0) (A1 := A1) (A2 := a2) (A3 := a3) (A4 := some (.d (qnD Q))) (A5 := a5) (A7 := some (.d (.lst (fs.map fD)))) (A9 := a9) (h := h) ok.rv a8 g
  obtain ⟨x, l, p, e2, x1, l1, p1⟩ := bound_ev (k := 25) ok hd (by omega) g h
  have c := cost_ev (k := 36) ok h
  have ps := passes_ev (r := r) hd h
  refine ⟨b8, some (.d (boundD x l p)), ?_⟩
  simp only [Nat.reduceAdd] at e1 e2 c
  have C : ∀ X, exs prog (callF prog 39) (.cons (.ite (.and (.notN (.attr (.var 9) 22)) (.cmp .gt (.attr (.var 9) 22) (.meth (.var 4) 54 (.cons (.var 6) .nil)))) (.cons (.ret (.lit (.bl false))) .nil) .nil) X) [A0, A1, a2, a3, some (.d (qnD Q)), a5, some (.d (recD r)), some (.d (.lst (fs.map fD))), b8, some (.d (boundD x l p))] h = exs prog (callF prog 39) X [A0, A1, a2, a3, some (.d (qnD Q)), a5, some (.d (recD r)), some (.d (.lst (fs.map fD))), b8, some (.d (boundD x l p))] h := fun X => by
    cases x with
    | none => simp [boundD, valD]
    | some y =>
      have y1 := x1 y rfl
      have y2 : ¬ (Q.near * farI Q.m Q.vec r.vec - wsum r Q.words < y) := by omega
      simp only [qnD] at c ⊢
      simp [boundD, valD, clsT, c, y2]
  have E : exs prog (callF prog 39) (.cons (.ite (.or (.cmp .gt (.attr (.var 9) 0) (.attr (.var 6) 0)) (.and (.meth (.var 4) 37 (.cons (.var 6) .nil)) (.notT (.attr (.var 9) 23)))) (.cons (.ret (.lit (.bl false))) .nil) .nil) .nil) [A0, A1, a2, a3, some (.d (qnD Q)), a5, some (.d (recD r)), some (.d (.lst (fs.map fD))), b8, some (.d (boundD x l p))] h = some (.nx [A0, A1, a2, a3, some (.d (qnD Q)), a5, some (.d (recD r)), some (.d (.lst (fs.map fD))), b8, some (.d (boundD x l p))] h) := by
    simp only [qnD, recD] at ps ⊢
    cases hp : passC r Q.cond with
    | false =>
      rw [hp] at ps
      simp [boundD, clsT, l1, ps]
    | true =>
      rw [hp] at ps
      simp [boundD, clsT, l1, ps, p1 hp]
  have F : ∀ X, exs prog (callF prog 39) (.cons (.loop (.one 8) (.val (.var 7)) (.cons (.ite (.not (.meth (.var 8) 55 (.cons (.var 6) .nil))) (.cons (.ret (.lit (.bl false))) .nil) .nil) .nil)) (.cons (.set 9 (.call 28 (.cons (.var 4) (.cons (.var 7) .nil)))) X)) [A0, A1, a2, a3, some (.d (qnD Q)), a5, some (.d (recD r)), some (.d (.lst (fs.map fD))), a8, a9] h = exs prog (callF prog 39) X [A0, A1, a2, a3, some (.d (qnD Q)), a5, some (.d (recD r)), some (.d (.lst (fs.map fD))), b8, some (.d (boundD x l p))] h := fun X => by
    simp [itemsD, e1, e2]
  rw [F, C, E]
theorem scr_list (ns : List Int) : blt1 .list (.scr ns) = some (.lst (ns.map .int)) := rfl
theorem law_ev (ns : List Int) : ∃ h', callF prog 40 51 [.d (.scr ns)] [] = some (.bl true, h') := by
  obtain ⟨S', h', e, ⟨a2, a3, a4, a5, a6, a7, a8, a9, rfl⟩, s1⟩ := forL_inv (f := LB prog (callF prog 39) (.one 2) (.cons (.set 3 (.call 47 (.cons (.var 1) .nil))) (.cons (.set 4 (.call 50 (.cons (.var 1) (.cons (.var 3) .nil)))) (.cons (.set 5 (.call 48 (.cons (.var 1) (.cons (.var 3) .nil)))) (.cons (.set 6 (.make 0 (.cons (.idx (.var 5) (.lit (.int 0))) (.cons (.idx (.var 5) (.lit (.int 1))) (.cons (.idx (.var 5) (.lit (.int 2))) (.cons (.idx (.var 5) (.lit (.int 3))) .nil)))))) (.cons (.set 7 (.comp (.call 41 (.cons (.var 8) .nil)) (.one 8) (.val (.call 46 (.cons (.var 1) (.cons (.var 5) (.cons (.call 36 (.cons (.var 1) (.cons (.lit (.int 7)) .nil))) .nil))))) .no)) (.cons (.loop (.one 8) (.val (.var 7)) (.cons (.ite (.not (.meth (.var 8) 55 (.cons (.var 6) .nil))) (.cons (.ret (.lit (.bl false))) .nil) .nil) .nil)) (.cons (.set 9 (.call 28 (.cons (.var 4) (.cons (.var 7) .nil)))) (.cons (.ite (.and (.notN (.attr (.var 9) 22)) (.cmp .gt (.attr (.var 9) 22) (.meth (.var 4) 54 (.cons (.var 6) .nil)))) (.cons (.ret (.lit (.bl false))) .nil) .nil) (.cons (.ite (.or (.cmp .gt (.attr (.var 9) 0) (.attr (.var 6) 0)) (.and (.meth (.var 4) 37 (.cons (.var 6) .nil)) (.notT (.attr (.var 9) 23)))) (.cons (.ret (.lit (.bl false))) .nil) .nil) .nil))))))))))
    (fun i S h' => (∃ a2 a3 a4 a5 a6 a7 a8 a9 : Option AV, S = [some (.d (.scr ns)), some (.ref 0), a2, a3, a4, a5, a6, a7, a8, a9]) ∧ StH ns [] h') (rangeD 4) 0 [some (.d (.scr ns)), some (.ref 0), none, none, none, none, none, none, none, none] [stO ns 0 0]
    ⟨⟨none, none, none, none, none, none, none, none, rfl⟩, 0, 0, rfl⟩ (fun j x S h1 hx ⟨⟨a2, a3, a4, a5, a6, a7, a8, a9, es⟩, s1⟩ => by
      subst es
      obtain ⟨Q, r, fs, b3, b5, h2, ok, g, fl, hd, s2, e2⟩ := lawDraw s1 (some (.d x)) a3 a4 a5 a6 a7 a8 a9
      obtain ⟨b8, b9, e3⟩ := lawAsk (ns := ns) (h := h2) ok g fl hd (some (.d (.scr ns))) (some (.ref 0)) (some (.d x)) b3 b5 a8 a9
      refine ⟨_, h2, ?_, ⟨some (.d x), b3, some (.d (qnD Q)), b5, some (.d (recD r)), some (.d (.lst (fs.map fD))), b8, b9, rfl⟩, s2⟩
      show exs prog (callF prog 39) _ [some (.d (.scr ns)), some (.ref 0), some (.d x), a3, a4, a5, a6, a7, a8, a9] h1 = _
      rw [e2, e3])
  refine ⟨h'.take 0, ?_⟩
  have r4 : rngD (.int 4) = some (rangeD 4) := rfl
  simp only [stO] at e
  rw [un (d := 51) (k := 39) rfl]
  simp at e
  simp [b_law, scr_list, r4, e]
theorem plain_all : ∀ ns : List Int, ns.length ≤ 63 → ∃ h', callF prog 40 51 [.d (.scr ns)] [] = some (.bl true, h') := fun ns _ => law_ev ns
end K24
theorem PySem.Challenge.cw_surenear_k24_whole_bounds_are_safe_holds : PySem.Challenge.rw_surenear_k24_whole_bounds_are_safe.Holds := by
  exact K24.holds (n := 40) (by decide) K24.plain_all
